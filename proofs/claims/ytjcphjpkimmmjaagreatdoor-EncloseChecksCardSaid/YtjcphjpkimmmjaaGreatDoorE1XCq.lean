/- Steps of the proof of the theorem in the last file. -/
import Derived.Test.YtjcphjpkimmmjaaGreatDoorE0XCq
set_option linter.all false
set_option maxHeartbeats 4000000
open Go.Proofs.Tryz
open Go.Value renaming bool → aa,int → ai,okWide → bZ
open List renaming cons_append → ab,nil_append → ae,length_map → ag,all_eq_true → ao,perm_append_comm → ar,length_range → ay,length_cons → aB,mem_map_of_mem → aC,range → aD,length_append → aE,getElem?_toArray → aG,length_take → aH,foldl_append → aI,Sublist → aJ,take_succ_cons → aK,drop_succ_cons → aL,take_zero → aM,take_of_length_le → aN,range_succ → aU,drop_zero → aY,append_assoc → aZ,map_append → bj,length_set → bm,mem_cons_of_mem → bp,flatMap_cons → bA,take_length → bC,mem_append_right → bH,mem_append_left → bI,getElem_of_mem → bL,not_mem_nil → bP,getElem_mem → bQ,getElem_map → bR,foldl_cons → bS,mem_cons → bX,map_take → bY,map_map → ee
open Bool renaming eq_iff_iff → af,or_eq_false_iff → au,and_eq_true → ax,not_not → aA,not_eq_false' → aF,not_eq_true' → aO,and_eq_false_iff → aR,and_false → bw,false_and → bV
open Nat renaming le_refl → ah,mul_le_mul_right → aj,le_trans → ak,zero_le → aq,zero_add → aP,dvd_trans → aT,mul_le_mul_left → aV,lt_or_ge → aW,dvd_mul_left → bc,lt_of_lt_of_le → bz,dvd_mul_right → bB,add_comm → bG,mul_pos → bJ,add_mul → bK,add_le_add_left → bM,not_lt_zero → bT,mul_le_mul → bW,zero_mul → ei
open List.Sublist renaming refl → av,cons → ew
open Go.DataW renaming trod → aQ,Trod → er
open And renaming intro → aS
open List.cons renaming inj → aX
open Int renaming toNat_natCast → ba,natAbs_natCast → bN,natCast_mul → bU
open Rat renaming le_trans → bh,pow_zero → bF,le_refl → eu
open Go.Lib renaming decDigits → bD
open Go.Instr renaming buildSlice → bO,fill → ep
namespace Go.Proofs.YtjcphjpkimmmjaaGreatDoor
variable{w:World}{F F':Gs}{s:List UInt8}{a:Rat×Rat}{B D S T Z b c i k m n:Nat}{l:List (List UInt8×List UInt8)}{y:Xz}{tb:List Wl}{fr t2:Rat}{bs on va vb x:List XP}{o:Int}{cs:List Value}{ps:List V0}{ra rb ro rx:Sr}{ls:List Sr}
open Go.RowKit Ig
theorem QEo(A:Fits F w)(B:s.length<=9223372036854775807):Qf prog 116 [tx s] w F (.bool (cN s)):=by
 refine QU.intro (G:=λF=>True) func116 rfl tH rfl rfl A tL<|wa<|wZ rfl<|QG<|wa<|wZ rfl<|QV<|J9 (ι:=Wo s λc=>EK c.toNat) [(0,_)] (λi=>[(3,.int .i64 ((i.i:Nat):Int))]) (λi=>s.length-i.i) (Wo.start _ _) wk wk λi=>?_
 simp only[ab,ae];have z:=i.le;refine wA 5 I<|QA (Xc I Zm)<|wD 3 I ?_
 refine QQ I (λhc=>?_) λhc=>?_
 ·have hi:i.i<s.length:=tD<|wi hc
  refine wC 8 I<|QA (Hh (i:=i.i) rfl rfl Zm hi) ?_
  obtain⟨c,a⟩:∃c,c=s[i.i].toNat:=⟨_,rfl⟩;rw[<-a];refine wD 3 I ?_;refine ZZ [(0,_),(3,_)] [(48,.bool ((!EK c)))] wm ?_ ?_
  ·refine wA 4 I ?_;refine Qn (t:=16) rfl (λx=>?_) λx=>?_
   ·refine wB 6 I ?_;refine Qn (t:=20) rfl (λu=>?_) λu=>?_
    ·refine wB 3 I<|Jn I I<|Jn I I<|wB 6 I<|Jn I I<|Jn I I<|wB 12 I ?_
     refine wB 2 I<|QA (XL I)<|QE ?_
     exact JY ⟨rfl,rfl,(congrArg (λb=>some (aa b)) (by clear a;rw[af];simp_all [EK,Yp]<;>omega)),trivial⟩ we tM
    refine wB 6 I ?_;refine Qn (t:=23) rfl (λl=>?_) λl=>?_
    ·refine wB 8 I ?_;refine Qn (t:=28) rfl (λk=>?_) λk=>?_
     ·refine wB 3 I<|Jn I I<|Jn I I<|wB 14 I<|QA (XL I)<|QE ?_
      exact JY ⟨rfl,rfl,(congrArg (λb=>some (aa b)) (by clear a;rw[af];simp_all [EK,Yp]<;>omega)),trivial⟩ we tM
     refine wB 6 I ?_;refine Qn (t:=31) rfl (λj=>?_) λj=>?_
     ·refine wB 8 I ?_;refine Qn (t:=36) rfl (λh=>?_) λh=>?_
      ·refine wB 11 I<|QA (XL I)<|QE ?_
       exact JY ⟨rfl,rfl,(congrArg (λb=>some (aa b)) (by clear a;rw[af];simp_all [EK,Yp]<;>omega)),trivial⟩ we tM
      refine wB 6 I ?_;refine Qn (t:=40) rfl (λg=>?_) λg=>?_
      ·refine wB 7 I<|QA (XL I)<|QE ?_
       exact JY ⟨rfl,rfl,(congrArg (λb=>some (aa b)) (by clear a;rw[af];simp_all [EK,Yp]<;>omega)),trivial⟩ we tM
      refine wB 6 I ?_;refine Qn (t:=44) rfl (λf=>?_) λf=>?_
      ·refine wB 3 I<|QA (XL I)<|QE ?_
       exact JY ⟨rfl,rfl,(congrArg (λb=>some (aa b)) (by clear a;rw[af];simp_all [EK,Yp]<;>omega)),trivial⟩ we tM
      refine wB 5 I<|QA (XL I)<|QE ?_
      exact JY ⟨rfl,rfl,(congrArg (λb=>some (aa b)) (by clear a;rw[af];simp_all [EK,Yp]<;>omega)),trivial⟩ we tM
     refine wB 12 I ?_;refine Qn (t:=40) rfl (λg=>?_) λg=>?_
     ·refine wB 7 I<|QA (XL I)<|QE ?_
      exact JY ⟨rfl,rfl,(congrArg (λb=>some (aa b)) (by clear a;rw[af];simp_all [EK,Yp]<;>omega)),trivial⟩ we tM
     refine wB 6 I ?_;refine Qn (t:=44) rfl (λf=>?_) λf=>?_
     ·refine wB 3 I<|QA (XL I)<|QE ?_
      exact JY ⟨rfl,rfl,(congrArg (λb=>some (aa b)) (by clear a;rw[af];simp_all [EK,Yp]<;>omega)),trivial⟩ we tM
     refine wB 5 I<|QA (XL I)<|QE ?_
     exact JY ⟨rfl,rfl,(congrArg (λb=>some (aa b)) (by clear a;rw[af];simp_all [EK,Yp]<;>omega)),trivial⟩ we tM
    refine wB 12 I ?_;refine Qn (t:=31) rfl (λj=>?_) λj=>?_
    ·refine wB 8 I ?_;refine Qn (t:=36) rfl (λh=>?_) λh=>?_
     ·refine wB 11 I<|QA (XL I)<|QE ?_
      exact JY ⟨rfl,rfl,(congrArg (λb=>some (aa b)) (by clear a;rw[af];simp_all [EK,Yp]<;>omega)),trivial⟩ we tM
     refine wB 6 I ?_;refine Qn (t:=40) rfl (λg=>?_) λg=>?_
     ·refine wB 7 I<|QA (XL I)<|QE ?_
      exact JY ⟨rfl,rfl,(congrArg (λb=>some (aa b)) (by clear a;rw[af];simp_all [EK,Yp]<;>omega)),trivial⟩ we tM
     refine wB 6 I ?_;refine Qn (t:=44) rfl (λf=>?_) λf=>?_
     ·refine wB 3 I<|QA (XL I)<|QE ?_
      exact JY ⟨rfl,rfl,(congrArg (λb=>some (aa b)) (by clear a;rw[af];simp_all [EK,Yp]<;>omega)),trivial⟩ we tM
     refine wB 5 I<|QA (XL I)<|QE ?_
     exact JY ⟨rfl,rfl,(congrArg (λb=>some (aa b)) (by clear a;rw[af];simp_all [EK,Yp]<;>omega)),trivial⟩ we tM
    refine wB 12 I ?_;refine Qn (t:=40) rfl (λg=>?_) λg=>?_
    ·refine wB 7 I<|QA (XL I)<|QE ?_
     exact JY ⟨rfl,rfl,(congrArg (λb=>some (aa b)) (by clear a;rw[af];simp_all [EK,Yp]<;>omega)),trivial⟩ we tM
    refine wB 6 I ?_;refine Qn (t:=44) rfl (λf=>?_) λf=>?_
    ·refine wB 3 I<|QA (XL I)<|QE ?_
     exact JY ⟨rfl,rfl,(congrArg (λb=>some (aa b)) (by clear a;rw[af];simp_all [EK,Yp]<;>omega)),trivial⟩ we tM
    refine wB 5 I<|QA (XL I)<|QE ?_
    exact JY ⟨rfl,rfl,(congrArg (λb=>some (aa b)) (by clear a;rw[af];simp_all [EK,Yp]<;>omega)),trivial⟩ we tM
   refine wB 10 I ?_;refine Qn (t:=23) rfl (λl=>?_) λl=>?_
   ·refine wB 8 I ?_;refine Qn (t:=28) rfl (λk=>?_) λk=>?_
    ·refine wB 3 I<|Jn I I<|Jn I I<|wB 14 I<|QA (XL I)<|QE ?_
     exact JY ⟨rfl,rfl,(congrArg (λb=>some (aa b)) (by clear a;rw[af];simp_all [EK,Yp]<;>omega)),trivial⟩ we tM
    refine wB 6 I ?_;refine Qn (t:=31) rfl (λj=>?_) λj=>?_
    ·refine wB 8 I ?_;refine Qn (t:=36) rfl (λh=>?_) λh=>?_
     ·refine wB 11 I<|QA (XL I)<|QE ?_
      exact JY ⟨rfl,rfl,(congrArg (λb=>some (aa b)) (by clear a;rw[af];simp_all [EK,Yp]<;>omega)),trivial⟩ we tM
     refine wB 6 I ?_;refine Qn (t:=40) rfl (λg=>?_) λg=>?_
     ·refine wB 7 I<|QA (XL I)<|QE ?_
      exact JY ⟨rfl,rfl,(congrArg (λb=>some (aa b)) (by clear a;rw[af];simp_all [EK,Yp]<;>omega)),trivial⟩ we tM
     refine wB 6 I ?_;refine Qn (t:=44) rfl (λf=>?_) λf=>?_
     ·refine wB 3 I<|QA (XL I)<|QE ?_
      exact JY ⟨rfl,rfl,(congrArg (λb=>some (aa b)) (by clear a;rw[af];simp_all [EK,Yp]<;>omega)),trivial⟩ we tM
     refine wB 5 I<|QA (XL I)<|QE ?_
     exact JY ⟨rfl,rfl,(congrArg (λb=>some (aa b)) (by clear a;rw[af];simp_all [EK,Yp]<;>omega)),trivial⟩ we tM
    refine wB 12 I ?_;refine Qn (t:=40) rfl (λg=>?_) λg=>?_
    ·refine wB 7 I<|QA (XL I)<|QE ?_
     exact JY ⟨rfl,rfl,(congrArg (λb=>some (aa b)) (by clear a;rw[af];simp_all [EK,Yp]<;>omega)),trivial⟩ we tM
    refine wB 6 I ?_;refine Qn (t:=44) rfl (λf=>?_) λf=>?_
    ·refine wB 3 I<|QA (XL I)<|QE ?_
     exact JY ⟨rfl,rfl,(congrArg (λb=>some (aa b)) (by clear a;rw[af];simp_all [EK,Yp]<;>omega)),trivial⟩ we tM
    refine wB 5 I<|QA (XL I)<|QE ?_
    exact JY ⟨rfl,rfl,(congrArg (λb=>some (aa b)) (by clear a;rw[af];simp_all [EK,Yp]<;>omega)),trivial⟩ we tM
   refine wB 12 I ?_;refine Qn (t:=31) rfl (λj=>?_) λj=>?_
   ·refine wB 8 I ?_;refine Qn (t:=36) rfl (λh=>?_) λh=>?_
    ·refine wB 11 I<|QA (XL I)<|QE ?_
     exact JY ⟨rfl,rfl,(congrArg (λb=>some (aa b)) (by clear a;rw[af];simp_all [EK,Yp]<;>omega)),trivial⟩ we tM
    refine wB 6 I ?_;refine Qn (t:=40) rfl (λg=>?_) λg=>?_
    ·refine wB 7 I<|QA (XL I)<|QE ?_
     exact JY ⟨rfl,rfl,(congrArg (λb=>some (aa b)) (by clear a;rw[af];simp_all [EK,Yp]<;>omega)),trivial⟩ we tM
    refine wB 6 I ?_;refine Qn (t:=44) rfl (λf=>?_) λf=>?_
    ·refine wB 3 I<|QA (XL I)<|QE ?_
     exact JY ⟨rfl,rfl,(congrArg (λb=>some (aa b)) (by clear a;rw[af];simp_all [EK,Yp]<;>omega)),trivial⟩ we tM
    refine wB 5 I<|QA (XL I)<|QE ?_
    exact JY ⟨rfl,rfl,(congrArg (λb=>some (aa b)) (by clear a;rw[af];simp_all [EK,Yp]<;>omega)),trivial⟩ we tM
   refine wB 12 I ?_;refine Qn (t:=40) rfl (λg=>?_) λg=>?_
   ·refine wB 7 I<|QA (XL I)<|QE ?_
    exact JY ⟨rfl,rfl,(congrArg (λb=>some (aa b)) (by clear a;rw[af];simp_all [EK,Yp]<;>omega)),trivial⟩ we tM
   refine wB 6 I ?_;refine Qn (t:=44) rfl (λf=>?_) λf=>?_
   ·refine wB 3 I<|QA (XL I)<|QE ?_
    exact JY ⟨rfl,rfl,(congrArg (λb=>some (aa b)) (by clear a;rw[af];simp_all [EK,Yp]<;>omega)),trivial⟩ we tM
   refine wB 5 I<|QA (XL I)<|QE ?_
   exact JY ⟨rfl,rfl,(congrArg (λb=>some (aa b)) (by clear a;rw[af];simp_all [EK,Yp]<;>omega)),trivial⟩ we tM
  simp only[ab,ae];refine QQ I (λhc=>?_) λhc=>?_
  ·have n:EK (el s i.i).toNat=false:=by rw[Jb hi,<-a];simpa using hc
   refine wA 6 I ?_
   repeat first|refine Q6 ?_|refine Qv ?_
   exact wg I I (congrArg aa (by unfold cN;rw[i.hit hi n];rfl)) tL
  have y:=hc;refine QN<|Qj<|wE 3 I<|QA (Qu I I O)<|wB 2 I ?_
  exact Ql (i.next hi (by rw[Jb hi,<-a];simpa using y)) (by show s.length-(i.i+1)<s.length-i.i;omega) wm we tM
 have m:s.length<=i.i:=tD<|wj hc
 refine Qx ?_
 repeat first|refine QY ?_|refine QO tH ?_
 refine QZ<|wE 4 I<|QA (Xc I Zm)<|wB 2 I ?_
 refine Qn (t:=52) rfl (λo=>?_) λo=>?_
 ·refine wB 3 I<|QA (Xc I Zm)<|wD 7 I ?_
  exact wg I I (congrArg aa (by unfold cN;rw[i.stop m];rw[af];simp at *;simp_all<;>omega)) tL
 refine wD 8 I ?_;exact wg I I (congrArg aa (by unfold cN;rw[i.stop m];rw[af];simp at *;simp_all<;>omega)) tL
def vH(u:Nat){k:Nat}(hk:0<k)(h:(bD u).length<=k):sz (u:Int)<=4*k:=by
 rw[Lib.decDigits_length]at h;rw[XD,bN];have h1:¬10^k<=u:=λe=>tD ((RP (u:=u) hk).2 e);have h2:10^k<=16^k:=Nat.pow_le_pow_left tF _;have h3:(16:Nat)^k=2^(4*k):=by rw[Nat.pow_mul]
 rw[<-h3];exact bz (Nat.lt_of_not_le h1) h2
def QCf(z:Int){k:Nat}(hk:0<k)(h:(Ze z).length<=k):sz z<=4*k:=by
 have e:sz z=sz (z.natAbs:Int):=by unfold sz;simp
 rw[e];refine vH _ hk ?_;rcases Int.lt_or_le z 0 with g | g
 ·rw[Yo g,aB]at h;omega
 rwa [XJ g]at h
def QF9(x:Rat){k:Nat}(hk:0<k)(h:(JP x).length<=k):JW x<=4*k:=by
 unfold JW;unfold JP at h;split at h
 ·rename_i hd;rw[hd];exact Nat.max_le.2 ⟨QCf _ hk h,ak (show sz ((1:Nat):Int)<=1 by decide) O⟩
 rw[aE,aB]at h;exact Nat.max_le.2 ⟨QCf _ hk O,vH _ hk O⟩
def OU(h:Jp s=0){k:Nat}(hk:0<k)(a:s.length<=k):JW (Qz s)<=4*k :=
 QF9 _ hk (by rw[<-(XM h).1];exact a)
theorem QCr{a:List UInt8}{d:Int}(j:Fits F w)(hd:0<=d/\d<=1000):Qf prog 57 [tx a,.int .i64 d] w F (.bool (Uz a d)):=by
 have hn:=vX a;refine QU.intro (G:=λF=>True) func57 rfl tH rfl rfl j tL<|wa<|wZ rfl<|wb rfl<|QA (Xc rfl Bw)<|wW rfl<|QA (Mx rfl rfl O)<|QA (Qu rfl rfl O)<|QA (QT rfl rfl rfl)<|wW rfl ?_
 refine Qn (t:=11) rfl (λc=>?_) λc=>?_
 ·have i:a.length<=1000000:=by have h1:=wi c;omega
  refine wB 3 I<|QI I (λ_ _ f k=>Ou f (i)) λ_=>wB 4 I ?_
  refine Qn (t:=16) rfl (λb=>?_) λb=>?_
  ·refine wB 3 I<|QI I (λ_ _ f k=>QA6 f O) λ_=>QL I I<|QI I (λ_ _ f k=>gi f ) λ_=>QL I I<|QA (Xc I Bw)<|wB 6 I ?_
   refine Qn (t:=24) rfl (λh=>?_) λh=>?_
   ·refine wB 3 I<|QI I (λ_ _ f k=>QA9 f O) λ_=>QL I I<|QA (Xc I Bw)<|wD 9 I ?_
    exact wg I I ((congrArg aa (by have h1:=wi c;simp[Uz,h1];simp at b h;simp[b,h]))) tL
   refine wD 10 I ?_;exact wg I I ((congrArg aa (by have h1:=wi c;simp[Uz,h1];simp at b h;simp[b];intro g;omega))) tL
  refine wD 18 I ?_;exact wg I I ((congrArg aa (by have h1:=wi c;simp at b;simp[Uz,h1,b]))) tL
 refine wD 23 I ?_;exact wg I I ((congrArg aa (by simp[Uz,c]))) tL
theorem gU{q:Option Addr}{n:Nat}{m d:Int}(y:Fits F w)(x:Qy F q n 2 (l.flatMap NU))(s:l.length=n)(hd:0<=d/\d<=1000)(hn:n<=1000000):Qf prog 56 [.slice q n c,.int .i64 m,.int .i64 d] w F (.bool (decide ((n:Int)<=m)&&l.all (cx d))):=by
 have o:=s;refine QU.intro (G:=λF=>Qy F q n 2 (l.flatMap NU)) func56 rfl tH rfl rfl y (λF' j=>x.le j)<|wa<|wZ rfl<|QG<|wb rfl<|QA (Qg rfl XF)<|wW rfl<|QA (QT rfl rfl rfl)<|QE<|QC ?_
 refine QQ I (λhc=>?_) λhc=>?_
 ·have u:=wi hc;refine wA 6 I ?_;exact wg I I (congrArg aa (by have h1:decide ((n:Int)<=m)=false:=decide_eq_false O;rw[h1];rfl)) tL
 have u:=wj hc;refine wC 9 I<|J9 (ι:=Wo l (cx d)) [(0,_),(2,_)] (λi=>[(7,.int .i64 ((i.i:Nat):Int))]) (λi=>l.length-i.i) (Wo.start _ _) wm wk λi=>?_
 simp only[ab,ae];refine wA 5 I<|QA (Qg I XF)<|wD 3 I ?_
 refine QQ I (λhc=>?_) λhc=>?_
 ·have hi:i.i<l.length:=tD<|wi hc
  refine wC 4 I ?_;refine ZZ [(0,_),(2,_),(7,_)] [(49,.bool (!cx d (el l i.i)))] wu ?_ ?_
  ·refine JG we mixed tE<|QK (QD I)<|QK (QD I)<|QK (Q3 (n:=n) i.i tM rfl rfl XF Jd O)<|QK (QH I V6 JF)<|QK (JA (n:=n) ((i.i)*2+0) tM O rfl JF (JN (f:=NU) (l:=l) K1 O rfl))<|QK (QD I)<|QR I (λ_ _ f k=>QCr f hd) λ_=>QK (XL I)<|QK (QD I) ?_
   refine Gg (t:=26) rfl (λa=>?_) λa=>?_
   ·refine Jj I I I<|Jj I I I<|Jj I I I<|Jj I I I<|Jj I I I<|Jj I I I<|Jj I I I<|Jj I I I<|QK (Qh I I I)<|QK (QD I)<|Jj I I I<|Jj I I I<|Jj I I I<|Jj I I I<|Jj I I I<|Jj I I I<|Jj I I I<|Jj I I I<|Jj I I I<|Jj I I I<|Jj I I I<|Jj I I I<|QK (Qh I I I)<|Q7 ?_
    exact JY ⟨rfl,rfl,rfl,(congrArg (λb=>some (aa b)) (by simp at a;simp[cx,a])),trivial⟩ we tN
   refine XA I I<|QK (QD I)<|XA I I<|QK (QD I)<|XA I I<|QK (Q3 (n:=n) i.i tM rfl rfl XF Jd O)<|XA I I<|QK (QH I We JF)<|XA I I<|QK (JA (n:=n) ((i.i)*2+1) tM O rfl JF (JN (f:=NU) (l:=l) K1 O rfl))<|XA I I<|QK (QD I)<|XA I I<|QR I (λ_ _ f k=>QCr f hd) λ_=>XA I I<|QK (XL I)<|QK (Qd I I I)<|QK (QD I) ?_
   refine Gg (t:=36) rfl (λg=>?_) λg=>?_
   ·refine Jj I I I<|Jj I I I<|Jj I I I<|Jj I I I<|Jj I I I<|Jj I I I<|Jj I I I<|Jj I I I<|Jj I I I<|Jj I I I<|Jj I I I<|Jj I I I<|QK (Qh I I I)<|Q7 ?_
    exact JY ⟨rfl,rfl,rfl,(congrArg (λb=>some (aa b)) (by simp at a g;simp[cx,a,g])),trivial⟩ we λ_ h=>h.1.1
   refine XA I I<|QK (QD I)<|XA I I<|QK (QD I)<|XA I I<|QK (Q3 (n:=n) i.i tM rfl rfl XF Jd O)<|XA I I<|QK (QH I V6 JF)<|XA I I<|QK (JA (n:=n) ((i.i)*2+0) tM O rfl JF (JN (f:=NU) (l:=l) K1 O rfl))<|XA I I<|QK (QD I)<|XA I I<|QK (QD I)<|XA I I<|QK (Q3 (n:=n) i.i tM rfl rfl XF Jd O)<|XA I I<|QK (QH I We JF)<|XA I I<|QK (JA (n:=n) ((i.i)*2+1) tM O rfl JF (JN (f:=NU) (l:=l) K1 O rfl))<|XA I I<|QR I (λ_ _ f k=>QCs f (QDC (by simpa using a)) (QDC (by simpa using g))) λ_=>XA I I<|QK (QT I I I)<|QK (Qd I I I) ?_
   refine Q7 ?_;exact JY ⟨rfl,rfl,rfl,(congrArg (λb=>some (aa b)) (by simp at a g;simp[cx,a,g])),trivial⟩ we λ_ h=>h.1.1.1
  simp only[ab,ae];refine QQ I (λhc=>?_) λhc=>?_
  ·refine wA 6 I ?_
   repeat first|refine Q6 ?_|refine Qv ?_
   exact wg I I (congrArg aa (by rw[i.hit hi (by simpa using hc),bw])) tL
  refine QN<|Qj<|wE 3 I<|QA (Qu I I O)<|wB 2 I ?_
  exact Ql (i.next hi (by simpa using hc)) (by show l.length-(i.i+1)<l.length-i.i;omega) wu we tM
 have hi:l.length<=i.i:=tD<|wj hc
 refine Qx ?_
 repeat first|refine QY ?_|refine QO tH ?_
 refine QZ<|wE 7 I ?_
 exact wg I I (congrArg aa (by rw[i.stop hi];have h1:decide ((n:Int)<=m)=true:=decide_eq_true O;rw[h1];rfl)) tL
def QCD(x:Int):Qs [x]=x:=by
 unfold Qs;split
 ·rename_i h;rw[h];rfl
 rfl
theorem Xg0{r:Sr}(g:Fits F w)(c:JE F)(hy:X4 F y)(ht:GJ y)(hx:IF F r tb)(hc:QCR r tb):Qf prog 159 [y.v,r.v] w F (.int .i64 (Qs [y.e,Dz y.nm.n tb])):=by
 refine QU.intro (G:=λF=>JE F/\X4 F y/\IF F r tb) func159 rfl tH rfl rfl g (λF' b=>⟨c.le b,hy.le b,hx.le b⟩)<|wa<|Qp rfl (vs:=[_,_,_]) rfl λb2=>wZ rfl<|QG<|wa<|QA (wO I J6 .here)<|QI rfl (λ_ _ f k=>Zs (y:=y) f k.1 k.2.1 ht) λ_=>wZ rfl<|wb rfl<|QA (QT rfl rfl rfl)<|QE<|QC ?_
 refine QQ I (λa=>?_) λa=>?_
 ·have h9:y.e≠0:=bne_iff_ne.1 a;refine wA 7 I ?_;exact wg I I (congrArg (ai .i64) (by rw[Zf h9])) tL
 have h9:y.e=0:=bne_eq_false_iff_eq.1 a;refine wC 4 I<|QA (wO I J6 .here)<|wW I<|QI I (λ_ _ f k=>F3 (y:=y) f k.1.1 k.1.2.1 k.1.2.2 hc) λ_=>wD 4 I ?_
 exact wg I I (congrArg (ai .i64) (by rw[h9,Zn,QCD])) tL
theorem Xer{rs:List (List Tm)}{y:List XP}(h:NT x y)(ht:fr<=t2)(a:∀i,i<on.length->(el on i).1<=(el on i).2)(hr:∀i,i<x.length->∀t∈el rs i,t.2.length<=on.length+1/\∀k∈t.2,0<=k):
  NT (YP rs fr t2 x on) (YP rs fr t2 y on):=by
 unfold YP;rw[<-h.1];refine NT.of λi hi=>uG (h.2 i hi) (Se (Yd.self (by show(0:Rat)<=t2-fr;grind)) ?_);exact TO (rs:=(fr,t2)::on) (bs:=(fr,t2)::on) (by simpa using hr i hi) λj b=>by
  cases j with
  |zero=>exact Yd.self ht
  |succ j=>exact Yd.self (a j (by simpa using b))
def AZ(s:List UInt8×List UInt8):Bool:=!(decide ((s.1.length:Int)>40)||decide ((s.2.length:Int)>40))
def Ts(l:List (List UInt8×List UInt8)):Bool:=l.all AZ&&decide (l.length<=30)
def AY(h:Ts l=true):l.length<=30/\∀s∈l,s.1.length<=40/\s.2.length<=40:=by
 unfold Ts at h;rw[ax,ao,decide_eq_true_eq]at h;refine⟨h.2,λs a=>?_⟩;have:=h.1 s a;unfold AZ at this;simp at this;omega
theorem gW{n:Nat}{r:Sr}(g:Fits F w)(hx:Ks F r l)(hc:BS r l):Qf prog 31 [.int .i64 (n:Int),r.v] w F (.int .i64 (YZ n l)):=by
 have c:=hx.len;have hn:=hc.n;refine QU.intro (G:=λF=>Ks F r l) func31 rfl tH rfl rfl g (λF' b=>hx.le b)<|wa<|wZ rfl<|QG<|wb rfl<|QA (Qg rfl XF)<|wW rfl<|QA (QT rfl rfl rfl)<|QE<|QC ?_
 refine QQ I (λa=>?_) λa=>?_
 ·have h8:=bne_iff_ne.1 a;refine wA 6 I ?_;exact wg I I (congrArg (ai .i64) (by unfold YZ;rw[if_pos O])) tL
 have h8:=bne_eq_false_iff_eq.1 a;refine wC 5 I<|QI I (λ_ _ f k=>jG f k.row ⟨c,hc.t⟩ hn) λ_=>wD 4 I ?_
 exact wg I I (congrArg (ai .i64) (by unfold YZ;rw[if_neg O])) tL
theorem Xa8(f:Fits F w):Qf prog 32 [.int .i64 o] w F (.int .i64 (BD o)):=by
 refine QU.intro (G:=λF=>True) func32 rfl tH rfl rfl f tL<|wa<|wZ rfl<|QG ?_
 refine ZZ [] [(8,.bool ((decide (o<1)||decide (o>16))))] trivial ?_ ?_
 ·refine wA 4 I ?_;refine Qn (t:=5) rfl (λc=>?_) λc=>?_
  ·refine wB 4 I ?_;exact JY ⟨(congrArg (λb=>some (aa b)) (by rw[c];rfl)),trivial⟩ we tM
  refine wB 6 I ?_;exact JY ⟨(congrArg (λb=>some (aa b)) (by rw[c];rfl)),trivial⟩ we tM
 simp only[ab,ae];refine QQ I (λa=>?_) λa=>?_
 ·have h8:=a;refine wA 6 I ?_;exact wg I I (congrArg (ai .i64) (by unfold BD;rw[if_pos h8])) tL
 have h8:=a;refine wC 8 I ?_;exact wg I I (congrArg (ai .i64) (by unfold BD;rw[if_neg (by rw[h8];decide)])) tL
theorem um{r:Sr}(s:Fits F w)(hx:Ks F r l)(hn:r.n<=9223372036854775807):Qf prog 24 [r.v] w F (.bool (Ts l)):=by
 have m:=hx.len;refine QU.intro (G:=λF=>Ks F r l) func24 rfl tH rfl rfl s (λF' k=>hx.le k)<|wa<|wZ rfl<|QG<|wa<|wZ rfl<|QV<|J9 (ι:=Wo l AZ) [(0,_)] (λi=>[(3,.int .i64 ((i.i:Nat):Int))]) (λi=>l.length-i.i) (Wo.start _ _) wk wk λi=>?_
 simp only[ab,ae];have hi:=i.le;refine wA 5 I<|QA (Qg I XF)<|wD 3 I ?_
 refine QQ I (λa=>?_) λa=>?_
 ·have g:i.i<l.length:=tD<|wi a
  have o:=Qw g;refine wC 4 I ?_;refine ZZ [(0,_),(3,_)] [(25,.bool (!(AZ (el l i.i))))] wm ?_ ?_
  ·refine wA 3 I<|QA (Q3 (n:=r.n) i.i (λF hx=>hx.row) rfl rfl XF Jd O)<|QA (QH I V6 JF)<|QA (JA (n:=r.n) ((i.i)*2+0) (λF hx=>hx.row) O rfl JF (JN (f:=NU) (l:=l) K1 O rfl))<|QA (Xc I Bw)<|wB 2 I ?_
   refine Qn (t:=17) rfl (λc=>?_) λc=>?_
   ·refine wB 9 I ?_;exact JY ⟨rfl,rfl,(congrArg (λb=>some (aa b)) (by unfold AZ;rw[aA,c];rfl)),trivial⟩ we tM
   refine wB 5 I<|QA (Q3 (n:=r.n) i.i (λF hx=>hx.row) rfl rfl XF Jd O)<|QL I I<|QA (QH I We JF)<|QL I I<|QA (JA (n:=r.n) ((i.i)*2+1) (λF hx=>hx.row) O rfl JF (JN (f:=NU) (l:=l) K1 O rfl))<|QL I I<|QA (Xc I Bw)<|wB 4 I ?_
   exact JY ⟨rfl,rfl,(congrArg (λb=>some (aa b)) (by unfold AZ;rw[aA,c];rfl)),trivial⟩ we tM
  simp only[ab,ae];refine QQ I (λa=>?_) λa=>?_
  ·have h:AZ (el l i.i)=false:=by simpa using a
   refine wA 6 I ?_
   repeat first|refine Q6 ?_|refine Qv ?_
   exact wg I I (congrArg aa (by unfold Ts;rw[i.hit g h];rfl)) tL
  have h:AZ (el l i.i)=true:=by simpa using a
  refine QN<|Qj<|wE 3 I<|QA (Qu I I O)<|wB 2 I ?_
  exact Ql (i.next g h) (by show l.length-(i.i+1)<l.length-i.i;omega) wm we tM
 have j:l.length<=i.i:=tD<|wj a
 refine Qx ?_
 repeat first|refine QY ?_|refine QO tH ?_
 refine QZ<|wE 4 I<|QA (Qg I XF)<|wD 5 I ?_
 exact wg I I (congrArg aa (by unfold Ts;rw[i.stop j,Bool.true_and,m];exact decide_eq_decide.2 O)) tL
structure vG(y:Xz):Prop where
 nn:y.nm.n<=9223372036854775807
 nc:y.nm.n<=y.nm.cap
 nt:∀s∈y.nl,s.length<=9223372036854775807
 rn:y.rt.n<=9223372036854775807
 sn:y.st.n<=9223372036854775807
 rl:∀e∈y.rl,e.2.length=e.1.n/\e.1.n<=9223372036854775807/\∀t∈e.2,t.k.length=t.r.n
def shT(t:V0):Bool:=!(decide ((t.r.n:Int)>30)||decide ((t.f.length:Int)>30))
def shP(e:NQ):Bool:=!(decide ((e.1.n:Int)>70))&&e.2.all shT
def shN(y:Xz):Bool:=decide ((y.nm.n:Int)>30)||decide ((y.rt.n:Int)>30)||decide ((y.st.n:Int)>30)
def shS(y:Xz):Bool:=!(shN y)&&(y.rl.all shP&&y.sl.all AZ)
structure QId(y:Xz):Prop where
 n:y.nm.n<=30/\y.rt.n<=30/\y.st.n<=30
 r:∀e∈y.rl,e.1.n<=70/\∀t∈e.2,t.r.n<=30/\t.f.length<=30
 s:∀s∈y.sl,s.1.length<=40/\s.2.length<=40
def QHL{s:List UInt8×List UInt8}(h:AZ s=true):s.1.length<=40/\s.2.length<=40:=by
 unfold AZ at h;simp at h;omega
theorem QIJ(h:shS y=true):QId y:=by
 unfold shS at h;simp only[ax,ao]at h;obtain⟨h1,h2,h3⟩:=h;refine⟨?_,λe he=>?_,λs a=>QHL (h3 s a)⟩
 ·unfold shN at h1;simp at h1;omega
 have:=h2 e he;unfold shP at this;simp only[ax,ao]at this;refine⟨by have:=this.1;simp at this;omega,λt ht=>?_⟩;have h4:=this.2 t ht;unfold shT at h4;simp at h4;omega
theorem vG.t(h:vG y)(k:QId y):GJ y :=
 ⟨tD k.n,h.nc,h.nt,tD k.n,λe he=>⟨(h.rl e he).1,λt ht=>⟨tD<|(k.r e he).2 t ht,by rw[(h.rl e he).2.2 t ht];have:=(k.r e he).2 t ht;omega⟩,by rw[(h.rl e he).1];have:=(k.r e he).1;omega⟩,tD k.n,λs a=>tD<|k.s s a⟩
def vG.ts(h:vG y)(k:shS y=true):GJ y:=h.t (QIJ k)
def yX(y:Xz)(v g:Int):Bool:=!(!(shS y)||(y.e != 0)||decide ((y.rt.n:Int)>v)||(!(decide ((y.st.n:Int)<=v)&&y.sl.all (cx g))&&decide ((y.st.n:Int)>0)))
def pT(y:Xz)(v d g:Int):Bool:=yX y v g&&y.rl.all λe=>fpB (ZX e.2) (y.rt.n:Int) 4 d g
def QFQ{v g:Int}(h:yX y v g=true):shS y=true/\y.e=0/\(y.rt.n:Int)<=v/\(y.st.n=0\/((y.st.n:Int)<=v/\∀s∈y.sl,cx g s=true)):=by
 unfold yX at h;simp only[aO,au,aF,bne_eq_false_iff_eq,decide_eq_false_iff_not]at h;obtain⟨⟨⟨h1,h2⟩,h3⟩,h4⟩:=h;refine⟨by simpa using h1,h2,O,?_⟩;by_cases g:y.st.n=0
 ·exact .inl g
 right;have:decide ((y.st.n:Int)>0)=true:=decide_eq_true O;rw[this,Bool.and_true]at h4;simp only[aF,ax,decide_eq_true_eq,ao]at h4;exact h4
def gK{nl:List (List UInt8)}{a:List Pt}{sl:List (List UInt8×List UInt8)}(h1:nl.length≠0)(h2:¬nl.length>24)(h3:a.length=nl.length/\sl.length=nl.length):Bz nl a sl=Qs [DX nl,Qs (a.map λp=>Zh p nl.length),Qs (sl.map λs=>Xd s.1 s.2)]:=by
 unfold Bz;rw[if_neg h1,if_neg h2,if_neg O]
theorem QHP{q:Option Addr}{l:List (List UInt8)}{v:List UInt8}(x:Fits F w)(u:Qy F q n 1 (l.map tx))(hn:l.length=n)(hb:n<=1000000000):Qf prog 211 [.slice q n c,tx v] w F (.bool (decide (v∈l))):=by
 refine QU.intro (G:=λF=>Qy F q n 1 (l.map tx)) func211 rfl tH rfl rfl x (λF' o=>u.le o)<|wa<|wZ rfl<|QG<|wa<|wZ rfl<|QV<|J9 (ι:=NoI l v) [(0,_),(1,_)] (λi=>[(5,.int .i64 ((i.i:Nat):Int))]) (λi=>l.length-i.i) (⟨0,aq _,λj h=>absurd h (bT _)⟩) wm wk λi=>?_
 simp only[ab,ae];have hi:=i.le;refine wA 5 I<|QA (Qg I Kw)<|wD 3 I ?_
 refine QQ I (λa=>?_) λa=>?_
 ·have g:i.i<l.length:=tD<|wi a
  have m:=Qw g;refine wC 8 I<|QA (Q3 (n:=n) i.i tM rfl rfl Kw Du O)<|QA (JA (n:=n) ((i.i)*1) tM O rfl Du (XT (f:=tx) (l:=l) O))<|wW I<|QA (VE I I)<|QE<|QC ?_
  refine QQ I (λa=>?_) λa=>?_
  ·have b:el l i.i=v:=eq_of_beq a;refine wA 6 I ?_
   repeat first|refine Q6 ?_|refine Qv ?_
   exact wg I I (congrArg aa (decide_eq_true (by rw[<-b];exact m))) tL
  have b:¬el l i.i=v:=by simpa using a
  refine QN<|Qj<|wE 3 I<|QA (Qu I I O)<|wB 2 I ?_
  exact Ql (⟨i.i+1,g,λj s=>by rcases Nat.lt_succ_iff_lt_or_eq.1 s with h | rfl;exact i.h j h;exact b⟩) (by show l.length-(i.i+1)<l.length-i.i;omega) wu we tM
 have k:l.length<=i.i:=tD<|wj a
 refine Qx ?_
 repeat first|refine QY ?_|refine QO tH ?_
 refine QZ<|wE 7 I ?_
 exact wg I I (congrArg aa (decide_eq_false (i.stop k))) tL
theorem QHS{q:Option Addr}{l:List (List UInt8)}{v:List UInt8}(g:Fits F w)(b:Qy F q n 1 (l.map tx))(hn:l.length=n)(hb:n<=1000000000):Qf prog 117 [.slice q n c,tx v] w F (.bool (decide (v∈l))):=by
 refine QU.intro (G:=λF=>Qy F q n 1 (l.map tx)) func117 rfl tH rfl rfl g (λF' a=>b.le a)<|wa<|wZ rfl<|wb rfl<|wW rfl<|QI rfl (λ_ _ f k=>QHP f k hn hb) λ_=>wZ rfl<|QX ?_
 exact wg I I (rfl) tL
theorem QA3(hF:Fits F w)(Q:JE F)(hy:X4 F y)(ht:GJ y):Qf prog 26 [y.v] w F (.int .i64 y.e):=by
 obtain⟨⟨V,nn,cn⟩,nl,⟨U,K,cr⟩,c,⟨T,R,cs⟩,sl⟩:=y;have C:=hy.jL;have Y:=hy.Ka;have N:=hy.P0;have Z:=ht.nn;have X:=ht.rn;have M:=ht.sn;dsimp only at *
 dsimp only[Xz.v];refine QU.intro (G:=λF=>JE F/\X4 F ⟨⟨V,nn,cn⟩,nl,⟨U,K,cr⟩,c,⟨T,R,cs⟩,sl⟩) func26 rfl tH rfl rfl hF (λF' H=>⟨Q.le H,hy.le H⟩)<|wa<|Qp rfl (vs:=[_,_,_]) rfl λb1=>wZ rfl<|wa<|QA (QH rfl Hj VU)<|QA (Qe rfl VU .here .h1)<|QA (Qg rfl Kw)<|wZ rfl<|QG<|wb rfl<|QA (QT rfl rfl rfl)<|QE<|QC ?_
 refine QQ I (λa=>?_) λa=>?_
 ·have h11:nl.length=0:=by have:(nn:Int)=0:=eq_of_beq a;omega
  refine wA 6 I ?_;exact wg I I (congrArg (ai .i64) (by show Bz nl (c.map λe=>ZX e.2) sl=12;unfold Bz;rw[if_pos h11])) tL
 have h11:nl.length≠0:=by have:¬(nn:Int)=0:=(by simpa using a);omega
 refine wC 9 I ?_;refine QQ I (λa=>?_) λa=>?_
 ·have o:nl.length>24:=tD<|wi a
  refine wA 6 I ?_;exact wg I I (congrArg (ai .i64) (by show Bz nl (c.map λe=>ZX e.2) sl=5;unfold Bz;rw[if_neg h11,if_pos o])) tL
 have o:¬nl.length>24:=tD<|wj a
 refine wC 3 I ?_;refine ZZ [(1,_),(3,_)] [(25,.bool (((K:Int) != nn||(R:Int) != nn)))] wm ?_ ?_
 ·refine QB<|QA (QH I VY Z6)<|QA (Qe I Z6 .here (.skip .h1))<|QA (Qg I VJ)<|wB 3 I ?_
  refine Qn (t:=19) rfl (λz=>?_) λz=>?_
  ·refine wB 7 I ?_;exact JY ⟨rfl,rfl,(congrArg (λb=>some (aa b)) (by rw[z];rfl)),trivial⟩ we tM
  refine QL I I<|QA (QH I YM J0)<|QL I I<|QA (Qe I J0 .here (.skip (.skip .h1)))<|QL I I<|QA (Qg I XF)<|wB 6 I ?_
  exact JY ⟨rfl,rfl,(congrArg (λb=>some (aa b)) (by rw[z];rfl)),trivial⟩ we tM
 simp only[ab,ae];refine QQ I (λa=>?_) λa=>?_
 ·have m:(c.map λe=>ZX e.2).length≠nl.length\/sl.length≠nl.length:=by simp only[Bool.or_eq_true,bne_iff_ne]at a;rw[ag];omega
  refine wA 6 I ?_;exact wg I I (congrArg (ai .i64) (by show Bz nl (c.map λe=>ZX e.2) sl=2;unfold Bz;rw[if_neg h11,if_neg o,if_pos m])) tL
 have m:(c.map λe=>ZX e.2).length=nl.length/\sl.length=nl.length:=by simp only[au,bne_eq_false_iff_eq]at a;rw[ag];omega
 have S:c.length=nl.length:=by rw[<-m.1,ag]
 refine wC 9 I<|J9 (ι:=X7 (aD nl.length) (EL nl)) [(1,_),(3,_)] (λi=>[(4,.int .i64 ((i.i:Nat):Int))]) (λi=>nl.length-i.i) (X7.start _ _) wm wk λi=>?_
 simp only[ab,ae];have hi:=i.le;rw[ay]at hi;refine wA 8 I ?_;refine QQ I (λa=>?_) λa=>?_
 ·have g:i.i<nl.length:=tD<|wi a
  have j:=Qw g;refine wC 7 I<|QA (QH I Hj VU)<|QA (Qe I VU .here .h1)<|wW I<|QA (Q3 (n:=nn) i.i (λF h9=>h9.2.nm) rfl rfl Kw Du O)<|QA (JA (n:=nn) ((i.i)*1) (λF h9=>h9.2.nm) O rfl Du (XT (f:=tx) (l:=nl) O))<|QI I (λ_ _ f k=>QEo f (ht.nt _ j)) λ_=>QA (XL I)<|QE<|QC ?_
  refine QQ I (λa=>?_) λa=>?_
  ·have s:(!cN (el nl i.i))=true:=a;have u:EL nl i.i≠0:=by unfold EL;rw[if_pos s,Zf tF];decide
   refine wA 6 I ?_
   repeat first|refine Q6 ?_|refine Qv ?_
   exact wg I I (congrArg (ai .i64) (by show Bz nl (c.map λe=>ZX e.2) sl=8;rw[gK h11 o m];have h9:=i.hit (by rw[ay];exact g) (by rw[ZG g];exact u);rw[ZG g]at h9;rw[show DX nl=EL nl i.i from h9,Zf u];unfold EL;rw[if_pos s,Zf tF])) tL
  have s:(!cN (el nl i.i))=false:=a;refine wC 3 I<|JG we mixed tE<|QK (QH I Hj VU)<|QK (Qe I VU .here .h1)<|QK (QD I)<|QK (NV i.i I I I Kw Du (by have:=ht.nc;dsimp only at this;omega))<|QK (QH I Hj VU)<|QK (Qe I VU .here .h1)<|QK (QD I)<|QK (Q3 (n:=nn) i.i (λF h9=>h9.1.2.nm) rfl rfl Kw Du O)<|QK (JA (n:=nn) ((i.i)*1) (λF h9=>h9.1.2.nm) O rfl Du (XT (f:=tx) (l:=nl) O))<|QR I (λ_ _ f k=>QHS f (Qy.QCd (l:=nl) k.1.2.nm C hi) (by rw[aH];omega) O) λ_=>Q7<|QC ?_
  refine QQ I (λa=>?_) λa=>?_
  ·have B:decide (el nl i.i∈nl.take i.i)=true:=a;have u:EL nl i.i≠0:=by unfold EL;rw[if_neg (by rw[s];decide),if_pos B,Zn,Zf tF];decide
   refine wA 6 I ?_
   repeat first|refine Q6 ?_|refine Qv ?_
   exact wg I I (congrArg (ai .i64) (by show Bz nl (c.map λe=>ZX e.2) sl=9;rw[gK h11 o m];have h9:=i.hit (by rw[ay];exact g) (by rw[ZG g];exact u);rw[ZG g]at h9;rw[show DX nl=EL nl i.i from h9,Zf u];unfold EL;rw[if_neg (by rw[s];decide),if_pos B,Zn,Zf tF])) tL
  have B:decide (el nl i.i∈nl.take i.i)=false:=a;refine QN<|Qj<|wE 3 I<|QA (Qu I I O)<|wB 2 I ?_
  exact Ql (i.next (by rw[ay];exact g) (by rw[ZG g];unfold EL;rw[if_neg (by rw[s];decide),if_neg (by rw[B];decide)];rfl)) (by show nl.length-(i.i+1)<nl.length-i.i;omega) wu we λF h=>h.1.1
 have P:nl.length<=i.i:=tD<|wj a
 have D:DX nl=0:=i.stop (by rw[ay];exact P);refine Qx ?_
 repeat first|refine QY ?_|refine QO tH ?_
 refine QZ<|wE 8 I<|J9 (ι:=X7 c λe=>Zh (ZX e.2) (nn:Int)) [(1,_),(3,_)] (λi2=>[(5,.int .i64 ((i2.i:Nat):Int))]) (λi2=>c.length-i2.i) (X7.start _ _) wm wk λi2=>?_
 simp only[ab,ae];have hi2:=i2.le;refine wA 8 I ?_;refine QQ I (λa=>?_) λa=>?_
 ·have x:i2.i<c.length:=tD<|wi a
  have j:=Qw x;refine wC 6 I<|QA (QH I VY Z6)<|QA (Qe I Z6 .here (.skip .h1))<|wW I<|QA (Q3 (n:=K) (i2.i) (λF h9=>h9.2.rt) rfl rfl VJ Vu O)<|QA (JA (n:=K) ((i2.i)*1) (λF h9=>h9.2.rt) O rfl Vu (XT (f:=λe:NQ=>e.1.v) (l:=c) O))<|wW I<|QI I (λ_ _ f k=>Iw (q:=(el c i2.i).1.q) (n:=(el c i2.i).1.n) (cap:=(el c i2.i).1.cap) f k.1 (k.2.pl _ j).1 (k.2.pl _ j).2 (ht.tm _ j).1 (λt L=>tD<|(ht.tm _ j).2.1 t L) (tD<|(ht.tm _ j).2.2) O) λ_=>wD 9 I ?_
  refine QQ I (λa=>?_) λa=>?_
  ·have A:=bne_iff_ne.1 a;refine wA 7 I ?_
   repeat first|refine Q6 ?_|refine Qv ?_
   exact wg I I (congrArg (ai .i64) (by show Bz nl (c.map λe=>ZX e.2) sl=_;rw[gK h11 o m,D,Zn,ee,C];have h9:=i2.hit x A;rw[show Qs (c.map ((λp=>Zh p (nn:Int))∘λe=>ZX e.2))=Zh (ZX (el c i2.i).2) (nn:Int)from h9,Zf A])) tL
  have A:=bne_eq_false_iff_eq.1 a;refine QN<|Qj<|wE 3 I<|QA (Qu I I O)<|wB 2 I ?_
  exact Ql (i2.next x A) (by show c.length-(i2.i+1)<c.length-i2.i;omega) wu we tN
 have E:c.length<=i2.i:=tD<|wj a
 refine Qx ?_
 repeat first|refine QY ?_|refine QO tH ?_
 refine QZ<|QC<|wa<|QA (QH I YM J0)<|QA (Qe I J0 .here (.skip (.skip .h1)))<|QI I (λ_ _ f k=>jG f k.2.st ⟨N,ht.st⟩ M) λ_=>wD 4 I ?_
 exact wg I I (congrArg (ai .i64) (by show Bz nl (c.map λe=>ZX e.2) sl=_;rw[gK h11 o m,D,Zn,ee,C];have h9:=i2.stop E;rw[show Qs (c.map ((λp=>Zh p (nn:Int))∘λe=>ZX e.2))=0 from h9,Zn,QCD])) tL
theorem uk(U:Fits F w)(hy:X4 F y)(ht:vG y):Qf prog 105 [y.v] w F (.bool (shS y)):=by
 have R:=hy.jL;have N:=hy.Ka;have L:=hy.P0;have Q:=ht.nn;have M:=ht.rn;have K:=ht.sn;refine QU.intro (G:=λF=>X4 F y) func105 rfl tH rfl rfl U (λF' H=>hy.le H)<|wa<|Qp rfl (vs:=[_,_,_]) rfl λb1=>wZ rfl<|QG ?_
 refine ZZ [(1,_)] [(21,.bool (shN y))] wk ?_ ?_
 ·refine QB<|QA (QH I Hj VU)<|QA (Qe I VU .here .h1)<|QA (Qg I Kw)<|wB 2 I ?_
  refine Qn (t:=10) rfl (λc=>?_) λc=>?_
  ·refine wB 12 I ?_;exact JY ⟨rfl,(congrArg (λb=>some (aa b)) (by unfold shN;rw[c];rfl)),trivial⟩ we tM
  refine QL I I<|QA (QH I VY Z6)<|QL I I<|QA (Qe I Z6 .here (.skip .h1))<|QL I I<|QA (Qg I VJ)<|wB 4 I ?_
  refine Qn (t:=16) rfl (λm=>?_) λm=>?_
  ·refine wB 6 I ?_;exact JY ⟨rfl,(congrArg (λb=>some (aa b)) (by unfold shN;rw[c,m];rfl)),trivial⟩ we tM
  refine QL I I<|QA (QH I YM J0)<|QL I I<|QA (Qe I J0 .here (.skip (.skip .h1)))<|QL I I<|QA (Qg I XF)<|wB 4 I ?_
  exact JY ⟨rfl,(congrArg (λb=>some (aa b)) (by unfold shN;rw[c,m];rfl)),trivial⟩ we tM
 simp only[ab,ae];refine QQ I (λa=>?_) λa=>?_
 ·have h:shN y=true:=a;refine wA 6 I ?_;exact wg I I (congrArg aa (by unfold shS;rw[h];rfl)) tL
 have h:shN y=false:=a;refine wC 9 I<|J9 (ι:=Wo y.rl shP) [(1,_)] (λi=>[(3,.int .i64 ((i.i:Nat):Int))]) (λi=>y.rl.length-i.i) (Wo.start _ _) wk wk λi=>?_
 simp only[ab,ae];have hi:=i.le;refine wA 4 I<|QA (QH I VY Z6)<|QA (Qe I Z6 .here (.skip .h1))<|QA (Qg I VJ)<|wD 3 I ?_
 refine QQ I (λa=>?_) λa=>?_
 ·have o:i.i<y.rl.length:=tD<|wi a
  have g:=Qw o;have P:=(ht.rl _ g).1;have hpn:=(ht.rl _ g).2.1;refine wC 7 I<|QA (QH I VY Z6)<|QA (Qe I Z6 .here (.skip .h1))<|wW I<|QA (Q3 (n:=y.rt.n) i.i (λF hy=>hy.rt) rfl rfl VJ Vu O)<|QA (JA (n:=y.rt.n) ((i.i)*1) (λF hy=>hy.rt) O rfl Vu (XT (f:=λe:NQ=>e.1.v) (l:=y.rl) O))<|QA (Qg I Zg)<|wD 3 I ?_
  refine QQ I (λa=>?_) λa=>?_
  ·have A:((el y.rl i.i).1.n:Int)>70:=wi a;refine wA 6 I ?_
   repeat first|refine Q6 ?_|refine Qv ?_
   exact wg I I (congrArg aa (by unfold shS;rw[h,i.hit o (by unfold shP;rw[decide_eq_true A];rfl)];rfl)) tL
  have A:¬((el y.rl i.i).1.n:Int)>70:=wj a;refine wC 8 I<|J9 (ι:=Wo (el y.rl i.i).2 shT) [(1,_),(3,_)] (λi2=>[(4,.int .i64 ((i2.i:Nat):Int))]) (λi2=>(el y.rl i.i).2.length-i2.i) (Wo.start _ _) wm wk λi2=>?_
  simp only[ab,ae];have T:=i2.le;refine wA 4 I<|QA (QH I VY Z6)<|QA (Qe I Z6 .here (.skip .h1))<|wW I<|QA (Q3 (n:=y.rt.n) i.i (λF hy=>hy.rt) rfl rfl VJ Vu O)<|QA (JA (n:=y.rt.n) ((i.i)*1) (λF hy=>hy.rt) O rfl Vu (XT (f:=λe:NQ=>e.1.v) (l:=y.rl) O))<|QA (Qg I Zg)<|wD 3 I ?_
  refine QQ I (λa=>?_) λa=>?_
  ·have u:i2.i<(el y.rl i.i).2.length:=tD<|wi a
   refine wC 4 I ?_;refine ZZ [(1,_),(3,_),(4,_)] [(69,.bool (!(shT (el (el y.rl i.i).2 i2.i))))] wu ?_ ?_
   ·refine QB<|QA (QH I VY Z6)<|QA (Qe I Z6 .here (.skip .h1))<|wW I<|QA (Q3 (n:=y.rt.n) i.i (λF hy=>hy.rt) rfl rfl VJ Vu O)<|QA (JA (n:=y.rt.n) ((i.i)*1) (λF hy=>hy.rt) O rfl Vu (XT (f:=λe:NQ=>e.1.v) (l:=y.rl) O))<|wW I<|QA (Q3 (n:=(el y.rl i.i).1.n) (i2.i) (λF hy=>(hy.pl _ g).1) rfl rfl Zg Xh O)<|QA (QH I Yh JM)<|QA (JA (n:=(el y.rl i.i).1.n) ((i2.i)*2+1) (λF hy=>(hy.pl _ g).1) O rfl JM (JN (f:=VM) (l:=(el y.rl i.i).2) YR O rfl))<|QA (Qg I Q2)<|wB 2 I ?_
    refine Qn (t:=57) rfl (λk=>?_) λk=>?_
    ·refine wB 13 I ?_;exact JY ⟨rfl,rfl,rfl,(congrArg (λb=>some (aa b)) (by unfold shT;rw[aA,k];rfl)),trivial⟩ we tM
    refine QL I I<|QA (QH I VY Z6)<|QL I I<|QA (Qe I Z6 .here (.skip .h1))<|wB 3 I<|QA (Q3 (n:=y.rt.n) i.i (λF hy=>hy.rt) rfl rfl VJ Vu O)<|QL I I<|QA (JA (n:=y.rt.n) ((i.i)*1) (λF hy=>hy.rt) O rfl Vu (XT (f:=λe:NQ=>e.1.v) (l:=y.rl) O))<|wB 3 I<|QA (Q3 (n:=(el y.rl i.i).1.n) (i2.i) (λF hy=>(hy.pl _ g).1) rfl rfl Zg Xh O)<|QL I I<|QA (QH I GM JF)<|QL I I<|QA (JA (n:=(el y.rl i.i).1.n) ((i2.i)*2+0) (λF hy=>(hy.pl _ g).1) O rfl JF (JN (f:=VM) (l:=(el y.rl i.i).2) YR O rfl))<|QL I I<|QA (Xc I Bw)<|wB 4 I ?_
    exact JY ⟨rfl,rfl,rfl,(congrArg (λb=>some (aa b)) (by unfold shT;rw[aA,k];rfl)),trivial⟩ we tM
   simp only[ab,ae];refine QQ I (λa=>?_) λa=>?_
   ·have z:shT (el (el y.rl i.i).2 i2.i)=false:=by simpa using a
    refine wA 6 I ?_
    repeat first|refine Q6 ?_|refine Qv ?_
    exact wg I I (congrArg aa (by unfold shS;rw[h,i.hit o (by unfold shP;rw[i2.hit u z,bw])];rfl)) tL
   have z:shT (el (el y.rl i.i).2 i2.i)=true:=by simpa using a
   refine QN<|Qj<|wE 3 I<|QA (Qu I I O)<|wB 2 I ?_
   exact Ql (i2.next u z) (by show(el y.rl i.i).2.length-(i2.i+1)<(el y.rl i.i).2.length-i2.i;omega) wu we tM
  have D:(el y.rl i.i).2.length<=i2.i:=tD<|wj a
  refine Qx ?_
  repeat first|refine QY ?_|refine QO tH ?_
  refine QZ<|Qj<|wE 3 I<|QA (Qu I I O)<|wB 2 I ?_
  exact Ql (i.next o (by unfold shP;rw[decide_eq_false A,i2.stop D];rfl)) (by show y.rl.length-(i.i+1)<y.rl.length-i.i;omega) wm we tM
 have E:y.rl.length<=i.i:=tD<|wj a
 have B:=i.stop E;refine Qx ?_
 repeat first|refine QY ?_|refine QO tH ?_
 refine QZ<|wE 8 I<|J9 (ι:=Wo y.sl AZ) [(1,_)] (λi3=>[(5,.int .i64 ((i3.i:Nat):Int))]) (λi3=>y.sl.length-i3.i) (Wo.start _ _) wk wk λi3=>?_
 simp only[ab,ae];have S:=i3.le;refine wA 4 I<|QA (QH I YM J0)<|QA (Qe I J0 .here (.skip (.skip .h1)))<|QA (Qg I XF)<|wD 3 I ?_
 refine QQ I (λa=>?_) λa=>?_
 ·have s:i3.i<y.sl.length:=tD<|wi a
  refine wC 4 I ?_;refine ZZ [(1,_),(5,_)] [(94,.bool (!(AZ (el y.sl i3.i))))] wm ?_ ?_
  ·refine QB<|QA (QH I YM J0)<|QA (Qe I J0 .here (.skip (.skip .h1)))<|wW I<|QA (Q3 (n:=y.st.n) (i3.i) (λF hy=>hy.st) rfl rfl XF Jd O)<|QA (QH I V6 JF)<|QA (JA (n:=y.st.n) ((i3.i)*2+0) (λF hy=>hy.st) O rfl JF (JN (f:=NU) (l:=y.sl) K1 O rfl))<|QA (Xc I Bw)<|wB 2 I ?_
   refine Qn (t:=85) rfl (λj=>?_) λj=>?_
   ·refine wB 10 I ?_;exact JY ⟨rfl,rfl,(congrArg (λb=>some (aa b)) (by unfold AZ;rw[aA,j];rfl)),trivial⟩ we tM
   refine QL I I<|QA (QH I YM J0)<|QL I I<|QA (Qe I J0 .here (.skip (.skip .h1)))<|wB 3 I<|QA (Q3 (n:=y.st.n) (i3.i) (λF hy=>hy.st) rfl rfl XF Jd O)<|QL I I<|QA (QH I We JF)<|QL I I<|QA (JA (n:=y.st.n) ((i3.i)*2+1) (λF hy=>hy.st) O rfl JF (JN (f:=NU) (l:=y.sl) K1 O rfl))<|QL I I<|QA (Xc I Bw)<|wB 4 I ?_
   exact JY ⟨rfl,rfl,(congrArg (λb=>some (aa b)) (by unfold AZ;rw[aA,j];rfl)),trivial⟩ we tM
  simp only[ab,ae];refine QQ I (λa=>?_) λa=>?_
  ·have x:AZ (el y.sl i3.i)=false:=by simpa using a
   refine wA 6 I ?_
   repeat first|refine Q6 ?_|refine Qv ?_
   exact wg I I (congrArg aa (by unfold shS;rw[h,B,i3.hit s x];rfl)) tL
  have x:AZ (el y.sl i3.i)=true:=by simpa using a
  refine QN<|Qj<|wE 3 I<|QA (Qu I I O)<|wB 2 I ?_
  exact Ql (i3.next s x) (by show y.sl.length-(i3.i+1)<y.sl.length-i3.i;omega) wm we tM
 have C:y.sl.length<=i3.i:=tD<|wj a
 refine Qx ?_
 repeat first|refine QY ?_|refine QO tH ?_
 refine QZ<|wE 7 I ?_
 exact wg I I (congrArg aa (by unfold shS;rw[h,B,i3.stop C];rfl)) tL
theorem QGM{v d g:Int}(X:Fits F w)(L:JE F)(hy:X4 F y)(D:vG y)(V:0<=g/\g<=1000):Qf prog 55 [y.v,.int .i64 v,.int .i64 d,.int .i64 g] w F (.bool (pT y v d g)):=by
 have U:=hy.jL;have R:=hy.Ka;have C:=hy.P0;refine QU.intro (G:=λF=>JE F/\X4 F y) func55 rfl tH rfl rfl X (λF' A=>⟨L.le A,hy.le A⟩)<|wa<|Qp rfl (vs:=[_,_,_]) rfl λb4=>wZ rfl<|QG ?_
 refine ZZ [(2,_),(3,_),(4,_)] [(38,.bool (!(yX y v g)))] wu ?_ ?_
 ·refine QB<|QA (wO I J6 .here)<|QI I (λ_ _ f k=>uk (y:=y) f k.2 D) λ_=>QA (XL I)<|wW I ?_
  refine Qn (t:=13) rfl (λc=>?_) λc=>?_
  ·refine wB 19 I<|Jn I I<|Jn I I<|Jn I I<|Jn I I<|wB 2 I ?_
   refine QE ?_;exact JY ⟨rfl,rfl,rfl,(congrArg (λb=>some (aa b)) (by unfold yX;rw[aA,c];rfl)),trivial⟩ we tN
  have ht:GJ y:=D.ts (by simpa using c);refine QL I I<|QA (wO I J6 .here)<|QL I I<|QI I (λ_ _ f k=>QA3 (y:=y) f k.1.1 k.1.2 ht) λ_=>wB 4 I ?_
  refine Qn (t:=18) rfl (λj=>?_) λj=>?_
  ·refine wB 14 I<|Jn I I<|Jn I I<|Jn I I<|Jn I I<|wB 3 I ?_
   exact JY ⟨rfl,rfl,rfl,(congrArg (λb=>some (aa b)) (by unfold yX;rw[aA,c,j];rfl)),trivial⟩ we λ_ h=>h.1.1
  refine QL I I<|QA (QH I VY Z6)<|QL I I<|QA (Qe I Z6 .here (.skip .h1))<|QL I I<|QA (Qg I VJ)<|wB 6 I ?_
  refine Qn (t:=25) rfl (λm=>?_) λm=>?_
  ·refine wB 7 I<|Jn I I<|Jn I I<|Jn I I<|Jn I I<|wB 3 I ?_
   exact JY ⟨rfl,rfl,rfl,(congrArg (λb=>some (aa b)) (by unfold yX;rw[aA,c,j,m];rfl)),trivial⟩ we λ_ h=>h.1.1
  refine QL I I<|QA (QH I YM J0)<|QL I I<|QA (Qe I J0 .here (.skip (.skip .h1)))<|wB 5 I<|QI I (λ_ _ f k=>gU f k.1.1.2.st C V (tD ht.sn)) λ_=>QL I I<|QA (XL I)<|wB 2 I ?_
  refine Qn (t:=32) rfl (λs=>?_) λs=>?_
  ·refine QL I I<|QA (QH I YM J0)<|QL I I<|QA (Qe I J0 .here (.skip (.skip .h1)))<|QL I I<|QA (Qg I XF)<|wB 6 I ?_
   exact JY ⟨rfl,rfl,rfl,(congrArg (λb=>some (aa b)) (by unfold yX;rw[aA,c,j,m,s];rfl)),trivial⟩ we λ_ h=>h.1.1.1
  refine wB 8 I ?_;exact JY ⟨rfl,rfl,rfl,(congrArg (λb=>some (aa b)) (by unfold yX;rw[aA,c,j,m,s];rfl)),trivial⟩ we λ_ h=>h.1.1.1
 simp only[ab,ae];refine QQ I (λa=>?_) λa=>?_
 ·have u:yX y v g=false:=by simpa using a
  refine wA 6 I ?_;exact wg I I (congrArg aa (by unfold pT;rw[u];rfl)) tL
 have u:yX y v g=true:=by simpa using a
 obtain⟨K,H,N,P⟩:=QFQ u;have ht:GJ y:=D.ts K;have Q:=ht.rn;have M:=hy.ok H;have T:=M.n1;have S:=M.rn;refine wC 9 I<|J9 (ι:=Wo y.rl λe=>fpB (ZX e.2) (y.rt.n:Int) 4 d g) [(2,_),(3,_),(4,_)] (λi=>[(9,.int .i64 ((i.i:Nat):Int))]) (λi=>y.rl.length-i.i) (Wo.start _ _) wu wk λi=>?_
 simp only[ab,ae];have hi:=i.le;refine wA 4 I<|QA (QH I VY Z6)<|QA (Qe I Z6 .here (.skip .h1))<|QA (Qg I VJ)<|wD 3 I ?_
 refine QQ I (λa=>?_) λa=>?_
 ·have x:i.i<y.rl.length:=tD<|wi a
  have o:=Qw x;refine wC 5 I<|JG we mixed tE<|QK (QH I VY Z6)<|QK (Qe I Z6 .here (.skip .h1))<|QK (QD I)<|QK (Q3 (n:=y.rt.n) i.i (λF h9=>h9.2.rt) rfl rfl VJ Vu O)<|QK (JA (n:=y.rt.n) ((i.i)*1) (λF h9=>h9.2.rt) O rfl Vu (XT (f:=λe:NQ=>e.1.v) (l:=y.rl) O))<|QK (QH I VY Z6)<|QK (Qe I Z6 .here (.skip .h1))<|QK (Qg I VJ)<|QK (QD I)<|QK (QD I)<|QR I (λ_ _ f k=>uw (q:=(el y.rl i.i).1.q) (n:=(el y.rl i.i).1.n) (cap:=(el y.rl i.i).1.cap) f k.1 (k.2.pl _ o).1 (k.2.pl _ o).2 (ht.tm _ o).1 (λt B=>tD<|(ht.tm _ o).2.1 t B) (tD<|(ht.tm _ o).2.2) O O) λ_=>QK (XL I)<|Q7<|QC ?_
  refine QQ I (λa=>?_) λa=>?_
  ·have z:fpB (ZX (el y.rl i.i).2) (y.rt.n:Int) 4 d g=false:=by simpa using a
   refine wA 6 I ?_
   repeat first|refine Q6 ?_|refine Qv ?_
   exact wg I I (congrArg aa (by unfold pT;rw[u,i.hit x z];rfl)) tL
  have z:fpB (ZX (el y.rl i.i).2) (y.rt.n:Int) 4 d g=true:=by simpa using a
  refine QN<|Qj<|wE 3 I<|QA (Qu I I O)<|wB 2 I ?_
  exact Ql (i.next x z) (by show y.rl.length-(i.i+1)<y.rl.length-i.i;omega) wv we tN
 have E:y.rl.length<=i.i:=tD<|wj a
 refine Qx ?_
 repeat first|refine QY ?_|refine QO tH ?_
 refine QZ<|wE 7 I ?_
 exact wg I I (congrArg aa (by unfold pT;rw[u,i.stop E];rfl)) tL
def Xfb(tb:List Wl)(i:Nat):List UInt8:=if i=0 then[48]else(el tb (i-1)).e
def Xh9:Jp [48]=0/\Qz [48]=((0:Int):Rat):=tG
def Xhm(h:Jp (el tb i).e≠0):k6 n tb i=Jp (el tb i).e:=by
 unfold k6 Nb;rw[if_pos h,Zf h]
def Xhk(h0:Jp (el tb i).e=0)(h:Yw (Qz (el tb i).e) (Hd tb i)<=0):k6 n tb i=11:=by
 unfold k6 Nb Wc;rw[if_neg (by simpa using h0),if_pos (decide_eq_true h),Zf tF]
def Xhg(h0:Jp (el tb i).e=0)(h:¬Yw (Qz (el tb i).e) (Hd tb i)<=0):Nb (Hd tb i) (el tb i).e=0:=by
 unfold Nb Wc;rw[if_neg (by simpa using h0),if_neg (by rw[decide_eq_false h];decide)]
def Xhj(h0:Jp (el tb i).e=0)(h:¬Yw (Qz (el tb i).e) (Hd tb i)<=0)(h1:YZ n (el tb i).wl≠0):k6 n tb i=YZ n (el tb i).wl:=by
 unfold k6;rw[Xhg h0 h,Zn,Zf h1]
def Xhf(h0:Jp (el tb i).e=0)(h:¬Yw (Qz (el tb i).e) (Hd tb i)<=0)(h1:YZ n (el tb i).wl=0):k6 n tb i=YZ n (el tb i).ll:=by
 unfold k6;rw[Xhg h0 h,Zn,h1,Zn,QCD]
def Xf6(s:X7 (aD tb.length) (k6 n tb))(a:¬tb.length>1000)(h:s.i<tb.length){e:Int}(he:k6 n tb s.i=e)(h0:e≠0):Dz n tb=e:=by
 unfold Dz;rw[if_neg a];have h9:=s.hit (by rw[ay];exact h) (by rw[ZG h,he];exact h0);rw[ZG h]at h9;rw[h9,he]
def Xgg(s:X7 (aD tb.length) (k6 n tb))(a:¬tb.length>1000)(h:tb.length<=s.i):Dz n tb=0:=by
 unfold Dz;rw[if_neg a];exact s.stop (by rw[ay];exact h)
structure CfJ(n:Nat)(tb:List Wl) extends X7 (aD tb.length) (k6 n tb) where
 ok:Jp (Xfb tb i)=0/\Qz (Xfb tb i)=Hd tb i
def Xfa(tb:List Wl)(i:Nat):Xfb tb (i+1)=(el tb i).e:=by unfold Xfb;rw[if_neg O,Nat.add_sub_cancel]
theorem Xfn{n:Nat}{r:Sr}(C:Fits F w)(hx:IF F r tb)(hc:QCR r tb):Qf prog 52 [.int .i64 (n:Int),r.v] w F (.int .i64 (Dz n tb)):=by
 have A:=hx.len;have B:=hc.n;refine QU.intro (G:=λF=>IF F r tb) func52 rfl tH rfl rfl C (λF' z=>hx.le z)<|wa<|wZ rfl<|QG<|wb rfl<|QA (Qg rfl EC)<|QA (QT rfl rfl rfl)<|QE<|QC ?_
 refine QQ I (λa=>?_) λa=>?_
 ·have h12:tb.length>1000:=tD<|wi a
  refine wA 6 I ?_;exact wg I I (congrArg (ai .i64) (by unfold Dz;rw[if_pos h12])) tL
 have h12:¬tb.length>1000:=tD<|wj a
 have u:∀b∈tb,b.e.length<=1000000/\BS b.w b.wl/\BS b.l b.ll:=hc.t.resolve_left O;refine wC 14 I<|J9 (ι:=CfJ n tb) [(0,_),(1,_)] (λi=>[(5,tx (Xfb tb i.i)),(6,.int .i64 ((i.i:Nat):Int))]) (λi=>tb.length-i.i) (⟨X7.start _ _,Xh9⟩) wm wm λi=>?_
 simp only[ab,ae];have hi:=i.le;rw[ay]at hi;refine wA 5 I<|QA (Qg I EC)<|wD 3 I ?_
 refine QQ I (λa=>?_) λa=>?_
 ·have g:i.i<tb.length:=tD<|wi a
  have m:=Qw g;refine wC 9 I<|QA (Q3 (n:=r.n) i.i (λF hx=>hx.row) rfl rfl EC X8 O)<|QA (QH I Ec JF)<|QA (JA (n:=r.n) ((i.i)*3+0) (λF hx=>hx.row) O rfl JF (JN (f:=uI) (l:=tb) Cb O rfl))<|QI I (λ_ _ f k=>vN f (tD<|(u _ m).1)) λ_=>wD 9 I ?_
  refine QQ I (λa=>?_) λa=>?_
  ·have c:=bne_iff_ne.1 a;refine wA 7 I ?_
   repeat first|refine Q6 ?_|refine Qv ?_
   exact wg I I (congrArg (ai .i64) (Xf6 i.toX7 h12 g (Xhm c) c)) tL
  have c:=bne_eq_false_iff_eq.1 a;refine wC 7 I<|QA (Q3 (n:=r.n) i.i (λF h9=>h9.1.row) rfl rfl EC X8 O)<|QA (QH I Ec JF)<|QA (JA (n:=r.n) ((i.i)*3+0) (λF h9=>h9.1.row) O rfl JF (JN (f:=uI) (l:=tb) Cb O rfl))<|wW I<|QI I (λ_ _ f k=>QCs f c i.ok.1) λ_=>wD 3 I ?_
  refine QQ I (λa=>?_) λa=>?_
  ·have j:=wi a;rw[i.ok.2]at j;refine wA 6 I ?_
   repeat first|refine Q6 ?_|refine Qv ?_
   exact wg I I (congrArg (ai .i64) (Xf6 i.toX7 h12 g (Xhk c j) tF)) tL
  have j:=wj a;rw[i.ok.2]at j;refine wC 8 I<|QA (Q3 (n:=r.n) i.i (λF h9=>h9.1.1.row) rfl rfl EC X8 O)<|QA (QH I Ub J0)<|QA (JA (n:=r.n) ((i.i)*3+1) (λF h9=>h9.1.1.row) O rfl J0 (JN (f:=uI) (l:=tb) Cb O rfl))<|QI I (λ_ _ f k=>gW f (k.1.1.bx _ m).1 (u _ m).2.1) λ_=>wD 9 I ?_
  refine QQ I (λa=>?_) λa=>?_
  ·have o:=bne_iff_ne.1 a;refine wA 7 I ?_
   repeat first|refine Q6 ?_|refine Qv ?_
   exact wg I I (congrArg (ai .i64) (Xf6 i.toX7 h12 g (Xhj c j o) o)) tL
  have o:=bne_eq_false_iff_eq.1 a;refine wC 8 I<|QA (Q3 (n:=r.n) i.i (λF h9=>h9.1.1.1.row) rfl rfl EC X8 O)<|QA (QH I N6 J0)<|QA (JA (n:=r.n) ((i.i)*3+2) (λF h9=>h9.1.1.1.row) O rfl J0 (JN (f:=uI) (l:=tb) Cb O rfl))<|QI I (λ_ _ f k=>gW f (k.1.1.1.bx _ m).2 (u _ m).2.2) λ_=>wD 9 I ?_
  refine QQ I (λa=>?_) λa=>?_
  ·have x:=bne_iff_ne.1 a;refine wA 7 I ?_
   repeat first|refine Q6 ?_|refine Qv ?_
   exact wg I I (congrArg (ai .i64) (Xf6 i.toX7 h12 g (Xhf c j o) x)) tL
  have x:=bne_eq_false_iff_eq.1 a;refine wC 5 I<|QA (Q3 (n:=r.n) i.i (λF h9=>h9.1.1.1.1.row) rfl rfl EC X8 O)<|QA (QH I Ec JF)<|QA (JA (n:=r.n) ((i.i)*3+0) (λF h9=>h9.1.1.1.1.row) O rfl JF (JN (f:=uI) (l:=tb) Cb O rfl))<|wB 2 I<|Qj<|wE 3 I<|QA (Qu I I O)<|wB 2 I ?_
  exact Ql (⟨i.toX7.next (by rw[ay];exact g) (by rw[ZG g,Xhf c j o];exact x),by show Jp (Xfb tb (i.i+1))=0/\Qz (Xfb tb (i.i+1))=Hd tb (i.i+1);rw[Xfa,RU];exact⟨c,rfl⟩⟩) (by show tb.length-(i.i+1)<tb.length-i.i;omega) ⟨rfl,rfl,(congrArg (λs=>some (tx s)) (Xfa tb i.i).symm),rfl,trivial⟩ we λF h=>h.1.1.1.1
 have y:tb.length<=i.i:=tD<|wj a
 refine Qx ?_
 repeat first|refine QY ?_|refine QO tH ?_
 refine QZ<|wE 7 I ?_
 exact wg I I (congrArg (ai .i64) (Xgg i.toX7 h12 y)) tL
def QDg{l:List (List UInt8)}(h:i<l.length)(k:decide ((el l i).length>14)=true):l.any (λs=>decide (s.length>14))=true:=List.any_eq_true.2 ⟨_,Qw h,k⟩
structure LgJ(l:List (List UInt8)) where
 i:Nat
 le:i<=l.length
 no:∀j,j<i->¬(el l j).length>14
theorem LgJ.stop{l:List (List UInt8)}(s:LgJ l)(h:l.length<=s.i):l.any (λs=>decide (s.length>14))=false:=by
 cases e:l.any (λs=>decide (s.length>14))with
 |false=>rfl
 |true =>
  obtain⟨x,hx,k⟩:=List.any_eq_true.1 e;obtain⟨j,a,rfl⟩:=bL hx;exact absurd (wi k) (by have:=s.no j O;rwa [Jb a]at this)
theorem QGb{q:Option Addr}{l:List (List UInt8)}(u:Fits F w)(o:Qy F q n 1 (l.map tx))(hn:l.length=n)(hb:n<=1000000000):Qf prog 15 [.slice q n c] w F (.bool (l.any λs=>decide (s.length>14))):=by
 refine QU.intro (G:=λF=>Qy F q n 1 (l.map tx)) func15 rfl tH rfl rfl u (λF' k=>o.le k)<|wa<|wZ rfl<|QG<|wa<|wZ rfl<|QV<|J9 (ι:=LgJ l) [(0,_)] (λi=>[(3,.int .i64 ((i.i:Nat):Int))]) (λi=>l.length-i.i) (⟨0,aq _,λj h=>absurd h (bT _)⟩) wk wk λi=>?_
 simp only[ab,ae];have hi:=i.le;refine wA 5 I<|QA (Qg I YG)<|wD 3 I ?_
 refine QQ I (λhc=>?_) λhc=>?_
 ·have b:i.i<l.length:=tD<|wi hc
  refine wC 8 I<|QA (Q3 (n:=n) i.i tM rfl rfl YG JF O)<|QA (JA (n:=n) ((i.i)*1) tM O rfl JF (XT (f:=tx) (l:=l) O))<|QA (Xc I Bw)<|wD 3 I ?_
  refine QQ I (λhc=>?_) λhc=>?_
  ·have a:(el l i.i).length>14:=tD<|wi hc
   refine wA 6 I ?_
   repeat first|refine Q6 ?_|refine Qv ?_
   exact wg I I (congrArg aa (QDg b (decide_eq_true a))) tL
  have a:¬(el l i.i).length>14:=tD<|wj hc
  refine QN<|Qj<|wE 3 I<|QA (Qu I I O)<|wB 2 I ?_
  exact Ql (⟨i.i+1,b,λj m=>by rcases Nat.lt_succ_iff_lt_or_eq.1 m with h | rfl;exact i.no j h;exact a⟩) (by show l.length-(i.i+1)<l.length-i.i;omega) wm we tM
 have g:l.length<=i.i:=tD<|wj hc
 refine Qx ?_
 repeat first|refine QY ?_|refine QO tH ?_
 refine QZ<|wE 7 I ?_
 exact wg I I (congrArg aa (i.stop g)) tL
def Xhc{α:Type}[Inhabited α]{l:List α}{n i:Nat}(h:i<(l.take n).length):el (l.take n) i=el l i:=by
 have h2:i<l.length:=by rw[aH]at h;omega
 rw[Jb h,Jb h2,List.getElem_take]
def Ff(y:Xz)(n:Int):Bool:=!(shS y)||((y.e==0)&&!(pT y n 3 6))
theorem yQ{n:Int}(h:Ff y n=false):shS y=true/\(y.e=0->pT y n 3 6=true):=by
 unfold Ff at h;simp only[au,aF,aR,beq_eq_false_iff_ne]at h;exact⟨h.1,λe=>h.2.resolve_left λk=>k e⟩
def Xf7(y:Xz)(tb:List Wl):Int:=if y.e≠0 then y.e else Dz y.rt.n tb
structure ATk where
 fr:List UInt8
 te:List UInt8
 bx:Sr
 bl:List (List UInt8×List UInt8)
 wh:Sr
 wl:List (List UInt8×List UInt8)
 o:Int
 b:Int
@[reducible] def ATk.v (x:ATk):Value:=.agg #[tx x.fr,tx x.te,.slice x.bx.q x.bx.n x.bx.cap,.slice x.wh.q x.wh.n x.wh.cap,.int .i64 x.o,.int .i64 x.b]
def cT(l:List (List UInt8)):Bool:=l.any λs=>decide (s.length>14)
def stX(b:Wl):Bool:=!(cT [b.e]||!(Ts b.wl)||!(Ts b.ll))
def stN(n:Nat):Bool:=(decide ((n:Int)>4)&&decide ((n:Int)<=1000))||decide ((n:Int)>1005)
def Xdo(tb:List Wl):Bool:=!(stN tb.length)&&(tb.take 4).all stX
theorem Xhi{b:Wl}(h:stX b=true)(c:b.wl.length=b.w.n)(f:b.ll.length=b.l.n):b.e.length<=14/\BS b.w b.wl/\BS b.l b.ll:=by
 simp only[stX,aO,au,aF]at h;obtain⟨⟨h1,h2⟩,h3⟩:=h;have h4:=AY h2;have h5:=AY h3;refine⟨by unfold cT at h1;simp at h1;omega,⟨O,λs a=>tD<|h4.2 s a⟩,⟨O,λs a=>tD<|h5.2 s a⟩⟩
def Xh2{r:Sr}(hn:tb.length=r.n)(hx:∀b∈tb,b.wl.length=b.w.n/\b.ll.length=b.l.n)(h:Xdo tb=true):QCR r tb:=by
 unfold Xdo at h;rw[ax,ao]at h;have h1:stN tb.length=false:=by simpa using h.1
 unfold stN at h1;simp only[au,aR,decide_eq_false_iff_not]at h1;refine⟨O,?_⟩;rcases aW 1000 r.n with g | g
 ·exact .inl g
 right;intro b hb;rw[aN O]at h;have h2:=Xhi (h.2 b hb) (hx b hb).1 (hx b hb).2;exact⟨O,h2.2⟩
theorem QFF{n:Int}(i:Fits F w)(h:JE F)(hy:X4 F y)(g:vG y):Qf prog 23 [y.v,.int .i64 n] w F (.bool (Ff y n)):=by
 refine QU.intro (G:=λF=>JE F/\X4 F y) func23 rfl tH rfl rfl i (λF' c=>⟨h.le c,hy.le c⟩)<|wa<|Qp rfl (vs:=[_,_,_]) rfl λb2=>wZ rfl<|wa<|QA (wO I J6 .here)<|QI rfl (λ_ _ f k=>uk (y:=y) f k.2 g) λ_=>QA (XL rfl)<|wW rfl ?_
 refine Qn (t:=8) rfl (λa=>?_) λa=>?_
 ·refine wB 4 I<|Jn I I<|Jn I I<|Jn I I<|Jn I I<|wD 6 I ?_
  exact wg I I (congrArg aa (by unfold Ff;rw[a];rfl)) tL
 have ht:GJ y:=g.ts (by simpa using a);refine QL I I<|QA (wO I J6 .here)<|QL I I<|QI I (λ_ _ f k=>QA3 (y:=y) f k.1.1 k.1.2 ht) λ_=>wB 4 I ?_
 refine Qn (t:=12) rfl (λb=>?_) λb=>?_
 ·refine QL I I<|QA (wO I J6 .here)<|wB 3 I<|QI I (λ_ _ f k=>QGM (y:=y) f k.1.1.1 k.1.1.2 g tF) λ_=>QL I I<|QA (XL I)<|wD 7 I ?_
  exact wg I I (congrArg aa (by unfold Ff;rw[a,b];rfl)) tL
 refine wD 11 I ?_;exact wg I I (congrArg aa (by unfold Ff;rw[a,b];rfl)) tL
theorem Xgn{r:Sr}(g:Fits F w)(c:JE F)(hy:X4 F y)(ht:GJ y)(hx:IF F r tb)(hc:QCR r tb):Qf prog 64 [y.v,r.v] w F (.int .i64 (Xf7 y tb)):=by
 refine QU.intro (G:=λF=>JE F/\X4 F y/\IF F r tb) func64 rfl tH rfl rfl g (λF' b=>⟨c.le b,hy.le b,hx.le b⟩)<|wa<|Qp rfl (vs:=[_,_,_]) rfl λb2=>wZ rfl<|QG<|wa<|QA (wO I J6 .here)<|QI rfl (λ_ _ f k=>QA3 (y:=y) f k.1 k.2.1 ht) λ_=>wZ rfl<|wb rfl<|QA (QT rfl rfl rfl)<|QE<|QC ?_
 refine QQ I (λa=>?_) λa=>?_
 ·have h9:=bne_iff_ne.1 a;refine wA 7 I ?_;exact wg I I (congrArg (ai .i64) (by unfold Xf7;rw[if_pos h9])) tL
 have h9:=bne_eq_false_iff_eq.1 a;refine wC 4 I<|QA (QH I VY Z6)<|QA (Qe I Z6 .here (.skip .h1))<|QA (Qg I VJ)<|wW I<|QI I (λ_ _ f k=>Xfn (n:=y.rt.n) f k.1.2.2 hc) λ_=>wD 4 I ?_
 exact wg I I (congrArg (ai .i64) (by unfold Xf7;rw[if_neg (by rw[h9];decide)])) tL
theorem Xgm{r:Sr}(K:Fits F w)(hx:IF F r tb)(hn:r.n<=9223372036854775807)(hz:∀b∈tb,b.w.n<=9223372036854775807/\b.l.n<=9223372036854775807):Qf prog 46 [r.v] w F (.bool (Xdo tb)):=by
 have y:=hx.len;have B:∀ {i:Nat},i<(tb.take 4).length->i<tb.length:=λh=>by rw[aH]at h;omega
 refine QU.intro (G:=λF=>IF F r tb) func46 rfl tH rfl rfl K (λF' E=>hx.le E)<|wa<|wZ rfl<|QG ?_
 refine ZZ [(0,_)] [(16,.bool (stN tb.length))] wk ?_ ?_
 ·refine wA 2 I<|QA (Qg I EC)<|wB 2 I ?_
  refine Qn (t:=7) rfl (λu=>?_) λu=>?_
  ·refine wB 3 I<|QA (Qg I EC)<|wB 4 I ?_
   refine Qn (t:=12) rfl (λo=>?_) λo=>?_
   ·refine wB 5 I ?_;exact JY ⟨rfl,(congrArg (λb=>some (aa b)) (by unfold stN;rw[y,u,o];rfl)),trivial⟩ we tM
   refine wB 3 I<|QA (Qg I EC)<|wB 4 I ?_
   exact JY ⟨rfl,(congrArg (λb=>some (aa b)) (by unfold stN;rw[y,u,o];rfl)),trivial⟩ we tM
  refine wB 8 I<|QA (Qg I EC)<|wB 4 I ?_
  exact JY ⟨rfl,(congrArg (λb=>some (aa b)) (by unfold stN;rw[y,u];rfl)),trivial⟩ we tM
 simp only[ab,ae];refine QQ I (λa=>?_) λa=>?_
 ·have x:stN tb.length=true:=a;refine wA 6 I ?_;exact wg I I (congrArg aa (by unfold Xdo;rw[x];rfl)) tL
 have x:stN tb.length=false:=a;refine wC 9 I<|J9 (ι:=Wo (tb.take 4) stX) [(0,_)] (λi=>[(3,.int .i64 ((i.i:Nat):Int))]) (λi=>(tb.take 4).length-i.i) (Wo.start _ _) wk wk λi=>?_
 simp only[ab,ae];have hi:=i.le;have H:i.i<=tb.length:=by rw[aH]at hi;omega
 refine QG ?_;refine ZZ [(0,_),(3,_)] [(24,.bool (decide (i.i<(tb.take 4).length)))] wm ?_ ?_
 ·refine wA 3 I<|QA (Qg I EC)<|wB 2 I ?_
  refine Qn (t:=21) rfl (λm=>?_) λm=>?_
  ·refine wB 6 I ?_;exact JY ⟨rfl,rfl,(congrArg (λb=>some (aa b)) (by rw[aH];have hb:=wi m;exact decide_eq_decide.2 O)),trivial⟩ we tM
  refine wB 4 I ?_;exact JY ⟨rfl,rfl,(congrArg (λb=>some (aa b)) (by rw[aH];have hb:=wj m;rw[decide_eq_false O])),trivial⟩ we tM
 simp only[ab,ae];refine QQ I (λa=>?_) λa=>?_
 ·have c:i.i<(tb.take 4).length:=wi a;have D:i.i<tb.length:=B c;have s:=Qw D;have C:el (tb.take 4) i.i=el tb i.i:=Xhc c;refine wC 4 I ?_;refine ZZ [(0,_),(3,_)] [(51,.bool (!(stX (el tb i.i))))] wm ?_ ?_
  ·refine wA 3 I<|QA (Q3 (n:=r.n) i.i (λF hx=>hx.row) rfl rfl EC X8 O)<|QA (QH I Ec JF)<|QA (JA (n:=r.n) ((i.i)*3+0) (λF hx=>hx.row) O rfl JF (JN (f:=uI) (l:=tb) Cb O rfl))<|Qb I (Q5 YG) JF Im I I λL=>QI I (λ_ _ f k=>QGb (l:=[(el tb i.i).e]) f (Qy.of (n:=1) (sz:=1) (cs:=[(el tb i.i).e].map tx) k.2 I) rfl tF) λ_=>wW I ?_
   refine Qn (t:=34) rfl (λg=>?_) λg=>?_
   ·refine wB 18 I ?_;exact JY ⟨rfl,rfl,(congrArg (λb=>some (aa b)) (by unfold stX;rw[aA,show cT [(el tb i.i).e]=true from g];rfl)),trivial⟩ we λ_ h=>h.1.1
   refine wB 5 I<|QA (Q3 (n:=r.n) i.i (λF h9=>h9.1.1.row) rfl rfl EC X8 O)<|QL I I<|QA (QH I Ub J0)<|QL I I<|QA (JA (n:=r.n) ((i.i)*3+1) (λF h9=>h9.1.1.row) O rfl J0 (JN (f:=uI) (l:=tb) Cb O rfl))<|QL I I<|QI I (λ_ _ f k=>um f (k.1.1.bx _ s).1 (hz _ s).1) λ_=>QL I I<|QA (XL I)<|wB 2 I ?_
   refine Qn (t:=43) rfl (λj=>?_) λj=>?_
   ·refine wB 9 I ?_;exact JY ⟨rfl,rfl,(congrArg (λb=>some (aa b)) (by unfold stX;rw[aA,show cT [(el tb i.i).e]=false from g,j];rfl)),trivial⟩ we λ_ h=>h.1.1.1
   refine wB 5 I<|QA (Q3 (n:=r.n) i.i (λF h9=>h9.1.1.1.row) rfl rfl EC X8 O)<|QL I I<|QA (QH I N6 J0)<|QL I I<|QA (JA (n:=r.n) ((i.i)*3+2) (λF h9=>h9.1.1.1.row) O rfl J0 (JN (f:=uI) (l:=tb) Cb O rfl))<|QL I I<|QI I (λ_ _ f k=>um f (k.1.1.1.bx _ s).2 (hz _ s).2) λ_=>QL I I<|QA (XL I)<|wB 2 I ?_
   exact JY ⟨rfl,rfl,(congrArg (λb=>some (aa b)) (by unfold stX;rw[aA,show cT [(el tb i.i).e]=false from g,j];rfl)),trivial⟩ we λ_ h=>h.1.1.1.1
  simp only[ab,ae];refine QQ I (λa=>?_) λa=>?_
  ·have z:stX (el (tb.take 4) i.i)=false:=by rw[C];simpa using a
   refine wA 6 I ?_
   repeat first|refine Q6 ?_|refine Qv ?_
   exact wg I I (congrArg aa (by unfold Xdo;rw[x,i.hit c z];rfl)) tL
  have z:stX (el (tb.take 4) i.i)=true:=by rw[C];simpa using a
  refine QN<|Qj<|wE 3 I<|QA (Qu I I O)<|wB 2 I ?_
  exact Ql (i.next c z) (by show(tb.take 4).length-(i.i+1)<(tb.take 4).length-i.i;omega) wm we tM
 have A:(tb.take 4).length<=i.i:=tD<|wj a
 refine Qx ?_
 repeat first|refine QY ?_|refine QO tH ?_
 refine QZ<|wE 7 I ?_
 exact wg I I (congrArg aa (by unfold Xdo;rw[x,i.stop A];rfl)) tL
section
open Go.RowKit Go.ChangeShapes Go.WideShapes Ig
section
variable{H:Type}{enc:TypeId×Value->H}{w:World}
def QGx(n:Nat):Prop:=n<=9223372036854775807
set_option maxRecDepth 100000 in
theorem QFd{x:DataW H×List MemPlace}(h:aQ enc prog w 0 (λ_=>true) true m 36 cs=some x):∃(r:Sr) (l:List (List UInt8×List UInt8)),cs=[.slice r.q r.n r.cap]/\Ks (Vx w) r l/\QGx r.n:=by
 obtain⟨q,n,cap,l,h1,h2,h3,h4,_,_⟩:=Pe (f:=NU) (Q:=λ_=>True) underlying36 (show prog.cellsOf 40=2 by kernel_rfl) tF (λ_=>rfl) (λn cs x h=>by obtain⟨y,hy⟩:=xF n cs x h;exact⟨y,hy,trivial⟩) h;exact⟨⟨q,n,cap⟩,l,h1,⟨h2,h3⟩,h4⟩
theorem QAc(n:Nat)(cs:List Value)(x:DataW H×List MemPlace)(h:aQ enc prog w 0 (λ_=>true) true n 9 cs=some x):∃y:List UInt8,cs=[tx y]/\y.length<=9223372036854775807:=by
 obtain⟨s,rfl,_,a⟩:=DataW.trod_string underlying9 h;refine⟨s.data.toList,by simp[tx],?_⟩;unfold maxLen at a;have:s.data.toList.length=s.size:=tJ;omega
set_option maxRecDepth 100000 in
theorem QBJ(m:Nat)(cs:List Value)(x:DataW H×List MemPlace)(h:aQ enc prog w 0 (λ_=>true) true m 76 cs=some x):
  ∃a:NQ,cs=[a.1.v]/\(Qy (Vx w) a.1.q a.1.n 2 (a.2.flatMap VM)/\Yy (Vx w) a.2)/\a.2.length=a.1.n/\QGx a.1.n/\∀t∈a.2,QGw t:=by
 obtain⟨q,n,cap,l,h1,h2,h3,h4,h5,h6⟩:=Pe (cs:=cs) (f:=VM) (Q:=λy=>J8 (Vx w) y.r y.k/\QGw y) underlying76 (show prog.cellsOf 108=2 by kernel_rfl) tF (λ_=>rfl) ua h;exact⟨(⟨q,n,cap⟩,l),h1,⟨h2,λt ht=>(h5 t ht).1⟩,h3,h4,λt ht=>(h5 t ht).2⟩
def QFP(l:List NQ):(l.flatMap λa=>[a.1.v])=l.map λe=>e.1.v:=by
 induction l with
 |nil=>rfl
 |cons a l ih=>rw[bA,ih];rfl
set_option maxRecDepth 100000 in
theorem QEz{v:Value}{d:DataW H}{p:List MemPlace}(s:bZ prog w .any b 38 v)(h:er enc prog w 0 (λ_=>true) true 38 v d p):∃y:Xz,v=y.v/\X4 (Vx w) y/\vG y:=by
 obtain⟨v0,v1,v2,i,B,A,n,rfl,_,_,h0,h1,h2⟩:=Joins.open_agg3 underlying38 tE tE s h;obtain⟨q0,o,z,nl,e0,g,a2,a3,a4,a5⟩:=Pe (cs:=[v0]) (f:=λy=>[tx y]) (Q:=λy=>y.length<=9223372036854775807) underlying34 (show prog.cellsOf 9=1 by kernel_rfl) tF (λ_=>rfl) QAc h0;obtain⟨m,n1,c1,k,x,b1,b2,b3,b4,C⟩:=Pe (cs:=[v1]) (f:=λa:NQ=>[a.1.v]) (Q:=λa=>(Qy (Vx w) a.1.q a.1.n 2 (a.2.flatMap VM)/\Yy (Vx w) a.2)/\a.2.length=a.1.n/\QGx a.1.n/\∀t∈a.2,QGw t) underlying35 (show prog.cellsOf 76=1 by kernel_rfl) tF (λ_=>rfl) QBJ h1;obtain⟨l,sl,u,c,j⟩:=QFd h2;obtain rfl:=(aX e0).1;obtain rfl:=(aX x).1;obtain rfl:=(aX u).1;rw[QGf]at g;rw[QFP]at b1;exact⟨⟨⟨q0,o,z⟩,nl,⟨m,n1,c1⟩,k,l,sl⟩,rfl,⟨g,b1,λe he=>(b4 e he).1,c.row,a2,b2,c.len⟩,⟨a3,a5,a4,b3,j,λe he=>⟨(b4 e he).2.1,(b4 e he).2.2.1,λt ht=>((b4 e he).1.2 t ht).2.1⟩⟩⟩
theorem trod_struct3{t:TypeId}{f c b:Field}{fuel:Nat}{x:DataW H×List MemPlace}(ht:prog.underlying t=some (.struct #[f,c,b]))(h:aQ enc prog w 0 (λ_=>true) true fuel t cs=some x):
  ∃yz0 y1 y2 n,cs.length=prog.cellsOf t/\aQ enc prog w 0 (λ_=>true) true n f.type ((cs.drop f.offset).take (prog.cellsOf f.type))=some yz0/\aQ enc prog w 0 (λ_=>true) true n c.type ((cs.drop c.offset).take (prog.cellsOf c.type))=some y1 /\
   aQ enc prog w 0 (λ_=>true) true n b.type ((cs.drop b.offset).take (prog.cellsOf b.type))=some y2:=by
 obtain⟨i,n,_,rfl,j,a,g⟩:=DataW.trod_struct ht h
 match i,a with
 |[yz0,y1,y2],_=>exact⟨yz0,y1,y2,n,j,by simpa using g 0 f rfl,by simpa using g 1 c rfl,by simpa using g 2 b rfl⟩
set_option maxRecDepth 100000 in
theorem Xgz(m:Nat)(cs:List Value)(x:DataW H×List MemPlace)(h:aQ enc prog w 0 (λ_=>true) true m 123 cs=some x):∃y:Wl,cs=uI y/\(Ks (Vx w) y.w y.wl/\Ks (Vx w) y.l y.ll)/\QGx y.w.n/\QGx y.l.n:=by
 obtain⟨g,E,D,n,f,h0,h1,h2⟩:=trod_struct3 underlying123 h;have C:prog.cellsOf 123=3:=tE;have c1:prog.cellsOf 22=1:=tE;have c2:prog.cellsOf 36=1:=tE;rw[C]at f
 match cs,f with
 |[a,b,c],_ =>
  dsimp only at h0 h1 h2;rw[c1]at h0;rw[c2]at h1 h2;obtain⟨e,rfl⟩:=LG jD (v:=a) h0;obtain⟨j,z,B,s,o⟩:=QFd (cs:=[b]) h1;obtain⟨i,u,A,p2,k⟩:=QFd (cs:=[c]) h2;obtain rfl:=(aX B).1;obtain rfl:=(aX A).1;exact⟨⟨e,j,z,i,u⟩,rfl,⟨s,p2⟩,o,k⟩
set_option maxRecDepth 100000 in
theorem Xgk{v:Value}{d:DataW H}{p:List MemPlace}(a:bZ prog w .any b 77 v)(h:er enc prog w 0 (λ_=>true) true 77 v d p):∃(r:Sr) (tb:List Wl),v=r.v/\IF (Vx w) r tb/\QGx r.n/\∀b∈tb,QGx b.w.n/\QGx b.l.n:=by
 obtain⟨q,n,cap,l,h1,h2,h3,h4,h5⟩:=QDZ (f:=uI) (Q:=λy=>(Ks (Vx w) y.w y.wl/\Ks (Vx w) y.l y.ll)/\QGx y.w.n/\QGx y.l.n) underlying77 (show prog.cellsOf 123=3 by kernel_rfl) tF Cb Xgz a h;exact⟨⟨q,n,cap⟩,l,h1,⟨h2,h3,λb hb=>(h5 b hb).1⟩,h4,λb hb=>(h5 b hb).2⟩
end
end
def eqI8(a:Int):It .eql (.int .i64 a) (.int .i64 a)=some (.bool true):=by simp[It]
structure QxR(F:Gs)(r:Sr)(vs:List XP):Prop where
 row:Qy F r.q r.n 2 (vs.flatMap LP)
 len:vs.length=r.n
def QxR.le{r:Sr}{vs:List XP}(h:QxR F r vs)(k:Gs.le F F'):QxR F' r vs:=⟨h.row.le k,h.len⟩
def QEi(x:XP):∀v∈LP x,v.oneCell'=true:=λv a=>by
 simp only[LP,bX,bP,or_false]at a;rcases a with rfl | rfl<;>rfl
def QEh(h:∀s∈l,Xd s.1 s.2=0):l.flatMap NU=(lV l).flatMap LP:=by
 induction l with
 |nil=>rfl
 |cons s l ih =>
  have h1:=Ku (h s (.head _));show NU s++l.flatMap NU=LP (JB s)++(lV l).flatMap LP;rw[ih λu hu=>h u (.tail _ hu)];congr 1;show[tx s.1,tx s.2]=[tx (JP (Qz s.1)),tx (JP (Qz s.2))];rw[<-(XM h1.1).1,<-(XM h1.2.1).1]
def Ks.q{r:Sr}(hx:Ks F r l)(h:∀s∈l,Xd s.1 s.2=0):QxR F r (lV l):=⟨by rw[<-QEh h];exact hx.row,by rw[Yg];exact hx.len⟩
structure Xaf(n:Nat)(f:Nat->XP) where
 i:Nat
 v:Value
 ob:List (Nat×Obj)
 le:i<=n
 hr:Q8 40 2 v i (((aD i).map f).flatMap LP) ob
def Xaf.start(n:Nat)(f:Nat->XP):Xaf n f:=⟨0,.slice none 0 0,[],aq _,.nil⟩
def Xaf.next{n:Nat}{f:Nat->XP}(s:Xaf n f)(h:s.i<n){v:Value}{ob:List (Nat×Obj)}{x:XP}(hr:Q8 40 2 v (s.i+1) (((aD s.i).map f).flatMap LP++LP x) ob)(hx:x=f s.i):Xaf n f :=
 ⟨s.i+1,v,ob,h,by rw[aU,bj,show List.map f [s.i]=[x] by rw[hx];rfl,CK];exact hr⟩
theorem Xaf.row{f:Nat->XP}(s:Xaf n f)(h:s.i=n){F:Gs}{q:Option Addr}{c:Nat}(hr:Qy F q s.i 2 (((aD s.i).map f).flatMap LP)):QxR F ⟨q,s.i,c⟩ ((aD n).map f):=⟨by have e:(aD n).map f=(aD s.i).map f:=congrArg (λk=>(aD k).map f) h.symm;rw[e];exact hr,by rw[ag,ay,h]⟩
structure Xgf(F:Gs)(r:Sr)(tb:List Wl):Prop where
 a:IF F r tb
 q:∀b∈tb,QxR F b.w (lV b.wl)/\QxR F b.l (lV b.ll)
theorem Xgf.le{r:Sr}(h:Xgf F r tb)(k:Gs.le F F'):Xgf F' r tb:=⟨h.a.le k,λb hb=>⟨(h.q b hb).1.le k,(h.q b hb).2.le k⟩⟩
theorem IF.q{r:Sr}(h:IF F r tb)(a:QHw n tb):Xgf F r tb:=⟨h,λb hb=>by
 obtain⟨i,hi,rfl⟩:=bL hb;rw[<-Jb hi];have hm:=Qw hi;exact⟨(h.bx _ hm).1.q (XZ (a.w i hi)).2,(h.bx _ hm).2.q (XZ (a.l i hi)).2⟩⟩
def Ip(c:Rat×Rat)(bs:List (Rat×Rat))(ks:List Int)(i:Nat):Rat×Rat:=(aD i).foldl (λa j=>Jg a (Y5 (el bs j) (Qm ks j))) c
def vI(c:Rat×Rat)(bs:List (Rat×Rat))(ks:List Int)(i:Nat):Ip c bs ks (i+1)=Jg (Ip c bs ks i) (Y5 (el bs i) (Qm ks i)):=by
 unfold Ip;rw[aU,aI];rfl
def QAZ(c:Rat×Rat)(bs:List (Rat×Rat))(ks:List Int)(i:Nat):VT c bs ks (i+1)=if Qm ks i>0 then Jg (VT c bs ks i) (Y5 (el bs i) (Qm ks i))else VT c bs ks i:=by
 unfold VT;rw[aU,aI];rfl
theorem QC6(x y:Rat):Dv x y<=x/\Dv x y<=y:=by rw[O9];grind
theorem QC7(x y:Rat):x<=Gx x y/\y<=Gx x y:=by rw[CA];grind
def QGU(a b:Rat×Rat):(QBe a b).1<=(QBe a b).2:=by
 unfold QBe;exact bh (QC6 _ _).1 (bh (QC6 _ _).1 (bh (QC7 _ _).1 (QC7 _ _).1))
def QDW(b:Rat×Rat):Y5 b 0=(1,1):=by
 rw[pow_eq];have h1:b.1^(0:Int).toNat=1:=by show b.1^0=1;exact bF _
 have h2:b.2^(0:Int).toNat=1:=by show b.2^0=1;exact bF _
 unfold QDX;rw[h1,h2,O9,CA];simp
theorem QAr(h:a.1<=a.2):Jg a (1,1)=a:=by
 rw[jw];unfold QBe;simp only[Rat.mul_one,O9,CA];obtain⟨x,y⟩:=a;simp only at h;simp only[eu,if_true];by_cases k:y<=x
 ·have:x=y:=Rat.le_antisymm h k;subst this;simp
 rw[if_pos h,if_neg k]
def gV{c:Rat}{bs:List (Rat×Rat)}{ks:List Int}(hk:∀i,0<=Qm ks i):∀i,Ip (c,c) bs ks i=VT (c,c) bs ks i/\(Ip (c,c) bs ks i).1<=(Ip (c,c) bs ks i).2
 |0=>⟨rfl,eu⟩
 |i+1=>by
  obtain⟨h1,h2⟩:=gV hk i;rw[vI,QAZ,<-h1];by_cases g:Qm ks i>0
  ·rw[if_pos g];exact⟨rfl,by rw[jw];exact QGU _ _⟩
  have:Qm ks i=0:=tD<|hk i
  rw[if_neg g,this,QDW,QAr h2];exact⟨rfl,h2⟩
theorem QEv(n:Int)(ha:Ux m a):Ux (n.toNat*m+1) (Y5 a n):=by
 have b:∀x:Rat,JW x<=m->JW (x^n.toNat)<=n.toNat*m+1:=λx hx=>ak (VP x _) (Nat.add_le_add_right (aV _ hx) _);have h:=Dt (k:=n.toNat*m+1) (r:=a.1^n.toNat) (l:=[a.2^n.toNat]) (b _ ha.1) λx hx=>by
  obtain rfl:=List.mem_singleton.1 hx;exact b _ ha.2
 unfold Y5;refine⟨?_,h.2⟩;dsimp only;split
 ·exact ak QEW O
 exact h.1
def yp{ks:List Int}(h:∀k∈ks,0<=k)(i:Nat):0<=Qm ks i:=by
 rcases aW i ks.length with g | g
 ·exact h _ (by rw[Z9 g];exact bQ g)
 unfold Qm;rw[dif_neg O];exact Int.le_refl _
def Uy(bs:List (Rat×Rat))(l:List Tm):Rat×Rat:=l.foldl (λa t=>QCw a (Ip (t.1,t.1) bs t.2 t.2.length)) (0,0)
theorem QGN{bs:List (Rat×Rat)}{l:List Tm}(h:∀t∈l,∀k∈t.2,0<=k):Uy bs l=J3 bs l:=by
 unfold Uy J3;have:∀(l:List Tm) (a:Rat×Rat),(∀t∈l,∀k∈t.2,0<=k)->l.foldl (λa t=>QCw a (Ip (t.1,t.1) bs t.2 t.2.length)) a=l.foldl (λa t=>Vz a (VT (t.1,t.1) bs t.2 t.2.length)) a:=by
  intro l
  induction l with
  |nil=>exact λ_ _=>rfl
  |cons t l ih =>
   intro a h;rw[bS,bS,(gV (yp (h t (List.mem_cons_self ..))) _).1];exact ih _ λu hu=>h u (bp _ hu)
 exact this l (0,0) h
def QDT{bs:List (Rat×Rat)}(h:i<ps.length):Uy bs ((ps.take (i+1)).map R6)=QCw (Uy bs ((ps.take i).map R6)) (Ip (Qz (el ps i).f,Qz (el ps i).f) bs (el ps i).k (el ps i).k.length):=by
 unfold Uy;rw[XE h,bj,aI];rfl
theorem QEl{b:Rat×Rat}(c:Fits F w)(ha:Ux 45000 a)(hb:Ux 45000 b):Qf prog 121 [kh a,kh b] w F (kh (Jg a b)):=by
 have h:=ur c ha hb;rw[<-jw]at h;exact h
theorem QEq{b:Rat×Rat}(c:Fits F w)(ha:Ux 100000 a)(hb:Ux 100000 b):Qf prog 127 [kh a,kh b] w F (kh (QCw a b)):=uz c ha hb
structure NtI(n:Nat) where
 i:Nat
 le:i<=n
def Xb8:JP 0=[48]:=tG
def Xcw:JP 1=[49]:=tG
structure Xd1(va vb:List XP):Prop where
 eb:∀k,k<va.length->Xf (el va k) 45000/\Xf (el vb k) 45000
 pr:∀k,k<va.length->∀j,j<=k->Xf (Jg (el va j) (el vb (k-j))) 100000
 cv:∀k,k<va.length->∀i,i<=k+1->Xf (DM va vb k i) 100000
structure Xd3(vs:List XP) where
 v:Value
 ob:List (Nat×Obj)
 hr:Q8 40 2 v vs.length (vs.flatMap LP) ob
def Xa1(a:Rat)(n:Nat):(Ek a n).length=n+1:=by simp[Ek]
structure CsQ(a:Rat)(n:Nat) where
 j:Nat
 v:Value
 ob:List (Nat×Obj)
 le:j<=n
 hr:Q8 40 2 v (j+1) ((Ek a j).flatMap LP) ob
def Xcc(a:Rat)(j:Nat):(Ek a (j+1)).flatMap LP=(Ek a j).flatMap LP++LP (0,0):=by
 rw[<-CK];congr 1;unfold Ek;rw[List.replicate_succ'];simp
def Xcz{v:Value}{ob:List (Nat×Obj)}(h:Q8 40 2 v n cs ob)(hn:0<n):∃b rest c,v = .slice (some ⟨b,0,none⟩) n c/\ob=[(b,.cells (cs++rest).toArray 40 (0,0))]/\n<=c/\cs.length=n*2:=by
 cases h with
 |nil=>exact absurd hn (Nat.lt_irrefl _)
 |some h1 h2 h3 h4=>exact⟨_,_,_,rfl,rfl,h3,h1⟩
theorem Xam(Q:Fits F w)(ha:QxR F ra va)(hb:QxR F rb vb)(T:va.length<=vb.length)(hn:ra.n<=1000000)(A:∀a∈va,Xf a 100000)(z:∀a∈vb,Xf a 100000):QU prog 214 [ra.v,rb.v] w F (λ(c:Sr)=>c.v) (λc F=>QxR F c (My va vb)):=by
 have P:=ha.len;have N:=hb.len;refine QU.intro (G:=λF=>QxR F ra va/\QxR F rb vb) func214 rfl tH rfl rfl Q (λF' y=>⟨ha.le y,hb.le y⟩)<|wa<|wZ rfl<|wa<|wZ rfl<|QG<|wa<|wZ rfl<|QV<|JU (ι:=Xaf (va.length) ((λi=>Vz (el va i) (el vb i)))) [(0,_),(1,_)] (λi=>[(5,i.v),(6,.int .i64 ((i.i:Nat):Int))]) (λi=>i.ob) (λi F=>True) (λi=>(va.length)-i.i) (Xaf.start _ _) wm wm we tL λi=>?_
 simp only[ab,ae];have hi:=i.le;refine wA 5 I<|QA (Qg I XF)<|wD 3 I ?_
 refine QQ I (λm=>?_) λm=>?_
 ·have x:i.i<va.length:=tD<|wi m
  have E:=Qw x;refine wC 4 I<|JG tQ mixed tE<|QK (QD I)<|QK (QD I)<|QK (QD I)<|QK (Q3 (n:=ra.n) i.i (λF h9=>h9.1.1.row) rfl rfl XF Jd O)<|QK (JZ (n:=ra.n) (vs:=[tx (JP (el va i.i).1),tx (JP (el va i.i).2)]) ((i.i)*2) (λF h9=>h9.1.1.row) O rfl Jd I λj v C=>JN (f:=LP) (l:=va) uh O C)<|QK (QD I)<|QK (QD I)<|QK (Q3 (n:=rb.n) i.i (λF h9=>h9.1.2.row) rfl rfl XF Jd O)<|QK (JZ (n:=rb.n) (vs:=[tx (JP (el vb i.i).1),tx (JP (el vb i.i).2)]) ((i.i)*2) (λF h9=>h9.1.2.row) O rfl Jd I λj v C=>JN (f:=LP) (l:=vb) uh O C)<|QR I (λ_ _ f k=>uz (a:=el va i.i) (b:=el vb i.i) f (A _ E) (z _ (Qw O))) λ_=>?_
  refine Qo I (Q5 XF) Jd Xa I I (λR=>?_) (λw h=>h.imp tQ tN);refine Y6 (ar (l₁:=[])) ?_;refine Yz (n:=i.i) (k:=1) (sz:=2) (news:=(LP (Vz (el va i.i) (el vb i.i)))) I I XF Jd Xa I QAH i.hr (Src.row (off:=0) tO (λj q hq=>by rw[aP];rw[aG];exact hq) rfl) O O (QEi _) we (λ_ h=>h.1.1) (λv24 H u=>?_);refine Y6 (ar (l₂:=[]))<|QK (QF I)<|Q7<|Qj<|wE 3 I<|QA (Qu I I O)<|wB 2 I ?_
  exact Ql (i.next x u rfl) (by show va.length-(i.i+1)<va.length-i.i;omega) wv we λF h=>⟨h.1.1.1,trivial⟩
 have M:va.length<=i.i:=tD<|wj m
 refine Qx ?_
 repeat first|refine QY ?_|refine QO tH ?_
 refine QZ<|wE 3 I ?_
 obtain⟨⟨K,S,L⟩,B,s,D,g⟩:=Q8.fix (w0:=w) (F0:=F) (bs1:=[]) (G:=_) i.hr;dsimp only at s D g;subst s;refine Zj g ?_;rw[B];dsimp only[Sr.v];refine wD 5 I ?_;exact QP ((⟨K,i.i,L⟩:Sr)) I (wT I) (rfl) λF ⟨⟨⟨ha,hb⟩,_⟩,o⟩=>i.row (tD i.le) o
theorem Xaj(T:Fits F w)(ha:QxR F ra va)(hb:QxR F rb vb)(X:va.length<=vb.length)(hn:ra.n<=1000000)(z:Xd1 va vb):QU prog 213 [ra.v,rb.v] w F (λ(c:Sr)=>c.v) (λc F=>QxR F c (H2 va vb)):=by
 have S:=ha.len;have R:=hb.len;refine QU.intro (G:=λF=>QxR F ra va/\QxR F rb vb) func213 rfl tH rfl rfl T (λF' y=>⟨ha.le y,hb.le y⟩)<|wa<|wZ rfl<|wa<|wZ rfl<|QG<|wa<|wZ rfl<|QV<|JU (ι:=Xaf (va.length) ((λk=>DM va vb k (k+1)))) [(0,_),(1,_)] (λi=>[(5,i.v),(6,.int .i64 ((i.i:Nat):Int))]) (λi=>i.ob) (λi F=>True) (λi=>(va.length)-i.i) (Xaf.start _ _) wm wm we tL λi=>?_
 simp only[ab,ae];have hi:=i.le;refine wA 5 I<|QA (Qg I XF)<|wD 3 I ?_
 refine QQ I (λg=>?_) λg=>?_
 ·have m:i.i<va.length:=tD<|wi g
  have Q:=Qw m;refine wC 6 I<|QI I (λ_ _ f k=>VC f) λ_=>Qc Xa λD=>QW (vs:=[_,_]) I I I Jd I .here .h2 wm<|wD 9 I<|JU (ι:=NtI (i.i+1)) [(0,_),(1,_),(5,_),(6,_),(7,_)] (λi2=>[(8,.int .i64 ((i2.i:Nat):Int))]) (λi2=>(D,.cells [tx (JP (DM va vb i.i i2.i).1),tx (JP (DM va vb i.i i2.i).2)].toArray 40 (0,0))::i.ob) (λi2 F=>True) (λi2=>i.i+1-i2.i) (⟨0,aq _⟩) wy wk ((by show aJ (α:=Nat×Obj) ((D,.cells [tx (JP ((0,0):Rat×Rat).1),tx (JP ((0,0):Rat×Rat).2)].toArray 40 (0,0))::i.ob) _;rw[show JP ((0,0):Rat×Rat).1=[48]from by decide +kernel];exact av _)) tL λi2=>?_
  simp only[ab,ae];have N:=i2.le;refine wA 8 I ?_;refine QQ I (λg=>?_) λg=>?_
  ·have H:i2.i<=i.i:=tD<|wi g
   refine wC 4 I<|Jq 13 we mixed tE tE ?_
   simp only[aK,aM,aL,aY];refine QK (wN I Jd .here)<|QK (QD I)<|QK (QD I)<|QK (Q3 (n:=ra.n) (i2.i) (λF h9=>h9.1.1.1.1.row) rfl rfl XF Jd O)<|QK (JZ (n:=ra.n) (vs:=[tx (JP (el va (i2.i)).1),tx (JP (el va (i2.i)).2)]) ((i2.i)*2) (λF h9=>h9.1.1.1.1.row) O rfl Jd I λj v B=>JN (f:=LP) (l:=va) uh O B)<|QK (QD I)<|QK (QD I)<|QK (QD I)<|QK (X3 I I O)<|QK (Q3 (n:=rb.n) ((i.i-i2.i)) (λF h9=>h9.1.1.1.2.row) rfl wS XF Jd O)<|QK (JZ (n:=rb.n) (vs:=[tx (JP (el vb ((i.i-i2.i))).1),tx (JP (el vb ((i.i-i2.i))).2)]) (((i.i-i2.i))*2) (λF h9=>h9.1.1.1.2.row) O rfl Jd I λj v B=>JN (f:=LP) (l:=vb) uh O B)<|QR I (λ_ _ f k=>QEl (a:=el va i2.i) (b:=el vb (i.i-i2.i)) f (z.eb _ O).1 (z.eb _ O).2) λ_=>QR I (λ_ _ f k=>uz (a:=(DM va vb i.i i2.i)) (b:=(Jg (el va i2.i) (el vb (i.i-i2.i)))) f (z.cv _ m _ O) (z.pr _ m _ O)) λ_=>ZS<|QW (vs:=[_,_]) I I I Jd I .here .h2 wm<|QE<|Qj<|wE 3 I<|QA (Qu I I O)<|wB 2 I ?_
   exact Ql (⟨i2.i+1,O⟩) (by show i.i+1-(i2.i+1)<i.i+1-i2.i;omega) wz ((by show aJ (α:=Nat×Obj) (((D,.cells [tx (JP (DM va vb i.i (i2.i+1)).1),tx (JP (DM va vb i.i (i2.i+1)).2)].toArray 40 (0,0)))::i.ob) _;rw[Ro];exact av _)) λF h=>⟨h.1.1.1,trivial⟩
  have K:¬i2.i<=i.i:=tD<|wj g
  refine Qx ?_
  repeat first|refine QY ?_|refine QO tH ?_
  refine QZ<|wE 3 I<|QA (wN I Jd .here)<|Qb I (Q5 XF) Jd Xa I I λU=>?_
  refine Z4 (bs1:=[_]) (ob:=i.ob) (n:=i.i) (k:=1) (sz:=2) (news:=(LP (DM va vb i.i i2.i))) I I XF Jd Xa I QAH i.hr (Src.row (off:=0) tO (λj q hq=>by rw[aP];rw[aG];exact hq) rfl) O O (QEi _) (λv37 E x=>?_);refine wB 2 I<|Qj<|wE 3 I<|QA (Qu I I O)<|wB 2 I ?_
  exact Ql (i.next m x (by rw[show i2.i=i.i+1 by omega])) (by show va.length-(i.i+1)<va.length-i.i;omega) wv (.cons _ we) λF h=>⟨h.1.1.1.1,trivial⟩
 have P:va.length<=i.i:=tD<|wj g
 refine Qx ?_
 repeat first|refine QY ?_|refine QO tH ?_
 refine QZ<|wE 3 I ?_
 obtain⟨⟨L,V,M⟩,A,u,C,o⟩:=Q8.fix (w0:=w) (F0:=F) (bs1:=[]) (G:=_) i.hr;dsimp only at u C o;subst u;refine Zj o ?_;rw[A];dsimp only[Sr.v];refine wD 5 I ?_;exact QP ((⟨L,i.i,M⟩:Sr)) I (wT I) (rfl) λF ⟨⟨⟨ha,hb⟩,_⟩,s⟩=>i.row (tD i.le) s
theorem Xax{w0:World}{F0:Gs}{bs:List (Nat×Obj)}{G:Gs->Prop}{a:Rat}{n:Nat}(hn:n<=1000000):XN prog 212 [tx (JP a),.int .i64 (n:Int)] ⟨w0,F0,bs,G⟩ (λ(c:Xd3 (Ek a n))=>c.v) (λc=>⟨w0,F0,c.ob++bs,G⟩):=by
 refine XN.intro func212 rfl tH rfl rfl<|wa<|wZ rfl<|wb rfl<|QI rfl (λ_ _ f k=>VC f) λ_=>Y2 rfl (Q5 XF) Jd Xa rfl rfl λy=>wZ rfl<|QG<|wa<|wZ rfl<|QV<|JU (ι:=CsQ a n) [(1,_)] (λi=>[(5,i.v),(6,.int .i64 ((i.j:Nat):Int))]) (λi=>i.ob++bs) (λi F=>True) (λi=>n-i.j) (⟨0,_,_,aq _,.some (n:=1) (l:=(Ek a 0).flatMap LP) (rest:=[]) rfl rfl (ah _) tF⟩) wk wm we tL λi=>?_
 simp only[ab,ae];have hi:=i.le;refine wA 8 I ?_;refine QQ I (λb=>?_) λb=>?_
 ·have u:i.j<n:=tD<|wi b
  refine wC 6 I<|QI I (λ_ _ f k=>VC f) λ_=>Qb I (Q5 XF) Jd Xa I I λx=>?_
  refine Mf (bs:=bs) (n:=i.j+1) (k:=1) (sz:=2) (news:=LP (0,0)) I I XF Jd Xa I QAH i.hr (Src.row (off:=0) tO (λj q hq=>by rw[aP];rw[aG];rw[LP,Xb8]at hq;exact hq) rfl) O O (QEi _) (λo g m=>?_);refine wB 2 I<|Qj<|wE 3 I<|QA (Qu I I O)<|wB 2 I ?_
  exact Ql (⟨i.j+1,o,g,O,by rw[Xcc];exact m⟩) (by show n-(i.j+1)<n-i.j;omega) wu we λF h=>⟨h.1.1.1,trivial⟩
 have s:i.j=n:=tD<|wj b
 refine Qx ?_
 repeat first|refine QY ?_|refine QO tH ?_
 refine QZ<|wE 8 I ?_
 exact Y3 (⟨i.v,i.ob,by have h:=i.hr;rw[s]at h;rw[Xa1];exact h⟩) I (wT I) (rfl) λw h=>h.imp we λF h9=>h9.1.1
theorem Xaw{a:Rat}{n:Nat}(o:Fits F w)(hn:n<=1000000):QU prog 212 [tx (JP a),.int .i64 (n:Int)] w F (λ(c:Sr)=>c.v) (λc F=>QxR F c (Ek a n)):=by
 have h:=Xax (w0:=w) (F0:=F) (bs:=[]) (G:=λF'=>Gs.le F F') (a:=a) hn;refine⟨h.1,(h.2 w (St.start o λ_ h=>h)).mono ?_⟩;rintro e w' ⟨c,rfl,j⟩;dsimp only at j;rw[List.append_nil]at j;obtain⟨s,l,b,m,f⟩:=Q8.fix (w0:=w) (F0:=F) (bs1:=[]) c.hr;obtain⟨F',i⟩:=f w' j;exact⟨s,F',by show Ending.returned c.v=_;rw[l],i.ext,i.le,i.old,i.fits,λF'' k=>⟨by rw[b];exact(i.g F'' k).2,b.symm⟩⟩
def ja{l:List Int}(h:k<l.length):Qm l k∈l:=by rw[Z9 h];exact bQ h
theorem DG.drop{l:List Int}(hd:DG B9 l)(k:Nat):DG B9 (l.drop k):=λx hx=>hd x (List.mem_of_mem_drop hx)
def Xbq(l m:List XP):(l++m).flatMap LP=l.flatMap LP++m.flatMap LP:=by rw[List.flatMap_append]
def QCn(l:List XP):(l.flatMap LP).length=l.length*2:=Dq (f:=LP) uh l
def Xcr{l:List XP}{rest:List Value}(h:i<l.length)(x:XP):VG (l.flatMap LP++rest) (0+i*2) (LP x) ((l.set i x).flatMap LP++rest):=by
 have b:l=l.take i++l[i]::l.drop (i+1):=by rw[List.getElem_cons_drop];simp
 have a:l.set i x=l.take i++x::l.drop (i+1):=by rw[List.set_eq_take_append_cons_drop,if_pos h]
 rw[a]
 conv=>arg 1;rw[b]
 rw[Xbq,Xbq,bA,bA,aZ,aZ,aZ,aZ,show 0+i*2=((l.take i).flatMap LP).length by rw[QCn,aH];omega];exact Nt I
def Xcf(t:XP):(Ek 0 0).set 0 t=KC t 0:=rfl
def Xce(t:XP)(n:Nat):((Ek 0 (n+1)).set 0 t).set 1 (1,1)=KC t (n+1):=by
 show((((0:Rat),(0:Rat))::List.replicate (n+1) (0,0)).set 0 t).set 1 (1,1)=_;rw[List.replicate_succ];rfl
def Xbr{vs:List XP}{rest:List Value}(h:F b=some ((vs.flatMap LP++rest).toArray,40))(a:vs.length=n):QxR F ⟨some ⟨b,0,none⟩,n,c⟩ vs:=⟨Qy.pre h (by rw[QCn,a]),a⟩
theorem Xbu{n:Nat}(b:Fits F w)(h:Jp s=0)(hn:n<=1000000):QU prog 212 [tx s,.int .i64 (n:Int)] w F (λ(c:Sr)=>c.v) (λc F=>QxR F c (Ek (Qz s) n)):=by
 have:=Xaw (a:=Qz s) b hn;rw[<-(XM h).1]at this;exact this
structure Xa6(F:Gs)(r:Sr)(ls:List Sr)(vs:List (List XP)):Prop where
 row:Qy F r.q r.n 1 (ls.map Sr.v)
 len:ls.length=r.n
 YI:vs.length=r.n
 q:∀i,i<r.n->QxR F (el ls i) (el vs i)
theorem Xa6.le{r:Sr}{vs:List (List XP)}(h:Xa6 F r ls vs)(k:Gs.le F F'):Xa6 F' r ls vs:=⟨h.row.le k,h.len,h.YI,λi hi=>(h.q i hi).le k⟩
structure Xd2(P:List Tm)(all:List (List XP))(n:Nat):Prop where
 len:∀v,v<all.length->(el all v).length=n+1
 ks:∀u∈P,u.2.length=all.length/\∀k∈u.2,0<=k/\k<=1000
 rt:∀u∈P,∀v,v<all.length->∀m,m<(Qm u.2 v).toNat->Xd1 (NW (B4 u.1 u.2 all n v) (el all v) m) (el all v)
 mn:∀u∈P,∀x∈B4 u.1 u.2 all n all.length,Xf x 100000
 sm:∀j,j<=P.length->∀x∈Vw (P.take j) all n,Xf x 100000
structure SqJ(n:Nat) where
 i:Nat
 c:Sr
 le:i<=n
def Xbw(c:Rat)(ks:List Int)(all:List (List XP))(n v:Nat):B4 c ks all n (v+1)=NW (B4 c ks all n v) (el all v) (Qm ks v).toNat:=by unfold B4;rw[aU,aI];rfl
def Xbv(y b:List XP)(m:Nat):NW y b (m+1)=H2 (NW y b m) b:=by unfold NW;rw[aU,aI];rfl
def Xb7{p:List Tm}{all:List (List XP)}{j:Nat}(h:j<p.length):Vw (p.take (j+1)) all n=My (Vw (p.take j) all n) (B4 (el p j).1 (el p j).2 all n all.length):=by unfold Vw;rw[XE h,aI];rfl
def Xcx(h:i<ps.length):el (ps.map R6) i=(Qz (el ps i).f,(el ps i).k):=by rw[Jb (by simpa using h),Jb h];simp[R6]
theorem Xc8{t:XP}{n:Nat}(A:Fits F w)(hn:n<=1000000):QU prog 119 [kh t,.int .i64 (n:Int)] w F (λ(c:Sr)=>c.v) (λc F=>QxR F c (KC t n)):=by
 refine QU.intro (G:=λF=>True) func119 rfl tH rfl rfl A tL<|wa<|Qp rfl (vs:=[_,_]) rfl λb2=>wZ rfl<|wa<|wW rfl ?_
 rw[<-Xb8];refine XX I (List.Perm.refl _) (Xax (a:=0) (n:=n) hn) (λB=>?_);obtain⟨x,g,u,j,o,s,y⟩:=Xcz B.hr (by rw[Xa1];omega);rw[Xa1]at j s;rw[j,o];rw[List.singleton_append];refine wD 6 I<|QA (wN I Jd .u1)<|QA (JL (i:=0) rfl rfl XF Jd O)<|QW (vs:=LP t) rfl rfl rfl Jd I .here (Xcr (i:=0) (by rw[Xa1];omega) t) wm<|wD 9 I ?_
 refine QQ I (λh=>?_) λh=>?_
 ·have h12:0<n:=tD<|wi h
  refine wA 2 I<|QI I (λ_ _ f k=>VC f) λ_=>QA (JL (i:=1) rfl rfl XF Jd O)<|QW (vs:=[tx [49],tx [49]]) I I I Jd I .here (by have h9:=Xcr (l:=(Ek 0 n).set 0 t) (rest:=g) (i:=1) (by rw[bm,Xa1];omega) (1,1);unfold LP at h9;rw[Xcw]at h9;exact h9) wm<|wY<|wa<|VI (b:=x) .here<|wD 5 I ?_
  exact QP ((⟨some ⟨x,0,none⟩,n+1,u⟩:Sr)) rfl (wT rfl) (rfl) λF ⟨⟨z,_⟩,hz⟩=>(by obtain⟨m,rfl⟩:∃m,n=m+1:=⟨n-1,O⟩;rw[<-Xce];exact Xbr hz (by rw[bm,bm,Xa1]))
 have h12:n=0:=tD<|wj h
 refine wC 4 I<|VI (b:=x) .here<|wD 5 I ?_
 exact QP ((⟨some ⟨x,0,none⟩,n+1,u⟩:Sr)) I (wT I) (rfl) λF ⟨z,hz⟩=>(by subst h12;rw[<-Xcf];exact Xbr hz (by rw[bm,Xa1]))
theorem Xcm{q:Option Addr}{np cp:Nat}{all:List (List XP)}{n:Nat}(hF:Fits F w)(z:Qy F q np 2 (ps.flatMap VM))(A:Yy F ps)(hnp:ps.length=np)(V:∀t∈ps,Jp t.f=0)(hx:Xa6 F ra ls all)(hb:np<=1000000/\ra.n<=1000000/\n<=1000)(H:Xd2 (ps.map R6) all n):QU prog 120 [.slice q np cp,ra.v,.int .i64 (n:Int)] w F (λ(c:Sr)=>c.v) (λc F=>QxR F c (Vw (ps.map R6) all n)):=by
 have hxl:=hx.len;have hvl:=hx.YI;have Q:(ps.map R6).length=ps.length:=by rw[ag]
 refine QU.intro (G:=λF=>Qy F q np 2 (ps.flatMap VM)/\Yy F ps/\Xa6 F ra ls all) func120 rfl tH rfl rfl hF (λF' B=>⟨z.le B,A.le B,hx.le B⟩)<|wa<|wZ rfl<|wa<|wW rfl ?_
 rw[<-Xb8];refine QI I (λ_ _ f k=>Xaw (a:=0) (n:=n) f O) (λc13=>wD 10 I<|JU (ι:=SqJ ps.length) [(0,_),(1,_),(2,_)] (λi=>[(7,.slice i.c.q i.c.n i.c.cap),(8,.int .i64 ((i.i:Nat):Int))]) (λi=>[]) (λi F=>QxR F i.c (Vw ((ps.map R6).take i.i) all n)) (λi=>ps.length-i.i) (⟨0,c13,aq _⟩) wu wm we tO λi=>?_);simp only[ab,ae];have hi:=i.le;refine wA 5 I<|QA (Qg I Zg)<|wD 3 I ?_
 refine QQ I (λb=>?_) λb=>?_
 ·have x:i.i<ps.length:=tD<|wi b
  have u:=Qw x;have m:(Qz (el ps i.i).f,(el ps i.i).k)∈(ps.map R6):=aC (f:=R6) u;have L:=(H.ks _ m);have E:=H.mn _ m;refine wC 8 I<|QA (Q3 (n:=np) i.i (λF h9=>h9.1.1.1) rfl rfl Zg Xh O)<|QA (QH I GM JF)<|QA (JA (n:=np) ((i.i)*2+0) (λF h9=>h9.1.1.1) O rfl JF (JN (f:=VM) (l:=ps) YR O rfl))<|wW I<|QI I (λ_ _ f k=>Xbu (n:=n) f (V _ u) O) λc26=>wD 10 I<|JU (ι:=SqJ all.length) [(0,_),(1,_),(2,_),(7,_),(8,_)] (λi2=>[(9,.slice i2.c.q i2.c.n i2.c.cap),(10,.int .i64 ((i2.i:Nat):Int))]) (λi2=>[]) (λi2 F=>QxR F i2.c (B4 (Qz (el ps i.i).f) (el ps i.i).k all n i2.i)) (λi2=>all.length-i2.i) (⟨0,c26,aq _⟩) wy wm we tO λi2=>?_
  simp only[ab,ae];have hi2:=i2.le;refine wA 5 I<|QA (Qg I Sk)<|wD 3 I ?_
  refine QQ I (λb=>?_) λb=>?_
  ·have s:i2.i<all.length:=tD<|wi b
   have D:=H.rt _ m _ s;refine XV _ (λ_ _ f k=>(k.1.1.1.1.2.1 _ u).2.1) (λhkl=>?_);have T:=L.1;dsimp only at T;have hk0:=L.2 (Qm (el ps i.i).k i2.i) (ja O);refine wC 10 I<|JU (ι:=SqJ (Qm (el ps i.i).k i2.i).toNat) [(0,_),(1,_),(2,_),(7,_),(8,_),(10,_)] (λi3=>[(9,.slice i3.c.q i3.c.n i3.c.cap),(11,.int .i64 ((i3.i:Nat):Int))]) (λi3=>[]) (λi3 F=>QxR F i3.c (NW (B4 (Qz (el ps i.i).f) (el ps i.i).k all n i2.i) (el all i2.i) i3.i)) (λi3=>(Qm (el ps i.i).k i2.i).toNat-i3.i) (⟨0,i2.c,aq _⟩) wz wm we tO λi3=>?_
   simp only[ab,ae];have hi3:=i3.le;refine wA 6 I<|QA (Q3 (n:=np) i.i (λF h9=>h9.1.1.1.1.1.1) rfl rfl Zg Xh O)<|QA (QH I Yh JM)<|QA (JA (n:=np) ((i.i)*2+1) (λF h9=>h9.1.1.1.1.1.1) O rfl JM (JN (f:=VM) (l:=ps) YR O rfl))<|wW I<|QA (Q3 (n:=(el ps i.i).r.n) (i2.i) (λF h9=>((h9.1.1.1.1.1.2.1 _ u)).1) rfl rfl Q2 JK O)<|QA (JA (n:=(el ps i.i).r.n) ((i2.i)*1) (λF h9=>((h9.1.1.1.1.1.2.1 _ u)).1) O rfl JK (Jz (o:=(el ps i.i).k) O))<|wD 3 I ?_
   refine QQ I (λb=>?_) λb=>?_
   ·have K:i3.i<(Qm (el ps i.i).k i2.i).toNat:=tD<|wi b
    refine wC 8 I<|QA (Q3 (n:=ra.n) (i2.i) (λF h9=>h9.1.1.1.1.1.2.2.row) rfl rfl Sk J0 O)<|QA (JA (n:=ra.n) ((i2.i)*1) (λF h9=>h9.1.1.1.1.1.2.2.row) O rfl J0 (XT (f:=Sr.v) (l:=ls) O))<|QI I (λ_ _ g h=>Xaj (va:=(NW (B4 (Qz (el ps i.i).f) (el ps i.i).k all n i2.i) (el all i2.i) i3.i)) (vb:=el all i2.i) g h.2 (h.1.1.1.1.1.2.2.q _ O) (by rw[BA,Kf,H.len _ s];exact ah _) (by have h8:=h.2.len;rw[BA,Kf]at h8;omega) (D _ O)) λS=>wB 2 I<|Qj<|wE 3 I<|QA (Qu I I O)<|wB 2 I ?_
    exact Ql (⟨i3.i+1,S,K⟩) (by show(Qm (el ps i.i).k i2.i).toNat-(i3.i+1)<(Qm (el ps i.i).k i2.i).toNat-i3.i;omega) w8 we λF ⟨⟨⟨⟨⟨⟨⟨z,A,hx⟩,j⟩,C⟩,y⟩,X⟩,P⟩,Z⟩=>⟨⟨⟨⟨⟨⟨z,A,hx⟩,j⟩,C⟩,y⟩,X⟩,by show QxR F S (NW (B4 (Qz (el ps i.i).f) (el ps i.i).k all n i2.i) (el all i2.i) (i3.i+1));rw[Xbv];exact Z⟩
   have N:i3.i=(Qm (el ps i.i).k i2.i).toNat:=tD<|wj b
   refine Qx ?_
   repeat first|refine QY ?_|refine QO tH ?_
   refine QZ<|Qj<|wE 3 I<|QA (Qu I I O)<|wB 2 I ?_
   exact Ql (⟨i2.i+1,i3.c,s⟩) (by show all.length-(i2.i+1)<all.length-i2.i;omega) w6 we λF ⟨⟨⟨⟨⟨⟨z,A,hx⟩,j⟩,C⟩,y⟩,X⟩,P⟩=>⟨⟨⟨⟨⟨z,A,hx⟩,j⟩,C⟩,y⟩,by show QxR F i3.c (B4 (Qz (el ps i.i).f) (el ps i.i).k all n (i2.i+1));rw[Xbw];have h8:=P;rw[N]at h8;exact h8⟩
  have M:i2.i=all.length:=tD<|wj b
  refine Qx ?_
  repeat first|refine QY ?_|refine QO tH ?_
  refine QZ<|wE 4 I<|QI I (λ_ _ g h=>Xam (va:=Vw ((ps.map R6).take i.i) all n) (vb:=B4 (Qz (el ps i.i).f) (el ps i.i).k all n all.length) g h.1.1.2 (by have h8:=h.2;rw[M]at h8;exact h8) (by rw[KI,Kf];exact ah _) (by have h8:=h.1.1.2.len;rw[KI]at h8;omega) (H.sm _ O) E) λR=>wB 2 I<|Qj<|wE 3 I<|QA (Qu I I O)<|wB 2 I ?_
  exact Ql (⟨i.i+1,R,x⟩) (by show ps.length-(i.i+1)<ps.length-i.i;omega) wy we λF ⟨⟨⟨⟨⟨⟨z,A,hx⟩,j⟩,C⟩,y⟩,X⟩,Y⟩=>⟨⟨⟨z,A,hx⟩,j⟩,by show QxR F R (Vw ((ps.map R6).take (i.i+1)) all n);rw[Xb7 (by rw[Q];exact x),Xcx x];exact Y⟩
 have U:ps.length<=i.i:=tD<|wj b
 refine Qx ?_
 repeat first|refine QY ?_|refine QO tH ?_
 refine QZ<|wE 8 I ?_
 exact QP (i.c) rfl (wT I) (rfl) λF ⟨⟨⟨z,A,hx⟩,j⟩,C⟩=>(by have h8:=C;rw[aN (by rw[Q];exact U)]at h8;exact h8)
theorem QGJ{a:XP}{n:Int}(b:Fits F w)(ha:Xf a 2000)(hn:0<=n/\n<=12):Qf prog 228 [kh a,.int .i64 n] w F (kh (Y5 a n)):=by
 have h:=gQ (a:=a) (n:=n) b ha hn;rw[<-pow_eq]at h;exact h
structure jT(Z D T S:Nat)(ps:List V0)(bs:List XP):Prop where
 poc:ke Z D T bs.length (ps.map R6)
 ck:∀t∈ps,Jp t.f=0
 sz:∀x∈bs,Xf x S
 s1:S<=2000
 n1:Z+D*(S+1)<=45000
 n2:CO Z D T S<=90000
def jT.pw(h:jT Z D T S ps bs){t:V0}(ht:t∈ps):t.k.length=bs.length/\∀k∈t.k,0<=k/\k<=12:=⟨h.poc.pl _ (aC (f:=R6) ht),h.poc.pw _ (aC (f:=R6) ht)⟩
def jT.refs(h:jT Z D T S ps bs){t:V0}(ht:t∈ps){i:Nat}(hi:i<=bs.length):Xf (Ip (Qz t.f,Qz t.f) bs t.k i) 45000:=by
 rw[(gV (yp λk hk=>((h.pw ht).2 k hk).1) i).1];have h1:=Cm h.poc I h.sz (aC (f:=R6) ht) i hi;refine Xf.mono h1 (ak (bM (aj _ (ak (Dl _ hi) (h.poc.sum _ (aC (f:=R6) ht)))) Z) h.n1)
def jT.QI6(h:jT Z D T S ps bs){t:V0}(ht:t∈ps){i:Nat}(hi:i<bs.length):Xf (Y5 (el bs i) (Qm t.k i)) 45000:=by
 have h1:=QEv (Qm t.k i) (show Ux S (el bs i)from h.sz _ (Qw hi));have h2:=(h.pw ht).2 (Qm t.k i) (ja (by rw[(h.pw ht).1];exact hi));have h3:(Qm t.k i).toNat*S<=12*2000:=bW O h.s1;exact⟨ak h1.1 O,ak h1.2 O⟩
theorem vJ(h:∀t∈ps,∀k∈t.k,0<=k)(i:Nat):Uy bs ((ps.take i).map R6)=J3 bs ((ps.map R6).take i):=by
 rw[<-bY];exact QGN λt ht k hk=>by
  rw[bY]at ht;obtain⟨s,a,rfl⟩:=List.mem_map.1 (List.mem_of_mem_take ht);exact h s a k hk
theorem jT.ev(h:jT Z D T S ps bs){i:Nat}(hi:i<=ps.length):Xf (Uy bs ((ps.take i).map R6)) 90000:=by
 rw[vJ λt ht k hk=>((h.pw ht).2 k hk).1];have h1:=Ii h.poc I h.sz i (by rw[ag];exact hi);refine h1.mono (ak ?_ h.n2);unfold CO;exact bM (aj _ (ak hi (by have:=h.poc.len;rw[ag]at this;exact this))) 2
theorem ux{q:Option Addr}{cap:Nat}(hF:Fits F w)(hR:Qy F q n 2 (ps.flatMap VM))(U:Yy F ps)(hln:ps.length=n)(R:QxR F rb bs)(x:jT Z D T S ps bs)(hb:n<=1000000/\rb.n<=1000000):
  Qf prog 136 [.slice q n cap,rb.v] w F (kh (J3 bs (ps.map R6))):=by
 have X:=R.len;refine QU.intro (G:=λF=>Qy F q n 2 (ps.flatMap VM)/\Yy F ps/\QxR F rb bs) func136 rfl tH rfl rfl hF (λF' z=>⟨hR.le z,U.le z,R.le z⟩)<|wa<|Qc Xa λb4=>wY<|wa<|QI rfl (λ_ _ f k=>VC f) λ_=>Qc Xa λA=>QW (vs:=[_,_]) rfl rfl rfl Jd rfl .here .h2 wm<|wD 5 I<|wZ rfl<|QV<|JU (ι:=NtI ps.length) [(0,_),(1,_),(4,_),(5,_)] (λi=>[(6,.int .i64 ((i.i:Nat):Int))]) (λi=>[(A,.cells [tx (JP (Uy bs ((ps.take i.i).map R6)).1),tx (JP (Uy bs ((ps.take i.i).map R6)).2)].toArray 40 (0,0)),(b4,.cells [tx [],tx []].toArray 40 (0,0))]) (λi F=>True) (λi=>ps.length-i.i) (⟨0,aq _⟩) wv wk ((by show aJ (α:=Nat×Obj) [(A,.cells [tx (JP ((0,0):Rat×Rat).1),tx (JP ((0,0):Rat×Rat).2)].toArray 40 (0,0)),(b4,.cells [tx [],tx []].toArray 40 (0,0))] _;rw[show JP ((0,0):Rat×Rat).1=[48]from by decide +kernel];exact av _)) tL λi=>?_
 simp only[ab,ae];have hi:=i.le;have C:=x.ev hi;refine wA 5 I<|QA (Qg I Zg)<|wD 3 I ?_
 refine QQ I (λs=>?_) λs=>?_
 ·have y:i.i<ps.length:=tD<|wi s
  have m:=Qw y;have E:=x.ck _ m;obtain⟨hkl,L⟩:=x.pw m;have Y:=(U _ m).2.1;refine wC 8 I<|QA (Q3 (n:=n) i.i (λF h9=>h9.1.1.1) rfl rfl Zg Xh O)<|QA (QH I GM JF)<|QA (JA (n:=n) ((i.i)*2+0) (λF h9=>h9.1.1.1) O rfl JF (JN (f:=VM) (l:=ps) YR O rfl))<|QI I (λ_ _ f k=>VC f) λ_=>Qc Xa λP=>QW (vs:=[_,_]) I I I Jd I .here .h2 wm<|wD 9 I<|JU (ι:=NtI bs.length) [(0,_),(1,_),(4,_),(5,_),(6,_),(7,_)] (λi2=>[(8,.int .i64 ((i2.i:Nat):Int))]) (λi2=>[(P,.cells [tx (JP (Ip (Qz (el ps i.i).f,Qz (el ps i.i).f) bs (el ps i.i).k i2.i).1),tx (JP (Ip (Qz (el ps i.i).f,Qz (el ps i.i).f) bs (el ps i.i).k i2.i).2)].toArray 40 (0,0)),(A,.cells [tx (JP (Uy bs ((ps.take i.i).map R6)).1),tx (JP (Uy bs ((ps.take i.i).map R6)).2)].toArray 40 (0,0)),(b4,.cells [tx [],tx []].toArray 40 (0,0))]) (λi2 F=>True) (λi2=>bs.length-i2.i) (⟨0,aq _⟩) wz wk ((by show aJ (α:=Nat×Obj) [(P,.cells [tx (JP ((Qz (el ps i.i).f,Qz (el ps i.i).f):Rat×Rat).1),tx (JP ((Qz (el ps i.i).f,Qz (el ps i.i).f):Rat×Rat).2)].toArray 40 (0,0)),(A,.cells [tx (JP (Uy bs ((ps.take i.i).map R6)).1),tx (JP (Uy bs ((ps.take i.i).map R6)).2)].toArray 40 (0,0)),(b4,.cells [tx [],tx []].toArray 40 (0,0))] _;dsimp only;rw[<-(XM E).1];exact av _)) tL λi2=>?_
  simp only[ab,ae];have hj:=i2.le;have B:=x.refs m hj;refine wA 5 I<|QA (Qg I XF)<|wD 3 I ?_
  refine QQ I (λs=>?_) λs=>?_
  ·have u:i2.i<bs.length:=tD<|wi s
   have H:=(x.sz _ (Qw u)).mono x.s1;have N:=L (Qm (el ps i.i).k i2.i) (ja O);have K:=x.QI6 m u;refine wC 4 I<|Jq 15 we mixed tE tE ?_
   simp only[aK,aM,aL,aY];refine QK (wN I Jd .here)<|QK (QD I)<|QK (QD I)<|QK (Q3 (n:=rb.n) (i2.i) (λF h9=>h9.1.1.1.1.2.2.row) rfl rfl XF Jd O)<|QK (JZ (n:=rb.n) (vs:=[tx (JP (el bs (i2.i)).1),tx (JP (el bs (i2.i)).2)]) ((i2.i)*2) (λF h9=>h9.1.1.1.1.2.2.row) O rfl Jd I λj v V=>JN (f:=LP) (l:=bs) uh O V)<|QK (QD I)<|QK (QD I)<|QK (Q3 (n:=n) i.i (λF h9=>h9.1.1.1.1.1) rfl rfl Zg Xh O)<|QK (QH I Yh JM)<|QK (JA (n:=n) ((i.i)*2+1) (λF h9=>h9.1.1.1.1.1) O rfl JM (JN (f:=VM) (l:=ps) YR O rfl))<|QK (QD I)<|QK (Q3 (n:=(el ps i.i).r.n) (i2.i) (λF h9=>((h9.1.1.1.1.2.1 _ m)).1) rfl rfl Q2 JK O)<|QK (JA (n:=(el ps i.i).r.n) ((i2.i)*1) (λF h9=>((h9.1.1.1.1.2.1 _ m)).1) O rfl JK (Jz (o:=(el ps i.i).k) O))<|QR I (λ_ _ f k=>QGJ (a:=el bs i2.i) f H N) λ_=>QR I (λ_ _ g h=>QEl (a:=(Ip (Qz (el ps i.i).f,Qz (el ps i.i).f) bs (el ps i.i).k i2.i)) (b:=Y5 (el bs i2.i) (Qm (el ps i.i).k i2.i)) g B K) λ_=>ZS<|QW (vs:=[_,_]) I I I Jd I .here .h2 wm<|QE<|Qj<|wE 3 I<|QA (Qu I I O)<|wB 2 I ?_
   exact Ql (⟨i2.i+1,u⟩) (by show bs.length-(i2.i+1)<bs.length-i2.i;omega) w6 ((by show aJ (α:=Nat×Obj) [(P,.cells [tx (JP (Ip (Qz (el ps i.i).f,Qz (el ps i.i).f) bs (el ps i.i).k (i2.i+1)).1),tx (JP (Ip (Qz (el ps i.i).f,Qz (el ps i.i).f) bs (el ps i.i).k (i2.i+1)).2)].toArray 40 (0,0)),(A,.cells [tx (JP (Uy bs ((ps.take i.i).map R6)).1),tx (JP (Uy bs ((ps.take i.i).map R6)).2)].toArray 40 (0,0)),(b4,.cells [tx [],tx []].toArray 40 (0,0))] _;rw[vI];exact av _)) λF h=>⟨h.1.1.1,trivial⟩
  have Q:i2.i=bs.length:=tD<|wj s
  refine Qx ?_
  repeat first|refine QY ?_|refine QO tH ?_
  refine QZ<|QC<|QB<|QA (wN I Jd .u1)<|QA (wN I Jd .here)<|QI I (λ_ _ g h=>QEq (a:=(Uy bs ((ps.take i.i).map R6))) (b:=(Ip (Qz (el ps i.i).f,Qz (el ps i.i).f) bs (el ps i.i).k i2.i)) g (Xf.mono C tF) (Xf.mono B tF)) λ_=>QW (vs:=[_,_]) I I I Jd I .u1 .h2 wm<|QE<|Qj<|wE 3 I<|QA (Qu I I O)<|wB 2 I ?_
  have ek:(el ps i.i).k.length=i2.i:=O;exact Ql (⟨i.i+1,y⟩) (by show ps.length-(i.i+1)<ps.length-i.i;omega) wy (.cons _ (by show aJ (α:=Nat×Obj) [(A,.cells [tx (JP (Uy bs ((ps.take (i.i+1)).map R6)).1),tx (JP (Uy bs ((ps.take (i.i+1)).map R6)).2)].toArray 40 (0,0)),(b4,.cells [tx [],tx []].toArray 40 (0,0))] _;rw[QDT y,ek];exact av _)) λF h=>⟨h.1.1.1.1,trivial⟩
 have M:i.i=ps.length:=tD<|wj s
 refine Qx ?_
 repeat first|refine QY ?_|refine QO tH ?_
 refine QZ<|QC<|wa<|QA (wN I Jd .here)<|QW (vs:=[_,_]) I I I Jd I .u1 .h2 wm<|wY<|QX ?_
 exact QP (()) I (.JX (c:=[_,_]) I Jd .u1 .nil) (by rw[M,vJ (λt ht k hk=>((x.pw ht).2 k hk).1),aN (by rw[ag];exact ah _)]) tL
def QA5(h:i<y.rl.length):el y.rs i=(el y.rl i).2.map R6:=by
 unfold Xz.rs;rw[Jb (by simpa using h),bR,Jb h,Mo]
theorem Xh8{h:Rat}{b:XP}(f:Fits F w)(c:JW h<=45000)(hb:Xf b 45000):Qf prog 121 [.agg #[tx [48],tx (JP h)],kh b] w F (kh (Jg (0,h) b)):=by
 have h1:=QEl (a:=((0,h):XP)) (b:=b) f ⟨ak uc tF,c⟩ hb;have e:kh ((0,h):XP) = .agg #[tx [48],tx (JP h)]:=by show Value.agg #[tx (JP 0),tx (JP h)]=_;rw[Xb8]
 rw[e]at h1;exact h1
structure Xf4(Z D T S:Nat)(y:Xz)(fr t2:Rat)(x on:List XP):Prop where
 ev:∀i,i<y.rl.length->jT Z D T S (el y.rl i).2 ((fr,t2)::on)
 ft:JW fr<=2000/\JW t2<=2000
 x:∀a∈x,Xf a 90000
 pl:∀e∈y.rl,e.2.length=e.1.n/\e.1.n<=1000
 n1:∀i,i<y.rl.length->Xf (J3 ((fr,t2)::on) (el y.rs i)) 40000
theorem Xh3{vx:List XP}(hF:Fits F w)(hy:X4 F y)(hx:QxR F rx vx)(B:QxR F ro on)(hl:vx.length<=y.rl.length)(hb:rx.n<=1000000/\ro.n<=100000)(A:Xf4 Z D T S y fr t2 vx on):QU prog 243 [y.v,tx (JP fr),rx.v,tx (JP t2),ro.v] w F (λ(c:Sr)=>c.v) (λc F=>QxR F c (YP y.rs fr t2 vx on)):=by
 have hxl:=hx.len;have P:=B.len;have hrl:=hy.Ka;have hs1:=BX t2 fr;refine QU.intro (G:=λF=>X4 F y/\QxR F rx vx/\QxR F ro on) func243 rfl tH rfl rfl hF (λF' K=>⟨hy.le K,hx.le K,B.le K⟩)<|wa<|Qp rfl (vs:=[_,_,_]) rfl λb5=>wZ rfl<|wb rfl<|wW rfl<|QI rfl (λ_ _ f k=>QHM (x:=t2) (y:=fr) f (tD A.ft.2) (tD A.ft.1)) λ_=>QA (Q4 I Zb Xa (wV I I I))<|Qc Xa λY=>QW (vs:=[_,_]) I I I Jd I .here .h2 wm<|wD 6 I<|QA (Q4 I Zb Xa (wV I I I))<|Y2 I (Q5 XF) Jd Xa I I λb22=>wW I<|ZL (ar (l₁:=[_])) ?_
 refine Z4 (bs1:=[_,_]) (ob:=[_]) (n:=1) (k:=ro.n) (sz:=2) (news:=on.flatMap LP) rfl rfl XF Jd Xa rfl QAH (.some (l:=[(fr,t2)].flatMap LP) (rest:=[]) rfl rfl (ah _) tF) (Src.gR B.row.cM (λF h9=>h9.1.2.2.row) (by rw[QCn,P])) O O (λv V=>by obtain⟨s,_,h⟩:=List.mem_flatMap.1 V;exact QEi s v h) (λv24 ob24 N=>?_);obtain⟨⟨R,rn,U⟩,C,z,E,o⟩:=Q8.fix (w0:=w) (F0:=F) (bs1:=[_,_]) (G:=_) N;dsimp only at z E o;subst z;refine Zj o ?_;rw[C];dsimp only[Sr.v];refine wD 15 I<|JU (ι:=Xaf (vx.length) ((λi=>Vz (el vx i) (Jg (0,t2-fr) (J3 ((fr,t2)::on) (el y.rs i)))))) [(2,_),(5,_),(11,_),(12,_)] (λi=>[(13,i.v),(14,.int .i64 ((i.i:Nat):Int))]) (λi=>(Y,.cells [tx [48],tx (JP (t2-fr))].toArray 40 (0,0))::(b5,.cells #[.slice y.nm.q y.nm.n y.nm.cap,.slice y.rt.q y.rt.n y.rt.cap,.slice y.st.q y.st.n y.st.cap] 38 (0,0))::i.ob) (λi F=>True) (λi=>(vx.length)-i.i) (Xaf.start _ _) wv wm we tL λi=>?_
 simp only[ab,ae];have hi:=i.le;refine wA 5 I<|QA (Qg I XF)<|wD 3 I ?_
 refine QQ I (λH=>?_) λH=>?_
 ·have Q:i.i<vx.length:=tD<|wi H
  have X:=Qw Q;have g:i.i<y.rl.length:=O;have u:=Qw g;refine wC 4 I<|JG tS mixed tE<|QK (QD I)<|QK (QD I)<|QK (QD I)<|QK (Q3 (n:=rx.n) i.i (λF h9=>h9.1.1.1.2.1.row) rfl rfl XF Jd O)<|QK (JZ (n:=rx.n) (vs:=[tx (JP (el vx i.i).1),tx (JP (el vx i.i).2)]) ((i.i)*2) (λF h9=>h9.1.1.1.2.1.row) O rfl Jd I λj v V=>JN (f:=LP) (l:=vx) uh O V)<|QK (wN I Jd .here)<|QK (QH I VY Z6)<|QK (Qe I Z6 .u1 (.skip .h1))<|QK (QD I)<|QK (Q3 (n:=y.rt.n) i.i (λF h9=>h9.1.1.1.1.rt) rfl rfl VJ Vu O)<|QK (JA (n:=y.rt.n) ((i.i)*1) (λF h9=>h9.1.1.1.1.rt) O rfl Vu (XT (f:=λe:NQ=>e.1.v) (l:=y.rl) O))<|QK (QD I)<|QR I (λ_ _ f k=>ux (ps:=(el y.rl i.i).2) (bs:=(fr,t2)::on) (rb:=⟨R,1+ro.n,U⟩) (q:=(el y.rl i.i).1.q) (n:=(el y.rl i.i).1.n) (cap:=(el y.rl i.i).1.cap) f (k.1.1.1.1.pl _ u).1 (k.1.1.1.1.pl _ u).2 (A.pl _ u).1 ⟨k.1.2,by rw[aB,P,bG]⟩ (A.ev _ g) ⟨tD<|(A.pl _ u).2,by dsimp only;omega⟩) λ_=>?_
  rw[<-QA5 g];refine QR I (λ_ _ f k=>Xh8 (h:=t2-fr) (b:=(J3 ((fr,t2)::on) (el y.rs i.i))) f (tD A.ft) (Xf.mono (A.n1 _ g) tF)) (λ_=>QR I (λ_ _ f k=>uz (a:=el vx i.i) (b:=Jg ((0,t2-fr):Rat×Rat) (J3 ((fr,t2)::on) (el y.rs i.i))) f (Xf.mono (A.x _ X) tF) (Xf.mono (K7 (m:=4001) (n:=40000) (a:=((0,t2-fr):Rat×Rat)) ⟨by show JW 0<=_;exact ak uc tF,by show JW (t2-fr)<=_;have:=A.ft;omega⟩ (A.n1 _ g)) tF)) λ_=>?_);refine Qo I (Q5 XF) Jd Xa I I (λb46=>?_) (λw h=>h.imp tS λF h=>h.1.1.1);refine Y6 (ar (l₁:=[_,_])) ?_;refine Yz (n:=i.i) (k:=1) (sz:=2) (news:=(LP (Vz (el vx i.i) (Jg ((0,t2-fr):Rat×Rat) (J3 ((fr,t2)::on) (el y.rs i.i)))))) I I XF Jd Xa I QAH i.hr (Src.row (off:=0) tO (λj q hq=>by rw[aP];rw[aG];exact hq) rfl) O O (QEi _) we (λ_ h=>h.1.1.1.1) (λv47 ob47 M=>?_);refine Y6 (ar (l₂:=[_,_]))<|QK (QF I)<|Q7<|Qj<|wE 3 I<|QA (Qu I I O)<|wB 2 I ?_
  exact Ql (i.next Q M rfl) (by show vx.length-(i.i+1)<vx.length-i.i;omega) wz we λF h=>⟨h.1.1.1.1.1,trivial⟩
 have hge:vx.length<=i.i:=tD<|wj H
 refine Qx ?_
 repeat first|refine QY ?_|refine QO tH ?_
 refine QZ<|wE 3 I ?_
 obtain⟨⟨R,rn,U⟩,C,z,E,o⟩:=Q8.fix (w0:=w) (F0:=F) (bs1:=[_,_]) (G:=_) i.hr;dsimp only at z E o;subst z;refine Zj o ?_;rw[C];dsimp only[Sr.v];refine wD 5 I ?_;exact QP ((⟨R,i.i,U⟩:Sr)) I (wT I) (rfl) λF ⟨⟨⟨⟨⟨hy,hx,B⟩,_⟩,hall⟩,_⟩,L⟩=>i.row (tD i.le) L
def Xc9{vs:List Value}{z v:Value}(h:vs.length=i)(hi:i<n):VG (vs++Xg [z] (n-i)) (0+i*1) [v] ((vs++[v])++Xg [z] (n-(i+1))):=xo h hi
def Xas(F:Gs)(ls:List Sr)(f:Nat->List XP):Prop:=∀j,j<ls.length->QxR F (el ls j) (f j)
def Xas.snoc{f:Nat->List XP}{c:Sr}(h:Xas F ls f){i:Nat}(hi:ls.length=i)(hc:QxR F c (f i)):Xas F (ls++[c]) f:=λj a=>by
 rw[aE,List.length_singleton]at a;rcases aW j ls.length with g | g
 ·rw[Uf g];exact h j g
 have e:j=ls.length:=O;subst e;rw[G5 I,hi];exact hc
theorem Xas.row{vs:List (List XP)}(h:Xas F ls (el vs))(hb:F b=some ((ls.map Sr.v++Xg [.slice none 0 0] (n-ls.length)).toArray,36))(a:ls.length=n)(c:vs.length=n):Xa6 F ⟨some ⟨b,0,none⟩,n,n⟩ ls vs :=
 ⟨Qy.pre hb (by rw[ag,a,Nat.mul_one]),a,c,λi hi=>h i (by rw[a];exact hi)⟩
def Xa6.cons{q:Option Addr}{s:Sr}{v:List XP}{vs:List (List XP)}(hr:Qy F q (1+n) 1 ([s].map Sr.v++ls.map Sr.v))(b:QxR F s v)(h:∀i,i<n->QxR F (el ls i) (el vs i))(f:ls.length=n)(a:vs.length=n):Xa6 F ⟨q,1+n,c⟩ (s::ls) (v::vs) :=
 ⟨by rw[List.map_cons];exact hr,by rw[aB,f,bG],by rw[aB,a,bG],λi hi=>by
  cases i with
  |zero=>exact b
  |succ i=>exact h i (by dsimp only at hi;omega)⟩
theorem ui(l:List XP):∀v∈l.flatMap LP,v.oneCell'=true:=λv a=>by obtain⟨s,_,h⟩:=List.mem_flatMap.1 a;exact QEi s v h
def Xco{k:Nat}:Rat.divInt 1 ((k:Int)+1)=((((k+1:Nat):Int):Rat)⁻¹):=by
 rw[Rat.divInt_eq_div,Rat.div_def,Rat.intCast_one,Rat.one_mul];rfl
def Xck(h:k<=1000):Xf (((((k+1:Nat):Int):Rat)⁻¹,(((k+1:Nat):Int):Rat)⁻¹):XP) 45000:=by
 have h1:JW (((k+1:Nat):Int):Rat)⁻¹<=45000:=ak (Np (by show((k+1:Nat):Int)≠0;omega)) (by have h1:=GK ((k+1:Nat):Int);have h2:sz ((k+1:Nat):Int)<=40:=(XD _ 40).2 O;omega);exact⟨h1,h1⟩
section
variable{P:Program}{Q:Exit->Act->World->Prop}{N:Nat}{m:Sl}{ops:Array Oper}{l:List Oper}{w0:World}{F0:Gs}{bs:List (Nat×Obj)}{G:Gs->Prop}{ty:TypeId}{pos:String}{aft:Array Edge}{E0:Env}
theorem Xag{d:Nat}{t e:TypeId}{sz:Nat}{g:Bool}(ht:P.underlying t=some (.slice e))(n:Z5 P e=some (g,sz))(k:∀b,JD P ops Q E0 l N ((d,.slice (some ⟨b,0,none⟩) 0 0)::m) ⟨w0,F0,(b,.cells #[] e (0,0))::bs,G⟩)(hu:Hi e=true:=by rfl)(hd:J5 N (some d)=true:=by rfl):
  JD P ops Q E0 (⟨some d,.buildSlice t 0 #[],ty,pos,aft,none⟩::l) N m ⟨w0,F0,bs,G⟩:=λs a w ha j=>by
 have f:=j.alloc (.cells #[] e (0,0)) (ZN hu);have sub:∀w' b,St ⟨w0,F0,(b,.cells #[] e (0,0))::bs,G⟩ w'->St E0 w':=λw' b h=>s w' (h.imp (List.sublist_cons_self _ _) λ_ h=>h);refine .inr ⟨rfl,?_⟩;rw[if_pos (by simp[Region.wanted])];refine upon_value (v:=.slice (some ⟨w.heap.size,0,none⟩) 0 0) (w':=w.alloc (.cells #[] e)) ?_ ⟨sub _ _ f,k _ (λw' h=>sub w' _ h) _ _ (ha.put hd _) f⟩;have c:(bO t 0 #[]).run P w = .ok (.slice (some ⟨w.heap.size,0,none⟩) 0 0) (w.alloc (.cells #[] e)):=by
  have o:ep (λi=>some (i*sz,sz)) (Array.map (λx=>(#[]:Array Value)[x%(#[]:Array Value).size]!) (Array.range 0)) []=some #[]:=by simp[ep]
  simp only[bO,Sem.run_bind,run_underlying ht,Result.andThen_ok,K4 n,ei,if_neg (show ¬0>2^24 by omega),Sem.run_pure,if_true,o,newRow,run_newObj];rfl
 simp[execOp,c]
end
structure SrJ(n:Nat) where
 i:Nat
 ls:List Sr
 le:i<=n
 len:ls.length=i
structure SrK(n:Nat) where
 k:Nat
 c:Sr×List Sr
 le:k<=n
structure Xch(rs:List (List Tm))(t:XP)(vb:List XP)(n:Nat):Prop where
 ra:∀k,k<n->∀i,i<rs.length->Xd2 (el rs i) (KC t k::J1 rs t vb k) k
 cf:∀k,k<n->∀i,i<rs.length->Xf (el (Vw (el rs i) (KC t k::J1 rs t vb k) k) k) 45000
theorem Xcj{rs:List (List Tm)}{t:XP}(h:i<vb.length):el (J1 rs t vb 0) i=[el vb i]:=by
 show el (vb.map λx=>[x]) i=_;rw[Jb (by rw[ag];exact h),bR,Jb h]
def Xci{rs:List (List Tm)}{t:XP}{k:Nat}(h:i<vb.length):el (J1 rs t vb (k+1)) i=el (J1 rs t vb k) i++[Jg (el (Vw (el rs i) (KC t k::J1 rs t vb k) k) k) ((((k+1:Nat):Int):Rat)⁻¹,(((k+1:Nat):Int):Rat)⁻¹)]:=by
 rw[J1,VR _ h]
theorem Xbt{t:XP}{n:Nat}(hF:Fits F w)(hy:X4 F y)(hb:QxR F rb vb)(hl:vb.length=y.rl.length)(hbn:rb.n<=1000/\n<=999)(N:∀e∈y.rl,e.2.length=e.1.n/\e.1.n<=1000/\∀t∈e.2,Jp t.f=0)(ho:Xch y.rs t vb n):QU prog 33 [y.v,kh t,rb.v,.int .i64 (n:Int)] w F (λ(c:Sr×List Sr)=>c.1.v) (λc F=>Xa6 F c.1 c.2 (J1 y.rs t vb n)):=by
 have hbl:=hb.len;have hrl:=hy.Ka;have hrs:y.rs.length=y.rl.length:=by unfold Xz.rs;rw[ag]
 refine QU.intro (G:=λF=>X4 F y/\QxR F rb vb) func33 rfl tH rfl rfl hF (λF' hF'=>⟨hy.le hF',hb.le hF'⟩)<|wa<|Qp rfl (vs:=[_,_,_]) rfl λb4=>Qp rfl (vs:=[_,_]) rfl λb5=>wZ rfl<|wb rfl<|QA (Qg rfl XF)<|Mm (n:=rb.n) (bytes:=24) rfl rfl Sk J0 QEI rfl QFb O O λbo=>wZ rfl<|QG<|wa<|wZ rfl<|QV<|JU (ι:=SrJ rb.n) [(2,_),(3,_),(4,_),(5,_),(9,_)] (λi=>[(10,.int .i64 ((i.i:Nat):Int))]) (λi=>(bo,.cells (i.ls.map Sr.v++Xg [.slice none 0 0] (rb.n-i.i)).toArray 36 (0,0))::(b5,.cells [tx (JP t.1),tx (JP t.2)].toArray 40 (0,0))::(b4,.cells #[.slice y.nm.q y.nm.n y.nm.cap,.slice y.rt.q y.rt.n y.rt.cap,.slice y.st.q y.st.n y.st.cap] 38 (0,0))::[]) (λi F=>Xas F i.ls λj=>[el vb j]) (λi=>rb.n-i.i) (⟨0,[],aq _,rfl⟩) wy wk we (λ_ _ j B=>by cases B) λi=>?_
 simp only[ab,ae];have hi:=i.le;refine wA 5 I<|QA (Qg I XF)<|wD 3 I ?_
 refine QQ I (λg=>?_) λg=>?_
 ·have hlt:i.i<rb.n:=tD<|wi g
  have hem:=Qw (show i.i<vb.length by omega);refine wC 9 I<|QA (Q3 (n:=rb.n) i.i (λF h9=>h9.1.2.row) rfl rfl XF Jd O)<|QA (JZ (n:=rb.n) (vs:=[tx (JP (el vb i.i).1),tx (JP (el vb i.i).2)]) ((i.i)*2) (λF h9=>h9.1.2.row) O rfl Jd I λj v X=>JN (f:=LP) (l:=vb) uh O X)<|Qb I (Q5 XF) Jd Xa I I λb31=>QA (JL (i:=i.i) rfl rfl Sk J0 O)<|QW (vs:=[.slice (some ⟨b31,0,none⟩) 1 1]) I I I J0 I .here (Xc9 (by rw[ag,i.len]) O) wk<|QE<|Qj<|wE 3 I<|QA (Qu I I O)<|wB 2 I ?_
  exact Ql (⟨i.i+1,i.ls++[⟨some ⟨b31,0,none⟩,1,1⟩],hlt,by rw[aE,i.len];rfl⟩) (by show rb.n-(i.i+1)<rb.n-i.i;omega) wz ((by rw[bj];exact av _)) λF h9=>⟨⟨h9.1.1.1,h9.1.1.2⟩,h9.1.2.snoc i.len ⟨Qy.of h9.2 I,rfl⟩⟩
 have hge:i.i=rb.n:=tD<|wj g
 refine Qx ?_
 repeat first|refine QY ?_|refine QO tH ?_
 refine QZ<|wE 3 I<|DP (b:=bo) .here<|wC 5 I<|JU (ι:=SrK n) [(2,_),(3,_),(4,_),(5,_)] (λi2=>[(9,.slice i2.c.1.q i2.c.1.n i2.c.1.cap),(11,.int .i64 ((i2.k:Nat):Int))]) (λi2=>(b5,.cells [tx (JP t.1),tx (JP t.2)].toArray 40 (0,0))::(b4,.cells #[.slice y.nm.q y.nm.n y.nm.cap,.slice y.rt.q y.rt.n y.rt.cap,.slice y.st.q y.st.n y.st.cap] 38 (0,0))::[]) (λi2 F=>Xa6 F i2.c.1 i2.c.2 (J1 y.rs t vb i2.k)) (λi2=>n-i2.k) (⟨0,(⟨some ⟨bo,0,none⟩,rb.n,rb.n⟩,i.ls),aq _⟩) wv wm we (λF h9=>Xas.row (λj B=>by have B:j<i.ls.length:=B;rw[Xcj (tD i.len)];exact h9.1.2 j B) (by rw[i.len];exact h9.2) (by rw[i.len];exact hge) (by rw[WV];exact hbl)) λi2=>?_
 simp only[ab,ae];have hk:=i2.le;refine wA 8 I ?_;refine QQ I (λg=>?_) λg=>?_
 ·have P:i2.k<n:=tD<|wi g
  refine XV _ (λw F hF ⟨⟨⟨⟨hy,hb⟩,R⟩,hz⟩,u⟩=>aS u.len (aS u.YI u.row.cM)) (λC=>?_);obtain⟨C,hcv,hcn⟩:=C;have hcv2:=hcv;rw[WV]at hcv2;refine wC 6 I<|QA (wN I Jd .here)<|wW I<|QI I (λ_ _ f h=>Xc8 (t:=t) (n:=i2.k) f O) λc40=>Y2 I (Q5 Sk) J0 QEI I I λb41=>wW I<|ZL (ar (l₁:=[_]))<|Z4 (bs1:=[_,_]) (ob:=[_]) (n:=1) (k:=i2.c.1.n) (sz:=1) (news:=i2.c.2.map Sr.v) rfl rfl Sk J0 QEI I QFb (.some (l:=[c40].map Sr.v) (rest:=[]) I I (ah _) tF) (Src.gR hcn (λF h9=>h9.1.2.row) (by rw[ag,C];omega)) O O (λv X=>by obtain⟨s,_,rfl⟩:=List.mem_map.1 X;rfl) λv43 ob43 hr43=>?_
  obtain⟨⟨rq,rn,rc⟩,hv2,Y,hrc,M⟩:=Q8.fix (w0:=w) (F0:=F) (bs1:=[_,_]) (G:=_) hr43;dsimp only at Y hrc M;subst Y;refine Zj M ?_;rw[hv2];dsimp only[Sr.v];refine wZ rfl<|wb rfl<|QA (Qg rfl XF)<|Mm (n:=rb.n) (bytes:=24) rfl rfl Sk J0 QEI rfl QFb O O λbn=>wZ rfl<|QG<|wa<|wZ rfl<|QV<|JU (ι:=SrJ rb.n) [(2,_),(3,_),(4,_),(5,_),(9,_),(11,_),(12,_),(13,_)] (λi3=>[(14,.int .i64 ((i3.i:Nat):Int))]) (λi3=>(bn,.cells (i3.ls.map Sr.v++Xg [.slice none 0 0] (rb.n-i3.i)).toArray 36 (0,0))::(b5,.cells [tx (JP t.1),tx (JP t.2)].toArray 40 (0,0))::(b4,.cells #[.slice y.nm.q y.nm.n y.nm.cap,.slice y.rt.q y.rt.n y.rt.cap,.slice y.st.q y.st.n y.st.cap] 38 (0,0))::[]) (λi3 F=>Xas F i3.ls (el (J1 y.rs t vb (i2.k+1)))) (λi3=>rb.n-i3.i) (⟨0,[],aq _,rfl⟩) w8 wk we (λ_ _ j B=>by cases B) λi3=>?_
  simp only[ab,ae];have hi3:=i3.le;refine wA 5 I<|QA (Qg I XF)<|wD 3 I ?_
  refine QQ I (λg=>?_) λg=>?_
  ·have hlt3:i3.i<rb.n:=tD<|wi g
   have x:i3.i<y.rl.length:=O;have m:=Qw x;refine XV _ (λw F hF ⟨⟨⟨⟨⟨⟨⟨hy,hb⟩,R⟩,hz⟩,u⟩,Q⟩,o⟩,D⟩=>aS (u.q i3.i O).len (u.q i3.i O).row.cM) (λz=>?_);obtain⟨z,hn0⟩:=z;have hln0:=z;rw[VO _ _ _ _ O]at z;have hiv:=Xck (k:=i2.k) O;refine wC 6 I<|QA (QH I VY Z6)<|QA (Qe I Z6 .u2 (.skip .h1))<|wW I<|QA (Q3 (n:=y.rt.n) (i3.i) (λF h9=>h9.1.1.1.1.1.1.1.rt) rfl rfl VJ Vu O)<|QA (JA (n:=y.rt.n) ((i3.i)*1) (λF h9=>h9.1.1.1.1.1.1.1.rt) O rfl Vu (XT (f:=λe:NQ=>e.1.v) (l:=y.rl) O))<|wB 2 I<|QI I (λ_ _ f h=>Xcm (ps:=(el y.rl i3.i).2) (ra:=⟨rq,1+i2.c.1.n,rc⟩) (ls:=c40::i2.c.2) (all:=(KC t i2.k::J1 y.rs t vb i2.k)) (n:=i2.k) (q:=(el y.rl i3.i).1.q) (np:=(el y.rl i3.i).1.n) (cp:=(el y.rl i3.i).1.cap) f (h.1.1.1.1.1.1.1.pl _ m).1 (h.1.1.1.1.1.1.1.pl _ m).2 (N _ m).1 (N _ m).2.2 (Xa6.cons h.1.2 h.1.1.2 h.1.1.1.2.q C hcv) ⟨tD<|(N _ m).2.1,by dsimp only;omega,O⟩ (by rw[<-QA5 x];exact ho.ra _ P _ O)) λc60=>?_
   rw[<-QA5 x];refine JQ _ (λ_ _ f k=>k.2.len) (λL=>?_);have hn60b:=L;rw[KI]at L;refine wZ I<|Jq 20 (.cons _ tS) mixed tE tE ?_
   simp only[aK,aM,aL,aY];refine QK (QD I)<|QK (QD I)<|Xag (Q5 XF) Jd λb63=>QK (QD I)<|QK (QD I)<|QK (Q3 (n:=i2.c.1.n) (i3.i) (λF h9=>h9.1.1.1.1.2.row) rfl rfl Sk J0 O)<|QK (JA (n:=i2.c.1.n) ((i3.i)*1) (λF h9=>h9.1.1.1.1.2.row) O rfl J0 (XT (f:=Sr.v) (l:=i2.c.2) O))<|Yz (ob:=[(b63,.cells ([]++[]:List Value).toArray 40 (0,0))]) (n:=0) (k:=(el i2.c.2 i3.i).n) (sz:=2) (news:=(el (J1 y.rs t vb i2.k) i3.i).flatMap LP) rfl rfl XF Jd Xa I QAH (.some rfl rfl (ah _) tF) (Src.gR hn0 (λF h9=>(h9.1.1.1.1.2.q _ O).row) (by rw[QCn];omega)) O O (ui _) (.cons _ we) tM λv68 V K=>?_
   rw[aP,ae]at K;refine QK (QD I)<|QK (QD I)<|QK (Q3 (n:=c60.n) (i2.k) (λF h9=>h9.2.row) rfl rfl XF Jd O)<|QK (JZ (n:=c60.n) (vs:=[tx (JP (el (Vw (el y.rs i3.i) (KC t i2.k::J1 y.rs t vb i2.k) i2.k) (i2.k)).1),tx (JP (el (Vw (el y.rs i3.i) (KC t i2.k::J1 y.rs t vb i2.k) i2.k) (i2.k)).2)]) ((i2.k)*2) (λF h9=>h9.2.row) O rfl Jd I λj v X=>JN (f:=LP) (l:=(Vw (el y.rs i3.i) (KC t i2.k::J1 y.rs t vb i2.k) i2.k)) uh O X)<|QK (QD I)<|QK (Qu I I O)<|QR I (λ_ _ f h=>QG2 (num:=1) (den:=(i2.k:Int)+1) f tF O O) λc75=>?_
   rw[Xco];refine QR I (λ_ _ f k=>VC f) (λ_=>QR I (λ_ _ f h=>QEl (a:=el (Vw (el y.rs i3.i) (KC t i2.k::J1 y.rs t vb i2.k) i2.k) i2.k) (b:=(((((i2.k+1:Nat):Int):Rat)⁻¹),((((i2.k+1:Nat):Int):Rat)⁻¹))) f (ho.cf _ P _ O) hiv) λ_=>?_);refine Qo I (Q5 XF) Jd Xa I I (λb78=>?_) (λw h=>h.imp ((ew _ we).trans (List.sublist_append_right _ _)) λF h=>h.1.1.1);refine Yz (ob:=V) (n:=(el i2.c.2 i3.i).n) (k:=1) (sz:=2) (news:=LP (Jg (el (Vw (el y.rs i3.i) (KC t i2.k::J1 y.rs t vb i2.k) i2.k) i2.k) (((((i2.k+1:Nat):Int):Rat)⁻¹),((((i2.k+1:Nat):Int):Rat)⁻¹)))) I I XF Jd Xa I QAH K (Src.row (off:=0) tO (λj q hq=>by rw[aP];rw[aG];exact hq) rfl) O O (QEi _) (.cons _ we) (λ_ h=>h.1.1.1.1) (λv79 U H=>?_);rw[<-CK,<-Xci O]at H;refine QK (JL (i:=i3.i) rfl rfl Sk J0 O)<|ZS<|ZL (ar (l₁:=U)) ?_
   obtain⟨⟨S,rn2,T⟩,hv3,E,Z,A⟩:=Q8.fix (w0:=w) (F0:=F) (bs1:=[_,_,_]) (G:=_) H;dsimp only at E Z A;subst E;refine Zj A ?_;rw[hv3];refine QW (vs:=[.slice S ((el i2.c.2 i3.i).n+1) T]) I I I J0 I .here (Xc9 (by rw[ag,i3.len]) O) wk<|QE<|Qj<|wE 3 I<|QA (Qu I I O)<|wB 2 I ?_
   exact Ql (⟨i3.i+1,i3.ls++[⟨S,(el i2.c.2 i3.i).n+1,T⟩],hlt3,by rw[aE,i3.len];rfl⟩) (by show rb.n-(i3.i+1)<rb.n-i3.i;omega) w9 ((by rw[bj];exact av _)) λF ⟨⟨⟨⟨⟨⟨⟨⟨⟨⟨⟨⟨⟨hy,hb⟩,R⟩,hz⟩,u⟩,Q⟩,o⟩,D⟩,h60⟩,_⟩,_⟩,_⟩,hs78⟩,hq79⟩=>⟨⟨⟨⟨⟨⟨⟨hy,hb⟩,R⟩,hz⟩,u⟩,Q⟩,o⟩,D.snoc i3.len ⟨hq79,by rw[VO _ _ _ _ O,<-z]⟩⟩
  have hge3:i3.i=rb.n:=tD<|wj g
  refine Qx ?_
  repeat first|refine QY ?_|refine QO tH ?_
  refine QZ<|QC<|DP (b:=bn) .here<|wA 4 I<|Qj<|wE 3 I<|QA (Qu I I O)<|wB 2 I ?_
  exact Ql (⟨i2.k+1,(⟨some ⟨bn,0,none⟩,rb.n,rb.n⟩,i3.ls),P⟩) (by show n-(i2.k+1)<n-i2.k;omega) wz we λF ⟨⟨⟨⟨⟨⟨⟨⟨hy,hb⟩,R⟩,hz⟩,u⟩,Q⟩,o⟩,D⟩,hz3⟩=>⟨⟨⟨⟨hy,hb⟩,R⟩,hz⟩,Xas.row (λj B=>D j B) (by rw[i3.len];exact hz3) (by rw[i3.len];exact hge3) (by rw[WV];omega)⟩
 have hge2:i2.k=n:=tD<|wj g
 refine Qx ?_
 repeat first|refine QY ?_|refine QO tH ?_
 refine QZ<|wE 8 I ?_
 exact QP (i2.c) rfl (wT I) (rfl) λF ⟨⟨⟨⟨hy,hb⟩,R⟩,hz⟩,u⟩=>(by rw[hge2]at u;exact u)
def Sw(l:List Rat):Nat:=l.foldr (λr q=>r.den*q) 1
def Mw:∀l:List Rat,0<Sw l
 |[]=>Nat.one_pos
 |r::l=>bJ r.den_pos (Mw l)
theorem xX:∀ {l:List Rat} {r:Rat},r∈l->r.den ∣ Sw l
 |a::l,r,h=>by
  rcases List.mem_cons.1 h with rfl | h
  ·exact bB _ _
  exact aT (xX h) (bc _ _)
theorem QCu:∀ {l:List Rat},(∀r∈l,JW r<=k)->sz ((Sw l:Nat):Int)<=l.length*k+1
 |[],_=>by rw[List.length_nil,ei];decide
 |r::l,h=>by
  have h1:=QCu λx hx=>h x (bp _ hx);have h2:sz (r.den:Int)<=k:=ak (Nat.le_max_right _ _) (h r tJ);have h3:=K8 (r.den:Int) ((Sw l:Nat):Int);rw[<-bU]at h3;show sz ((r.den*Sw l:Nat):Int)<=_;rw[aB,bK];omega
structure SmS(Z T D m:Nat)(rs:List (List Tm)):Prop where
 N4:∀p∈rs,∀u∈p,JW u.1<=Z/\Zz u.2 (m+1)<=D/\u.2.length=m+1/\∀k∈u.2,0<=k/\k<=12
 len:∀p∈rs,p.length<=T
 hn:rs.length=m
def Xar(rs:List (List Tm)):List Rat:=rs.flatMap λp=>p.map (·.1)
theorem Xb1:∀ {rs:List (List Tm)},(∀p∈rs,p.length<=T)->(Xar rs).length<=rs.length*T
 |[],_=>aq _
 |p::rs,h=>by
  have h1:=Xb1 λx hx=>h x (bp _ hx);have h2:=h p tJ;show(p.map (·.1)++Xar rs).length<=_;rw[aE,ag,aB,bK];omega
def Xbp(rs:List (List Tm))(l:List Rat):Nat:=60*(Sw (Xar rs)*Sw l)
def Xa4(rs:List (List Tm))(l:List Rat):0<Xbp rs l:=bJ tF (bJ (Mw _) (Mw _))
theorem Xcq{rs:List (List Tm)}{l:List Rat}(h:SmS Z T D m rs)(a:∀r∈l,JW r<=B):sz ((Xbp rs l:Nat):Int)<=8+m*T*Z+l.length*B:=by
 have h1:=QCu (l:=Xar rs) (k:=Z) λr hr=>by
  obtain⟨p,hp,hr⟩:=List.mem_flatMap.1 hr;obtain⟨u,hu,rfl⟩:=List.mem_map.1 hr;exact(h.N4 p hp u hu).1
 have h2:=QCu a;have h3:=K8 ((60:Nat):Int) ((Sw (Xar rs)*Sw l:Nat):Int);have h4:=K8 ((Sw (Xar rs):Nat):Int) ((Sw l:Nat):Int);have h5:sz ((60:Nat):Int)=6:=tF;have h6:(Xar rs).length*Z<=m*T*Z:=aj _ (h.hn ▸ Xb1 h.len);rw[<-bU]at h3 h4;show sz ((60*(Sw (Xar rs)*Sw l):Nat):Int)<=_;omega
def Xcd{rs:List (List Tm)}{l:List Rat}{r:Rat}(h:r∈l):r.den ∣ Xbp rs l:=aT (xX h) (aT (bc _ _) (bc _ _))
def QHp{Q:Nat}{r:Rat}(h0:0<Q)(hd:r.den ∣ Q)(a:JW r<=B):Cl Q 1 B r:=Cl.of r h0 hd (ak (Nat.le_max_left _ _) a)
def Xa7{rs:List (List Tm)}{l:List Rat}{r:Rat}(h:r∈l)(a:∀r∈l,JW r<=B):Cl (Xbp rs l) 1 B r:=QHp (Xa4 _ _) (Xcd h) (a r h)
def Uc(vb:List XP):List Rat:=vb.flatMap λs=>[s.1,s.2]
theorem QAA:∀vb:List XP,(Uc vb).length=2*vb.length
 |[]=>rfl
 |a::vb=>by show([a.1,a.2]++Uc vb).length=_;rw[aE,QAA vb,aB];simp;omega
def cy{x:XP}(h:x∈vb):x.1∈Uc vb/\x.2∈Uc vb:=⟨List.mem_flatMap.2 ⟨x,h,tJ⟩,List.mem_flatMap.2 ⟨x,h,tJ⟩⟩
def Xcp(h:∀x∈vb,Xf x B):∀r∈Uc vb,JW r<=B:=λr hr=>by
 obtain⟨x,hx,hr⟩:=List.mem_flatMap.1 hr;simp only[bX,bP,or_false]at hr;rcases hr with rfl | rfl
 ·exact(h x hx).1
 exact(h x hx).2
theorem Xcs{rs:List (List Tm)}{t:XP}{l:List Rat}(h:SmS Z T D m rs)(b:vb.length=m)(ht:t.1∈l/\t.2∈l)(hb:∀x∈vb,x.1∈l/\x.2∈l)(a:∀r∈l,JW r<=B)(c:Z<=B)(hn:n<=5):jN (Xbp rs l) B D T n rs t vb:=by
 subst b;refine⟨Xa4 _ _,λk hk=>QB4 (Xa4 _ _) (aT ?_ (bB 60 _)),λi hi u hu=>?_,λi hi=>h.len _ (Qw hi),⟨Xa7 ht.1 a,Xa7 ht.2 a⟩,λx hx=>⟨Xa7 (hb x hx).1 a,Xa7 (hb x hx).2 a⟩,h.hn⟩
 ·have:k=0\/k=1\/k=2\/k=3\/k=4:=O;rcases this with rfl | rfl | rfl | rfl | rfl<;>decide
 have h1:=h.N4 _ (Qw hi) u hu;refine⟨QHp (Xa4 _ _) ?_ (ak h1.1 c),h1.2.1,h1.2.2.1,λk hk=>⟨(h1.2.2.2 k hk).1,tD<|(h1.2.2.2 k hk).2⟩⟩;refine aT (xX (l:=Xar rs) ?_) (aT (bB _ _) (bc _ _));exact List.mem_flatMap.2 ⟨_,Qw hi,aC (f:=λu:Tm=>u.1) hu⟩
theorem jN.rok{Q:Nat}{rs:List (List Tm)}{t:XP}(h:jN Q B D T n rs t vb)(s:tyM Q B D T n<=45000):Xch rs t vb n:=by
 have A:=s;unfold tyM at s;have hq:∀u w:Nat,u<=w->u*sz (Q:Int)<=w*sz (Q:Int):=λu w g=>aj _ g;have hm:∀k,k<n->∀i,i<rs.length->∀u∈el rs i,∀v,v<=vb.length+1->Mg Q (D+1) (D*(B+(n+1))+T) (1+Zz u.2 v) (B+Zz u.2 v*(B+(n+1))) (B4 u.1 u.2 (KC t k::J1 rs t vb k) k v):=λk hk i hi u hu v a =>
  zZ h.q0 (L:=n+1) (h.N4 i hi u hu).1 (Um h O) O v (by rw[W4];exact a)
 have f:∀i,i<rs.length->∀u∈el rs i,∀v,v<=vb.length+1->Zz u.2 v<=D/\Zz u.2 v*(B+(n+1))<=D*(B+(n+1)):=λi hi u hu v a=>by
  have h1:=ak (Dl u.2 a) (h.N4 i hi u hu).2.1;exact⟨h1,aj _ h1⟩
 have F:=hq ((D+1)*n+(1+D)) ((D+1)*n+(D+2)) O;have E:=hq ((D+1)*n+1) ((D+1)*n+(D+2)) O;have C:=hq ((D+1)*n+(1+D+1)) ((D+1)*n+(D+2)) O;refine⟨λk hk i hi=>⟨λv a=>(Um h (k:=k) O v a).2,λu hu=>⟨by rw[W4];exact(h.N4 i hi u hu).2.2.1,(h.N4 i hi u hu).2.2.2⟩,λu hu v a j o=>?_,λu hu=>?_,λj o=>?_⟩,λk hk i hi=>?_⟩
 ·rw[W4]at a;have h1:=hm k hk i hi u hu v O;have h2:=Um h (k:=k) O v (by rw[W4];exact a);have h3:=xk h.q0 (L:=n+1) h1 h2.1 (by rw[Kf,h2.2];exact ah _) (by rw[Kf];omega) j;have h4:=f i hi u hu (v+1) a;have h5:Zz u.2 v+j<=Zz u.2 (v+1):=by show _<=Zz u.2 v+_;omega
  have h6:Zz u.2 v*(B+(n+1))+j*(B+(n+1))<=D*(B+(n+1)):=by rw[<-bK];exact aj _ O
  have h7:=h3.mono h.q0 (d':=1+D) (b':=B+D*(B+(n+1))) O O;have l:(NW (B4 u.1 u.2 (KC t k::J1 rs t vb k) k v) (el (KC t k::J1 rs t vb k) v) j).length=k+1:=by rw[BA,Kf]
  have y:∀m,m<k+1->Xf (el (NW (B4 u.1 u.2 (KC t k::J1 rs t vb k) k v) (el (KC t k::J1 rs t vb k) v) j) m) 45000:=λm hm=>h7.Ux h.q0 (n:=n) O O _ (Qw O);have x:∀m,m<k+1->Xf (el (el (KC t k::J1 rs t vb k) v) m) 45000:=λm hm=>h2.1.Ux h.q0 (n:=n) O O _ (Qw O);refine⟨λm b=>⟨y m O,x m O⟩,λm b i2 c=>(K7 (y i2 O) (x (m-i2) O)).mono tF,λm b i2 c=>?_⟩;have h8:=KA.Ux h.q0 (CU h.q0 h7 h2.1 b O i2 c);refine h8.mono ?_;have g1:(D*(B+(n+1))+T)*m<=(D*(B+(n+1))+T)*n:=aV _ O;have G:((D+1)*m+(1+D+1))*sz (Q:Int)<=((D+1)*n+(1+D+1))*sz (Q:Int):=hq _ _ (by have:(D+1)*m<=(D+1)*n:=aV _ O;omega);omega
 ·rw[W4];have h1:=hm k hk i hi u hu (vb.length+1) (ah _);have h4:=f i hi u hu (vb.length+1) (ah _);exact(h1.mono h.q0 (d':=1+D) (b':=B+D*(B+(n+1))) O O).Ux h.q0 (n:=n) (by rw[Kf];omega) O
 ·have z:=h.len i hi;have h1:=T3 h.q0 (L:=n+1) (D:=D) (p:=el rs i) (n:=k) (λu hu=>⟨(h.N4 i hi u hu).1,by rw[W4];exact(h.N4 i hi u hu).2.1⟩) (Um h O) O j o;exact h1.Ux h.q0 (n:=n) (by rw[KI];omega) O
 have z:=h.len i hi;have h1:=T3 h.q0 (L:=n+1) (D:=D) (p:=el rs i) (n:=k) (λu hu=>⟨(h.N4 i hi u hu).1,by rw[W4];exact(h.N4 i hi u hu).2.1⟩) (Um h O) O (el rs i).length (ah _);rw[bC]at h1;exact h1.Ux h.q0 (n:=n) (by rw[KI];omega) O _ (Qw (by rw[KI];omega))
def QEa:∀(ks:List Int) (m:Nat),(∀k∈ks,0<=k)->ks.length=m->((Zz ks m:Nat):Int)=ks.sum:=by
 intro ks;have a:∀(m:Nat) (ks:List Int),(∀k∈ks,0<=k)->m<=ks.length->((Zz ks m:Nat):Int)=(ks.take m).sum:=by
  intro m
  induction m with
  |zero=>intro ks _ _;rw[aM];rfl
  |succ m ih =>
   intro ks h hm;show((Zz ks m+(Qm ks m).toNat:Nat):Int)=_;rw[XE (show m<ks.length by omega),List.sum_append,Int.natCast_add,ih ks h O];have h1:=h (Qm ks m) (ja O);have h2:el ks m=Qm ks m:=(YW O).symm;rw[h2];simp;omega
 intro m h b;rw[a m ks h O,<-b,bC]
theorem QGh{d z:Nat}(h:Uz s d=true)(hz:10^d<=2^z):JW (Qz s)<=z:=by
 simp only[Uz,ax,decide_eq_true_eq,beq_iff_eq]at h;obtain⟨_,hc,h1,h2⟩:=h;have c:=(XM hc).1;generalize Qz s=x at c;have b:∀n:Nat,(bD n).length<=d->n<2^z:=λn hn=>by
  have a:=Hb (Jy n);rw[Xi]at a;exact bz (bz a (Nat.pow_le_pow_right tF hn)) hz
 have e:numOf (JP x)=Ze x.num:=by
  unfold numOf;by_cases h:x.den=1
  ·obtain⟨h1,h2⟩:=LL h;rw[h2,bC,h1]
  exact(EB h).2.2.1
 rw[c,e,QAM]at h1;have hn:sz x.num<=z:=(XD _ _).2 (b _ O);have hd:sz (x.den:Int)<=z:=by
  refine(XD _ _).2 ?_;rw[bN];by_cases g:x.den=1
  ·have:(1:Nat)<=10^d:=Nat.one_le_pow _ _ tF;have hx:d≠0:=by
    intro h0;have:=Kn x.num.natAbs;have h3:(bD x.num.natAbs).length≠0:=λq=>this (List.length_eq_zero_iff.1 q);omega
   have:1<10^d:=Nat.one_lt_pow hx tF;omega
  refine b _ ?_;rw[c]at h2;unfold CS at h2;rw[if_neg λe=>g ((LM x).1 e),(EB g).2.2.2]at h2;omega
 exact Nat.max_le.2 ⟨hn,hd⟩
theorem QGF{v:Int}(h:pT y v 3 6=true)(hr:y.rl.length=y.rt.n):SmS 20 4 3 y.rl.length y.rs/\(y.rl.length:Int)<=v:=by
 unfold pT at h;rw[ax,ao]at h;obtain⟨h0,h1⟩:=h;refine⟨⟨λp hp u hu=>?_,λp hp=>?_,by unfold Xz.rs;rw[ag]⟩,by rw[hr];exact(QFQ h0).2.2.1⟩
 ·obtain⟨e,he,rfl⟩:=List.mem_map.1 hp;obtain⟨x,hx,rfl⟩:=List.mem_map.1 hu;have h2:=h1 e he;unfold fpB at h2;split at h2
  ·cases h2
  rename_i hg;rw[aO,List.any_eq_false]at h2;have h3:=h2 x hx;rw[Bool.not_eq_true,au,aF,decide_eq_false_iff_not]at h3;have h4:Zh (ZX e.2) (y.rt.n:Int)=0:=by
   rcases Decidable.em (Zh (ZX e.2) (y.rt.n:Int)=0)with g | g
   ·exact g
   exact absurd (Or.inr g) hg
  have h5:=Wv ((H4 h4).term x hx);have hlen:x.2.length=y.rl.length+1:=tD h5.1;refine⟨QGh h3.2 tF,?_,hlen,h5.2.1⟩;have h6:=QEa x.2 (y.rl.length+1) (λk hk=>(h5.2.1 k hk).1) hlen;show Zz x.2 (y.rl.length+1)<=3;have:=h3.1;omega
 obtain⟨e,he,rfl⟩:=List.mem_map.1 hp;have h2:=h1 e he;unfold fpB at h2;split at h2
 ·cases h2
 rename_i hg;have h3:¬((ZX e.2).length:Int)>4:=λg=>hg (Or.inl g);unfold Xq;rw[ag];omega
structure Xex(rs:List (List Tm))(fr t2:Rat)(x on:List XP)(n:Nat):Prop where
 y1:Xch rs (fr,fr) x n
 y2:Xch rs (fr,t2) on (n+1)
 e1:∀i,i<x.length->∀k,k<=n->Xf (el (el (J1 rs (fr,fr) x n) i) k) 45000
 e2:∀i,i<x.length->Xf (el (el (J1 rs (fr,t2) on (n+1)) i) (n+1)) 45000
 su:∀i,i<x.length->∀k,k<=n+1->Xf (B0 (el (J1 rs (fr,fr) x n) i) (t2-fr) k) 100000
 pw:∀k,k<=n+1->JW ((t2-fr)^k)<=45000
 hh:JW (t2-fr)<=45000
 tm:JW fr<=100000/\JW t2<=100000
def Xe5{rs:List (List Tm)}:(Yc rs fr t2 x on n).length=x.length:=by simp[Yc]
def Xeu(h:Rat):[49]=JP (h^0):=by rw[bF];exact Xcw.symm
theorem Xek{vx:List XP}{n:Nat}(Y:Fits F w)(hy:X4 F y)(hx:QxR F rx vx)(o:QxR F ro on)(hl:vx.length=y.rl.length)(hlo:on.length=y.rl.length)(hb:rx.n<=1000/\ro.n<=1000/\n<=900)(T:∀e∈y.rl,e.2.length=e.1.n/\e.1.n<=1000/\∀t∈e.2,Jp t.f=0)(u:Xex y.rs fr t2 vx on n):QU prog 40 [y.v,tx (JP fr),rx.v,tx (JP t2),ro.v,.int .i64 (n:Int)] w F (λ(c:Sr)=>c.v) (λc F=>QxR F c (Yc y.rs fr t2 vx on n)):=by
 have hxl:=hx.len;have hol:=o.len;refine QU.intro (G:=λF=>X4 F y/\QxR F rx vx/\QxR F ro on) func40 rfl tH rfl rfl Y (λF' N=>⟨hy.le N,hx.le N,o.le N⟩)<|wa<|Qp rfl (vs:=[_,_,_]) rfl λZ=>wZ rfl<|QG<|JG we mixed tE<|QK (wO I J6 .here)<|QK (QD rfl)<|QR rfl (λ_ _ f k=>VC f) λ_=>QK (QD rfl)<|QK (QD rfl)<|QR rfl (λ_ _ f k=>Xbt (t:=(fr,fr)) (n:=n) f k.1.1 k.1.2.1 hl ⟨hb.1,O⟩ T u.y1) λC=>Yl _ (λw F Y ⟨⟨⟨hy,hx,o⟩,_⟩,z⟩=>aS z.len z.YI) λL=>?_
 obtain⟨L,V⟩:=L;rw[WV]at V;refine QK (QF rfl)<|Q7<|QC<|wa<|QA (wO I J6 .here)<|wW rfl<|wW rfl<|QA (Q4 rfl Zb Xa (wV rfl rfl rfl))<|wW rfl<|wW rfl<|QA (Qu rfl rfl O)<|QI rfl (λ_ _ f k=>Xbt (t:=(fr,t2)) (n:=n+1) f k.1.1.1 k.1.1.2.2 hlo ⟨hb.2.1,O⟩ T u.y2) λB=>JQ _ (λw F Y ⟨⟨⟨⟨hy,hx,o⟩,_⟩,z⟩,A⟩=>aS A.len A.YI) λK=>?_
 obtain⟨K,U⟩:=K;rw[WV]at U;refine wD 7 I<|QI I (λ_ _ f k=>QHM (x:=t2) (y:=fr) f u.tm.2 u.tm.1) λ_=>wD 15 I<|JU (ι:=Xaf (vx.length) ((λi=>Vz (B0 (el (J1 y.rs (fr,fr) vx n) i) (t2-fr) (n+1)) (Jg (el (el (J1 y.rs (fr,t2) on (n+1)) i) (n+1)) (((t2-fr)^(n+1)),((t2-fr)^(n+1))))))) [(2,_),(5,_),(13,_),(14,_),(15,_)] (λi=>[(16,i.v),(17,.int .i64 ((i.i:Nat):Int))]) (λi=>(Z,.cells #[.slice y.nm.q y.nm.n y.nm.cap,.slice y.rt.q y.rt.n y.rt.cap,.slice y.st.q y.st.n y.st.cap] 38 (0,0))::i.ob) (λi F=>True) (λi=>(vx.length)-i.i) (Xaf.start _ _) wy wm we tL λi=>?_
 simp only[ab,ae];have hi:=i.le;refine wA 5 I<|QA (Qg I XF)<|wD 3 I ?_
 refine QQ I (λm=>?_) λm=>?_
 ·have g:i.i<vx.length:=tD<|wi m
  have hem:=Qw g;refine XV _ (λw F Y ⟨⟨⟨⟨⟨⟨hy,hx,o⟩,_⟩,z⟩,A⟩,_⟩,_⟩=>aS (z.q i.i O).len (A.q i.i O).len) (λhq2=>?_);obtain⟨H,E⟩:=hq2;have hq26b:=H;have hq34b:=E;rw[VO _ _ _ _ O]at H E;have hpn:=u.pw (n+1) (ah _);refine wC 6 I<|QI I (λ_ _ f k=>VC f) λ_=>Qc Xa λP=>QW (vs:=[_,_]) I I I Jd I .here .h2 wm<|wD 14 I<|JU (ι:=NtI (n+1)) [(2,_),(5,_),(13,_),(14,_),(15,_),(16,_),(17,_),(18,_)] (λi2=>[(19,tx (JP ((t2-fr)^i2.i))),(20,.int .i64 ((i2.i:Nat):Int))]) (λi2=>(P,.cells [tx (JP (B0 (el (J1 y.rs (fr,fr) vx n) i.i) (t2-fr) i2.i).1),tx (JP (B0 (el (J1 y.rs (fr,fr) vx n) i.i) (t2-fr) i2.i).2)].toArray 40 (0,0))::(Z,.cells #[.slice y.nm.q y.nm.n y.nm.cap,.slice y.rt.q y.rt.n y.rt.cap,.slice y.st.q y.st.n y.st.cap] 38 (0,0))::i.ob) (λi2 F=>True) (λi2=>n+1-i2.i) (⟨0,aq _⟩) w8 ⟨(congrArg (λs=>some (tx s)) (Xeu (t2-fr))),rfl,trivial⟩ ((by show aJ (α:=Nat×Obj) ((P,.cells [tx (JP ((0,0):Rat×Rat).1),tx (JP ((0,0):Rat×Rat).2)].toArray 40 (0,0))::(Z,.cells #[.slice y.nm.q y.nm.n y.nm.cap,.slice y.rt.q y.rt.n y.rt.cap,.slice y.st.q y.st.n y.st.cap] 38 (0,0))::i.ob) _;rw[show JP ((0,0):Rat×Rat).1=[48]from by decide +kernel];exact av _)) tL λi2=>?_
  simp only[ab,ae];have hi2:=i2.le;have D:=u.pw i2.i O;refine wA 8 I ?_;refine QQ I (λm=>?_) λm=>?_
  ·have hlt2:i2.i<=n:=tD<|wi m
   refine wC 5 I<|Jq 12 we mixed tE tE ?_
   simp only[aK,aM,aL,aY];refine QK (wN I Jd .here)<|QK (QD I)<|QK (QD I)<|QK (Q3 (n:=C.1.n) i.i (λF h9=>h9.1.1.1.1.1.2.row) rfl rfl Sk J0 O)<|QK (JA (n:=C.1.n) ((i.i)*1) (λF h9=>h9.1.1.1.1.1.2.row) O rfl J0 (XT (f:=Sr.v) (l:=C.2) O))<|QK (QD I)<|QK (Q3 (n:=(el C.2 i.i).n) (i2.i) (λF h9=>(h9.1.1.1.1.1.2.q _ O).row) rfl rfl XF Jd O)<|QK (JZ (n:=(el C.2 i.i).n) (vs:=[tx (JP (el (el (J1 y.rs (fr,fr) vx n) i.i) (i2.i)).1),tx (JP (el (el (J1 y.rs (fr,fr) vx n) i.i) (i2.i)).2)]) ((i2.i)*2) (λF h9=>(h9.1.1.1.1.1.2.q _ O).row) O rfl Jd I λj v hv=>JN (f:=LP) (l:=(el (J1 y.rs (fr,fr) vx n) i.i)) uh O hv)<|QK (QD I)<|QR I (λ_ _ f k=>VC f) λ_=>QR I (λ_ _ f k=>QEl (a:=el (el (J1 y.rs (fr,fr) vx n) i.i) i2.i) (b:=(((t2-fr)^i2.i),((t2-fr)^i2.i))) f (u.e1 _ g _ O) ⟨D,D⟩) λ_=>QR I (λ_ _ f k=>uz (a:=(B0 (el (J1 y.rs (fr,fr) vx n) i.i) (t2-fr) i2.i)) (b:=Jg (el (el (J1 y.rs (fr,fr) vx n) i.i) i2.i) (((t2-fr)^i2.i),((t2-fr)^i2.i))) f (u.su _ g _ O) ((K7 (u.e1 _ g _ O) ⟨D,D⟩).mono tF)) λ_=>ZS<|QW (vs:=[_,_]) I I I Jd I .here .h2 wm<|wD 5 I<|QI I (λ_ _ f k=>C3 (x:=((t2-fr)^i2.i)) (y:=(t2-fr)) f O (tD u.hh)) λ_=>wB 2 I<|Qj<|QC<|QB ?_
   refine wW I<|QA (Qu I I O)<|wB 2 I ?_
   exact Ql (⟨i2.i+1,O⟩) (by show n+1-(i2.i+1)<n+1-i2.i;omega) ⟨rfl,rfl,rfl,rfl,rfl,rfl,rfl,rfl,(congrArg (λq=>some (tx (JP q))) (Rat.pow_succ _ _).symm),rfl,trivial⟩ ((by show aJ (α:=Nat×Obj) (((P,.cells [tx (JP (B0 (el (J1 y.rs (fr,fr) vx n) i.i) (t2-fr) (i2.i+1)).1),tx (JP (B0 (el (J1 y.rs (fr,fr) vx n) i.i) (t2-fr) (i2.i+1)).2)].toArray 40 (0,0)))::(Z,.cells #[.slice y.nm.q y.nm.n y.nm.cap,.slice y.rt.q y.rt.n y.rt.cap,.slice y.st.q y.st.n y.st.cap] 38 (0,0))::i.ob) _;rw[MB];exact av _)) λF h=>⟨h.1.1.1.1.1,trivial⟩
  have X:i2.i=n+1:=tD<|wj m
  rw[X];refine Qx ?_
  repeat first|refine QY ?_|refine QO tH ?_
  refine QZ<|QC<|JG tS mixed tE<|QK (QD I)<|QK (wN I Jd .here)<|QK (QD I)<|QK (QD I)<|QK (Q3 (n:=B.1.n) i.i (λF h9=>h9.1.1.1.1.2.row) rfl rfl Sk J0 O)<|QK (JA (n:=B.1.n) ((i.i)*1) (λF h9=>h9.1.1.1.1.2.row) O rfl J0 (XT (f:=Sr.v) (l:=B.2) O))<|QK (QD I)<|QK (Qu I I O)<|QK (Q3 (n:=(el B.2 i.i).n) ((n+1)) (λF h9=>(h9.1.1.1.1.2.q _ O).row) rfl wS XF Jd O)<|QK (JZ (n:=(el B.2 i.i).n) (vs:=[tx (JP (el (el (J1 y.rs (fr,t2) on (n+1)) i.i) ((n+1))).1),tx (JP (el (el (J1 y.rs (fr,t2) on (n+1)) i.i) ((n+1))).2)]) (((n+1))*2) (λF h9=>(h9.1.1.1.1.2.q _ O).row) O rfl Jd I λj v hv=>JN (f:=LP) (l:=(el (J1 y.rs (fr,t2) on (n+1)) i.i)) uh O hv)<|QK (QD I)<|QR I (λ_ _ f k=>VC f) λ_=>QR I (λ_ _ f k=>QEl (a:=el (el (J1 y.rs (fr,t2) on (n+1)) i.i) (n+1)) (b:=(((t2-fr)^(n+1)),((t2-fr)^(n+1)))) f (u.e2 _ g) ⟨hpn,hpn⟩) λ_=>QR I (λ_ _ f k=>uz (a:=B0 (el (J1 y.rs (fr,fr) vx n) i.i) (t2-fr) (n+1)) (b:=Jg (el (el (J1 y.rs (fr,t2) on (n+1)) i.i) (n+1)) (((t2-fr)^(n+1)),((t2-fr)^(n+1)))) f (u.su _ g _ O) ((K7 (u.e2 _ g) ⟨hpn,hpn⟩).mono tF)) λ_=>?_
  refine Qo I (Q5 XF) Jd Xa I I (λb79=>?_) (λw h=>h.imp tS λF h=>h.1.1.1);refine Y6 (ar (l₁:=[_,_])) ?_;refine Yz (n:=i.i) (k:=1) (sz:=2) (news:=(LP (Vz (B0 (el (J1 y.rs (fr,fr) vx n) i.i) (t2-fr) (n+1)) (Jg (el (el (J1 y.rs (fr,t2) on (n+1)) i.i) (n+1)) (((t2-fr)^(n+1)),((t2-fr)^(n+1))))))) I I XF Jd Xa I QAH i.hr (Src.row (off:=0) tO (λj q hq=>by rw[aP];rw[aG];exact hq) rfl) O O (QEi _) we (λ_ h=>h.1.1.1.1) (λv80 ob80 S=>?_);refine Y6 (ar (l₂:=[_,_]))<|QK (QF I)<|Q7<|Qj<|wE 3 I<|QA (Qu I I O)<|wB 2 I ?_
  exact Ql (i.next g S rfl) (by show vx.length-(i.i+1)<vx.length-i.i;omega) w6 (.cons _ we) λF h=>⟨h.1.1.1.1.1.1.1,trivial⟩
 have hge:vx.length<=i.i:=tD<|wj m
 refine Qx ?_
 repeat first|refine QY ?_|refine QO tH ?_
 refine QZ<|wE 3 I ?_
 obtain⟨⟨rq,rn,rc⟩,hv2,R,hrc,M⟩:=Q8.fix (w0:=w) (F0:=F) (bs1:=[_]) (G:=_) i.hr;dsimp only at R hrc M;subst R;refine Zj M ?_;rw[hv2];dsimp only[Sr.v];refine wD 5 I ?_;exact QP ((⟨rq,i.i,rc⟩:Sr)) I (wT I) (rfl) λF ⟨⟨⟨⟨⟨⟨⟨hy,hx,o⟩,_⟩,z⟩,A⟩,_⟩,_⟩,Q⟩=>i.row (tD i.le) Q
def Xha{a b:XP}(h:a.1<=a.2):(inQ a.1 b&&inQ a.2 b)=Lt a b:=by
 have e:(inQ a.1 b&&inQ a.2 b)=true↔Lt a b=true:=by
  unfold inQ Lt;simp only[ax,decide_eq_true_eq,N8];constructor
  ·rintro⟨⟨h1,_⟩,_,h4⟩;exact⟨h1,h4⟩
  rintro⟨h1,h2⟩;exact⟨⟨h1,bh h h2⟩,bh h1 h,h2⟩
 exact Bool.eq_iff_iff.2 e
structure WiJ(va vb:List XP) where
 i:Nat
 le:i<=va.length
 ok:∀j,j<i->Lt (el va j) (el vb j)=true
def Xh6(s:WiJ va vb)(h:s.i=va.length):Ir va vb=true:=by
 unfold Ir;rw[ao];exact λi hi=>s.ok i (by rw[h];exact List.mem_range.1 hi)
def Xgy(h:i<va.length)(k:Lt (el va i) (el vb i)=false):Ir va vb=false:=by
 cases e:Ir va vb with
 |false=>rfl
 |true =>
  unfold Ir at e;rw[ao]at e;rw[e i (List.mem_range.2 h)]at k;cases k
structure StQ(y:Xz)(fr t2:Rat)(x on:List XP)(n:Nat):Prop where
 mv:∃Z D T S,Xf4 Z D T S y fr t2 x on
 om:Nv (YP y.rs fr t2 x on)
 zm:∀a∈YP y.rs fr t2 x on,Xf a 100000
 tb:Xex y.rs fr t2 x on n
 ot:Nv (Yc y.rs fr t2 x on n)
 zt:∀a∈Yc y.rs fr t2 x on n,Xf a 100000
 lx:x.length=y.rl.length
 lo:on.length=y.rl.length
def frQ(tb:List Wl)(i:Nat):Rat:=if i=0 then 0 else Qz (el tb (i-1)).e
def bxR(y:Xz)(tb:List Wl)(i:Nat):Sr:=if i=0 then y.st else(el tb (i-1)).l
def bxV(y:Xz)(tb:List Wl)(i:Nat):List XP:=if i=0 then y.vs else lV (el tb (i-1)).ll
def goB(y:Xz)(tb:List Wl)(i:Nat):Bool:=Ir (YP y.rs (frQ tb i) (Qz (el tb i).e) (bxV y tb i) (lV (el tb i).wl)) (lV (el tb i).wl)
def liB(y:Xz)(tb:List Wl)(n i:Nat):Bool:=Ir (Yc y.rs (frQ tb i) (Qz (el tb i).e) (bxV y tb i) (lV (el tb i).wl) n) (lV (el tb i).ll)
def Xf8(y:Xz)(tb:List Wl)(n:Nat):Bool:=(aD tb.length).all λi=>goB y tb i&&liB y tb n i
structure Xhn(y:Xz)(tb:List Wl)(n:Nat) where
 i:Nat
 le:i<=tb.length
 ok:∀j,j<i->(goB y tb j&&liB y tb n j)=true
def Xfm(s:Xhn y tb n)(h:s.i=tb.length):Xf8 y tb n=true:=by
 unfold Xf8;rw[ao];exact λi hi=>s.ok i (by rw[h];exact List.mem_range.1 hi)
def Xe4(h:i<tb.length)(k:(goB y tb i&&liB y tb n i)=false):Xf8 y tb n=false:=by
 cases e:Xf8 y tb n with
 |false=>rfl
 |true =>
  unfold Xf8 at e;rw[ao]at e;rw[e i (List.mem_range.2 h)]at k;cases k
def Xhh{r:Sr}(hy:X4 F y)(hc:∀s∈y.sl,Xd s.1 s.2=0)(hx:Xgf F r tb){i:Nat}(h:i<tb.length):QxR F (bxR y tb i) (bxV y tb i):=by
 unfold bxR bxV;by_cases e:i=0
 ·rw[if_pos e,if_pos e];exact⟨by rw[show y.vs=lV y.sl from rfl,<-QEh hc];exact hy.st,by rw[show y.vs=lV y.sl from rfl,Yg];exact hy.P0⟩
 rw[if_neg e,if_neg e];exact(hx.q _ (Qw O)).2
theorem Xf9(D:Fits F w)(ha:QxR F ra va)(hb:QxR F rb vb)(E:va.length<=vb.length)(hn:ra.n<=1000000)(z:Nv va)(s:∀a∈va,Xf a 100000)(o:∀a∈vb,Xf a 100000):Qf prog 158 [ra.v,rb.v] w F (.bool (Ir va vb)):=by
 have C:=ha.len;have B:=hb.len;refine QU.intro (G:=λF=>QxR F ra va/\QxR F rb vb) func158 rfl tH rfl rfl D (λF' m=>⟨ha.le m,hb.le m⟩)<|wa<|wZ rfl<|QG<|wa<|wZ rfl<|QV<|J9 (ι:=WiJ va vb) [(0,_),(1,_)] (λi=>[(5,.int .i64 ((i.i:Nat):Int))]) (λi=>va.length-i.i) (⟨0,aq _,λj y=>by cases y⟩) wm wk λi=>?_
 simp only[ab,ae];have hi:=i.le;refine wA 5 I<|QA (Qg I XF)<|wD 3 I ?_
 refine QQ I (λc=>?_) λc=>?_
 ·have h:i.i<va.length:=tD<|wi c
  have x:=Qw h;refine wC 5 I<|JG we mixed tE<|QK (QD I)<|QK (QD I)<|QK (Q3 (n:=ra.n) i.i (λF h9=>h9.1.row) rfl rfl XF Jd O)<|QK (JZ (n:=ra.n) (vs:=[tx (JP (el va i.i).1),tx (JP (el va i.i).2)]) ((i.i)*2) (λF h9=>h9.1.row) O rfl Jd I λj v u=>JN (f:=LP) (l:=va) uh O u)<|QK (QD I)<|QK (QD I)<|QK (Q3 (n:=rb.n) i.i (λF h9=>h9.2.row) rfl rfl XF Jd O)<|QK (JZ (n:=rb.n) (vs:=[tx (JP (el vb i.i).1),tx (JP (el vb i.i).2)]) ((i.i)*2) (λF h9=>h9.2.row) O rfl Jd I λj v u=>JN (f:=LP) (l:=vb) uh O u)<|QR I (λ_ _ f k=>Xgh (a:=el va i.i) (b:=el vb i.i) f (s _ x) (o _ (Qw O))) λ_=>?_
  rw[Xha (z _ h)];refine QK (XL I)<|Q7<|QC ?_
  refine QQ I (λc=>?_) λc=>?_
  ·have hq:(Lt (el va i.i) (el vb i.i))=false:=by simpa using c
   refine wA 6 I ?_
   repeat first|refine Q6 ?_|refine Qv ?_
   exact wg I I (by rw[Xgy h hq]) tL
  have hq:(Lt (el va i.i) (el vb i.i))=true:=by simpa using c
  refine QN<|Qj<|wE 3 I<|QA (Qu I I O)<|wB 2 I ?_
  exact Ql (⟨i.i+1,h,λj y=>by
     rcases aW j i.i with g | g
     ·exact i.ok j g
     rw[show j=i.i by omega];exact hq⟩) (by show va.length-(i.i+1)<va.length-i.i;omega) wu we tN
 have A:va.length<=i.i:=tD<|wj c
 refine Qx ?_
 repeat first|refine QY ?_|refine QO tH ?_
 refine QZ<|wE 7 I ?_
 exact wg I I (by rw[Xh6 i (tD i.le)]) tL
theorem Xgj{vx:List XP}(j:Fits F w)(hy:X4 F y)(hx:QxR F rx vx)(i:QxR F ro on)(hb:rx.n<=1000/\ro.n<=1000)(b:StQ y fr t2 vx on n)(hz:∀a∈on,Xf a 100000):Qf prog 157 [y.v,tx (JP fr),rx.v,tx (JP t2),ro.v] w F (.bool (Ir (YP y.rs fr t2 vx on) on)):=by
 obtain⟨Z,D,T,S,h⟩:=b.mv;refine QU.intro (G:=λF=>X4 F y/\QxR F rx vx/\QxR F ro on) func157 rfl tH rfl rfl j (λF' c=>⟨hy.le c,hx.le c,i.le c⟩)<|wa<|Qp rfl (vs:=[_,_,_]) rfl λm=>wZ rfl<|wa<|QA (wO I J6 .here)<|wW rfl<|wW rfl<|wW rfl<|wW rfl<|QI rfl (λ_ _ f k=>Xh3 (Z:=Z) (D:=D) (T:=T) (S:=S) f k.1 k.2.1 k.2.2 (by rw[b.lx];exact ah _) ⟨O,O⟩ h) λl=>JQ _ (λ_ _ f k=>k.2.len) λg=>?_
 rw[Z3]at g;refine wW I<|QI I (λ_ _ f k=>Xf9 (va:=(YP y.rs fr t2 vx on)) (vb:=on) f k.2 k.1.2.2 (by rw[Z3,b.lx,b.lo];exact ah _) (by have:=b.lx;have:=k.1.2.1.len;omega) b.om b.zm hz) λ_=>wD 4 I ?_
 exact wg I I (rfl) tL
theorem Xgi{r:Sr}{n:Nat}(A:Fits F w)(hy:X4 F y)(z:∀s∈y.sl,Xd s.1 s.2=0)(hx:Xgf F r tb)(hn:r.n<=1000000)(Y:y.rl.length<=1000)(R:n<=900)(C:QHw y.rl.length tb)(H:∀e∈y.rl,e.2.length=e.1.n/\e.1.n<=1000/\∀t∈e.2,Jp t.f=0)(hq:∀i,i<tb.length->StQ y (frQ tb i) (Qz (el tb i).e) (bxV y tb i) (lV (el tb i).wl) n):Qf prog 65 [y.v,r.v,.int .i64 (n:Int)] w F (.bool (Xf8 y tb n)):=by
 have P:=hx.a.len;refine QU.intro (G:=λF=>X4 F y/\Xgf F r tb) func65 rfl tH rfl rfl A (λF' B=>⟨hy.le B,hx.le B⟩)<|wa<|Qp rfl (vs:=[_,_,_]) rfl λb3=>wZ rfl<|QG<|JG we mixed tE<|QK (QH rfl YM J0)<|QK (Qe rfl J0 .here (.skip (.skip .h1)))<|QK (QF rfl)<|QK (QF rfl)<|Q7<|wE 4 I<|wZ rfl<|QV<|J9 (ι:=Xhn y tb n) [(1,_),(2,_),(3,_)] (λi=>[(7,tx (JP (frQ tb i.i))),(8,(bxR y tb i.i).v),(9,.int .i64 ((i.i:Nat):Int))]) (λi=>tb.length-i.i) (⟨0,aq _,λj N=>by cases N⟩) wu ⟨(congrArg (λs=>some (tx s)) Xb8.symm),rfl,rfl,trivial⟩ λi=>?_
 simp only[ab,ae];have hi:=i.le;refine wA 5 I<|QA (Qg I EC)<|wD 3 I ?_
 refine QQ I (λm=>?_) λm=>?_
 ·have b:i.i<tb.length:=tD<|wi m
  have x:=Qw b;have c:=hq _ b;have L:(el tb i.i).e=JP (Qz (el tb i.i).e):=(XM (C.e _ b)).1;have D:∀a∈(lV (el tb i.i).wl),Xf a 100000:=λa ha=>(QBo (C.w _ b) a ha).mono tF;have E:∀a∈(lV (el tb i.i).ll),Xf a 100000:=λa ha=>(QBo (C.l _ b) a ha).mono tF;refine XV _ (λw F A ⟨hy,hx⟩=>aS (Xhh hy z hx b).len (hx.q _ x).1.len) (λV=>?_);have S:=c.lx;have T:=c.lo;refine wC 8 I<|QA (Q3 (n:=r.n) i.i (λF h9=>h9.2.a.row) rfl rfl EC X8 O)<|QA (JZ (n:=r.n) (vs:=[tx (el tb i.i).e,.slice (el tb i.i).w.q (el tb i.i).w.n (el tb i.i).w.cap,.slice (el tb i.i).l.q (el tb i.i).l.n (el tb i.i).l.cap]) ((i.i)*3) (λF h9=>h9.2.a.row) O rfl X8 I λj v Q=>JN (f:=uI) (l:=tb) Cb O Q)<|Qc Wt λX=>QW (vs:=[_,_,_]) I I I X8 I .here .h3 wu<|wD 4 I<|JG we mixed tE<|QK (wO I J6 .u1)<|QK (QD I)<|QK (QD I)<|QK (QH I Ec JF)<|QK (Qe I JF .here .h1)<|QK (QH I Ub J0)<|QK (Qe I J0 .here (.skip .h1)) ?_
  rw[L];refine QR I (λw F A ⟨hy,hx⟩=>Xgj (fr:=(frQ tb i.i)) (t2:=(Qz (el tb i.i).e)) (vx:=(bxV y tb i.i)) (on:=(lV (el tb i.i).wl)) (rx:=bxR y tb i.i) (ro:=(el tb i.i).w) (n:=n) A hy (Xhh hy z hx b) (hx.q _ x).1 ⟨O,O⟩ c D) (λ_=>QK (XL I)<|QK (QD I) ?_);refine Gg (t:=32) rfl (λu=>?_) λu=>?_
  ·have o:((goB y tb i.i)&&(liB y tb n i.i))=false:=by rw[show(goB y tb i.i)=false by unfold goB;simpa using u,bV]
   refine Jj I I I<|Jj I I I<|Jj I I I<|Jj I I I<|Jj I I I<|Jj I I I<|Jj I I I<|Jj I I I<|Jj I I I<|Jj I I I<|Jj I I I<|Jj I I I<|Jj I I I<|QK (Qh I I I)<|Q7<|QC<|SG I<|wA 6 I ?_
   repeat first|refine Q6 ?_|refine Qv ?_
   exact wg I I (by rw[Xe4 b o]) tL
  have K:(goB y tb i.i)=true:=by unfold goB;simpa using u
  refine XA I I<|QK (wO I J6 .u1)<|XA I I<|QK (QD I)<|XA I I<|QK (QD I)<|XA I I<|QK (QH I Ec JF)<|XA I I<|QK (Qe I JF .here .h1)<|XA I I<|QK (QH I Ub J0)<|XA I I<|QK (Qe I J0 .here (.skip .h1))<|XA I I<|QK (QD I)<|XA I I<|QR I (λw F A ⟨⟨hy,hx⟩,_⟩=>Xek (fr:=(frQ tb i.i)) (t2:=(Qz (el tb i.i).e)) (vx:=(bxV y tb i.i)) (on:=(lV (el tb i.i).wl)) (rx:=bxR y tb i.i) (ro:=(el tb i.i).w) (n:=n) A hy (Xhh hy z hx b) (hx.q _ x).1 c.lx c.lo ⟨O,O,O⟩ H c.tb) λM=>XA I I<|QK (QH I N6 J0)<|XA I I<|QK (Qe I J0 .here (.skip (.skip .h1)))<|XA I I<|QR I (λ_ _ f k=>Xf9 (va:=(Yc y.rs (frQ tb i.i) (Qz (el tb i.i).e) (bxV y tb i.i) (lV (el tb i.i).wl) n)) (vb:=(lV (el tb i.i).ll)) (ra:=M) (rb:=(el tb i.i).l) f k.2 (k.1.1.2.q _ x).2 (by rw[Xe5,c.lx,Yg,(XZ (C.l _ b)).1];exact ah _) (by have:=k.2.len;rw[Xe5,c.lx]at this;omega) c.ot c.zt E) λ_=>XA I I ?_
  refine QK (XL I)<|QK (Qd I I I)<|Q7<|QC ?_
  refine QQ I (λm=>?_) λm=>?_
  ·have o:((goB y tb i.i)&&(liB y tb n i.i))=false:=by rw[show(liB y tb n i.i)=false by unfold liB;simpa using m,bw]
   refine wA 6 I ?_
   repeat first|refine Q6 ?_|refine Qv ?_
   exact wg I I (by rw[Xe4 b o]) tL
  have o:((goB y tb i.i)&&(liB y tb n i.i))=true:=by rw[K,show(liB y tb n i.i)=true by unfold liB;simpa using m];rfl
  refine QN<|QC<|JG we mixed tE<|QK (QH I Ec JF)<|QK (Qe I JF .here .h1)<|QK (QH I N6 J0)<|QK (Qe I J0 .here (.skip (.skip .h1)))<|QK (QF I)<|QK (QF I)<|Q7<|Qj<|wE 3 I<|QA (Qu I I O)<|wB 2 I ?_
  exact Ql (⟨i.i+1,b,λj N=>by
     rcases aW j i.i with g | g
     ·exact i.ok j g
     rw[show j=i.i by omega];exact o⟩) (by show tb.length-(i.i+1)<tb.length-i.i;omega) wz (.cons _ we) λF h=>h.1.1.1
 have U:tb.length<=i.i:=tD<|wj m
 refine Qx ?_
 repeat first|refine QY ?_|refine QO tH ?_
 refine QZ<|wE 7 I ?_
 exact wg I I (by rw[Xfm i (tD i.le)]) tL
structure SmY(y:Xz)(m:Nat):Prop where
 s:SmS 20 4 3 m y.rs
 rl:y.rl.length=m
 pl:∀e∈y.rl,e.2.length=e.1.n/\e.1.n<=1000/\∀t∈e.2,Jp t.f=0
structure ShB(m:Nat)(x:List XP):Prop where
 len:x.length=m
 sz:∀a∈x,Xf a 160
 ord:Nv x
theorem SmS.po{rs:List (List Tm)}(h:SmS Z T D m rs){i:Nat}(hi:i<rs.length):ke Z D T (m+1) (el rs i) :=
 ⟨h.len _ (Qw hi),λu hu=>(h.N4 _ (Qw hi) u hu).1,λu hu=>(h.N4 _ (Qw hi) u hu).2.1,λu hu=>(h.N4 _ (Qw hi) u hu).2.2.1,λu hu k hk=>(h.N4 _ (Qw hi) u hu).2.2.2 k hk⟩
theorem SmS.fit{rs:List (List Tm)}(h:SmS Z T D m rs){k:Nat}(hk:k=m):yW rs k:=by
 subst hk;intro i hi t ht;have h1:=h.N4 _ (Qw (show i<rs.length by rw[h.hn];exact hi)) t ht;exact⟨by rw[h1.2.2.1];exact ah _,λk hk=>(h1.2.2.2 k hk).1⟩
theorem ShB.rv{t:XP}(h:SmY y m)(hx:ShB m x)(ht:Xf t 160){i:Nat}(hi:i<y.rl.length):jT 20 3 4 160 (el y.rl i).2 (t::x):=by
 have hp:=h.s.po (i:=i) (by rw[h.s.hn,<-h.rl];exact hi);rw[QA5 hi]at hp;exact⟨by rw[aB,hx.len];exact hp,(h.pl _ (Qw hi)).2.2,λa ha=>by
  rcases List.mem_cons.1 ha with rfl | ha
  ·exact ht
  exact hx.sz a ha,tF,tF,tF⟩
theorem ShB.ev{t:XP}(h:SmY y m)(hx:ShB m x)(ht:Xf t 160){i:Nat}(hi:i<y.rl.length):Xf (J3 (t::x) (el y.rs i)) 2100:=by
 have h1:=Wf (h.s.po (i:=i) (by rw[h.s.hn,<-h.rl];exact hi)) (bs:=t::x) (S:=160) (by rw[aB,hx.len]) λa ha=>by
  rcases List.mem_cons.1 ha with rfl | ha
  ·exact ht
  exact hx.sz a ha
 exact h1.mono tF
def dM{a d:Nat}(h:a<=c)(k:b<=d):a*b<=c*d:=bW h k
section
variable{y:Xz}{m n:Nat}{fr t2:Rat}{x on:List XP}(h:SmY y m)(hm:m<=2)(hx:ShB m x)(ho:ShB m on)(hf:JW fr<=56)(ht:JW t2<=56)(hlt:fr<=t2)(hn:n<=3)
def Xdh(fr t2:Rat)(x on:List XP):List Rat:=fr::t2::(Uc x++Uc on)
include h hm hx ho hf ht hlt hn
omit h hm hlt hn in
theorem Xei:∀r∈Xdh fr t2 x on,JW r<=160:=λr hr=>by
 rcases List.mem_cons.1 hr with rfl | hr
 ·omega
 rcases List.mem_cons.1 hr with rfl | hr
 ·omega
 rcases List.mem_append.1 hr with hr | hr
 ·exact Xcp hx.sz r hr
 exact Xcp ho.sz r hr
omit hlt hn in
theorem Xf1:sz ((Xbp y.rs (Xdh fr t2 x on):Nat):Int)<=1768:=by
 have h1:=Xcq h.s (Xei hx ho hf ht)
 have h2:(Xdh fr t2 x on).length<=10:=by
  show(Uc x++Uc on).length+1+1<=10
  rw[aE,QAA,QAA,hx.len,ho.len];omega
 have h3:=dM h2 (ah 160)
 have h4:m*4*20<=2*4*20:=dM (dM hm (ah 4)) (ah 20)
 omega
omit hm hlt in
theorem Xf2:jN (Xbp y.rs (Xdh fr t2 x on)) 160 3 4 (n+1) y.rs (fr,fr) x/\jN (Xbp y.rs (Xdh fr t2 x on)) 160 3 4 (n+1) y.rs (fr,t2) on/\Cl (Xbp y.rs (Xdh fr t2 x on)) 1 (160+1) (t2-fr):=by
 have c:=Xei hx ho hf ht
 have b:fr∈Xdh fr t2 x on:=.head _
 have f:t2∈Xdh fr t2 x on:=.tail _ (.head _)
 refine⟨Xcs h.s hx.len ⟨b,b⟩ (λa ha=>?_) c tF O,Xcs h.s ho.len ⟨b,f⟩ (λa ha=>?_) c tF O,?_⟩
 ·have:=cy ha
  exact⟨.tail _ (.tail _ (bI _ this.1)),.tail _ (.tail _ (bI _ this.2))⟩
 ·have:=cy ha
  exact⟨.tail _ (.tail _ (bH _ this.1)),.tail _ (.tail _ (bH _ this.2))⟩
 rw[Rat.sub_eq_add_neg]
 exact Cl.add (Xa4 _ _) (Xa7 f c) (Xa7 b c).neg
omit h hm hx ho hf ht hlt in
theorem smM{q:Nat}{Q:Nat}(hq:sz ((Q:Nat):Int)<=1768):tyM Q 160 3 4 (n+1)<=45000/\I9 Q 160 3 4 n<=45000:=by
 obtain rfl | rfl | rfl | rfl:n=0\/n=1\/n=2\/n=3:=O
 all_goals
  unfold tyM I9 j3 kf bE
  omega
theorem Xeo:Xex y.rs fr t2 x on n/\(∀a∈Yc y.rs fr t2 x on n,Xf a 45000)/\kO y.rs fr t2 x on n:=by
 have hq:=Xf1 h hm hx ho hf ht;obtain⟨c1,c2,f⟩:=Xf2 h hx ho hf ht hn;have c:=smM (n:=n) (q:=0) hn hq;generalize Xbp y.rs (Xdh fr t2 x on)=Q at hq c1 c2 f c;obtain⟨c,w⟩:=c;have l:=c;have b:=c1.q0;have o:=c1.rok c;have A:=c2.rok c;have u:on.length=x.length:=by rw[ho.len,hx.len]
 unfold tyM at l;have D:((3+1)*(n+1)+1)*sz (Q:Int)<=((3+1)*(n+1)+(3+2))*sz (Q:Int):=aj _ O;have g:∀(t:Rat×Rat) (z:List (Rat×Rat)),jN Q 160 3 4 (n+1) y.rs t z->∀m,m<=n+1->∀i,i<z.length->∀k,k<=m->Xf (el (el (J1 y.rs t z m) i) k) 45000:=λt z hz m hm i hi k hk =>
  (Tv hz m hm i hi).Ux b (n:=n+1) (by rw[VO y.rs _ z m hi];omega) O _ (Qw (by rw[VO y.rs _ z m hi];omega))
 have B:=w;unfold I9 j3 kf at w;refine⟨⟨⟨λk hk=>o.ra k O,λk hk=>o.cf k O⟩,A,λi hi k hk=>g _ x c1 n O i hi k hk,λi hi=>g _ on c2 (n+1) (ah _) i O (n+1) (ah _),λi hi k hk=>?_,λk hk=>?_,?_,⟨O,O⟩⟩,λs j=>?_,(OT c1 c2 f u O O O).1⟩
 ·have h1:=(xB c1 f hi k hk).Ux b;refine h1.mono ?_;have g1:bE 160 3 4 n*n<=bE 160 3 4 n*(n+1):=aV _ O;have C:((3+2)*n+1)*sz (Q:Int)<=((3+2)*(n+1)+1)*sz (Q:Int):=aj _ O;omega
 ·have h1:=(f.pow b k).JW b;have g1:k*(160+1)<=(n+1)*(160+1):=aj _ hk;have C:k*sz (Q:Int)<=(n+1)*sz (Q:Int):=aj _ hk;have E:(n+1)*sz (Q:Int)<=4*1768:=dM O hq;omega
 ·have h1:=f.JW b;omega
 have h1:=(j0 c1 c2 f u s j).Ux b;refine h1.mono ?_;unfold j3 kf;omega
theorem Xeq:MvC 20 3 4 m 56 y.rs fr t2:=⟨λi hi=>h.s.po hi,h.s.hn,hf,ht⟩
theorem Xf0:StQ y fr t2 x on n:=by
 have hb:=Xeo h hm hx ho hf ht hlt hn;have g:y.rs.length=y.rl.length:=by unfold Xz.rs;rw[ag]
 have b:Xf (fr,t2) 160:=⟨by show JW fr<=160;omega,by show JW t2<=160;omega⟩;have f:∀a∈YP y.rs fr t2 x on,Xf a 100000:=λa ha=>(Lk (X:=160) (Xeq h hm hx ho hf ht hlt hn) hx.len ho.len hx.sz ho.sz tF a ha).mono tF;have c:=Xer (rs:=y.rs) hx.ord.sub hlt (λi hi=>ho.ord i hi) λi hi t ht=>(h.s.fit (k:=m) rfl i (by rw[<-hx.len];exact hi) t ht).imp (λk=>by rw[ho.len];exact k) id;refine⟨⟨20,3,4,160,λi hi=>ho.rv h b hi,⟨O,O⟩,λa ha=>(hx.sz a ha).mono tF,λe he=>⟨(h.pl e he).1,(h.pl e he).2.1⟩,λi hi=>(ho.ev h b hi).mono tF⟩,c.ord,f,hb.1,λi hi=>gF _ _ _ _ _ _ _ (Qw hi),λa ha=>(hb.2.1 a ha).mono tF,by rw[hx.len,h.rl],by rw[ho.len,h.rl]⟩
theorem Xew:kT y.rs fr t2 x on:=UC (X:=160) (S:=160) (Xeq h hm hx ho hf ht hlt hn) hx.len ho.len hx.sz ho.sz tF O tF tF tF tF tF
end
def Xho(y:Xz)(tb:List Wl)(n:Nat):Prop:=∀i,i<tb.length->kT y.rs (frQ tb i) (Qz (el tb i).e) (bxV y tb i) (lV (el tb i).wl)/\kO y.rs (frQ tb i) (Qz (el tb i).e) (bxV y tb i) (lV (el tb i).wl) n/\(∀a∈YP y.rs (frQ tb i) (Qz (el tb i).e) (bxV y tb i) (lV (el tb i).wl),Xf a 100000000)/\∀a∈Yc y.rs (frQ tb i) (Qz (el tb i).e) (bxV y tb i) (lV (el tb i).wl) n,Xf a 100000000
def ctE(y:Xz)(tb:List Wl)(o:Int):Int:=Qs [Qs [y.e,Dz y.nm.n tb],BD o]
def ctR(y:Xz)(tb:List Wl)(o:Int):Int:=if ctE y tb o≠0 then ctE y tb o else if Xf8 y tb o.toNat=true then 0 else 20
structure CtJ(y:Xz)(tb:List Wl)(n:Nat) where
 i:Nat
 f0:Value
 f1:Value
 f2:Value
 f3:Value
 tt:Fr
 bx:Sr
 bl:List Yx
 le:i<=tb.length
 ok:∀j,j<i->(goB y tb j&&liB y tb n j)=true
def ctT(s:CtJ y tb n)(h:s.i=tb.length):Xf8 y tb n=true:=Xfm ⟨s.i,s.le,s.ok⟩ h
theorem Xhd(h:y.vs.length=n)(a:QHw n tb)(hi:i<tb.length):(bxV y tb i).length=n:=by
 unfold bxV;split
 ·exact h
 rw[Yg];exact(XZ (a.l _ O)).1
theorem Xfs{r:Sr}(hF:Fits F w)(M:JE F)(hy:X4 F y)(ht:GJ y)(hx:IF F r tb)(hc:QCR r tb)(H:ctE y tb o=0->Xho y tb o.toNat):Qf prog 66 [y.v,r.v,.int .i64 o] w F (.int .i64 (ctR y tb o)):=by
 have hxr:=hx.len;have hcn:=hc.n;refine QU.intro (G:=λF=>JE F/\X4 F y/\IF F r tb) func66 rfl tH rfl rfl hF (λF' U=>⟨M.le U,hy.le U,hx.le U⟩)<|wa<|Qp rfl (vs:=[_,_,_]) rfl λb3=>wZ rfl<|QG<|wa<|QA (wO I J6 .here)<|wW rfl<|QI rfl (λ_ _ f k=>Xg0 (y:=y) f k.1 k.2.1 ht k.2.2 hc) λ_=>wW rfl<|QI rfl (λ_ _ f k=>WA f) λ_=>Qb rfl (Q5 ZM) YS Ht rfl rfl λb19=>QI rfl (λ_ _ f k=>YV f (Qy.of (cs:=List.map Jo [_,_]) k.2 rfl) tF) λ_=>wZ rfl<|wb rfl<|QA (QT rfl rfl rfl)<|QE ?_
 refine QC ?_;refine QQ I (λm=>?_) λm=>?_
 ·have z:ctE y tb o≠0:=bne_iff_ne.1 m;refine wA 7 I ?_;exact wg I I (by unfold ctR;rw[if_pos z]<;>rfl) tL
 have z:ctE y tb o=0:=bne_eq_false_iff_eq.1 m;have H:=H z;have h16:Qs [y.e,Dz y.nm.n tb]=0:=Q9 z _ (.head _);have hye:y.e=0:=Q9 h16 _ (.head _);have K:=gA (Q9 h16 (Dz y.nm.n tb) (.tail _ (.head _)));have hor:=Nw (Q9 z (BD o) (.tail _ (.head _)));have R:∀b∈tb,b.e.length<=1000000/\BS b.w b.wl/\BS b.l b.ll:=hc.t.resolve_left (tD K.len);have u:=hy.ok hye;have hn1:=u.n1;have hn0:=u.n0;have hrn:=u.rn;have hsn:=u.sn;have hsl:=hy.P0;have hrs:y.rs.length=y.nm.n:=by unfold Xz.rs;rw[ag,hy.Ka,hrn]
 have hvs:y.vs.length=y.nm.n:=by unfold Xz.vs;rw[ag,hsl,hsn]
 obtain⟨n,rfl⟩:∃n:Nat,o=(n:Int):=⟨o.toNat,O⟩;rw[ba]at H;have S:ctR y tb (n:Int)=if Xf8 y tb n=true then 0 else 20:=by unfold ctR;rw[if_neg (by rw[z];decide),ba]
 refine wC 4 I<|QA (wO I J6 .here)<|QI rfl (λ_ _ f k=>Zc (y:=y) f k.1.1.1.1.1 k.1.1.1.1.2.1 ht u) λN=>JQ _ (λw F hF ⟨⟨⟨⟨⟨⟨M,hy,hx⟩,_⟩,_⟩,P⟩,_⟩,E⟩=>aS E.Ka (aS (E.pn u.short) E.box.nl)) λhnn=>?_
 obtain⟨hn25,hp25,hb25⟩:=hnn;refine wD 4 I<|Kr (r:=[0,1,2,3,4,5,6,7]) tR mixed tE rfl<|Jr 1 tE rfl rfl<|QK (QD I)<|JC<|Jr 2 tE rfl rfl<|QK (Zd I)<|JC<|Jr 3 tE rfl rfl<|QK (QH I pY JH)<|JC<|Jr 4 tE rfl rfl<|QK (Zq (c:=#[N.rt.v,N.st.v]) (T':=188) rfl JH (λF h9=>h9.2.Hs) rfl)<|JC<|Kq (A:=[6]) (r:=[0,5,7]) tE<|XQ 0 tE tE tH tR tM rfl rfl rfl (λ_=>rfl) (λ_ _ f k=>TN (n:=0) f tF tF) λc26=>qz 5 tE tE tH tR tN rfl tH (λ_=>Q4 I zC OM (.cons (vs:=[_,_,_,_]) I I I (.skip (.skip (.skip (.skip .h4)))) (.cons (vs:=[_]) I I I (.skip (.skip (.skip (.skip (.skip (.skip (.skip (.skip .h1)))))))) .nil)))<|VH 6 (d:=9) (T:=183) tE tE tH tR tN tE tE OM λb9=>Zv (vs:=[_,_,_,_,_,_,_,_,_]) 7 tE tE tH (.cons _ tR) tN rfl rfl (λ_=>rfl) (λ_=>rfl) rfl Hv I .here tR .h9 w9 ?_
 refine WL ?_ tE;refine QC<|QG<|wb rfl<|QA (Qg rfl EC)<|wW rfl<|wY<|QV<|JU (ι:=CtJ y tb n) [(2,_),(8,_),(9,_),(32,_),(33,_)] (λi=>[(34,.int .i64 ((i.i:Nat):Int))]) (λi=>(b9,.cells #[i.f0,i.f1,i.f2,i.f3,.int .i64 i.tt.n.s,.slice i.tt.n.q i.tt.n.n i.tt.n.cap,.int .i64 i.tt.d.s,.slice i.tt.d.q i.tt.d.n i.tt.d.cap,.slice i.bx.q i.bx.n i.bx.cap] 183 (0,0))::[]) (λi F=>JR F i.tt (frQ tb i.i)/\J7 F i.bx i.bl (bxV y tb i.i)) (λi=>tb.length-i.i) (⟨0,.int .i64 0,.slice none 0 0,.int .i64 0,.slice none 0 0,c26,N.st,N.sl,aq _,λj hj=>by cases hj⟩) wy wk (tR) (λF h=>⟨h.2,h.1.2.box⟩) λi=>?_
 simp only[ab,ae];have hi:=i.le;refine wA 6 I ?_;refine QQ I (λm=>?_) λm=>?_
 ·have a:i.i<tb.length:=tD<|wi m
  have C:=Qw a;have L:=H _ a;have hce:=K.e _ a;have hcl:=(R _ C).1;have hlw:(lV (el tb i.i).wl).length=y.nm.n:=by rw[Yg];exact(XZ (K.w _ a)).1
  have hll:(lV (el tb i.i).ll).length=y.nm.n:=by rw[Yg];exact(XZ (K.l _ a)).1
  have Q:=Xhd hvs K a;refine XV _ (λ_ _ f k=>k.2.2.nl) (λhnb=>?_);rw[Q]at hnb;refine wC 6 I<|QA (Q3 (n:=r.n) i.i (λF h9=>h9.1.1.1.1.1.1.1.2.2.row) rfl rfl EC X8 O)<|QA (JZ (n:=r.n) (vs:=[tx (el tb i.i).e,.slice (el tb i.i).w.q (el tb i.i).w.n (el tb i.i).w.cap,.slice (el tb i.i).l.q (el tb i.i).l.n (el tb i.i).l.cap]) ((i.i)*3) (λF h9=>h9.1.1.1.1.1.1.1.2.2.row) O rfl X8 I λj v X=>JN (f:=uI) (l:=tb) Cb O X)<|Qc Wt λb11=>QW (vs:=[_,_,_]) I I I X8 I .here .h3 wu<|wY<|QG<|Jq 6 we mixed tE tE ?_
  simp only[aK,aM,aL,aY];refine QK (QH I Bk QS)<|QK (wR I QS .u1)<|QK (QH I Ec JF)<|QK (Qe I JF .here .h1)<|QR I (λ_ _ f k=>Ki f k.1.1.1.1.1.1.1.1 (XM hce).1 O) λV=>QK (QH I Bl QS)<|ZS<|QW (vs:=[_,_,_,_]) I I I QS I .u1 .h4 wv<|QA (QH I Bk QS)<|QW (vs:=[_,_,_,_]) I I I QS I .u1 (.skip (.skip (.skip (.skip .h4)))) wv<|wY<|QG<|JG we mixed tE<|QK (QH I Ub J0)<|QK (Qe I J0 .here (.skip .h1))<|QR I (λw _ f k=>H5 f k.1.1.1.1.1.1.1.1.1 (k.1.1.1.1.1.1.1.1.2.2.bx _ C).1 (R _ C).2.1 (XZ (K.w _ a)).2) λc47=>Yl _ (λ_ _ f k=>k.2.nl) λhn47=>?_
  rw[hlw]at hn47;refine QK (QH I N6 J0)<|QK (Qe I J0 .here (.skip (.skip .h1)))<|QR I (λ_ _ f k=>H5 f k.1.1.1.1.1.1.1.1.1.1 (k.1.1.1.1.1.1.1.1.1.2.2.bx _ C).2 (R _ C).2.2 (XZ (K.l _ a)).2) λc50=>Yl _ (λ_ _ f k=>k.2.nl) λhn50=>?_
  rw[hll]at hn50;refine QK (QF I)<|QK (QF I)<|Q7<|wE 5 I<|QA (QJ (vs:=[_,_,_,_,_,_,_,_,_]) I Hv .u1 .h9 rfl)<|wW I<|QI I (λ_ _ f k=>MF (x:=⟨i.tt,V,i.bx,i.bl⟩) (vx:=(bxV y tb i.i)) (fr:=(frQ tb i.i)) (t2:=(Qz (el tb i.i).e)) f k.1.1.1.1.1.2 ⟨k.1.1.1.2.1,k.1.1.2,k.1.1.1.2.2⟩ k.1.2 (by dsimp only;omega) O (by dsimp only;omega) (λe he=>tD<|hp25 e he) L.1) λc54=>JQ _ (λ_ _ f k=>k.2.nl) λZ=>?_
  rw[Z3,Q]at Z;refine wW I<|QI I (λw _ f k=>TR f k.2 k.1.1.2 O O L.2.2.1 λv X=>(QBo (K.w _ a) v X).mono tF) λ_=>QA (XL I)<|wW I ?_
  refine Qn (t:=58) rfl (λD=>?_) λD=>?_
  ·have B:((goB y tb i.i)&&(liB y tb n i.i))=false:=by rw[show(goB y tb i.i)=false by unfold goB;simpa using D,bV]
   refine wD 11 I<|SG I<|wA 6 I ?_
   repeat first|refine Q6 ?_|refine Qv ?_
   exact wg I I (by rw[S,Xe4 a B]<;>rfl) tL
  have hgo:(goB y tb i.i)=true:=by unfold goB;simpa using D
  refine wB 3 I<|QA (QJ (vs:=[_,_,_,_,_,_,_,_,_]) I Hv .u1 .h9 rfl)<|wB 5 I<|QI I (λ_ _ f k=>Mp (n:=n) (x:=⟨i.tt,V,i.bx,i.bl⟩) (vx:=(bxV y tb i.i)) (fr:=(frQ tb i.i)) (t2:=(Qz (el tb i.i).e)) f k.1.1.1.1.1.1.1.2 ⟨k.1.1.1.1.1.2.1,k.1.1.1.1.2,k.1.1.1.1.1.2.2⟩ k.1.1.1.2 (by dsimp only;omega) (by dsimp only;omega) (by dsimp only;omega) (by dsimp only;omega) O (λe he=>tD<|hp25 e he) L.2.1) λc63=>JQ _ (λ_ _ f k=>k.2.nl) λY=>?_
  rw[Xe5,Q]at Y;refine wB 3 I<|QI I (λ_ _ f k=>TR f k.2 k.1.1.1.2 O O L.2.2.2 λv X=>(QBo (K.l _ a) v X).mono tF) λ_=>QL I I<|QA (XL I)<|wD 3 I ?_
  refine QQ I (λm=>?_) λm=>?_
  ·have B:((goB y tb i.i)&&(liB y tb n i.i))=false:=by rw[show(liB y tb n i.i)=false by unfold liB;simpa using m,bw]
   refine wA 6 I ?_
   repeat first|refine Q6 ?_|refine Qv ?_
   exact wg I I (by rw[S,Xe4 a B]<;>rfl) tL
  have B:((goB y tb i.i)&&(liB y tb n i.i))=true:=by rw[hgo,show(liB y tb n i.i)=true by unfold liB;simpa using m];rfl
  refine wC 4 I<|QA (QH I Bj JH)<|QW (vs:=[_]) I I I JH I .u1 (.skip (.skip (.skip (.skip (.skip (.skip (.skip (.skip .h1)))))))) wk<|QE<|Qj<|QC<|QB<|QA (Qu I I O)<|wB 2 I ?_
  exact Ql (⟨i.i+1,.int .i64 i.tt.n.s,.slice i.tt.n.q i.tt.n.n i.tt.n.cap,.int .i64 i.tt.d.s,.slice i.tt.d.q i.tt.d.n i.tt.d.cap,V,c50.1,c50.2,a,λj hj=>by
     rcases aW j i.i with g | g
     ·exact i.ok j g
     rw[show j=i.i by omega];exact B⟩) (by show tb.length-(i.i+1)<tb.length-i.i;omega) wz (.cons _ we) λF ⟨⟨⟨⟨⟨⟨⟨⟨⟨⟨⟨⟨⟨⟨⟨M,hy,hx⟩,_⟩,_⟩,P⟩,_⟩,E⟩,h26⟩,hS⟩,h42⟩,h47⟩,h50⟩,h54⟩,_⟩,h63⟩,_⟩=>⟨⟨⟨⟨⟨⟨⟨⟨M,hy,hx⟩,trivial⟩,trivial⟩,P⟩,trivial⟩,E⟩,h26⟩,⟨h42,h50⟩⟩
 have hge:tb.length<=i.i:=tD<|wj m
 refine Qx ?_
 repeat first|refine QY ?_|refine QO tH ?_
 refine QZ<|wE 7 I ?_
 exact wg I I (by rw[S,ctT i (tD i.le)]<;>rfl) tL
def Wl.sl(b:Wl)(k:Nat):List (List UInt8×List UInt8):=if k=0 then b.wl else b.ll
def Xhb(h:y.e=0->y.rt.n=y.nm.n):Qs [y.e,Dz y.nm.n tb]=Xf7 y tb:=by
 unfold Xf7;by_cases g:y.e=0
 ·rw[if_neg (by rw[g];decide),g,Zn,QCD,h g]
 rw[if_pos g,Zf g]
def Xh1(a:Xdo tb=true)(c:QHw n tb):∀b∈tb,Ts b.wl=true/\Ts b.ll=true/\b.e.length<=14:=λb hb=>by
 unfold Xdo at a;rw[ax,ao]at a;have h1:stN tb.length=false:=by simpa using a.1
 unfold stN at h1;simp only[au,aR,decide_eq_false_iff_not]at h1;have f:=c.len;rw[aN O]at a;have h:=a.2 b hb;simp only[stX,aO,au,aF]at h;obtain⟨⟨h1,h2⟩,h3⟩:=h;exact⟨h2,h3,by unfold cT at h1;simp at h1;omega⟩
theorem QGg{v:Int}(c:vG y)(hr:y.rl.length=y.rt.n)(a:vF y)(b:shS y=true)(h:pT y v 3 6=true):SmY y y.rl.length/\(y.rl.length:Int)<=v:=by
 have h1:=QGF h hr;refine⟨⟨h1.1,rfl,λe he=>⟨(c.rl e he).1,?_,λt ht=>?_⟩⟩,h1.2⟩
 ·unfold shS at b;simp only[ax,ao]at b;have h2:=b.2.1 e he;unfold shP at h2;simp only[ax,aO,decide_eq_false_iff_not]at h2;omega
 have h2:=a.pl e he;exact(Wv (h2.term (t.f,t.k) (aC (f:=λt:V0=>(t.f,t.k)) ht))).2.2.2
theorem QHK(h:∀s∈l,s.1.length<=40/\s.2.length<=40)(hc:∀s∈l,Xd s.1 s.2=0)(hm:l.length=m):ShB m (lV l):=by
 refine⟨by rw[Yg];exact hm,λa ha=>?_,λi hi=>?_⟩
 ·obtain⟨s,b,rfl⟩:=List.mem_map.1 ha;have h1:=Ku (hc s b);have h2:=h s b;exact⟨OU (k:=40) h1.1 tF h2.1,OU (k:=40) h1.2.1 tF h2.2⟩
 obtain⟨s,b,e⟩:=List.mem_map.1 (Qw hi);have c:JB s=el (lV l) i:=e;rw[<-c];have h1:=(Ku (hc s b)).2.2;have h2:=K3 (Qz s.1) (Qz s.2);show Qz s.1<=Qz s.2;exact Rat.not_lt.1 λk=>h1 (h2.2 k)
def QGG(h:Ts l=true)(hb:YZ m l=0):ShB m (lV l):=QHK (AY h).2 (XZ hb).2 (XZ hb).1
theorem Xfk(b:shS y=true)(a:vF y)(hm:y.sl.length=m):ShB m y.vs:=QHK (QIJ b).s a.st hm
theorem Xd6{a b:Rat}(h:Wc a b=0):a<=b:=by
 unfold Wc at h;split at h
 ·cases h
 rename_i g;rw[decide_eq_true_eq,N8]at g;rcases Rat.le_total (a:=a) (b:=b)with k | k
 ·exact k
 exact absurd k g
def Xh5:Hd tb i=frQ tb i:=by unfold Hd frQ;split<;>rfl
theorem Xh0(h:SmY y m)(hm:m<=2)(g:ShB m y.vs)(o:Xdo tb=true)(c:QHw m tb)(hn:n<=3){i:Nat}(hi:i<tb.length):StQ y (frQ tb i) (Qz (el tb i).e) (bxV y tb i) (lV (el tb i).wl) n/\(kT y.rs (frQ tb i) (Qz (el tb i).e) (bxV y tb i) (lV (el tb i).wl)/\kO y.rs (frQ tb i) (Qz (el tb i).e) (bxV y tb i) (lV (el tb i).wl) n):=by
 have a:=Xh1 o c;have h1:=a _ (Qw hi);have hb:ShB m (bxV y tb i):=by
  unfold bxV;split
  ·exact g
  exact QGG (a _ (Qw O)).2.1 (c.l _ O)
 have f:ShB m (lV (el tb i).wl):=QGG h1.1 (c.w _ hi);have j:JW (frQ tb i)<=56:=by
  unfold frQ;split
  ·exact ak uc tF
  exact OU (k:=14) (c.e _ O) tF (a _ (Qw O)).2.2
 have ht:JW (Qz (el tb i).e)<=56:=OU (k:=14) (c.e _ hi) tF h1.2.2;have b:frQ tb i<=Qz (el tb i).e:=Xd6 (Xh5 ▸ c.la i hi);exact⟨Xf0 h hm hb f j ht b hn,Xew h hm hb f j ht b hn,(Xeo h hm hb f j ht b hn).2.2⟩
theorem Xh7{r:Sr}(hF:Fits F w)(hGl:JE F)(hy:X4 F y)(hl:vG y)(hx:IF F r tb)(hn:r.n<=9223372036854775807)(hz:∀b∈tb,b.w.n<=9223372036854775807/\b.l.n<=9223372036854775807):Qf prog 9 [y.v,r.v,.int .i64 o] w F (.bool true):=by
 have Y:=hx.len;have U:Qs [y.e,Dz y.nm.n tb]=Xf7 y tb:=Xhb λh=>(hy.ok h).rn;have hbl:∀b∈tb,b.wl.length=b.w.n/\b.ll.length=b.l.n:=λb hb=>⟨(hx.bx b hb).1.len,(hx.bx b hb).2.len⟩;have g:=hy.ok;have Q:=hy.P0;have x:=hy.Ka;refine QU.intro (G:=λF=>JE F/\X4 F y/\IF F r tb) func9 rfl tH rfl rfl hF (λF' N=>⟨hGl.le N,hy.le N,hx.le N⟩)<|wa<|Qp rfl (vs:=[_,_,_]) rfl λb3=>wZ rfl<|QG ?_
 refine ZZ [(1,_),(2,_),(3,_)] [(22,.bool ((Ff y 2||!(Xdo tb)||(decide (o>3)&&decide (o<=16)))))] wu ?_ ?_
 ·refine QB<|QA (wO I J6 .here)<|QI I (λ_ _ f k=>QFF (y:=y) f k.1 k.2.1 hl) λ_=>wW I ?_
  refine Qn (t:=10) rfl (λs=>?_) λs=>?_
  ·refine wB 8 I<|Jn I I<|Jn I I<|wB 3 I ?_
   exact JY ⟨rfl,rfl,rfl,(congrArg (λb=>some (aa b)) (by rw[s];rfl)),trivial⟩ we tN
  refine wB 3 I<|QI I (λ_ _ f k=>Xgm f k.1.2.2 hn hz) λ_=>QL I I<|QA (XL I)<|wB 2 I ?_
  refine Qn (t:=15) rfl (λu=>?_) λu=>?_
  ·refine wB 3 I<|Jn I I<|Jn I I<|wB 3 I ?_
   exact JY ⟨rfl,rfl,rfl,(congrArg (λb=>some (aa b)) (by rw[s,u];rfl)),trivial⟩ we λ_ h=>h.1.1
  refine wB 6 I ?_;refine Qn (t:=18) rfl (λC=>?_) λC=>?_
  ·refine wB 8 I ?_;exact JY ⟨rfl,rfl,rfl,(congrArg (λb=>some (aa b)) (by rw[s,u,C];rfl)),trivial⟩ we λ_ h=>h.1.1
  refine wB 6 I ?_;exact JY ⟨rfl,rfl,rfl,(congrArg (λb=>some (aa b)) (by rw[s,u,C];rfl)),trivial⟩ we λ_ h=>h.1.1
 simp only[ab,ae];refine QQ I (λj=>?_) λj=>?_
 ·refine wa<|QI I (λ_ _ f k=>CX f k.1) λ_=>wD 4 I ?_
  exact wg I I (rfl) tL
 have S:Ff y 2=false/\Xdo tb=true/\(decide (o>3)&&decide (o<=16))=false:=by
  simp only[au,aF]at j;exact⟨j.1.1,j.1.2,j.2⟩
 obtain⟨A,M,hlo⟩:=S;have ht:GJ y:=hl.ts (yQ A).1;have hc:QCR r tb:=Xh2 Y hbl M;have L:ctE y tb o=0->∃n:Nat,o=(n:Int)/\n<=3/\y.e=0/\QHw y.nm.n tb/\(SmY y y.rl.length/\(y.rl.length:Int)<=2):=λH=>by
  have X:Qs [y.e,Dz y.nm.n tb]=0:=Q9 H _ (.head _);have c:y.e=0:=Q9 X _ (.head _);have K:=gA (Q9 X (Dz y.nm.n tb) (.tail _ (.head _)));have hor:=Nw (Q9 H (BD o) (.tail _ (.head _)));have h3:o<=3:=by simp only[aR,decide_eq_false_iff_not]at hlo;omega
  exact⟨o.toNat,O,O,c,K,QGg hl x (g c) (yQ A).1 ((yQ A).2 c)⟩
 have hct:ctE y tb o=0->Xho y tb o.toNat:=λH=>by
  obtain⟨n,rfl,T,c,K,E⟩:=L H;rw[ba];have e:y.nm.n=y.rl.length:=by rw[x,(g c).rn]
  rw[e]at K;have m:=Xfk (yQ A).1 (g c) (show y.sl.length=y.rl.length by rw[Q,x,(g c).sn,(g c).rn]);intro i hi;have h1:=Xh0 E.1 O m M K T hi;exact⟨h1.2.1,h1.2.2,λa ha=>(h1.1.zm a ha).mono tF,λa ha=>(h1.1.zt a ha).mono tF⟩
 refine wC 4 I<|QA (wO I J6 .here)<|wW I<|QI I (λ_ _ f k=>Xgn (y:=y) f k.1 k.2.1 ht k.2.2 hc) λ_=>wD 3 I ?_
 refine ZZ [(1,_),(2,_),(3,_)] [(7,.int .i64 (ctE y tb o))] wu ?_ ?_
 ·refine wA 6 I ?_;refine QQ I (λj=>?_) λj=>?_
  ·have P:Xf7 y tb=0:=eq_of_beq j;refine wA 2 I<|QI I (λ_ _ f k=>Xa8 f) λ_=>wB 2 I ?_
   exact JY ⟨rfl,rfl,rfl,(congrArg (λz=>some (ai .i64 z)) (by unfold ctE;rw[U,P,Zn,QCD])),trivial⟩ we tN
  have P:Xf7 y tb≠0:=by simpa using j
  refine QN ?_;exact JY ⟨rfl,rfl,rfl,(congrArg (λz=>some (ai .i64 z)) (by unfold ctE;rw[U,Zf P])),trivial⟩ we tM
 simp only[ab,ae];refine ZZ [(1,_),(2,_),(3,_)] [(7,.int .i64 (ctR y tb o))] wu ?_ ?_
 ·refine wA 5 I ?_;refine Qn (t:=33) rfl (λB=>?_) λB=>?_
  ·have D:ctE y tb o=0:=eq_of_beq B;obtain⟨n,rfl,T,c,K,E⟩:=L D;have R:=K;rw[show y.nm.n=y.rl.length by rw[x,(g c).rn]]at R;have hn1:=(g c).n1;have hrn:=(g c).rn;have m:=Xfk (yQ A).1 (g c) (show y.sl.length=y.rl.length by rw[Q,x,(g c).sn,(g c).rn]);have V:ctR y tb (n:Int)=if Xf8 y tb n=true then 0 else 20:=by unfold ctR;rw[if_neg (by rw[D];decide),ba]
   refine QL I I<|QA (wO I J6 .here)<|wB 5 I<|QI I (λ_ _ f k=>Xgi (y:=y) (n:=n) f k.1.2.1 (g c).st (k.1.2.2.q K) hc.n O O (by rw[x,(g c).rn];exact K) E.1.pl λi hi=>(Xh0 E.1 O m M R O hi).1) λ_=>QL I I<|QA (XL I)<|wD 3 I ?_
   refine QQ I (λj=>?_) λj=>?_
   ·have hrf:(20:Int)=ctR y tb (n:Int):=by rw[V,show Xf8 y tb n=false by simpa using j]<;>rfl
    refine wA 3 I ?_;exact JY ⟨rfl,rfl,rfl,(congrArg (λz=>some (ai .i64 z)) hrf),trivial⟩ we tN
   have Z:ctR y tb (n:Int)=0:=by rw[V,show Xf8 y tb n=true by simpa using j]<;>rfl
   refine QN ?_;exact JY ⟨rfl,rfl,rfl,(congrArg (λz=>some (ai .i64 z)) (by rw[D,Z])),trivial⟩ we tN
  have D:ctE y tb o≠0:=by simpa using B
  refine wD 8 I<|Yj I<|QN ?_
  exact JY ⟨rfl,rfl,rfl,(congrArg (λz=>some (ai .i64 z)) (by unfold ctR;rw[if_pos D])),trivial⟩ we tM
 simp only[ab,ae];refine wa<|QA (wO I J6 .here)<|wB 2 I<|QI I (λ_ _ f k=>Xfs (y:=y) f k.1.1 k.1.2.1 ht k.1.2.2 hc hct) λ_=>wW I<|QA (QT (v:=.bool true) rfl rfl (eqI8 _))<|wB 2 I<|QI I (λ_ _ f k=>CX f k.1.1.1) λ_=>wD 5 I ?_
 exact wg I I (rfl) tL
end Go.Proofs.YtjcphjpkimmmjaaGreatDoor
