/- Steps of the proof of the theorem in the last file. -/
import Derived.Test.YtbpmnjieoncbcaaGreatDoorE0XCv
set_option linter.all false
set_option maxHeartbeats 4000000
open Go.Proofs.Tryz
open Go.Value renaming bool → aa,int → aL,okWide → bB
open Bool renaming eq_iff_iff → ab,and_eq_true → ak,not_not → ay,or_eq_false_iff → aB,not_eq_false' → aF,not_eq_true' → aS,and_false → bA
open Nat renaming le_refl → ae,mul_le_mul_right → ai,mul_le_mul_left → aj,le_trans → ao,dvd_mul_right → aq,pow_one → av,mul_pos → ax,dvd_trans → aE,pow_pos → aG,add_mul → aH,dvd_refl → aK,zero_add → aN,mul_le_mul → aQ,dvd_mul_left → aV,mul_zero → aX,pow_dvd_pow → aY,mul_dvd_mul → aZ,zero_le → ba,zero_mul → bw,add_zero → bD,pow_le_pow_right → bJ,pow_add → bK,lt_of_lt_of_le → bM,succ_le_succ → bO,pow_zero → bU,pow_succ → bV,mul_succ → bW,mul_comm → bX,one_pos → bY,one_mul → bZ,mul_add → ee
open List renaming cons_append → af,nil_append → ag,length_map → aA,all_eq_true → aC,getElem_of_mem → aD,length_range → aI,range → aO,length_append → aP,take_length → aT,not_mem_nil → aU,mem_map_of_mem → bc,mem_cons → bh,length_cons → bz,map_map → bC,mem_append_right → bF,mem_cons_of_mem → bG,mem_append_left → bH,foldl_append → bN,range_succ → bP
open Rat renaming divInt → ah,le_of_lt → aW,sub_eq_add_neg → bj,le_trans → bm,le_refl → bI,mul_nonneg → bR,mkRat_self → bS
open Go.Lib renaming decDigits → ar
open Go.DataW renaming trod → au,Trod → bL
open List.cons renaming inj → aJ
open Int renaming natCast_mul → aM,natAbs_natCast → aR,natAbs_mul → bT
open And renaming intro → bQ
namespace Go.Proofs.YtbpmnjieoncbcaaGreatDoor
variable{w:World}{F:Gs}{s:List UInt8×List UInt8}{a:J3}{B D E L Q T Z b c k m n z:Nat}{l:List (List UInt8×List UInt8)}{fr t2:Rat}{on vb x:List J3}{y:X5}
open Go.RowKit Ig
theorem QDx{s:List UInt8}(hF:Fits F w)(hl:s.length<=9223372036854775807):Qg prog 77 [tx s] w F (.bool (cL s)):=by
 refine QV.intro (G:=λF=>True) func77 rfl wy rfl rfl hF w8<|QI7<|wQ rfl<|QG<|QI7<|wQ rfl<|QW<|XK (ι:=W9 s λc=>EH c.toNat) [(0,_)] (λi=>[(3,.int .i64 ((i.i:Nat):Int))]) (λi=>s.length-i.i) (W9.start _ _) wS wS λi=>?_
 simp only[af,ag];have hle:=i.le;refine wA 5 I<|QA (Xj I Zk)<|QJK 3 I ?_
 refine QR I (λhc=>?_) λhc=>?_
 ·have hi:i.i<s.length:=wk<|QJG hc
  refine QJL 8 I<|QA (Hj (i:=i.i) rfl rfl Zk hi) ?_
  obtain⟨c,hce⟩:∃c,c=s[i.i].toNat:=⟨_,rfl⟩;rw[<-hce];refine QJK 3 I ?_;refine Zc [(0,_),(3,_)] [(48,.bool ((!EH c)))] wT ?_ ?_
  ·refine wA 4 I ?_;refine Ql (t:=16) rfl (λhb16=>?_) λhb16=>?_
   ·refine wB 6 I ?_;refine Ql (t:=20) rfl (λhb20=>?_) λhb20=>?_
    ·refine wB 3 I<|Jn I I<|Jn I I<|wB 6 I<|Jn I I<|Jn I I<|wB 12 I ?_
     refine wB 2 I<|QA (XB I)<|QE ?_
     exact JY ⟨rfl,rfl,(congrArg (λb=>some (aa b)) (by clear hce;rw[ab];simp_all [EH,Yn]<;>omega)),trivial⟩ QIM w9
    refine wB 6 I ?_;refine Ql (t:=23) rfl (λhb23=>?_) λhb23=>?_
    ·refine wB 8 I ?_;refine Ql (t:=28) rfl (λhb28=>?_) λhb28=>?_
     ·refine wB 3 I<|Jn I I<|Jn I I<|wB 14 I<|QA (XB I)<|QE ?_
      exact JY ⟨rfl,rfl,(congrArg (λb=>some (aa b)) (by clear hce;rw[ab];simp_all [EH,Yn]<;>omega)),trivial⟩ QIM w9
     refine wB 6 I ?_;refine Ql (t:=31) rfl (λhb31=>?_) λhb31=>?_
     ·refine wB 8 I ?_;refine Ql (t:=36) rfl (λhb36=>?_) λhb36=>?_
      ·refine wB 11 I<|QA (XB I)<|QE ?_
       exact JY ⟨rfl,rfl,(congrArg (λb=>some (aa b)) (by clear hce;rw[ab];simp_all [EH,Yn]<;>omega)),trivial⟩ QIM w9
      refine wB 6 I ?_;refine Ql (t:=40) rfl (λhb40=>?_) λhb40=>?_
      ·refine wB 7 I<|QA (XB I)<|QE ?_
       exact JY ⟨rfl,rfl,(congrArg (λb=>some (aa b)) (by clear hce;rw[ab];simp_all [EH,Yn]<;>omega)),trivial⟩ QIM w9
      refine wB 6 I ?_;refine Ql (t:=44) rfl (λhb44=>?_) λhb44=>?_
      ·refine wB 3 I<|QA (XB I)<|QE ?_
       exact JY ⟨rfl,rfl,(congrArg (λb=>some (aa b)) (by clear hce;rw[ab];simp_all [EH,Yn]<;>omega)),trivial⟩ QIM w9
      refine wB 5 I<|QA (XB I)<|QE ?_
      exact JY ⟨rfl,rfl,(congrArg (λb=>some (aa b)) (by clear hce;rw[ab];simp_all [EH,Yn]<;>omega)),trivial⟩ QIM w9
     refine wB 12 I ?_;refine Ql (t:=40) rfl (λhb40=>?_) λhb40=>?_
     ·refine wB 7 I<|QA (XB I)<|QE ?_
      exact JY ⟨rfl,rfl,(congrArg (λb=>some (aa b)) (by clear hce;rw[ab];simp_all [EH,Yn]<;>omega)),trivial⟩ QIM w9
     refine wB 6 I ?_;refine Ql (t:=44) rfl (λhb44=>?_) λhb44=>?_
     ·refine wB 3 I<|QA (XB I)<|QE ?_
      exact JY ⟨rfl,rfl,(congrArg (λb=>some (aa b)) (by clear hce;rw[ab];simp_all [EH,Yn]<;>omega)),trivial⟩ QIM w9
     refine wB 5 I<|QA (XB I)<|QE ?_
     exact JY ⟨rfl,rfl,(congrArg (λb=>some (aa b)) (by clear hce;rw[ab];simp_all [EH,Yn]<;>omega)),trivial⟩ QIM w9
    refine wB 12 I ?_;refine Ql (t:=31) rfl (λhb31=>?_) λhb31=>?_
    ·refine wB 8 I ?_;refine Ql (t:=36) rfl (λhb36=>?_) λhb36=>?_
     ·refine wB 11 I<|QA (XB I)<|QE ?_
      exact JY ⟨rfl,rfl,(congrArg (λb=>some (aa b)) (by clear hce;rw[ab];simp_all [EH,Yn]<;>omega)),trivial⟩ QIM w9
     refine wB 6 I ?_;refine Ql (t:=40) rfl (λhb40=>?_) λhb40=>?_
     ·refine wB 7 I<|QA (XB I)<|QE ?_
      exact JY ⟨rfl,rfl,(congrArg (λb=>some (aa b)) (by clear hce;rw[ab];simp_all [EH,Yn]<;>omega)),trivial⟩ QIM w9
     refine wB 6 I ?_;refine Ql (t:=44) rfl (λhb44=>?_) λhb44=>?_
     ·refine wB 3 I<|QA (XB I)<|QE ?_
      exact JY ⟨rfl,rfl,(congrArg (λb=>some (aa b)) (by clear hce;rw[ab];simp_all [EH,Yn]<;>omega)),trivial⟩ QIM w9
     refine wB 5 I<|QA (XB I)<|QE ?_
     exact JY ⟨rfl,rfl,(congrArg (λb=>some (aa b)) (by clear hce;rw[ab];simp_all [EH,Yn]<;>omega)),trivial⟩ QIM w9
    refine wB 12 I ?_;refine Ql (t:=40) rfl (λhb40=>?_) λhb40=>?_
    ·refine wB 7 I<|QA (XB I)<|QE ?_
     exact JY ⟨rfl,rfl,(congrArg (λb=>some (aa b)) (by clear hce;rw[ab];simp_all [EH,Yn]<;>omega)),trivial⟩ QIM w9
    refine wB 6 I ?_;refine Ql (t:=44) rfl (λhb44=>?_) λhb44=>?_
    ·refine wB 3 I<|QA (XB I)<|QE ?_
     exact JY ⟨rfl,rfl,(congrArg (λb=>some (aa b)) (by clear hce;rw[ab];simp_all [EH,Yn]<;>omega)),trivial⟩ QIM w9
    refine wB 5 I<|QA (XB I)<|QE ?_
    exact JY ⟨rfl,rfl,(congrArg (λb=>some (aa b)) (by clear hce;rw[ab];simp_all [EH,Yn]<;>omega)),trivial⟩ QIM w9
   refine wB 10 I ?_;refine Ql (t:=23) rfl (λhb23=>?_) λhb23=>?_
   ·refine wB 8 I ?_;refine Ql (t:=28) rfl (λhb28=>?_) λhb28=>?_
    ·refine wB 3 I<|Jn I I<|Jn I I<|wB 14 I<|QA (XB I)<|QE ?_
     exact JY ⟨rfl,rfl,(congrArg (λb=>some (aa b)) (by clear hce;rw[ab];simp_all [EH,Yn]<;>omega)),trivial⟩ QIM w9
    refine wB 6 I ?_;refine Ql (t:=31) rfl (λhb31=>?_) λhb31=>?_
    ·refine wB 8 I ?_;refine Ql (t:=36) rfl (λhb36=>?_) λhb36=>?_
     ·refine wB 11 I<|QA (XB I)<|QE ?_
      exact JY ⟨rfl,rfl,(congrArg (λb=>some (aa b)) (by clear hce;rw[ab];simp_all [EH,Yn]<;>omega)),trivial⟩ QIM w9
     refine wB 6 I ?_;refine Ql (t:=40) rfl (λhb40=>?_) λhb40=>?_
     ·refine wB 7 I<|QA (XB I)<|QE ?_
      exact JY ⟨rfl,rfl,(congrArg (λb=>some (aa b)) (by clear hce;rw[ab];simp_all [EH,Yn]<;>omega)),trivial⟩ QIM w9
     refine wB 6 I ?_;refine Ql (t:=44) rfl (λhb44=>?_) λhb44=>?_
     ·refine wB 3 I<|QA (XB I)<|QE ?_
      exact JY ⟨rfl,rfl,(congrArg (λb=>some (aa b)) (by clear hce;rw[ab];simp_all [EH,Yn]<;>omega)),trivial⟩ QIM w9
     refine wB 5 I<|QA (XB I)<|QE ?_
     exact JY ⟨rfl,rfl,(congrArg (λb=>some (aa b)) (by clear hce;rw[ab];simp_all [EH,Yn]<;>omega)),trivial⟩ QIM w9
    refine wB 12 I ?_;refine Ql (t:=40) rfl (λhb40=>?_) λhb40=>?_
    ·refine wB 7 I<|QA (XB I)<|QE ?_
     exact JY ⟨rfl,rfl,(congrArg (λb=>some (aa b)) (by clear hce;rw[ab];simp_all [EH,Yn]<;>omega)),trivial⟩ QIM w9
    refine wB 6 I ?_;refine Ql (t:=44) rfl (λhb44=>?_) λhb44=>?_
    ·refine wB 3 I<|QA (XB I)<|QE ?_
     exact JY ⟨rfl,rfl,(congrArg (λb=>some (aa b)) (by clear hce;rw[ab];simp_all [EH,Yn]<;>omega)),trivial⟩ QIM w9
    refine wB 5 I<|QA (XB I)<|QE ?_
    exact JY ⟨rfl,rfl,(congrArg (λb=>some (aa b)) (by clear hce;rw[ab];simp_all [EH,Yn]<;>omega)),trivial⟩ QIM w9
   refine wB 12 I ?_;refine Ql (t:=31) rfl (λhb31=>?_) λhb31=>?_
   ·refine wB 8 I ?_;refine Ql (t:=36) rfl (λhb36=>?_) λhb36=>?_
    ·refine wB 11 I<|QA (XB I)<|QE ?_
     exact JY ⟨rfl,rfl,(congrArg (λb=>some (aa b)) (by clear hce;rw[ab];simp_all [EH,Yn]<;>omega)),trivial⟩ QIM w9
    refine wB 6 I ?_;refine Ql (t:=40) rfl (λhb40=>?_) λhb40=>?_
    ·refine wB 7 I<|QA (XB I)<|QE ?_
     exact JY ⟨rfl,rfl,(congrArg (λb=>some (aa b)) (by clear hce;rw[ab];simp_all [EH,Yn]<;>omega)),trivial⟩ QIM w9
    refine wB 6 I ?_;refine Ql (t:=44) rfl (λhb44=>?_) λhb44=>?_
    ·refine wB 3 I<|QA (XB I)<|QE ?_
     exact JY ⟨rfl,rfl,(congrArg (λb=>some (aa b)) (by clear hce;rw[ab];simp_all [EH,Yn]<;>omega)),trivial⟩ QIM w9
    refine wB 5 I<|QA (XB I)<|QE ?_
    exact JY ⟨rfl,rfl,(congrArg (λb=>some (aa b)) (by clear hce;rw[ab];simp_all [EH,Yn]<;>omega)),trivial⟩ QIM w9
   refine wB 12 I ?_;refine Ql (t:=40) rfl (λhb40=>?_) λhb40=>?_
   ·refine wB 7 I<|QA (XB I)<|QE ?_
    exact JY ⟨rfl,rfl,(congrArg (λb=>some (aa b)) (by clear hce;rw[ab];simp_all [EH,Yn]<;>omega)),trivial⟩ QIM w9
   refine wB 6 I ?_;refine Ql (t:=44) rfl (λhb44=>?_) λhb44=>?_
   ·refine wB 3 I<|QA (XB I)<|QE ?_
    exact JY ⟨rfl,rfl,(congrArg (λb=>some (aa b)) (by clear hce;rw[ab];simp_all [EH,Yn]<;>omega)),trivial⟩ QIM w9
   refine wB 5 I<|QA (XB I)<|QE ?_
   exact JY ⟨rfl,rfl,(congrArg (λb=>some (aa b)) (by clear hce;rw[ab];simp_all [EH,Yn]<;>omega)),trivial⟩ QIM w9
  simp only[af,ag];refine QR I (λhc=>?_) λhc=>?_
  ·have hbad:EH (el s i.i).toNat=false:=by rw[JW hi,<-hce];simpa using hc
   refine wA 6 I ?_
   repeat first|refine Q6 ?_|refine Qy ?_
   exact QJO I I (congrArg aa (by unfold cL;rw[i.hit hi hbad];rfl)) w8
  have hcg:=hc;refine QO<|Qk<|QJM 3 I<|QA (Qw I I O)<|wB 2 I ?_
  exact Qm (i.next hi (by rw[JW hi,<-hce];simpa using hcg)) (by show s.length-(i.i+1)<s.length-i.i;omega) wT QIM w9
 have hge:s.length<=i.i:=wk<|QJH hc
 refine Qz ?_
 repeat first|refine QZ ?_|refine QQ wy ?_
 refine Qa<|QC<|wR I<|QA (Xj I Zk)<|wB 2 I ?_
 refine Ql (t:=52) rfl (λhb52=>?_) λhb52=>?_
 ·refine wB 3 I<|QA (Xj I Zk)<|QJK 7 I ?_
  exact QJO I I (congrArg aa (by unfold cL;rw[i.stop hge];rw[ab];simp at *;simp_all<;>omega)) w8
 refine QJK 8 I ?_;exact QJO I I (congrArg aa (by unfold cL;rw[i.stop hge];rw[ab];simp at *;simp_all<;>omega)) w8
theorem jz{a:List UInt8}{d:Int}(hF:Fits F w)(hd:0<=d/\d<=1000):Qg prog 9 [tx a,.int .i64 d] w F (.bool (NA a d)):=by
 have hn:=vu a;refine QV.intro (G:=λF=>True) func9 rfl wy rfl rfl hF w8<|QI7<|wQ rfl<|wR rfl<|QA (Xj rfl Mu)<|QH0 rfl<|QA (M0 rfl rfl O)<|QA (Qw rfl rfl O)<|QA (QT rfl rfl rfl)<|QH0 rfl ?_
 refine Ql (t:=11) rfl (λhb11=>?_) λhb11=>?_
 ·have hl:a.length<=1000000:=by have h1:=QJG hb11;omega
  refine wB 3 I<|QI I (λ_ _ f k=>O2 f (hl)) λ_=>wB 4 I ?_
  refine Ql (t:=16) rfl (λhb16=>?_) λhb16=>?_
  ·refine wB 3 I<|QI I (λ_ _ f k=>QDu f O) λ_=>QM I I<|QI I (λ_ _ f k=>QD1 f ) λ_=>QM I I<|QA (Xj I Mu)<|wB 6 I ?_
   refine Ql (t:=24) rfl (λhb24=>?_) λhb24=>?_
   ·refine wB 3 I<|QI I (λ_ _ f k=>QDz f O) λ_=>QM I I<|QA (Xj I Mu)<|QJK 9 I ?_
    exact QJO I I ((congrArg aa (by have h1:=QJG hb11;simp[NA,h1];simp at hb16 hb24;simp[hb16,hb24]))) w8
   refine QJK 10 I ?_;exact QJO I I ((congrArg aa (by have h1:=QJG hb11;simp[NA,h1];simp at hb16 hb24;simp[hb16];intro g;omega))) w8
  refine QJK 18 I ?_;exact QJO I I ((congrArg aa (by have h1:=QJG hb11;simp at hb16;simp[NA,h1,hb16]))) w8
 refine QJK 23 I ?_;exact QJO I I ((congrArg aa (by simp[NA,hb11]))) w8
theorem Tz{q:Option Addr}{n:Nat}{m d:Int}(hF:Fits F w)(hR:Qx F q n 2 (l.flatMap Pc))(hl:l.length=n)(hd:0<=d/\d<=1000)(hn:n<=1000000):Qg prog 8 [.slice q n c,.int .i64 m,.int .i64 d] w F (.bool (decide ((n:Int)<=m)&&l.all (Uz d))):=by
 have hln:=hl;refine QV.intro (G:=λF=>Qx F q n 2 (l.flatMap Pc)) func8 rfl wy rfl rfl hF (λF' hF'=>hR.le hF')<|QI7<|wQ rfl<|QG<|wR rfl<|QA (Qh rfl J9)<|QH0 rfl<|QA (QT rfl rfl rfl)<|QE<|QC ?_
 refine QR I (λhc=>?_) λhc=>?_
 ·have hg:=QJG hc;refine wA 6 I ?_;exact QJO I I (congrArg aa (by have h1:decide ((n:Int)<=m)=false:=decide_eq_false O;rw[h1];rfl)) w8
 have hg:=QJH hc;refine QJL 9 I<|XK (ι:=W9 l (Uz d)) [(0,_),(2,_)] (λi=>[(7,.int .i64 ((i.i:Nat):Int))]) (λi=>l.length-i.i) (W9.start _ _) wT wS λi=>?_
 simp only[af,ag];refine wA 5 I<|QA (Qh I J9)<|QJK 3 I ?_
 refine QR I (λhc=>?_) λhc=>?_
 ·have hi:i.i<l.length:=wk<|QJG hc
  refine QJL 4 I ?_;refine Zc [(0,_),(2,_),(7,_)] [(49,.bool (!Uz d (el l i.i)))] wU ?_ ?_
  ·refine JH QIM mixed wm<|QK (QD I)<|QK (QD I)<|QK (Q3 (n:=n) i.i w9 rfl rfl J9 Jq O)<|QK (QH I B4 JP)<|QK (Q5 (n:=n) ((i.i)*2+0) w9 O rfl JP (JQ (f:=Pc) (l:=l) KZ O rfl))<|QK (QD I)<|QP I (λ_ _ f k=>jz f hd) λ_=>QK (XB I)<|QK (QD I) ?_
   refine BV (t:=26) rfl (λhb26=>?_) λhb26=>?_
   ·refine Jw I I I<|Jw I I I<|Jw I I I<|Jw I I I<|Jw I I I<|Jw I I I<|Jw I I I<|Jw I I I<|QK (Qe I I I)<|QK (QD I)<|Jw I I I<|Jw I I I<|Jw I I I<|Jw I I I<|Jw I I I<|Jw I I I<|Jw I I I<|Jw I I I<|Jw I I I<|Jw I I I<|Jw I I I<|Jw I I I<|QK (Qe I I I)<|Q7 ?_
    exact JY ⟨rfl,rfl,rfl,(congrArg (λb=>some (aa b)) (by simp at hb26;simp[Uz,hb26])),trivial⟩ QIM tA
   refine J1 I I<|QK (QD I)<|J1 I I<|QK (QD I)<|J1 I I<|QK (Q3 (n:=n) i.i w9 rfl rfl J9 Jq O)<|J1 I I<|QK (QH I De JP)<|J1 I I<|QK (Q5 (n:=n) ((i.i)*2+1) w9 O rfl JP (JQ (f:=Pc) (l:=l) KZ O rfl))<|J1 I I<|QK (QD I)<|J1 I I<|QP I (λ_ _ f k=>jz f hd) λ_=>J1 I I<|QK (XB I)<|QK (Qd I I I)<|QK (QD I) ?_
   refine BV (t:=36) rfl (λhb36=>?_) λhb36=>?_
   ·refine Jw I I I<|Jw I I I<|Jw I I I<|Jw I I I<|Jw I I I<|Jw I I I<|Jw I I I<|Jw I I I<|Jw I I I<|Jw I I I<|Jw I I I<|Jw I I I<|QK (Qe I I I)<|Q7 ?_
    exact JY ⟨rfl,rfl,rfl,(congrArg (λb=>some (aa b)) (by simp at hb26 hb36;simp[Uz,hb26,hb36])),trivial⟩ QIM λ_ h=>h.1.1
   refine J1 I I<|QK (QD I)<|J1 I I<|QK (QD I)<|J1 I I<|QK (Q3 (n:=n) i.i w9 rfl rfl J9 Jq O)<|J1 I I<|QK (QH I B4 JP)<|J1 I I<|QK (Q5 (n:=n) ((i.i)*2+0) w9 O rfl JP (JQ (f:=Pc) (l:=l) KZ O rfl))<|J1 I I<|QK (QD I)<|J1 I I<|QK (QD I)<|J1 I I<|QK (Q3 (n:=n) i.i w9 rfl rfl J9 Jq O)<|J1 I I<|QK (QH I De JP)<|J1 I I<|QK (Q5 (n:=n) ((i.i)*2+1) w9 O rfl JP (JQ (f:=Pc) (l:=l) KZ O rfl))<|J1 I I<|QP I (λ_ _ f k=>dA f (EX (by simpa using hb26)) (EX (by simpa using hb36))) λ_=>J1 I I<|QK (QT I I I)<|QK (Qd I I I) ?_
   refine Q7 ?_;exact JY ⟨rfl,rfl,rfl,(congrArg (λb=>some (aa b)) (by simp at hb26 hb36;simp[Uz,hb26,hb36])),trivial⟩ QIM λ_ h=>h.1.1.1
  simp only[af,ag];refine QR I (λhc=>?_) λhc=>?_
  ·refine wA 6 I ?_
   repeat first|refine Q6 ?_|refine Qy ?_
   exact QJO I I (congrArg aa (by rw[i.hit hi (by simpa using hc),bA])) w8
  refine QO<|Qk<|QJM 3 I<|QA (Qw I I O)<|wB 2 I ?_
  exact Qm (i.next hi (by simpa using hc)) (by show l.length-(i.i+1)<l.length-i.i;omega) wU QIM w9
 have hi:l.length<=i.i:=wk<|QJH hc
 refine Qz ?_
 repeat first|refine QZ ?_|refine QQ wy ?_
 refine Qa<|QJM 7 I ?_
 exact QJO I I (congrArg aa (by rw[i.stop hi];have h1:decide ((n:Int)<=m)=true:=decide_eq_true O;rw[h1];rfl)) w8
def jw(r:Rat):Qo (Js r)=r:=by
 unfold Qo Js;by_cases h:r.den=1
 ·rw[if_pos h,TX (Pe _)];dsimp only;rw[if_neg wu,Ks];have:=bS r;rw[h,Rat.mkRat_one]at this;exact this
 rw[if_neg h,Eh (Pe _)];dsimp only;rw[if_pos rfl,Ks,Xd];exact bS r
def QBw{l:List UInt8}(h:Jc l≠n):¬ar n=l:=λe=>h (by rw[<-e,Xd])
def gD{r:Rat}(h:Jt r=false):Jk (Js r)=0:=by
 unfold Jt RU at h;rw[aB]at h;have h1:=QJH h.1;have h2:=QJH h.2;have ln:¬600<(ar r.num.natAbs).length:=λe=>h1 ((CI _).1 e);have ld:¬600<(ar r.den).length:=λe=>h2 (by rw[aR];exact(CI _).1 e);have hneg:(Lib.hasPrefix (Zi r.num) [45]&&ar r.num.natAbs==[48])=false:=by
  by_cases g:r.num<0
  ·have:¬ar r.num.natAbs=[48]:=QBw (by show 0≠_;omega);rw[beq_false_of_ne this,bA]
  rw[XT O,Va (J0 _)];rfl
 unfold Jk Js;by_cases hd:r.den=1
 ·rw[if_pos hd,TX (Pe _)];dsimp only;unfold Hn I9;rw[Hf,LD,hneg,decide_eq_false ln];simp
 rw[if_neg hd,Eh (Pe _)];dsimp only;unfold Hn I9;have h0:¬ar r.den=[48]:=QBw (by show 0≠_;have:=r.den_nz;omega);have h9:¬ar r.den=[49]:=QBw (by show 1≠_;omega);have hg:Nat.gcd r.num.natAbs r.den=1:=r.reduced;rw[Hf,LD,LD,hneg,decide_eq_false ln,decide_eq_false ld,Xd,Xd,hg,beq_false_of_ne h0,beq_false_of_ne h9];simp
theorem SI{r:Rat}(h:JU r<=k)(hk:k<=1800):Jt r=false:=by
 unfold Jt RU;have a:∀z:Int,sz z<=k->decide (lim<=z.natAbs)=false:=λz hz=>by
  have h1:=(XO z 1800).1 O;have h2:=j3;refine decide_eq_false λe=>?_;exact absurd (Nat.lt_trans (Nat.lt_of_le_of_lt e h1) h2) (Nat.lt_irrefl _)
 rw[a _ (ao (Jx r) h),a _ (ao (Jo r) h)];rfl
section
variable{w:World}{F:Gs}
def Un{a b:Rat}(ha:Jt a=false)(hb:Jt b=false)(h:a<=b):XX (Js a) (Js b)=0:=by
 unfold XX;rw[gD ha,gD hb,if_pos (show Qu [0,0]=0 from rfl),jw,jw,if_neg];have:=(Hr a b).2 h;omega
end
def QBs(x:Int):Qu [x]=x:=by
 unfold Qu;split
 ·rename_i h;rw[h];rfl
 rfl
theorem QEM{rs:List (List Tm)}{y:List J3}(h:YR x y)(ht:fr<=t2)(ho:∀i,i<on.length->(el on i).1<=(el on i).2)(hr:∀i,i<x.length->∀t∈el rs i,t.2.length<=on.length+1/\∀k∈t.2,0<=k):
  YR (Z4 rs fr t2 x on) (Z4 rs fr t2 y on):=by
 unfold Z4;rw[<-h.1];refine YR.of λi hi=>SN (h.2 i hi) (Hg (ZK.self (by show(0:Rat)<=t2-fr;grind)) ?_);exact Pg (rs:=(fr,t2)::on) (bs:=(fr,t2)::on) (by simpa using hr i hi) λj hj=>by
  cases j with
  |zero=>exact ZK.self ht
  |succ j=>exact ZK.self (ho j (by simpa using hj))
def uk{a b:List J3}(h:YR a b)(r:Rat):∀i,i<=a.length->ZK (G8 a r i) (G8 b r i)
 |0,_=>ZK.pt 0
 |i+1,hi=>by
  unfold G8;rw[bP,bN,bN];exact SN (uk h r i O) (Hg (h.2 i O) (ZK.pt _))
def QDh{rs:List (List Tm)}{y:List J3}(h:YR x y)(ho:on.length=x.length)(ht:fr<=t2)(hs:∀i,i<on.length->(el on i).1<=(el on i).2)(n:Nat):
  YR (Xy rs fr t2 x on n) (Xy rs fr t2 y on n):=by
 unfold Xy;rw[<-h.1];have h1:=Oe (rs:=rs) (ZK.pt fr) h n;have h2:=Oe (rs:=rs) (t:=(fr,t2)) (u:=(fr,t2)) (ZK.self ht) (x:=on) (y:=on) ⟨rfl,λi hi=>ZK.self (hs i hi)⟩ (n+1);refine YR.of λi hi=>SN (uk (h1.2 i (by rw[Zp];exact hi)).2 _ (n+1) (by rw[Zj _ _ _ _ hi];exact ae _)) (Hg ?_ (ZK.pt _));have h3:=h2.2 i (by rw[Zp,ho];exact hi);exact h3.2.2 (n+1) (by rw[h3.1];omega)
def vO{rs:List (List Tm)}{y:List J3}(h:YR x y)(ht:fr<=t2)(k:Nat):vg (k+1) (Jb rs (fr,fr) x k) (Jb rs (fr,t2) y k) :=
 Oe (show ZK (fr,fr) (fr,t2)from⟨bI,bI,ht⟩) h k
theorem QD6{i j:Nat}(h:a.1<=a.2)(hi:i<5)(hj:j<5):
  ZK (a.1+(a.2-a.1)*ah i 10,(a.1+(a.2-a.1)*ah i 10)+(a.2-a.1)*ah j 10) a:=by
 have hw:0<=a.2-a.1:=by grind
 have q:∀n:Nat,n<5->0<=ah n 10/\ah n 10<=ah 4 10:=λn hn=>by
  have:n=0\/n=1\/n=2\/n=3\/n=4:=O;rcases this with rfl | rfl | rfl | rfl | rfl<;>decide +kernel
 obtain⟨i1,i2⟩:=q i hi;obtain⟨j1,j2⟩:=q j hj;have e:ah 4 10+ah 4 10<=1:=wv;have m1:=bR hw i1;have m2:=bR hw j1;have m3:(a.2-a.1)*(ah i 10+ah j 10)<=(a.2-a.1)*1:=Rat.mul_le_mul_of_nonneg_left (by grind) hw;rw[Rat.mul_add,Rat.mul_one]at m3;refine⟨?_,?_,?_⟩<;>grind
def gp(s:List UInt8×List UInt8):Bool:=!(decide ((s.1.length:Int)>40)||decide ((s.2.length:Int)>40))
theorem Ns{n:Nat}{r:Sr}(hF:Fits F w)(hx:KO F r l)(hc:GZ r l):Qg prog 20 [.int .i64 (n:Int),r.v] w F (.int .i64 (YN n l)):=by
 have hl:=hx.len;have hn:=hc.n;refine QV.intro (G:=λF=>KO F r l) func20 rfl wy rfl rfl hF (λF' hF'=>hx.le hF')<|QI7<|wQ rfl<|QG<|wR rfl<|QA (Qh rfl J9)<|QH0 rfl<|QA (QT rfl rfl rfl)<|QE<|QC ?_
 refine QR I (λhc2=>?_) λhc2=>?_
 ·have h8:=bne_iff_ne.1 hc2;refine wA 6 I ?_;exact QJO I I (congrArg (aL .i64) (by unfold YN;rw[if_pos O])) w8
 have h8:=bne_eq_false_iff_eq.1 hc2;refine QJL 5 I<|QI I (λ_ _ f k=>jZ f k.row ⟨hl,hc.t⟩ hn) λ_=>wQ I<|QY ?_
 exact QJO I I (congrArg (aL .i64) (by unfold YN;rw[if_neg O])) w8
structure ve(y:X5):Prop where
 nn:y.nm.n<=9223372036854775807
 nc:y.nm.n<=y.nm.cap
 nt:∀s∈y.nl,s.length<=9223372036854775807
 rn:y.rt.n<=9223372036854775807
 sn:y.st.n<=9223372036854775807
 rl:∀e∈y.rl,e.2.length=e.1.n/\e.1.n<=9223372036854775807/\∀t∈e.2,t.k.length=t.r.n
def shT(t:E6):Bool:=!(decide ((t.r.n:Int)>30)||decide ((t.f.length:Int)>30))
def shP(e:SD):Bool:=!(decide ((e.1.n:Int)>70))&&e.2.all shT
def shN(y:X5):Bool:=decide ((y.nm.n:Int)>30)||decide ((y.rt.n:Int)>30)||decide ((y.st.n:Int)>30)
def shS(y:X5):Bool:=!(shN y)&&(y.rl.all shP&&y.sl.all gp)
structure QH7(y:X5):Prop where
 n:y.nm.n<=30/\y.rt.n<=30/\y.st.n<=30
 r:∀e∈y.rl,e.1.n<=70/\∀t∈e.2,t.r.n<=30/\t.f.length<=30
 s:∀s∈y.sl,s.1.length<=40/\s.2.length<=40
def QGT(h:gp s=true):s.1.length<=40/\s.2.length<=40:=by
 unfold gp at h;simp at h;omega
theorem QHY(h:shS y=true):QH7 y:=by
 unfold shS at h;simp only[ak,aC]at h;obtain⟨h1,h2,h3⟩:=h;refine⟨?_,λe he=>?_,λs hs=>QGT (h3 s hs)⟩
 ·unfold shN at h1;simp at h1;omega
 have:=h2 e he;unfold shP at this;simp only[ak,aC]at this;refine⟨by have:=this.1;simp at this;omega,λt ht=>?_⟩;have h4:=this.2 t ht;unfold shT at h4;simp at h4;omega
theorem ve.t(h:ve y)(k:QH7 y):Ww y :=
 ⟨wk k.n,h.nc,h.nt,wk k.n,λe he=>⟨(h.rl e he).1,λt ht=>⟨wk<|(k.r e he).2 t ht,by rw[(h.rl e he).2.2 t ht];have:=(k.r e he).2 t ht;omega⟩,by rw[(h.rl e he).1];have:=(k.r e he).1;omega⟩,wk k.n,λs hs=>wk<|k.s s hs⟩
def ve.ts(h:ve y)(k:shS y=true):Ww y:=h.t (QHY k)
def jm(y:X5)(v g:Int):Bool:=!(!(shS y)||(y.e != 0)||decide ((y.rt.n:Int)>v)||(!(decide ((y.st.n:Int)<=v)&&y.sl.all (Uz g))&&decide ((y.st.n:Int)>0)))
def jl(y:X5)(v d g:Int):Bool:=jm y v g&&y.rl.all λe=>fpB (YG e.2) (y.rt.n:Int) 4 d g
def pg{v g:Int}(h:jm y v g=true):shS y=true/\y.e=0/\(y.rt.n:Int)<=v/\(y.st.n=0\/((y.st.n:Int)<=v/\∀s∈y.sl,Uz g s=true)):=by
 unfold jm at h;simp only[aS,aB,aF,bne_eq_false_iff_eq,decide_eq_false_iff_not]at h;obtain⟨⟨⟨h1,h2⟩,h3⟩,h4⟩:=h;refine⟨by simpa using h1,h2,O,?_⟩;by_cases g:y.st.n=0
 ·exact .inl g
 right;have:decide ((y.st.n:Int)>0)=true:=decide_eq_true O;rw[this,Bool.and_true]at h4;simp only[aF,ak,decide_eq_true_eq,aC]at h4;exact h4
def gh{nl:List (List UInt8)}{rl:List Pt}{sl:List (List UInt8×List UInt8)}(h1:nl.length≠0)(h2:¬nl.length>24)(h3:rl.length=nl.length/\sl.length=nl.length):By nl rl sl=Qu [DW nl,Qu (rl.map λp=>Za p nl.length),Qu (sl.map λs=>XX s.1 s.2)]:=by
 unfold By;rw[if_neg h1,if_neg h2,if_neg O]
theorem QGZ{q:Option Addr}{l:List (List UInt8)}{v:List UInt8}(hF:Fits F w)(hR:Qx F q n 1 (l.map tx))(hn:l.length=n)(hb:n<=1000000000):Qg prog 148 [.slice q n c,tx v] w F (.bool (decide (v∈l))):=by
 refine QV.intro (G:=λF=>Qx F q n 1 (l.map tx)) func148 rfl wy rfl rfl hF (λF' hF'=>hR.le hF')<|QI7<|wQ rfl<|QG<|QI7<|wQ rfl<|QW<|XK (ι:=NoI l v) [(0,_),(1,_)] (λi=>[(5,.int .i64 ((i.i:Nat):Int))]) (λi=>l.length-i.i) (⟨0,ba _,λj h=>absurd h (Nat.not_lt_zero _)⟩) wT wS λi=>?_
 simp only[af,ag];have hi:=i.le;refine wA 5 I<|QA (Qh I Ku)<|QJK 3 I ?_
 refine QR I (λhc2=>?_) λhc2=>?_
 ·have hlt:i.i<l.length:=wk<|QJG hc2
  have hem:=Qv hlt;refine QJL 8 I<|QA (Q3 (n:=n) i.i w9 rfl rfl Ku Dq O)<|QA (Q5 (n:=n) ((i.i)*1) w9 O rfl Dq (XL (f:=tx) (l:=l) O))<|QH0 I<|QA (K6 I I)<|QE<|QC ?_
  refine QR I (λhc2=>?_) λhc2=>?_
  ·have h17:el l i.i=v:=eq_of_beq hc2;refine wA 6 I ?_
   repeat first|refine Q6 ?_|refine Qy ?_
   exact QJO I I (congrArg aa (decide_eq_true (by rw[<-h17];exact hem))) w8
  have h17:¬el l i.i=v:=by simpa using hc2
  refine QO<|Qk<|QJM 3 I<|QA (Qw I I O)<|wB 2 I ?_
  exact Qm (⟨i.i+1,hlt,λj hj=>by rcases Nat.lt_succ_iff_lt_or_eq.1 hj with h | rfl;exact i.h j h;exact h17⟩) (by show l.length-(i.i+1)<l.length-i.i;omega) wU QIM w9
 have hge:l.length<=i.i:=wk<|QJH hc2
 refine Qz ?_
 repeat first|refine QZ ?_|refine QQ wy ?_
 refine Qa<|QJM 7 I ?_
 exact QJO I I (congrArg aa (decide_eq_false (i.stop hge))) w8
theorem QGc{q:Option Addr}{l:List (List UInt8)}{v:List UInt8}(hF:Fits F w)(hR:Qx F q n 1 (l.map tx))(hn:l.length=n)(hb:n<=1000000000):Qg prog 78 [.slice q n c,tx v] w F (.bool (decide (v∈l))):=by
 refine QV.intro (G:=λF=>Qx F q n 1 (l.map tx)) func78 rfl wy rfl rfl hF (λF' hF'=>hR.le hF')<|QI7<|wQ rfl<|wR rfl<|QH0 rfl<|QI rfl (λ_ _ f k=>QGZ f k hn hb) λ_=>wQ rfl<|QY ?_
 exact QJO I I (rfl) w8
theorem QGW(hF:Fits F w)(hGl:JE F)(hy:ZH F y)(ht:Ww y):Qg prog 23 [y.v] w F (.int .i64 y.e):=by
 obtain⟨⟨qn,nn,cn⟩,nl,⟨qr,nr,cr⟩,rl,⟨qs,ns,cs⟩,sl⟩:=y;have hnl:=hy.jg;have hrl:=hy.Kx;have hsl:=hy.P3;have hnn:=ht.nn;have hrn:=ht.rn;have hsn:=ht.sn;dsimp only at *
 dsimp only[X5.v];refine QV.intro (G:=λF=>JE F/\ZH F ⟨⟨qn,nn,cn⟩,nl,⟨qr,nr,cr⟩,rl,⟨qs,ns,cs⟩,sl⟩) func23 rfl wy rfl rfl hF (λF' hF'=>⟨hGl.le hF',hy.le hF'⟩)<|QI7<|Qs rfl (vs:=[_,_,_]) rfl λb1=>wQ rfl<|QI7<|QA (QH rfl Hl VG)<|QA (Qf rfl VG .here .h1)<|QA (Qh rfl Ku)<|wQ rfl<|QG<|wR rfl<|QA (QT rfl rfl rfl)<|QE<|QC ?_
 refine QR I (λhc2=>?_) λhc2=>?_
 ·have h11:nl.length=0:=by have:(nn:Int)=0:=eq_of_beq hc2;omega
  refine wA 6 I ?_;exact QJO I I (congrArg (aL .i64) (by show By nl (rl.map λe=>YG e.2) sl=12;unfold By;rw[if_pos h11])) w8
 have h11:nl.length≠0:=by have:¬(nn:Int)=0:=(by simpa using hc2);omega
 refine QJL 9 I ?_;refine QR I (λhc2=>?_) λhc2=>?_
 ·have h13:nl.length>24:=wk<|QJG hc2
  refine wA 6 I ?_;exact QJO I I (congrArg (aL .i64) (by show By nl (rl.map λe=>YG e.2) sl=5;unfold By;rw[if_neg h11,if_pos h13])) w8
 have h13:¬nl.length>24:=wk<|QJH hc2
 refine QJL 3 I ?_;refine Zc [(1,_),(3,_)] [(25,.bool (((nr:Int) != nn||(ns:Int) != nn)))] wT ?_ ?_
 ·refine QB<|QA (QH I WZ Yx)<|QA (Qf I Yx .here (.skip .h1))<|QA (Qh I V7)<|wB 3 I ?_
  refine Ql (t:=19) rfl (λhb19=>?_) λhb19=>?_
  ·refine wB 7 I ?_;exact JY ⟨rfl,rfl,(congrArg (λb=>some (aa b)) (by rw[hb19];rfl)),trivial⟩ QIM w9
  refine QM I I<|QA (QH I YL JZ)<|QM I I<|QA (Qf I JZ .here (.skip (.skip .h1)))<|QM I I<|QA (Qh I J9)<|wB 6 I ?_
  exact JY ⟨rfl,rfl,(congrArg (λb=>some (aa b)) (by rw[hb19];rfl)),trivial⟩ QIM w9
 simp only[af,ag];refine QR I (λhc2=>?_) λhc2=>?_
 ·have h25:(rl.map λe=>YG e.2).length≠nl.length\/sl.length≠nl.length:=by simp only[Bool.or_eq_true,bne_iff_ne]at hc2;rw[aA];omega
  refine wA 6 I ?_;exact QJO I I (congrArg (aL .i64) (by show By nl (rl.map λe=>YG e.2) sl=2;unfold By;rw[if_neg h11,if_neg h13,if_pos h25])) w8
 have h25:(rl.map λe=>YG e.2).length=nl.length/\sl.length=nl.length:=by simp only[aB,bne_eq_false_iff_eq]at hc2;rw[aA];omega
 have h25r:rl.length=nl.length:=by rw[<-h25.1,aA]
 refine QJL 9 I<|XK (ι:=ZO (aO nl.length) (EI nl)) [(1,_),(3,_)] (λi=>[(4,.int .i64 ((i.i:Nat):Int))]) (λi=>nl.length-i.i) (ZO.start _ _) wT wS λi=>?_
 simp only[af,ag];have hi:=i.le;rw[aI]at hi;refine wA 8 I ?_;refine QR I (λhc2=>?_) λhc2=>?_
 ·have hlt:i.i<nl.length:=wk<|QJG hc2
  have hem:=Qv hlt;refine QJL 7 I<|QA (QH I Hl VG)<|QA (Qf I VG .here .h1)<|QH0 I<|QA (Q3 (n:=nn) i.i (λF h9=>h9.2.nm) rfl rfl Ku Dq O)<|QA (Q5 (n:=nn) ((i.i)*1) (λF h9=>h9.2.nm) O rfl Dq (XL (f:=tx) (l:=nl) O))<|QI I (λ_ _ f k=>QDx f (ht.nt _ hem)) λ_=>QA (XB I)<|QE<|QC ?_
  refine QR I (λhc2=>?_) λhc2=>?_
  ·have h37:(!cL (el nl i.i))=true:=hc2;have hnE:EI nl i.i≠0:=by unfold EI;rw[if_pos h37,Zl wu];decide
   refine wA 6 I ?_
   repeat first|refine Q6 ?_|refine Qy ?_
   exact QJO I I (congrArg (aL .i64) (by show By nl (rl.map λe=>YG e.2) sl=8;rw[gh h11 h13 h25];have h9:=i.hit (by rw[aI];exact hlt) (by rw[ZD hlt];exact hnE);rw[ZD hlt]at h9;rw[show DW nl=EI nl i.i from h9,Zl hnE];unfold EI;rw[if_pos h37,Zl wu])) w8
  have h37:(!cL (el nl i.i))=false:=hc2;refine QJL 3 I<|JH QIM mixed wm<|QK (QH I Hl VG)<|QK (Qf I VG .here .h1)<|QK (QD I)<|QK (NV i.i I I I Ku Dq (by have:=ht.nc;dsimp only at this;omega))<|QK (QH I Hl VG)<|QK (Qf I VG .here .h1)<|QK (QD I)<|QK (Q3 (n:=nn) i.i (λF h9=>h9.1.2.nm) rfl rfl Ku Dq O)<|QK (Q5 (n:=nn) ((i.i)*1) (λF h9=>h9.1.2.nm) O rfl Dq (XL (f:=tx) (l:=nl) O))<|QP I (λ_ _ f k=>QGc f (Qx.QCL (l:=nl) k.1.2.nm hnl hi) (by rw[List.length_take];omega) O) λ_=>Q7<|QC ?_
  refine QR I (λhc2=>?_) λhc2=>?_
  ·have h47:decide (el nl i.i∈nl.take i.i)=true:=hc2;have hnE:EI nl i.i≠0:=by unfold EI;rw[if_neg (by rw[h37];decide),if_pos h47,Zm,Zl wu];decide
   refine wA 6 I ?_
   repeat first|refine Q6 ?_|refine Qy ?_
   exact QJO I I (congrArg (aL .i64) (by show By nl (rl.map λe=>YG e.2) sl=9;rw[gh h11 h13 h25];have h9:=i.hit (by rw[aI];exact hlt) (by rw[ZD hlt];exact hnE);rw[ZD hlt]at h9;rw[show DW nl=EI nl i.i from h9,Zl hnE];unfold EI;rw[if_neg (by rw[h37];decide),if_pos h47,Zm,Zl wu])) w8
  have h47:decide (el nl i.i∈nl.take i.i)=false:=hc2;refine QO<|Qk<|QJM 3 I<|QA (Qw I I O)<|wB 2 I ?_
  exact Qm (i.next (by rw[aI];exact hlt) (by rw[ZD hlt];unfold EI;rw[if_neg (by rw[h37];decide),if_neg (by rw[h47];decide)];rfl)) (by show nl.length-(i.i+1)<nl.length-i.i;omega) wU QIM λF h=>h.1.1
 have hge:nl.length<=i.i:=wk<|QJH hc2
 have hnz:DW nl=0:=i.stop (by rw[aI];exact hge);refine Qz ?_
 repeat first|refine QZ ?_|refine QQ wy ?_
 refine Qa<|QJM 8 I<|XK (ι:=ZO rl λe=>Za (YG e.2) (nn:Int)) [(1,_),(3,_)] (λi2=>[(5,.int .i64 ((i2.i:Nat):Int))]) (λi2=>rl.length-i2.i) (ZO.start _ _) wT wS λi2=>?_
 simp only[af,ag];have hi2:=i2.le;refine wA 8 I ?_;refine QR I (λhc2=>?_) λhc2=>?_
 ·have hlt2:i2.i<rl.length:=wk<|QJG hc2
  have hem:=Qv hlt2;refine QJL 6 I<|QA (QH I WZ Yx)<|QA (Qf I Yx .here (.skip .h1))<|QH0 I<|QA (Q3 (n:=nr) (i2.i) (λF h9=>h9.2.rt) rfl rfl V7 Wh O)<|QA (Q5 (n:=nr) ((i2.i)*1) (λF h9=>h9.2.rt) O rfl Wh (XL (f:=λe:SD=>e.1.v) (l:=rl) O))<|QH0 I<|QI I (λ_ _ f k=>I6 (q:=(el rl i2.i).1.q) (n:=(el rl i2.i).1.n) (cap:=(el rl i2.i).1.cap) f k.1 (k.2.pl _ hem).1 (k.2.pl _ hem).2 (ht.tm _ hem).1 (λt htt=>wk<|(ht.tm _ hem).2.1 t htt) (wk<|(ht.tm _ hem).2.2) O) λ_=>QJK 9 I ?_
  refine QR I (λhc2=>?_) λhc2=>?_
  ·have h61:=bne_iff_ne.1 hc2;refine wA 7 I ?_
   repeat first|refine Q6 ?_|refine Qy ?_
   exact QJO I I (congrArg (aL .i64) (by show By nl (rl.map λe=>YG e.2) sl=_;rw[gh h11 h13 h25,hnz,Zm,bC,hnl];have h9:=i2.hit hlt2 h61;rw[show Qu (rl.map ((λp=>Za p (nn:Int))∘λe=>YG e.2))=Za (YG (el rl i2.i).2) (nn:Int)from h9,Zl h61])) w8
  have h61:=bne_eq_false_iff_eq.1 hc2;refine QO<|Qk<|QJM 3 I<|QA (Qw I I O)<|wB 2 I ?_
  exact Qm (i2.next hlt2 h61) (by show rl.length-(i2.i+1)<rl.length-i2.i;omega) wU QIM tA
 have hge2:rl.length<=i2.i:=wk<|QJH hc2
 refine Qz ?_
 repeat first|refine QZ ?_|refine QQ wy ?_
 refine Qa<|QC<|QI7<|QA (QH I YL JZ)<|QA (Qf I JZ .here (.skip (.skip .h1)))<|QI I (λ_ _ f k=>jZ f k.2.st ⟨hsl,ht.st⟩ hsn) λ_=>wQ I<|QY ?_
 exact QJO I I (congrArg (aL .i64) (by show By nl (rl.map λe=>YG e.2) sl=_;rw[gh h11 h13 h25,hnz,Zm,bC,hnl];have h9:=i2.stop hge2;rw[show Qu (rl.map ((λp=>Za p (nn:Int))∘λe=>YG e.2))=0 from h9,Zm,QBs])) w8
theorem QDs(hF:Fits F w)(hy:ZH F y)(ht:ve y):Qg prog 36 [y.v] w F (.bool (shS y)):=by
 have hnl:=hy.jg;have hrl:=hy.Kx;have hsl:=hy.P3;have hnn:=ht.nn;have hrn:=ht.rn;have hsn:=ht.sn;refine QV.intro (G:=λF=>ZH F y) func36 rfl wy rfl rfl hF (λF' hF'=>hy.le hF')<|QI7<|Qs rfl (vs:=[_,_,_]) rfl λb1=>wQ rfl<|QG ?_
 refine Zc [(1,_)] [(21,.bool (shN y))] wS ?_ ?_
 ·refine QB<|QA (QH I Hl VG)<|QA (Qf I VG .here .h1)<|QA (Qh I Ku)<|wB 2 I ?_
  refine Ql (t:=10) rfl (λhb10=>?_) λhb10=>?_
  ·refine wB 12 I ?_;exact JY ⟨rfl,(congrArg (λb=>some (aa b)) (by unfold shN;rw[hb10];rfl)),trivial⟩ QIM w9
  refine QM I I<|QA (QH I WZ Yx)<|QM I I<|QA (Qf I Yx .here (.skip .h1))<|QM I I<|QA (Qh I V7)<|wB 4 I ?_
  refine Ql (t:=16) rfl (λhb16=>?_) λhb16=>?_
  ·refine wB 6 I ?_;exact JY ⟨rfl,(congrArg (λb=>some (aa b)) (by unfold shN;rw[hb10,hb16];rfl)),trivial⟩ QIM w9
  refine QM I I<|QA (QH I YL JZ)<|QM I I<|QA (Qf I JZ .here (.skip (.skip .h1)))<|QM I I<|QA (Qh I J9)<|wB 4 I ?_
  exact JY ⟨rfl,(congrArg (λb=>some (aa b)) (by unfold shN;rw[hb10,hb16];rfl)),trivial⟩ QIM w9
 simp only[af,ag];refine QR I (λhc2=>?_) λhc2=>?_
 ·have h21:shN y=true:=hc2;refine wA 6 I ?_;exact QJO I I (congrArg aa (by unfold shS;rw[h21];rfl)) w8
 have h21:shN y=false:=hc2;refine QJL 9 I<|XK (ι:=W9 y.rl shP) [(1,_)] (λi=>[(3,.int .i64 ((i.i:Nat):Int))]) (λi=>y.rl.length-i.i) (W9.start _ _) wS wS λi=>?_
 simp only[af,ag];have hi:=i.le;refine wA 4 I<|QA (QH I WZ Yx)<|QA (Qf I Yx .here (.skip .h1))<|QA (Qh I V7)<|QJK 3 I ?_
 refine QR I (λhc2=>?_) λhc2=>?_
 ·have hlt:i.i<y.rl.length:=wk<|QJG hc2
  have hem:=Qv hlt;have hpl:=(ht.rl _ hem).1;have hpn:=(ht.rl _ hem).2.1;refine QJL 7 I<|QA (QH I WZ Yx)<|QA (Qf I Yx .here (.skip .h1))<|QH0 I<|QA (Q3 (n:=y.rt.n) i.i (λF hy=>hy.rt) rfl rfl V7 Wh O)<|QA (Q5 (n:=y.rt.n) ((i.i)*1) (λF hy=>hy.rt) O rfl Wh (XL (f:=λe:SD=>e.1.v) (l:=y.rl) O))<|QA (Qh I Kz)<|QJK 3 I ?_
  refine QR I (λhc2=>?_) λhc2=>?_
  ·have h35:((el y.rl i.i).1.n:Int)>70:=QJG hc2;refine wA 6 I ?_
   repeat first|refine Q6 ?_|refine Qy ?_
   exact QJO I I (congrArg aa (by unfold shS;rw[h21,i.hit hlt (by unfold shP;rw[decide_eq_true h35];rfl)];rfl)) w8
  have h35:¬((el y.rl i.i).1.n:Int)>70:=QJH hc2;refine QJL 8 I<|XK (ι:=W9 (el y.rl i.i).2 shT) [(1,_),(3,_)] (λi2=>[(4,.int .i64 ((i2.i:Nat):Int))]) (λi2=>(el y.rl i.i).2.length-i2.i) (W9.start _ _) wT wS λi2=>?_
  simp only[af,ag];have hi2:=i2.le;refine wA 4 I<|QA (QH I WZ Yx)<|QA (Qf I Yx .here (.skip .h1))<|QH0 I<|QA (Q3 (n:=y.rt.n) i.i (λF hy=>hy.rt) rfl rfl V7 Wh O)<|QA (Q5 (n:=y.rt.n) ((i.i)*1) (λF hy=>hy.rt) O rfl Wh (XL (f:=λe:SD=>e.1.v) (l:=y.rl) O))<|QA (Qh I Kz)<|QJK 3 I ?_
  refine QR I (λhc2=>?_) λhc2=>?_
  ·have hlt2:i2.i<(el y.rl i.i).2.length:=wk<|QJG hc2
   refine QJL 4 I ?_;refine Zc [(1,_),(3,_),(4,_)] [(69,.bool (!(shT (el (el y.rl i.i).2 i2.i))))] wU ?_ ?_
   ·refine QB<|QA (QH I WZ Yx)<|QA (Qf I Yx .here (.skip .h1))<|QH0 I<|QA (Q3 (n:=y.rt.n) i.i (λF hy=>hy.rt) rfl rfl V7 Wh O)<|QA (Q5 (n:=y.rt.n) ((i.i)*1) (λF hy=>hy.rt) O rfl Wh (XL (f:=λe:SD=>e.1.v) (l:=y.rl) O))<|QH0 I<|QA (Q3 (n:=(el y.rl i.i).1.n) (i2.i) (λF hy=>(hy.pl _ hem).1) rfl rfl Kz VA O)<|QA (QH I Gw Jz)<|QA (Q5 (n:=(el y.rl i.i).1.n) ((i2.i)*2+1) (λF hy=>(hy.pl _ hem).1) O rfl Jz (JQ (f:=DM) (l:=(el y.rl i.i).2) Wt O rfl))<|QA (Qh I JC)<|wB 2 I ?_
    refine Ql (t:=57) rfl (λhb57=>?_) λhb57=>?_
    ·refine wB 13 I ?_;exact JY ⟨rfl,rfl,rfl,(congrArg (λb=>some (aa b)) (by unfold shT;rw[ay,hb57];rfl)),trivial⟩ QIM w9
    refine QM I I<|QA (QH I WZ Yx)<|QM I I<|QA (Qf I Yx .here (.skip .h1))<|wB 3 I<|QA (Q3 (n:=y.rt.n) i.i (λF hy=>hy.rt) rfl rfl V7 Wh O)<|QM I I<|QA (Q5 (n:=y.rt.n) ((i.i)*1) (λF hy=>hy.rt) O rfl Wh (XL (f:=λe:SD=>e.1.v) (l:=y.rl) O))<|wB 3 I<|QA (Q3 (n:=(el y.rl i.i).1.n) (i2.i) (λF hy=>(hy.pl _ hem).1) rfl rfl Kz VA O)<|QM I I<|QA (QH I Rk JP)<|QM I I<|QA (Q5 (n:=(el y.rl i.i).1.n) ((i2.i)*2+0) (λF hy=>(hy.pl _ hem).1) O rfl JP (JQ (f:=DM) (l:=(el y.rl i.i).2) Wt O rfl))<|QM I I<|QA (Xj I Mu)<|wB 4 I ?_
    exact JY ⟨rfl,rfl,rfl,(congrArg (λb=>some (aa b)) (by unfold shT;rw[ay,hb57];rfl)),trivial⟩ QIM w9
   simp only[af,ag];refine QR I (λhc2=>?_) λhc2=>?_
   ·have h69:shT (el (el y.rl i.i).2 i2.i)=false:=by simpa using hc2
    refine wA 6 I ?_
    repeat first|refine Q6 ?_|refine Qy ?_
    exact QJO I I (congrArg aa (by unfold shS;rw[h21,i.hit hlt (by unfold shP;rw[i2.hit hlt2 h69,bA])];rfl)) w8
   have h69:shT (el (el y.rl i.i).2 i2.i)=true:=by simpa using hc2
   refine QO<|Qk<|QJM 3 I<|QA (Qw I I O)<|wB 2 I ?_
   exact Qm (i2.next hlt2 h69) (by show(el y.rl i.i).2.length-(i2.i+1)<(el y.rl i.i).2.length-i2.i;omega) wU QIM w9
  have hge2:(el y.rl i.i).2.length<=i2.i:=wk<|QJH hc2
  refine Qz ?_
  repeat first|refine QZ ?_|refine QQ wy ?_
  refine Qa<|Qk<|QJM 3 I<|QA (Qw I I O)<|wB 2 I ?_
  exact Qm (i.next hlt (by unfold shP;rw[decide_eq_false h35,i2.stop hge2];rfl)) (by show y.rl.length-(i.i+1)<y.rl.length-i.i;omega) wT QIM w9
 have hge:y.rl.length<=i.i:=wk<|QJH hc2
 have hra:=i.stop hge;refine Qz ?_
 repeat first|refine QZ ?_|refine QQ wy ?_
 refine Qa<|QJM 8 I<|XK (ι:=W9 y.sl gp) [(1,_)] (λi3=>[(5,.int .i64 ((i3.i:Nat):Int))]) (λi3=>y.sl.length-i3.i) (W9.start _ _) wS wS λi3=>?_
 simp only[af,ag];have hi3:=i3.le;refine wA 4 I<|QA (QH I YL JZ)<|QA (Qf I JZ .here (.skip (.skip .h1)))<|QA (Qh I J9)<|QJK 3 I ?_
 refine QR I (λhc2=>?_) λhc2=>?_
 ·have hlt3:i3.i<y.sl.length:=wk<|QJG hc2
  refine QJL 4 I ?_;refine Zc [(1,_),(5,_)] [(94,.bool (!(gp (el y.sl i3.i))))] wT ?_ ?_
  ·refine QB<|QA (QH I YL JZ)<|QA (Qf I JZ .here (.skip (.skip .h1)))<|QH0 I<|QA (Q3 (n:=y.st.n) (i3.i) (λF hy=>hy.st) rfl rfl J9 Jq O)<|QA (QH I B4 JP)<|QA (Q5 (n:=y.st.n) ((i3.i)*2+0) (λF hy=>hy.st) O rfl JP (JQ (f:=Pc) (l:=y.sl) KZ O rfl))<|QA (Xj I Mu)<|wB 2 I ?_
   refine Ql (t:=85) rfl (λhb85=>?_) λhb85=>?_
   ·refine wB 10 I ?_;exact JY ⟨rfl,rfl,(congrArg (λb=>some (aa b)) (by unfold gp;rw[ay,hb85];rfl)),trivial⟩ QIM w9
   refine QM I I<|QA (QH I YL JZ)<|QM I I<|QA (Qf I JZ .here (.skip (.skip .h1)))<|wB 3 I<|QA (Q3 (n:=y.st.n) (i3.i) (λF hy=>hy.st) rfl rfl J9 Jq O)<|QM I I<|QA (QH I De JP)<|QM I I<|QA (Q5 (n:=y.st.n) ((i3.i)*2+1) (λF hy=>hy.st) O rfl JP (JQ (f:=Pc) (l:=y.sl) KZ O rfl))<|QM I I<|QA (Xj I Mu)<|wB 4 I ?_
   exact JY ⟨rfl,rfl,(congrArg (λb=>some (aa b)) (by unfold gp;rw[ay,hb85];rfl)),trivial⟩ QIM w9
  simp only[af,ag];refine QR I (λhc2=>?_) λhc2=>?_
  ·have h94:gp (el y.sl i3.i)=false:=by simpa using hc2
   refine wA 6 I ?_
   repeat first|refine Q6 ?_|refine Qy ?_
   exact QJO I I (congrArg aa (by unfold shS;rw[h21,hra,i3.hit hlt3 h94];rfl)) w8
  have h94:gp (el y.sl i3.i)=true:=by simpa using hc2
  refine QO<|Qk<|QJM 3 I<|QA (Qw I I O)<|wB 2 I ?_
  exact Qm (i3.next hlt3 h94) (by show y.sl.length-(i3.i+1)<y.sl.length-i3.i;omega) wT QIM w9
 have hge3:y.sl.length<=i3.i:=wk<|QJH hc2
 refine Qz ?_
 repeat first|refine QZ ?_|refine QQ wy ?_
 refine Qa<|QJM 7 I ?_
 exact QJO I I (congrArg aa (by unfold shS;rw[h21,hra,i3.stop hge3];rfl)) w8
theorem QFQ{v d g:Int}(hF:Fits F w)(hGl:JE F)(hy:ZH F y)(hl:ve y)(hg:0<=g/\g<=1000):Qg prog 7 [y.v,.int .i64 v,.int .i64 d,.int .i64 g] w F (.bool (jl y v d g)):=by
 have hnl:=hy.jg;have hrl:=hy.Kx;have hsl:=hy.P3;refine QV.intro (G:=λF=>JE F/\ZH F y) func7 rfl wy rfl rfl hF (λF' hF'=>⟨hGl.le hF',hy.le hF'⟩)<|QI7<|Qs rfl (vs:=[_,_,_]) rfl λb4=>wQ rfl<|QG ?_
 refine Zc [(2,_),(3,_),(4,_)] [(38,.bool (!(jm y v g)))] wU ?_ ?_
 ·refine QB<|QA (wI I J8 .here)<|QI I (λ_ _ f k=>QDs (y:=y) f k.2 hl) λ_=>QA (XB I)<|QH0 I ?_
  refine Ql (t:=13) rfl (λhb13=>?_) λhb13=>?_
  ·refine wB 19 I<|Jn I I<|Jn I I<|Jn I I<|Jn I I<|wB 2 I ?_
   refine QE ?_;exact JY ⟨rfl,rfl,rfl,(congrArg (λb=>some (aa b)) (by unfold jm;rw[ay,hb13];rfl)),trivial⟩ QIM tA
  have ht:Ww y:=hl.ts (by simpa using hb13);refine QM I I<|QA (wI I J8 .here)<|QM I I<|QI I (λ_ _ f k=>QGW (y:=y) f k.1.1 k.1.2 ht) λ_=>wB 4 I ?_
  refine Ql (t:=18) rfl (λhb18=>?_) λhb18=>?_
  ·refine wB 14 I<|Jn I I<|Jn I I<|Jn I I<|Jn I I<|wB 3 I ?_
   exact JY ⟨rfl,rfl,rfl,(congrArg (λb=>some (aa b)) (by unfold jm;rw[ay,hb13,hb18];rfl)),trivial⟩ QIM λ_ h=>h.1.1
  refine QM I I<|QA (QH I WZ Yx)<|QM I I<|QA (Qf I Yx .here (.skip .h1))<|QM I I<|QA (Qh I V7)<|wB 6 I ?_
  refine Ql (t:=25) rfl (λhb25=>?_) λhb25=>?_
  ·refine wB 7 I<|Jn I I<|Jn I I<|Jn I I<|Jn I I<|wB 3 I ?_
   exact JY ⟨rfl,rfl,rfl,(congrArg (λb=>some (aa b)) (by unfold jm;rw[ay,hb13,hb18,hb25];rfl)),trivial⟩ QIM λ_ h=>h.1.1
  refine QM I I<|QA (QH I YL JZ)<|QM I I<|QA (Qf I JZ .here (.skip (.skip .h1)))<|wB 5 I<|QI I (λ_ _ f k=>Tz f k.1.1.2.st hsl hg (wk ht.sn)) λ_=>QM I I<|QA (XB I)<|wB 2 I ?_
  refine Ql (t:=32) rfl (λhb32=>?_) λhb32=>?_
  ·refine QM I I<|QA (QH I YL JZ)<|QM I I<|QA (Qf I JZ .here (.skip (.skip .h1)))<|QM I I<|QA (Qh I J9)<|wB 6 I ?_
   exact JY ⟨rfl,rfl,rfl,(congrArg (λb=>some (aa b)) (by unfold jm;rw[ay,hb13,hb18,hb25,hb32];rfl)),trivial⟩ QIM λ_ h=>h.1.1.1
  refine wB 8 I ?_;exact JY ⟨rfl,rfl,rfl,(congrArg (λb=>some (aa b)) (by unfold jm;rw[ay,hb13,hb18,hb25,hb32];rfl)),trivial⟩ QIM λ_ h=>h.1.1.1
 simp only[af,ag];refine QR I (λhc2=>?_) λhc2=>?_
 ·have h38:jm y v g=false:=by simpa using hc2
  refine wA 6 I ?_;exact QJO I I (congrArg aa (by unfold jl;rw[h38];rfl)) w8
 have h38:jm y v g=true:=by simpa using hc2
 obtain⟨hS1,he1,hv1,hs1⟩:=pg h38;have ht:Ww y:=hl.ts hS1;have hrn:=ht.rn;have ho:=hy.ok he1;have hon:=ho.n1;have hor:=ho.rn;refine QJL 9 I<|XK (ι:=W9 y.rl λe=>fpB (YG e.2) (y.rt.n:Int) 4 d g) [(2,_),(3,_),(4,_)] (λi=>[(9,.int .i64 ((i.i:Nat):Int))]) (λi=>y.rl.length-i.i) (W9.start _ _) wU wS λi=>?_
 simp only[af,ag];have hi:=i.le;refine wA 4 I<|QA (QH I WZ Yx)<|QA (Qf I Yx .here (.skip .h1))<|QA (Qh I V7)<|QJK 3 I ?_
 refine QR I (λhc2=>?_) λhc2=>?_
 ·have hlt:i.i<y.rl.length:=wk<|QJG hc2
  have hem:=Qv hlt;refine QJL 5 I<|JH QIM mixed wm<|QK (QH I WZ Yx)<|QK (Qf I Yx .here (.skip .h1))<|QK (QD I)<|QK (Q3 (n:=y.rt.n) i.i (λF h9=>h9.2.rt) rfl rfl V7 Wh O)<|QK (Q5 (n:=y.rt.n) ((i.i)*1) (λF h9=>h9.2.rt) O rfl Wh (XL (f:=λe:SD=>e.1.v) (l:=y.rl) O))<|QK (QH I WZ Yx)<|QK (Qf I Yx .here (.skip .h1))<|QK (Qh I V7)<|QK (QD I)<|QK (QD I)<|QP I (λ_ _ f k=>uv (q:=(el y.rl i.i).1.q) (n:=(el y.rl i.i).1.n) (cap:=(el y.rl i.i).1.cap) f k.1 (k.2.pl _ hem).1 (k.2.pl _ hem).2 (ht.tm _ hem).1 (λt htt=>wk<|(ht.tm _ hem).2.1 t htt) (wk<|(ht.tm _ hem).2.2) O O) λ_=>QK (XB I)<|Q7<|QC ?_
  refine QR I (λhc2=>?_) λhc2=>?_
  ·have h57:fpB (YG (el y.rl i.i).2) (y.rt.n:Int) 4 d g=false:=by simpa using hc2
   refine wA 6 I ?_
   repeat first|refine Q6 ?_|refine Qy ?_
   exact QJO I I (congrArg aa (by unfold jl;rw[h38,i.hit hlt h57];rfl)) w8
  have h57:fpB (YG (el y.rl i.i).2) (y.rt.n:Int) 4 d g=true:=by simpa using hc2
  refine QO<|Qk<|QJM 3 I<|QA (Qw I I O)<|wB 2 I ?_
  exact Qm (i.next hlt h57) (by show y.rl.length-(i.i+1)<y.rl.length-i.i;omega) wV QIM tA
 have hge:y.rl.length<=i.i:=wk<|QJH hc2
 refine Qz ?_
 repeat first|refine QZ ?_|refine QQ wy ?_
 refine Qa<|QJM 7 I ?_
 exact QJO I I (congrArg aa (by unfold jl;rw[h38,i.stop hge];rfl)) w8
structure ATk where
 fr:List UInt8
 te:List UInt8
 bx:Sr
 bl:List (List UInt8×List UInt8)
 wh:Sr
 wl:List (List UInt8×List UInt8)
 o:Int
 b:Int
@[reducible] def ATk.v (x:ATk):Value:=.agg #[tx x.fr,tx x.te,.slice x.bx.q x.bx.n x.bx.cap,.slice x.wh.q x.wh.n x.wh.cap,.int .i64 x.o,.int .i64 x.b]
def QJF(l:List (List UInt8)):Bool:=l.any λs=>decide (s.length>14)
section
open Go.RowKit Go.ChangeShapes Go.WideShapes Ig
section
variable{H:Type}{enc:TypeId×Value->H}{w:World}
def QHL(n:Nat):Prop:=n<=9223372036854775807
set_option maxRecDepth 100000 in
theorem kY{cs:List Value}{x:DataW H×List MemPlace}(h:au enc prog w 0 (λ_=>true) true m 24 cs=some x):∃(r:Sr) (l:List (List UInt8×List UInt8)),cs=[.slice r.q r.n r.cap]/\KO (WQ w) r l/\QHL r.n:=by
 obtain⟨q,n,cap,l,h1,h2,h3,h4,_,_⟩:=Sz (f:=Pc) (Q:=λ_=>True) underlying24 (show prog.cellsOf 38=2 by kernel_rfl) wu (λ_=>rfl) (λn cs x h=>by obtain⟨y,hy⟩:=QAm n cs x h;exact⟨y,hy,trivial⟩) h;exact⟨⟨q,n,cap⟩,l,h1,⟨h2,h3⟩,h4⟩
theorem QAS(n:Nat)(cs:List Value)(x:DataW H×List MemPlace)(h:au enc prog w 0 (λ_=>true) true n 9 cs=some x):∃y:List UInt8,cs=[tx y]/\y.length<=9223372036854775807:=by
 obtain⟨s,rfl,_,hs⟩:=DataW.trod_string underlying9 h;refine⟨s.data.toList,by simp[tx],?_⟩;unfold maxLen at hs;have:s.data.toList.length=s.size:=wz;omega
set_option maxRecDepth 100000 in
theorem QA2(m:Nat)(cs:List Value)(x:DataW H×List MemPlace)(h:au enc prog w 0 (λ_=>true) true m 56 cs=some x):
  ∃a:SD,cs=[a.1.v]/\(Qx (WQ w) a.1.q a.1.n 2 (a.2.flatMap DM)/\VT (WQ w) a.2)/\a.2.length=a.1.n/\QHL a.1.n/\∀t∈a.2,QFv t:=by
 obtain⟨q,n,cap,l,h1,h2,h3,h4,h5,h6⟩:=Sz (cs:=cs) (f:=DM) (Q:=λy=>XF (WQ w) y.r y.k/\QFv y) underlying56 (show prog.cellsOf 59=2 by kernel_rfl) wu (λ_=>rfl) ug h;exact⟨(⟨q,n,cap⟩,l),h1,⟨h2,λt ht=>(h5 t ht).1⟩,h3,h4,λt ht=>(h5 t ht).2⟩
def QEY(l:List SD):(l.flatMap λa=>[a.1.v])=l.map λe=>e.1.v:=by
 induction l with
 |nil=>rfl
 |cons a l ih=>rw[List.flatMap_cons,ih];rfl
set_option maxRecDepth 100000 in
theorem QD8{v:Value}{d:DataW H}{p:List MemPlace}(hv:bB prog w .any b 26 v)(h:bL enc prog w 0 (λ_=>true) true 26 v d p):∃y:X5,v=y.v/\ZH (WQ w) y/\ve y:=by
 obtain⟨v0,v1,v2,yz0,y1,y2,n,rfl,_,_,h0,h1,h2⟩:=Joins.open_agg3 underlying26 wm wm hv h;obtain⟨q0,n0,c0,nl,e0,a1,a2,a3,a4,a5⟩:=Sz (cs:=[v0]) (f:=λy=>[tx y]) (Q:=λy=>y.length<=9223372036854775807) underlying22 (show prog.cellsOf 9=1 by kernel_rfl) wu (λ_=>rfl) QAS h0;obtain⟨q1,n1,c1,rl,e1,b1,b2,b3,b4,b5⟩:=Sz (cs:=[v1]) (f:=λa:SD=>[a.1.v]) (Q:=λa=>(Qx (WQ w) a.1.q a.1.n 2 (a.2.flatMap DM)/\VT (WQ w) a.2)/\a.2.length=a.1.n/\QHL a.1.n/\∀t∈a.2,QFv t) underlying23 (show prog.cellsOf 56=1 by kernel_rfl) wu (λ_=>rfl) QA2 h1;obtain⟨r2,sl,e2,s1,s2⟩:=kY h2;obtain rfl:=(aJ e0).1;obtain rfl:=(aJ e1).1;obtain rfl:=(aJ e2).1;rw[QFf]at a1;rw[QEY]at b1;exact⟨⟨⟨q0,n0,c0⟩,nl,⟨q1,n1,c1⟩,rl,r2,sl⟩,rfl,⟨a1,b1,λe he=>(b4 e he).1,s1.row,a2,b2,s1.len⟩,⟨a3,a5,a4,b3,s2,λe he=>⟨(b4 e he).2.1,(b4 e he).2.2.1,λt ht=>((b4 e he).1.2 t ht).2.1⟩⟩⟩
end
end
section
open Go.RowKit Go.ChangeShapes Go.WideShapes Ig
theorem QG7{α:Type}{cs:Array α}(h:cs.size=6):∃c0 c1 c2 c3 c4 c5,cs=#[c0,c1,c2,c3,c4,c5]:=by
 obtain⟨l⟩:=cs
 match l,h with
 |[c0,c1,c2,c3,c4,c5],_=>exact⟨c0,c1,c2,c3,c4,c5,rfl⟩
section
variable{H:Type}{enc:TypeId×Value->H}{w:World}
theorem gP{t:TypeId}{f0 f1 f2 f3 f4 f5:Field}{fuel:Nat}{cs:List Value}{x:DataW H×List MemPlace}(ht:prog.underlying t=some (.struct #[f0,f1,f2,f3,f4,f5]))(h:au enc prog w 0 (λ_=>true) true fuel t cs=some x):
  ∃z0 z1 z2 z3 z4 z5 n,au enc prog w 0 (λ_=>true) true n f0.type ((cs.drop f0.offset).take (prog.cellsOf f0.type))=some z0/\au enc prog w 0 (λ_=>true) true n f1.type ((cs.drop f1.offset).take (prog.cellsOf f1.type))=some z1/\au enc prog w 0 (λ_=>true) true n f2.type ((cs.drop f2.offset).take (prog.cellsOf f2.type))=some z2 /\
   au enc prog w 0 (λ_=>true) true n f3.type ((cs.drop f3.offset).take (prog.cellsOf f3.type))=some z3/\au enc prog w 0 (λ_=>true) true n f4.type ((cs.drop f4.offset).take (prog.cellsOf f4.type))=some z4/\au enc prog w 0 (λ_=>true) true n f5.type ((cs.drop f5.offset).take (prog.cellsOf f5.type))=some z5:=by
 obtain⟨xs,n,_,rfl,hl,hlen,hf⟩:=DataW.trod_struct ht h
 match xs,hlen with
 |[z0,z1,z2,z3,z4,z5],_=>exact⟨z0,z1,z2,z3,z4,z5,n,by simpa using hf 0 f0 rfl,by simpa using hf 1 f1 rfl,by simpa using hf 2 f2 rfl,by simpa using hf 3 f3 rfl,by simpa using hf 4 f4 rfl,by simpa using hf 5 f5 rfl⟩
theorem cW{v:Value}{x:DataW H×List MemPlace}(h:au enc prog w 0 (λ_=>true) true n 3 [v]=some x):∃k,v = .int .i64 k:=by
 obtain⟨k,e,_⟩:=DataW.trod_int QDZ h;exact⟨k,(aJ e).1⟩
set_option maxRecDepth 100000 in
theorem QCu{v:Value}{d:DataW H}{p:List MemPlace}(hv:bB prog w .any b 29 v)(h:bL enc prog w 0 (λ_=>true) true 29 v d p):∃x:ATk,v=x.v/\(KO (WQ w) x.bx x.bl/\KO (WQ w) x.wh x.wl)/\x.bx.n<=9223372036854775807/\x.wh.n<=9223372036854775807:=by
 obtain⟨cs,rfl,hsz⟩:=okWide_struct underlying29 hv;obtain⟨c0,c1,c2,c3,c4,c5,rfl⟩:=QG7 (hsz.trans wm);obtain⟨fuel,hf⟩:=h;obtain⟨z0,z1,z2,z3,z4,z5,n,h0,h1,h2,h3,h4,h5⟩:=gP underlying29 hf;have k1:prog.cellsOf 27=1:=wm;have k2:prog.cellsOf 24=1:=wm;have k3:prog.cellsOf 3=1:=wm;dsimp only[Value.cells]at h0 h1 h2 h3 h4 h5;rw[k1]at h0 h1;rw[k2]at h2 h3;rw[k3]at h4 h5;obtain⟨e0,rfl⟩:=LP jV (v:=c0) h0;obtain⟨e1,rfl⟩:=LP jV (v:=c1) h1;obtain⟨r2,l2,g2,p2,q2⟩:=kY (cs:=[c2]) h2;obtain⟨r3,l3,g3,p3,q3⟩:=kY (cs:=[c3]) h3;obtain⟨i4,rfl⟩:=cW (v:=c4) h4;obtain⟨i5,rfl⟩:=cW (v:=c5) h5;obtain rfl:=(aJ g2).1;obtain rfl:=(aJ g3).1;exact⟨⟨e0,e1,r2,l2,r3,l3,i4,i5⟩,rfl,⟨p2,p3⟩,q2,q3⟩
end
end
section
open Go.RowKit Go.ChangeShapes Go.WideShapes Ig
theorem array2{α:Type}{cs:Array α}(h:cs.size=2):∃a b,cs=#[a,b]:=by
 obtain⟨l⟩:=cs
 match l,h with
 |[a,b],_=>exact⟨a,b,rfl⟩
section
variable{H:Type}{enc:TypeId×Value->H}{w:World}
set_option maxRecDepth 100000 in
theorem QFT{v:Value}{d:DataW H}{p:List MemPlace}(hv:bB prog w .any b 30 v)(h:bL enc prog w 0 (λ_=>true) true 30 v d p):
  ∃k0 k1:Nat,v = .agg #[.int .u8 (k0:Int),.int .u8 (k1:Int)]/\k0<256/\k1<256:=by
 obtain⟨cs,rfl,hsz⟩:=cH underlying30 hv;obtain⟨a,b',rfl⟩:=array2 (hsz.trans wm);obtain⟨fuel,hf⟩:=h;have c1:prog.cellsOf 5=1:=wm;obtain⟨m0,y0,e0⟩:=QEu (i:=0) underlying30 hf wu;obtain⟨m1,y1,e1⟩:=QEu (i:=1) underlying30 hf wu;rw[c1]at e0 e1;obtain⟨k0,rfl,g0⟩:=QCJ (v:=a) e0;obtain⟨k1,rfl,g1⟩:=QCJ (v:=b') e1;exact⟨k0,k1,rfl,g0,g1⟩
end
end
structure QxR(F:Gs)(r:Sr)(vs:List J3):Prop where
 row:Qx F r.q r.n 2 (vs.flatMap Oz)
 len:vs.length=r.n
def QDr(x:J3):∀v∈Oz x,v.oneCell'=true:=λv hv=>by
 simp only[Oz,bh,aU,or_false]at hv;rcases hv with rfl | rfl<;>rfl
def QDb(vs:List J3):(He vs).flatMap Pc=vs.flatMap Oz:=by unfold He;rw[List.flatMap_map];rfl
def QxR.U4{r:Sr}{vs:List J3}(h:QxR F r vs):KO F r (He vs):=⟨by rw[QDb];exact h.row,by rw[Mm];exact h.len⟩
def Wf.q{c:Sr}{vs:List J3}(h:Wf F c vs):QxR F c vs:=⟨h.1,h.2.1.symm⟩
structure QB8(n:Nat)(f:Nat->J3) where
 i:Nat
 v:Value
 ob:List (Nat×Obj)
 le:i<=n
 hr:Q9 38 2 v i (((aO i).map f).flatMap Oz) ob
def QB8.start(n:Nat)(f:Nat->J3):QB8 n f:=⟨0,.slice none 0 0,[],ba _,.nil⟩
def QB8.next{n:Nat}{f:Nat->J3}(s:QB8 n f)(h:s.i<n){v:Value}{ob:List (Nat×Obj)}{x:J3}(hr:Q9 38 2 v (s.i+1) (((aO s.i).map f).flatMap Oz++Oz x) ob)(hx:x=f s.i):QB8 n f :=
 ⟨s.i+1,v,ob,h,by rw[bP,List.map_append,show List.map f [s.i]=[x] by rw[hx];rfl,It];exact hr⟩
structure QIz(va vb:List J3):Prop where
 eb:∀k,k<va.length->XN (el va k) 45000/\XN (el vb k) 45000
 pr:∀k,k<va.length->∀j,j<=k->XN (Jg (el va j) (el vb (k-j))) 100000
 cv:∀k,k<va.length->∀i,i<=k+1->XN (Gc va vb k i) 100000
def QFh{l:List Int}(h:k<l.length):Qn l k∈l:=by rw[YM h];exact List.getElem_mem h
theorem DG.drop{l:List Int}(hd:DG B9 l)(k:Nat):DG B9 (l.drop k):=λx hx=>hd x (List.mem_of_mem_drop hx)
structure QI0(P:List Tm)(all:List (List J3))(n:Nat):Prop where
 len:∀v,v<all.length->(el all v).length=n+1
 ks:∀u∈P,u.2.length=all.length/\∀k∈u.2,0<=k/\k<=1000
 rt:∀u∈P,∀v,v<all.length->∀m,m<(Qn u.2 v).toNat->QIz (DE (Wl u.1 u.2 all n v) (el all v) m) (el all v)
 mn:∀u∈P,∀x∈Wl u.1 u.2 all n all.length,XN x 100000
 sm:∀j,j<=P.length->∀x∈Kc (P.take j) all n,XN x 100000
structure QDL(rs:List (List Tm))(t:J3)(vb:List J3)(n:Nat):Prop where
 ra:∀k,k<n->∀i,i<rs.length->QI0 (el rs i) (Zy t k::Jb rs t vb k) k
 cf:∀k,k<n->∀i,i<rs.length->XN (el (Kc (el rs i) (Zy t k::Jb rs t vb k) k) k) 45000
def B1(l:List Rat):Nat:=l.foldr (λr q=>r.den*q) 1
def VI:∀l:List Rat,0<B1 l
 |[]=>bY
 |r::l=>ax r.den_pos (VI l)
theorem HM:∀ {l:List Rat} {r:Rat},r∈l->r.den ∣ B1 l
 |a::l,r,h=>by
  rcases List.mem_cons.1 h with rfl | h
  ·exact aq _ _
  exact aE (HM h) (aV _ _)
theorem T8:∀ {l:List Rat},(∀r∈l,JU r<=k)->sz ((B1 l:Nat):Int)<=l.length*k+1
 |[],_=>by rw[List.length_nil,bw];decide
 |r::l,h=>by
  have h1:=T8 λx hx=>h x (bG _ hx);have h2:sz (r.den:Int)<=k:=ao (Nat.le_max_right _ _) (h r wz);have h3:=K3 (r.den:Int) ((B1 l:Nat):Int);rw[<-aM]at h3;show sz ((r.den*B1 l:Nat):Int)<=_;rw[bz,aH];omega
structure SmS(Z T D m:Nat)(rs:List (List Tm)):Prop where
 Dt:∀p∈rs,∀u∈p,JU u.1<=Z/\Z6 u.2 (m+1)<=D/\u.2.length=m+1/\∀k∈u.2,0<=k/\k<=12
 len:∀p∈rs,p.length<=T
 hn:rs.length=m
def Ue(rs:List (List Tm)):List Rat:=rs.flatMap λp=>p.map (·.1)
theorem y5:∀ {rs:List (List Tm)},(∀p∈rs,p.length<=T)->(Ue rs).length<=rs.length*T
 |[],_=>ba _
 |p::rs,h=>by
  have h1:=y5 λx hx=>h x (bG _ hx);have h2:=h p wz;show(p.map (·.1)++Ue rs).length<=_;rw[aP,aA,bz,aH];omega
def jn(rs:List (List Tm))(l:List Rat):Nat:=60*(B1 (Ue rs)*B1 l)
def F9(rs:List (List Tm))(l:List Rat):0<jn rs l:=ax wu (ax (VI _) (VI _))
theorem QCh{rs:List (List Tm)}{l:List Rat}(h:SmS Z T D m rs)(hl:∀r∈l,JU r<=B):sz ((jn rs l:Nat):Int)<=8+m*T*Z+l.length*B:=by
 have h1:=T8 (l:=Ue rs) (k:=Z) λr hr=>by
  obtain⟨p,hp,hr⟩:=List.mem_flatMap.1 hr;obtain⟨u,hu,rfl⟩:=List.mem_map.1 hr;exact(h.Dt p hp u hu).1
 have h2:=T8 hl;have h3:=K3 ((60:Nat):Int) ((B1 (Ue rs)*B1 l:Nat):Int);have h4:=K3 ((B1 (Ue rs):Nat):Int) ((B1 l:Nat):Int);have h5:sz ((60:Nat):Int)=6:=wu;have h6:(Ue rs).length*Z<=m*T*Z:=ai _ (h.hn ▸ y5 h.len);rw[<-aM]at h3 h4;show sz ((60*(B1 (Ue rs)*B1 l):Nat):Int)<=_;omega
def QEe{rs:List (List Tm)}{l:List Rat}{r:Rat}(h:r∈l):r.den ∣ jn rs l:=aE (HM h) (aE (aV _ _) (aV _ _))
def Rw{r:Rat}(h0:0<Q)(hd:r.den ∣ Q)(hs:JU r<=B):Cl Q 1 B r:=Cl.of r h0 hd (ao (Nat.le_max_left _ _) hs)
def Iw{rs:List (List Tm)}{l:List Rat}{r:Rat}(h:r∈l)(hl:∀r∈l,JU r<=B):Cl (jn rs l) 1 B r:=Rw (F9 _ _) (QEe h) (hl r h)
def Fx(vb:List J3):List Rat:=vb.flatMap λs=>[s.1,s.2]
theorem TS:∀vb:List J3,(Fx vb).length=2*vb.length
 |[]=>rfl
 |a::vb=>by show([a.1,a.2]++Fx vb).length=_;rw[aP,TS vb,bz];simp;omega
def TR{x:J3}(h:x∈vb):x.1∈Fx vb/\x.2∈Fx vb:=⟨List.mem_flatMap.2 ⟨x,h,wz⟩,List.mem_flatMap.2 ⟨x,h,wz⟩⟩
def CW(h:∀x∈vb,XN x B):∀r∈Fx vb,JU r<=B:=λr hr=>by
 obtain⟨x,hx,hr⟩:=List.mem_flatMap.1 hr;simp only[bh,aU,or_false]at hr;rcases hr with rfl | rfl
 ·exact(h x hx).1
 exact(h x hx).2
theorem QAR{rs:List (List Tm)}{t:J3}{l:List Rat}(h:SmS Z T D m rs)(hv:vb.length=m)(ht:t.1∈l/\t.2∈l)(hb:∀x∈vb,x.1∈l/\x.2∈l)(hl:∀r∈l,JU r<=B)(hZ:Z<=B)(hn:n<=5):OO (jn rs l) B D T n rs t vb:=by
 subst hv;refine⟨F9 _ _,λk hk=>yo (F9 _ _) (aE ?_ (aq 60 _)),λi hi u hu=>?_,λi hi=>h.len _ (Qv hi),⟨Iw ht.1 hl,Iw ht.2 hl⟩,λx hx=>⟨Iw (hb x hx).1 hl,Iw (hb x hx).2 hl⟩,h.hn⟩
 ·have:k=0\/k=1\/k=2\/k=3\/k=4:=O;rcases this with rfl | rfl | rfl | rfl | rfl<;>decide
 have h1:=h.Dt _ (Qv hi) u hu;refine⟨Rw (F9 _ _) ?_ (ao h1.1 hZ),h1.2.1,h1.2.2.1,λk hk=>⟨(h1.2.2.2 k hk).1,wk<|(h1.2.2.2 k hk).2⟩⟩;refine aE (HM (l:=Ue rs) ?_) (aE (aq _ _) (aV _ _));exact List.mem_flatMap.2 ⟨_,Qv hi,bc (f:=λu:Tm=>u.1) hu⟩
theorem OO.rok{rs:List (List Tm)}{t:J3}(h:OO Q B D T n rs t vb)(hM:vL Q B D T n<=45000):QDL rs t vb n:=by
 have hM0:=hM;unfold vL at hM;have hq:∀u w:Nat,u<=w->u*sz (Q:Int)<=w*sz (Q:Int):=λu w g=>ai _ g;have hm:∀k,k<n->∀i,i<rs.length->∀u∈el rs i,∀v,v<=vb.length+1->E9 Q (D+1) (D*(B+(n+1))+T) (1+Z6 u.2 v) (B+Z6 u.2 v*(B+(n+1))) (Wl u.1 u.2 (Zy t k::Jb rs t vb k) k v):=λk hk i hi u hu v hv =>
  qQ h.q0 (L:=n+1) (h.Dt i hi u hu).1 (Em h O) O v (by rw[Yu];exact hv)
 have hs:∀i,i<rs.length->∀u∈el rs i,∀v,v<=vb.length+1->Z6 u.2 v<=D/\Z6 u.2 v*(B+(n+1))<=D*(B+(n+1)):=λi hi u hu v hv=>by
  have h1:=ao (Dm u.2 hv) (h.Dt i hi u hu).2.1;exact⟨h1,ai _ h1⟩
 have q1:=hq ((D+1)*n+(1+D)) ((D+1)*n+(D+2)) O;have q2:=hq ((D+1)*n+1) ((D+1)*n+(D+2)) O;have q3:=hq ((D+1)*n+(1+D+1)) ((D+1)*n+(D+2)) O;refine⟨λk hk i hi=>⟨λv hv=>(Em h (k:=k) O v hv).2,λu hu=>⟨by rw[Yu];exact(h.Dt i hi u hu).2.2.1,(h.Dt i hi u hu).2.2.2⟩,λu hu v hv j hj=>?_,λu hu=>?_,λj hj=>?_⟩,λk hk i hi=>?_⟩
 ·rw[Yu]at hv;have h1:=hm k hk i hi u hu v O;have h2:=Em h (k:=k) O v (by rw[Yu];exact hv);have h3:=qG h.q0 (L:=n+1) h1 h2.1 (by rw[Zg,h2.2];exact ae _) (by rw[Zg];omega) j;have h4:=hs i hi u hu (v+1) hv;have h5:Z6 u.2 v+j<=Z6 u.2 (v+1):=by show _<=Z6 u.2 v+_;omega
  have h6:Z6 u.2 v*(B+(n+1))+j*(B+(n+1))<=D*(B+(n+1)):=by rw[<-aH];exact ai _ O
  have h7:=h3.mono h.q0 (d':=1+D) (b':=B+D*(B+(n+1))) O O;have hlen:(DE (Wl u.1 u.2 (Zy t k::Jb rs t vb k) k v) (el (Zy t k::Jb rs t vb k) v) j).length=k+1:=by rw[WI,Zg]
  have e1:∀m,m<k+1->XN (el (DE (Wl u.1 u.2 (Zy t k::Jb rs t vb k) k v) (el (Zy t k::Jb rs t vb k) v) j) m) 45000:=λm hm=>h7.Sm h.q0 (n:=n) O O _ (Qv O);have e2:∀m,m<k+1->XN (el (el (Zy t k::Jb rs t vb k) v) m) 45000:=λm hm=>h2.1.Sm h.q0 (n:=n) O O _ (Qv O);refine⟨λm hmk=>⟨e1 m O,e2 m O⟩,λm hmk i2 hi2=>(KV (e1 i2 O) (e2 (m-i2) O)).mono wu,λm hmk i2 hi2=>?_⟩;have h8:=YQ.Sm h.q0 (Iv h.q0 h7 h2.1 hmk O i2 hi2);refine h8.mono ?_;have g1:(D*(B+(n+1))+T)*m<=(D*(B+(n+1))+T)*n:=aj _ O;have g2:((D+1)*m+(1+D+1))*sz (Q:Int)<=((D+1)*n+(1+D+1))*sz (Q:Int):=hq _ _ (by have:(D+1)*m<=(D+1)*n:=aj _ O;omega);omega
 ·rw[Yu];have h1:=hm k hk i hi u hu (vb.length+1) (ae _);have h4:=hs i hi u hu (vb.length+1) (ae _);exact(h1.mono h.q0 (d':=1+D) (b':=B+D*(B+(n+1))) O O).Sm h.q0 (n:=n) (by rw[Zg];omega) O
 ·have hT:=h.len i hi;have h1:=Nt h.q0 (L:=n+1) (D:=D) (p:=el rs i) (n:=k) (λu hu=>⟨(h.Dt i hi u hu).1,by rw[Yu];exact(h.Dt i hi u hu).2.1⟩) (Em h O) O j hj;exact h1.Sm h.q0 (n:=n) (by rw[Zq];omega) O
 have hT:=h.len i hi;have h1:=Nt h.q0 (L:=n+1) (D:=D) (p:=el rs i) (n:=k) (λu hu=>⟨(h.Dt i hi u hu).1,by rw[Yu];exact(h.Dt i hi u hu).2.1⟩) (Em h O) O (el rs i).length (ae _);rw[aT]at h1;exact h1.Sm h.q0 (n:=n) (by rw[Zq];omega) O _ (Qv (by rw[Zq];omega))
def QDk:∀(ks:List Int) (m:Nat),(∀k∈ks,0<=k)->ks.length=m->((Z6 ks m:Nat):Int)=ks.sum:=by
 intro ks;have key:∀(m:Nat) (ks:List Int),(∀k∈ks,0<=k)->m<=ks.length->((Z6 ks m:Nat):Int)=(ks.take m).sum:=by
  intro m
  induction m with
  |zero=>intro ks _ _;rw[List.take_zero];rfl
  |succ m ih =>
   intro ks h hm;show((Z6 ks m+(Qn ks m).toNat:Nat):Int)=_;rw[XU (show m<ks.length by omega),List.sum_append,Int.natCast_add,ih ks h O];have h1:=h (Qn ks m) (QFh O);have h2:el ks m=Qn ks m:=(Yr O).symm;rw[h2];simp;omega
 intro m h hl;rw[key m ks h O,<-hl,aT]
theorem EY{s:List UInt8}{d:Nat}(h:NA s d=true)(hz:10^d<=2^z):JU (Qo s)<=z:=by
 simp only[NA,ak,decide_eq_true_eq,beq_iff_eq]at h;obtain⟨_,hc,h1,h2⟩:=h;have hs:=(XH hc).1;generalize Qo s=x at hs;have key:∀n:Nat,(ar n).length<=d->n<2^z:=λn hn=>by
  have a:=HK (J0 n);rw[Xd]at a;exact bM (bM a (bJ wu hn)) hz
 have e:numOf (Js x)=Zi x.num:=by
  unfold numOf;by_cases h:x.den=1
  ·obtain⟨h1,h2⟩:=C2 h;rw[h2,aT,h1]
  exact(NU h).2.2.1
 rw[hs,e,QEw]at h1;have hn:sz x.num<=z:=(XO _ _).2 (key _ O);have hd:sz (x.den:Int)<=z:=by
  refine(XO _ _).2 ?_;rw[aR];by_cases g:x.den=1
  ·have:(1:Nat)<=10^d:=Nat.one_le_pow _ _ wu;have hx:d≠0:=by
    intro h0;have:=Vr x.num.natAbs;have h3:(ar x.num.natAbs).length≠0:=λq=>this (List.length_eq_zero_iff.1 q);omega
   have:1<10^d:=Nat.one_lt_pow hx wu;omega
  refine key _ ?_;rw[hs]at h2;unfold cw at h2;rw[if_neg λe=>g ((xk x).1 e),(NU g).2.2.2]at h2;omega
 exact Nat.max_le.2 ⟨hn,hd⟩
theorem uo{v:Int}{dd g:Nat}(h:jl y v dd g=true)(hz:10^g<=2^z)(hr:y.rl.length=y.rt.n):SmS z 4 dd y.rl.length y.rs/\(y.rl.length:Int)<=v:=by
 unfold jl at h;rw[ak,aC]at h;obtain⟨h0,h1⟩:=h;refine⟨⟨λp hp u hu=>?_,λp hp=>?_,by unfold X5.rs;rw[aA]⟩,by rw[hr];exact(pg h0).2.2.1⟩
 ·obtain⟨e,he,rfl⟩:=List.mem_map.1 hp;obtain⟨x,hx,rfl⟩:=List.mem_map.1 hu;have h2:=h1 e he;unfold fpB at h2;split at h2
  ·cases h2
  rename_i hg;rw[aS,List.any_eq_false]at h2;have h3:=h2 x hx;rw[Bool.not_eq_true,aB,aF,decide_eq_false_iff_not]at h3;have h4:Za (YG e.2) (y.rt.n:Int)=0:=by
   rcases Decidable.em (Za (YG e.2) (y.rt.n:Int)=0)with g | g
   ·exact g
   exact absurd (Or.inr g) hg
  have h5:=Wi ((H9 h4).term x hx);have hlen:x.2.length=y.rl.length+1:=wk h5.1;refine⟨EY h3.2 hz,?_,hlen,h5.2.1⟩;have h6:=QDk x.2 (y.rl.length+1) (λk hk=>(h5.2.1 k hk).1) hlen;show Z6 x.2 (y.rl.length+1)<=dd;have:=h3.1;omega
 obtain⟨e,he,rfl⟩:=List.mem_map.1 hp;have h2:=h1 e he;unfold fpB at h2;split at h2
 ·cases h2
 rename_i hg;have h3:¬((YG e.2).length:Int)>4:=λg=>hg (Or.inl g);unfold X9;rw[aA];omega
def SmS.mono{Z' D':Nat}{rs:List (List Tm)}(h:SmS Z T D m rs)(hZ:Z<=Z')(hD:D<=D'):SmS Z' T D' m rs:=⟨λp hp u hu=>⟨ao (h.Dt p hp u hu).1 hZ,ao (h.Dt p hp u hu).2.1 hD,(h.Dt p hp u hu).2.2⟩,h.len,h.hn⟩
structure QIv(rs:List (List Tm))(fr t2:Rat)(x on:List J3)(n:Nat):Prop where
 y1:QDL rs (fr,fr) x n
 y2:QDL rs (fr,t2) on (n+1)
 e1:∀i,i<x.length->∀k,k<=n->XN (el (el (Jb rs (fr,fr) x n) i) k) 45000
 e2:∀i,i<x.length->XN (el (el (Jb rs (fr,t2) on (n+1)) i) (n+1)) 45000
 su:∀i,i<x.length->∀k,k<=n+1->XN (G8 (el (Jb rs (fr,fr) x n) i) (t2-fr) k) 100000
 pw:∀k,k<=n+1->JU ((t2-fr)^k)<=45000
 hh:JU (t2-fr)<=45000
 tm:JU fr<=100000/\JU t2<=100000
def gU{rs:List (List Tm)}:(Xy rs fr t2 x on n).length=x.length:=by simp[Xy]
structure SmY(y:X5)(m:Nat):Prop where
 s:SmS 20 4 3 m y.rs
 rl:y.rl.length=m
 pl:∀e∈y.rl,e.2.length=e.1.n/\e.1.n<=1000/\∀t∈e.2,Jk t.f=0
structure ShB(m:Nat)(x:List J3):Prop where
 len:x.length=m
 sz:∀a∈x,XN a 160
 ord:E2 x
theorem SmS.po{rs:List (List Tm)}(h:SmS Z T D m rs){i:Nat}(hi:i<rs.length):gJ Z D T (m+1) (el rs i) :=
 ⟨h.len _ (Qv hi),λu hu=>(h.Dt _ (Qv hi) u hu).1,λu hu=>(h.Dt _ (Qv hi) u hu).2.1,λu hu=>(h.Dt _ (Qv hi) u hu).2.2.1,λu hu k hk=>(h.Dt _ (Qv hi) u hu).2.2.2 k hk⟩
def SmS.fit{rs:List (List Tm)}(h:SmS Z T D m rs){k:Nat}(hk:k=m):jk rs k:=by
 subst hk;intro i hi t ht;have h1:=h.Dt _ (Qv (show i<rs.length by rw[h.hn];exact hi)) t ht;exact⟨by rw[h1.2.2.1];exact ae _,λk hk=>(h1.2.2.2 k hk).1⟩
def UH{a d:Nat}(h:a<=c)(k:b<=d):a*b<=c*d:=aQ h k
section
variable{y:X5}{m n:Nat}{fr t2:Rat}{x on:List J3}(h:SmY y m)(hm:m<=2)(hx:ShB m x)(ho:ShB m on)(hf:JU fr<=56)(ht:JU t2<=56)(hlt:fr<=t2)(hn:n<=3)
def dU(fr t2:Rat)(x on:List J3):List Rat:=fr::t2::(Fx x++Fx on)
include h hm hx ho hf ht hlt hn
omit h hm hlt hn in
theorem QCc:∀r∈dU fr t2 x on,JU r<=160:=λr hr=>by
 rcases List.mem_cons.1 hr with rfl | hr
 ·omega
 rcases List.mem_cons.1 hr with rfl | hr
 ·omega
 rcases List.mem_append.1 hr with hr | hr
 ·exact CW hx.sz r hr
 exact CW ho.sz r hr
omit hlt hn in
theorem QGk:sz ((jn y.rs (dU fr t2 x on):Nat):Int)<=1768:=by
 have h1:=QCh h.s (QCc hx ho hf ht)
 have h2:(dU fr t2 x on).length<=10:=by
  show(Fx x++Fx on).length+1+1<=10
  rw[aP,TS,TS,hx.len,ho.len];omega
 have h3:=UH h2 (ae 160)
 have h4:m*4*20<=2*4*20:=UH (UH hm (ae 4)) (ae 20)
 omega
omit hm hlt in
theorem QGl:OO (jn y.rs (dU fr t2 x on)) 160 3 4 (n+1) y.rs (fr,fr) x/\OO (jn y.rs (dU fr t2 x on)) 160 3 4 (n+1) y.rs (fr,t2) on/\Cl (jn y.rs (dU fr t2 x on)) 1 (160+1) (t2-fr):=by
 have hs:=QCc hx ho hf ht
 have m1:fr∈dU fr t2 x on:=.head _
 have m2:t2∈dU fr t2 x on:=.tail _ (.head _)
 refine⟨QAR h.s hx.len ⟨m1,m1⟩ (λa ha=>?_) hs wu O,QAR h.s ho.len ⟨m1,m2⟩ (λa ha=>?_) hs wu O,?_⟩
 ·have:=TR ha
  exact⟨.tail _ (.tail _ (bH _ this.1)),.tail _ (.tail _ (bH _ this.2))⟩
 ·have:=TR ha
  exact⟨.tail _ (.tail _ (bF _ this.1)),.tail _ (.tail _ (bF _ this.2))⟩
 rw[bj]
 exact Cl.add (F9 _ _) (Iw m2 hs) (Iw m1 hs).neg
omit h hm hx ho hf ht hlt in
theorem smM{q:Nat}{Q:Nat}(hq:sz ((Q:Nat):Int)<=1768):vL Q 160 3 4 (n+1)<=45000/\Im Q 160 3 4 n<=45000:=by
 obtain rfl | rfl | rfl | rfl:n=0\/n=1\/n=2\/n=3:=O
 all_goals
  unfold vL Im jW jx bE
  omega
theorem QGP:QIv y.rs fr t2 x on n/\(∀a∈Xy y.rs fr t2 x on n,XN a 45000)/\Cg y.rs fr t2 x on n:=by
 have hq:=QGk h hm hx ho hf ht;obtain⟨c1,c2,c3⟩:=QGl h hx ho hf ht hn;have hM:=smM (n:=n) (q:=0) hn hq;generalize jn y.rs (dU fr t2 x on)=Q at hq c1 c2 c3 hM;obtain⟨hM,hT⟩:=hM;have hM0:=hM;have hs:=c1.q0;have r1:=c1.rok hM;have r2:=c2.rok hM;have hl:on.length=x.length:=by rw[ho.len,hx.len]
 unfold vL at hM0;have q1:((3+1)*(n+1)+1)*sz (Q:Int)<=((3+1)*(n+1)+(3+2))*sz (Q:Int):=ai _ O;have sz1:∀(t:Rat×Rat) (z:List (Rat×Rat)),OO Q 160 3 4 (n+1) y.rs t z->∀m,m<=n+1->∀i,i<z.length->∀k,k<=m->XN (el (el (Jb y.rs t z m) i) k) 45000:=λt z hz m hm i hi k hk =>
  (P7 hz m hm i hi).Sm hs (n:=n+1) (by rw[Zj y.rs _ z m hi];omega) O _ (Qv (by rw[Zj y.rs _ z m hi];omega))
 have hT0:=hT;unfold Im jW jx at hT;refine⟨⟨⟨λk hk=>r1.ra k O,λk hk=>r1.cf k O⟩,r2,λi hi k hk=>sz1 _ x c1 n O i hi k hk,λi hi=>sz1 _ on c2 (n+1) (ae _) i O (n+1) (ae _),λi hi k hk=>?_,λk hk=>?_,?_,⟨O,O⟩⟩,λs hs2=>?_,(Il c1 c2 c3 hl O O O).1⟩
 ·have h1:=(Cy c1 c3 hi k hk).Sm hs;refine h1.mono ?_;have g1:bE 160 3 4 n*n<=bE 160 3 4 n*(n+1):=aj _ O;have g2:((3+2)*n+1)*sz (Q:Int)<=((3+2)*(n+1)+1)*sz (Q:Int):=ai _ O;omega
 ·have h1:=(c3.pow hs k).JU hs;have g1:k*(160+1)<=(n+1)*(160+1):=ai _ hk;have g2:k*sz (Q:Int)<=(n+1)*sz (Q:Int):=ai _ hk;have g3:(n+1)*sz (Q:Int)<=4*1768:=UH O hq;omega
 ·have h1:=c3.JU hs;omega
 have h1:=(Cx c1 c2 c3 hl s hs2).Sm hs;refine h1.mono ?_;unfold jW jx;omega
theorem QEL:MvC 20 3 4 m 56 y.rs fr t2:=⟨λi hi=>h.s.po hi,h.s.hn,hf,ht⟩
theorem QFb:jv y.rs fr t2 x on:=SH (X:=160) (S:=160) (QEL h hm hx ho hf ht hlt hn) hx.len ho.len hx.sz ho.sz wu O wu wu wu wu wu
end
theorem QEZ{v:Int}{dd g:Nat}(hl:ve y)(hr:y.rl.length=y.rt.n)(hyo:vK y)(hs:shS y=true)(h:jl y v dd g=true)(hz:10^g<=2^z)(h2:z<=20)(h3:dd<=3):SmY y y.rl.length/\(y.rl.length:Int)<=v:=by
 have h1:=uo h hz hr;refine⟨⟨h1.1.mono h2 h3,rfl,λe he=>⟨(hl.rl e he).1,?_,λt ht=>?_⟩⟩,h1.2⟩
 ·unfold shS at hs;simp only[ak,aC]at hs;have h2:=hs.2.1 e he;unfold shP at h2;simp only[ak,aS,decide_eq_false_iff_not]at h2;omega
 have h2:=hyo.pl e he;exact(Wi (h2.term (t.f,t.k) (bc (f:=λt:E6=>(t.f,t.k)) ht))).2.2.2
def xM{c:Sr}{v:List J3}{F:Gs}(h:v.length=c.n)(hn:c.n<=1000000)(hz:∀a∈v,XN a 100000):GZ c (He v):=⟨hn,λs hs=>by
 obtain⟨a,ha,rfl⟩:=List.mem_map.1 hs;have h1:=hz a ha;have h2:=UQ a.1;have h3:=UQ a.2;have:=h1.1;have:=h1.2;exact⟨by show(Js a.1).length<=_;omega,by show(Js a.2).length<=_;omega⟩⟩
def dX(a:Int):Cb .neq (.int .i64 a) (.int .i64 a)=some (.bool false):=by simp[Cb]
theorem QGV{t:J3}(h:SmY y m)(hm:m<=2)(hx:ShB m x)(ht:JU t.1<=56/\JU t.2<=56)(hn:n<=4):QDL y.rs t x n/\SB y.rs t x n/\∀b∈Jb y.rs t x n,∀a∈b,XN a 45000:=by
 have hs:∀r∈t.1::t.2::Fx x,JU r<=160:=λr hr=>by
  rcases List.mem_cons.1 hr with rfl | hr
  ·omega
  rcases List.mem_cons.1 hr with rfl | hr
  ·omega
  exact CW hx.sz r hr
 have h1:=QCh h.s hs;have h2:(t.1::t.2::Fx x).length<=6:=by
  show(Fx x).length+1+1<=6;rw[TS,hx.len];omega
 have h3:=UH h2 (ae 160);have h4:m*4*20<=2*4*20:=UH (UH hm (ae 4)) (ae 20);have hq:sz ((jn y.rs (t.1::t.2::Fx x):Nat):Int)<=1128:=O;have hc:=QAR (n:=n) h.s hx.len (t:=t) ⟨.head _,.tail _ (.head _)⟩ (λa ha=>⟨.tail _ (.tail _ (TR ha).1),.tail _ (.tail _ (TR ha).2)⟩) hs wu O;generalize jn y.rs (t.1::t.2::Fx x)=Q at hq hc;have hM:vL Q 160 3 4 n<=45000:=by
  obtain rfl | rfl | rfl | rfl | rfl:n=0\/n=1\/n=2\/n=3\/n=4:=O
  all_goals
   unfold vL;omega
 refine⟨hc.rok hM,hc.ok O,λb hb a ha=>?_⟩;obtain⟨i,hi,rfl⟩:=aD hb;rw[<-JW hi]at ha;rw[Zp]at hi;unfold vL at hM;have q1:((3+1)*n+1)*sz (Q:Int)<=((3+1)*n+(3+2))*sz (Q:Int):=ai _ O;exact(P7 hc n (ae _) i hi).Sm hc.q0 (n:=n) (by rw[Zj y.rs _ x n hi];omega) O _ ha
structure QHw(n:Nat) where
 i:Nat
 le:i<=n
theorem Cl.ji{x y:Rat}(hx:Cl D 1 b x)(hy:Cl E 1 c y):Cl (D*E) 1 (b+c) (x*y):=by
 obtain⟨z,rfl,h1⟩:=hx;obtain⟨u,rfl,h2⟩:=hy;rw[av]at h1 h2;refine⟨z*u,?_,?_⟩
 ·rw[Rat.divInt_mul_divInt,av,av,av,aM]
 rw[bT,av,bK]
 calc z.natAbs*u.natAbs<=(2^b*D)*(2^c*E):=aQ h1 h2
  _=2^b*2^c*(D*E):=by ac_rfl
theorem Cl.dvd{x:Rat}(h:Cl D 1 b x)(h0:0<E)(hd:D ∣ E)(hb:b<=c):Cl E 1 c x:=by
 obtain⟨k,rfl⟩:=hd;obtain⟨z,rfl,h1⟩:=h;have hk:(k:Int)≠0:=by rintro hk;simp only[Int.natCast_eq_zero]at hk;subst hk;simp at h0
 refine⟨z*k,?_,?_⟩
 ·rw[av,av,aM,Rat.divInt_mul_right hk]
 rw[av]at h1 ⊢;rw[bT,aR,<-Nat.mul_assoc];exact aQ (ao h1 (ai _ (bJ wu hb))) (ae _)
def Cl.QGg{x:Rat}(h:Cl E 1 b x):∀k,Cl (E^k) 1 (k*b) (x^k)
 |0=>by rw[Rat.pow_zero,bw,bU];exact .one 1 0 bY
 |k+1=>by
  rw[Rat.pow_succ,aH,bZ,bV];exact(Cl.QGg h k).ji h
def YQ.ji{x y:Rat×Rat}(h:YQ D 1 b x)(k:YQ E 1 c y):YQ (D*E) 1 (b+c) (Jg x y):=by
 have h11:=h.1.ji k.1;have h12:=h.1.ji k.2;have h21:=h.2.ji k.1;have h22:=h.2.ji k.2;exact Pa (P:=Cl (D*E) 1 (b+c)) _ _ h11 h11 λz hz=>by
  simp only[bh,aU,or_false]at hz;rcases hz with rfl | rfl | rfl<;>assumption
def YQ.dvd{x:J3}(h:YQ D 1 b x)(h0:0<E)(hd:D ∣ E)(hb:b<=c):YQ E 1 c x:=⟨h.1.dvd h0 hd hb,h.2.dvd h0 hd hb⟩
def vH(N:Nat->Nat)(be b:Nat)(a:List J3):Prop:=∀k,k<a.length->YQ (N k) 1 (be*k+b) (el a k)
section
variable{N M R:Nat->Nat}{be b c:Nat}{a a':List J3}
def QHo(ha:vH N be b a)(hb:vH M be c a')(h0:∀k,0<R k)(hR:∀i j,N i*M j ∣ R (i+j)){k:Nat}(hk:k<a.length)(hl:a.length<=a'.length):∀i,i<=k+1->YQ (R k) 1 (be*k+(b+c)+i) (Gc a a' k i):=by
 intro i
 induction i with
 |zero=>intro _;exact YQ.zero (h0 k)
 |succ i ih =>
  intro hi;rw[Mb];have h1:=ih O;have h2:=YQ.ji (ha i O) (hb (k-i) O);have h3:=hR i (k-i);rw[show i+(k-i)=k by omega]at h3;have e2:be*i+be*(k-i)=be*k:=by rw[<-ee];congr 1;omega
  exact YQ.add (h0 k) h1 (h2.dvd (h0 k) h3 (c:=be*k+(b+c)+i) O)
def QGO(ha:vH N be b a)(hb:vH M be c a')(h0:∀k,0<R k)(hR:∀i j,N i*M j ∣ R (i+j))(hl:a.length<=a'.length)(hL:a.length<=L):vH R be (b+c+L) (WD a a'):=λk hk=>by
 rw[MD]at hk;unfold WD;rw[Yj _ hk];exact(QHo ha hb h0 hR hk hl (k+1) (ae _)).mono (h0 k) (ae _) O
def QHc(h0:∀k,0<R k)(ha:vH R be b a)(hb:vH R be b a')(hl:a.length<=a'.length):vH R be (b+1) (Hq a a'):=λk hk=>by
 rw[MK]at hk;unfold Hq;rw[Yj _ hk];exact YQ.add (h0 k) (ha k hk) (hb k O)
def QHn{r:Rat}(h0:∀k,0<N k)(h:Cl (N 0) 1 b r):vH N be b (Hx r n):=λk hk=>by
 rw[GS]at hk
 match k,hk with
 |0,_=>show YQ (N 0) 1 (be*0+b) (r,r);rw[aX,aN];exact⟨h,h⟩
 |k+1,hk =>
  have e1:el (Hx r n) (k+1)=(0,0):=by rw[JW (by rw[GS];exact hk)];simp[Hx]
  rw[e1];exact YQ.zero (h0 _)
def QIk{t:J3}(h0:∀k,0<N k)(h:YQ (N 0) 1 b t):vH N be b (Zy t n):=λk hk=>by
 rw[GV]at hk
 match n,k,hk with
 |0,0,_=>show YQ (N 0) 1 (be*0+b) t;rw[aX,aN];exact h
 |n+1,0,_=>show YQ (N 0) 1 (be*0+b) t;rw[aX,aN];exact h
 |n+1,1,_=>exact⟨.one _ _ (h0 _),.one _ _ (h0 _)⟩
 |n+1,k+2,hk =>
  have e1:el (Zy t (n+1)) (k+2)=(0,0):=by rw[JW (by rw[GV];exact hk)];simp[Zy]
  rw[e1];exact YQ.zero (h0 _)
def vH.dvd(h:vH N be b a)(h0:∀k,0<M k)(hd:∀k,N k ∣ M k)(hb:b<=c):vH M be c a:=λk hk=>(h k hk).dvd (h0 k) (hd k) O
end
def sN(G E al k:Nat):Nat:=G^k*E^(al*k+1)
def mN(F G E al s k:Nat):Nat:=F*(G^k*E^(al*k+s))
section
variable{F G E al:Nat}(hF:0<F)(hG:0<G)(hE:0<E)
include hG hE
theorem QAq(k:Nat):0<sN G E al k:=ax (aG hG) (aG hE)
include hF
theorem Lv(s k:Nat):0<mN F G E al s k:=ax hF (ax (aG hG) (aG hE))
omit hF hG hE in
theorem QGs(s i j:Nat):mN F G E al s i*sN G E al j ∣ mN F G E al (s+1) (i+j):=by
 have e:mN F G E al s i*sN G E al j=mN F G E al (s+1) (i+j):=by
  unfold mN sN
  rw[show al*(i+j)+(s+1)=(al*i+s)+(al*j+1) by rw[ee];omega,bK G i j,bK E (al*i+s) (al*j+1)]
  ac_rfl
 rw[e];exact aK _
omit hF hG hE in
theorem QFX{s u:Nat}(h:s<=u)(k:Nat):mN F G E al s k ∣ mN F G E al u k :=
 aZ (aK _) (aZ (aK _) (aY E O))
variable{be:Nat}
theorem QIb{s:Nat}{y z:List J3}(hy:vH (mN F G E al s) be b y)(hz:vH (sN G E al) be B z)(hl:y.length<=z.length)(hL:y.length<=L):∀i,vH (mN F G E al (s+i)) be (b+i*(B+L)) (DE y z i):=by
 intro i
 induction i with
 |zero=>rw[bD,bw,bD];exact hy
 |succ i ih =>
  rw[Pd];have h1:=QGO (L:=L) ih hz (Lv hF hG hE (s+i+1)) (QGs (s+i)) (by rw[WI];exact hl) (by rw[WI];exact hL);exact h1.dvd (Lv hF hG hE _) (λk=>aK _) (by rw[aH];omega)
theorem QIg{r:Rat}{ks:List Int}{all:List (List J3)}(hr:Cl F 1 B r)(ha:∀v,v<all.length->vH (sN G E al) be B (el all v)/\(el all v).length=n+1)(hL:n+1<=L):∀v,v<=all.length->vH (mN F G E al (Z6 ks v)) be (B+Z6 ks v*(B+L)) (Wl r ks all n v):=by
 intro v
 induction v with
 |zero =>
  intro _;show vH (mN F G E al 0) be (B+0*(B+L)) (Hx r n);rw[bw,bD];refine QHn (Lv hF hG hE 0) ?_;have e:mN F G E al 0 0=F:=by simp[mN]
  rw[e];exact hr
 |succ v ih =>
  intro hv;have h1:=ha v hv;rw[Pf];have h2:=QIb hF hG hE (L:=L) (ih O) h1.1 (by rw[Zg,h1.2];exact ae _) (by rw[Zg];exact hL) (Qn ks v).toNat;refine h2.dvd (Lv hF hG hE _) (λk=>aK _) ?_;show B+Z6 ks v*(B+L)+_<=B+(Z6 ks v+_)*(B+L);rw[aH];omega
theorem QHZ{p:List Tm}{all:List (List J3)}(hp:∀u∈p,Cl F 1 B u.1/\Z6 u.2 all.length<=D)(ha:∀v,v<all.length->vH (sN G E al) be B (el all v)/\(el all v).length=n+1)(hL:n+1<=L):∀j,j<=p.length->vH (mN F G E al D) be (B+D*(B+L)+j) (Kc (p.take j) all n):=by
 intro j
 induction j with
 |zero=>intro _;exact QHn (Lv hF hG hE D) (.zero 1 _)
 |succ j ih =>
  intro hj;have hu:=hp _ (Qv hj);rw[MJ hj];have h1:=QIg hF hG hE (ks:=(el p j).2) hu.1 ha hL all.length (ae _);have h2:Z6 (el p j).2 all.length*(B+L)<=D*(B+L):=ai _ hu.2;exact QHc (Lv hF hG hE D) (ih O) (h1.dvd (Lv hF hG hE D) (QFX hu.2) (c:=B+D*(B+L)+j) O) (by rw[Zq,Zg];exact ae _)
end
structure TyD(F I E B al T n:Nat)(rs:List (List Tm))(t:J3)(vb:List J3):Prop where
 f0:0<F
 i0:0<I
 e0:0<E
 inv:∀k,k<n->k+1 ∣ I
 Dt:∀i,i<rs.length->∀u∈el rs i,Cl F 1 B u.1/\Z6 u.2 (vb.length+1)<=al+1
 len:∀i,i<rs.length->(el rs i).length<=T
 tm:YQ E 1 B t
 box:∀x∈vb,YQ E 1 B x
 hn:rs.length=vb.length
def ue(B al T n:Nat):Nat:=(al+1)*(B+(n+1))+T
section
variable{F I E B al T n:Nat}{rs:List (List Tm)}{t:J3}{vb:List J3}(h:TyD F I E B al T n rs t vb)
include h
theorem TyD.g0:0<F*I:=ax h.f0 h.i0
theorem QGU:∀k,k<=n->∀i,i<vb.length->vH (sN (F*I) E al) (ue B al T n) B (el (Jb rs t vb k) i):=by
 intro k;have e0:sN (F*I) E al 0=E:=by unfold sN;rw[aX,aN,bU,av,bZ]
 induction k with
 |zero =>
  intro _ i hi;have e1:el (Jb rs t vb 0) i=[el vb i]:=by
   show el (vb.map λx=>[x]) i=_;rw[JW (by rw[aA];exact hi),List.getElem_map,JW hi]
  rw[e1];intro j hj;have hj0:j=0:=by simpa using hj
  subst hj0;rw[e0,aX,aN];exact h.box _ (Qv hi)
 |succ k ih =>
  intro hk i hi;have ih:=ih O;have e1:el (Jb rs t vb (k+1)) i=el (Jb rs t vb k) i++[Jg (el (Kc (el rs i) (Zy t k::Jb rs t vb k) k) k) ((((k+1:Nat):Int):Rat)⁻¹,(((k+1:Nat):Int):Rat)⁻¹)]:=by
   rw[Jb,Yj _ hi]
  have hl:(el (Jb rs t vb k) i).length=k+1:=Zj rs t vb k hi;have ha:∀v,v<(Zy t k::Jb rs t vb k).length->vH (sN (F*I) E al) (ue B al T n) B (el (Zy t k::Jb rs t vb k) v)/\(el (Zy t k::Jb rs t vb k) v).length=k+1:=λv hv=>by
   rw[Yu]at hv
   match v,hv with
   |0,_=>exact⟨QIk (QAq h.g0 h.e0) (by rw[e0];exact h.tm),GV t k⟩
   |v+1,hv=>exact⟨ih v O,Zj rs t vb k O⟩
  rw[e1];intro j hj;rw[aP,hl]at hj;rcases Nat.lt_or_ge j (k+1)with g | g
  ·rw[SK O];exact ih i hi j O
  have hjk:j=k+1:=by simp at hj;omega
  subst hjk;rw[W6 hl];have hir:i<rs.length:=by rw[h.hn];exact hi
  have h1:=QHZ h.f0 h.g0 h.e0 (L:=n+1) (D:=al+1) (p:=el rs i) (λu hu=>⟨(h.Dt i hir u hu).1,by rw[Yu];exact(h.Dt i hir u hu).2⟩) ha O (el rs i).length (ae _);rw[aT]at h1;have h2:=h1 k (by rw[Zq];omega);have hT:=h.len i hir;have hi1:Cl I 1 0 ((((k+1:Nat):Int):Rat)⁻¹):=yo h.i0 (h.inv k O);have h3:=YQ.ji h2 (y:=((((k+1:Nat):Int):Rat)⁻¹,(((k+1:Nat):Int):Rat)⁻¹)) ⟨hi1,hi1⟩;refine h3.dvd (QAq h.g0 h.e0 _) ?_ ?_
  ·have e:mN F (F*I) E al (al+1) k*I=sN (F*I) E al (k+1):=by
    unfold mN sN;rw[bV,bW,Nat.add_assoc]
    ac_rfl
   rw[e];exact aK _
  rw[bW];unfold ue;omega
omit h in
theorem vf(Q k:Nat):sz ((Q^k:Nat):Int)<=k*sz ((Q:Nat):Int)+1:=by rw[Int.natCast_pow];exact Bw _ _
omit h in
theorem xY(a b:Nat):sz ((a*b:Nat):Int)<=sz ((a:Nat):Int)+sz ((b:Nat):Int):=by rw[aM];exact K3 _ _
theorem QCP{g e:Nat}(hg:sz ((F*I:Nat):Int)<=g)(he:sz ((E:Nat):Int)<=e)(hm:m<=n):∀b∈Jb rs t vb m,∀x∈b,XN x (ue B al T n*m+B+(m*g+(al*m+1)*e+2)+2):=λb hb x hx=>by
 obtain⟨i,hi,rfl⟩:=aD hb;rw[<-JW hi]at hx;rw[Zp]at hi;obtain⟨k,hk,rfl⟩:=aD hx;rw[<-JW hk];have h1:=YQ.Sm (QAq h.g0 h.e0 k) (QGU h m hm i hi k hk);rw[Zj rs t vb m hi]at hk;refine h1.mono ?_;have h2:=xY ((F*I)^k) (E^(al*k+1));have h3:=vf (F*I) k;have h4:=vf E (al*k+1);have h5:k*sz ((F*I:Nat):Int)<=m*g:=aQ O hg;have h6:(al*k+1)*sz ((E:Nat):Int)<=(al*m+1)*e:=aQ (bO (aj _ O)) he;have h7:ue B al T n*k<=ue B al T n*m:=aj _ O;show ue B al T n*k+B+1*sz ((sN (F*I) E al k:Nat):Int)+2<=_;unfold sN;omega
end
theorem QCK{F I E E' H C al:Nat}{rs:List (List Tm)}(hx:TyD F I E B al T (n+1) rs (fr,fr) x)(ho:TyD F I E' B al T (n+1) rs (fr,t2) on)(h0:0<H)(hh:Cl H 1 C (t2-fr))(hl:on.length=x.length){g e e' h:Nat}(hg:sz ((F*I:Nat):Int)<=g)(he:sz ((E:Nat):Int)<=e)(he':sz ((E':Nat):Int)<=e')(hH:sz ((H:Nat):Int)<=h):
  ∀s∈Xy rs fr t2 x on n,XN s ((ue B al T (n+1)+C)*(n+1)+B+n+2+((n+1)*g+(n+1)*h+(al*n+1)*e+(al*(n+1)+1)*e'+4)+2):=λs hs=>by
 have hlen:(Xy rs fr t2 x on n).length=x.length:=by simp[Xy]
 obtain⟨i,hi,rfl⟩:=aD hs;rw[<-JW hi];rw[hlen]at hi;rw[Cw hi];have hG:=hx.g0;generalize hGe:F*I=G at hG hg;let R:=((G^(n+1)*H^(n+1))*E^(al*n+1))*E'^(al*(n+1)+1);have hR0:0<R:=ax (ax (ax (aG hG) (aG h0)) (aG hx.e0)) (aG ho.e0);have hsum:∀k,k<=n+1->YQ R 1 ((ue B al T (n+1)+C)*(n+1)+B+k) (G8 (el (Jb rs (fr,fr) x n) i) (t2-fr) k):=by
  intro k
  induction k with
  |zero=>intro _;exact YQ.zero hR0
  |succ k ih =>
   intro hk;have h1:=QGU hx n O i hi k (by rw[Zj rs _ x n hi];exact hk);rw[hGe]at h1;have h2:=h1.ji (YQ.pt (hh.QGg k));rw[Dl];refine YQ.add hR0 (ih O) (h2.dvd hR0 (c:=(ue B al T (n+1)+C)*(n+1)+B+k) ?_ ?_)
   ·show sN G E al k*H^k ∣ R;have d1:(G^k*H^k)*E^(al*k+1) ∣ (G^(n+1)*H^(n+1))*E^(al*n+1):=aZ (aZ (aY G O) (aY H O)) (aY E (bO (aj _ O)));have e1:sN G E al k*H^k=(G^k*H^k)*E^(al*k+1):=by unfold sN;ac_rfl
    rw[e1];exact aE d1 (aq _ _)
   have e1:ue B al T (n+1)*k+k*C=(ue B al T (n+1)+C)*k:=by rw[aH,bX k]
   have:(ue B al T (n+1)+C)*k<=(ue B al T (n+1)+C)*(n+1):=aj _ O;omega
 have h1:=hsum (n+1) (ae _);have h2:YQ R 1 ((ue B al T (n+1)+C)*(n+1)+B) (Jg (el (el (Jb rs (fr,t2) on (n+1)) i) (n+1)) ((t2-fr)^(n+1),(t2-fr)^(n+1))):=by
  have h1:=QGU ho (n+1) (ae _) i O (n+1) (by rw[Zj rs _ on (n+1) O];omega);rw[hGe]at h1;have h2:=h1.ji (YQ.pt (hh.QGg (n+1)));refine h2.dvd hR0 ?_ (by rw[aH (ue B al T (n+1)),bX (n+1) C];omega);have e1:R=(sN G E' al (n+1)*H^(n+1))*E^(al*n+1):=by
   show((G^(n+1)*H^(n+1))*E^(al*n+1))*E'^(al*(n+1)+1)=_;unfold sN;ac_rfl
  rw[e1];exact aq _ _
 have h3:=YQ.Sm hR0 (YQ.add hR0 h1 (h2.dvd hR0 (aK _) O));refine h3.mono ?_;have a1:=xY ((G^(n+1)*H^(n+1))*E^(al*n+1)) (E'^(al*(n+1)+1));have a2:=xY (G^(n+1)*H^(n+1)) (E^(al*n+1));have a3:=xY (G^(n+1)) (H^(n+1));have b1:=vf G (n+1);have b2:=vf H (n+1);have b3:=vf E (al*n+1);have b4:=vf E' (al*(n+1)+1);have c1:(n+1)*sz ((G:Nat):Int)<=(n+1)*g:=aj _ hg;have c2:(n+1)*sz ((H:Nat):Int)<=(n+1)*h:=aj _ hH;have c3:(al*n+1)*sz ((E:Nat):Int)<=(al*n+1)*e:=aj _ he;have c4:(al*(n+1)+1)*sz ((E':Nat):Int)<=(al*(n+1)+1)*e':=aj _ he';show(ue B al T (n+1)+C)*(n+1)+B+(n+1)+1+1*sz ((R:Nat):Int)+2<=_;show _+1*sz (((((G^(n+1)*H^(n+1))*E^(al*n+1))*E'^(al*(n+1)+1):Nat)):Int)+2<=_;omega
theorem qi{d:Nat}(h:Uz (d:Int) s=true):Jk s.1=0/\Jk s.2=0/\NA s.1 d=true/\NA s.2 d=true/\Qo s.1<=Qo s.2:=by
 unfold Uz at h;simp only[ak,aS,decide_eq_false_iff_not]at h;refine⟨EX h.1,EX h.2.1,h.1,h.2.1,Rat.not_lt.1 λk=>h.2.2 ((WV _ _).2 k)⟩
def QBt{d:Nat}(h:Uz (d:Int) s=true):XX s.1 s.2=0:=by
 obtain⟨h1,h2,_,_,h5⟩:=qi h;have e1:=XH h1;have e2:=XH h2;rw[e1.1,e2.1];exact Un e1.2 e2.2 h5
theorem SJ{d:Nat}(h:l.all (Uz (d:Int))=true)(hz:10^d<=2^z):YN l.length l=0/\E2 (lV l)/\(∀a∈lV l,XN a z):=by
 rw[aC]at h;refine⟨?_,λi hi=>?_,λa ha=>?_⟩
 ·unfold YN;rw[if_neg O];have key:∀m:List (List UInt8×List UInt8),(∀s∈m,Uz (d:Int) s=true)->Qu (m.map λs=>XX s.1 s.2)=0:=by
   intro m
   induction m with
   |nil=>intro _;rfl
   |cons s m ih =>
    intro hm;rw[List.map_cons,QBt (hm s (.head _)),Zm];exact ih λx hx=>hm x (.tail _ hx)
  exact key l h
 ·obtain⟨s,hs,e⟩:=List.mem_map.1 (Qv hi);have e':Q8 s=el (lV l) i:=e;rw[<-e'];exact(qi (h s hs)).2.2.2.2
 obtain⟨s,hs,rfl⟩:=List.mem_map.1 ha;have h1:=qi (h s hs);exact⟨EY h1.2.2.1 hz,EY h1.2.2.2.1 hz⟩
theorem qY(v:List J3):lV (He v)=v:=by
 unfold lV He;rw[bC];have e:(Q8∘λa:J3=>(Js a.1,Js a.2))=id:=by
  funext a;show(Qo (Js a.1),Qo (Js a.2))=a;rw[jw,jw]
 rw[e,List.map_id]
theorem IH{v:List J3}(hl:v.length=n)(hz:∀a∈v,XN a 1800)(ho:E2 v):YN n (He v)=0:=by
 unfold YN;rw[if_neg (by rw[Mm];omega)];have key:∀u:List J3,(∀a∈u,XN a 1800/\a.1<=a.2)->Qu ((He u).map λs=>XX s.1 s.2)=0:=by
  intro u
  induction u with
  |nil=>intro _;rfl
  |cons a u ih =>
   intro hu;have h1:=hu a (.head _);have h2:XX (Js a.1) (Js a.2)=0:=Un (SI h1.1.1 (ae _)) (SI h1.1.2 (ae _)) h1.2;show Qu (XX (Js a.1) (Js a.2)::(He u).map λs=>XX s.1 s.2)=0;rw[h2,Zm];exact ih λx hx=>hu x (.tail _ hx)
 refine key v λa ha=>⟨hz a ha,?_⟩;obtain⟨i,hi,rfl⟩:=aD ha;rw[<-JW hi];exact ho i hi
def QF7{v:List J3}(h:∀a∈v,XN a 1800):Jv v=false:=j0 λa ha=>by rw[SI (h a ha).1 (ae _),SI (h a ha).2 (ae _)];rfl
def inS(p q:Nat)(a:J3):J3:=(a.1+(a.2-a.1)*ah (p:Int) 10,(a.1+(a.2-a.1)*ah (p:Int) 10)+(a.2-a.1)*ah (q:Int) 10)
def BL(p q:Nat)(v:List J3):List J3:=(aO v.length).map λi=>inS p q (el v i)
def Hd(p q:Nat)(v:List J3):(BL p q v).length=v.length:=by simp[BL]
def cX{p q:Nat}{v:List J3}(h:E2 v)(hp:p<5)(hq:q<5):YR (BL p q v) v:=by
 refine⟨Hd p q v,λi hi=>?_⟩;rw[Hd]at hi;unfold BL;rw[Yj _ hi];exact QD6 (h i hi) hp hq
def xS:∀p:Nat,p<5->JU (ah (p:Int) 10)<=4:=by
 intro p hp;have:p=0\/p=1\/p=2\/p=3\/p=4:=O;rcases this with rfl | rfl | rfl | rfl | rfl<;>decide +kernel
def qX(h:XN a 14){p:Nat}(hp:p<5):JU (a.2-a.1)<=29/\JU ((a.2-a.1)*ah (p:Int) 10)<=33/\JU (a.1+(a.2-a.1)*ah (p:Int) 10)<=48:=by
 have h1:=Hp a.2 a.1;have h2:=Yt (a.2-a.1) (ah (p:Int) 10);have h3:=xS p hp;have h4:=KW a.1 ((a.2-a.1)*ah (p:Int) 10);have:=h.1;have:=h.2;exact⟨O,O,O⟩
def QGv(h:XN a 14){p q:Nat}(hp:p<5)(hq:q<5):XN (inS p q a) 82:=by
 have h1:=qX h hp;have h2:=qX h hq;have h3:=KW (a.1+(a.2-a.1)*ah (p:Int) 10) ((a.2-a.1)*ah (q:Int) 10);exact⟨by show JU (_+_)<=_;omega,by show JU (_+_)<=_;omega⟩
def QFa{v:List J3}(h:∀a∈v,XN a 14){p q:Nat}(hp:p<5)(hq:q<5):∀a∈BL p q v,XN a 160:=λa ha=>by
 obtain⟨i,hi,rfl⟩:=List.mem_map.1 ha;exact(QGv (h _ (Qv (List.mem_range.1 hi))) hp hq).mono wu
def QDf{p:Nat}(hp:p<5):Cl 10 1 0 (ah (p:Int) 10):=⟨(p:Int),by rw[av];rfl,by rw[aR];omega⟩
def QGw{p q:Nat}(h0:0<Q)(h:YQ Q 1 14 a)(hp:p<5)(hq:q<5):YQ (Q*10) 1 20 (inS p q a):=by
 have h10:0<Q*10:=O;have hw:Cl Q 1 15 (a.2-a.1):=by rw[bj];exact Cl.add h0 h.2 h.1.neg
 have m1:=hw.ji (QDf hp);have m2:=hw.ji (QDf hq);have l1:Cl (Q*10) 1 15 a.1:=h.1.dvd h10 (aq _ _) wu;have s1:=Cl.add h10 l1 m1;exact⟨s1.mono h10 (ae _) wu,(Cl.add h10 s1 (m2.mono h10 (ae _) wu)).mono h10 (ae _) wu⟩
theorem QAQ{rs:List (List Tm)}{t:J3}(h:SmS 14 4 2 m rs)(hv:vb.length=m)(h0:0<Q)(ht:YQ Q 1 20 t)(hb:∀x∈vb,YQ Q 1 20 x)(hn:n<=3):TyD (B1 (Ue rs)) 6 Q 20 1 4 n rs t vb:=by
 subst hv;refine⟨VI _,wu,h0,λk hk=>?_,λi hi u hu=>?_,λi hi=>h.len _ (Qv hi),ht,hb,h.hn⟩
 ·have:k=0\/k=1\/k=2:=O;rcases this with rfl | rfl | rfl<;>decide
 have h1:=h.Dt _ (Qv hi) u hu;exact⟨Rw (VI _) (HM (l:=Ue rs) (List.mem_flatMap.2 ⟨_,Qv hi,bc (f:=λu:Tm=>u.1) hu⟩)) (ao h1.1 wu),h1.2.1⟩
theorem QGA{rs:List (List Tm)}(h:SmS 14 4 2 m rs)(hm:m<=2):sz ((B1 (Ue rs)*6:Nat):Int)<=116:=by
 have h1:=T8 (l:=Ue rs) (k:=14) λr hr=>by
  obtain⟨p,hp,hr⟩:=List.mem_flatMap.1 hr;obtain⟨u,hu,rfl⟩:=List.mem_map.1 hr;exact(h.Dt p hp u hu).1
 have h2:=xY (B1 (Ue rs)) 6;have h3:sz ((6:Nat):Int)=3:=wu;have h4:(Ue rs).length<=m*4:=h.hn ▸ y5 h.len;have h5:(Ue rs).length*14<=8*14:=ai _ O;omega
section
variable{m:Nat}{rs:List (List Tm)}{fr t2:Rat}{x on:List J3}(h:SmS 14 4 2 m rs)(hm:m<=2)(hxl:x.length=m)(hol:on.length=m)(hx:∀a∈x,XN a 14)(ho:∀a∈on,XN a 20)(hf:JU fr<=10)(ht:JU t2<=10)
include h hm hxl hx hf ht
def ja(fr t2:Rat)(x:List J3):List Rat:=fr::t2::Fx x
omit h in
theorem QF3:sz ((B1 (ja fr t2 x):Nat):Int)<=85:=by
 have h1:=T8 (l:=ja fr t2 x) (k:=14) λr hr=>by
  rcases List.mem_cons.1 hr with rfl | hr
  ·omega
  rcases List.mem_cons.1 hr with rfl | hr
  ·omega
  exact CW hx r hr
 have h2:(ja fr t2 x).length<=6:=by
  show(Fx x).length+1+1<=6
  rw[TS,hxl];omega
 have h3:(ja fr t2 x).length*14<=6*14:=ai _ h2
 omega
omit h hm hxl hx in
theorem QD4:Cl (B1 (ja fr t2 x)) 1 10 fr/\Cl (B1 (ja fr t2 x)) 1 10 t2:=⟨Rw (VI _) (HM (l:=ja fr t2 x) (.head _)) hf,Rw (VI _) (HM (l:=ja fr t2 x) (.tail _ (.head _))) ht⟩
omit h hm hxl hf ht in
theorem QF4:∀a∈x,YQ (B1 (ja fr t2 x)) 1 14 a:=λa ha=>by
 have h1:=TR ha
 exact⟨Rw (VI _) (HM (l:=ja fr t2 x) (.tail _ (.tail _ h1.1))) (hx a ha).1,Rw (VI _) (HM (l:=ja fr t2 x) (.tail _ (.tail _ h1.2))) (hx a ha).2⟩
theorem QF6{t:J3}(e:t=(fr,t2)\/t=(fr,fr)){n:Nat}(hn:n<=3):TyD (B1 (Ue rs)) 6 (B1 (ja fr t2 x)) 20 1 4 n rs t x:=by
 have h0:=VI (ja fr t2 x);have h1:=QD4 (x:=x) hf ht;refine QAQ h hxl h0 ?_ (λa ha=>(QF4 (fr:=fr) (t2:=t2) hx a ha).mono h0 (ae _) wu) hn;rcases e with rfl | rfl
 ·exact⟨h1.1.mono h0 (ae _) wu,h1.2.mono h0 (ae _) wu⟩
 exact⟨h1.1.mono h0 (ae _) wu,h1.1.mono h0 (ae _) wu⟩
theorem QF8{p q:Nat}(hp:p<5)(hq:q<5){n:Nat}(hn:n<=3):TyD (B1 (Ue rs)) 6 (B1 (ja fr t2 x)*10) 20 1 4 n rs (fr,fr) (BL p q x):=by
 have h0:=VI (ja fr t2 x);have h1:=(QD4 (x:=x) hf ht).1.dvd (E:=B1 (ja fr t2 x)*10) (c:=20) O (aq _ _) wu;refine QAQ h (by rw[Hd,hxl]) O ⟨h1,h1⟩ (λa ha=>?_) hn;obtain⟨i,hi,rfl⟩:=List.mem_map.1 ha;exact QGw h0 (QF4 (fr:=fr) (t2:=t2) hx _ (Qv (List.mem_range.1 hi))) hp hq
theorem QEF:(∀b∈Jb rs (fr,t2) x 3,∀a∈b,XN a 1800)/\∀p q,p<5->q<5->∀b∈Jb rs (fr,fr) (BL p q x) 3,∀a∈b,XN a 1800:=by
 have hg:=QGA h hm;have he:=QF3 hm hxl hx hf ht;refine⟨λb hb a ha=>(QCP (QF6 h hm hxl hx hf ht (.inl rfl) (n:=3) wu) hg he (ae _) b hb a ha).mono wu,λp q hp hq b hb a ha=>(QCP (QF8 h hm hxl hx hf ht hp hq (n:=3) wu) hg (e:=89) ?_ (ae _) b hb a ha).mono wu⟩;have h2:=xY (B1 (ja fr t2 x)) 10;have h3:sz ((10:Nat):Int)=4:=wu;omega
include hol ho
omit hm hxl hx h in
theorem QHb(hm:m<=2):sz ((B1 (ja fr t2 on):Nat):Int)<=121:=by
 have h1:=T8 (l:=ja fr t2 on) (k:=20) λr hr=>by
  rcases List.mem_cons.1 hr with rfl | hr
  ·omega
  rcases List.mem_cons.1 hr with rfl | hr
  ·omega
  exact CW ho r hr
 have h2:(ja fr t2 on).length<=6:=by
  show(Fx on).length+1+1<=6
  rw[TS,hol];omega
 have h3:(ja fr t2 on).length*20<=6*20:=ai _ h2
 omega
theorem QEE:(∀a∈Xy rs fr t2 x on 2,XN a 1800)/\∀p q,p<5->q<5->∀a∈Xy rs fr t2 (BL p q x) on 2,XN a 1800:=by
 have hg:=QGA h hm;have he:=QF3 hm hxl hx hf ht;have he2:=QHb hol ho hf ht hm;have h0:=VI (ja fr t2 on);have hD:TyD (B1 (Ue rs)) 6 (B1 (ja fr t2 on)) 20 1 4 3 rs (fr,t2) on:=by
  have h1:=QD4 (x:=on) hf ht;refine QAQ h hol h0 ⟨h1.1.mono h0 (ae _) wu,h1.2.mono h0 (ae _) wu⟩ (λa ha=>?_) (ae _);have h1:=TR ha;exact⟨Rw (VI _) (HM (l:=ja fr t2 on) (.tail _ (.tail _ h1.1))) (ho a ha).1,Rw (VI _) (HM (l:=ja fr t2 on) (.tail _ (.tail _ h1.2))) (ho a ha).2⟩
 have hH0:0<B1 [fr,t2]:=VI _;have hH:sz ((B1 [fr,t2]:Nat):Int)<=21:=by
  have h1:=T8 (l:=[fr,t2]) (k:=10) λr hr=>by
   simp only[bh,aU,or_false]at hr;rcases hr with rfl | rfl<;>assumption
  exact ao h1 (ae 21)
 have hh:Cl (B1 [fr,t2]) 1 11 (t2-fr):=by
  rw[bj];exact Cl.add hH0 (Rw (VI _) (HM (l:=[fr,t2]) (.tail _ (.head _))) ht) (Rw (VI _) (HM (l:=[fr,t2]) (.head _)) hf).neg
 refine⟨λa ha=>(QCK (n:=2) (QF6 h hm hxl hx hf ht (.inr rfl) (n:=3) wu) hD hH0 hh O hg he he2 hH a ha).mono wu,λp q hp hq a ha=>(QCK (n:=2) (QF8 h hm hxl hx hf ht hp hq (n:=3) wu) hD hH0 hh (by rw[Hd];omega) hg (e:=89) ?_ he2 hH a ha).mono wu⟩;have h2:=xY (B1 (ja fr t2 x)) 10;have h3:sz ((10:Nat):Int)=4:=wu;omega
end
theorem QFR{s:List UInt8}{y:Rat}(hF:Fits F w)(h:Jk s=0)(hy:JU y<=100000):Qg prog 13 [tx s,tx (Js y)] w F (tx (Js (Qo s+y))):=by
 have h1:=QAv (x:=Qo s) (y:=y) hF (wk<|Yf h) hy;rw[<-(XH h).1]at h1;exact h1
theorem xx{t:List UInt8×List UInt8}{r:Sr}(hF:Fits F w)(hGl:JE F)(hy:ZH F y)(ht:Ww y)(htl:t.1.length<=1000000/\t.2.length<=1000000)(hx:KO F r l)(hc:GZ r l)(h0:Sv y t l 3=0)(hs:QDL y.rs (Q8 t) (lV l) 3/\SB y.rs (Q8 t) (lV l) 3/\∀b∈Jb y.rs (Q8 t) (lV l) 3,∀a∈b,XN a 45000)(hz:∀b∈Jb y.rs (Q8 t) (lV l) 3,∀a∈b,XN a 1800):
  QV prog 16 [y.v,.agg #[tx t.1,tx t.2],r.v,.int .i64 3] w F (λ(c:Sr×List Sr)=>.tuple #[c.1.v,.int .i64 0]) (λc F=>I2 F c (Jb y.rs (Q8 t) (lV l) 3)):=by
 have h1:=Ou (o:=3) hF hGl hy ht htl hx hc λ_=>⟨hs.2.1,λb hb a ha=>(hs.2.2 b hb a ha).mono wu⟩;have hno:(Jb y.rs (Q8 t) (lV l) (Int.toNat 3)).any Jv=false:=any_none λj hj=>QF7 (hz _ (Qv hj));rw[h0,I5,hno]at h1;exact h1
theorem xT{a b:List UInt8}{r:Sr}{rz:Sr}{lw:List (List UInt8×List UInt8)}(hF:Fits F w)(hGl:JE F)(hy:ZH F y)(ht:Ww y)(hx:KO F r l)(hc:GZ r l)(ha:a.length<=1000000)(hb:b.length<=1000000)(hxw:KO F rz lw)(hcw:GZ rz lw)(h0:Ez y a l b lw 2=0)(hs:(∀a'∈Xy y.rs (Qo a) (Qo b) (lV l) (lV lw) 2,XN a' 45000)/\Cg y.rs (Qo a) (Qo b) (lV l) (lV lw) 2)(hz:∀a'∈Xy y.rs (Qo a) (Qo b) (lV l) (lV lw) 2,XN a' 1800):
  QV prog 18 [y.v,tx a,r.v,tx b,rz.v,.int .i64 2] w F (λ(c:Sr)=>.tuple #[c.v,.int .i64 0]) (λc F=>Wf F c (Xy y.rs (Qo a) (Qo b) (lV l) (lV lw) 2)):=by
 have h1:=Io (o:=2) hF hGl hy ht hx hc ha hb hxw hcw λ_=>⟨hs.2,λv hv=>(hs.1 v hv).mono wu⟩;have hno:Jv (Xy y.rs (Qo a) (Qo b) (lV l) (lV lw) (Int.toNat 2))=false:=QF7 hz;rw[h0,DH,hno]at h1;exact h1
theorem yk{a b:List UInt8}{r:Sr}{rz:Sr}{lw:List (List UInt8×List UInt8)}(hF:Fits F w)(hGl:JE F)(hy:ZH F y)(ht:Ww y)(hx:KO F r l)(hc:GZ r l)(ha:a.length<=1000000)(hb:b.length<=1000000)(hxw:KO F rz lw)(hcw:GZ rz lw)(h0:jb y a l b lw=0)(hok:QE8 y.rs (Qo a) (Qo b) (lV l) (lV lw)):
  Qg prog 19 [y.v,tx a,r.v,tx b,rz.v] w F (.tuple #[.bool (U7 (Z4 y.rs (Qo a) (Qo b) (lV l) (lV lw)) (lV lw)),.int .i64 0]):=by
 have h1:=CN hF hGl hy ht hx hc ha hb hxw hcw λ_=>hok;rw[h0,decide_eq_true rfl,Bool.true_and]at h1;exact h1
theorem QCQ{A B:J3}(hF:Fits F w)(ha:XN A 1800)(hb:XN B 1800)(h:Wx A.1 B/\Wx A.2 B):Qg prog 21 [spT A,spT B] w F (.bool true):=by
 have h':=QCn (a:=A) (b:=B) hF ⟨wk ha.1,wk ha.2⟩ ⟨wk hb.1,wk hb.2⟩;unfold inQ at h';rw[decide_eq_true ((Hr _ _).2 h.1.1),decide_eq_true ((Hr _ _).2 h.1.2),decide_eq_true ((Hr _ _).2 h.2.1),decide_eq_true ((Hr _ _).2 h.2.2)]at h';exact h'
structure NsT(y:X5)(x:ATk):Prop where
 few:jl y 2 2 4=true
 n0:y.rt.n≠0
 bn:x.bx.n=y.rt.n
 wn:x.wh.n=y.rt.n
 b:x.bl.all (Uz ((4:Nat):Int))=true
 w:x.wl.all (Uz ((6:Nat):Int))=true
 f:NA x.fr ((3:Nat):Int)=true
 t:NA x.te ((3:Nat):Int)=true
 lt:Qo x.fr<Qo x.te
def CS{s:List UInt8}{d:Nat}(h:NA s (d:Int)=true):s.length<=2*d+2:=by
 unfold NA at h;rw[ak,decide_eq_true_eq]at h;have:=h.1;omega
def QHh{k:Nat}(h:(!(jl y 2 2 4))=false)(hb:((k:Int) != (y.rt.n:Int))=false):k<=1000000:=by
 rw[aF]at h;unfold jl at h;rw[ak]at h;have h2:=(pg h.1).2.2.1;rw[bne_eq_false_iff_eq]at hb;omega
theorem QEa{r:Sr}{d:Nat}(hn:l.length=r.n)(h2:r.n<=2)(hd:d<=6)(h:l.all (Uz (d:Int))=true):GZ r l:=⟨O,λs hs=>by
 have h1:=qi (List.all_eq_true.1 h s hs);have:=CS h1.2.2.1;have:=CS h1.2.2.2.1;exact⟨O,O⟩⟩
structure NsB(y:X5)(x:ATk)(t:List UInt8×List UInt8)(r:Sr)(l:List (List UInt8×List UInt8)):Prop where
 bt:GZ r l
 se:Sv y t l 3=0
 sk:QDL y.rs (Q8 t) (lV l) 3/\SB y.rs (Q8 t) (lV l) 3/\∀b∈Jb y.rs (Q8 t) (lV l) 3,∀a∈b,XN a 45000
 sz:∀b∈Jb y.rs (Q8 t) (lV l) 3,∀a∈b,XN a 1800
 te:Ez y x.fr l x.te x.wl 2=0
 tk:(∀a'∈Xy y.rs (Qo x.fr) (Qo x.te) (lV l) (lV x.wl) 2,XN a' 45000)/\Cg y.rs (Qo x.fr) (Qo x.te) (lV l) (lV x.wl) 2
 tz:∀a'∈Xy y.rs (Qo x.fr) (Qo x.te) (lV l) (lV x.wl) 2,XN a' 1800
 ie:jb y x.fr l x.te x.wl=0
 ik:QE8 y.rs (Qo x.fr) (Qo x.te) (lV l) (lV x.wl)
section
variable{y:X5}{x:ATk}(h:NsT y x)(hl:ve y)(hrl:y.rl.length=y.rt.n)(hyo:y.e=0->vK y)(hb:x.bl.length=x.bx.n)(hw:x.wl.length=x.wh.n)
include h hl hrl hyo hb hw
theorem NsT.sm:y.e=0/\shS y=true/\SmY y y.rt.n/\SmS 14 4 2 y.rt.n y.rs/\y.rt.n<=2/\y.nm.n=y.rt.n:=by
 have h0:=h.few;have h1:jm y 2 4=true:=by unfold jl at h0;rw[ak]at h0;exact h0.1
 have h2:=pg h1;have h3:=QEZ (dd:=2) (g:=4) (z:=14) hl hrl (hyo h2.2.1) h2.1 h0 wu wu wu;have h4:=uo (dd:=2) (g:=4) (z:=14) h0 wu hrl;rw[hrl]at h3 h4;exact⟨h2.2.1,h2.1,h3.1,h4.1,O,(hyo h2.2.1).rn.symm⟩
theorem NsT.any{t:List UInt8×List UInt8}{r:Sr}(bt:GZ r l)(ht:XX t.1 t.2=0)(hts:JU (Qo t.1)<=10/\JU (Qo t.2)<=10)(hbo:YN y.rt.n l=0)(hsh:ShB y.rt.n (lV l))(sz:∀b∈Jb y.rs (Q8 t) (lV l) 3,∀a∈b,XN a 1800)(tz:∀a'∈Xy y.rs (Qo x.fr) (Qo x.te) (lV l) (lV x.wl) 2,XN a' 1800):NsB y x t r l:=by
 obtain⟨he,hss,hsm,hs4,hm,hnm⟩:=h.sm hl hrl hyo hb hw;have hfb:=SJ h.w (z:=20) wu;have hwl:x.wl.length=y.rt.n:=hw.trans h.wn;rw[hwl]at hfb;have hshw:ShB y.rt.n (lV x.wl):=⟨by rw[Xc];exact hwl,λa ha=>(hfb.2.2 a ha).mono wu,hfb.2.1⟩;have hf:JU (Qo x.fr)<=10:=EY h.f wu;have htt:JU (Qo x.te)<=10:=EY h.t wu;have cf:=EX h.f;have ct:=EX h.t;have hlt:Qo x.fr<=Qo x.te:=aW h.lt;have hla:Vb (Qo x.fr) (Qo x.te)=0:=by
  unfold Vb;rw[if_neg (by rw[decide_eq_true_eq,Hr];exact Rat.not_le.2 h.lt)]
 have hst:Yg y x.fr l x.te=0:=by unfold Yg;rw[he,cf,hnm,hbo,ct];rfl
 have htb:=QGP (n:=2) hsm hm hsh hshw O O hlt wu;refine⟨bt,?_,QGV hsm hm hsh ⟨by show JU (Qo t.1)<=56;omega,by show JU (Qo t.2)<=56;omega⟩ wu,sz,?_,htb.2,tz,?_,⟨QFb (n:=2) hsm hm hsh hshw O O hlt wu,λv hv=>(FD (X:=160) (S:=160) (QEL (n:=2) hsm hm hsh hshw O O hlt wu) hsh.len hshw.len hsh.sz hshw.sz wu v hv).mono wu⟩⟩
 ·unfold Sv;rw[he,ht,hnm,hbo];rfl
 ·unfold Ez;rw[if_pos hst,hnm,hfb.1,hla];rfl
 unfold jb;rw[if_pos hst,hnm,hfb.1,hla];rfl
theorem NsT.outer:NsB y x (x.fr,x.te) x.bx x.bl:=by
 obtain⟨he,hss,hsm,hs4,hm,hnm⟩:=h.sm hl hrl hyo hb hw;have hfb:=SJ h.b (z:=14) wu;have hfw:=SJ h.w (z:=20) wu;have hbl:x.bl.length=y.rt.n:=hb.trans h.bn;rw[hbl]at hfb;have hf:JU (Qo x.fr)<=10:=EY h.f wu;have htt:JU (Qo x.te)<=10:=EY h.t wu;have cf:=XH (EX h.f);have ct:=XH (EX h.t);refine h.any hl hrl hyo hb hw (QEa hb (by rw[h.bn];exact hm) wu h.b) (by show XX x.fr x.te=0;rw[cf.1,ct.1];exact Un cf.2 ct.2 (aW h.lt)) ⟨hf,htt⟩ hfb.1 ⟨by rw[Xc];exact hbl,λa ha=>(hfb.2.2 a ha).mono wu,hfb.2.1⟩ ?_ ?_
 ·exact(QEF hs4 hm (by rw[Xc];exact hbl) hfb.2.2 hf htt).1
 exact(QEE hs4 hm (by rw[Xc];exact hbl) (by rw[Xc,hw];exact h.wn) hfb.2.2 hfw.2.2 hf htt).1
theorem NsT.inner{p q:Nat}(hp:p<5)(hq:q<5){r:Sr}(hr:r.n=y.rt.n):NsB y x (x.fr,x.fr) r (He (BL p q (lV x.bl))):=by
 obtain⟨he,hss,hsm,hs4,hm,hnm⟩:=h.sm hl hrl hyo hb hw;have hfb:=SJ h.b (z:=14) wu;have hfw:=SJ h.w (z:=20) wu;have hbl:x.bl.length=y.rt.n:=hb.trans h.bn;have hf:JU (Qo x.fr)<=10:=EY h.f wu;have htt:JU (Qo x.te)<=10:=EY h.t wu;have cf:=XH (EX h.f);have hsub:=cX hfb.2.1 hp hq;have hsz:=QFa hfb.2.2 hp hq;have hln:(BL p q (lV x.bl)).length=y.rt.n:=by rw[Hd,Xc];exact hbl
 refine h.any hl hrl hyo hb hw ?_ (by show XX x.fr x.fr=0;rw[cf.1];exact Un cf.2 cf.2 bI) ⟨hf,hf⟩ (IH hln (λa ha=>(hsz a ha).mono wu) hsub.ord) (by rw[qY];exact⟨hln,hsz,hsub.ord⟩) ?_ ?_
 ·exact xM (F:=λ_=>none) (by rw[hln,hr]) (by rw[hr];omega) λa ha=>(hsz a ha).mono wu
 ·rw[qY];exact(QEF hs4 hm (by rw[Xc];exact hbl) hfb.2.2 hf htt).2 p q hp hq
 rw[qY];exact(QEE hs4 hm (by rw[Xc];exact hbl) (by rw[Xc,hw];exact h.wn) hfb.2.2 hfw.2.2 hf htt).2 p q hp hq
end
def QBl{q:Option Addr}{f:Nat->J3}{v:List J3}(h:Qx F q n 2 (((aO n).map f).flatMap Oz))(e:(aO n).map f=v):QxR F ⟨q,n,c⟩ v:=⟨by rw[<-e];exact h,by rw[<-e];simp⟩
def QDl{b:J3}(h:ZK a b):Wx a.1 b/\Wx a.2 b:=by
 obtain⟨h1,h2,h3⟩:=h;unfold Wx;exact⟨⟨h1,bm h2 h3⟩,⟨bm h1 h2,h3⟩⟩
def YR.QHd{a b:List J3}(h:YR a b):E2 b:=λi hi=>by
 obtain⟨h1,h2,h3⟩:=h.2 i (h.1 ▸ hi);exact bm h1 (bm h2 h3)
def QFF(k:Nat):Value:=.int .u8 (k:Int)
theorem QGC:arB prog 30=some (2,5):=wm
def jh(y:X5)(x:ATk):Bool:=!(jl y 2 2 4)||((y.rt.n:Int)==0)||((x.bx.n:Int) != (y.rt.n:Int))||((x.wh.n:Int) != (y.rt.n:Int))||!(decide ((x.bx.n:Int)<=2)&&x.bl.all (Uz 4))||!(decide ((x.wh.n:Int)<=2)&&x.wl.all (Uz 6))||!(NA x.fr 3)||!(NA x.te 3)||decide (Yb (Qo x.te) (Qo x.fr)<=0)
theorem QGo{x:ATk}(h:jh y x=false):NsT y x:=by
 unfold jh at h;simp only[aB,aF,ak,decide_eq_true_eq,decide_eq_false_iff_not,beq_eq_false_iff_ne,bne_eq_false_iff_eq,ne_eq]at h;obtain⟨⟨⟨⟨⟨⟨⟨⟨h1,h2⟩,h3⟩,h4⟩,h5⟩,h6⟩,h7⟩,h8⟩,h9⟩:=h;exact⟨h1,O,O,O,h5.2,h6.2,h7,h8,Rat.not_le.1 λk=>h9 ((Hr _ _).2 k)⟩
theorem QEI{x:ATk}{p q:Nat}(hF:Fits F w)(hGl:JE F)(hy:ZH F y)(hl:ve y)(hx:KO F x.bx x.bl/\KO F x.wh x.wl)(hn:x.bx.n<=9223372036854775807/\x.wh.n<=9223372036854775807)(hp:p<256)(hq:q<256):Qg prog 3 [y.v,x.v,.agg #[.int .u8 (p:Nat),.int .u8 (q:Nat)]] w F (.bool true):=by
 have hyo:=hy.ok;have hsl:=hy.P3;have hrl:=hy.Kx;have hx1:=hx.1.len;have hx2:=hx.2.len;refine QV.intro (G:=λF=>JE F/\ZH F y/\KO F x.bx x.bl/\KO F x.wh x.wl) func3 rfl wy rfl rfl hF (λF' hF'=>⟨hGl.le hF',hy.le hF',hx.1.le hF',hx.2.le hF'⟩)<|QI7<|Qs rfl (vs:=[_,_,_]) rfl λb3=>Qs rfl (vs:=[_,_,_,_,_,_]) rfl λb4=>Qs rfl (vs:=[_,_]) rfl λb5=>Yw (b:=b3) .u2<|Yw (b:=b4) .u1<|Yw (b:=b5) .here<|wQ rfl<|QI7<|QA (QH rfl WZ Yx)<|QA (Q5 (n:=1) ((0)*3+1) (λF h9=>(Qx.of (n:=1) (sz:=3) h9.1.1.2 rfl)) O rfl Yx rfl)<|QA (Qh rfl V7)<|wQ rfl<|QG ?_
 refine Zc [(3,_),(4,_),(5,_),(7,_)] [(81,.bool ((jh y x)))] wV ?_ ?_
 ·refine QB<|QA (JK (n:=1) (vs:=[.slice y.nm.q y.nm.n y.nm.cap,.slice y.rt.q y.rt.n y.rt.cap,.slice y.st.q y.st.n y.st.cap]) ((0)*3) (λF h9=>(Qx.of (n:=1) (sz:=3) h9.1.1.2 I)) O rfl J8 I λj v hv=>by simpa using hv)<|QI I (λ_ _ f k=>QFQ (y:=y) (v:=2) (d:=2) (g:=4) f k.1.1.1.1 k.1.1.1.2.1 hl wu) λ_=>QA (XB I)<|QH0 I ?_
  refine Ql (t:=32) rfl (λhb32=>?_) λhb32=>?_
  ·refine wB 25 I ?_;refine wB 25 I ?_;exact JY ⟨rfl,rfl,rfl,rfl,(congrArg (λb=>some (aa b)) (by unfold jh;rw[hb32];rfl)),trivial⟩ QIM tA
  refine wB 6 I ?_;refine Ql (t:=36) rfl (λhb36=>?_) λhb36=>?_
  ·refine wB 25 I ?_;refine wB 21 I ?_;exact JY ⟨rfl,rfl,rfl,rfl,(congrArg (λb=>some (aa b)) (by unfold jh;rw[hb32,hb36];rfl)),trivial⟩ QIM tA
  refine QM I I<|QA (QH I Fv JZ)<|QM I I<|QA (Q5 (n:=1) ((0)*6+2) (λF h9=>(Qx.of (n:=1) (sz:=6) h9.1.1.2 I)) O rfl JZ I)<|QM I I<|QA (Qh I J9)<|wB 6 I ?_
  refine Ql (t:=43) rfl (λhb43=>?_) λhb43=>?_
  ·refine wB 25 I ?_;refine wB 14 I ?_;exact JY ⟨rfl,rfl,rfl,rfl,(congrArg (λb=>some (aa b)) (by unfold jh;rw[hb32,hb36,hb43];rfl)),trivial⟩ QIM tA
  refine QM I I<|QA (QH I qj JZ)<|QM I I<|QA (Q5 (n:=1) ((0)*6+3) (λF h9=>(Qx.of (n:=1) (sz:=6) h9.1.1.2 I)) O rfl JZ I)<|QM I I<|QA (Qh I J9)<|wB 6 I ?_
  refine Ql (t:=50) rfl (λhb50=>?_) λhb50=>?_
  ·refine wB 25 I ?_;refine wB 7 I ?_;exact JY ⟨rfl,rfl,rfl,rfl,(congrArg (λb=>some (aa b)) (by unfold jh;rw[hb32,hb36,hb43,hb50];rfl)),trivial⟩ QIM tA
  refine QM I I<|QA (QH I Fv JZ)<|QM I I<|QA (Q5 (n:=1) ((0)*6+2) (λF h9=>(Qx.of (n:=1) (sz:=6) h9.1.1.2 I)) O rfl JZ I)<|QM I I<|QI I (λ_ _ f k=>Tz (l:=x.bl) (m:=2) (d:=4) f k.1.1.1.1.2.2.1.row hx1 wu (QHh hb32 hb43)) λ_=>QM I I<|QA (XB I)<|wB 2 I ?_
  refine Ql (t:=56) rfl (λhb56=>?_) λhb56=>?_
  ·refine wB 25 I ?_;refine QE ?_;exact JY ⟨rfl,rfl,rfl,rfl,(congrArg (λb=>some (aa b)) (by unfold jh;rw[hb32,hb36,hb43,hb50,hb56];rfl)),trivial⟩ QIM λ_ h=>h.1.1
  refine QM I I<|QA (QH I qj JZ)<|QM I I<|QA (Q5 (n:=1) ((0)*6+3) (λF h9=>(Qx.of (n:=1) (sz:=6) h9.1.1.1.2 I)) O rfl JZ I)<|QM I I<|QI I (λ_ _ f k=>Tz (l:=x.wl) (m:=2) (d:=6) f k.1.1.1.1.1.2.2.2.row hx2 wu (QHh hb32 hb50)) λ_=>QM I I<|QA (XB I)<|wB 2 I ?_
  refine Ql (t:=62) rfl (λhb62=>?_) λhb62=>?_
  ·refine wB 20 I ?_;exact JY ⟨rfl,rfl,rfl,rfl,(congrArg (λb=>some (aa b)) (by unfold jh;rw[hb32,hb36,hb43,hb50,hb56,hb62];rfl)),trivial⟩ QIM λ_ h=>h.1.1.1
  refine QM I I<|QA (QH I Fw JP)<|QM I I<|QA (Q5 (n:=1) ((0)*6+0) (λF h9=>(Qx.of (n:=1) (sz:=6) h9.1.1.1.1.2 I)) O rfl JP I)<|QM I I<|QI I (λ_ _ f k=>jz (d:=3) f wu) λ_=>QM I I<|QA (XB I)<|wB 2 I ?_
  refine Ql (t:=68) rfl (λhb68=>?_) λhb68=>?_
  ·refine wB 14 I ?_;exact JY ⟨rfl,rfl,rfl,rfl,(congrArg (λb=>some (aa b)) (by unfold jh;rw[hb32,hb36,hb43,hb50,hb56,hb62,hb68];rfl)),trivial⟩ QIM λ_ h=>h.1.1.1.1
  refine QM I I<|QA (QH I L8 JP)<|QM I I<|QA (Q5 (n:=1) ((0)*6+1) (λF h9=>(Qx.of (n:=1) (sz:=6) h9.1.1.1.1.1.2 I)) O rfl JP I)<|QM I I<|QI I (λ_ _ f k=>jz (d:=3) f wu) λ_=>QM I I<|QA (XB I)<|wB 2 I ?_
  refine Ql (t:=74) rfl (λhb74=>?_) λhb74=>?_
  ·refine wB 8 I ?_;exact JY ⟨rfl,rfl,rfl,rfl,(congrArg (λb=>some (aa b)) (by unfold jh;rw[hb32,hb36,hb43,hb50,hb56,hb62,hb68,hb74];rfl)),trivial⟩ QIM λ_ h=>h.1.1.1.1.1
  refine QM I I<|QA (QH I L8 JP)<|QM I I<|QA (Q5 (n:=1) ((0)*6+1) (λF h9=>(Qx.of (n:=1) (sz:=6) h9.1.1.1.1.1.1.2 I)) O rfl JP I)<|QM I I<|QA (QH I Fw JP)<|QM I I<|QA (Q5 (n:=1) ((0)*6+0) (λF h9=>(Qx.of (n:=1) (sz:=6) h9.1.1.1.1.1.1.2 I)) O rfl JP I)<|QM I I<|QI I (λ_ _ f k=>dA f (EX (d:=3) (by simpa using hb74)) (EX (d:=3) (by simpa using hb68))) λ_=>wB 4 I ?_
  exact JY ⟨rfl,rfl,rfl,rfl,(congrArg (λb=>some (aa b)) (by unfold jh;rw[hb32,hb36,hb43,hb50,hb56,hb62,hb68,hb74];rfl)),trivial⟩ QIM λ_ h=>h.1.1.1.1.1.1
 simp only[af,ag];refine QR I (λhc2=>?_) λhc2=>?_
 ·refine QI7<|QI I (λ_ _ f k=>uJ f k.1.1.1.1) λ_=>wQ I<|QY ?_
  exact QJO I I (rfl) w8
 have hN:NsT y x:=QGo hc2;obtain⟨hye,hss,hsm,hs4,hm2,hnm⟩:=hN.sm hl hrl hyo hx1 hx2;have ht:Ww y:=hl.ts hss;have hbl:x.bl.length=y.rt.n:=hx1.trans hN.bn;have hwl:x.wl.length=y.rt.n:=hx2.trans hN.wn;have hbc:∀s∈x.bl,Jk s.1=0/\Jk s.2=0:=λs hs=>by
  have h1:=qi (d:=4) (List.all_eq_true.1 hN.b s hs);exact⟨h1.1,h1.2.1⟩
 have hfb:=SJ (z:=14) hN.b wu;have hp5:p%5<5:=Nat.mod_lt _ wu;have hq5:q%5<5:=Nat.mod_lt _ wu;have hO:=hN.outer hl hrl hyo hx1 hx2;have hlf:x.fr.length<=1000000/\x.te.length<=1000000:=by
  have h1:=CS hN.f;have h2:=CS hN.t;omega
 have hbw:GZ x.wh x.wl:=QEa hx2 (by rw[hN.wn];exact hm2) wu hN.w;have hIN:(aO y.rt.n).map (λi=>inS (p%5) (q%5) (Q8 (el x.bl i)))=(BL (p%5) (q%5) (lV x.bl)):=by
  unfold BL;rw[Xc,hbl];exact List.map_congr_left λi hi=>by rw[show el (lV x.bl) i=Q8 (el x.bl i)from DQ _ (by rw[hbl];exact List.mem_range.1 hi)]
 have hsub:=cX hfb.2.1 hp5 hq5;have hsm2:∀i,i<y.rt.n->JU (Qo (el x.bl i).2-Qo (el x.bl i).1)<=29/\JU ((Qo (el x.bl i).2-Qo (el x.bl i).1)*(ah ((p%5:Nat):Int) 10))<=33/\JU ((Qo (el x.bl i).2-Qo (el x.bl i).1)*(ah ((q%5:Nat):Int) 10))<=33/\JU ((Qo (el x.bl i).1)+(Qo (el x.bl i).2-Qo (el x.bl i).1)*(ah ((p%5:Nat):Int) 10))<=48/\JU (ah ((p%5:Nat):Int) 10)<=4/\JU (ah ((q%5:Nat):Int) 10)<=4:=λi hi=>by
  have h1:=qi (d:=4) (List.all_eq_true.1 hN.b _ (Qv (show i<x.bl.length by omega)));have h2:XN (Q8 (el x.bl i)) 14:=⟨EY h1.2.2.1 wu,EY h1.2.2.2.1 wu⟩;exact⟨(qX h2 hp5).1,(qX h2 hp5).2.1,(qX h2 hq5).2.1,(qX h2 hp5).2.2,xS _ hp5,xS _ hq5⟩
 refine QJL 14 I<|JV (ι:=QB8 (y.rt.n) ((λi=>inS (p%5) (q%5) (Q8 (el x.bl i))))) [(3,_),(4,_),(5,_),(7,_)] (λi=>[(8,i.v),(9,.int .i64 ((i.i:Nat):Int))]) (λi=>i.ob) (λi F=>True) (λi=>(y.rt.n)-i.i) (QB8.start _ _) wV wT QIM w8 λi=>?_
 simp only[af,ag];have hi:=i.le;refine wA 8 I ?_;refine QR I (λhc2=>?_) λhc2=>?_
 ·have hlt:i.i<y.rt.n:=wk<|QJG hc2
  have hem:=Qv (show i.i<x.bl.length by omega);have hsz:=hsm2 i.i hlt;refine QJL 5 I<|JH QIM mixed wm<|QK (QH I Fv JZ)<|QK (Q5 (n:=1) ((0)*6+2) (λF h9=>(Qx.of (n:=1) (sz:=6) h9.1.1.2 I)) O rfl JZ I)<|QK (QD I)<|QK (Q3 (n:=x.bx.n) i.i (λF h9=>h9.1.1.1.1.2.2.1.row) rfl rfl J9 Jq O)<|QK (QH I De JP)<|QK (Q5 (n:=x.bx.n) ((i.i)*2+1) (λF h9=>h9.1.1.1.1.2.2.1.row) O rfl JP (JQ (f:=Pc) (l:=x.bl) KZ O rfl))<|QK (QH I Fv JZ)<|QK (Q5 (n:=1) ((0)*6+2) (λF h9=>(Qx.of (n:=1) (sz:=6) h9.1.1.2 I)) O rfl JZ I)<|QK (QD I)<|QK (Q3 (n:=x.bx.n) i.i (λF h9=>h9.1.1.1.1.2.2.1.row) rfl rfl J9 Jq O)<|QK (QH I B4 JP)<|QK (Q5 (n:=x.bx.n) ((i.i)*2+0) (λF h9=>h9.1.1.1.1.2.2.1.row) O rfl JP (JQ (f:=Pc) (l:=x.bl) KZ O rfl))<|QP I (λ_ _ f k=>QFO f (hbc _ hem).2 (hbc _ hem).1) λ_=>QK (QF I)<|Q7<|QC<|QG<|JH QIM mixed wm<|QK (QH I Fv JZ) ?_
  refine QK (Q5 (n:=1) ((0)*6+2) (λF h9=>(Qx.of (n:=1) (sz:=6) h9.1.1.1.2 I)) O rfl JZ I)<|QK (QD I)<|QK (Q3 (n:=x.bx.n) i.i (λF h9=>h9.1.1.1.1.1.2.2.1.row) rfl rfl J9 Jq O)<|QK (QH I B4 JP)<|QK (Q5 (n:=x.bx.n) ((i.i)*2+0) (λF h9=>h9.1.1.1.1.1.2.2.1.row) O rfl JP (JQ (f:=Pc) (l:=x.bl) KZ O rfl))<|QK (QD I)<|QK (uy (i:=0) rfl rfl QGC gN wu)<|QK (Q5 (n:=2) ((0)*1) (λF h9=>(Qx.of (n:=2) (sz:=1) (cs:=[p,q].map QFF) h9.1.1.2 I)) O rfl gN (XL (f:=QFF) (l:=[p,q]) (by show _<2;omega)))<|QK (qF (n:=(p:Int)) I QGI k_3 O)<|QK (Hi I I O wu) ?_
  rw[show((p:Int)%5)=((p%5:Nat):Int)from by omega];refine QP I (λ_ _ f k=>QCS (num:=((p%5:Nat):Int)) (den:=10) f O wu wu) (λ_=>QP I (λ_ _ f k=>QDv (x:=(Qo (el x.bl i.i).2-Qo (el x.bl i.i).1)) (y:=(ah ((p%5:Nat):Int) 10)) f O O) λ_=>QP I (λ_ _ f k=>QFR (s:=(el x.bl i.i).1) (y:=(Qo (el x.bl i.i).2-Qo (el x.bl i.i).1)*(ah ((p%5:Nat):Int) 10)) f (hbc _ hem).1 O) λ_=>QK (QF I)<|Q7<|QJM 6 I<|QA (uy (i:=1) rfl rfl QGC gN wu)<|QA (Q5 (n:=2) ((1)*1) (λF h9=>(Qx.of (n:=2) (sz:=1) (cs:=[p,q].map QFF) h9.1.1.1.1.1.2 I)) O rfl gN (XL (f:=QFF) (l:=[p,q]) (by show _<2;omega)))<|QA (qF (n:=(q:Int)) I QGI k_3 O)<|QA (Hi I I O wu) ?_);rw[show((q:Int)%5)=((q%5:Nat):Int)from by omega];refine QI I (λ_ _ f k=>QCS (num:=((q%5:Nat):Int)) (den:=10) f O wu wu) (λ_=>QI I (λ_ _ f k=>QDv (x:=(Qo (el x.bl i.i).2-Qo (el x.bl i.i).1)) (y:=(ah ((q%5:Nat):Int) 10)) f O O) λ_=>QI I (λ_ _ f k=>QAv (x:=((Qo (el x.bl i.i).1)+(Qo (el x.bl i.i).2-Qo (el x.bl i.i).1)*(ah ((p%5:Nat):Int) 10))) (y:=(Qo (el x.bl i.i).2-Qo (el x.bl i.i).1)*(ah ((q%5:Nat):Int) 10)) f O O) λ_=>QA (Q2 I ZZ Xe (wP I I I))<|Qb I (Q4 J9) Jq Xe I I λb127=>?_);refine KB (bs1:=[]) (ob:=i.ob) (n:=i.i) (k:=1) (sz:=2) (news:=(Oz (inS (p%5) (q%5) (Q8 (el x.bl i.i))))) I I J9 Jq Xe I QCi i.hr (Src.row (off:=0) tB (λj q hq=>by rw[aN];rw[List.getElem?_toArray];exact hq) rfl) O O (QDr _) (λv128 ob128 hr128=>?_);refine wB 2 I<|Qk<|QJM 3 I<|QA (Qw I I O)<|wB 2 I ?_
  exact Qm (i.next hlt hr128 rfl) (by show y.rt.n-(i.i+1)<y.rt.n-i.i;omega) wX QIM λF h=>⟨h.1.1.1.1.1.1.1.1.1,trivial⟩
 have hge:i.i=y.rt.n:=by have:=QJH hc2;have:=i.le;omega
 refine Qz ?_
 repeat first|refine QZ ?_|refine QQ wy ?_
 refine Qa<|QC<|QG ?_
 obtain⟨⟨rq,rn,rc⟩,hv8,hrn,hrc,hfix⟩:=Q9.fix (w0:=w) (F0:=F) (bs1:=[]) (G:=_) i.hr;refine jc hfix ?_;dsimp only at hrn hrc hfix;have hrn:rn=y.rt.n:=hrn.trans hge;subst hrn;rw[hv8,hge];dsimp only[Sr.v];have hI:=hN.inner hl hrl hyo hx1 hx2 hp5 hq5 (r:=⟨rq,y.rt.n,rc⟩) I;have hsT:YR (Xy y.rs (Qo x.fr) (Qo x.te) (lV (He (BL (p%5) (q%5) (lV x.bl)))) (lV x.wl) 2) (Xy y.rs (Qo x.fr) (Qo x.te) (lV x.bl) (lV x.wl) 2):=by
  rw[qY];exact QDh hsub (by rw[Xc,Hd,Xc];omega) (aW hN.lt) (λi hi=>(SJ (z:=20) hN.w wu).2.1 i hi) 2
 have hsS:vg 4 (Jb y.rs (Q8 (x.fr,x.fr)) (lV (He (BL (p%5) (q%5) (lV x.bl)))) 3) (Jb y.rs (Q8 (x.fr,x.te)) (lV x.bl) 3):=by
  rw[qY];exact vO hsub (aW hN.lt) 3
 have hcT:(Xy y.rs (Qo x.fr) (Qo x.te) (lV (He (BL (p%5) (q%5) (lV x.bl)))) (lV x.wl) 2).length=y.rt.n/\(Xy y.rs (Qo x.fr) (Qo x.te) (lV x.bl) (lV x.wl) 2).length=y.rt.n:=by
  refine⟨by rw[gU,Xc,Mm,Hd,Xc,hbl],by rw[gU,Xc,hbl]⟩
 have hgI:(U7 (Z4 y.rs (Qo x.fr) (Qo x.te) (lV x.bl) (lV x.wl)) (lV x.wl))=true->(U7 (Z4 y.rs (Qo x.fr) (Qo x.te) (lV (He (BL (p%5) (q%5) (lV x.bl)))) (lV x.wl)) (lV x.wl))=true:=λk=>by
  rw[qY];exact j4 (QEM hsub (aW hN.lt) (λi hi=>(SJ (z:=20) hN.w wu).2.1 i hi) λi hi=>by rw[Hd,Xc,hbl]at hi;rw[Xc,hwl];exact hsm.s.fit I i hi) k
 refine JH QIM mixed wm<|QK (JK (n:=1) (vs:=[.slice y.nm.q y.nm.n y.nm.cap,.slice y.rt.q y.rt.n y.rt.cap,.slice y.st.q y.st.n y.st.cap]) ((0)*3) (λF h9=>(Qx.of (n:=1) (sz:=3) h9.1.1.1.1.2 rfl)) O rfl J8 rfl λj v hv=>by simpa using hv)<|QK (QH rfl Fw JP)<|QK (Q5 (n:=1) ((0)*6+0) (λF h9=>(Qx.of (n:=1) (sz:=6) h9.1.1.1.2 rfl)) O rfl JP rfl)<|QP rfl (λ_ _ f k=>VU (s:=x.fr) f) λ_=>QK (QD rfl)<|QP rfl (λ_ _ f k=>xx (y:=y) (t:=(x.fr,x.fr)) (r:=⟨rq,y.rt.n,rc⟩) (l:=He (BL (p%5) (q%5) (lV x.bl))) f k.1.1.1.1.1.1.1 k.1.1.1.1.1.1.2.1 ht ⟨hlf.1,hlf.1⟩ (QBl (c:=rc) k.1.2 hIN).U4 hI.bt hI.se hI.sk hI.sz) λc135=>YU _ (λw F hF ⟨⟨⟨⟨⟨⟨⟨⟨hGl,hy,hx⟩,hz3⟩,hz4⟩,hz5⟩,_⟩,hrow⟩,_⟩,h135⟩=>bQ h135.QAh h135.len) λn135=>?_
 rw[Zp,Xc,Mm,Hd,Xc,hbl]at n135;obtain⟨n135,m135⟩:=n135;refine QK (QD rfl)<|QK (QX rfl rfl)<|QK (QX rfl rfl)<|QK (QF rfl)<|QK (QF rfl)<|Q7<|QC<|QI7<|QA (JK (n:=1) (vs:=[.slice y.nm.q y.nm.n y.nm.cap,.slice y.rt.q y.rt.n y.rt.cap,.slice y.st.q y.st.n y.st.cap]) ((0)*3) (λF h9=>(Qx.of (n:=1) (sz:=3) h9.1.1.1.1.1.1.2 rfl)) O rfl J8 rfl λj v hv=>by simpa using hv)<|QA (QH rfl Fw JP)<|QA (Q5 (n:=1) ((0)*6+0) (λF h9=>(Qx.of (n:=1) (sz:=6) h9.1.1.1.1.1.2 rfl)) O rfl JP rfl)<|QA (QH rfl L8 JP)<|QA (Q5 (n:=1) ((0)*6+1) (λF h9=>(Qx.of (n:=1) (sz:=6) h9.1.1.1.1.1.2 rfl)) O rfl JP rfl)<|QA (Q2 rfl ZZ Xe (wP rfl rfl rfl))<|QA (QH rfl Fv JZ)<|QA (Q5 (n:=1) ((0)*6+2) (λF h9=>(Qx.of (n:=1) (sz:=6) h9.1.1.1.1.1.2 rfl)) O rfl JZ rfl)<|QI rfl (λ_ _ f k=>xx (y:=y) (t:=(x.fr,x.te)) (r:=x.bx) (l:=x.bl) f k.1.1.1.1.1.1.1.1 k.1.1.1.1.1.1.1.2.1 ht hlf k.1.1.1.1.1.1.1.2.2.1 hO.bt hO.se hO.sk hO.sz) λc147=>JM _ (λw F hF ⟨⟨⟨⟨⟨⟨⟨⟨⟨hGl,hy,hx⟩,hz3⟩,hz4⟩,hz5⟩,_⟩,hrow⟩,_⟩,h135⟩,h147⟩=>bQ h147.QAh h147.len) λn147=>?_
 rw[Zp,Xc,hbl]at n147;obtain⟨n147,m147⟩:=n147;refine QJK 9 I<|QA (JK (n:=1) (vs:=[.slice y.nm.q y.nm.n y.nm.cap,.slice y.rt.q y.rt.n y.rt.cap,.slice y.st.q y.st.n y.st.cap]) ((0)*3) (λF h9=>(Qx.of (n:=1) (sz:=3) h9.1.1.1.1.1.1.1.2 I)) O rfl J8 I λj v hv=>by simpa using hv)<|QA (QH I Fw JP)<|QA (Q5 (n:=1) ((0)*6+0) (λF h9=>(Qx.of (n:=1) (sz:=6) h9.1.1.1.1.1.1.2 I)) O rfl JP I)<|QH0 I<|QA (QH I L8 JP)<|QA (Q5 (n:=1) ((0)*6+1) (λF h9=>(Qx.of (n:=1) (sz:=6) h9.1.1.1.1.1.1.2 I)) O rfl JP I)<|QA (QH I qj JZ)<|QA (Q5 (n:=1) ((0)*6+3) (λF h9=>(Qx.of (n:=1) (sz:=6) h9.1.1.1.1.1.1.2 I)) O rfl JZ I)<|QI I (λ_ _ f k=>xT (y:=y) (a:=x.fr) (b:=x.te) (r:=⟨rq,y.rt.n,rc⟩) (l:=He (BL (p%5) (q%5) (lV x.bl))) (rz:=x.wh) (lw:=x.wl) f k.1.1.1.1.1.1.1.1.1 k.1.1.1.1.1.1.1.1.2.1 ht (QBl (c:=rc) k.1.1.1.2 hIN).U4 hI.bt hlf.1 hlf.2 k.1.1.1.1.1.1.1.1.2.2.2 hbw hI.te hI.tk hI.tz) λc159=>JM _ (λ_ _ f k=>(Wf.q k.2).len) λn159=>?_
 rw[gU,Xc,Mm,Hd,Xc,hbl]at n159;refine QJK 9 I<|QA (JK (n:=1) (vs:=[.slice y.nm.q y.nm.n y.nm.cap,.slice y.rt.q y.rt.n y.rt.cap,.slice y.st.q y.st.n y.st.cap]) ((0)*3) (λF h9=>(Qx.of (n:=1) (sz:=3) h9.1.1.1.1.1.1.1.1.2 I)) O rfl J8 I λj v hv=>by simpa using hv)<|QA (QH I Fw JP)<|QA (Q5 (n:=1) ((0)*6+0) (λF h9=>(Qx.of (n:=1) (sz:=6) h9.1.1.1.1.1.1.1.2 I)) O rfl JP I)<|QA (QH I Fv JZ)<|QA (Q5 (n:=1) ((0)*6+2) (λF h9=>(Qx.of (n:=1) (sz:=6) h9.1.1.1.1.1.1.1.2 I)) O rfl JZ I)<|QA (QH I L8 JP)<|QA (Q5 (n:=1) ((0)*6+1) (λF h9=>(Qx.of (n:=1) (sz:=6) h9.1.1.1.1.1.1.1.2 I)) O rfl JP I)<|QA (QH I qj JZ)<|QA (Q5 (n:=1) ((0)*6+3) (λF h9=>(Qx.of (n:=1) (sz:=6) h9.1.1.1.1.1.1.1.2 I)) O rfl JZ I)<|QI I (λw F hF ⟨⟨⟨⟨⟨⟨⟨⟨⟨⟨hGl,hy,hx⟩,hz3⟩,hz4⟩,hz5⟩,_⟩,hrow⟩,_⟩,h135⟩,h147⟩,h159⟩=>xT (y:=y) (a:=x.fr) (b:=x.te) (r:=x.bx) (l:=x.bl) (rz:=x.wh) (lw:=x.wl) hF hGl hy ht hx.1 hO.bt hlf.1 hlf.2 hx.2 hbw hO.te hO.tk hO.tz) λc172=>JM _ (λ_ _ f k=>(Wf.q k.2).len) λn172=>?_
 rw[gU,Xc,hbl]at n172;refine QJK 9 I<|QA (JK (n:=1) (vs:=[.slice y.nm.q y.nm.n y.nm.cap,.slice y.rt.q y.rt.n y.rt.cap,.slice y.st.q y.st.n y.st.cap]) ((0)*3) (λF h9=>(Qx.of (n:=1) (sz:=3) h9.1.1.1.1.1.1.1.1.1.2 I)) O rfl J8 I λj v hv=>by simpa using hv)<|QA (QH I Fw JP)<|QA (Q5 (n:=1) ((0)*6+0) (λF h9=>(Qx.of (n:=1) (sz:=6) h9.1.1.1.1.1.1.1.1.2 I)) O rfl JP I)<|QA (QH I Fv JZ)<|QA (Q5 (n:=1) ((0)*6+2) (λF h9=>(Qx.of (n:=1) (sz:=6) h9.1.1.1.1.1.1.1.1.2 I)) O rfl JZ I)<|QA (QH I L8 JP)<|QA (Q5 (n:=1) ((0)*6+1) (λF h9=>(Qx.of (n:=1) (sz:=6) h9.1.1.1.1.1.1.1.1.2 I)) O rfl JP I)<|QA (QH I qj JZ)<|QA (Q5 (n:=1) ((0)*6+3) (λF h9=>(Qx.of (n:=1) (sz:=6) h9.1.1.1.1.1.1.1.1.2 I)) O rfl JZ I)<|QI I (λw F hF ⟨⟨⟨⟨⟨⟨⟨⟨⟨⟨⟨hGl,hy,hx⟩,hz3⟩,hz4⟩,hz5⟩,_⟩,hrow⟩,_⟩,h135⟩,h147⟩,h159⟩,h172⟩=>yk (y:=y) (a:=x.fr) (b:=x.te) (r:=x.bx) (l:=x.bl) (rz:=x.wh) (lw:=x.wl) hF hGl hy ht hx.1 hO.bt hlf.1 hlf.2 hx.2 hbw hO.ie hO.ik) λ_=>wB 6 I ?_
 refine QC<|QI7<|QA (JK (n:=1) (vs:=[.slice y.nm.q y.nm.n y.nm.cap,.slice y.rt.q y.rt.n y.rt.cap,.slice y.st.q y.st.n y.st.cap]) ((0)*3) (λF h9=>(Qx.of (n:=1) (sz:=3) h9.1.1.1.1.1.1.1.1.1.1.2 I)) O rfl J8 I λj v hv=>by simpa using hv)<|QA (QH I Fw JP)<|QA (Q5 (n:=1) ((0)*6+0) (λF h9=>(Qx.of (n:=1) (sz:=6) h9.1.1.1.1.1.1.1.1.1.2 I)) O rfl JP I)<|QH0 I<|QA (QH I L8 JP)<|QA (Q5 (n:=1) ((0)*6+1) (λF h9=>(Qx.of (n:=1) (sz:=6) h9.1.1.1.1.1.1.1.1.1.2 I)) O rfl JP I)<|QA (QH I qj JZ)<|QA (Q5 (n:=1) ((0)*6+3) (λF h9=>(Qx.of (n:=1) (sz:=6) h9.1.1.1.1.1.1.1.1.1.2 I)) O rfl JZ I)<|QI I (λw F hF ⟨⟨⟨⟨⟨⟨⟨⟨⟨⟨⟨⟨hGl,hy,hx⟩,hz3⟩,hz4⟩,hz5⟩,_⟩,hrow⟩,_⟩,h135⟩,h147⟩,h159⟩,h172⟩,_⟩=>yk (y:=y) (a:=x.fr) (b:=x.te) (r:=⟨rq,y.rt.n,rc⟩) (l:=He (BL (p%5) (q%5) (lV x.bl))) (rz:=x.wh) (lw:=x.wl) hF hGl hy ht (QBl (c:=rc) hrow hIN).U4 hI.bt hlf.1 hlf.2 hx.2 hbw hI.ie hI.ik) λ_=>QJK 8 I ?_
 refine Zc [(7,_),(12,_),(14,_),(16,_),(18,_)] [(242,.bool (false))] wW ?_ ?_
 ·refine wA 3 I ?_;have hcb:(GZ c159 (He (Xy y.rs (Qo x.fr) (Qo x.te) (lV (He (BL (p%5) (q%5) (lV x.bl)))) (lV x.wl) 2))/\YN y.rt.n (He (Xy y.rs (Qo x.fr) (Qo x.te) (lV (He (BL (p%5) (q%5) (lV x.bl)))) (lV x.wl) 2))=0)/\GZ c172 (He (Xy y.rs (Qo x.fr) (Qo x.te) (lV x.bl) (lV x.wl) 2))/\YN y.rt.n (He (Xy y.rs (Qo x.fr) (Qo x.te) (lV x.bl) (lV x.wl) 2))=0:=⟨⟨xM (F:=F) (hcT.1.trans n159) O (λa ha=>(hI.tz a ha).mono wu),IH hcT.1 hI.tz hsT.ord⟩,xM (F:=F) (hcT.2.trans n172) O (λa ha=>(hO.tz a ha).mono wu),IH hcT.2 hO.tz hsT.QHd⟩;refine QA (Qw I I O)<|QH0 I<|QA (Qw I I O)<|QH0 I<|QA (Qw I I O)<|QH0 I<|QA (Qw I I O)<|QH0 I<|QA (Qw I I O)<|QA (QT (v:=.bool false) rfl rfl (dX _))<|wB 4 I<|QA (Qh I DB)<|wB 3 I ?_
  rw[n135];refine QA (QT (v:=.bool false) rfl rfl (dX _))<|wB 5 I<|QA (Qh I DB)<|wB 3 I ?_
  rw[n147];refine QA (QT (v:=.bool false) rfl rfl (dX _))<|wB 7 I<|QI I (λ_ _ f k=>Ns (n:=y.rt.n) (l:=He (Xy y.rs (Qo x.fr) (Qo x.te) (lV (He (BL (p%5) (q%5) (lV x.bl)))) (lV x.wl) 2)) f (Wf.q k.1.1.1.2).U4 hcb.1.1) λ_=>?_
  rw[hcb.1.2];refine QM I I<|QA (QT (v:=.bool false) rfl rfl (dX _))<|wB 7 I<|QI I (λ_ _ f k=>Ns (n:=y.rt.n) (l:=He (Xy y.rs (Qo x.fr) (Qo x.te) (lV x.bl) (lV x.wl) 2)) f (Wf.q k.1.1.1.2).U4 hcb.2.1) λ_=>?_
  rw[hcb.2.2];refine QM I I<|QA (QT (v:=.bool false) rfl rfl (dX _))<|wB 6 I ?_
  refine Ql (t:=238) rfl (λhb238=>?_) λhb238=>?_
  ·refine wB 3 I<|QA (XB I)<|wB 4 I ?_
   exact JY ⟨rfl,rfl,rfl,rfl,rfl,(congrArg (λb=>some (aa b)) (by rw[hgI hb238];rfl)),trivial⟩ QIM λ_ h=>h.1.1
  refine wB 6 I ?_;exact JY wX QIM λ_ h=>h.1.1
 simp only[af,ag];refine QR I (λhc2=>?_) λhc2=>?_
 ·exact absurd hc2 wz
 refine QJL 9 I<|XK (ι:=QHw y.rt.n) [(7,_),(12,_),(14,_),(16,_),(18,_)] (λi2=>[(24,.int .i64 ((i2.i:Nat):Int))]) (λi2=>y.rt.n-i2.i) (⟨0,ba _⟩) wW wS λi2=>?_
 simp only[af,ag];have hi2:=i2.le;refine wA 8 I ?_;refine QR I (λhc2=>?_) λhc2=>?_
 ·have hlt2:i2.i<y.rt.n:=wk<|QJG hc2
  have hlA:i2.i<(Jb y.rs (Q8 (x.fr,x.fr)) (lV (He (BL (p%5) (q%5) (lV x.bl)))) 3).length:=by rw[Zp,Xc,Mm,Hd,Xc,hbl];exact hlt2
  have hlB:i2.i<(Jb y.rs (Q8 (x.fr,x.te)) (lV x.bl) 3).length:=by rw[Zp,Xc,hbl];exact hlt2
  have hllA:=Zj y.rs (Q8 (x.fr,x.fr)) (lV (He (BL (p%5) (q%5) (lV x.bl)))) 3 (i:=i2.i) (by rw[Xc,Mm,Hd,Xc,hbl];exact hlt2);have hllB:=Zj y.rs (Q8 (x.fr,x.te)) (lV x.bl) 3 (i:=i2.i) (by rw[Xc,hbl];exact hlt2);refine XS _ (λw F hF ⟨⟨⟨⟨⟨⟨⟨⟨⟨⟨⟨⟨⟨hGl,hy,hx⟩,hz3⟩,hz4⟩,hz5⟩,_⟩,hrow⟩,_⟩,h135⟩,h147⟩,h159⟩,h172⟩,_⟩,_⟩=>bQ (Wf.q (h135.el _ hlA)).len (Wf.q (h147.el _ hlB)).len) (λhll=>?_);rw[hllA,hllB]at hll;obtain⟨hra2,hrb2⟩:=hll;have hra:(el c135.2 i2.i).n=4/\GZ (el c135.2 i2.i) (He (el (Jb y.rs (Q8 (x.fr,x.fr)) (lV (He (BL (p%5) (q%5) (lV x.bl)))) 3) i2.i))/\YN 4 (He (el (Jb y.rs (Q8 (x.fr,x.fr)) (lV (He (BL (p%5) (q%5) (lV x.bl)))) 3) i2.i))=0:=⟨hra2.symm,xM (F:=F) (by rw[hllA];exact hra2) O (λa ha=>(hI.sz _ (Qv hlA) a ha).mono wu),IH hllA (hI.sz _ (Qv hlA)) (hsS.2 _ hlA).2.ord⟩;have hrb:(el c147.2 i2.i).n=4/\GZ (el c147.2 i2.i) (He (el (Jb y.rs (Q8 (x.fr,x.te)) (lV x.bl) 3) i2.i))/\YN 4 (He (el (Jb y.rs (Q8 (x.fr,x.te)) (lV x.bl) 3) i2.i))=0:=⟨hrb2.symm,xM (F:=F) (by rw[hllB];exact hrb2) O (λa ha=>(hO.sz _ (Qv hlB) a ha).mono wu),IH hllB (hO.sz _ (Qv hlB)) (hsS.2 _ hlA).2.QHd⟩;refine QJL 5 I ?_;refine Zc [(7,_),(12,_),(14,_),(16,_),(18,_),(24,_)] [(289,.bool (false))] wX ?_ ?_
  ·refine JH QIM mixed wm<|QK (QD I)<|QK (QD I)<|QK (Q3 (n:=c135.1.n) (i2.i) (λF h9=>h9.1.1.1.1.1.2.row) rfl rfl DB JZ O)<|QK (Q5 (n:=c135.1.n) ((i2.i)*1) (λF h9=>h9.1.1.1.1.1.2.row) O rfl JZ (XL (f:=Sr.v) (l:=c135.2) O))<|QK (Qh I J9) ?_
   rw[hra.1];refine QK (QT (v:=.bool false) rfl rfl (dX _))<|QK (QD I)<|J1 I I<|QK (QD I)<|J1 I I<|QK (QD I)<|J1 I I<|QK (Q3 (n:=c147.1.n) (i2.i) (λF h9=>h9.1.1.1.1.2.row) rfl rfl DB JZ O)<|J1 I I<|QK (Q5 (n:=c147.1.n) ((i2.i)*1) (λF h9=>h9.1.1.1.1.2.row) O rfl JZ (XL (f:=Sr.v) (l:=c147.2) O))<|J1 I I<|QK (Qh I J9)<|J1 I I ?_
   rw[hrb.1];refine QK (QT (v:=.bool false) rfl rfl (dX _))<|QK (Qd I I I)<|QK (QD I)<|J1 I I<|QK (QD I)<|J1 I I<|QK (QD I)<|J1 I I<|QK (Q3 (n:=c135.1.n) (i2.i) (λF h9=>h9.1.1.1.1.1.2.row) rfl rfl DB JZ O)<|J1 I I<|QK (Q5 (n:=c135.1.n) ((i2.i)*1) (λF h9=>h9.1.1.1.1.1.2.row) O rfl JZ (XL (f:=Sr.v) (l:=c135.2) O))<|J1 I I<|QP I (λ_ _ f k=>Ns (n:=4) (l:=He (el (Jb y.rs (Q8 (x.fr,x.fr)) (lV (He (BL (p%5) (q%5) (lV x.bl)))) 3) i2.i)) f (Wf.q (k.1.1.1.1.1.2.el _ hlA)).U4 hra.2.1) λ_=>?_
   rw[hra.2.2];refine J1 I I<|QK (QT (v:=.bool false) rfl rfl (dX _))<|QK (Qd I I I)<|QK (QD I)<|J1 I I<|QK (QD I)<|J1 I I<|QK (QD I)<|J1 I I<|QK (Q3 (n:=c147.1.n) (i2.i) (λF h9=>h9.1.1.1.1.2.row) rfl rfl DB JZ O)<|J1 I I<|QK (Q5 (n:=c147.1.n) ((i2.i)*1) (λF h9=>h9.1.1.1.1.2.row) O rfl JZ (XL (f:=Sr.v) (l:=c147.2) O))<|J1 I I<|QP I (λ_ _ f k=>Ns (n:=4) (l:=He (el (Jb y.rs (Q8 (x.fr,x.te)) (lV x.bl) 3) i2.i)) f (Wf.q (k.1.1.1.1.1.2.el _ hlB)).U4 hrb.2.1) λ_=>?_
   rw[hrb.2.2];refine J1 I I<|QK (QT (v:=.bool false) rfl rfl (dX _))<|QK (Qd I I I)<|QK (QD I)<|J1 I I<|QK (QD I)<|J1 I I<|QK (QD I)<|J1 I I<|QK (Q3 (n:=c159.n) (i2.i) (λF h9=>(Wf.q h9.1.1.1.2).row) rfl rfl J9 Jq O)<|J1 I I<|QK (JK (n:=c159.n) (vs:=[tx (Js (el (Xy y.rs (Qo x.fr) (Qo x.te) (lV (He (BL (p%5) (q%5) (lV x.bl)))) (lV x.wl) 2) (i2.i)).1),tx (Js (el (Xy y.rs (Qo x.fr) (Qo x.te) (lV (He (BL (p%5) (q%5) (lV x.bl)))) (lV x.wl) 2) (i2.i)).2)]) ((i2.i)*2) (λF h9=>(Wf.q h9.1.1.1.2).row) O rfl Jq I λj v hv=>JQ (f:=Oz) (l:=(Xy y.rs (Qo x.fr) (Qo x.te) (lV (He (BL (p%5) (q%5) (lV x.bl)))) (lV x.wl) 2)) Oy O hv)<|J1 I I<|QK (QD I)<|J1 I I<|QK (QD I)<|J1 I I<|QK (Q3 (n:=c172.n) (i2.i) (λF h9=>(Wf.q h9.1.1.2).row) rfl rfl J9 Jq O)<|J1 I I<|QK (JK (n:=c172.n) (vs:=[tx (Js (el (Xy y.rs (Qo x.fr) (Qo x.te) (lV x.bl) (lV x.wl) 2) (i2.i)).1),tx (Js (el (Xy y.rs (Qo x.fr) (Qo x.te) (lV x.bl) (lV x.wl) 2) (i2.i)).2)]) ((i2.i)*2) (λF h9=>(Wf.q h9.1.1.2).row) O rfl Jq I λj v hv=>JQ (f:=Oz) (l:=(Xy y.rs (Qo x.fr) (Qo x.te) (lV x.bl) (lV x.wl) 2)) Oy O hv)<|J1 I I<|QP I (λ_ _ f k=>QCQ (A:=el (Xy y.rs (Qo x.fr) (Qo x.te) (lV (He (BL (p%5) (q%5) (lV x.bl)))) (lV x.wl) 2) i2.i) (B:=el (Xy y.rs (Qo x.fr) (Qo x.te) (lV x.bl) (lV x.wl) 2) i2.i) f (hI.tz _ (Qv O)) (hO.tz _ (Qv O)) (QDl (hsT.2 i2.i O))) λ_=>J1 I I<|QK (XB I)<|QK (Qd I I I) ?_
   refine Q7 ?_;exact JY wY QIM λ_ h=>h.1.1.1
  simp only[af,ag];refine QR I (λhc2=>?_) λhc2=>?_
  ·exact absurd hc2 wz
  refine QJL 8 I<|XK (ι:=QHw 4) [(7,_),(12,_),(14,_),(16,_),(18,_),(24,_)] (λi3=>[(25,.int .i64 ((i3.i:Nat):Int))]) (λi3=>4-i3.i) (⟨0,ba _⟩) wX wS λi3=>?_
  simp only[af,ag];have hi3:=i3.le;refine wA 7 I ?_;refine QR I (λhc2=>?_) λhc2=>?_
  ·have hlt3:i3.i<4:=wk<|QJG hc2
   refine QJL 5 I<|JH QIM mixed wm<|QK (QD I)<|QK (QD I)<|QK (Q3 (n:=c135.1.n) (i2.i) (λF h9=>h9.1.1.1.1.1.2.row) rfl rfl DB JZ O)<|QK (Q5 (n:=c135.1.n) ((i2.i)*1) (λF h9=>h9.1.1.1.1.1.2.row) O rfl JZ (XL (f:=Sr.v) (l:=c135.2) O))<|QK (QD I)<|QK (Q3 (n:=(el c135.2 (i2.i)).n) (i3.i) (λF h9=>(Wf.q (h9.1.1.1.1.1.2.el _ O)).row) rfl rfl J9 Jq O)<|QK (JK (n:=(el c135.2 (i2.i)).n) (vs:=[tx (Js (el (el (Jb y.rs (Q8 (x.fr,x.fr)) (lV (He (BL (p%5) (q%5) (lV x.bl)))) 3) (i2.i)) (i3.i)).1),tx (Js (el (el (Jb y.rs (Q8 (x.fr,x.fr)) (lV (He (BL (p%5) (q%5) (lV x.bl)))) 3) (i2.i)) (i3.i)).2)]) ((i3.i)*2) (λF h9=>(Wf.q (h9.1.1.1.1.1.2.el _ O)).row) O rfl Jq I λj v hv=>JQ (f:=Oz) (l:=(el (Jb y.rs (Q8 (x.fr,x.fr)) (lV (He (BL (p%5) (q%5) (lV x.bl)))) 3) (i2.i))) Oy O hv)<|QK (QD I)<|QK (QD I)<|QK (Q3 (n:=c147.1.n) (i2.i) (λF h9=>h9.1.1.1.1.2.row) rfl rfl DB JZ O)<|QK (Q5 (n:=c147.1.n) ((i2.i)*1) (λF h9=>h9.1.1.1.1.2.row) O rfl JZ (XL (f:=Sr.v) (l:=c147.2) O))<|QK (QD I)<|QK (Q3 (n:=(el c147.2 (i2.i)).n) (i3.i) (λF h9=>(Wf.q (h9.1.1.1.1.2.el _ O)).row) rfl rfl J9 Jq O)<|QK (JK (n:=(el c147.2 (i2.i)).n) (vs:=[tx (Js (el (el (Jb y.rs (Q8 (x.fr,x.te)) (lV x.bl) 3) (i2.i)) (i3.i)).1),tx (Js (el (el (Jb y.rs (Q8 (x.fr,x.te)) (lV x.bl) 3) (i2.i)) (i3.i)).2)]) ((i3.i)*2) (λF h9=>(Wf.q (h9.1.1.1.1.2.el _ O)).row) O rfl Jq I λj v hv=>JQ (f:=Oz) (l:=(el (Jb y.rs (Q8 (x.fr,x.te)) (lV x.bl) 3) (i2.i))) Oy O hv)<|QP I (λ_ _ f k=>QCQ (A:=el (el (Jb y.rs (Q8 (x.fr,x.fr)) (lV (He (BL (p%5) (q%5) (lV x.bl)))) 3) i2.i) i3.i) (B:=el (el (Jb y.rs (Q8 (x.fr,x.te)) (lV x.bl) 3) i2.i) i3.i) f (hI.sz _ (Qv hlA) _ (Qv O)) (hO.sz _ (Qv hlB) _ (Qv O)) (QDl ((hsS.2 _ hlA).2.2 i3.i O))) λ_=>QK (XB I)<|Q7<|QC<|Yv I ?_
   refine QO<|Qk<|QJM 3 I<|QA (Qw I I O)<|wB 2 I ?_
   exact Qm (⟨i3.i+1,hlt3⟩) (by show 4-(i3.i+1)<4-i3.i;omega) wY QIM tA
  refine Qz ?_
  repeat first|refine QZ ?_|refine QQ wy ?_
  refine Qa<|Qk<|QJM 3 I<|QA (Qw I I O)<|wB 2 I ?_
  exact Qm (⟨i2.i+1,hlt2⟩) (by show y.rt.n-(i2.i+1)<y.rt.n-i2.i;omega) wX QIM w9
 refine Qz ?_
 repeat first|refine QZ ?_|refine QQ wy ?_
 refine Qa<|QC<|QI7<|QI I (λ_ _ f k=>uJ f k.1.1.1.1.1.1.1.1.1.1.1.1.1) λ_=>wQ I<|QY ?_
 exact QJO I I (rfl) w8
end Go.Proofs.YtbpmnjieoncbcaaGreatDoor
