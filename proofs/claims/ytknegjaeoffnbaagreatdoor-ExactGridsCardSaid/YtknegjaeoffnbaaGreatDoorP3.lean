/- Steps of the proof of the theorem in the last file. -/
import Derived.Test.YtknegjaeoffnbaaGreatDoorP2
import Derived.MapKept
import Derived.Maps.RangeRun
import Derived.Lib.ItoaLen
import Derived.Shelf.SlSortCmp.PdqK
import Derived.Ground.SlsfProg
import Derived.Test.YtknegjaeoffnbaaGreatDoorProg
import Derived.Sort.AssemblyPlain
import Derived.Shelf.SlSortCmp.NoneTotal
set_option linter.all false
namespace Go.Proofs.YtknegjaeoffnbaaGreatDoor
section
open Go.RowKit Ig
section
variable {P:Program} {N:Nat} {m:Sl} {S:World→Prop} {ty:TypeId}
theorem zw {T yT:TypeId} {x y:Operand} {a b:Int} (hx:ev m x=some (.int .i64 a)) (hy:ev m y=some (.int .i64 b)) (h:0<b) (h0 : -9223372036854775807≤a) (h1:a≤9223372036854775807):Qt P N m S (.binOp .quo T x y yT) ty (.int .i64 (a.tdiv b)):=by
 have:=F5 (P:=P) (N:=N) (m:=m) (S:=S) (ty:=ty) (T:=T) (yT:=yT) hx hy (by omega)
 have e:=Int.natAbs_tdiv a b
 have e2:a.natAbs.div b.natAbs≤a.natAbs:=Nat.div_le_self _ _
 rw [IntWalk.i64_in _ (by omega)] at this;exact this
end
theorem jC {w:World} {F:Gs} {x y:Int} (hF:Fits F w) (h0:0≤x) (h1:x≤9223372036854775807) (k0:0≤y) (k1:y≤9223372036854775807):QV Tryz.prog 181 [.int .i64 x,.int .i64 y] w F (.int .i64 (Nat.gcd x.toNat y.toNat:Nat)):=by
 have:=zj (a:=x.toNat) (b:=y.toNat) hF (by omega) (by omega)
 rw [Int.toNat_of_nonneg h0,Int.toNat_of_nonneg k0] at this;exact this
theorem Ce (z:Int):(if 0 - z>z then 0 - z else z)=((z.natAbs:Nat):Int):=by split<;>omega
theorem U2 (n:Nat):D0 n 1=Lib.decDigits n:=by
 rcases Nat.eq_zero_or_pos n with h | h
 ·subst h;unfold D0 hd;rw [if_pos rfl,ZQ];rfl
 ·exact N5 h
theorem CY {n:Int} {d:Nat} (h:0<d):n.tdiv ((Nat.gcd n.natAbs d:Nat):Int)=(Rat.divInt n d).num:=by
 rw [(YH (x:=n) (y:=(d:Int)) (by omega)).1]
 have e:(Nat.gcd n.natAbs d:Nat)=Int.gcd n (d:Int):=by simp [Int.gcd]
 rw [e]
 exact Int.tdiv_eq_ediv_of_dvd (Int.gcd_dvd_left (a:=n) (b:=(d:Int)))
theorem CZ {n:Int} {d:Nat} (h:0<d):(d:Int) / ((Nat.gcd n.natAbs d:Nat):Int)=((Rat.divInt n d).den:Int):=by
 rw [(YH (x:=n) (y:=(d:Int)) (by omega)).2]
 have e:(Nat.gcd n.natAbs d:Nat)=Int.gcd n (d:Int):=by simp [Int.gcd]
 rw [e]
theorem jb (n:Int) {d:Int} (h:d≠0):Rat.divInt (if d<0 then 0 - n else n) (d.natAbs:Int)=Rat.divInt n d:=by
 split
 ·rename_i g
  rw [show((d.natAbs:Nat):Int) = -d by omega,Int.zero_sub];exact Rat.neg_divInt_neg n d
 ·rw [show((d.natAbs:Nat):Int)=d by omega]
theorem Ca {n:Int} {d:Nat} (h:0<d) (hn:n.natAbs≤4000000000000000000) (hd:d≤4000000000000000000):(Rat.divInt n d).num.natAbs≤4000000000000000000∧(Rat.divInt n d).den≤4000000000000000000∧0<(Rat.divInt n d).den:=by
 have e1:=CY (n:=n) h
 have e2:=CZ (n:=n) h
 have k1:=Int.natAbs_tdiv n ((Nat.gcd n.natAbs d:Nat):Int)
 have k2:n.natAbs.div ((Nat.gcd n.natAbs d:Nat):Int).natAbs≤n.natAbs:=Nat.div_le_self _ _
 have k3:(d:Int) / ((Nat.gcd n.natAbs d:Nat):Int)≤(d:Int):=Int.ediv_le_self _ (by omega)
 have k4:=(Rat.divInt n d).den_pos
 rw [e1] at k1
 omega
theorem T8 (z:Int):(if z<0 then [45] else [])++Lib.decDigits z.natAbs=Xc z:=by
 split
 ·rename_i h;rw [Zj h];rfl
 ·rw [Jh (by omega)];rfl
theorem qu {z:Int} (h : -9223372036854775808≤z∧z≤9223372036854775807):sz z≤64:=by
 rw [X1];omega
theorem xx {w:World} {F:Gs} {num den:Int} (hF:Fits F w) (hn : -9223372036854775808≤num∧num≤9223372036854775807) (hd : -9223372036854775808≤den∧den≤9223372036854775807) (h0:den≠0):QV Tryz.prog 74 [.int .i64 num,.int .i64 den] w F (tx (Qy (Rat.divInt num den))):=by
 refine QT.intro (G:=fun F=>True) Tryz.func74 rfl (by rfl) rfl rfl hF (fun F' hF'=>trivial)<|QG<|QB<|QA (QE rfl)<|QF<|QC<|QG ?_
 refine Ze [(0,_),(1,_)] [(20,.bool (decide (num < -4000000000000000000∨num>4000000000000000000∨den < -4000000000000000000∨den>4000000000000000000)))] ⟨rfl,rfl,trivial⟩ ?_ ?_
 ·
  refine QB<|QA (QD rfl)<|QA (QU rfl rfl rfl)<|QA (QD rfl) ?_
  refine Qk (t:=9) rfl (fun hb9=>?_) (fun hb9=>?_)
  ·
   refine QO rfl rfl rfl<|QO rfl rfl rfl<|QA (Qj rfl rfl rfl)<|QA (QD rfl)<|QO rfl rfl rfl<|QO rfl rfl rfl<|QA (Qj rfl rfl rfl)<|QA (QD rfl)<|QO rfl rfl rfl<|QO rfl rfl rfl<|QA (Qj rfl rfl rfl)<|QF ?_
   exact J2 ⟨rfl,rfl,(congrArg (fun b=>some (Value.bool b)) (by rw [Bool.eq_iff_iff];simp_all;try omega)),trivial⟩ (List.Sublist.refl _) (fun _ h=>h)
  ·
   refine QL rfl rfl<|QA (QD rfl)<|QL rfl rfl<|QA (QU rfl rfl rfl)<|QA (Qh rfl rfl rfl)<|QA (QD rfl) ?_
   refine Qk (t:=13) rfl (fun hb13=>?_) (fun hb13=>?_)
   ·
    refine QO rfl rfl rfl<|QO rfl rfl rfl<|QA (Qj rfl rfl rfl)<|QA (QD rfl)<|QO rfl rfl rfl<|QO rfl rfl rfl<|QA (Qj rfl rfl rfl)<|QF ?_
    exact J2 ⟨rfl,rfl,(congrArg (fun b=>some (Value.bool b)) (by rw [Bool.eq_iff_iff];simp_all;try omega)),trivial⟩ (List.Sublist.refl _) (fun _ h=>h)
   ·
    refine QL rfl rfl<|QA (QD rfl)<|QL rfl rfl<|QA (QU rfl rfl rfl)<|QA (Qh rfl rfl rfl)<|QA (QD rfl) ?_
    refine Qk (t:=17) rfl (fun hb17=>?_) (fun hb17=>?_)
    ·
     refine QO rfl rfl rfl<|QO rfl rfl rfl<|QA (Qj rfl rfl rfl)<|QF ?_
     exact J2 ⟨rfl,rfl,(congrArg (fun b=>some (Value.bool b)) (by rw [Bool.eq_iff_iff];simp_all;try omega)),trivial⟩ (List.Sublist.refl _) (fun _ h=>h)
    ·
     refine QL rfl rfl<|QA (QD rfl)<|QL rfl rfl<|QA (QU rfl rfl rfl)<|QA (Qh rfl rfl rfl)<|QF ?_
     exact J2 ⟨rfl,rfl,(congrArg (fun b=>some (Value.bool b)) (by rw [Bool.eq_iff_iff];simp_all;try omega)),trivial⟩ (List.Sublist.refl _) (fun _ h=>h)
 ·
  simp only [List.cons_append,List.nil_append]
  refine QQ rfl (fun hc=>?_) (fun hc=>?_)
  ·
   refine QG<|QB<|QA (QD rfl)<|QH rfl (fun w F hF hT=>Gm hF (by omega)) (fun c22=>QA (QD rfl)<|QH rfl (fun w F hF ⟨hT,h22⟩=>Gm hF (by omega)) (fun c24=>QH rfl (fun w F hF ⟨⟨hT,h22⟩,h24⟩=>Yl hF (h22) (h24) (h0) (by have:=qu hn;omega) (by have:=qu hd;omega)) (fun _=>QA (QE rfl)<|QF<|QC<|QR ?_)))
   exact QN (()) rfl (.tmp rfl .nil) (rfl) (fun F ⟨⟨⟨hT,h22⟩,h24⟩,_⟩=>trivial)
  ·
   have hb:¬ (num < -4000000000000000000∨num>4000000000000000000∨den < -4000000000000000000∨den>4000000000000000000):=of_decide_eq_false hc
   refine QP<|QC ?_
   refine Ze [] [(0,.int .i64 (if den<0 then 0 - num else num)),(1,.int .i64 ((den.natAbs:Nat):Int))] trivial ?_ ?_
   ·
    refine QG<|QB<|QA (QD rfl)<|QA (QU rfl rfl rfl)<|QF<|QC ?_
    refine QQ rfl (fun hc=>?_) (fun hc=>?_)
    ·
     refine QB<|QA (QD rfl)<|QA (Jx rfl rfl (by omega))<|QA (QD rfl)<|QA (Jx rfl rfl (by omega))<|QA (QE rfl)<|QA (QE rfl)<|QF ?_
     exact J2 ⟨(congrArg (fun z:Int=>some (Value.int .i64 z)) (if_pos (of_decide_eq_true hc)).symm),(congrArg (fun z:Int=>some (Value.int .i64 z)) (by have:=of_decide_eq_true hc;omega)),trivial⟩ (List.Sublist.refl _) (fun _ h=>h)
    ·
     refine QP ?_
     exact J2 ⟨(congrArg (fun z:Int=>some (Value.int .i64 z)) (if_neg (of_decide_eq_false hc)).symm),(congrArg (fun z:Int=>some (Value.int .i64 z)) (by have:=of_decide_eq_false hc;omega)),trivial⟩ (List.Sublist.refl _) (fun _ h=>h)
   ·
    simp only [List.cons_append,List.nil_append]
    have hq:=jb num h0
    have b1:(if den<0 then 0 - num else num).natAbs≤4000000000000000000:=by split<;>omega
    generalize (if den<0 then 0 - num else num)=n1 at *
    obtain ⟨c1,c2,c3⟩:=Ca (n:=n1) (d:=den.natAbs) (by omega) b1 (by omega)
    have hg:0<Nat.gcd n1.natAbs den.natAbs:=Nat.gcd_pos_of_pos_right _ (by omega)
    have lr1:=Gt (Rat.divInt n1 (den.natAbs:Int)).num
    have lr2:=SZ (Rat.divInt n1 (den.natAbs:Int)).den
    have lz1:=qu (z:=(Rat.divInt n1 (den.natAbs:Int)).num) (by omega)
    have lz2:=qu (z:=((Rat.divInt n1 (den.natAbs:Int)).den:Int)) (by omega)
    have e1:=CY (n:=n1) (d:=den.natAbs) (by omega)
    have e2:=CZ (n:=n1) (d:=den.natAbs) (by omega)
    refine QG<|QB<|QA (QD rfl)<|QA (QD rfl)<|QA (Jx rfl rfl (by omega))<|QA (x6 rfl rfl) ?_
    rw [Ce]
    refine QA (QD rfl)<|QH rfl (fun w F hF hT=>jC hF (by omega) (by omega) (by omega) (by omega)) (fun _=>QA (QE rfl)<|QF<|QC<|QG<|JG (List.Sublist.refl _) mixed (by kernel_rfl) ?_)
    simp only [Int.toNat_natCast]
    refine QK (QD rfl)<|QK (QD rfl)<|QK (zw rfl rfl (by omega) (by omega) (by omega)) ?_
    rw [e1]
    refine QK (QD rfl)<|QK (QD rfl)<|QK (V8 rfl rfl (by omega) (by omega) (by omega)) ?_
    rw [e2]
    refine QK (QE rfl)<|QK (QE rfl)<|Q2<|QC<|QG<|QB<|QA (QE rfl)<|QF<|QC ?_
    refine Ze [(0,_),(1,_)] [(6,tx (if(Rat.divInt n1 (den.natAbs:Int)).num<0 then [45] else []))] ⟨rfl,rfl,trivial⟩ ?_ ?_
    ·
     refine QG<|QB<|QA (QD rfl)<|QA (QU rfl rfl rfl)<|QF<|QC ?_
     refine QQ rfl (fun hc=>?_) (fun hc=>?_)
     ·
      refine QB<|QA (QE rfl)<|QF ?_
      exact J2 ⟨rfl,rfl,(congrArg (fun l=>some (tx l)) (if_pos (of_decide_eq_true hc)).symm),trivial⟩ (List.Sublist.refl _) (fun _ h=>h)
     ·
      refine QP ?_
      exact J2 ⟨rfl,rfl,(congrArg (fun l=>some (tx l)) (if_neg (of_decide_eq_false hc)).symm),trivial⟩ (List.Sublist.refl _) (fun _ h=>h)
    ·
     simp only [List.cons_append,List.nil_append]
     refine QG<|QB<|QA (QD rfl)<|QA (QD rfl)<|QA (QD rfl)<|QA (Jx rfl rfl (by omega))<|QA (x6 rfl rfl) ?_
     rw [Ce]
     refine QH rfl (fun w F hF ⟨hT,_⟩=>Vt hF (least:=1) (by omega) (by omega) (by omega)) (fun _=>?_)
     simp only [Int.toNat_natCast,U2]
     refine QA (XR rfl rfl (by have e:=congrArg List.length (T8 (Rat.divInt n1 (den.natAbs:Int)).num);rw [List.length_append] at e;omega))<|QA (QE rfl)<|QF<|QC<|QG<|QG<|QB ?_
     rw [T8]
     refine QA (QD rfl)<|QA (QU rfl rfl rfl)<|QF<|QC ?_
     refine QQ rfl (fun hc=>?_) (fun hc=>?_)
     ·
      have hd1:¬ ((Rat.divInt n1 (den.natAbs:Int)).den:Int)=1:=by have:=of_decide_eq_true hc;omega
      refine QB<|QA (QD rfl)<|QA (XR rfl rfl (by simp only [List.length_append,List.length_cons,List.length_nil];omega))<|QA (QD rfl)<|QH rfl (fun w F hF ⟨⟨hT,_⟩,_⟩=>Vt hF (least:=1) (by omega) (by omega) (by omega)) (fun _=>?_)
      simp only [Int.toNat_natCast,U2]
      refine QA (XR rfl rfl (by simp only [List.length_append,List.length_cons,List.length_nil];omega))<|QA (QE rfl)<|QF<|QC<|QG<|QB<|QA (QD rfl)<|QA (QE rfl)<|QF<|QC<|QR ?_
      exact QN (()) rfl (.tmp rfl .nil) (by rw [← hq];exact congrArg (fun l=>tx l) (by rw [← R8 hd1,UA])) (fun F ⟨⟨⟨hT,_⟩,_⟩,_⟩=>trivial)
     ·
      have hd1:((Rat.divInt n1 (den.natAbs:Int)).den:Int)=1:=by have:=of_decide_eq_false hc;omega
      refine QP<|QC<|QG<|QB<|QA (QD rfl)<|QA (QE rfl)<|QF<|QC<|QR ?_
      exact QN (()) rfl (.tmp rfl .nil) (by rw [← hq];exact congrArg (fun l=>tx l) (F4 hd1).symm) (fun F ⟨⟨hT,_⟩,_⟩=>trivial)
end
section
open Go.RowKit Ig
theorem NI:Qy 0=[48]:=by
 have h:(0:Rat).num=0:=rfl
 unfold Qy
 rw [if_pos (by rfl),h,Jh (by decide)];exact ZQ
theorem T9 (x:Rat):x.num<0↔x<0:=by rw [← Rat.not_le,← Rat.num_nonneg];omega
theorem SP (x:Rat):A1 (Qy x)=Qy (-x):=by
 unfold A1 W1
 rw [Vu]
 by_cases h0:Qy x=[48]
 ·rw [if_pos h0]
  have hx:x=0:=by
   have hv:=Z8 x.num
   by_cases hd:x.den=1
   ·rw [(Hu hd).1] at h0
    rw [h0] at hv
    have:x.num=0:=by rw [← hv];rfl
    exact Rat.num_eq_zero.1 this
   ·have:=(Kl hd).2.2.1
    have h1:=(Kl hd).2.1
    rw [h0] at h1
    have h2:=(Kl hd).1
    have h3:0<(Xc x.num).length:=by
     rcases Nat.eq_zero_or_pos (Xc x.num).length with g | g
     ·have e:=List.eq_nil_of_length_eq_zero g
      unfold Xc at e
      rcases Int.lt_or_le x.num 0 with q | q
      ·have:=Zj q;unfold Xc at this;rw [this] at e;cases e
      ·have:=Jh q;unfold Xc at this;rw [this] at e;exact absurd e (Y4 _)
     ·exact g
    rw [h0] at h2
    simp at h1;omega
  subst hx
  have e:(-0:Rat)=0:=by decide
  rw [e,if_neg (by decide),if_pos rfl]
 ·rw [if_neg h0]
  by_cases hn:x.num<0
  ·rw [if_pos (show(decide (x.num<0))=true by simpa using hn),if_pos (by decide),Bi hn];rfl
  ·rw [if_neg (show ¬ (decide (x.num<0))=true by simpa using hn),if_neg (by decide),if_neg (by decide)]
   have h1:(-x).num<0:=by
    rw [Rat.neg_num]
    have:x.num≠0:=by
     intro e
     have:=Rat.num_eq_zero.1 e
     subst this
     exact h0 NI
    omega
   have:=Bi h1
   rw [Rat.neg_neg] at this
   exact this.symm
theorem Tb (x:Rat):W1 (Qy x)=Ep x.num:=by
 unfold W1
 rw [Vu]
 by_cases h0:x=0
 ·subst h0;rw [if_pos NI];rfl
 ·have hn:x.num≠0:=fun e=>h0 (Rat.num_eq_zero.1 e)
  have h1:Qy x≠[48]:=by
   intro e
   have h2:=SP x
   unfold A1 W1 at h2
   rw [if_pos e,if_neg (by decide),if_pos rfl,e] at h2
   by_cases hd:x.den=1
   ·have hv:=Z8 x.num
    rw [← (Hu hd).1,e] at hv
    exact hn hv.symm
   ·have:=(Kl hd).2.2.1
    have hv:=Z8 x.num
    rw [← this,e] at hv
    have h3:=(Kl hd).2.1
    rw [e] at h3
    have h4:ahead Jp [48]=1:=by decide
    rw [h4] at h3
    exact absurd h3 (by decide)
  rw [if_neg h1]
  unfold Ep
  by_cases g:x.num<0
  ·rw [if_pos (show(decide (x.num<0))=true by simpa using g),if_pos g]
  ·rw [if_neg (show ¬ (decide (x.num<0))=true by simpa using g),if_neg g,if_neg hn]
theorem Nu (x:Rat):x.num / (x.den:Int)=x.floor:=(Rat.floor_def x).symm
theorem Li {x:Rat} (h:x.den=1):x.floor=x.num:=by rw [← Nu,h];exact Int.ediv_one _
theorem inv_divInt {x:Rat} (_:x.num≠0):Rat.divInt x.den x.num=x⁻¹:=(Rat.inv_def x).symm
theorem q7 (x:Rat):Ep x.num=if x<0 then -1 else if x=0 then 0 else 1:=by
 unfold Ep
 by_cases h:x<0
 ·rw [if_pos h,if_pos ((T9 x).2 h)]
 ·rw [if_neg h,if_neg (fun g=>h ((T9 x).1 g))]
  by_cases h0:x=0
  ·rw [if_pos h0,if_pos (Rat.num_eq_zero.2 h0)]
  ·rw [if_neg h0,if_neg (fun g=>h0 (Rat.num_eq_zero.1 g))]
theorem xL (x y:Rat):Ep (x - y).num=DL x y:=by
 rw [q7]
 unfold DL
 have h1:(x - y<0)↔x<y:=by grind
 have h2:(x - y=0)↔x=y:=by grind
 simp only [h1,h2]
theorem Sg (n:Int):Qy (n:Rat)=Xc n:=by unfold Qy;rw [if_pos (by simp)];simp
theorem R9 {w:World} {F:Gs} {x y:Rat} (hF:Fits F w) (hx:JQ x≤100000) (hy:JQ y≤100000):QV Tryz.prog 92 [tx (Qy x),tx (Qy y)] w F (tx (Qy (x+y))):=by
 refine QT.intro (G:=fun F=>True) Tryz.func92 rfl (by rfl) rfl rfl hF (fun F' hF'=>trivial)<|QG<|QB<|QA (QE rfl)<|QF<|QC<|QG<|QB<|QA (QD rfl)<|QH rfl (fun w F hF hT=>Be hF (hx)) (fun c17=>JJ _ (fun w F hF ⟨hT,h17⟩=>h17) (fun p17=>QA (QD rfl)<|QA (QM rfl rfl)<|QA (QM rfl rfl)<|QA (QM rfl rfl)<|QA (QE rfl)<|QA (QE rfl)<|QA (QE rfl)<|QF<|QC<|QG<|QB<|QA (QD rfl)<|QH rfl (fun w F hF ⟨hT,h17⟩=>Be hF (hy)) (fun c23=>JJ _ (fun w F hF ⟨⟨hT,h17⟩,h23⟩=>h23) (fun p23=>?_))))
 refine QA (QD rfl)<|QA (QM rfl rfl)<|QA (QM rfl rfl)<|QA (QM rfl rfl)<|QA (QE rfl)<|QA (QE rfl)<|QA (QE rfl)<|QF<|QC<|QG<|QG<|QB<|QA (QD rfl)<|QA (QD rfl) ?_
 refine Qk (t:=28) rfl (fun hb28=>?_) (fun hb28=>?_)
 ·
  refine QL rfl rfl<|QA (QD rfl)<|QA (Qj rfl rfl rfl)<|QF<|QC ?_
  refine QQ rfl (fun hc=>?_) (fun hc=>?_)
  ·
   refine QG ?_
   obtain ⟨a1,a2,a3,a4⟩:=p17 hb28
   obtain ⟨b1,b2,b3,b4⟩:=p23 hc
   have xd:=x.den_pos
   have yd:=y.den_pos
   have e1:(x.num*y.den).natAbs<1000000000*1000000000:=by rw [Int.natAbs_mul];exact Nat.mul_lt_mul_of_lt_of_lt a3 (by omega)
   have e2:(y.num*x.den).natAbs<1000000000*1000000000:=by rw [Int.natAbs_mul];exact Nat.mul_lt_mul_of_lt_of_lt b3 (by omega)
   have e3:(x.num*y.num).natAbs<1000000000*1000000000:=by rw [Int.natAbs_mul];exact Nat.mul_lt_mul_of_lt_of_lt a3 b3
   have e4:((x.den:Int)*y.den).natAbs<1000000000*1000000000:=by rw [Int.natAbs_mul];exact Nat.mul_lt_mul_of_lt_of_lt (by omega) (by omega)
   have e5:(x.den:Int)*y.den≠0:=by have h1:=ZP x;have h2:=ZP y;exact Int.mul_ne_zero h1 h2
   rw [a1,a2,b1,b2]
   refine QB<|QA (QD rfl)<|QA (QD rfl)<|QA (WI rfl rfl (by omega))<|QA (QD rfl)<|QA (QD rfl)<|QA (WI rfl rfl (by omega))<|QA (Qu rfl rfl (by omega))<|QA (QD rfl)<|QA (QD rfl)<|QA (WI rfl rfl (by omega))<|QH rfl (fun w F hF ⟨⟨hT,h17⟩,h23⟩=>xx hF (by omega) (by omega) (e5)) (fun _=>QA (QE rfl)<|QF<|QC<|QR ?_)
   exact QN (()) rfl (.tmp rfl .nil) (by rw [Vf]) (fun F ⟨⟨⟨hT,h17⟩,h23⟩,_⟩=>trivial)
  ·
   refine QP<|QC<|QG ?_
   have s1:=JV x
   have s2:=JR x
   have s3:=JV y
   have s4:=JR y
   have m1:=Zp x.num y.den
   have m2:=Zp y.num x.den
   have m3:=Zp (x.den:Int) y.den
   have m4:=Zp x.num y.num
   have m5:=M0 (x.num*y.den) (y.num*x.den)
   have e5:(x.den:Int)*y.den≠0:=Int.mul_ne_zero (ZP x) (ZP y)
   refine QB<|QA (QD rfl)<|QH rfl (fun w F hF ⟨⟨hT,h17⟩,h23⟩=>YU hF (hx)) (fun c44=>QA (QD rfl)<|QA (QM rfl rfl)<|QA (QM rfl rfl)<|QZ Xf (fun b11=>QZ Xf (fun b12=>QS (vs:=[_,_]) rfl rfl rfl Qv rfl (.there .here) (.here (.here .nil)) ⟨rfl,rfl,trivial⟩<|QS (vs:=[_,_]) rfl rfl rfl Qv rfl .here (.here (.here .nil)) ⟨rfl,rfl,trivial⟩<|QF<|QC<|QG<|QB<|QA (QD rfl)<|QH rfl (fun w F hF ⟨⟨⟨hT,h17⟩,h23⟩,h44⟩=>YU hF (hy)) (fun c49=>QA (QD rfl)<|QA (QM rfl rfl)<|QA (QM rfl rfl)<|QZ Xf (fun b13=>QZ Xf (fun b14=>QS (vs:=[_,_]) rfl rfl rfl Qv rfl (.there .here) (.here (.here .nil)) ⟨rfl,rfl,trivial⟩<|QS (vs:=[_,_]) rfl rfl rfl Qv rfl .here (.here (.here .nil)) ⟨rfl,rfl,trivial⟩<|QF<|QC ?_))))))
   refine QG<|JG (List.Sublist.refl _) mixed (by kernel_rfl)<|QK (QJ (vs:=[_,_]) rfl Qv (.there (.there (.there .here))) (.here (.here .nil)) rfl)<|QK (QJ (vs:=[_,_]) rfl Qv .here (.here (.here .nil)) rfl)<|QY rfl (fun w F hF ⟨⟨⟨⟨hT,h17⟩,h23⟩,h44⟩,h49⟩=>YT hF (h44.1) (h49.2) (by omega) (by omega)) (fun c54=>QK (QJ (vs:=[_,_]) rfl Qv (.there .here) (.here (.here .nil)) rfl)<|QK (QJ (vs:=[_,_]) rfl Qv (.there (.there .here)) (.here (.here .nil)) rfl)<|QY rfl (fun w F hF ⟨⟨⟨⟨⟨hT,h17⟩,h23⟩,h44⟩,h49⟩,h54⟩=>YT hF (h49.1) (h44.2) (by omega) (by omega)) (fun c57=>QY rfl (fun w F hF ⟨⟨⟨⟨⟨⟨hT,h17⟩,h23⟩,h44⟩,h49⟩,h54⟩,h57⟩=>Fx hF (h54) (h57) (by omega) (by omega)) (fun c58=>QK (QJ (vs:=[_,_]) rfl Qv (.there (.there .here)) (.here (.here .nil)) rfl)<|QK (QJ (vs:=[_,_]) rfl Qv .here (.here (.here .nil)) rfl)<|QY rfl (fun w F hF ⟨⟨⟨⟨⟨⟨⟨hT,h17⟩,h23⟩,h44⟩,h49⟩,h54⟩,h57⟩,h58⟩=>YT hF (h44.2) (h49.2) (by omega) (by omega)) (fun c61=>QY rfl (fun w F hF ⟨⟨⟨⟨⟨⟨⟨⟨hT,h17⟩,h23⟩,h44⟩,h49⟩,h54⟩,h57⟩,h58⟩,h61⟩=>Yl hF (h58) (h61) (e5) (by omega) (by omega)) (fun _=>QK (QE rfl)<|Q2<|QC<|QR ?_)))))
   exact QN (()) rfl (.tmp rfl .nil) (by rw [Vf]) (fun F ⟨⟨⟨⟨⟨⟨⟨⟨⟨hT,h17⟩,h23⟩,h44⟩,h49⟩,h54⟩,h57⟩,h58⟩,h61⟩,_⟩=>trivial)
 ·
  refine QO rfl rfl rfl<|QA (Qh rfl rfl rfl)<|QF<|QC<|ZE rfl<|QP<|QC<|QG ?_
  have s1:=JV x
  have s2:=JR x
  have s3:=JV y
  have s4:=JR y
  have m1:=Zp x.num y.den
  have m2:=Zp y.num x.den
  have m3:=Zp (x.den:Int) y.den
  have m4:=Zp x.num y.num
  have m5:=M0 (x.num*y.den) (y.num*x.den)
  have e5:(x.den:Int)*y.den≠0:=Int.mul_ne_zero (ZP x) (ZP y)
  refine QB<|QA (QD rfl)<|QH rfl (fun w F hF ⟨⟨hT,h17⟩,h23⟩=>YU hF (hx)) (fun c44=>QA (QD rfl)<|QA (QM rfl rfl)<|QA (QM rfl rfl)<|QZ Xf (fun b11=>QZ Xf (fun b12=>QS (vs:=[_,_]) rfl rfl rfl Qv rfl (.there .here) (.here (.here .nil)) ⟨rfl,rfl,trivial⟩<|QS (vs:=[_,_]) rfl rfl rfl Qv rfl .here (.here (.here .nil)) ⟨rfl,rfl,trivial⟩<|QF<|QC<|QG<|QB<|QA (QD rfl)<|QH rfl (fun w F hF ⟨⟨⟨hT,h17⟩,h23⟩,h44⟩=>YU hF (hy)) (fun c49=>QA (QD rfl)<|QA (QM rfl rfl)<|QA (QM rfl rfl)<|QZ Xf (fun b13=>QZ Xf (fun b14=>QS (vs:=[_,_]) rfl rfl rfl Qv rfl (.there .here) (.here (.here .nil)) ⟨rfl,rfl,trivial⟩<|QS (vs:=[_,_]) rfl rfl rfl Qv rfl .here (.here (.here .nil)) ⟨rfl,rfl,trivial⟩<|QF<|QC ?_))))))
  refine QG<|JG (List.Sublist.refl _) mixed (by kernel_rfl)<|QK (QJ (vs:=[_,_]) rfl Qv (.there (.there (.there .here))) (.here (.here .nil)) rfl)<|QK (QJ (vs:=[_,_]) rfl Qv .here (.here (.here .nil)) rfl)<|QY rfl (fun w F hF ⟨⟨⟨⟨hT,h17⟩,h23⟩,h44⟩,h49⟩=>YT hF (h44.1) (h49.2) (by omega) (by omega)) (fun c54=>QK (QJ (vs:=[_,_]) rfl Qv (.there .here) (.here (.here .nil)) rfl)<|QK (QJ (vs:=[_,_]) rfl Qv (.there (.there .here)) (.here (.here .nil)) rfl)<|QY rfl (fun w F hF ⟨⟨⟨⟨⟨hT,h17⟩,h23⟩,h44⟩,h49⟩,h54⟩=>YT hF (h49.1) (h44.2) (by omega) (by omega)) (fun c57=>QY rfl (fun w F hF ⟨⟨⟨⟨⟨⟨hT,h17⟩,h23⟩,h44⟩,h49⟩,h54⟩,h57⟩=>Fx hF (h54) (h57) (by omega) (by omega)) (fun c58=>QK (QJ (vs:=[_,_]) rfl Qv (.there (.there .here)) (.here (.here .nil)) rfl)<|QK (QJ (vs:=[_,_]) rfl Qv .here (.here (.here .nil)) rfl)<|QY rfl (fun w F hF ⟨⟨⟨⟨⟨⟨⟨hT,h17⟩,h23⟩,h44⟩,h49⟩,h54⟩,h57⟩,h58⟩=>YT hF (h44.2) (h49.2) (by omega) (by omega)) (fun c61=>QY rfl (fun w F hF ⟨⟨⟨⟨⟨⟨⟨⟨hT,h17⟩,h23⟩,h44⟩,h49⟩,h54⟩,h57⟩,h58⟩,h61⟩=>Yl hF (h58) (h61) (e5) (by omega) (by omega)) (fun _=>QK (QE rfl)<|Q2<|QC<|QR ?_)))))
  exact QN (()) rfl (.tmp rfl .nil) (by rw [Vf]) (fun F ⟨⟨⟨⟨⟨⟨⟨⟨⟨hT,h17⟩,h23⟩,h44⟩,h49⟩,h54⟩,h57⟩,h58⟩,h61⟩,_⟩=>trivial)
theorem WX {w:World} {F:Gs} {x y:Rat} (hF:Fits F w) (hx:JQ x≤100000) (hy:JQ y≤100000):QV Tryz.prog 93 [tx (Qy x),tx (Qy y)] w F (tx (Qy (x*y))):=by
 refine QT.intro (G:=fun F=>True) Tryz.func93 rfl (by rfl) rfl rfl hF (fun F' hF'=>trivial)<|QG<|QB<|QA (QE rfl)<|QF<|QC<|QG<|QB<|QA (QD rfl)<|QH rfl (fun w F hF hT=>Be hF (hx)) (fun c17=>JJ _ (fun w F hF ⟨hT,h17⟩=>h17) (fun p17=>QA (QD rfl)<|QA (QM rfl rfl)<|QA (QM rfl rfl)<|QA (QM rfl rfl)<|QA (QE rfl)<|QA (QE rfl)<|QA (QE rfl)<|QF<|QC<|QG<|QB<|QA (QD rfl)<|QH rfl (fun w F hF ⟨hT,h17⟩=>Be hF (hy)) (fun c23=>JJ _ (fun w F hF ⟨⟨hT,h17⟩,h23⟩=>h23) (fun p23=>?_))))
 refine QA (QD rfl)<|QA (QM rfl rfl)<|QA (QM rfl rfl)<|QA (QM rfl rfl)<|QA (QE rfl)<|QA (QE rfl)<|QA (QE rfl)<|QF<|QC<|QG<|QG<|QB<|QA (QD rfl)<|QA (QD rfl) ?_
 refine Qk (t:=28) rfl (fun hb28=>?_) (fun hb28=>?_)
 ·
  refine QL rfl rfl<|QA (QD rfl)<|QA (Qj rfl rfl rfl)<|QF<|QC ?_
  refine QQ rfl (fun hc=>?_) (fun hc=>?_)
  ·
   refine QG ?_
   obtain ⟨a1,a2,a3,a4⟩:=p17 hb28
   obtain ⟨b1,b2,b3,b4⟩:=p23 hc
   have xd:=x.den_pos
   have yd:=y.den_pos
   have e1:(x.num*y.den).natAbs<1000000000*1000000000:=by rw [Int.natAbs_mul];exact Nat.mul_lt_mul_of_lt_of_lt a3 (by omega)
   have e2:(y.num*x.den).natAbs<1000000000*1000000000:=by rw [Int.natAbs_mul];exact Nat.mul_lt_mul_of_lt_of_lt b3 (by omega)
   have e3:(x.num*y.num).natAbs<1000000000*1000000000:=by rw [Int.natAbs_mul];exact Nat.mul_lt_mul_of_lt_of_lt a3 b3
   have e4:((x.den:Int)*y.den).natAbs<1000000000*1000000000:=by rw [Int.natAbs_mul];exact Nat.mul_lt_mul_of_lt_of_lt (by omega) (by omega)
   have e5:(x.den:Int)*y.den≠0:=by have h1:=ZP x;have h2:=ZP y;exact Int.mul_ne_zero h1 h2
   rw [a1,a2,b1,b2]
   refine QB<|QA (QD rfl)<|QA (QD rfl)<|QA (WI rfl rfl (by omega))<|QA (QD rfl)<|QA (QD rfl)<|QA (WI rfl rfl (by omega))<|QH rfl (fun w F hF ⟨⟨hT,h17⟩,h23⟩=>xx hF (by omega) (by omega) (e5)) (fun _=>QA (QE rfl)<|QF<|QC<|QR ?_)
   exact QN (()) rfl (.tmp rfl .nil) (by rw [VW]) (fun F ⟨⟨⟨hT,h17⟩,h23⟩,_⟩=>trivial)
  ·
   refine QP<|QC<|QG ?_
   have s1:=JV x
   have s2:=JR x
   have s3:=JV y
   have s4:=JR y
   have m1:=Zp x.num y.den
   have m2:=Zp y.num x.den
   have m3:=Zp (x.den:Int) y.den
   have m4:=Zp x.num y.num
   have m5:=M0 (x.num*y.den) (y.num*x.den)
   have e5:(x.den:Int)*y.den≠0:=Int.mul_ne_zero (ZP x) (ZP y)
   refine QB<|QA (QD rfl)<|QH rfl (fun w F hF ⟨⟨hT,h17⟩,h23⟩=>YU hF (hx)) (fun c40=>QA (QD rfl)<|QA (QM rfl rfl)<|QA (QM rfl rfl)<|QZ Xf (fun b11=>QZ Xf (fun b12=>QS (vs:=[_,_]) rfl rfl rfl Qv rfl (.there .here) (.here (.here .nil)) ⟨rfl,rfl,trivial⟩<|QS (vs:=[_,_]) rfl rfl rfl Qv rfl .here (.here (.here .nil)) ⟨rfl,rfl,trivial⟩<|QF<|QC<|QG<|QB<|QA (QD rfl)<|QH rfl (fun w F hF ⟨⟨⟨hT,h17⟩,h23⟩,h40⟩=>YU hF (hy)) (fun c45=>QA (QD rfl)<|QA (QM rfl rfl)<|QA (QM rfl rfl)<|QZ Xf (fun b13=>QZ Xf (fun b14=>QS (vs:=[_,_]) rfl rfl rfl Qv rfl (.there .here) (.here (.here .nil)) ⟨rfl,rfl,trivial⟩<|QS (vs:=[_,_]) rfl rfl rfl Qv rfl .here (.here (.here .nil)) ⟨rfl,rfl,trivial⟩<|QF<|QC ?_))))))
   refine QG<|JG (List.Sublist.refl _) mixed (by kernel_rfl)<|QK (QJ (vs:=[_,_]) rfl Qv (.there (.there (.there .here))) (.here (.here .nil)) rfl)<|QK (QJ (vs:=[_,_]) rfl Qv (.there .here) (.here (.here .nil)) rfl)<|QY rfl (fun w F hF ⟨⟨⟨⟨hT,h17⟩,h23⟩,h40⟩,h45⟩=>YT hF (h40.1) (h45.1) (by omega) (by omega)) (fun c50=>QK (QJ (vs:=[_,_]) rfl Qv (.there (.there .here)) (.here (.here .nil)) rfl)<|QK (QJ (vs:=[_,_]) rfl Qv .here (.here (.here .nil)) rfl)<|QY rfl (fun w F hF ⟨⟨⟨⟨⟨hT,h17⟩,h23⟩,h40⟩,h45⟩,h50⟩=>YT hF (h40.2) (h45.2) (by omega) (by omega)) (fun c53=>QY rfl (fun w F hF ⟨⟨⟨⟨⟨⟨hT,h17⟩,h23⟩,h40⟩,h45⟩,h50⟩,h53⟩=>Yl hF (h50) (h53) (e5) (by omega) (by omega)) (fun _=>QK (QE rfl)<|Q2<|QC<|QR ?_)))
   exact QN (()) rfl (.tmp rfl .nil) (by rw [VW]) (fun F ⟨⟨⟨⟨⟨⟨⟨hT,h17⟩,h23⟩,h40⟩,h45⟩,h50⟩,h53⟩,_⟩=>trivial)
 ·
  refine QO rfl rfl rfl<|QA (Qh rfl rfl rfl)<|QF<|QC<|ZE rfl<|QP<|QC<|QG ?_
  have s1:=JV x
  have s2:=JR x
  have s3:=JV y
  have s4:=JR y
  have m1:=Zp x.num y.den
  have m2:=Zp y.num x.den
  have m3:=Zp (x.den:Int) y.den
  have m4:=Zp x.num y.num
  have m5:=M0 (x.num*y.den) (y.num*x.den)
  have e5:(x.den:Int)*y.den≠0:=Int.mul_ne_zero (ZP x) (ZP y)
  refine QB<|QA (QD rfl)<|QH rfl (fun w F hF ⟨⟨hT,h17⟩,h23⟩=>YU hF (hx)) (fun c40=>QA (QD rfl)<|QA (QM rfl rfl)<|QA (QM rfl rfl)<|QZ Xf (fun b11=>QZ Xf (fun b12=>QS (vs:=[_,_]) rfl rfl rfl Qv rfl (.there .here) (.here (.here .nil)) ⟨rfl,rfl,trivial⟩<|QS (vs:=[_,_]) rfl rfl rfl Qv rfl .here (.here (.here .nil)) ⟨rfl,rfl,trivial⟩<|QF<|QC<|QG<|QB<|QA (QD rfl)<|QH rfl (fun w F hF ⟨⟨⟨hT,h17⟩,h23⟩,h40⟩=>YU hF (hy)) (fun c45=>QA (QD rfl)<|QA (QM rfl rfl)<|QA (QM rfl rfl)<|QZ Xf (fun b13=>QZ Xf (fun b14=>QS (vs:=[_,_]) rfl rfl rfl Qv rfl (.there .here) (.here (.here .nil)) ⟨rfl,rfl,trivial⟩<|QS (vs:=[_,_]) rfl rfl rfl Qv rfl .here (.here (.here .nil)) ⟨rfl,rfl,trivial⟩<|QF<|QC ?_))))))
  refine QG<|JG (List.Sublist.refl _) mixed (by kernel_rfl)<|QK (QJ (vs:=[_,_]) rfl Qv (.there (.there (.there .here))) (.here (.here .nil)) rfl)<|QK (QJ (vs:=[_,_]) rfl Qv (.there .here) (.here (.here .nil)) rfl)<|QY rfl (fun w F hF ⟨⟨⟨⟨hT,h17⟩,h23⟩,h40⟩,h45⟩=>YT hF (h40.1) (h45.1) (by omega) (by omega)) (fun c50=>QK (QJ (vs:=[_,_]) rfl Qv (.there (.there .here)) (.here (.here .nil)) rfl)<|QK (QJ (vs:=[_,_]) rfl Qv .here (.here (.here .nil)) rfl)<|QY rfl (fun w F hF ⟨⟨⟨⟨⟨hT,h17⟩,h23⟩,h40⟩,h45⟩,h50⟩=>YT hF (h40.2) (h45.2) (by omega) (by omega)) (fun c53=>QY rfl (fun w F hF ⟨⟨⟨⟨⟨⟨hT,h17⟩,h23⟩,h40⟩,h45⟩,h50⟩,h53⟩=>Yl hF (h50) (h53) (e5) (by omega) (by omega)) (fun _=>QK (QE rfl)<|Q2<|QC<|QR ?_)))
  exact QN (()) rfl (.tmp rfl .nil) (by rw [VW]) (fun F ⟨⟨⟨⟨⟨⟨⟨hT,h17⟩,h23⟩,h40⟩,h45⟩,h50⟩,h53⟩,_⟩=>trivial)
theorem zh {w:World} {F:Gs} {x y:Rat} (hF:Fits F w) (hx:JQ x≤100000) (hy:JQ y≤100000):QV Tryz.prog 32 [tx (Qy x),tx (Qy y)] w F (tx (Qy (x - y))):=by
 have hly:=YB y
 refine QT.intro (G:=fun F=>True) Tryz.func32 rfl (by rfl) rfl rfl hF (fun F' hF'=>trivial)<|QG<|QB<|QA (QE rfl)<|QF<|QC<|QG<|QB<|QA (QD rfl)<|QA (QD rfl)<|QH rfl (fun w F hF hT=>Ov hF (by omega)) (fun _=>?_)
 rw [SP]
 refine QH rfl (fun w F hF ⟨hT,_⟩=>R9 hF (hx) (by rw [Ky];exact hy)) (fun _=>QA (QE rfl)<|QF<|QC<|QR ?_)
 exact QN (()) rfl (.tmp rfl .nil) (by rw [Rat.sub_eq_add_neg]) (fun F ⟨⟨hT,_⟩,_⟩=>trivial)
theorem Oq {w:World} {F:Gs} {x:Rat} (hF:Fits F w) (h0:x.num≠0) (hx:JQ x≤100000):QV Tryz.prog 127 [tx (Qy x)] w F (tx (Qy x⁻¹)):=by
 have s1:=JV x
 have s2:=JR x
 refine QT.intro (G:=fun F=>True) Tryz.func127 rfl (by rfl) rfl rfl hF (fun F' hF'=>trivial)<|QG<|QB<|QA (QE rfl)<|QF<|QC<|QG<|QB<|QA (QD rfl)<|QH rfl (fun w F hF hT=>YU hF (hx)) (fun c7=>QA (QD rfl)<|QA (QM rfl rfl)<|QA (QM rfl rfl)<|QZ Xf (fun b3=>QZ Xf (fun b4=>QS (vs:=[_,_]) rfl rfl rfl Qv rfl (.there .here) (.here (.here .nil)) ⟨rfl,rfl,trivial⟩<|QS (vs:=[_,_]) rfl rfl rfl Qv rfl .here (.here (.here .nil)) ⟨rfl,rfl,trivial⟩<|QF<|QC<|QG<|QB<|QA (QJ (vs:=[_,_]) rfl Qv .here (.here (.here .nil)) rfl)<|QA (QJ (vs:=[_,_]) rfl Qv (.there .here) (.here (.here .nil)) rfl)<|QH rfl (fun w F hF ⟨hT,h7⟩=>Yl hF (h7.2) (h7.1) (h0) (by omega) (by omega)) (fun _=>QA (QE rfl) ?_))))
 refine QF<|QC<|QR ?_
 exact QN (()) rfl (.tmp rfl .nil) (by rw [inv_divInt h0]) (fun F ⟨⟨hT,h7⟩,_⟩=>trivial)
theorem Aj {w:World} {F:Gs} {x y:Rat} (hF:Fits F w) (h0:y.num≠0) (hx:JQ x≤100000) (hy:JQ y≤100000):QV Tryz.prog 37 [tx (Qy x),tx (Qy y)] w F (tx (Qy (x / y))):=by
 refine QT.intro (G:=fun F=>True) Tryz.func37 rfl (by rfl) rfl rfl hF (fun F' hF'=>trivial)<|QG<|QB<|QA (QE rfl)<|QF<|QC<|QG<|QB<|QA (QD rfl)<|QA (QD rfl)<|QH rfl (fun w F hF hT=>Oq hF (h0) (hy)) (fun _=>QH rfl (fun w F hF ⟨hT,_⟩=>WX hF (hx) (by have:=E6 h0;omega)) (fun _=>QA (QE rfl)<|QF<|QC<|QR ?_))
 exact QN (()) rfl (.tmp rfl .nil) (by rw [Rat.div_def]) (fun F ⟨⟨hT,_⟩,_⟩=>trivial)
theorem Al {w:World} {F:Gs} {x y:Rat} (hF:Fits F w) (hx:JQ x≤30000) (hy:JQ y≤30000):QV Tryz.prog 30 [tx (Qy x),tx (Qy y)] w F (.int .i64 (DL x y)):=by
 refine QT.intro (G:=fun F=>True) Tryz.func30 rfl (by rfl) rfl rfl hF (fun F' hF'=>trivial)<|QG<|QB<|QA (QE rfl)<|QF<|QC<|QG<|QB<|QA (QD rfl)<|QA (QD rfl)<|QH rfl (fun w F hF hT=>zh hF (by omega) (by omega)) (fun _=>QH rfl (fun w F hF ⟨hT,_⟩=>MB hF ) (fun _=>QA (QE rfl)<|QF<|QC<|QR ?_))
 exact QN (()) rfl (.tmp rfl .nil) (by rw [Tb,xL]) (fun F ⟨⟨hT,_⟩,_⟩=>trivial)
theorem NC {w:World} {F:Gs} {x:Rat} (hF:Fits F w) (hx:JQ x≤100000):QV Tryz.prog 91 [tx (Qy x)] w F (tx (Qy ((x.floor:Int):Rat))):=by
 have hl:=YB x
 have s1:=JV x
 have s2:=JR x
 have s3:=WD x
 refine QT.intro (G:=fun F=>True) Tryz.func91 rfl (by rfl) rfl rfl hF (fun F' hF'=>trivial)<|QG<|QB<|QA (QE rfl)<|QF<|QC<|QG<|QG<|QB<|QA (QD rfl)<|QH rfl (fun w F hF hT=>On hF (by omega)) (fun _=>QF<|QC ?_)
 refine QQ rfl (fun hc=>?_) (fun hc=>?_)
 ·
  have hd:x.den=1:=(Hv x).1 (by simpa using hc)
  refine QG<|QB<|QA (QD rfl)<|QA (QE rfl)<|QF<|QC<|QR ?_
  exact QN (()) rfl (.tmp rfl .nil) (by rw [Sg,Li hd,(Hu hd).1]) (fun F ⟨hT,_⟩=>trivial)
 ·
  refine QP<|QC<|QG<|QB<|QA (QD rfl)<|QH rfl (fun w F hF ⟨hT,_⟩=>YU hF (hx)) (fun c10=>QA (QD rfl)<|QA (QM rfl rfl)<|QA (QM rfl rfl)<|QZ Xf (fun b3=>QZ Xf (fun b4=>QS (vs:=[_,_]) rfl rfl rfl Qv rfl (.there .here) (.here (.here .nil)) ⟨rfl,rfl,trivial⟩<|QS (vs:=[_,_]) rfl rfl rfl Qv rfl .here (.here (.here .nil)) ⟨rfl,rfl,trivial⟩<|QF<|QC<|QG<|QB<|QA (QJ (vs:=[_,_]) rfl Qv (.there .here) (.here (.here .nil)) rfl)<|QA (QJ (vs:=[_,_]) rfl Qv .here (.here (.here .nil)) rfl)<|QH rfl (fun w F hF ⟨⟨hT,_⟩,h10⟩=>Tq hF (h10.1) (h10.2) (by have:=den_pos x;omega) (by omega) (by omega)) (fun c15=>QH rfl (fun w F hF ⟨⟨⟨hT,_⟩,h10⟩,h15⟩=>MA hF (h15) (by rw [Nu];omega)) (fun _=>QA (QE rfl)<|QF<|QC<|QR ?_)))))
  exact QN (()) rfl (.tmp rfl .nil) (by rw [Sg,Nu]) (fun F ⟨⟨⟨⟨hT,_⟩,h10⟩,h15⟩,_⟩=>trivial)
end
section
open Go.RowKit Ig
theorem Iy {w:World} {F:Gs} {s:List UInt8} (hF:Fits F w) (hl:s.length≤1000000) (h1:XF (Lib.trimPrefix (s.take (ahead Jp s)) [45])=true) (h2:ahead Jp s<s.length→XF (Lib.trimPrefix (s.drop (ahead Jp s+1)) [45])=true):QT Tryz.prog 119 [tx s] w F Ri.v2 (fun c F=>YW F c.1 (Zt (s.take (ahead Jp s)))∧(ahead Jp s<s.length→YW F c.2 (Zt (s.drop (ahead Jp s+1))))):=by
 have hah:=Y5 Jp s
 refine QT.intro (G:=fun F=>True) Tryz.func119 rfl (by rfl) rfl rfl hF (fun F' hF'=>trivial)<|QG<|QB<|QZ Xf (fun b2=>QZ Xf (fun b3=>QF<|QC<|QG<|QB<|QA (QD rfl)<|QA (QE rfl)<|QF<|QC<|QG<|QB<|QA (QD rfl)<|QH rfl (fun w F hF hT=>VP hF (by omega)) (fun _=>QA (QE rfl)<|QF<|QC<|QG<|QG<|QB<|QA (QD rfl)<|QA (QD rfl) ?_)))
 refine QA (Jq rfl J8)<|QA (QU rfl rfl rfl)<|QF<|QC ?_
 refine QQ rfl (fun hc=>?_) (fun hc=>?_)
 ·
  have hd:ahead Jp s=s.length:=by have:(ahead Jp s:Int)=(s.length:Int):=(by simpa using hc);omega
  refine QG<|QB<|QA (QD rfl)<|QH rfl (fun w F hF ⟨hT,_⟩=>WG hF (by rw [hd,List.take_length] at h1;exact h1) (by omega)) (fun c14=>QH rfl (fun w F hF ⟨⟨hT,_⟩,h14⟩=>Gm hF (by decide)) (fun c15=>QS (vs:=[_,_]) rfl rfl rfl Qv rfl (.there .here) (.here (.here .nil)) ⟨rfl,rfl,trivial⟩<|QS (vs:=[_,_]) rfl rfl rfl Qv rfl .here (.here (.here .nil)) ⟨rfl,rfl,trivial⟩<|QF<|QC<|QR ?_))
  exact Jb ((c14,c15):Ri×Ri) rfl (.JX (c:=[_,_]) rfl Qv (.there .here) (.JX (c:=[_,_]) rfl Qv .here .nil)) (rfl) (fun F ⟨⟨⟨hT,_⟩,h14⟩,h15⟩=>⟨by rw [hd,List.take_length];exact h14,fun g=>by omega⟩)
 ·
  have hd:ahead Jp s<s.length:=by rcases Nat.lt_or_ge (ahead Jp s) s.length with g | g;exact g;exact absurd (show ahead Jp s=s.length by omega) (fun e=>by rw [e] at hc;simp at hc)
  refine QP<|QC<|QG<|JG (.cons _ (.cons _ .slnil)) mixed (by kernel_rfl)<|QK (QD rfl)<|QK (QD rfl)<|QK (Vv (ahead Jp s) rfl rfl J8 rfl (by omega))<|QY rfl (fun w F hF ⟨hT,_⟩=>WG hF (h1) (by rw [List.length_take];omega)) (fun c19=>QK (QD rfl)<|QK (QD rfl)<|QK (Qu rfl rfl (by omega))<|QK (Zu ((ahead Jp s+1)) rfl rfl J8 (congrArg (fun z:Int=>some (Value.int .i64 z)) (by omega)) (by omega))<|QY rfl (fun w F hF ⟨⟨hT,_⟩,B1⟩=>WG hF (h2 hd) (by rw [List.length_drop];omega)) (fun c24=>JU (vs:=[_,_]) rfl rfl rfl Qv rfl (.there .here) (.cons _ .slnil) (fun _ h=>h.1.1) (.here (.here .nil)) ⟨rfl,rfl,trivial⟩<|JU (vs:=[_,_]) rfl rfl rfl Qv rfl .here (.cons _ .slnil) (fun _ h=>h.1.1) (.here (.here .nil)) ⟨rfl,rfl,trivial⟩<|Q2<|QC<|QR ?_))
  exact Jb ((c19,c24):Ri×Ri) rfl (.JX (c:=[_,_]) rfl Qv (.there .here) (.JX (c:=[_,_]) rfl Qv .here .nil)) (rfl) (fun F ⟨⟨⟨hT,_⟩,B1⟩,h24⟩=>⟨B1,fun _=>h24⟩)
def Ph (s:List UInt8):Bool:=!J1 ((Lib.trimPrefix s [45]).take (ahead Jp (Lib.trimPrefix s [45])))||(Lib.hasPrefix s [45]&&(Lib.trimPrefix s [45]).take (ahead Jp (Lib.trimPrefix s [45]))==[48])
def BD (s:List UInt8):List UInt8:=(Lib.trimPrefix s [45]).drop (ahead Jp (Lib.trimPrefix s [45])+1)
def GG (s:List UInt8):Bool:=decide (ahead Jp (Lib.trimPrefix s [45])<(Lib.trimPrefix s [45]).length)
def PB (s:List UInt8):Bool:=GG s&&(!J1 (BD s)||(BD s==[48]||BD s==[49]))
def S1 (s:List UInt8):Bool:=decide (600<ahead Jp (Lib.trimPrefix s [45]))||decide (600<(BD s).length)
def Si (s:List UInt8):Bool:=GG s&&!(Nat.gcd (Q9 ((Lib.trimPrefix s [45]).take (ahead Jp (Lib.trimPrefix s [45])))) (Q9 (BD s))==1)
def GV (s:List UInt8):Int:=if Ph s=true then 1 else if PB s=true then 1 else if S1 s=true then 4 else if Si s=true then 1 else 0
theorem Mr {l:List UInt8} (h:(!J1 l)=false):0<l.length:=by
 rcases Nat.eq_zero_or_pos l.length with g | g
 ·rw [List.eq_nil_of_length_eq_zero g] at h;simp [J1] at h
 ·exact g
theorem qn {p:UInt8→Bool} {s:List UInt8} (h:∀ c∈s,p c=true):s.takeWhile p=s:=by
 induction s with
 |nil=>rfl
 |cons c r ih=>rw [List.takeWhile_cons_of_pos (h c (by simp)),ih (fun d hd=>h d (by simp [hd]))]
theorem Fp {l:List UInt8} (h:XF l=true):sz (Q9 l:Int)≤4*l.length:=by
 rw [X1]
 have h1:=VQ h
 have h2:10^l.length≤2^(4*l.length):=by rw [Nat.pow_mul];exact Nat.pow_le_pow_left (by decide) _
 simp;omega
theorem L6 (s:List UInt8):(Xt 47 s).1=s.take (ahead Jp s)∧(Xt 47 s).2.1=s.drop (ahead Jp s+1)∧(Xt 47 s).2.2=decide (ahead Jp s<s.length):=by
 have hf:(fun c:UInt8=>!Jp c)=fun c=>c != 47:=by funext c;simp [Jp,bne]
 have h1:=KP (fun c:UInt8=>c != 47) s
 have ha:ahead Jp s=(s.takeWhile (fun c=>c != 47)).length:=by unfold ahead;rw [hf]
 rw [ha]
 by_cases hc:s.contains 47=true
 ·have e:Xt 47 s=(s.takeWhile (· != 47),(s.dropWhile (· != 47)).drop 1,true):=by unfold Xt;rw [if_pos hc]
  rw [e]
  obtain ⟨r,hr⟩:=Hk (show(47:UInt8)∈s by simpa using hc)
  have hd:=h1.2
  rw [hr] at hd
  refine⟨h1.1.symm,?_,?_⟩
  ·show(s.dropWhile (· != 47)).drop 1=_
   rw [hr,← List.drop_drop,hd]
  ·have:(s.takeWhile (fun c=>c != 47)).length<s.length:=by
    have:=congrArg List.length hd
    rw [List.length_drop,List.length_cons] at this;omega
   simp [this]
 ·have e:Xt 47 s=(s,[],false):=by unfold Xt;rw [if_neg hc]
  rw [e]
  have h2:s.takeWhile (fun c=>c != 47)=s:=by
   refine qn fun c hm=>?_
   have:c≠47:=by rintro rfl;exact hc (by simpa using hm)
   simpa using this
  rw [h2]
  simp
theorem OP (s:List UInt8):Lib.trimPrefix (Xt 47 s).1 [45]=(Xt 47 (Lib.trimPrefix s [45])).1∧Lib.hasPrefix (Xt 47 s).1 [45]=Lib.hasPrefix s [45]∧(Xt 47 s).2=(Xt 47 (Lib.trimPrefix s [45])).2:=by
 cases s with
 |nil=>exact⟨rfl,rfl,rfl⟩
 |cons c r =>
  by_cases hc:c=45
  ·subst hc
   have e:Lib.trimPrefix (45::r) [45]=r:=rfl
   rw [e]
   unfold Xt
   have h0:((45:UInt8)::r).contains 47=r.contains 47:=by simp
   rw [h0]
   split
   ·exact⟨rfl,rfl,rfl⟩
   ·exact⟨rfl,rfl,rfl⟩
  ·have hp:Lib.hasPrefix (c::r) [45]=false:=by
    rw [Y1 (by simp)];simpa using hc
   have e:Lib.trimPrefix (c::r) [45]=c::r:=by unfold Lib.trimPrefix;rw [if_neg (by rw [hp];decide)]
   rw [e]
   have e2:∀ l:List UInt8,Lib.hasPrefix l [45]=false→Lib.trimPrefix l [45]=l:=fun l h=>by unfold Lib.trimPrefix;rw [if_neg (by rw [h];decide)]
   have h3:Lib.hasPrefix (Xt 47 (c::r)).1 [45]=false:=by
    unfold Xt
    split
    ·by_cases h47:c=47
     ·subst h47;rfl
     ·rw [List.takeWhile_cons_of_pos (by simpa using h47),Y1 (by simp)];simpa using hc
    ·exact hp
   exact⟨e2 _ h3,by rw [h3,hp],rfl⟩
theorem xO {s:List UInt8} (h1:Ph s=false) (h2:PB s=false) (hk:ahead Jp (Lib.trimPrefix s [45])<(Lib.trimPrefix s [45]).length):XF ((Lib.trimPrefix s [45]).take (ahead Jp (Lib.trimPrefix s [45])))=true∧XF (BD s)=true:=by
 have hs:GG s=true:=by simp [GG];exact hk
 simp only [Ph,Bool.or_eq_false_iff,Bool.not_eq_false'] at h1
 simp only [PB,hs,Bool.true_and,Bool.or_eq_false_iff,Bool.not_eq_false'] at h2
 exact⟨KE h1.1,KE h2.1⟩
theorem Lz (s:List UInt8):GV s=Jg s:=by
 obtain ⟨t1,t2,t3⟩:=OP s
 obtain ⟨c1,c2,c3⟩:=L6 (Lib.trimPrefix s [45])
 have t4:(Xt 47 s).2.1=BD s:=by rw [t3,c2];rfl
 have t5:(Xt 47 s).2.2=GG s:=by rw [t3,c3];rfl
 have hlen:(Lib.trimPrefix s [45]).take (ahead Jp (Lib.trimPrefix s [45]))=(Lib.trimPrefix s [45]).take (ahead Jp (Lib.trimPrefix s [45])):=rfl
 have hk:((Lib.trimPrefix s [45]).take (ahead Jp (Lib.trimPrefix s [45]))).length=ahead Jp (Lib.trimPrefix s [45]):=by
  rw [List.length_take];have:=Y5 Jp (Lib.trimPrefix s [45]);omega
 unfold Jg GW GV Fe Ph PB S1 Si
 rw [t1,t2,t4,t5,c1,hk]
 generalize (Lib.trimPrefix s [45]).take (ahead Jp (Lib.trimPrefix s [45]))=a
 generalize BD s=d
 generalize GG s=f
 generalize Lib.hasPrefix s [45]=n
 have e:(!J1 a||(n&&a==[48])||(f&&(!J1 d||d==[48]||d==[49])))=((!J1 a||(n&&a==[48]))||(f&&(!J1 d||(d==[48]||d==[49])))):=by rw [Bool.or_assoc (!J1 d)]
 rw [e]
 cases (!J1 a||(n&&a==[48]))<;>cases (f&&(!J1 d||(d==[48]||d==[49])))<;>rfl
theorem Bh {w:World} {F:Gs} {s:List UInt8} (hF:Fits F w) (hl:s.length≤1000000):QV Tryz.prog 20 [tx s] w F (.int .i64 (Jg s)):=by
 rw [← Lz]
 have hln:(Lib.trimPrefix s [45]).length≤s.length:=BN _ _
 have hah:=Y5 Jp (Lib.trimPrefix s [45])
 refine QT.intro (G:=fun F=>True) Tryz.func20 rfl (by rfl) rfl rfl hF (fun F' hF'=>trivial)<|QG<|QB<|QA (QE rfl)<|QF<|QC<|QG<|QB<|QA (QD rfl)<|QA (QE rfl)<|QF<|QC ?_
 refine Ze [(0,_)] [(3,tx (Lib.trimPrefix s [45]))] ⟨rfl,trivial⟩ ?_ ?_
 ·
  refine Ze [(0,_),(3,_)] [(16,.bool (Lib.hasPrefix s [45]))] ⟨rfl,rfl,trivial⟩ ?_ ?_
  ·
   refine QB<|QA (QD rfl)<|QA (Jq rfl J8)<|QA (QU rfl rfl rfl)<|QA (QD rfl) ?_
   refine Qk (t:=12) rfl (fun hb12=>?_) (fun hb12=>?_)
   ·
    refine QL rfl rfl<|QA (QD rfl)<|QL rfl rfl<|QA (KI (i:=0) rfl rfl J8 (by have:=of_decide_eq_true hb12;omega))<|QL rfl rfl<|QA (QU rfl rfl rfl)<|QA (Qj rfl rfl rfl)<|QF ?_
    exact J2 ⟨rfl,rfl,(congrArg (fun b=>some (Value.bool b)) (by have h0:0<s.length:=(by have:=of_decide_eq_true hb12;omega);rw [Y1 h0];exact GA rfl)),trivial⟩ (List.Sublist.refl _) (fun _ h=>h)
   ·
    refine QO rfl rfl rfl<|QO rfl rfl rfl<|QO rfl rfl rfl<|QA (Qh rfl rfl rfl)<|QF ?_
    exact J2 ⟨rfl,rfl,(congrArg (fun b=>some (Value.bool b)) (by have h0:s.length=0:=(by have:=of_decide_eq_false hb12;omega);rw [List.eq_nil_of_length_eq_zero h0];rfl)),trivial⟩ (List.Sublist.refl _) (fun _ h=>h)
  ·
   simp only [List.cons_append,List.nil_append]
   refine QQ rfl (fun hc=>?_) (fun hc=>?_)
   ·
    refine QB<|QA (QD rfl)<|QA (Zu (1) rfl rfl J8 rfl (Hy hc))<|QA (QE rfl)<|QF ?_
    exact J2 ⟨rfl,(congrArg (fun l=>some (tx l)) (by unfold Lib.trimPrefix;rw [if_pos hc];rfl)),trivial⟩ (List.Sublist.refl _) (fun _ h=>h)
   ·
    refine QP ?_
    exact J2 ⟨rfl,(congrArg (fun l=>some (tx l)) (by unfold Lib.trimPrefix;rw [hc];rfl)),trivial⟩ (List.Sublist.refl _) (fun _ h=>h)
 ·
  simp only [List.cons_append,List.nil_append]
  refine QG<|QB<|QA (QD rfl)<|QH rfl (fun w F hF hT=>VP hF (by omega)) (fun _=>QA (QE rfl)<|QF<|QC<|QG ?_)
  refine Ze [(3,_),(4,_)] [(36,.bool (Ph s))] ⟨rfl,rfl,trivial⟩ ?_ ?_
  ·
   refine QB<|QA (QD rfl)<|QA (QD rfl)<|QA (Vv ((ahead Jp (Lib.trimPrefix s [45]))) rfl rfl J8 rfl (by omega))<|QH rfl (fun w F hF ⟨hT,_⟩=>F2 hF (by rw [List.length_take];omega)) (fun _=>QA (YV rfl)<|QA (QD rfl) ?_)
   refine Qk (t:=26) rfl (fun hb26=>?_) (fun hb26=>?_)
   ·
    refine QO rfl rfl rfl<|QO rfl rfl rfl<|QO rfl rfl rfl<|QO rfl rfl rfl<|JO rfl rfl<|JO rfl rfl<|JO rfl rfl<|JO rfl rfl<|QO rfl rfl rfl<|QA (Qj rfl rfl rfl)<|QF ?_
    exact J2 ⟨rfl,rfl,(congrArg (fun b=>some (Value.bool b)) (by simp [Ph] at hb26 ⊢;simp [hb26])),trivial⟩ (List.Sublist.refl _) (fun _ h=>h.1)
   ·
    refine QL rfl rfl<|QA (QD rfl)<|QL rfl rfl<|QA (KI (i:=0) rfl rfl WE (by have h1:=Mr hb26;rw [List.length_take] at h1;omega))<|QL rfl rfl<|QA (QU rfl rfl rfl)<|QL rfl rfl<|QA (QD rfl) ?_
    refine Qk (t:=30) rfl (fun hb30=>?_) (fun hb30=>?_)
    ·
     refine QL rfl rfl<|QA (QD rfl)<|QL rfl rfl<|QA (QD rfl)<|QL rfl rfl<|QA (Vv ((ahead Jp (Lib.trimPrefix s [45]))) rfl rfl J8 rfl (by omega))<|QL rfl rfl<|QA (Za rfl rfl)<|QL rfl rfl<|QA (Qj rfl rfl rfl)<|QA (Qh rfl rfl rfl)<|QF ?_
     exact J2 ⟨rfl,rfl,(congrArg (fun b=>some (Value.bool b)) (by have h0:0<s.length:=(by have h1:=Mr hb26;rw [List.length_take] at h1;omega);have hp:Lib.hasPrefix s [45]=true:=(by rw [Y1 h0,← GA (z:=45) rfl];exact hb30);simp [Ph] at hb26 ⊢;simp [hb26,hp])),trivial⟩ (List.Sublist.refl _) (fun _ h=>h.1)
    ·
     refine QO rfl rfl rfl<|QO rfl rfl rfl<|QO rfl rfl rfl<|QO rfl rfl rfl<|QL rfl rfl<|QA (Qh rfl rfl rfl)<|QA (Qh rfl rfl rfl)<|QF ?_
     exact J2 ⟨rfl,rfl,(congrArg (fun b=>some (Value.bool b)) (by have h0:0<s.length:=(by have h1:=Mr hb26;rw [List.length_take] at h1;omega);have hp:Lib.hasPrefix s [45]=false:=(by rw [Y1 h0,← GA (z:=45) rfl];exact hb30);simp [Ph] at hb26 ⊢;simp [hb26,hp])),trivial⟩ (List.Sublist.refl _) (fun _ h=>h.1)
  ·
   simp only [List.cons_append,List.nil_append]
   refine QQ rfl (fun hc=>?_) (fun hc=>?_)
   ·
    have hb1:Ph s=true:=hc
    refine QG<|QB<|QA (QE rfl)<|QF<|QC<|QR ?_
    exact QN (()) rfl (.tmp rfl .nil) (congrArg (Value.int .i64) (by simp [GV,hb1])) (fun F ⟨hT,_⟩=>trivial)
   ·
    have hb1:Ph s=false:=hc
    refine QP<|QC<|QG ?_
    refine Ze [(3,_),(4,_)] [(62,.bool (PB s))] ⟨rfl,rfl,trivial⟩ ?_ ?_
    ·
     refine QB<|QA (QD rfl)<|QA (QD rfl)<|QA (Jq rfl J8)<|QA (QU rfl rfl rfl)<|QA (QD rfl) ?_
     refine Qk (t:=41) rfl (fun hb41=>?_) (fun hb41=>?_)
     ·
      refine QL rfl rfl<|QA (QD rfl)<|QL rfl rfl<|QA (QD rfl)<|QL rfl rfl<|QA (Qu rfl rfl (by omega))<|QL rfl rfl<|QA (Zu (((ahead Jp (Lib.trimPrefix s [45]))+1)) rfl rfl J8 (congrArg (fun z:Int=>some (Value.int .i64 z)) (by omega)) (by have:=of_decide_eq_true hb41;omega))<|QL rfl rfl<|QH rfl (fun w F hF ⟨hT,_⟩=>F2 hF (by rw [List.length_drop];omega)) (fun _=>QL rfl rfl<|QA (YV rfl)<|QL rfl rfl<|QA (QD rfl) ?_)
      refine Qk (t:=48) rfl (fun hb48=>?_) (fun hb48=>?_)
      ·
       refine QO rfl rfl rfl<|QO rfl rfl rfl<|QO rfl rfl rfl<|QO rfl rfl rfl<|QO rfl rfl rfl<|QL rfl rfl<|QA (Qj rfl rfl rfl)<|QL rfl rfl<|QA (QD rfl)<|QO rfl rfl rfl<|QO rfl rfl rfl<|QO rfl rfl rfl<|QO rfl rfl rfl<|QO rfl rfl rfl<|QL rfl rfl<|QA (Qj rfl rfl rfl)<|QA (Qj rfl rfl rfl)<|QF ?_
       exact J2 ⟨rfl,rfl,(congrArg (fun b=>some (Value.bool b)) (by have h1:GG s=true:=(by simp [GG];simpa using hb41);simp [PB,h1];simp at hb48;exact .inl hb48)),trivial⟩ (List.Sublist.refl _) (fun _ h=>h.1)
      ·
       refine QL rfl rfl<|QA (QD rfl)<|QL rfl rfl<|QA (QD rfl)<|QL rfl rfl<|QA (Qu rfl rfl (by omega))<|QL rfl rfl<|QA (Zu (((ahead Jp (Lib.trimPrefix s [45]))+1)) rfl rfl J8 (congrArg (fun z:Int=>some (Value.int .i64 z)) (by omega)) (by have:=of_decide_eq_true hb41;omega))<|QL rfl rfl<|QA (Za rfl rfl)<|QL rfl rfl<|QA (Qh rfl rfl rfl)<|QL rfl rfl<|QA (QD rfl) ?_
       refine Qk (t:=55) rfl (fun hb55=>?_) (fun hb55=>?_)
       ·
        refine QO rfl rfl rfl<|QO rfl rfl rfl<|QO rfl rfl rfl<|QO rfl rfl rfl<|QO rfl rfl rfl<|QL rfl rfl<|QA (Qj rfl rfl rfl)<|QA (Qj rfl rfl rfl)<|QF ?_
        exact J2 ⟨rfl,rfl,(congrArg (fun b=>some (Value.bool b)) (by have h1:GG s=true:=(by simp [GG];simpa using hb41);simp [PB,h1];exact .inr (.inl (by simpa [BD] using hb55)))),trivial⟩ (List.Sublist.refl _) (fun _ h=>h.1)
       ·
        refine QL rfl rfl<|QA (QD rfl)<|QL rfl rfl<|QA (QD rfl)<|QL rfl rfl<|QA (Qu rfl rfl (by omega))<|QL rfl rfl<|QA (Zu (((ahead Jp (Lib.trimPrefix s [45]))+1)) rfl rfl J8 (congrArg (fun z:Int=>some (Value.int .i64 z)) (by omega)) (by have:=of_decide_eq_true hb41;omega))<|QL rfl rfl<|QA (Za rfl rfl)<|QL rfl rfl<|QA (Qh rfl rfl rfl)<|QA (Qj rfl rfl rfl)<|QF ?_
        exact J2 ⟨rfl,rfl,(congrArg (fun b=>some (Value.bool b)) (by have h1:GG s=true:=(by simp [GG];simpa using hb41);simp at hb48 hb55;simp [PB,h1,BD,hb48,hb55])),trivial⟩ (List.Sublist.refl _) (fun _ h=>h.1)
     ·
      refine QO rfl rfl rfl<|QO rfl rfl rfl<|QO rfl rfl rfl<|QO rfl rfl rfl<|QO rfl rfl rfl<|QO rfl rfl rfl<|QO rfl rfl rfl<|JO rfl rfl<|JO rfl rfl<|JO rfl rfl<|JO rfl rfl<|JO rfl rfl<|QO rfl rfl rfl<|QO rfl rfl rfl<|JO rfl rfl<|JO rfl rfl<|JO rfl rfl<|JO rfl rfl<|JO rfl rfl<|QO rfl rfl rfl<|QA (Qh rfl rfl rfl)<|QF ?_
      exact J2 ⟨rfl,rfl,(congrArg (fun b=>some (Value.bool b)) (by have h1:GG s=false:=(by simp [GG];simpa using hb41);simp [PB,h1])),trivial⟩ (List.Sublist.refl _) (fun _ h=>h)
    ·
     simp only [List.cons_append,List.nil_append]
     refine QQ rfl (fun hc=>?_) (fun hc=>?_)
     ·
      have hb2:PB s=true:=hc
      refine QG<|QB<|QA (QE rfl)<|QF<|QC<|QR ?_
      exact QN (()) rfl (.tmp rfl .nil) (congrArg (Value.int .i64) (by simp [GV,hb1,hb2])) (fun F ⟨hT,_⟩=>trivial)
     ·
      have hb2:PB s=false:=hc
      refine QP<|QC<|QG ?_
      refine Ze [(3,_),(4,_)] [(72,.bool (S1 s))] ⟨rfl,rfl,trivial⟩ ?_ ?_
      ·
       refine QB<|QA (QD rfl)<|QA (QU rfl rfl rfl)<|QA (QD rfl) ?_
       refine Qk (t:=65) rfl (fun hb65=>?_) (fun hb65=>?_)
       ·
        refine QO rfl rfl rfl<|QO rfl rfl rfl<|QO rfl rfl rfl<|QO rfl rfl rfl<|QO rfl rfl rfl<|QO rfl rfl rfl<|QA (Qj rfl rfl rfl)<|QF ?_
        exact J2 ⟨rfl,rfl,(congrArg (fun b=>some (Value.bool b)) (by have:=of_decide_eq_true hb65;simp [S1];left;omega)),trivial⟩ (List.Sublist.refl _) (fun _ h=>h)
       ·
        refine QL rfl rfl<|QA (QD rfl)<|QL rfl rfl<|QA (Jq rfl J8)<|QL rfl rfl<|QA (QD rfl)<|QL rfl rfl<|QA (Jx rfl rfl (by omega))<|QL rfl rfl<|QA (Jx rfl rfl (by omega))<|QL rfl rfl<|QA (QU rfl rfl rfl)<|QA (Qh rfl rfl rfl)<|QF ?_
        exact J2 ⟨rfl,rfl,(congrArg (fun b=>some (Value.bool b)) (by rw [Bool.eq_iff_iff];have:=of_decide_eq_false hb65;simp [S1,BD];omega)),trivial⟩ (List.Sublist.refl _) (fun _ h=>h)
      ·
       simp only [List.cons_append,List.nil_append]
       refine QQ rfl (fun hc=>?_) (fun hc=>?_)
       ·
        have hb3:S1 s=true:=hc
        refine QG<|QB<|QA (QE rfl)<|QF<|QC<|QR ?_
        exact QN (()) rfl (.tmp rfl .nil) (congrArg (Value.int .i64) (by simp [GV,hb1,hb2,hb3])) (fun F ⟨hT,_⟩=>trivial)
       ·
        have hb3:S1 s=false:=hc
        have hk6:ahead Jp (Lib.trimPrefix s [45])≤600:=by simp [S1] at hb3;exact hb3.1
        refine QP<|QC<|QG<|QG<|QB<|QA (QD rfl)<|QA (QD rfl)<|QA (Jq rfl J8)<|QA (QU rfl rfl rfl)<|QF<|QC ?_
        refine QQ rfl (fun hc=>?_) (fun hc=>?_)
        ·
         have hk:ahead Jp (Lib.trimPrefix s [45])<(Lib.trimPrefix s [45]).length:=by have:=of_decide_eq_true hc;omega
         obtain ⟨da,dd⟩:=xO hb1 hb2 hk
         refine QG<|QB<|QA (QD rfl)<|QH rfl (fun w F hF ⟨hT,_⟩=>Iy hF (s:=(Lib.trimPrefix s [45])) (by omega) (by rw [X8 da];exact da) (fun _=>by rw [show(List.drop (ahead Jp (Lib.trimPrefix s [45])+1) (Lib.trimPrefix s [45]))=BD s from rfl,X8 dd];exact dd)) (fun c79=>QA (QD rfl)<|QA (QM rfl rfl)<|QA (QM rfl rfl)<|QZ Xf (fun b5=>QZ Xf (fun b6=>QS (vs:=[_,_]) rfl rfl rfl Qv rfl (.there .here) (.here (.here .nil)) ⟨rfl,rfl,trivial⟩<|QS (vs:=[_,_]) rfl rfl rfl Qv rfl .here (.here (.here .nil)) ⟨rfl,rfl,trivial⟩<|QF<|QC<|QG<|Xo _ (fun w F hF h=>And.intro h.2.1.p (And.intro (h.2.2 hk).p (And.intro h.2.1.1.2.1 (h.2.2 hk).1.2.1))) (fun pp=>?_))))
         obtain ⟨pa,pd,na,nd⟩:=pp
         rw [XE da] at pa
         have pd2:=pd
         rw [show Zt ((Lib.trimPrefix s [45]).drop (ahead Jp (Lib.trimPrefix s [45])+1))=Q9 (BD s) from XE dd] at pd2
         have la:=pa.len
         have ld:=pd2.len
         have sa:=Fp da
         have sd:=Fp dd
         have h600:(BD s).length≤600:=by simp [S1] at hb3;exact hb3.2
         rw [List.length_take] at sa
         refine QB<|QA (QI rfl XM Qs)<|QA (Qi rfl Qs (.there .here) (.skip (.here .nil)))<|QA (QI rfl XM Qs)<|QA (Qi rfl Qs .here (.skip (.here .nil))) ?_
         refine QH rfl (fun w F hF ⟨⟨hT,_⟩,h79⟩=>P3 hF (a:=c79.1.l) (b:=c79.2.l) (ra:=c79.1.r) (rb:=c79.2.r) h79.1.1 ((h79.2 hk).1) (pa.dg) (pd.dg) (pa.nz) (pd.nz) (by omega) (by omega)) (fun c86=>?_);rcases c86 with ⟨v86,l86⟩;dsimp only
         refine JJ _ (fun w F hF ⟨⟨⟨hT,_⟩,h79⟩,⟨h86,h86p⟩⟩=>And.intro h86.2 h86p) (fun p86=>QA (QE rfl)<|QF<|QC ?_)
         refine Ze [] [(95,.bool (Si s))] trivial ?_ ?_
         ·
          have hgc:dv B9 l86=(Nat.gcd (Q9 ((Lib.trimPrefix s [45]).take (ahead Jp (Lib.trimPrefix s [45])))) (Q9 (BD s)):Nat):=by
           rw [p86.2.2.2,Uo pa pd2];rfl
          have hone:=NP p86.2.1 p86.2.2.1
          have hsl:GG s=true:=by simp [GG];exact hk
          refine QB<|QA (QD rfl)<|QA (Qn rfl Qe)<|QA (QU rfl rfl rfl)<|QA (QD rfl) ?_
          refine Qk (t:=90) rfl (fun hb90=>?_) (fun hb90=>?_)
          ·
           refine QO rfl rfl rfl<|QO rfl rfl rfl<|QO rfl rfl rfl<|QO rfl rfl rfl<|QA (Qj rfl rfl rfl)<|QF ?_
           exact J2 ⟨(congrArg (fun b=>some (Value.bool b)) (by have h1:¬ l86.length=1:=(by simp at hb90;omega);rw [Bool.eq_iff_iff];simp [Si,hsl];intro g;exact h1 (hone.2 (by rw [hgc,g];rfl)).1)),trivial⟩ (List.Sublist.refl _) (fun _ h=>h)
          ·
           have hn1:v86.n=1:=by simp at hb90;omega
           refine QL rfl rfl<|QA (QD rfl)<|QL rfl rfl<|QA (JY (n:=v86.n) (0) (fun F ⟨⟨⟨hT,_⟩,h79⟩,⟨h86,h86p⟩⟩=>(h86).1) rfl (congrArg (fun z:Int=>some (Value.int .i64 z)) (by omega)) Qe Qp (by omega))<|QL rfl rfl<|QA (Jf (n:=v86.n) ((0)*1) (fun F ⟨⟨⟨hT,_⟩,h79⟩,⟨h86,h86p⟩⟩=>(h86).1) (by omega) rfl Qp (JL (o:=l86) (by omega)))<|QL rfl rfl<|QA (QU rfl rfl rfl)<|QA (Qh rfl rfl rfl)<|QF ?_
           exact J2 ⟨(congrArg (fun b=>some (Value.bool b)) (by have h1:l86.length=1:=(by omega);rw [Bool.eq_iff_iff];simp [Si,hsl];exact not_congr ⟨fun e=>by have h2:=hone.1 ⟨h1,e⟩;rw [hgc] at h2;omega,fun e=>(hone.2 (by rw [hgc,e];rfl)).2⟩)),trivial⟩ (List.Sublist.refl _) (fun _ h=>h)
         ·
          simp only [List.cons_append,List.nil_append]
          refine QQ rfl (fun hc=>?_) (fun hc=>?_)
          ·
           have hg4:Si s=true:=hc
           refine QG<|QB<|QA (QE rfl)<|QF<|QC<|QR ?_
           exact QN (()) rfl (.tmp rfl .nil) (congrArg (Value.int .i64) (by simp [GV,hb1,hb2,hb3,hg4])) (fun F ⟨⟨⟨hT,_⟩,h79⟩,⟨h86,h86p⟩⟩=>trivial)
          ·
           have hg4:Si s=false:=hc
           refine QP<|QC<|QG<|QB<|QA (QE rfl)<|QF<|QC<|QR ?_
           exact QN (()) rfl (.tmp rfl .nil) (congrArg (Value.int .i64) (by simp [GV,hb1,hb2,hb3,hg4])) (fun F ⟨⟨⟨hT,_⟩,h79⟩,⟨h86,h86p⟩⟩=>trivial)
        ·
         have hg4:Si s=false:=by have:=of_decide_eq_false hc;simp [Si,GG];intro g;omega
         refine QP<|QC<|QG<|QB<|QA (QE rfl)<|QF<|QC<|QR ?_
         exact QN (()) rfl (.tmp rfl .nil) (congrArg (Value.int .i64) (by simp [GV,hb1,hb2,hb3,hg4])) (fun F ⟨hT,_⟩=>trivial)
end
section
open Go.RowKit Ig
structure YJ {α:Type} (l:List α) (f:α→Int) where
 i:Nat
 le:i≤l.length
 h:Qm (l.map f)=Qm ((l.map f).drop i)
section
variable {α:Type} [Inhabited α] {l:List α} {f:α→Int}
theorem SU {i:Nat} (hi:i<l.length):(l.map f)[i]'(by simpa using hi)=f (el l i):=by rw [List.getElem_map,Zl hi]
def YJ.next (s:YJ l f) (hi:s.i<l.length) (h:f (el l s.i)=0):YJ l f:=⟨s.i+1,hi,by
 rw [s.h,KZ (by simpa using hi) (by rw [SU hi];exact h)]⟩
theorem YJ.hit (s:YJ l f) (hi:s.i<l.length) (h:f (el l s.i)≠0):Qm (l.map f)=f (el l s.i):=by
 rw [s.h,Wl (by simpa using hi) (by rw [SU hi];exact h),SU hi]
theorem YJ.stop (s:YJ l f) (hi:l.length≤s.i):Qm (l.map f)=0:=by
 rw [s.h,List.drop_of_length_le (by simpa using hi)];rfl
end
def YJ.start {α:Type} (l:List α) (f:α→Int):YJ l f:=⟨0,Nat.zero_le _,rfl⟩
structure TD {α:Type} (l:List α) (p:α→Bool) where
 i:Nat
 le:i≤l.length
 h:l.all p=(l.drop i).all p
section
variable {α:Type} [Inhabited α] {l:List α} {p:α→Bool}
def TD.next (s:TD l p) (hi:s.i<l.length) (h:p (el l s.i)=true):TD l p:=⟨s.i+1,hi,by rw [s.h,ML hi,List.all_cons,h,Bool.true_and]⟩
theorem TD.hit (s:TD l p) (hi:s.i<l.length) (h:p (el l s.i)=false):l.all p=false:=by rw [s.h,ML hi,List.all_cons,h,Bool.false_and]
theorem TD.stop (s:TD l p) (hi:l.length≤s.i):l.all p=true:=by rw [s.h,List.drop_of_length_le hi];rfl
end
def TD.start {α:Type} (l:List α) (p:α→Bool):TD l p:=⟨0,Nat.zero_le _,rfl⟩
theorem jD {w:World} {F:Gs} {a b:List UInt8} (hF:Fits F w) (ha:Jg a=0) (hb:Jg b=0):QV Tryz.prog 30 [tx a,tx b] w F (.int .i64 (DL (JM a) (JM b))):=by
 have h1:=J4 ha
 have h2:=J4 hb
 have:=Al (x:=JM a) (y:=JM b) hF (by omega) (by omega)
 rw [← (Xs ha).1,← (Xs hb).1] at this;exact this
theorem xz {w:World} {F:Gs} {q:Option Addr} {n c:Nat} {l:List (List UInt8)} (hF:Fits F w) (hR:JB F q n 1 (l.map tx)) (hl:l.length=n∧∀ s∈l,s.length≤1000000) (hn:n≤1000000):QV Tryz.prog 29 [.slice q n c] w F (.int .i64 (Qm (l.map Jg))):=by
 have hln:=hl.1
 refine QT.intro (G:=fun F=>JB F q n 1 (l.map tx)) Tryz.func29 rfl (by rfl) rfl rfl hF (fun F' hF'=>hR.le hF')<|QG<|QB<|QA (QE rfl)<|QF<|QC<|QG<|QG<|QB<|QA (QE rfl)<|QF<|QC<|Qa<|Zf (ι:=YJ l Jg) [(0,_)] (fun i=>[(3,.int .i64 ((i.i:Nat):Int))]) (fun i=>l.length - i.i) (YJ.start _ _) ⟨rfl,trivial⟩ ⟨rfl,trivial⟩ (fun i=>?_)
 simp only [List.cons_append,List.nil_append]
 refine QG<|QG<|QB<|QA (QD rfl)<|QA (QD rfl)<|QA (Qn rfl EJ)<|QA (QU rfl rfl rfl)<|QF<|QC ?_
 refine QQ rfl (fun hc=>?_) (fun hc=>?_)
 ·
  have hi:i.i<l.length:=by have:=of_decide_eq_true hc;omega
  refine QP<|QC<|QG<|Qa<|QG<|QB<|QA (QD rfl)<|QA (QD rfl)<|QA (JY (n:=n) (i.i) (fun F hR=>hR) rfl rfl EJ JC (by omega))<|QA (Jf (n:=n) ((i.i)*1) (fun F hR=>hR) (by omega) rfl JC (Dt (f:=tx) (l:=l) (by omega)))<|QH rfl (fun w F hF hR=>Bh hF (hl.2 _ (Je hi))) (fun _=>QA (QE rfl)<|QF<|QC<|QG<|QB<|QA (QD rfl)<|QA (QU rfl rfl rfl)<|QF<|QC ?_)
  refine QQ rfl (fun hc=>?_) (fun hc=>?_)
  ·
   refine QG<|QB<|QA (QD rfl)<|QA (QE rfl)<|QF<|QC<|QR ?_
   repeat (first | refine JH ?_ | refine JA ?_)
   exact QN (()) rfl (.tmp rfl .nil) (congrArg (Value.int .i64) (i.hit hi (by simpa using hc))) (fun F ⟨hR,_⟩=>trivial)
  ·
   refine QP<|Ql<|QC<|QB<|QA (QD rfl)<|QA (Qu rfl rfl (by omega))<|QA (QE rfl)<|QF ?_
   exact Qo (i.next hi (by simpa using hc)) (by show l.length - (i.i+1)<l.length - i.i;omega) ⟨rfl,rfl,trivial⟩ (List.Sublist.refl _) (fun F h=>h.1)
 ·
  have hi:l.length≤i.i:=by have:=of_decide_eq_false hc;omega
  refine Q5 ?_
  repeat (first | refine Qc ?_ | refine QX (by rfl) ?_)
  refine Qd<|QC<|QG<|QB<|QA (QE rfl)<|QF<|QC<|QR ?_
  exact QN (()) rfl (.tmp rfl .nil) (congrArg (Value.int .i64) (i.stop hi)) (fun F hR=>trivial)
theorem R7 {w:World} {F:Gs} {lo hi:List UInt8} (hF:Fits F w) (hl:lo.length≤1000000∧hi.length≤1000000):QV Tryz.prog 21 [.agg #[tx lo,tx hi]] w F (.int .i64 (Jl lo hi)):=by
 refine QT.intro (G:=fun F=>True) Tryz.func21 rfl (by rfl) rfl rfl hF (fun F' hF'=>trivial)<|QG<|QB<|Qz rfl (vs:=[_,_]) rfl (fun b1=>QA (QE rfl)<|QF<|QC<|QG<|QB<|QA (QI rfl Zc JC)<|QA (Qi rfl JC .here (.here .nil))<|QH rfl (fun w F hF hT=>Bh hF (hl.1)) (fun _=>QA (QE rfl)<|QF<|QC ?_))
 refine Ze [(1,_)] [(3,.int .i64 (Qm [Jg lo,Jg hi]))] ⟨rfl,trivial⟩ ?_ ?_
 ·
  refine QG<|QB<|QA (QD rfl)<|QA (QU rfl rfl rfl)<|QF<|QC ?_
  refine QQ rfl (fun hc=>?_) (fun hc=>?_)
  ·
   refine QB<|QA (QI rfl YO JC)<|QA (Qi rfl JC .here (.skip (.here .nil)))<|QH rfl (fun w F hF ⟨hT,_⟩=>Bh hF (hl.2)) (fun _=>QA (QE rfl)<|QF ?_)
   exact J2 ⟨rfl,(congrArg (fun z:Int=>some (Value.int .i64 z)) (by simp [Qm];simp at hc;simp [hc])),trivial⟩ (List.Sublist.refl _) (fun _ h=>h.1)
  ·
   refine QP ?_
   exact J2 ⟨rfl,(congrArg (fun z:Int=>some (Value.int .i64 z)) (by simp [Qm];simp at hc;simp [hc])),trivial⟩ (List.Sublist.refl _) (fun _ h=>h)
 ·
  simp only [List.cons_append,List.nil_append]
  refine QG<|QG<|QB<|QA (QD rfl)<|QA (QU rfl rfl rfl)<|QA (QD rfl) ?_
  refine Qk (t:=14) rfl (fun hb14=>?_) (fun hb14=>?_)
  ·
   refine QL rfl rfl ?_
   obtain ⟨k1,k2⟩:=ZG (by simpa using hb14)
   refine QA (QI rfl Zc JC)<|QL rfl rfl<|QA (Qi rfl JC .here (.here .nil))<|QL rfl rfl<|QA (QI rfl YO JC)<|QL rfl rfl<|QA (Qi rfl JC .here (.skip (.here .nil)))<|QL rfl rfl<|QH rfl (fun w F hF ⟨hT,_⟩=>jD hF (k1) (k2)) (fun _=>QL rfl rfl<|QA (QU rfl rfl rfl)<|QA (Qj rfl rfl rfl)<|QF<|QC ?_)
   refine QQ rfl (fun hc=>?_) (fun hc=>?_)
   ·
    refine QG<|QB<|QA (QE rfl)<|QF<|QC<|QR ?_
    exact QN (()) rfl (.tmp rfl .nil) (congrArg (Value.int .i64) (by unfold Jl;rw [if_pos (by simpa using hb14),if_pos (of_decide_eq_true hc)])) (fun F ⟨⟨hT,_⟩,_⟩=>trivial)
   ·
    refine QP<|QC<|QG<|QB<|QA (QD rfl)<|QA (QE rfl)<|QF<|QC<|QR ?_
    exact QN (()) rfl (.tmp rfl .nil) (congrArg (Value.int .i64) (by unfold Jl;rw [if_pos (by simpa using hb14),if_neg (of_decide_eq_false hc)];symm;simpa using hb14)) (fun F ⟨⟨hT,_⟩,_⟩=>trivial)
  ·
   refine QO rfl rfl rfl<|QO rfl rfl rfl<|QO rfl rfl rfl<|QO rfl rfl rfl<|QO rfl rfl rfl<|QO rfl rfl rfl<|QA (Qh rfl rfl rfl)<|QF<|QC<|ZE rfl<|QP<|QC<|QG<|QB<|QA (QD rfl)<|QA (QE rfl)<|QF<|QC<|QR ?_
   exact QN (()) rfl (.tmp rfl .nil) (congrArg (Value.int .i64) (by unfold Jl;rw [if_neg (by simpa using hb14)])) (fun F ⟨hT,_⟩=>trivial)
theorem Tp {w:World} {F:Gs} {q:Option Addr} {n c:Nat} {l:List (List UInt8)} (hF:Fits F w) (hR:JB F q n 1 (l.map tx)) (hl:l.length=n∧∀ s∈l,s.length≤1000000) (hn:n≤1000000):QV Tryz.prog 206 [.slice q n c] w F (.int .i64 (Qm (l.map YN))):=by
 have hln:=hl.1
 refine QT.intro (G:=fun F=>JB F q n 1 (l.map tx)) Tryz.func206 rfl (by rfl) rfl rfl hF (fun F' hF'=>hR.le hF')<|QG<|QB<|QA (QE rfl)<|QF<|QC<|QG<|QG<|QB<|QA (QE rfl)<|QF<|QC<|Qa<|Zf (ι:=YJ l YN) [(0,_)] (fun i=>[(3,.int .i64 ((i.i:Nat):Int))]) (fun i=>l.length - i.i) (YJ.start _ _) ⟨rfl,trivial⟩ ⟨rfl,trivial⟩ (fun i=>?_)
 simp only [List.cons_append,List.nil_append]
 refine QG<|QG<|QB<|QA (QD rfl)<|QA (QD rfl)<|QA (Qn rfl EJ)<|QA (QU rfl rfl rfl)<|QF<|QC ?_
 refine QQ rfl (fun hc=>?_) (fun hc=>?_)
 ·
  have hi:i.i<l.length:=by have:=of_decide_eq_true hc;omega
  have hel:=hl.2 _ (Je hi)
  refine QP<|QC<|QG<|Qa<|QG<|QB<|QA (QD rfl)<|QA (QD rfl)<|QA (JY (n:=n) (i.i) (fun F hR=>hR) rfl rfl EJ JC (by omega))<|QA (Jf (n:=n) ((i.i)*1) (fun F hR=>hR) (by omega) rfl JC (Dt (f:=tx) (l:=l) (by omega)))<|QH rfl (fun w F hF hR=>To hF (by omega)) (fun _=>QA (QU rfl rfl rfl)<|QF<|QC ?_)
  refine QQ rfl (fun hc=>?_) (fun hc=>?_)
  ·
   refine QG<|QB<|QA (QE rfl)<|QF<|QC<|QR ?_
   repeat (first | refine JH ?_ | refine JA ?_)
   exact QN (()) rfl (.tmp rfl .nil) (congrArg (Value.int .i64) (by have h:=i.hit hi (by simpa using hc);rw [h];have h2:YN (el l i.i)≠0:=(by simpa using hc);unfold YN at h2 ⊢;split at h2<;>simp_all)) (fun F ⟨hR,_⟩=>trivial)
  ·
   refine QP<|Ql<|QC<|QB<|QA (QD rfl)<|QA (Qu rfl rfl (by omega))<|QA (QE rfl)<|QF ?_
   exact Qo (i.next hi (by simpa using hc)) (by show l.length - (i.i+1)<l.length - i.i;omega) ⟨rfl,rfl,trivial⟩ (List.Sublist.refl _) (fun F h=>h.1)
 ·
  have hi:l.length≤i.i:=by have:=of_decide_eq_false hc;omega
  refine Q5 ?_
  repeat (first | refine Qc ?_ | refine QX (by rfl) ?_)
  refine Qd<|QC<|QG<|QB<|QA (QE rfl)<|QF<|QC<|QR ?_
  exact QN (()) rfl (.tmp rfl .nil) (congrArg (Value.int .i64) (i.stop hi)) (fun F hR=>trivial)
def dL (a:List UInt8) (d:Int):Bool:=decide ((a.length:Int)≤2*d+2)&&(Jg a==0&&(decide (((U9 (numOf a)).length:Int)≤d)&&decide (((EZ a).length:Int)≤d)))
end
section
open Go.RowKit Ig
theorem jZ:([49]:List UInt8)=Qy 1:=by
 have h:(1:Rat).num=1:=rfl
 unfold Qy
 rw [if_pos (by rfl),h,Jh (by decide)]
 exact(Va (l:=[49]) (by decide)).symm
theorem Uk:([49,47,50]:List UInt8)=Qy (Rat.divInt 1 2):=by
 have e1:Lib.decDigits 1=[49]:=Va (l:=[49]) (by decide)
 have e2:Lib.decDigits 2=[50]:=Va (l:=[50]) (by decide)
 have hp:=Wk
 have hd:(Rat.divInt 1 2).den=2:=by have:=hp.2;omega
 unfold Qy
 rw [hd,if_neg (by decide),hp.1,e2,Jh (by decide)]
 show _=Lib.decDigits 1++_
 rw [e1];rfl
theorem jA {w:World} {F:Gs} {x:Rat} (hF:Fits F w) (hx:JQ x≤100000):QV Tryz.prog 93 [tx (Qy x),tx [49,47,50]] w F (tx (Qy (x*Rat.divInt 1 2))):=by
 have:=WX (x:=x) (y:=Rat.divInt 1 2) hF hx (by have:=WC;omega)
 rw [← Uk] at this;exact this
theorem jE {w:World} {F:Gs} {x:Rat} (hF:Fits F w) (hx:JQ x≤100000):QV Tryz.prog 92 [tx (Qy x),tx [49,47,50]] w F (tx (Qy (x+Rat.divInt 1 2))):=by
 have:=R9 (x:=x) (y:=Rat.divInt 1 2) hF hx (by have:=WC;omega)
 rw [← Uk] at this;exact this
def SR (x y:Rat):Rat:=if DL x y≤0 then x else y
def SS (x y:Rat):Rat:=if DL x y≥0 then x else y
theorem TQ {x y:Rat} {k:Nat} (hx:JQ x≤k) (hy:JQ y≤k):JQ (SR x y)≤k:=by unfold SR;split<;>assumption
theorem TR {x y:Rat} {k:Nat} (hx:JQ x≤k) (hy:JQ y≤k):JQ (SS x y)≤k:=by unfold SS;split<;>assumption
@[reducible] def xv (a:Rat×Rat):Value:=.agg #[tx (Qy a.1),tx (Qy a.2)]
def y9 (k:Nat) (a:Rat×Rat):Prop:=JQ a.1≤k∧JQ a.2≤k
def J5 (i:Nat):Rat:=Rat.divInt 1 2^i
theorem Gj (i:Nat):JQ (J5 i)≤2*i+1:=by
 have h:=Gh (Rat.divInt 1 2) i
 have h2:=WC
 have:i*JQ (Rat.divInt 1 2)≤i*2:=Nat.mul_le_mul_left _ h2
 unfold J5;omega
theorem Gu (i:Nat):(J5 i).num≠0:=by
 intro e
 have h0:=Rat.num_eq_zero.1 e
 unfold J5 at h0
 have h1:Rat.divInt 1 2≠0:=by
  intro h
  have:=Wk.1
  rw [h] at this;exact absurd this (by decide)
 induction i with
 |zero=>rw [Rat.pow_zero] at h0;exact absurd h0 (by decide)
 |succ n ih =>
  rw [Rat.pow_succ] at h0
  rcases Rat.mul_eq_zero.1 h0 with h | h
  ·exact ih (Rat.num_eq_zero.2 h) h
  ·exact h1 h
theorem jB {w:World} {F:Gs} {x:Rat} (hF:Fits F w) (hx:JQ x≤100000):QV Tryz.prog 34 [tx (Qy x)] w F (tx (Qy (x*Rat.divInt 1 2))):=by
 refine QT.intro (G:=fun F=>True) Tryz.func34 rfl (by rfl) rfl rfl hF (fun F' hF'=>trivial)<|QG<|QB<|QA (QE rfl)<|QF<|QC<|QG<|QB<|QA (QD rfl)<|QH rfl (fun w F hF hT=>jA hF (hx)) (fun _=>QA (QE rfl)<|QF<|QC<|QR ?_)
 exact QN (()) rfl (.tmp rfl .nil) (rfl) (fun F ⟨hT,_⟩=>trivial)
theorem Fz {w:World} {F:Gs} {b:Int} (hF:Fits F w) (h0:0≤b) (h1:b≤1000):QV Tryz.prog 31 [.int .i64 b] w F (tx (Qy (J5 b.toNat))):=by
 refine QT.intro (G:=fun F=>True) Tryz.func31 rfl (by rfl) rfl rfl hF (fun F' hF'=>trivial)<|QG<|QB<|QA (QE rfl)<|QF<|QC<|QG<|QB<|QA (QE rfl)<|QF<|QC<|QG<|QG<|QB<|QA (QE rfl)<|QF<|QC<|Qa<|Zf (ι:={i:Nat // i≤b.toNat}) [(0,_)] (fun i=>[(3,tx (Qy (J5 i.1))),(4,.int .i64 ((i.1:Nat):Int))]) (fun i=>b.toNat - i.1) (⟨0,Nat.zero_le _⟩) ⟨rfl,trivial⟩ ⟨(congrArg (fun l=>some (tx l)) (show [49]=Qy (J5 0) by rw [jZ];rfl)),rfl,trivial⟩ (fun i=>?_)
 simp only [List.cons_append,List.nil_append]
 have hi:=i.2
 have hg:=Gj i.1
 refine QG<|QG<|QB<|QA (QD rfl)<|QA (QD rfl)<|QA (QU rfl rfl rfl)<|QF<|QC ?_
 refine QQ rfl (fun hc=>?_) (fun hc=>?_)
 ·
  have hlt:i.1+1≤b.toNat:=by have:=of_decide_eq_true hc;omega
  refine QP<|QC<|QG<|Qa<|QB<|QA (QD rfl)<|QH rfl (fun w F hF hT=>jB hF (by omega)) (fun _=>QA (QE rfl)<|QF<|Ql<|QC<|QB<|QA (QD rfl)<|QA (Qu rfl rfl (by omega))<|QA (QE rfl)<|QF ?_)
  exact Qo (⟨i.1+1,hlt⟩) (by show b.toNat - (i.1+1)<b.toNat - i.1;omega) ⟨rfl,(congrArg (fun l=>some (tx l)) (show Qy (J5 i.1*Rat.divInt 1 2)=Qy (J5 (i.1+1)) by unfold J5;rw [Rat.pow_succ])),rfl,trivial⟩ (List.Sublist.refl _) (fun F h=>h.1)
 ·
  have hge:i.1=b.toNat:=by have:=of_decide_eq_false hc;omega
  refine Q5 ?_
  repeat (first | refine Qc ?_ | refine QX (by rfl) ?_)
  refine Qd<|QC<|QG<|QB<|QA (QD rfl)<|QA (QE rfl)<|QF<|QC<|QR ?_
  exact QN (()) rfl (.tmp rfl .nil) (by rw [hge]) (fun F hT=>trivial)
theorem Af {w:World} {F:Gs} {x y:Rat} (hF:Fits F w) (hx:JQ x≤30000) (hy:JQ y≤30000):QV Tryz.prog 99 [tx (Qy x),tx (Qy y)] w F (tx (Qy (SR x y))):=by
 refine QT.intro (G:=fun F=>True) Tryz.func99 rfl (by rfl) rfl rfl hF (fun F' hF'=>trivial)<|QG<|QB<|QA (QE rfl)<|QF<|QC<|QG<|QG<|QB<|QA (QD rfl)<|QA (QD rfl)<|QH rfl (fun w F hF hT=>Al hF (hx) (hy)) (fun _=>QA (QU rfl rfl rfl)<|QF<|QC ?_)
 refine QQ rfl (fun hc=>?_) (fun hc=>?_)
 ·
  refine QG<|QB<|QA (QD rfl)<|QA (QE rfl)<|QF<|QC<|QR ?_
  exact QN (()) rfl (.tmp rfl .nil) (by unfold SR;rw [if_pos (of_decide_eq_true hc)]) (fun F ⟨hT,_⟩=>trivial)
 ·
  refine QP<|QC<|QG<|QB<|QA (QD rfl)<|QA (QE rfl)<|QF<|QC<|QR ?_
  exact QN (()) rfl (.tmp rfl .nil) (by unfold SR;rw [if_neg (of_decide_eq_false hc)]) (fun F ⟨hT,_⟩=>trivial)
theorem Ag {w:World} {F:Gs} {x y:Rat} (hF:Fits F w) (hx:JQ x≤30000) (hy:JQ y≤30000):QV Tryz.prog 100 [tx (Qy x),tx (Qy y)] w F (tx (Qy (SS x y))):=by
 refine QT.intro (G:=fun F=>True) Tryz.func100 rfl (by rfl) rfl rfl hF (fun F' hF'=>trivial)<|QG<|QB<|QA (QE rfl)<|QF<|QC<|QG<|QG<|QB<|QA (QD rfl)<|QA (QD rfl)<|QH rfl (fun w F hF hT=>Al hF (hx) (hy)) (fun _=>QA (QU rfl rfl rfl)<|QF<|QC ?_)
 refine QQ rfl (fun hc=>?_) (fun hc=>?_)
 ·
  refine QG<|QB<|QA (QD rfl)<|QA (QE rfl)<|QF<|QC<|QR ?_
  exact QN (()) rfl (.tmp rfl .nil) (by unfold SS;rw [if_pos (of_decide_eq_true hc)]) (fun F ⟨hT,_⟩=>trivial)
 ·
  refine QP<|QC<|QG<|QB<|QA (QD rfl)<|QA (QE rfl)<|QF<|QC<|QR ?_
  exact QN (()) rfl (.tmp rfl .nil) (by unfold SS;rw [if_neg (of_decide_eq_false hc)]) (fun F ⟨hT,_⟩=>trivial)
theorem x0 {w:World} {F:Gs} {a b:Rat×Rat} (hF:Fits F w) (ha:y9 30000 a) (hb:y9 30000 b):QV Tryz.prog 52 [xv a,xv b] w F (xv (a.1+b.1,a.2+b.2)):=by
 obtain ⟨ha1,ha2⟩:=ha
 obtain ⟨hb1,hb2⟩:=hb
 refine QT.intro (G:=fun F=>True) Tryz.func52 rfl (by rfl) rfl rfl hF (fun F' hF'=>trivial)<|QG<|QB<|Qz rfl (vs:=[_,_]) rfl (fun b2=>Qz rfl (vs:=[_,_]) rfl (fun b3=>QZ Zg (fun b4=>QF<|QC<|QG<|JG (.cons _ (.cons_cons _ (.cons_cons _ .slnil))) mixed (by kernel_rfl)<|QK (QI rfl Zc JC)<|QK (Qi rfl JC (.there .here) (.here .nil))<|QK (QI rfl Zc JC)<|QK (Qi rfl JC .here (.here .nil))<|QY rfl (fun w F hF hT=>R9 hF (by omega) (by omega)) (fun _=>QK (QI rfl YO JC)<|QK (Qi rfl JC (.there .here) (.skip (.here .nil)))<|QK (QI rfl YO JC)<|QK (Qi rfl JC .here (.skip (.here .nil)))<|QY rfl (fun w F hF ⟨hT,_⟩=>R9 hF (by omega) (by omega)) (fun _=>QK (Q4 rfl YI Zg (.cons (vs:=[_]) rfl rfl rfl (.here .nil) (.cons (vs:=[_]) rfl rfl rfl (.skip (.here .nil)) .nil)))<|JU (vs:=[_,_]) rfl rfl rfl JW rfl .here (.cons_cons _ (.cons_cons _ .slnil)) (fun _ h=>h.1.1) (.here (.here .nil)) ⟨rfl,rfl,trivial⟩<|Q2<|QC<|QR ?_)))))
 exact QN (()) rfl (.JX (c:=[_,_]) rfl JW .here .nil) (rfl) (fun F ⟨⟨hT,_⟩,_⟩=>trivial)
def v8 (a b:Rat×Rat):Rat×Rat:=(SR (SR (a.1*b.1) (a.1*b.2)) (SR (a.2*b.1) (a.2*b.2)),SS (SS (a.1*b.1) (a.1*b.2)) (SS (a.2*b.1) (a.2*b.2)))
theorem xy {w:World} {F:Gs} {a b:Rat×Rat} (hF:Fits F w) (ha:y9 15000 a) (hb:y9 15000 b):QV Tryz.prog 54 [xv a,xv b] w F (xv (v8 a b)):=by
 obtain ⟨ha1,ha2⟩:=ha
 obtain ⟨hb1,hb2⟩:=hb
 refine QT.intro (G:=fun F=>True) Tryz.func54 rfl (by rfl) rfl rfl hF (fun F' hF'=>trivial)<|QG<|QB<|Qz rfl (vs:=[_,_]) rfl (fun b2=>Qz rfl (vs:=[_,_]) rfl (fun b3=>QZ Zg (fun b4=>QF<|QC<|QG ?_)))
 have m1:=Jz a.1 b.1
 have m2:=Jz a.1 b.2
 have m3:=Jz a.2 b.1
 have m4:=Jz a.2 b.2
 refine JG (List.Sublist.refl _) mixed (by kernel_rfl)<|QK (QI rfl Zc JC)<|QK (Qi rfl JC (.there (.there .here)) (.here .nil))<|QK (QI rfl Zc JC)<|QK (Qi rfl JC (.there .here) (.here .nil))<|QY rfl (fun w F hF hT=>WX hF (by omega) (by omega)) (fun _=>QK (QI rfl Zc JC)<|QK (Qi rfl JC (.there (.there .here)) (.here .nil))<|QK (QI rfl YO JC)<|QK (Qi rfl JC (.there .here) (.skip (.here .nil)))<|QY rfl (fun w F hF ⟨hT,_⟩=>WX hF (by omega) (by omega)) (fun _=>QK (QI rfl YO JC)<|QK (Qi rfl JC (.there (.there .here)) (.skip (.here .nil)))<|QK (QI rfl Zc JC)<|QK (Qi rfl JC (.there .here) (.here .nil))<|QY rfl (fun w F hF ⟨⟨hT,_⟩,_⟩=>WX hF (by omega) (by omega)) (fun _=>QK (QI rfl YO JC)<|QK (Qi rfl JC (.there (.there .here)) (.skip (.here .nil)))<|QK (QI rfl YO JC)<|QK (Qi rfl JC (.there .here) (.skip (.here .nil)))<|QY rfl (fun w F hF ⟨⟨⟨hT,_⟩,_⟩,_⟩=>WX hF (by omega) (by omega)) (fun _=>QK (QE rfl)<|QK (QE rfl)<|QK (QE rfl)<|QK (QE rfl) ?_))))
 refine Q2<|QC<|QG<|QB<|QA (QD rfl)<|QA (QD rfl)<|QH rfl (fun w F hF ⟨⟨⟨⟨hT,_⟩,_⟩,_⟩,_⟩=>Af hF (by omega) (by omega)) (fun _=>QA (QD rfl)<|QA (QD rfl)<|QH rfl (fun w F hF ⟨⟨⟨⟨⟨hT,_⟩,_⟩,_⟩,_⟩,_⟩=>Af hF (by omega) (by omega)) (fun _=>QH rfl (fun w F hF ⟨⟨⟨⟨⟨⟨hT,_⟩,_⟩,_⟩,_⟩,_⟩,_⟩=>Af hF (TQ (k:=30000) (by omega) (by omega)) (TQ (k:=30000) (by omega) (by omega))) (fun _=>QA (QD rfl)<|QA (QD rfl)<|QH rfl (fun w F hF ⟨⟨⟨⟨⟨⟨⟨hT,_⟩,_⟩,_⟩,_⟩,_⟩,_⟩,_⟩=>Ag hF (by omega) (by omega)) (fun _=>QA (QD rfl)<|QA (QD rfl)<|QH rfl (fun w F hF ⟨⟨⟨⟨⟨⟨⟨⟨hT,_⟩,_⟩,_⟩,_⟩,_⟩,_⟩,_⟩,_⟩=>Ag hF (by omega) (by omega)) (fun _=>QH rfl (fun w F hF ⟨⟨⟨⟨⟨⟨⟨⟨⟨hT,_⟩,_⟩,_⟩,_⟩,_⟩,_⟩,_⟩,_⟩,_⟩=>Ag hF (TR (k:=30000) (by omega) (by omega)) (TR (k:=30000) (by omega) (by omega))) (fun _=>QA (Q4 rfl YI Zg (.cons (vs:=[_]) rfl rfl rfl (.here .nil) (.cons (vs:=[_]) rfl rfl rfl (.skip (.here .nil)) .nil)))<|QS (vs:=[_,_]) rfl rfl rfl JW rfl .here (.here (.here .nil)) ⟨rfl,rfl,trivial⟩<|QF<|QC<|QR ?_))))))
 exact QN (()) rfl (.JX (c:=[_,_]) rfl JW .here .nil) (rfl) (fun F ⟨⟨⟨⟨⟨⟨⟨⟨⟨⟨hT,_⟩,_⟩,_⟩,_⟩,_⟩,_⟩,_⟩,_⟩,_⟩,_⟩=>trivial)
theorem Ae {w:World} {F:Gs} {x:Rat} {b:Int} (hF:Fits F w) (hx:JQ x≤20000) (h0:0≤b) (h1:b≤64):QV Tryz.prog 24 [tx (Qy x),.int .i64 b] w F (tx (Qy (((x / J5 b.toNat+Rat.divInt 1 2).floor:Rat)*J5 b.toNat))):=by
 have hg:=Gj b.toNat
 have hgn:=Gu b.toNat
 have hi:=E6 hgn
 have hd:=Jz x (J5 b.toNat)⁻¹
 rw [← Rat.div_def] at hd
 have ha:=Vr (x / J5 b.toNat) (Rat.divInt 1 2)
 have hh:=WC
 have hf:=WD (x / J5 b.toNat+Rat.divInt 1 2)
 have hfi:=Gi (x / J5 b.toNat+Rat.divInt 1 2).floor
 refine QT.intro (G:=fun F=>True) Tryz.func24 rfl (by rfl) rfl rfl hF (fun F' hF'=>trivial)<|QG<|QB<|QA (QE rfl)<|QF<|QC<|QG<|QB<|QA (QD rfl)<|QH rfl (fun w F hF hT=>Fz hF (h0) (by omega)) (fun _=>QA (QE rfl)<|QF<|QC<|QG<|QB<|QA (QD rfl)<|QA (QD rfl)<|QH rfl (fun w F hF ⟨hT,_⟩=>Aj hF (hgn) (by omega) (by omega)) (fun _=>QH rfl (fun w F hF ⟨⟨hT,_⟩,_⟩=>jE hF (by omega)) (fun _=>QH rfl (fun w F hF ⟨⟨⟨hT,_⟩,_⟩,_⟩=>NC hF (by omega)) (fun _=>QA (QD rfl)<|QH rfl (fun w F hF ⟨⟨⟨⟨hT,_⟩,_⟩,_⟩,_⟩=>WX hF (by omega) (by omega)) (fun _=>QA (QE rfl)<|QF<|QC ?_)))))
 refine QR ?_
 exact QN (()) rfl (.tmp rfl .nil) (rfl) (fun F ⟨⟨⟨⟨⟨hT,_⟩,_⟩,_⟩,_⟩,_⟩=>trivial)
end
section
open Go.RowKit Ig
theorem Fy {w:World} {F:Gs} {x:Rat} (hF:Fits F w) (hx:JQ x≤100000):QV Tryz.prog 35 [tx (Qy x)] w F (tx (Qy (-x))):=by
 have:=Ov (s:=Qy x) hF (by have:=YB x;omega)
 rw [SP] at this;exact this
def XP (x:Rat) (i:Nat):Rat:=((x / J5 i).floor:Rat)*J5 i
theorem VG {x:Rat} {i:Nat} (hx:JQ x≤20000) (hi:i≤64):JQ (x / J5 i)≤20200∧sz (x / J5 i).floor≤20200∧JQ (((x / J5 i).floor:Int):Rat)≤20200∧JQ (XP x i)≤20400:=by
 have hg:=Gj i
 have hgn:=Gu i
 have h1:=E6 hgn
 have hd:=Jz x (J5 i)⁻¹
 rw [← Rat.div_def] at hd
 have hf:=WD (x / J5 i)
 have hfi:=Gi (x / J5 i).floor
 have hm:=Jz (((x / J5 i).floor:Int):Rat) (J5 i)
 unfold XP
 omega
theorem NA {w:World} {F:Gs} {a:Rat×Rat} {b:Int} (hF:Fits F w) (ha:y9 20000 a) (h0:0≤b) (h1:b≤64):QV Tryz.prog 27 [xv a,.int .i64 b] w F (xv (XP a.1 b.toNat,-XP (-a.2) b.toNat)):=by
 obtain ⟨ha1,ha2⟩:=ha
 have hg:=Gj b.toNat
 have hgn:=Gu b.toNat
 obtain ⟨f1,f2,f3,f4⟩:=VG (x:=a.1) (i:=b.toNat) ha1 (by omega)
 have hn2:JQ (-a.2)≤20000:=by rw [Ky];exact ha2
 obtain ⟨g1,g2,g3,g4⟩:=VG (x:=-a.2) (i:=b.toNat) hn2 (by omega)
 have l2:=YB a.2
 have l3:=YB (XP (-a.2) b.toNat)
 refine QT.intro (G:=fun F=>True) Tryz.func27 rfl (by rfl) rfl rfl hF (fun F' hF'=>trivial)<|QG<|QB<|Qz rfl (vs:=[_,_]) rfl (fun b2=>QZ Zg (fun b4=>QF<|QC<|QG<|QB<|QA (QD rfl)<|QH rfl (fun w F hF hT=>Fz hF (h0) (by omega)) (fun _=>QA (QE rfl)<|QF<|QC<|QG<|JG (.cons _ (.cons_cons _ .slnil)) mixed (by kernel_rfl)<|QK (QI rfl Zc JC)<|QK (Qi rfl JC .here (.here .nil))<|QK (QD rfl)<|QY rfl (fun w F hF ⟨hT,_⟩=>Aj hF (hgn) (by omega) (by omega)) (fun _=>QY rfl (fun w F hF ⟨⟨hT,_⟩,_⟩=>NC hF (by omega)) (fun _=>QK (QD rfl)<|QY rfl (fun w F hF ⟨⟨⟨hT,_⟩,_⟩,_⟩=>WX hF (by omega) (by omega)) (fun _=>QK (QI rfl YO JC)<|QK (Qi rfl JC .here (.skip (.here .nil))) ?_))))))
 refine QY rfl (fun w F hF ⟨⟨⟨⟨hT,_⟩,_⟩,_⟩,_⟩=>Fy hF (by omega)) (fun _=>QK (QD rfl)<|QY rfl (fun w F hF ⟨⟨⟨⟨⟨hT,_⟩,_⟩,_⟩,_⟩,_⟩=>Aj hF (hgn) (by omega) (by omega)) (fun _=>QY rfl (fun w F hF ⟨⟨⟨⟨⟨⟨hT,_⟩,_⟩,_⟩,_⟩,_⟩,_⟩=>NC hF (by omega)) (fun _=>QK (QD rfl)<|QY rfl (fun w F hF ⟨⟨⟨⟨⟨⟨⟨hT,_⟩,_⟩,_⟩,_⟩,_⟩,_⟩,_⟩=>WX hF (by omega) (by omega)) (fun _=>QY rfl (fun w F hF ⟨⟨⟨⟨⟨⟨⟨⟨hT,_⟩,_⟩,_⟩,_⟩,_⟩,_⟩,_⟩,_⟩=>Fy hF (by show JQ (XP (-a.2) b.toNat)≤100000;omega)) (fun _=>QK (Q4 rfl YI Zg (.cons (vs:=[_]) rfl rfl rfl (.here .nil) (.cons (vs:=[_]) rfl rfl rfl (.skip (.here .nil)) .nil)))<|JU (vs:=[_,_]) rfl rfl rfl JW rfl .here (.cons_cons _ .slnil) (fun _ h=>h.1.1.1.1.1.1.1.1) (.here (.here .nil)) ⟨rfl,rfl,trivial⟩<|Q2<|QC<|QR ?_)))))
 exact QN (()) rfl (.JX (c:=[_,_]) rfl JW .here .nil) (rfl) (fun F ⟨⟨⟨⟨⟨⟨⟨⟨⟨hT,_⟩,_⟩,_⟩,_⟩,_⟩,_⟩,_⟩,_⟩,_⟩=>trivial)
def zI (s:Rat×Rat) (l:List (Rat×Rat)):Rat×Rat:=l.foldl (fun s p=>(SR s.1 p.1,SS s.2 p.2)) s
def vo (p:Rat×Rat):List Value:=[tx (Qy p.1),tx (Qy p.2)]
theorem kS (p:Rat×Rat):(vo p).length=2:=rfl
structure de (l:List (Rat×Rat)) where
 i:Nat
 s:Rat×Rat
 le:i≤l.length
 sz:y9 20000 s
 h:zI s (l.drop i)=zI (el l 0) (l.drop 1)
theorem R5 {w:World} {F:Gs} {lo hi:List UInt8} (hF:Fits F w) (hl:lo.length≤1000000∧hi.length≤1000000):QV Tryz.prog 125 [.agg #[tx lo,tx hi]] w F (.int .i64 (Qm [YN lo,YN hi])):=by
 refine QT.intro (G:=fun F=>True) Tryz.func125 rfl (by rfl) rfl rfl hF (fun F' hF'=>trivial)<|QG<|QB<|Qz rfl (vs:=[_,_]) rfl (fun b1=>QA (QE rfl)<|QF<|QC<|QG<|QB<|QA (QI rfl Zc JC)<|QA (Qi rfl JC .here (.here .nil))<|QA (QI rfl YO JC)<|QA (Qi rfl JC .here (.skip (.here .nil)))<|QW rfl (Q8 EJ) JC kI rfl rfl (fun b7=>QH rfl (fun w F hF ⟨hT,hs7⟩=>Tp hF (n:=2) (l:=[lo,hi]) (JB.of (n:=2) (sz:=1) hs7 rfl) (⟨rfl,fun s hs=>by simp at hs;rcases hs with rfl | rfl;exact hl.1;exact hl.2⟩) (by omega)) (fun _=>QA (QE rfl)<|QF<|QC<|QR ?_)))
 exact QN (()) rfl (.tmp rfl .nil) (rfl) (fun F ⟨⟨hT,hs7⟩,_⟩=>trivial)
end
section
open Go Go.RowKit
section
variable [Dr] [df:Df]
def GL (l:List Oper) (r:List Nat) (i:Nat):Bool:=match l[i]? with
 |some o=>o.after.all fun e=>!(Region.binds .any e)||!(r.contains e.on)
 |none=>false
def Am (l:List Oper) (i:Nat):Bool:=match l[i]? with
 |some o=>Jw o.op
 |none=>false
def RA (l:List Oper) (r:List Nat):Option Nat:=r.find? fun i=>Am l i&&GL l r i
def Mx (l:List Oper):Bool :=
 Region.noSelect l.toArray&&KX .any l.toArray l.length&&(List.range l.length).all fun j=>match l[j]? with
  |none=>false
  |some oj=>(List.range j).all fun i=>match l[i]? with
   |none=>false
   |some oi=>if Jw oi.op||Jw oj.op then(Region.waitsFor .any l.toArray j i||oi.apart l.toArray oj) else true
theorem Mw {l:List Oper} (h:Mx l=true) {i j:Nat} (hij:i<j) {oi oj:Oper} (hi:l[i]?=some oi) (hj:l[j]?=some oj) (hq:(Jw oi.op||Jw oj.op)=true):(Region.waitsFor .any l.toArray j i||oi.apart l.toArray oj)=true:=by
 simp only [Mx,Bool.and_eq_true] at h
 have hjl:j<l.length:=by rcases Nat.lt_or_ge j l.length with g | g;exact g;rw [List.getElem?_eq_none g] at hj;cases hj
 have h1:=List.all_eq_true.1 h.2 j (List.mem_range.2 hjl)
 rw [hj] at h1
 have h2:=List.all_eq_true.1 h1 i (List.mem_range.2 hij)
 rw [hi] at h2
 simp only at h2
 rw [if_pos hq] at h2;exact h2
section
variable {P:Program} {Q:Exit→Act→World→Prop} {S:World→Prop}
def Es (P:Program) (l:List Oper) (Q:Exit→Act→World→Prop) (S:World→Prop):Nat→List Nat→Act→World→Prop
 |0,_,a,w=>Q .normal a w
 |n+1,r,a,w=>match RA l r with
  |some i=>∃ o v,l[i]?=some o∧YieldsIf P l.toArray S o v a∧Es P l Q S n (r.erase i) (a.put o.dst v) w
  |none=>∀ i∈r,GL l r i=true→wpOp P l.toArray (fun _ _ _=>False) i (fun a' w'=>S w'∧Es P l Q S n (r.erase i) a' w') a w
theorem OQ {l:List Oper} (hB:Mx l=true) (hQ:∀ c a d v w,Q (.panic c) (Act.put a d v) w→Q (.panic c) a w) :
  ∀ (m:Nat) (r:List Nat) (listed:Array Bool) (a:Act) (w:World),r.length=m→r.Pairwise (·<·)→(∀ i,i∈r↔i<l.length∧listed.getD i true=false)→listed.size=l.length →
   (∀ j oj,l.toArray[j]?=some oj→listed.getD j false=true→∀ e∈oj.after,Region.binds .any e=true→listed.getD e.on false=true)→S w→Es P l Q S m r a w→wpAnyH P .any l.toArray Q S m listed a w:=by
 have hB':=hB
 simp only [Mx,Bool.and_eq_true] at hB'
 obtain ⟨⟨hns,hord⟩,_⟩:=hB'
 have hsel:=Region.noSelect_spec hns
 intro m
 induction m with
 |zero =>
  intro r listed a w hm hs hr hsz hcl hS h
  have:r=[]:=List.length_eq_zero_iff.1 hm
  subst this
  refine⟨?_,h⟩
  rw [List.eq_nil_iff_forall_not_mem]
  intro i hi
  obtain ⟨h1,o,ho,_⟩:=mem_ready.1 hi
  have hlt:i<l.length:=by have:=(Array.getElem?_eq_some_iff.1 ho).1;simpa using this
  have:=(hr i).2 ⟨hlt,h1⟩
  cases this
 |succ m ih =>
  intro r listed a w hm hs hr hsz hcl hS h
  have hready:∀ j,j∈Region.ready .any l.toArray listed↔j∈r∧GL l r j=true:=by
   intro j
   rw [mem_ready,hr j]
   constructor
   ·rintro ⟨h1,o,ho,h2⟩
    have hlt:j<l.length:=by have:=(Array.getElem?_eq_some_iff.1 ho).1;simpa using this
    refine⟨⟨hlt,h1⟩,?_⟩
    unfold GL
    have ho':l[j]?=some o:=by simpa using ho
    rw [ho']
    rw [Array.all_eq_true_iff_forall_mem]
    intro e he
    cases hb:Region.binds .any e with
    |false=>rfl
    |true =>
     have:=h2 e he hb
     simp only [Bool.not_true,Bool.false_or,Bool.not_eq_true',List.contains_eq_mem,decide_eq_false_iff_not]
     intro hmem
     have h3:=((hr e.on).1 hmem).2
     rw [getD_both h3] at this;cases this
   ·rintro ⟨⟨hlt,h1⟩,h2⟩
    obtain ⟨o,ho,hed⟩:=Xx hord hlt
    refine⟨h1,o,ho,fun e he hb=>?_⟩
    unfold GL at h2
    have ho':l[j]?=some o:=by simpa using ho
    rw [ho',Array.all_eq_true_iff_forall_mem] at h2
    have:=h2 e he
    rw [hb] at this
    simp only [Bool.not_true,Bool.false_or,Bool.not_eq_true',List.contains_eq_mem,decide_eq_false_iff_not] at this
    cases hv:listed.getD e.on false with
    |true=>rfl
    |false =>
     have hel:=hed e he hb
     exact absurd ((hr e.on).2 ⟨by omega,getD_in (by omega) hv⟩) this
  have next:∀ j,j∈Region.ready .any l.toArray listed→∀ a' w',S w'→Es P l Q S m (r.erase j) a' w'→wpAnyH P .any l.toArray Q S m (listed.setIfInBounds j true) a' w':=by
   intro j hj a' w' hS' h'
   have hjr:=((hready j).1 hj).1
   have hjsz:j<listed.size:=by rw [hsz];exact((hr j).1 hjr).1
   refine ih (r.erase j) _ a' w' (by rw [List.length_erase_of_mem hjr];omega) (hs.sublist List.erase_sublist) (fun k=>?_) (by simpa using hsz) (fun k ok hk hl e he hb=>?_) hS' h'
   ·rw [List.Nodup.mem_erase_iff (hs.imp (fun h=>Nat.ne_of_lt h)),hr k]
    by_cases hjk:j=k
    ·subst hjk;simp [hjsz]
    ·rw [getD_set_ne true hjk];simp [Ne.symm hjk]
   ·by_cases hjk:j=k
    ·subst hjk
     obtain ⟨_,oj,hoj,hall⟩:=mem_ready.1 hj
     have:ok=oj:=Option.some.inj (hk.symm.trans hoj)
     subst this
     exact getD_set_true (hall e he hb)
    ·rw [getD_set_ne false hjk] at hl
     exact getD_set_true (hcl k ok hk hl e he hb)
  unfold Es at h
  cases hp:RA l r with
  |some j =>
   rw [hp] at h
   obtain ⟨oj,v,hoj0,hy,h'⟩:=h
   have hoj:l.toArray[j]?=some oj:=by simpa using hoj0
   have hjr:j∈r:=List.mem_of_find?_eq_some hp
   have hqr:=List.find?_some hp
   simp only [Bool.and_eq_true] at hqr
   have hq:Jw oj.op=true:=by have:=hqr.1;unfold Am at this;rw [hoj0] at this;exact this
   have hj:j∈Region.ready .any l.toArray listed:=(hready j).2 ⟨hjr,hqr.2⟩
   have hjs:=mem_ready.1 hj
   have happ:∀ k ok,l.toArray[k]?=some ok→k≠j→listed.getD k true=false→(∀ e∈ok.after,Region.binds .any e=true→e.on≠j)→oj.apart l.toArray ok=true:=by
    intro k ok hok hkj hun hno
    have hnw:Region.waitsFor .any l.toArray k j=false:=by
     cases hv:Region.waitsFor .any l.toArray k j with
     |false=>rfl
     |true =>
      obtain ⟨o',ho',e,he,hb,hon⟩:=Region.waitsFor_spec hv
      have:o'=ok:=Option.some.inj (ho'.symm.trans hok)
      subst this
      exact absurd hon (hno e he hb)
    have hnw2:Region.waitsFor .any l.toArray j k=false:=by
     cases hv:Region.waitsFor .any l.toArray j k with
     |false=>rfl
     |true =>
      obtain ⟨o',ho',e,he,hb,hon⟩:=Region.waitsFor_spec hv
      obtain ⟨_,o2,ho2,hall⟩:=hjs
      have:o'=o2:=Option.some.inj (ho'.symm.trans ho2)
      subst this
      have:=hall e he hb
      rw [hon,getD_both hun] at this;cases this
    rcases Nat.lt_or_gt_of_ne hkj with hlt | hgt
    ·have:=Mw hB hlt (by simpa using hok) (by simpa using hoj) (by simp [hq])
     rw [hnw2] at this
     exact PE (by simpa using this)
    ·have:=Mw hB hgt (by simpa using hoj) (by simpa using hok) (by simp [hq])
     rw [hnw] at this
     simpa using this
   exact wpAnyH_first hoj hsel (fun c a w h=>hQ c a _ v w h) m listed a w happ hj hy hS (next j hj _ w hS h')
  |none =>
   rw [hp] at h
   match r,hm,hs,hr,h,hready,next with
   |i::r,hm,hs,hr,h,hready,next =>
    have hil:=(hr i).1 (by simp)
    have hmin:∀ j,j<i→listed.getD j false=true:=by
     intro j hj
     cases hv:listed.getD j false with
     |true=>rfl
     |false =>
      have hjl:j<l.length:=by omega
      have:=(hr j).2 ⟨hjl,getD_in (by omega) hv⟩
      rcases List.mem_cons.1 this with e | e
      ·omega
      ·have:=(List.pairwise_cons.1 hs).1 j e;omega
    obtain ⟨oi,hoi,hed⟩:=Xx hord hil.1
    have hri:i∈Region.ready .any l.toArray listed:=mem_ready.2 ⟨hil.2,oi,hoi,fun e he hb=>hmin _ (hed e he hb)⟩
    refine⟨fun h0=>(by rw [h0] at hri;cases hri),fun j hj=>?_⟩
    have hj':=(hready j).1 hj
    exact TJ (wpOp_mono (fun a' w' h=>⟨h.1,next j hj a' w' h.1 h.2⟩) (h j hj'.1 hj'.2))
theorem PQ {l:List Oper} {Q':Exit→Act→World→Prop} (hB:Mx l=true) (hQ:∀ c a w,¬ Q' (.panic c) a w) {a:Act} {w:World} (hS:S w) (h:Es P l Q' S l.length (List.range' 0 l.length) a w) :
  wpAny P .any l.toArray Q' l.length (Array.replicate l.length false) a w:=by
 refine wpAny_of_held _ _ _ _ (OQ hB (fun c a d v w h=>absurd h (hQ c _ w)) l.length (List.range' 0 l.length) _ a w (by simp) List.pairwise_lt_range' (fun i=>?_) (by simp) (fun j oj _ hl=>(by rw [getD_replicate_false] at hl;cases hl)) hS h)
 rw [List.mem_range'_1]
 constructor
 ·intro h
  have:i<l.length:=by omega
  simp [this]
 ·intro h;omega
theorem Mp {id:Nat} {a:Act} {w:World} {l:List Oper} (hm:P.follows .mixedOrders=true) (hB:Mx l=true) (hS:S { w with drawn:=w.drawn+1 })
  (h:Es P l (Xy (Q .normal)) S l.length (List.range' 0 l.length) a { w with drawn:=w.drawn+1 }):(Code.region id l.toArray true).wp P Q a w:=by
 refine wp_region_any hm ?_
 have:=PQ (P:=P) (Q':=Xy (Q .normal)) hB (fun c a w h=>h) hS h
 simpa using Vp (Q':=Q) (fun e a w h=>by cases e<;>first | exact h | exact h.elim) _ _ _ _ this
end
section
variable {P:Program} {Q:Exit→Act→World→Prop} {N:Nat} {m:Sl} {E E0:Env} {l:List Oper} {r r':List Nat} {w0:World} {F0:Gs} {bs:List (Nat×Obj)} {G:Gs→Prop}
def JT (P:Program) (l:List Oper) (Q:Exit→Act→World→Prop) (E0:Env) (r:List Nat) (N:Nat) (m:Sl) (E:Env):Prop:=(∀ w,St E w→St E0 w)→∀ a w,Jt N m a→St E w→Es P l Q (St E0) r.length r a w
def Bf (P:Program) (l:List Oper) (Q:Exit→Act→World→Prop) (E0:Env) (r:List Nat):Act→World→Prop:=fun a w=>Es P l Q (St E0) r.length r a w
theorem Yx (h:JT P l Q E0 r N m E):JD P l.toArray (Xy (Bf P l Q E0 r)) E0 [] N m E:=fun hE a w ha hw=>h hE a w ha hw
theorem RX {i:Nat} (h:i∈r):r.length=(r.erase i).length+1:=by
 rw [List.length_erase_of_mem h]
 have:=List.length_pos_of_mem h
 omega
theorem OC (i:Nat) {o:Oper} (hp:RA l r=some i) (ho:l[i]?=some o) (he:r.erase i=r') (h:JD P l.toArray (Xy (Bf P l Q E0 r')) E0 [o] N m E):JT P l Q E0 r N m E:=by
 intro hE a w ha hw
 subst he
 have hi:i∈r:=List.mem_of_find?_eq_some hp
 rw [RX hi]
 unfold Es
 rw [hp]
 have hq:Jw o.op=true:=by
  have:=List.find?_some hp
  simp only [Bool.and_eq_true] at this
  have:=this.1;unfold Am at this;rw [ho] at this;exact this
 rcases h hE a w ha hw with ⟨_,v,h1,h2⟩ | ⟨h1,_⟩
 ·exact⟨o,v,ho,h1,h2⟩
 ·rw [hq] at h1;cases h1
theorem AP {i:Nat} {o:Oper} (ho:l[i]?=some o) (hq:Jw o.op=false) (h:JD P l.toArray (Xy (Bf P l Q E0 r')) E0 [o] N m E) (hE:∀ w,St E w→St E0 w) {a:Act} {w:World} (ha:Jt N m a) (hw:St E w) :
  wpOp P l.toArray (fun _ _ _=>False) i (fun a' w'=>St E0 w'∧Bf P l Q E0 r' a' w') a w:=by
 have ho':l.toArray[i]?=some o:=by simpa using ho
 unfold wpOp
 simp only [ho']
 rcases h hE a w ha hw with ⟨h1,_⟩ | ⟨_,h2⟩
 ·rw [hq] at h1;cases h1
 ·split
  ·rename_i g
   rw [if_pos g] at h2
   exact .inl h2
  ·rename_i g
   rw [if_neg g] at h2
   exact h2
theorem vB (hp:RA l r=none) (h:∀ i∈r.filter (GL l r),∃ o,l[i]?=some o∧Jw o.op=false∧JD P l.toArray (Xy (Bf P l Q E0 (r.erase i))) E0 [o] N m E) (hr:r≠[]:=by decide):JT P l Q E0 r N m E:=by
 intro hE a w ha hw
 obtain ⟨x,s,rfl⟩:=List.exists_cons_of_ne_nil hr
 show Es P l Q (St E0) (s.length+1) (x::s) a w
 unfold Es
 rw [hp]
 intro i hi hrd
 obtain ⟨o,ho,hq,hj⟩:=h i (List.mem_filter.2 ⟨hi,hrd⟩)
 have:=AP ho hq hj hE ha hw
 refine wpOp_mono (fun a' w' h=>⟨h.1,?_⟩) this
 have h2:=h.2
 unfold Bf at h2
 rw [show s.length=((x::s).erase i).length by have:=RX hi;simp at this;omega]
 exact h2
theorem Kx (i:Nat) {o:Oper} (hp:RA l r=none) (hl:r.filter (GL l r)=[i]) (ho:l[i]?=some o) (hq:Jw o.op=false) (he:r.erase i=r') (h:JD P l.toArray (Xy (Bf P l Q E0 r')) E0 [o] N m E) (hr:r≠[]:=by decide):JT P l Q E0 r N m E :=
 vB hp (fun k hk=>by rw [hl] at hk;cases List.mem_singleton.1 hk;exact⟨o,ho,hq,he ▸ h⟩) hr
theorem Ie (i j:Nat) {o u:Oper} {r2:List Nat} (hp:RA l r=none) (hl:r.filter (GL l r)=[i,j]) (ho:l[i]?=some o) (hu:l[j]?=some u) (hq:Jw o.op=false) (hq2:Jw u.op=false) (he:r.erase i=r') (he2:r.erase j=r2)
  (h:JD P l.toArray (Xy (Bf P l Q E0 r')) E0 [o] N m E) (h2:JD P l.toArray (Xy (Bf P l Q E0 r2)) E0 [u] N m E) (hr:r≠[]:=by decide):JT P l Q E0 r N m E :=
 vB hp (fun k hk=>by
  rw [hl] at hk
  simp only [List.mem_cons,List.not_mem_nil,or_false] at hk
  rcases hk with rfl | rfl
  ·exact⟨o,ho,hq,he ▸ h⟩
  ·exact⟨u,hu,hq2,he2 ▸ h2⟩) hr
theorem y3 {id:Nat} {bs0:List (Nat×Obj)} (hb0:bs0.Sublist bs) (hm:P.follows .mixedOrders=true) (hB:Mx l=true) (hr:List.range' 0 l.length=r) (h:JT P l (Xy (Q .normal)) ⟨w0,F0,bs0,G⟩ r N m ⟨w0,F0,bs,G⟩):J P (.region id l.toArray true) Q N m ⟨w0,F0,bs,G⟩:=fun a w ha hw=>by
 subst hr
 refine Mp hm hB ((hw.imp hb0 fun _ h=>h).drew) ?_
 have:=h (fun _ h=>h.imp hb0 fun _ h=>h) a _ ha hw.drew
 simpa using this
theorem DS (h:Fin Q .normal N m E):JT P l (Xy (Q .normal)) E0 [] N m E:=fun _=>h
end
end
end
section
open Go.RowKit Ig
def Bn (a:Rat×Rat) (n:Int):Rat×Rat:=(if(decide (n>0)&&(decide (n%2=0)&&(decide (Ep a.1.num<0)&&decide (Ep a.2.num>0))))=true then 0 else(K7 (a.1^n.toNat) [a.2^n.toNat]).1,(K7 (a.1^n.toNat) [a.2^n.toNat]).2)
theorem TV {w:World} {F:Gs} {x:Sp} {a:Rat×Rat} {n:Int} (hF:Fits F w) (h:ZT F x a) (hn:0≤n∧n≤12) (hz:JQ a.1≤1000000∧JQ a.2≤1000000):VJ Tryz.prog 149 [x.v,.int .i64 n] w F (Bn a n):=by
 obtain ⟨z1,z2⟩:=hz
 have p1:=Gh a.1 n.toNat
 have p2:=Gh a.2 n.toNat
 have m1:n.toNat*JQ a.1≤12*1000000:=Nat.mul_le_mul (by omega) z1
 have m2:n.toNat*JQ a.2≤12*1000000:=Nat.mul_le_mul (by omega) z2
 dsimp only [Sp.v]
 refine QT.intro (G:=fun F=>ZT F x a) Tryz.func149 rfl (by rfl) rfl rfl hF (fun F' hF'=>h.le hF')<|QG<|QB ?_
 refine Qz rfl (vs:=[_,_,_,_,_,_,_,_]) rfl (fun b2=>?_)
 refine QZ KB (fun b4=>?_)
 refine QF<|QC ?_
 refine Ic (ι:=Nat×Sp) [(1,_),(2,_),(4,_)] (fun i=>[(5,.pointer (some ⟨i.1,0,none⟩))]) (fun i=>[(i.1,.cells [.int .i64 i.2.lo.n.s,.slice i.2.lo.n.q i.2.lo.n.n i.2.lo.n.cap,.int .i64 i.2.lo.d.s,.slice i.2.lo.d.q i.2.lo.d.n i.2.lo.d.cap,.int .i64 i.2.hi.n.s,.slice i.2.hi.n.q i.2.hi.n.n i.2.hi.n.cap,.int .i64 i.2.hi.d.s,.slice i.2.hi.d.q i.2.hi.d.n i.2.hi.d.cap].toArray 138 (0,0)),(b4,.cells [.int .i64 0,.slice none 0 0,.int .i64 0,.slice none 0 0,.int .i64 0,.slice none 0 0,.int .i64 0,.slice none 0 0].toArray 138 (0,0)),(b2,.cells [.int .i64 x.lo.n.s,.slice x.lo.n.q x.lo.n.n x.lo.n.cap,.int .i64 x.lo.d.s,.slice x.lo.d.q x.lo.d.n x.lo.d.cap,.int .i64 x.hi.n.s,.slice x.hi.n.q x.hi.n.n x.hi.n.cap,.int .i64 x.hi.d.s,.slice x.hi.d.q x.hi.d.n x.hi.d.cap].toArray 138 (0,0))]) (fun i F=>ZT F i.2 (K7 (a.1^n.toNat) [a.2^n.toNat])) ⟨rfl,rfl,rfl,trivial⟩ ?_ ?_
 ·
  refine y3 (r:=[0,1,2,3,4,5,6,7,8,9,10,11]) (.cons_cons _ (.cons_cons _ .slnil)) mixed (by kernel_rfl) rfl<|OC 0 (by kernel_rfl) rfl rfl<|QK (QI rfl Zw Qg)<|Yx<|OC 1 (by kernel_rfl) rfl rfl<|QK (QJ (vs:=[_,_,_,_]) rfl Qg (.there .here) (.here (.here (.here (.here .nil)))) rfl)<|Yx<|OC 2 (by kernel_rfl) rfl rfl<|QK (QD rfl)<|Yx<|OC 4 (by kernel_rfl) rfl rfl<|QK (QI rfl YG Qg)<|Yx<|OC 5 (by kernel_rfl) rfl rfl<|QK (QJ (vs:=[_,_,_,_]) rfl Qg (.there .here) (.skip (.skip (.skip (.skip (.here (.here (.here (.here .nil)))))))) rfl)<|Yx<|OC 6 (by kernel_rfl) rfl rfl<|QK (QD rfl)<|Yx ?_
  refine Ie 3 10 (by kernel_rfl) (by kernel_rfl) rfl rfl rfl rfl rfl rfl ?_ ?_
  ·
   refine QY rfl (fun w F hF ⟨⟨h1,h2⟩,⟨h3,h4⟩⟩=>Nr hF ⟨by assumption,by assumption⟩ (hn.1) (by omega) (by omega)) (fun x9=>?_)
   refine Yx ?_
   refine Ie 7 10 (by kernel_rfl) (by kernel_rfl) rfl rfl rfl rfl rfl rfl ?_ ?_
   ·
    refine QY rfl (fun w F hF ⟨⟨⟨h1,h2⟩,⟨h3,h4⟩⟩,⟨h9,h9_⟩⟩=>Nr hF ⟨by assumption,by assumption⟩ (hn.1) (by omega) (by omega)) (fun x13=>?_)
    refine Yx ?_
    refine Ie 8 10 (by kernel_rfl) (by kernel_rfl) rfl rfl rfl rfl rfl rfl ?_ ?_
    ·
     refine Jv rfl (Q8 Hw) Qg X7 rfl rfl (fun b14=>?_) (fun w h=>h.imp (.cons_cons _ (.cons_cons _ .slnil)) (fun F h=>h.1.1))
     refine Yx ?_
     refine Ie 9 10 (by kernel_rfl) (by kernel_rfl) rfl rfl rfl rfl rfl rfl ?_ ?_
     ·
      refine QY rfl (fun w F hF ⟨⟨⟨⟨⟨h1,h2⟩,⟨h3,h4⟩⟩,⟨h9,h9_⟩⟩,⟨h13,h13_⟩⟩,hs14⟩=>Kc hF (⟨h9,h9_⟩) (ps:=[(x13,a.2^n.toNat)]) (JB.of (n:=1) (sz:=4) hs14 rfl) (fun p hp=>by simp only [List.mem_singleton] at hp;subst hp;exact⟨h13,h13_⟩) rfl (by omega) (⟨by omega,fun p hp=>by simp only [List.mem_singleton] at hp;subst hp;show JQ (a.2^n.toNat)≤50000000;omega⟩)) (fun x15=>?_)
      refine Yx<|Kx 10 (by kernel_rfl) (by kernel_rfl) rfl rfl rfl ?_
      refine Gd KB (fun b5=>?_)
      refine Yx<|Kx 11 (by kernel_rfl) (by kernel_rfl) rfl rfl rfl<|JU (vs:=[_,_,_,_,_,_,_,_]) rfl rfl rfl XN rfl .here (.cons_cons _ (.cons_cons _ .slnil)) (fun _ h=>h.1.1.1.1) (.here (.here (.here (.here (.here (.here (.here (.here .nil)))))))) ⟨rfl,rfl,rfl,rfl,rfl,rfl,rfl,rfl,trivial⟩<|Yx<|DS ?_
      exact XC ((b5,x15)) ⟨rfl,rfl,rfl,rfl,trivial⟩ (List.Sublist.refl _) (fun F ⟨⟨⟨⟨⟨⟨h1,h2⟩,⟨h3,h4⟩⟩,⟨h9,h9_⟩⟩,⟨h13,h13_⟩⟩,hs14⟩,⟨⟨h15,h15_⟩,⟨h15a,h15b⟩⟩⟩=>⟨⟨⟨h1,h2⟩,⟨h3,h4⟩⟩,⟨⟨h15,h15_⟩,⟨h15a,h15b⟩⟩⟩)
     ·
      refine Gd KB (fun b5=>?_)
      refine Yx<|Kx 9 (by kernel_rfl) (by kernel_rfl) rfl rfl rfl ?_
      refine QY rfl (fun w F hF ⟨⟨⟨⟨⟨h1,h2⟩,⟨h3,h4⟩⟩,⟨h9,h9_⟩⟩,⟨h13,h13_⟩⟩,hs14⟩=>Kc hF (⟨h9,h9_⟩) (ps:=[(x13,a.2^n.toNat)]) (JB.of (n:=1) (sz:=4) hs14 rfl) (fun p hp=>by simp only [List.mem_singleton] at hp;subst hp;exact⟨h13,h13_⟩) rfl (by omega) (⟨by omega,fun p hp=>by simp only [List.mem_singleton] at hp;subst hp;show JQ (a.2^n.toNat)≤50000000;omega⟩)) (fun x15=>?_)
      refine Yx<|Kx 11 (by kernel_rfl) (by kernel_rfl) rfl rfl rfl<|JU (vs:=[_,_,_,_,_,_,_,_]) rfl rfl rfl XN rfl .here (.cons_cons _ (.cons_cons _ .slnil)) (fun _ h=>h.1.1.1.1) (.here (.here (.here (.here (.here (.here (.here (.here .nil)))))))) ⟨rfl,rfl,rfl,rfl,rfl,rfl,rfl,rfl,trivial⟩<|Yx<|DS ?_
      exact XC ((b5,x15)) ⟨rfl,rfl,rfl,rfl,trivial⟩ (List.Sublist.refl _) (fun F ⟨⟨⟨⟨⟨⟨h1,h2⟩,⟨h3,h4⟩⟩,⟨h9,h9_⟩⟩,⟨h13,h13_⟩⟩,hs14⟩,⟨⟨h15,h15_⟩,⟨h15a,h15b⟩⟩⟩=>⟨⟨⟨h1,h2⟩,⟨h3,h4⟩⟩,⟨⟨h15,h15_⟩,⟨h15a,h15b⟩⟩⟩)
    ·
     refine Gd KB (fun b5=>?_)
     refine Yx<|Kx 8 (by kernel_rfl) (by kernel_rfl) rfl rfl rfl ?_
     refine Jv rfl (Q8 Hw) Qg X7 rfl rfl (fun b14=>?_) (fun w h=>h.imp (.cons _ (.cons_cons _ (.cons_cons _ .slnil))) (fun F h=>h.1.1))
     refine Yx<|Kx 9 (by kernel_rfl) (by kernel_rfl) rfl rfl rfl ?_
     refine QY rfl (fun w F hF ⟨⟨⟨⟨⟨h1,h2⟩,⟨h3,h4⟩⟩,⟨h9,h9_⟩⟩,⟨h13,h13_⟩⟩,hs14⟩=>Kc hF (⟨h9,h9_⟩) (ps:=[(x13,a.2^n.toNat)]) (JB.of (n:=1) (sz:=4) hs14 rfl) (fun p hp=>by simp only [List.mem_singleton] at hp;subst hp;exact⟨h13,h13_⟩) rfl (by omega) (⟨by omega,fun p hp=>by simp only [List.mem_singleton] at hp;subst hp;show JQ (a.2^n.toNat)≤50000000;omega⟩)) (fun x15=>?_)
     refine Yx<|Kx 11 (by kernel_rfl) (by kernel_rfl) rfl rfl rfl<|JU (vs:=[_,_,_,_,_,_,_,_]) rfl rfl rfl XN rfl .here (.cons_cons _ (.cons_cons _ .slnil)) (fun _ h=>h.1.1.1.1) (.here (.here (.here (.here (.here (.here (.here (.here .nil)))))))) ⟨rfl,rfl,rfl,rfl,rfl,rfl,rfl,rfl,trivial⟩<|Yx<|DS ?_
     exact XC ((b5,x15)) ⟨rfl,rfl,rfl,rfl,trivial⟩ (List.Sublist.refl _) (fun F ⟨⟨⟨⟨⟨⟨h1,h2⟩,⟨h3,h4⟩⟩,⟨h9,h9_⟩⟩,⟨h13,h13_⟩⟩,hs14⟩,⟨⟨h15,h15_⟩,⟨h15a,h15b⟩⟩⟩=>⟨⟨⟨h1,h2⟩,⟨h3,h4⟩⟩,⟨⟨h15,h15_⟩,⟨h15a,h15b⟩⟩⟩)
   ·
    refine Gd KB (fun b5=>?_)
    refine Yx<|Kx 7 (by kernel_rfl) (by kernel_rfl) rfl rfl rfl ?_
    refine QY rfl (fun w F hF ⟨⟨⟨h1,h2⟩,⟨h3,h4⟩⟩,⟨h9,h9_⟩⟩=>Nr hF ⟨by assumption,by assumption⟩ (hn.1) (by omega) (by omega)) (fun x13=>?_)
    refine Yx<|Kx 8 (by kernel_rfl) (by kernel_rfl) rfl rfl rfl ?_
    refine Jv rfl (Q8 Hw) Qg X7 rfl rfl (fun b14=>?_) (fun w h=>h.imp (.cons _ (.cons_cons _ (.cons_cons _ .slnil))) (fun F h=>h.1.1))
    refine Yx<|Kx 9 (by kernel_rfl) (by kernel_rfl) rfl rfl rfl ?_
    refine QY rfl (fun w F hF ⟨⟨⟨⟨⟨h1,h2⟩,⟨h3,h4⟩⟩,⟨h9,h9_⟩⟩,⟨h13,h13_⟩⟩,hs14⟩=>Kc hF (⟨h9,h9_⟩) (ps:=[(x13,a.2^n.toNat)]) (JB.of (n:=1) (sz:=4) hs14 rfl) (fun p hp=>by simp only [List.mem_singleton] at hp;subst hp;exact⟨h13,h13_⟩) rfl (by omega) (⟨by omega,fun p hp=>by simp only [List.mem_singleton] at hp;subst hp;show JQ (a.2^n.toNat)≤50000000;omega⟩)) (fun x15=>?_)
    refine Yx<|Kx 11 (by kernel_rfl) (by kernel_rfl) rfl rfl rfl<|JU (vs:=[_,_,_,_,_,_,_,_]) rfl rfl rfl XN rfl .here (.cons_cons _ (.cons_cons _ .slnil)) (fun _ h=>h.1.1.1.1) (.here (.here (.here (.here (.here (.here (.here (.here .nil)))))))) ⟨rfl,rfl,rfl,rfl,rfl,rfl,rfl,rfl,trivial⟩<|Yx<|DS ?_
    exact XC ((b5,x15)) ⟨rfl,rfl,rfl,rfl,trivial⟩ (List.Sublist.refl _) (fun F ⟨⟨⟨⟨⟨⟨h1,h2⟩,⟨h3,h4⟩⟩,⟨h9,h9_⟩⟩,⟨h13,h13_⟩⟩,hs14⟩,⟨⟨h15,h15_⟩,⟨h15a,h15b⟩⟩⟩=>⟨⟨⟨h1,h2⟩,⟨h3,h4⟩⟩,⟨⟨h15,h15_⟩,⟨h15a,h15b⟩⟩⟩)
  ·
   refine Gd KB (fun b5=>?_)
   refine Yx<|Kx 3 (by kernel_rfl) (by kernel_rfl) rfl rfl rfl ?_
   refine QY rfl (fun w F hF ⟨⟨h1,h2⟩,⟨h3,h4⟩⟩=>Nr hF ⟨by assumption,by assumption⟩ (hn.1) (by omega) (by omega)) (fun x9=>?_)
   refine Yx<|Kx 7 (by kernel_rfl) (by kernel_rfl) rfl rfl rfl ?_
   refine QY rfl (fun w F hF ⟨⟨⟨h1,h2⟩,⟨h3,h4⟩⟩,⟨h9,h9_⟩⟩=>Nr hF ⟨by assumption,by assumption⟩ (hn.1) (by omega) (by omega)) (fun x13=>?_)
   refine Yx<|Kx 8 (by kernel_rfl) (by kernel_rfl) rfl rfl rfl ?_
   refine Jv rfl (Q8 Hw) Qg X7 rfl rfl (fun b14=>?_) (fun w h=>h.imp (.cons _ (.cons_cons _ (.cons_cons _ .slnil))) (fun F h=>h.1.1))
   refine Yx<|Kx 9 (by kernel_rfl) (by kernel_rfl) rfl rfl rfl ?_
   refine QY rfl (fun w F hF ⟨⟨⟨⟨⟨h1,h2⟩,⟨h3,h4⟩⟩,⟨h9,h9_⟩⟩,⟨h13,h13_⟩⟩,hs14⟩=>Kc hF (⟨h9,h9_⟩) (ps:=[(x13,a.2^n.toNat)]) (JB.of (n:=1) (sz:=4) hs14 rfl) (fun p hp=>by simp only [List.mem_singleton] at hp;subst hp;exact⟨h13,h13_⟩) rfl (by omega) (⟨by omega,fun p hp=>by simp only [List.mem_singleton] at hp;subst hp;show JQ (a.2^n.toNat)≤50000000;omega⟩)) (fun x15=>?_)
   refine Yx<|Kx 11 (by kernel_rfl) (by kernel_rfl) rfl rfl rfl<|JU (vs:=[_,_,_,_,_,_,_,_]) rfl rfl rfl XN rfl .here (.cons_cons _ (.cons_cons _ .slnil)) (fun _ h=>h.1.1.1.1) (.here (.here (.here (.here (.here (.here (.here (.here .nil)))))))) ⟨rfl,rfl,rfl,rfl,rfl,rfl,rfl,rfl,trivial⟩<|Yx<|DS ?_
   exact XC ((b5,x15)) ⟨rfl,rfl,rfl,rfl,trivial⟩ (List.Sublist.refl _) (fun F ⟨⟨⟨⟨⟨⟨h1,h2⟩,⟨h3,h4⟩⟩,⟨h9,h9_⟩⟩,⟨h13,h13_⟩⟩,hs14⟩,⟨⟨h15,h15_⟩,⟨h15a,h15b⟩⟩⟩=>⟨⟨⟨h1,h2⟩,⟨h3,h4⟩⟩,⟨⟨h15,h15_⟩,⟨h15a,h15b⟩⟩⟩)
 ·intro i
  simp only [List.cons_append,List.nil_append]
  refine QG ?_
  refine Ze [(4,_),(5,_)] [(34,.bool ((decide (n>0)&&(decide (n%2=0)&&(decide (Ep a.1.num<0)&&decide (Ep a.2.num>0))))))] ⟨rfl,rfl,trivial⟩ ?_ ?_
  ·
   refine QB<|QA (QD rfl)<|QA (QU rfl rfl rfl)<|QA (QD rfl) ?_
   refine Qk (t:=18) rfl (fun hb18=>?_) (fun hb18=>?_)
   ·
    refine QL rfl rfl<|QA (QD rfl)<|QL rfl rfl<|QA (KH rfl rfl (by omega) (by omega))<|QL rfl rfl<|QA (QU rfl rfl rfl)<|QA (Qj rfl rfl rfl)<|QA (QD rfl) ?_
    refine Qk (t:=23) rfl (fun hb23=>?_) (fun hb23=>?_)
    ·
     refine QL rfl rfl<|QA (QI rfl Zw Qg)<|QL rfl rfl<|QA (QJ (vs:=[_,_,_,_]) rfl Qg (.there (.there .here)) (.here (.here (.here (.here .nil)))) rfl)<|QL rfl rfl ?_
     refine QH rfl (fun w F hF ⟨⟨⟨h1,h2⟩,⟨h3,h4⟩⟩,⟨⟨k1,k2⟩,⟨k3,k4⟩⟩⟩=>Gv hF ⟨by assumption,by assumption⟩) (fun _=>?_)
     refine QL rfl rfl<|QA (QU rfl rfl rfl)<|QA (Qj rfl rfl rfl)<|QA (QD rfl) ?_
     refine Qk (t:=29) rfl (fun hb29=>?_) (fun hb29=>?_)
     ·
      refine QL rfl rfl<|QA (QI rfl YG Qg)<|QL rfl rfl<|QA (QJ (vs:=[_,_,_,_]) rfl Qg (.there (.there .here)) (.skip (.skip (.skip (.skip (.here (.here (.here (.here .nil)))))))) rfl)<|QL rfl rfl ?_
      refine QH rfl (fun w F hF ⟨⟨⟨⟨h1,h2⟩,⟨h3,h4⟩⟩,⟨⟨k1,k2⟩,⟨k3,k4⟩⟩⟩,_⟩=>Gv hF ⟨by assumption,by assumption⟩) (fun _=>?_)
      refine QL rfl rfl<|QA (QU rfl rfl rfl)<|QA (Qj rfl rfl rfl)<|QF ?_
      exact J2 ⟨rfl,rfl,(congrArg (fun b=>some (Value.bool b)) (by rw [Bool.eq_iff_iff];simp_all<;>(intros;omega))),trivial⟩ (List.Sublist.refl _) (fun _ h=>h.1.1)
     ·
      refine QO rfl rfl rfl<|QO rfl rfl rfl<|QO rfl rfl rfl<|QO rfl rfl rfl<|QA (Qh rfl rfl rfl)<|QF ?_
      exact J2 ⟨rfl,rfl,(congrArg (fun b=>some (Value.bool b)) (by rw [Bool.eq_iff_iff];simp_all<;>(intros;omega))),trivial⟩ (List.Sublist.refl _) (fun _ h=>h.1)
    ·
     refine QO rfl rfl rfl<|QO rfl rfl rfl<|QO rfl rfl rfl<|QO rfl rfl rfl<|QA (Qh rfl rfl rfl)<|QA (QD rfl)<|QO rfl rfl rfl<|QO rfl rfl rfl<|QO rfl rfl rfl<|QO rfl rfl rfl<|QA (Qh rfl rfl rfl)<|QF ?_
     exact J2 ⟨rfl,rfl,(congrArg (fun b=>some (Value.bool b)) (by rw [Bool.eq_iff_iff];simp_all<;>(intros;omega))),trivial⟩ (List.Sublist.refl _) (fun _ h=>h)
   ·
    refine QO rfl rfl rfl<|QO rfl rfl rfl<|QO rfl rfl rfl<|QA (Qh rfl rfl rfl)<|QA (QD rfl)<|QO rfl rfl rfl<|QO rfl rfl rfl<|QO rfl rfl rfl<|QO rfl rfl rfl<|QA (Qh rfl rfl rfl)<|QA (QD rfl)<|QO rfl rfl rfl<|QO rfl rfl rfl<|QO rfl rfl rfl<|QO rfl rfl rfl<|QA (Qh rfl rfl rfl)<|QF ?_
    exact J2 ⟨rfl,rfl,(congrArg (fun b=>some (Value.bool b)) (by rw [Bool.eq_iff_iff];simp_all<;>(intros;omega))),trivial⟩ (List.Sublist.refl _) (fun _ h=>h)
  ·
   simp only [List.cons_append,List.nil_append]
   refine QQ rfl (fun hc=>?_) (fun hc=>?_)
   ·
    refine QB ?_
    refine QH rfl (fun w F hF ⟨⟨⟨h1,h2⟩,⟨h3,h4⟩⟩,⟨⟨k1,k2⟩,⟨k3,k4⟩⟩⟩=>vY hF (by omega) (by omega)) (fun x35=>?_)
    refine QA (QI rfl Zw Qg)<|QS (vs:=[_,_,_,_]) rfl rfl rfl Qg rfl .here (.here (.here (.here (.here .nil)))) ⟨rfl,rfl,rfl,rfl,trivial⟩<|QF<|QC<|QG<|QB<|QA (QJ (vs:=[_,_,_,_,_,_,_,_]) rfl XN .here (.here (.here (.here (.here (.here (.here (.here (.here .nil)))))))) rfl)<|QS (vs:=[_,_,_,_,_,_,_,_]) rfl rfl rfl XN rfl (.there .here) (.here (.here (.here (.here (.here (.here (.here (.here .nil)))))))) ⟨rfl,rfl,rfl,rfl,rfl,rfl,rfl,rfl,trivial⟩<|QF<|QC<|QR ?_
    exact QN (⟨x35,i.2.hi⟩) rfl (.JX (c:=[_,_,_,_,_,_,_,_]) rfl XN (.there .here) .nil) (rfl) (fun F ⟨⟨⟨⟨h1,h2⟩,⟨h3,h4⟩⟩,⟨⟨k1,k2⟩,⟨k3,k4⟩⟩⟩,⟨h35,h35_⟩⟩=>by have e:(Bn a n)=(0,(K7 (a.1^n.toNat) [a.2^n.toNat]).2):=(by unfold Bn;rw [if_pos hc]);rw [e];exact⟨⟨h35,h35_⟩,⟨k3,k4⟩⟩)
   ·
    refine QP<|QC<|QG<|QB<|QA (QJ (vs:=[_,_,_,_,_,_,_,_]) rfl XN .here (.here (.here (.here (.here (.here (.here (.here (.here .nil)))))))) rfl)<|QS (vs:=[_,_,_,_,_,_,_,_]) rfl rfl rfl XN rfl (.there .here) (.here (.here (.here (.here (.here (.here (.here (.here .nil)))))))) ⟨rfl,rfl,rfl,rfl,rfl,rfl,rfl,rfl,trivial⟩<|QF<|QC<|QR ?_
    exact QN (i.2) rfl (.JX (c:=[_,_,_,_,_,_,_,_]) rfl XN (.there .here) .nil) (rfl) (fun F ⟨⟨⟨h1,h2⟩,⟨h3,h4⟩⟩,⟨⟨k1,k2⟩,⟨k3,k4⟩⟩⟩=>by have e:(Bn a n)=(K7 (a.1^n.toNat) [a.2^n.toNat]):=(by unfold Bn;rw [if_neg (by rw [hc];decide)]);rw [e];exact⟨⟨k1,k2⟩,⟨k3,k4⟩⟩)
end
section
open Go.RowKit Ig
def NB (n:Int):Int:=if n<0∨n>12 then 3 else 0
theorem q9 {n:Int} (h:NB n=0):0≤n∧n≤12:=by unfold NB at h;split at h<;>omega
def I5 (lo hi:List UInt8) (n:Int):(List UInt8×List UInt8)×Int:=if Qm [Jl lo hi,NB n]=0 then Vx (Bn (JM lo,JM hi) n) else(([],[]),Qm [Jl lo hi,NB n])
theorem OU:JQ 0≤1:=by decide
theorem jN {a:Rat×Rat} {n:Int} (hn:0≤n∧n≤12) (h:JQ a.1≤1000000∧JQ a.2≤1000000):JQ (Bn a n).1≤12000001∧JQ (Bn a n).2≤12000001:=by
 have p1:=Gh a.1 n.toNat
 have p2:=Gh a.2 n.toNat
 have m1:n.toNat*JQ a.1≤12*1000000:=Nat.mul_le_mul (by omega) h.1
 have m2:n.toNat*JQ a.2≤12*1000000:=Nat.mul_le_mul (by omega) h.2
 have ha:=G3 (k:=12000001) [a.2^n.toNat] (a.1^n.toNat,a.1^n.toNat) ⟨by show JQ (a.1^n.toNat)≤_;omega,by show JQ (a.1^n.toNat)≤_;omega⟩ (fun x hx=>by simp only [List.mem_singleton] at hx;subst hx;omega)
 unfold Bn
 refine⟨?_,ha.2⟩
 show JQ (if _ then _ else _)≤_
 split
 ·have:=OU;omega
 ·exact ha.1
theorem Tx {w:World} {F:Gs} {lo hi:List UInt8} {n:Int} (hF:Fits F w) (hG:JF F) (hl:lo.length≤1000000∧hi.length≤1000000):QV Tryz.prog 48 [.agg #[tx lo,tx hi],.int .i64 n] w F (.tuple #[.agg #[tx (I5 lo hi n).1.1,tx (I5 lo hi n).1.2],.int .i64 (I5 lo hi n).2]):=by
 refine QT.intro (G:=fun F=>JF F) Tryz.func48 rfl (by rfl) rfl rfl hF (fun F' hF'=>hG.le hF')<|QG<|QB<|Qz rfl (vs:=[_,_]) rfl (fun b2=>QZ Zg (fun b4=>QA (QE rfl)<|QF<|QC<|QG ?_))
 refine Ze [(1,_),(2,_),(4,_)] [(6,.int .i64 (Qm [Jl lo hi,NB n]))] ⟨rfl,rfl,rfl,trivial⟩ ?_ ?_
 ·
  refine QB<|QA (QJ (vs:=[_,_]) rfl JW (.there .here) (.here (.here .nil)) rfl)<|QH rfl (fun w F hF hGl=>Yr hF hGl (hl)) (fun _=>QA (QD rfl)<|QA (QU rfl rfl rfl)<|QA (QD rfl) ?_)
  refine Qk (t:=11) rfl (fun hb11=>?_) (fun hb11=>?_)
  ·
   refine QO rfl rfl rfl<|QO rfl rfl rfl<|QA (Qj rfl rfl rfl)<|QH rfl (fun w F hF ⟨hGl,_⟩=>Zz hF ) (fun _=>QW rfl (Q8 Zq) KC BI rfl rfl (fun b16=>QH rfl (fun w F hF ⟨⟨⟨hGl,_⟩,_⟩,hs16⟩=>YE hF (JB.of (cs:=List.map Q3 [Jl lo hi,(if(true:Bool)=true then 3 else 0)]) hs16 rfl) (by decide)) (fun _=>QA (QE rfl)<|QF ?_)))
   exact J2 ⟨rfl,rfl,rfl,(congrArg (fun z:Int=>some (Value.int .i64 z)) (by have h:=of_decide_eq_true hb11;have e:NB n=3:=(by unfold NB;rw [if_pos (.inl h)]);rw [e];rfl)),trivial⟩ (List.Sublist.refl _) (fun _ h=>h.1.1.1.1)
  ·
   refine QL rfl rfl<|QA (QD rfl)<|QL rfl rfl<|QA (QU rfl rfl rfl)<|QA (Qh rfl rfl rfl)<|QH rfl (fun w F hF ⟨hGl,_⟩=>Zz hF ) (fun _=>QW rfl (Q8 Zq) KC BI rfl rfl (fun b16=>QH rfl (fun w F hF ⟨⟨⟨hGl,_⟩,_⟩,hs16⟩=>YE hF (JB.of (cs:=List.map Q3 [Jl lo hi,(if(decide (n>12))=true then 3 else 0)]) hs16 rfl) (by decide)) (fun _=>QA (QE rfl)<|QF ?_)))
   exact J2 ⟨rfl,rfl,rfl,(congrArg (fun z:Int=>some (Value.int .i64 z)) (by have h:=of_decide_eq_false hb11;have e:NB n=(if(decide (n>12))=true then 3 else 0):=(by unfold NB;by_cases g:n>12<;>simp [g,h]);rw [e])),trivial⟩ (List.Sublist.refl _) (fun _ h=>h.1.1.1.1)
 ·
  simp only [List.cons_append,List.nil_append]
  refine QG<|QB<|QA (QD rfl)<|QA (QU rfl rfl rfl)<|QF<|QC ?_
  refine QQ rfl (fun hc=>?_) (fun hc=>?_)
  ·
   have he:¬ Qm [Jl lo hi,NB n]=0:=by simpa using hc
   refine QG<|QB<|QA (Q4 rfl YI Zg .nil)<|QA (QD rfl)<|QS (vs:=[_,_]) rfl rfl rfl JW rfl .here (.here (.here .nil)) ⟨rfl,rfl,trivial⟩<|QA (QE rfl)<|QF<|QC<|QR ?_
   exact Jb (()) rfl (.JX (c:=[_,_]) rfl JW .here (.tmp rfl .nil)) (by unfold I5;rw [if_neg he];rfl) (fun F hGl=>trivial)
  ·
   have he:Qm [Jl lo hi,NB n]=0:=by simpa using hc
   obtain ⟨e1,e2⟩:=ZG he
   obtain ⟨k1,k2,_⟩:=Ys e1
   have hn:=q9 e2
   have s1:=J4 k1
   have s2:=J4 k2
   have hps:=jN (a:=(JM lo,JM hi)) hn ⟨by show JQ (JM lo)≤_;omega,by show JQ (JM hi)≤_;omega⟩
   refine QP<|QC<|QG<|QB<|QA (QJ (vs:=[_,_]) rfl JW (.there .here) (.here (.here .nil)) rfl)<|QH rfl (fun w F hF hGl=>NO hF hGl (k1) (k2) (hl)) (fun x23=>QA (QD rfl)<|QH rfl (fun w F hF ⟨hGl,⟨⟨h23,h23_⟩,⟨h23a,h23b⟩⟩⟩=>TV hF ⟨⟨h23,h23_⟩,⟨h23a,h23b⟩⟩ hn ⟨Nat.le_trans s1 (by decide),Nat.le_trans s2 (by decide)⟩) (fun x25=>QH rfl (fun w F hF ⟨⟨hGl,⟨⟨h23,h23_⟩,⟨h23a,h23b⟩⟩⟩,⟨⟨h25,h25_⟩,⟨h25a,h25b⟩⟩⟩=>E9 hF hGl (r:=Bn (JM lo,JM hi) n) ⟨⟨h25,h25_⟩,⟨h25a,h25b⟩⟩ ⟨by omega,by omega⟩) (fun _=>QA (QM rfl rfl)<|QA (QM rfl rfl)<|QS (vs:=[_,_]) rfl rfl rfl JW rfl .here (.here (.here .nil)) ⟨rfl,rfl,trivial⟩<|QA (QE rfl)<|QF<|QC<|QR ?_)))
   exact Jb (()) rfl (.JX (c:=[_,_]) rfl JW .here (.tmp rfl .nil)) (by unfold I5;rw [if_pos he];rfl) (fun F ⟨⟨⟨hGl,⟨⟨h23,h23_⟩,⟨h23a,h23b⟩⟩⟩,⟨⟨h25,h25_⟩,⟨h25a,h25b⟩⟩⟩,_⟩=>trivial)
end
end Go.Proofs.YtknegjaeoffnbaaGreatDoor
namespace Ig
def Zv:List Int→List Int→Bool
 |x::a,y::b=>decide (y<x)||(decide (x=y)&&Zv a b)
 |_::_,[]=>true
 |[],_=>false
def before (a b:List Int):Bool:=decide (b.sum<a.sum)||(decide (a.sum=b.sum)&&Zv a b)
theorem Bu:∀ a:List Int,Zv a a=false
 |[]=>rfl
 |x::a=>by simp [Zv,Bu a]
theorem ER:∀ {a b c:List Int},Zv a b=true→Zv b c=true→Zv a c=true
 |[],_,_,h,_=>by simp [Zv] at h
 |_::_,[],_,_,h=>by simp [Zv] at h
 |_::_,_::_,[],_,_=>rfl
 |x::a,y::b,z::c,h,k=>by
  simp only [Zv,Bool.or_eq_true,Bool.and_eq_true,decide_eq_true_eq] at h k ⊢
  rcases h with h | ⟨h,h'⟩<;>rcases k with k | ⟨k,k'⟩
  ·left;omega
  ·left;omega
  ·left;omega
  ·right;exact⟨by omega,ER h' k'⟩
theorem RP:∀ a b:List Int,a=b∨Zv a b=true∨Zv b a=true
 |[],[]=>.inl rfl
 |[],_::_=>.inr (.inr rfl)
 |_::_,[]=>.inr (.inl rfl)
 |x::a,y::b=>by
  simp only [Zv,Bool.or_eq_true,Bool.and_eq_true,decide_eq_true_eq,List.cons.injEq]
  rcases Int.lt_trichotomy x y with h | h | h
  ·right;right;left;omega
  ·rcases RP a b with k | k | k
   ·left;exact⟨h,k⟩
   ·right;left;right;exact⟨h,k⟩
   ·right;right;right;exact⟨h.symm,k⟩
  ·right;left;left;omega
theorem before_irrefl (a:List Int):before a a=false:=by simp [before,Bu]
theorem before_trans {a b c:List Int} (h:before a b=true) (k:before b c=true):before a c=true:=by
 simp only [before,Bool.or_eq_true,Bool.and_eq_true,decide_eq_true_eq] at h k ⊢
 rcases h with h | ⟨h,h'⟩<;>rcases k with k | ⟨k,k'⟩
 ·left;omega
 ·left;omega
 ·left;omega
 ·right;exact⟨by omega,ER h' k'⟩
theorem KM (a b:List Int):a=b∨before a b=true∨before b a=true:=by
 simp only [before,Bool.or_eq_true,Bool.and_eq_true,decide_eq_true_eq]
 rcases Int.lt_trichotomy a.sum b.sum with h | h | h
 ·right;right;left;exact h
 ·rcases RP a b with k | k | k
  ·left;exact k
  ·right;left;right;exact⟨h,k⟩
  ·right;right;right;exact⟨h.symm,k⟩
 ·right;left;left;exact h
theorem L3 {a b:List Int} (h:before a b=true):a≠b:=by
 rintro rfl;rw [before_irrefl] at h;cases h
theorem xQ {a b:List Int} (h:before a b=true):before b a=false:=by
 cases hb:before b a with
 |false=>rfl
 |true=>have:=before_trans h hb;rw [before_irrefl] at this;cases this
abbrev Tm:=Rat×List Int
def Jn:List Tm→List Int→Rat
 |[],_=>0
 |t::p,k=>(if t.2=k then t.1 else 0)+Jn p k
theorem Kb (p q:List Tm) (k:List Int):Jn (p++q) k=Jn p k+Jn q k:=by
 induction p with
 |nil=>simp [Jn,Rat.zero_add]
 |cons t p ih=>simp only [List.cons_append,Jn,ih,Rat.add_assoc]
structure Canon (p:List Tm):Prop where
 xu:p.Pairwise (fun x y=>before x.2 y.2=true)
 nz:∀ t∈p,t.1≠0
theorem Canon.nil:Canon []:=⟨List.Pairwise.nil,fun _ h=>by cases h⟩
theorem Canon.tail {t:Tm} {p:List Tm} (h:Canon (t::p)):Canon p:=⟨(List.pairwise_cons.1 h.xu).2,fun x hx=>h.nz x (List.mem_cons_of_mem _ hx)⟩
theorem KL {p:List Tm} {k:List Int} (h:∀ t∈p,t.2≠k):Jn p k=0:=by
 induction p with
 |nil=>rfl
 |cons t p ih=>rw [Jn,if_neg (h t (by simp)),ih (fun x hx=>h x (by simp [hx])),Rat.zero_add]
theorem Canon.head {t:Tm} {p:List Tm} (h:Canon (t::p)):Jn (t::p) t.2=t.1:=by
 rw [Jn,if_pos rfl,KL,Rat.add_zero]
 intro x hx e
 have:=(List.pairwise_cons.1 h.xu).1 x hx
 rw [e,before_irrefl] at this;cases this
theorem Canon.after {t:Tm} {p:List Tm} (h:Canon (t::p)):Jn p t.2=0:=KL fun x hx e=>by
 have:=(List.pairwise_cons.1 h.xu).1 x hx
 rw [e,before_irrefl] at this;cases this
theorem Canon.early {t:Tm} {p:List Tm} (h:Canon (t::p)) {k:List Int} (hk:before k t.2=true):Jn (t::p) k=0:=KL fun x hx e=>by
 rcases List.mem_cons.1 hx with rfl | hx
 ·rw [e,before_irrefl] at hk;cases hk
 ·have:=before_trans hk ((List.pairwise_cons.1 h.xu).1 x hx)
  rw [e,before_irrefl] at this;cases this
theorem Rg:∀ {p q:List Tm},Canon p→Canon q→(∀ k,Jn p k=Jn q k)→p=q
 |[],[],_,_,_=>rfl
 |[],y::q,_,hq,h=>by
  have:=h y.2
  rw [hq.head] at this
  exact absurd this.symm (hq.nz y (by simp))
 |x::p,[],hp,_,h=>by
  have:=h x.2
  rw [hp.head] at this
  exact absurd this (hp.nz x (by simp))
 |x::p,y::q,hp,hq,h=>by
  rcases KM x.2 y.2 with e | e | e
  ·have h1:=h x.2
   rw [hp.head] at h1
   have h2:=hq.head
   rw [← e] at h2
   rw [h2] at h1
   have hxy:x=y:=Prod.ext h1 e
   subst hxy
   congr 1
   refine Rg hp.tail hq.tail (fun k=>?_)
   have h3:=h k
   simp only [Jn] at h3
   generalize Jn p k=a at *
   generalize Jn q k=b at *
   grind
  ·have h1:=h x.2
   rw [hp.head,hq.early e] at h1
   exact absurd h1 (hp.nz x (by simp))
  ·have h1:=h y.2
   rw [hq.head,hp.early e] at h1
   exact absurd h1.symm (hq.nz y (by simp))
def Zi:List Tm→Tm→List Tm
 |[],t=>if t.1=0 then [] else [t]
 |x::p,t=>if before x.2 t.2=true then x::Zi p t else if x.2=t.2 then(if x.1+t.1=0 then p else(x.1+t.1,t.2)::p) else if t.1=0 then x::p else t::x::p
theorem Fb (p:List Tm) (t:Tm) (k:List Int):Jn (Zi p t) k=Jn p k+(if t.2=k then t.1 else 0):=by
 induction p with
 |nil =>
  unfold Zi
  split
  ·rename_i h;rw [h];simp [Jn,Rat.add_zero]
  ·simp [Jn,Rat.zero_add,Rat.add_zero]
 |cons x p ih =>
  unfold Zi
  split
  ·simp only [Jn,ih,Rat.add_assoc]
  ·split
   ·rename_i h
    split
    ·rename_i h0
     simp only [Jn]
     rw [h]
     by_cases hk:t.2=k
     ·simp only [hk,if_true]
      rw [Rat.add_assoc,Rat.add_comm (Jn p k),← Rat.add_assoc,h0,Rat.zero_add]
     ·simp only [hk,if_false,Rat.zero_add,Rat.add_zero]
    ·simp only [Jn]
     rw [h]
     by_cases hk:t.2=k
     ·simp only [hk,if_true]
      rw [Rat.add_assoc,Rat.add_assoc,Rat.add_comm t.1]
     ·simp only [hk,if_false,Rat.zero_add,Rat.add_zero]
   ·split
    ·rename_i h0;rw [h0];simp [Rat.add_zero]
    ·simp only [Jn];rw [Rat.add_comm]
theorem Dq {p:List Tm} {t x:Tm} (h:x∈Zi p t):x∈p∨x.2=t.2:=by
 induction p with
 |nil =>
  unfold Zi at h
  split at h
  ·cases h
  ·simp at h;subst h;exact .inr rfl
 |cons y p ih =>
  unfold Zi at h
  split at h
  ·rcases List.mem_cons.1 h with rfl | h
   ·exact .inl (by simp)
   ·rcases ih h with h | h
    ·exact .inl (by simp [h])
    ·exact .inr h
  ·split at h
   ·split at h
    ·exact .inl (by simp [h])
    ·rcases List.mem_cons.1 h with rfl | h
     ·exact .inr rfl
     ·exact .inl (by simp [h])
   ·split at h
    ·exact .inl h
    ·rcases List.mem_cons.1 h with rfl | h
     ·exact .inr rfl
     ·exact .inl h
theorem Canon.Zi {p:List Tm} (h:Canon p) (t:Tm):Canon (Ig.Zi p t):=by
 induction p with
 |nil =>
  unfold Ig.Zi
  split
  ·exact Canon.nil
  ·rename_i h0;exact⟨List.pairwise_singleton _ _,fun x hx=>by simp at hx;subst hx;exact h0⟩
 |cons x p ih =>
  have hs:=List.pairwise_cons.1 h.xu
  unfold Ig.Zi
  split
  ·rename_i hb
   have hc:=ih h.tail
   refine⟨List.pairwise_cons.2 ⟨fun y hy=>?_,hc.xu⟩,fun y hy=>?_⟩
   ·rcases Dq hy with hy | hy
    ·exact hs.1 y hy
    ·rw [hy];exact hb
   ·rcases List.mem_cons.1 hy with rfl | hy
    ·exact h.nz _ (by simp)
    ·exact hc.nz y hy
  ·rename_i hb
   split
   ·rename_i he
    split
    ·exact h.tail
    ·rename_i h0
     refine⟨List.pairwise_cons.2 ⟨fun y hy=>?_,hs.2⟩,fun y hy=>?_⟩
     ·have:=hs.1 y hy;rw [he] at this;exact this
     ·rcases List.mem_cons.1 hy with rfl | hy
      ·exact h0
      ·exact h.nz y (by simp [hy])
   ·rename_i he
    split
    ·exact h
    ·rename_i h0
     have hb':before t.2 x.2=true:=by
      rcases KM x.2 t.2 with q | q | q
      ·exact absurd q he
      ·exact absurd q hb
      ·exact q
     refine⟨List.pairwise_cons.2 ⟨fun y hy=>?_,h.xu⟩,fun y hy=>?_⟩
     ·rcases List.mem_cons.1 hy with rfl | hy
      ·exact hb'
      ·exact before_trans hb' (hs.1 y hy)
     ·rcases List.mem_cons.1 hy with rfl | hy
      ·exact h0
      ·exact h.nz y hy
def XK (l:List Tm):List Tm:=l.foldl Zi []
theorem Nt (l:List Tm):∀ {p:List Tm},Canon p→Canon (l.foldl Zi p)∧∀ k,Jn (l.foldl Zi p) k=Jn p k+Jn l k:=by
 induction l with
 |nil=>intro p h;exact⟨h,fun k=>by simp [Jn,Rat.add_zero]⟩
 |cons t l ih =>
  intro p h
  obtain ⟨h1,h2⟩:=ih (h.Zi t)
  exact⟨h1,fun k=>by rw [List.foldl_cons,h2,Fb,Jn,Rat.add_assoc]⟩
theorem Yt (l:List Tm):Canon (XK l):=(Nt l Canon.nil).1
theorem Wo (l:List Tm) (k:List Int):Jn (XK l) k=Jn l k:=by
 rw [XK,(Nt l Canon.nil).2,Jn,Rat.zero_add]
def E5 (p q:List Tm):Prop:=∀ k,Jn p k=Jn q k
theorem E5.refl (p:List Tm):E5 p p:=fun _=>rfl
theorem E5.symm {p q:List Tm} (h:E5 p q):E5 q p:=fun k=>(h k).symm
theorem E5.trans {p q r:List Tm} (h:E5 p q) (h':E5 q r):E5 p r:=fun k=>(h k).trans (h' k)
theorem E5.append {p q p' q':List Tm} (h:E5 p p') (h':E5 q q'):E5 (p++q) (p'++q'):=fun k=>by rw [Kb,Kb,h,h']
theorem UC {p l:List Tm} (hp:Canon p) (h:E5 p l):p=XK l:=Rg hp (Yt l) fun k=>by rw [Wo,h]
theorem GO {p:List Tm} (hp:Canon p):XK p=p:=(UC hp (E5.refl p)).symm
theorem E5.perm {l m:List Tm} (h:l.Perm m):E5 l m:=by
 intro k
 induction h with
 |nil=>rfl
 |cons x _ ih=>rw [Jn,Jn,ih]
 |swap x y l=>simp only [Jn];rw [← Rat.add_assoc,← Rat.add_assoc];congr 1;exact Rat.add_comm _ _
 |trans _ _ h1 h2=>exact h1.trans h2
theorem E5.cons {p q:List Tm} (t:Tm) (h:E5 p q):E5 (t::p) (t::q):=fun k=>by rw [Jn,Jn,h]
theorem eqv_filter (p:List Tm):E5 (p.filter (fun t=>decide (t.1≠0))) p:=by
 induction p with
 |nil=>exact E5.refl _
 |cons t p ih =>
  rw [List.filter_cons]
  split
  ·exact ih.cons t
  ·rename_i h
   have h0:t.1=0:=by simpa using h
   intro k
   rw [Jn,h0,ih k];simp [Rat.zero_add]
def Xu (a b:List Int):List Int:=List.zipWith (·+·) a b
theorem Kd {a b:List Int} (h:a.length=b.length):(Xu a b).length=a.length:=by simp [Xu,h]
def AZ (k a:List Int):List Int:=List.zipWith (· - ·) k a
theorem Ed:∀ {a b k:List Int},a.length=b.length→(Xu a b=k↔k.length=a.length∧b=AZ k a)
 |[],[],k,_=>by cases k<;>simp [Xu,AZ]
 |x::a,y::b,[],_=>by simp [Xu]
 |x::a,y::b,z::k,h=>by
  have ih:=Ed (a:=a) (b:=b) (k:=k) (by simpa using h)
  simp only [Xu,AZ,List.zipWith_cons_cons,List.cons.injEq,List.length_cons,Nat.add_right_cancel_iff] at ih ⊢
  rw [ih]
  constructor
  ·rintro ⟨h1,h2,h3⟩;exact⟨h2,by omega,h3⟩
  ·rintro ⟨h1,h2,h3⟩;exact⟨by omega,h1,h3⟩
def Xa (s:Tm) (q:List Tm):List Tm:=q.map fun t=>(s.1*t.1,Xu s.2 t.2)
def Jk (p q:List Tm):List Tm:=p.flatMap fun s=>Xa s q
def KA (n:Nat) (p:List Tm):Prop:=∀ t∈p,t.2.length=n
theorem KA.append {n:Nat} {p q:List Tm} (h:KA n p) (k:KA n q):KA n (p++q):=fun t ht=>by
 rcases List.mem_append.1 ht with ht | ht
 ·exact h t ht
 ·exact k t ht
theorem KA.tail {n:Nat} {t:Tm} {p:List Tm} (h:KA n (t::p)):KA n p:=fun x hx=>h x (by simp [hx])
theorem KA.Xa {n:Nat} {s:Tm} {q:List Tm} (hs:s.2.length=n) (h:KA n q):KA n (Ig.Xa s q):=fun t ht=>by
 obtain ⟨u,hu,rfl⟩:=List.mem_map.1 ht
 show(Xu s.2 u.2).length=n
 rw [Kd (by rw [hs,h u hu]),hs]
theorem KA.Jk {n:Nat} {p q:List Tm} (h:KA n p) (k:KA n q):KA n (Ig.Jk p q):=fun t ht=>by
 obtain ⟨s,hs,ht⟩:=List.mem_flatMap.1 ht
 exact k.Xa (h s hs) t ht
theorem KA.Zi {n:Nat} {p:List Tm} {t:Tm} (h:KA n p) (ht:t.2.length=n):KA n (Ig.Zi p t):=fun x hx=>by
 rcases Dq hx with hx | hx
 ·exact h x hx
 ·rw [hx];exact ht
theorem KA.XK {n:Nat} {l:List Tm} (h:KA n l):KA n (Ig.XK l):=by
 have:∀ (l p:List Tm),KA n p→KA n l→KA n (l.foldl Ig.Zi p):=by
  intro l
  induction l with
  |nil=>intro p hp _;exact hp
  |cons t l ih=>intro p hp hl;exact ih _ (hp.Zi (hl t (by simp))) hl.tail
 exact this l [] (fun _ h=>by cases h) h
theorem U5 {n:Nat} {s:Tm} {q:List Tm} (hs:s.2.length=n) (h:KA n q) (k:List Int):Jn (Xa s q) k=if k.length=n then s.1*Jn q (AZ k s.2) else 0:=by
 induction q with
 |nil=>simp [Xa,Jn,Rat.mul_zero]
 |cons t q ih =>
  have ht:t.2.length=n:=h t (by simp)
  have hk:=Ed (a:=s.2) (b:=t.2) (k:=k) (by rw [hs,ht])
  rw [Xa,List.map_cons,Jn]
  show(if Xu s.2 t.2=k then s.1*t.1 else 0)+Jn (Xa s q) k=_
  rw [ih h.tail]
  by_cases hl:k.length=n
  ·rw [if_pos hl,if_pos hl,Jn,Rat.mul_add]
   congr 1
   by_cases e:Xu s.2 t.2=k
   ·rw [if_pos e,if_pos (hk.1 e).2]
   ·rw [if_neg e,if_neg (fun q=>e (hk.2 ⟨by rw [hl,hs],q⟩)),Rat.mul_zero]
  ·rw [if_neg hl,if_neg hl,if_neg (fun e=>hl (by rw [(hk.1 e).1,hs])),Rat.zero_add]
theorem We (s:Tm) (p q:List Tm):Jk (s::p) q=Xa s q++Jk p q:=by simp [Jk]
theorem Hc (s:Tm) (p q:List Tm):Xa s (p++q)=Xa s p++Xa s q:=by simp [Xa]
theorem Bm (p p' q:List Tm):Jk (p++p') q=Jk p q++Jk p' q:=by simp [Jk]
end Ig
namespace Go.Proofs.YtknegjaeoffnbaaGreatDoor
section
open Go.RowKit Ig
variable [Dr]
def PW (l:List Int):Prop:=(∀ x∈l,0≤x∧x≤1000000)∧l.length≤1000
theorem PW.el {l:List Int} (h:PW l) {i:Nat} (hi:i<l.length):0≤Qf l i∧Qf l i≤1000000:=by rw [Xn hi];exact h.1 _ (Je hi)
theorem M1 {l:List Int} {i:Nat} (hi:i<l.length):(l.take (i+1)).sum=(l.take i).sum+Qf l i:=by
 rw [ZJ hi,List.sum_append,Xn hi];simp
theorem PW.sum {l:List Int} (h:PW l):∀ i,i≤l.length→0≤(l.take i).sum∧(l.take i).sum≤i*1000000:=by
 intro i
 induction i with
 |zero=>intro _;simp
 |succ i ih =>
  intro hi
  have h1:=ih (by omega)
  have h2:=h.el (i:=i) (by omega)
  rw [M1 (by omega)]
  omega
theorem Gl (l:List Int):Qm l=Qm (l.map fun x=>x):=by rw [List.map_id']
def AM:List Int→List Int→Int
 |[],[]=>0
 |[],_::_=>-1
 |_::_,[]=>1
 |x::a,y::b=>if ZS x y≠0 then ZS x y else AM a b
theorem Rw:∀ a b:List Int,(AM b a<0↔Zv a b=true)∧(AM b a=0↔a=b)
 |[],[]=>by simp [AM,Zv]
 |[],_::_=>by simp [AM,Zv]
 |_::_,[]=>by simp [AM,Zv]
 |x::a,y::b=>by
  have ih:=Rw a b
  unfold AM Zv ZS
  by_cases h1:y<x
  ·simp [h1];omega
  ·by_cases h2:y=x
   ·subst h2;simp [ih.1,ih.2]
   ·have h3:¬ x=y:=fun e=>h2 e.symm
    simp [h1,h2,h3]
theorem MM (x y:Int):Lib.compareInt x y=ZS x y:=by
 unfold Lib.compareInt ZS
 by_cases h1:x<y
 ·simp [h1]
 ·by_cases h2:x=y
  ·subst h2;simp
  ·have h3:y<x:=by omega
   simp [h1,h2,h3]
def Vd (a b:List Int):Int:=Qm [ZS b.sum a.sum,AM b a]
theorem Wp (a b:List Int):before a b=decide (Vd a b<0):=by
 obtain ⟨h1,h2⟩:=Rw a b
 unfold before Vd
 rw [Bool.eq_iff_iff,decide_eq_true_iff]
 simp only [Qm]
 by_cases h:b.sum<a.sum
 ·have e:ZS b.sum a.sum = -1:=by unfold ZS;rw [if_pos h]
  rw [e];simp [h]
 ·by_cases g:b.sum=a.sum
  ·have e:ZS b.sum a.sum=0:=by unfold ZS;rw [if_neg h,if_pos g]
   rw [e]
   by_cases k:AM b a=0
   ·have hf:Zv a b=false:=by cases hl:Zv a b with
     |false=>rfl
     |true=>have:=h1.2 hl;omega
    simp [k,g,hf]
   ·simp [k,g,h1]
  ·have e:ZS b.sum a.sum=1:=by unfold ZS;rw [if_neg h,if_neg g]
   have g2:¬ a.sum=b.sum:=fun e=>g e.symm
   rw [e];simp [h,g2]
theorem yh {a b:List Int} (h:Vd a b=0):a=b:=by
 rcases KM a b with q | q | q
 ·exact q
 ·rw [Wp] at q;have:=of_decide_eq_true q;omega
 ·
  obtain ⟨h1,h2⟩:=Rw a b
  unfold Vd at h
  simp only [Qm] at h
  split at h
  ·split at h
   ·exact h2.1 (by assumption)
   ·exact absurd h (by assumption)
  ·exact absurd h (by assumption)
def Yw (l:List Int):List UInt8:=l.flatMap fun x=>Lib.itoa x++[32]
theorem WN (x:Int) (l:List Int):Yw (x::l)=Xc x++32::Yw l:=by unfold Yw;rw [List.flatMap_cons];simp [Xc]
theorem Bv:∀ {a b:List Int},Yw a=Yw b→a=b
 |[],[],_=>rfl
 |[],y::b,h=>by rw [WN] at h;simp [Yw] at h
 |x::a,[],h=>by rw [WN] at h;simp [Yw] at h
 |x::a,y::b,h=>by
  rw [WN,WN] at h
  have h1:=N6 (c:=32) (a:=Xc x) (b:=Yw a) (Bq x (by decide) (by decide))
  have h2:=N6 (c:=32) (a:=Xc y) (b:=Yw b) (Bq y (by decide) (by decide))
  rw [h,h2] at h1
  simp only [Prod.mk.injEq,and_true] at h1
  have e:x=y:=by rw [← Z8 x,← Z8 y,h1.1]
  rw [e,Bv h1.2.symm]
theorem Dk {w:World} {F:Gs} {r:Sr} {l:List Int} (hF:Fits F w) (hR:JP F r l) (hp:PW l):QV Tryz.prog 217 [r.v] w F (.int .i64 l.sum):=by
 obtain ⟨q,n,c⟩:=r
 have hln:=hR.2.1
 dsimp only [Sr.v] at hln ⊢
 have hl1:=hp.2
 refine QT.intro (G:=fun F=>JP F ⟨q,n,c⟩ l) Tryz.func217 rfl (by rfl) rfl rfl hF (fun F' hF'=>hR.le hF')<|QG<|QB<|QA (QE rfl)<|QF<|QC<|QG<|QB<|QA (QE rfl)<|QF<|QC<|QG<|QG<|QB<|QA (QD rfl)<|QA (Qn rfl Qe)<|QA (QD rfl)<|QF<|QC<|Qa<|Zf (ι:={i:Nat // i≤l.length}) [(6,_),(7,_)] (fun i=>[(3,.int .i64 ((l.take i.1).sum)),(8,.int .i64 ((i.1:Nat):Int))]) (fun i=>l.length - i.1) (⟨0,Nat.zero_le _⟩) ⟨rfl,rfl,trivial⟩ ⟨rfl,rfl,trivial⟩ (fun i=>?_)
 simp only [List.cons_append,List.nil_append]
 have hi:=i.2
 have hs:=hp.sum i.1 hi
 refine QG<|QB<|QA (QU rfl rfl rfl)<|QF<|QC<|QG ?_
 refine QQ rfl (fun hc=>?_) (fun hc=>?_)
 ·
  have hlt:i.1<l.length:=by have:=of_decide_eq_true hc;omega
  have he:=hp.el hlt
  refine QP<|QC<|QG<|Qa<|QG<|QB<|QA (JY (n:=n) (i.1) (fun F hR=>(hR).1) rfl rfl Qe Qp (by omega))<|QA (Jf (n:=n) ((i.1)*1) (fun F hR=>(hR).1) (by omega) rfl Qp (JL (o:=l) (by omega)))<|QA (QE rfl)<|QF<|QC<|QB<|QA (QD rfl)<|QA (QD rfl)<|QA (Qu rfl rfl (by omega))<|QA (QE rfl)<|QF<|Ql<|QC<|QB<|QA (Qu rfl rfl (by omega))<|QA (QD rfl)<|QF ?_
  exact Qo (⟨i.1+1,hlt⟩) (by show l.length - (i.1+1)<l.length - i.1;omega) ⟨rfl,rfl,(congrArg (fun z:Int=>some (Value.int .i64 z)) (M1 hlt).symm),rfl,trivial⟩ (List.Sublist.refl _) (fun F h=>h)
 ·
  have hge:i.1=l.length:=by have:=of_decide_eq_false hc;omega
  refine Q5 ?_
  repeat (first | refine Qc ?_ | refine QX (by rfl) ?_)
  refine Qd<|QC<|QG<|QB<|QA (QD rfl)<|QA (QE rfl)<|QF<|QC<|QR ?_
  exact QN (()) rfl (.tmp rfl .nil) (congrArg (Value.int .i64) (by rw [List.take_of_length_le (by omega)])) (fun F hR=>trivial)
theorem jX {w:World} {F:Gs} {q:Option Addr} {n c:Nat} {l:List Int} (hF:Fits F w) (hR:JB F q n 1 (l.map Q3)) (hn:n≤1000000000):QV Tryz.prog 215 [.slice q n c] w F (.int .i64 (Qm l)):=by
 have hln:l.length=n:=by have:=hR.1;simpa using this
 have em:l=l.map (fun x=>x):=by simp
 refine QT.intro (G:=fun F=>JB F q n 1 (l.map Q3)) Tryz.func215 rfl (by rfl) rfl rfl hF (fun F' hF'=>hR.le hF')<|QG<|QB<|QA (QE rfl)<|QF<|QC<|QG<|QB<|QA (QE rfl)<|QF<|QC<|QG<|QG<|QB<|QA (QD rfl)<|QA (Qn rfl Qe)<|QA (QD rfl)<|QF<|QC<|Qa<|Zf (ι:=YJ l (fun x=>x)) [(3,_),(6,_),(7,_)] (fun i=>[(8,.int .i64 ((i.i:Nat):Int))]) (fun i=>l.length - i.i) (YJ.start _ _) ⟨rfl,rfl,rfl,trivial⟩ ⟨rfl,trivial⟩ (fun i=>?_)
 simp only [List.cons_append,List.nil_append]
 have hi:=i.le
 refine QG<|QB<|QA (QU rfl rfl rfl)<|QF<|QC<|QG ?_
 refine QQ rfl (fun hc=>?_) (fun hc=>?_)
 ·
  have hlt:i.i<l.length:=by have:=of_decide_eq_true hc;omega
  refine QP<|QC<|QG<|Qa<|QG<|QB<|QA (JY (n:=n) (i.i) (fun F hR=>hR) rfl rfl Qe Qp (by omega))<|QA (Jf (n:=n) ((i.i)*1) (fun F hR=>hR) (by omega) rfl Qp (JL (o:=l) (by omega)))<|QA (QE rfl)<|QF<|QC<|QG<|QB<|QA (QD rfl)<|QA (QD rfl)<|QA (QU rfl rfl rfl)<|QF<|QC ?_
  refine QQ rfl (fun hc=>?_) (fun hc=>?_)
  ·
   refine QG<|QB<|QA (QD rfl)<|QA (QE rfl)<|QF<|QC<|QR ?_
   repeat (first | refine JH ?_ | refine JA ?_)
   exact QN (()) rfl (.tmp rfl .nil) (congrArg (Value.int .i64) (by rw [Xn hlt,Gl l];exact i.hit hlt (by rw [← Xn hlt];simpa using hc))) (fun F hR=>trivial)
  ·
   refine QP<|Ql<|QC<|QB<|QA (Qu rfl rfl (by omega))<|QA (QD rfl)<|QF ?_
   exact Qo (i.next hlt (by rw [← Xn hlt];simpa using hc)) (by show l.length - (i.i+1)<l.length - i.i;omega) ⟨rfl,rfl,rfl,rfl,trivial⟩ (List.Sublist.refl _) (fun F h=>h)
 ·
  have hge:l.length≤i.i:=by have:=of_decide_eq_false hc;omega
  refine Q5 ?_
  repeat (first | refine Qc ?_ | refine QX (by rfl) ?_)
  refine Qd<|QC<|QG<|QB<|QA (QD rfl)<|QA (QE rfl)<|QF<|QC<|QR ?_
  exact QN (()) rfl (.tmp rfl .nil) (congrArg (Value.int .i64) (by rw [Gl l];exact i.stop hge)) (fun F hR=>trivial)
structure yx (a b:List Int) where
 i:Nat
 la:i≤a.length
 lb:i≤b.length
 h:AM a b=AM (a.drop i) (b.drop i)
theorem yx.cons {a b:List Int} (s:yx a b) (ha:s.i<a.length) (hb:s.i<b.length):AM a b=if ZS (Qf a s.i) (Qf b s.i)≠0 then ZS (Qf a s.i) (Qf b s.i) else AM (a.drop (s.i+1)) (b.drop (s.i+1)):=by
 rw [s.h,XB ha,XB hb,AM]
theorem Ta {w:World} {F:Gs} {ra rb:Sr} {a b:List Int} (hF:Fits F w) (hA:JP F ra a) (hB:JP F rb b) (la:a.length≤1000000) (lb:b.length≤1000000):QV Tryz.prog 218 [ra.v,rb.v] w F (.int .i64 (AM a b)):=by
 obtain ⟨q,n,c⟩:=ra
 obtain ⟨q',n',c'⟩:=rb
 have na:=hA.2.1
 have nb:=hB.2.1
 dsimp only [Sr.v] at na nb ⊢
 refine QT.intro (G:=fun F=>JP F ⟨q,n,c⟩ a∧JP F ⟨q',n',c'⟩ b) Tryz.func218 rfl (by rfl) rfl rfl hF (fun F' hF'=>⟨hA.le hF',hB.le hF'⟩)<|QG<|QB<|QA (QE rfl)<|QF<|QC<|QG<|QG<|QB<|QA (QD rfl)<|QA (Qn rfl Qe)<|QA (QD rfl)<|QF<|QC<|Qa<|Zf (ι:=yx a b) [(0,_),(1,_),(9,_),(10,_)] (fun i=>[(11,.int .i64 ((i.i:Nat):Int))]) (fun i=>a.length - i.i) (⟨0,Nat.zero_le _,Nat.zero_le _,rfl⟩) ⟨rfl,rfl,rfl,rfl,trivial⟩ ⟨rfl,trivial⟩ (fun i=>?_)
 simp only [List.cons_append,List.nil_append]
 have hla:=i.la
 have hlb:=i.lb
 refine QG<|QB<|QA (QU rfl rfl rfl)<|QF<|QC<|QG ?_
 refine QQ rfl (fun hc=>?_) (fun hc=>?_)
 ·
  have hlt:i.i<a.length:=by have:=of_decide_eq_true hc;omega
  refine QP<|QC<|QG<|Qa<|QG<|QB<|QA (QD rfl)<|QA (JY (n:=n) (i.i) (fun F ⟨hA,hB⟩=>(hA).1) rfl rfl Qe Qp (by omega))<|QA (Jf (n:=n) ((i.i)*1) (fun F ⟨hA,hB⟩=>(hA).1) (by omega) rfl Qp (JL (o:=a) (by omega)))<|QA (QE rfl)<|QA (QE rfl)<|QF<|QC<|QG<|QG<|QB<|QA (QD rfl)<|QA (QD rfl)<|QA (Qn rfl Qe)<|QA (QU rfl rfl rfl)<|QF<|QC ?_
  refine QQ rfl (fun hc=>?_) (fun hc=>?_)
  ·
   have hge2:b.length≤i.i:=by have:=of_decide_eq_true hc;omega
   refine QG<|QB<|QA (QE rfl)<|QF<|QC<|QR ?_
   repeat (first | refine JH ?_ | refine JA ?_)
   exact QN (()) rfl (.tmp rfl .nil) (congrArg (Value.int .i64) (by rw [i.h,XB hlt,List.drop_of_length_le hge2];rfl)) (fun F ⟨hA,hB⟩=>trivial)
  ·
   have hlt2:i.i<b.length:=by have:=of_decide_eq_false hc;omega
   refine QP<|QC<|QG<|QB<|QA (QD rfl)<|QA (QD rfl)<|QA (JY (n:=n') (i.i) (fun F ⟨hA,hB⟩=>(hB).1) rfl rfl Qe Qp (by omega))<|QA (Jf (n:=n') ((i.i)*1) (fun F ⟨hA,hB⟩=>(hB).1) (by omega) rfl Qp (JL (o:=b) (by omega)))<|QA (QE rfl)<|QF<|QC<|QG<|QB<|QA (QD rfl)<|QA (QD rfl)<|QH rfl (fun w F hF ⟨hA,hB⟩=>DI hF ) (fun _=>QA (QE rfl)<|QF<|QC<|QG<|QB<|QA (QD rfl)<|QA (QU rfl rfl rfl)<|QF<|QC ?_)
   refine QQ rfl (fun hc=>?_) (fun hc=>?_)
   ·
    refine QG<|QB<|QA (QD rfl)<|QA (QE rfl)<|QF<|QC<|QR ?_
    repeat (first | refine JH ?_ | refine JA ?_)
    exact QN (()) rfl (.tmp rfl .nil) (congrArg (Value.int .i64) (by rw [i.cons hlt hlt2,if_pos (by rw [← MM];simpa using hc),MM])) (fun F ⟨⟨hA,hB⟩,_⟩=>trivial)
   ·
    refine QP<|Ql<|QC<|QB<|QA (Qu rfl rfl (by omega))<|QA (QD rfl)<|QF ?_
    exact Qo (⟨i.i+1,hlt,hlt2,by rw [i.cons hlt hlt2,if_neg (by rw [← MM];simpa using hc)]⟩) (by show a.length - (i.i+1)<a.length - i.i;omega) ⟨rfl,rfl,rfl,rfl,rfl,trivial⟩ (List.Sublist.refl _) (fun F h=>h.1)
 ·
  have hge:a.length≤i.i:=by have:=of_decide_eq_false hc;omega
  refine Q5 ?_
  repeat (first | refine Qc ?_ | refine QX (by rfl) ?_)
  refine Qd<|QC<|QG<|QG<|QB<|QA (QD rfl)<|QA (Qn rfl Qe)<|QA (QD rfl)<|QA (Qn rfl Qe)<|QA (QU rfl rfl rfl)<|QF<|QC ?_
  refine QQ rfl (fun hc=>?_) (fun hc=>?_)
  ·
   have hlt3:=of_decide_eq_true hc
   refine QG<|QB<|QA (QE rfl)<|QF<|QC<|QR ?_
   exact QN (()) rfl (.tmp rfl .nil) (congrArg (Value.int .i64) (by rw [i.h,List.drop_of_length_le hge,XB (l:=b) (k:=i.i) (by omega)];rfl)) (fun F ⟨hA,hB⟩=>trivial)
  ·
   have hlt3:=of_decide_eq_false hc
   refine QP<|QC<|QG<|QB<|QA (QE rfl)<|QF<|QC<|QR ?_
   exact QN (()) rfl (.tmp rfl .nil) (congrArg (Value.int .i64) (by rw [i.h,List.drop_of_length_le hge,List.drop_of_length_le (by omega)];rfl)) (fun F ⟨hA,hB⟩=>trivial)
theorem H2 {w:World} {F:Gs} {ra rb:Sr} {a b:List Int} (hF:Fits F w) (hA:JP F ra a) (hB:JP F rb b) (pa:PW a) (pb:PW b):QV Tryz.prog 136 [ra.v,rb.v] w F (.int .i64 (Vd a b)):=by
 have la:=pa.2
 have lb:=pb.2
 dsimp only [Sr.v]
 refine QT.intro (G:=fun F=>JP F ra a∧JP F rb b) Tryz.func136 rfl (by rfl) rfl rfl hF (fun F' hF'=>⟨hA.le hF',hB.le hF'⟩)<|QG<|QB<|QA (QE rfl)<|QF<|QC<|QG<|QB<|QA (QD rfl)<|QH rfl (fun w F hF ⟨hA,hB⟩=>Dk hF (r:=rb) hB (pb)) (fun _=>QA (QD rfl)<|QH rfl (fun w F hF ⟨⟨hA,hB⟩,_⟩=>Dk hF (r:=ra) hA (pa)) (fun _=>QH rfl (fun w F hF ⟨⟨⟨hA,hB⟩,_⟩,_⟩=>DI hF ) (fun _=>?_)))
 rw [MM]
 refine QA (QD rfl)<|QA (QD rfl)<|QH rfl (fun w F hF ⟨⟨⟨⟨hA,hB⟩,_⟩,_⟩,_⟩=>Ta hF (ra:=rb) (rb:=ra) hB (hA) (by omega) (by omega)) (fun _=>QW rfl (Q8 Qe) Qp VE rfl rfl (fun b13=>QH rfl (fun w F hF ⟨⟨⟨⟨⟨⟨hA,hB⟩,_⟩,_⟩,_⟩,_⟩,hs13⟩=>jX hF (JB.of (cs:=List.map Q3 [ZS b.sum a.sum,AM b a]) hs13 rfl) (by decide)) (fun _=>QA (QE rfl)<|QF<|QC<|QR ?_)))
 exact QN (()) rfl (.tmp rfl .nil) (rfl) (fun F ⟨⟨⟨⟨⟨⟨⟨hA,hB⟩,_⟩,_⟩,_⟩,_⟩,hs13⟩,_⟩=>trivial)
end
section
open Go.RowKit Ig
def XT {κ:Type} (K:κ→Value):List (κ×Value)→Nat→List MapEntry
 |[],_=>[]
 |x::l,i=>⟨K x.1,x.2,i⟩::XT K l (i+1)
def ZA {κ:Type} (K:κ→Value) (l:List (κ×Value)):Obj:=.map (XT K l 0).toArray l.length
def Z4 {κ:Type} [DecidableEq κ]:List (κ×Value)→κ→Nat→Option (Nat×Value)
 |[],_,_=>none
 |x::l,k,i=>if k=x.1 then some (i,x.2) else Z4 l k (i+1)
def Bl {κ:Type} [DecidableEq κ]:List (κ×Value)→κ→Value→List (κ×Value)
 |[],k,v=>[(k,v)]
 |x::l,k,v=>if k=x.1 then(k,v)::l else x::Bl l k v
structure S7 (P:Program) (kt:TypeId) {κ:Type} [DecidableEq κ] (K:κ→Value):Prop where
 kC:∀ e w k,(Instr.checkKey e 10000 kt (K k)).run P w = .ok () w
 find:∀ w k (l:List (κ×Value)),(Instr.findKey kt (K k) (XT K l 0)).run P w = .ok (Z4 l k 0) w
 same:∀ k,Instr.sameBits 10000 (K k) (K k)=true
section
variable {κ:Type} {K:κ→Value}
theorem Dz:∀ (l:List (κ×Value)) i,(XT K l i).length=l.length
 |[],_=>rfl
 |_::l,i=>by simp [XT,Dz l]
theorem Nz:∀ (l:List (κ×Value)) i k v,XT K (l++[(k,v)]) i=XT K l i++[⟨K k,v,i+l.length⟩]
 |[],i,k,v=>by simp [XT]
 |x::l,i,k,v=>by
  simp only [List.cons_append,XT,Nz l,List.length_cons]
  rw [show i+1+l.length=i+(l.length+1) from by omega]
theorem WQ:∀ (l:List (κ×Value)) (i j:Nat),(XT K l i)[j]?=l[j]?.map fun x=>(⟨K x.1,x.2,i+j⟩:MapEntry)
 |[],_,_=>by simp [XT]
 |x::l,i,0=>by simp [XT]
 |x::l,i,j+1=>by
  simp only [XT,List.getElem?_cons_succ,WQ l]
  rw [show i+1+j=i+(j+1) from by omega]
theorem RY:∀ (l:List (κ×Value)) i j k v,XT K (l.set j (k,v)) i=(XT K l i).modify j fun e=>{ e with key:=K k,val:=v }
 |[],_,_,_,_=>by simp [XT]
 |x::l,i,0,k,v=>by simp [XT]
 |x::l,i,j+1,k,v=>by simp [XT,RY l]
theorem BB:∀ (l:List (κ×Value)) i,∀ e∈XT K l i,i≤e.born∧e.born<i+l.length
 |[],_,e,h=>by cases h
 |x::l,i,e,h=>by
  simp only [XT,List.mem_cons] at h
  rcases h with rfl | h
  ·simp
  ·have:=BB l (i+1) e h
   simp only [List.length_cons];omega
theorem EY:∀ (l:List (κ×Value)) i,((XT K l i).map (·.born)).Nodup
 |[],_=>List.nodup_nil
 |x::l,i=>by
  simp only [XT,List.map_cons]
  refine List.nodup_cons.2 ⟨fun h=>?_,EY l (i+1)⟩
  obtain ⟨e,he,h⟩:=List.mem_map.1 h
  have:=(BB l (i+1) e he).1
  omega
variable [DecidableEq κ]
theorem BA:∀ {l:List (κ×Value)} {k i j v},Z4 l k i=some (j,v)→i≤j∧j - i<l.length∧l[j - i]?=some (k,v)
 |[],_,_,_,_,h=>by cases h
 |x::l,k,i,j,v,h=>by
  simp only [Z4] at h
  split at h
  ·rename_i e
   cases h
   subst e
   simp
  ·obtain ⟨h1,h2,h3⟩:=BA h
   refine⟨by omega,by simp only [List.length_cons];omega,?_⟩
   rw [show j - i=(j - (i+1))+1 from by omega,List.getElem?_cons_succ];exact h3
theorem P7:∀ {l:List (κ×Value)} {k v i},Z4 l k i=none→Bl l k v=l++[(k,v)]
 |[],_,_,_,_=>rfl
 |x::l,k,v,i,h=>by
  simp only [Z4] at h
  split at h
  ·cases h
  ·rename_i e
   simp only [Bl,if_neg e,List.cons_append,P7 h]
theorem P6:∀ {l:List (κ×Value)} {k v i j u},Z4 l k i=some (j,u)→Bl l k v=l.set (j - i) (k,v)
 |[],_,_,_,_,_,h=>by cases h
 |x::l,k,v,i,j,u,h=>by
  simp only [Z4] at h
  split at h
  ·rename_i e
   cases h
   simp [Bl,e]
  ·rename_i e
   have:=(BA h).1
   simp only [Bl,if_neg e,P6 h]
   rw [show j - i=(j - (i+1))+1 from by omega];rfl
end
theorem Ac (a b:List UInt8):Instr.sameNow .string (tx a) (tx b)=some (decide (a=b)):=by
 show some ((⟨a.toArray⟩:ByteArray)==⟨b.toArray⟩)=_
 congr 1
 rw [Bool.eq_iff_iff,decide_eq_true_iff,MapKept.bytes_beq]
 constructor
 ·intro h;cases h;rfl
 ·intro h;rw [h]
theorem Nv (k:List UInt8):∀ (l:List (List UInt8×Value)) (i n:Nat),Instr.findNow .string (tx k) (XT tx l n) i=some (Z4 l k i)
 |[],_,_=>rfl
 |x::l,i,n=>by
  simp only [XT,Instr.findNow,Ac,Z4]
  by_cases h:k=x.1
  ·simp [h]
  ·simp [h,Nv k l]
theorem S7.str {P:Program} {kt:TypeId} (h:P.underlying kt=some .string):S7 P kt tx where
 kC:=fun e w k=>MapKept.run_checkKey (k:=tx k) h (by simp [MapKept.IsKey,tx]) e 9999
 find:=fun w k l=>MapKept.run_findKey h (Nv k l 0 0)
 same:=fun k=>by
  show(ByteArray.mk k.toArray==ByteArray.mk k.toArray)=true
  rw [MapKept.bytes_beq]
def kG (P:Program) (T:TypeId):Option Value:=match P.info? T with
 |some i=>i.zero
 |none=>none
theorem qj {P:Program} {T:TypeId} {z:Value} (h:kG P T=some z) (w:World):(zeroValue T).run P w = .ok z w:=by
 unfold kG at h
 split at h
 ·rename_i i hi
  simp [zeroValue,typeInfo,hi,h]
 ·cases h
def UJ (P:Program) (T kt et:TypeId):Bool:=match P.underlying T with | some (.map k e)=>Nat.beq k kt&&Nat.beq e et | _=>false
theorem SV {P:Program} {T kt et:TypeId} (h:UJ P T kt et=true):P.underlying T=some (.map kt et):=by
 unfold UJ at h
 split at h
 ·rename_i e
  simp only [Bool.and_eq_true] at h
  have h1:=Nat.eq_of_beq_eq_true h.1
  have h2:=Nat.eq_of_beq_eq_true h.2
  rw [e,h1,h2]
 ·cases h
section
variable [Dr] [df:Df] {P:Program} {Q:Exit→Act→World→Prop} {N:Nat} {m:Sl} {E E0:Env} {ops:Array Oper} {l:List Oper} {w0:World} {F0:Gs} {bs:List (Nat×Obj)} {G:Gs→Prop} {d:Nat} {ty:TypeId} {pos:String} {aft:Array Edge}
theorem Vj {κ:Type} (K:κ→Value) {T:TypeId} (k:∀ b,JS P ops Q l N ((d,.map (some b))::m) ⟨w0,F0,(b,ZA K [])::bs,G⟩) (hd:J7 N (some d)=true:=by rfl) :
  JS P ops Q (⟨some d,.makeMap T none,ty,pos,aft,none⟩::l) N m ⟨w0,F0,bs,G⟩:=fun a w ha hw=>by
 have hrun:(execOp a.eval ⟨some d,.makeMap T none,ty,pos,aft,none⟩).run P w = .ok (.value (.map (some w.heap.size))) (w.alloc (.map #[] 0)):=by
  simp [execOp,Instr.makeMap]
 exact wpList_plain rfl fun Kk hK=>upon_value hrun (hK _ _ (k _ _ _ (ha.put hd _) (hw.alloc _ (fun c fr e=>by cases e))))
variable {κ:Type} [DecidableEq κ] {K:κ→Value} {kv:List (κ×Value)} {b:Nat} {f:Obj→List (Nat×Obj)}
theorem Tt {T kt et:TypeId} {x y:Operand} {k:κ} {i:Nat} {v:Value} (hq:S7 P kt K) (hx:ev m x=some (.map (some b))) (hy:ev m y=some (K k)) (ht:UJ P T kt et=true) (ho:Own bs b (ZA K kv) f) (hf:Z4 kv k 0=some (i,v)) :
  Qt P N m (St ⟨w0,F0,bs,G⟩) (.lookup T x y true) ty (.tuple #[v,.bool true]):=fun a w _ _ _ _ ha hw=>by
 have hb:=hw.own ho
 unfold ZA at hb
 have hu:=SV ht
 simp [execOp,ha.ev hx,ha.ev hy,Instr.lookup,run_underlying hu,MapKept.run_getObj_map hb,hq.kC,hq.find,hf]
theorem P4 {T kt et:TypeId} {x y:Operand} {k:κ} {z:Value} (hq:S7 P kt K) (hx:ev m x=some (.map (some b))) (hy:ev m y=some (K k)) (ht:UJ P T kt et=true) (hz:kG P et=some z) (ho:Own bs b (ZA K kv) f) (hf:Z4 kv k 0=none) :
  Qt P N m (St ⟨w0,F0,bs,G⟩) (.lookup T x y true) ty (.tuple #[z,.bool false]):=fun a w _ _ _ _ ha hw=>by
 have hb:=hw.own ho
 unfold ZA at hb
 have hu:=SV ht
 simp [execOp,ha.ev hx,ha.ev hy,Instr.lookup,run_underlying hu,MapKept.run_getObj_map hb,hq.kC,hq.find,hf,qj hz]
theorem G6 {T kt et:TypeId} {x y z:Operand} {k:κ} {v:Value} (hq:S7 P kt K) (hx:ev m x=some (.map (some b))) (hy:ev m y=some (K k)) (hz:ev m z=some v) (ht:UJ P T kt et=true) (ho:Own bs b (ZA K kv) f)
  (kk:JS P ops Q l N m ⟨w0,F0,f (ZA K (Bl kv k v)),G⟩):JS P ops Q (⟨none,.mapUpdate T x y z,ty,pos,aft,none⟩::l) N m ⟨w0,F0,bs,G⟩:=fun a w ha hw=>by
 have hb:=hw.own ho
 obtain ⟨pre,post,e1,e2⟩:=ho.split
 subst e1
 rw [e2] at kk
 have hu:=SV ht
 have hb':=hb
 unfold ZA at hb'
 have hrun:(execOp a.eval ⟨none,.mapUpdate T x y z,ty,pos,aft,none⟩).run P w = .ok .skip { w with heap:=w.heap.setIfInBounds b (ZA K (Bl kv k v)) }:=by
  cases hf:Z4 kv k 0 with
  |none =>
   have e:ZA K (Bl kv k v) = .map ((XT K kv 0).toArray.push ⟨K k,v,kv.length⟩) (kv.length+1):=by
    rw [P7 hf];simp [ZA,Nz]
   rw [e]
   simp [execOp,ha.ev hx,ha.ev hy,ha.ev hz,Instr.mapUpdate,run_underlying hu,MapKept.run_getObj_map hb',hq.kC,hq.find,hf,MapKept.run_setObj_map _ hb']
  |some r =>
   obtain ⟨i,u⟩:=r
   obtain ⟨_,h2,h3⟩:=BA hf
   rw [Nat.sub_zero] at h2 h3
   have e:ZA K (Bl kv k v) = .map ((XT K kv 0).toArray.modify i fun e=>{ e with key:=K k,val:=v }) kv.length:=by
    rw [P6 hf]
    unfold ZA
    rw [Nat.sub_zero,RY,List.length_set]
    congr 1
    apply Array.ext'
    simp
   have hk:((((XT K kv 0).toArray[i]?).map (·.key)).getD (K k))=K k:=by
    simp [WQ,h3]
   rw [e]
   simp only [execOp,ha.ev hx,ha.ev hy,ha.ev hz,Instr.mapUpdate,Sem.run_bind,run_underlying hu,MapKept.run_getObj_map hb',hq.kC,hq.find,hf,Result.andThen_ok,hk,Instr.keyThatStays,hq.same,if_true,Sem.run_pure,MapKept.run_setObj_map _ hb']
 exact wpList_plain rfl fun Kk hK=>upon_skip hrun (hK _ _ (kk _ _ ha (hw.write pre ⟨rfl,rfl,rfl,rfl,rfl⟩ (fun c fr e=>by cases e))))
def yL (kv:List (κ×Value)) (K:κ→Value):Option Nat→Array Value
 |some j=>match kv[j]? with
  |some p=>#[.bool true,K p.1,p.2]
  |none=>#[.bool true]
 |none=>#[.bool false]
def kW (seen:List Nat):Option Nat→List Nat
 |some j=>seen++[j]
 |none=>seen
def vv (n:Nat) (seen:List Nat):Option Nat→Prop
 |some j=>j<n∧j∉seen
 |none=>∀ j,j<n→j∈seen
omit [DecidableEq κ] in
theorem zD (x:Option Nat):(yL kv K x)[0]?=some (.bool x.isSome):=by
 cases x with
 |none=>rfl
 |some j =>
  simp only [yL]
  cases kv[j]?<;>rfl
def IK (b n:Nat) (seen:List Nat):Obj:=.mapIter (some b) n seen.toArray n
omit [DecidableEq κ] in
theorem El {T kt et:TypeId} {x:Operand} (hx:ev m x=some (.map (some b))) (ht:UJ P T kt et=true) (ho:Own bs b (ZA K kv) f) (k:∀ r,JS P ops Q l N ((d,.pointer (some ⟨r,0,none⟩))::m) ⟨w0,F0,(r,IK b kv.length [])::bs,G⟩) (hd:J7 N (some d)=true:=by rfl) :
  JS P ops Q (⟨some d,.range T x,ty,pos,aft,none⟩::l) N m ⟨w0,F0,bs,G⟩:=fun a w ha hw=>by
 have hb:=hw.own ho
 unfold ZA at hb
 have hrun:(execOp a.eval ⟨some d,.range T x,ty,pos,aft,none⟩).run P w = .ok (.value (.pointer (some ⟨w.heap.size,0,none⟩))) (w.alloc (IK b kv.length [])):=by
  simp [execOp,ha.ev hx,run_range_map w T kt et b _ _ (SV ht) hb,IK]
 exact wpList_plain rfl fun Kk hK=>upon_value hrun (hK _ _ (k _ _ _ (ha.put hd _) (hw.alloc _ (fun c fr e=>by cases e))))
omit [DecidableEq κ] in
theorem PK {x:Operand} {r:Nat} {seen:List Nat} {g:Obj→List (Nat×Obj)} (hx:ev m x=some (.pointer (some ⟨r,0,none⟩))) (hr:Own bs r (IK b kv.length seen) g) (ho:Own bs b (ZA K kv) f)
  (k:∀ x,vv kv.length seen x→JS P ops Q l N ((d,.tuple (yL kv K x))::m) ⟨w0,F0,g (IK b kv.length (kW seen x)),G⟩) (hd:J7 N (some d)=true:=by rfl) :
  JS P ops Q (⟨some d,.next x false,ty,pos,aft,none⟩::l) N m ⟨w0,F0,bs,G⟩:=fun a w ha hw=>by
 have hb:=hw.own ho
 have hi:=hw.own hr
 unfold ZA at hb
 obtain ⟨pre,post,e1,e2⟩:=hr.split
 subst e1
 simp only [e2] at k
 have hold:∀ e∈(XT K kv 0).toArray.toList,e.born<kv.length:=fun e he=>by have:=(BB kv 0 e (by simpa using he)).2;omega
 rcases run_next_at (P:=P) w ty r b kv.length kv.length seen.toArray (XT K kv 0).toArray kv.length hi hb hold (Nat.le_refl _) with ⟨h0,hn⟩ | ⟨e,he,w1,hw1,hn⟩
 ·have hrun:(execOp a.eval ⟨some d,.next x false,ty,pos,aft,none⟩).run P w = .ok (.value (.tuple (yL kv K none))) w:=by
   simp [execOp,ha.ev hx,hn,yL]
  refine wpList_plain rfl fun Kk hK=>upon_value hrun (hK _ _ (k none (fun j hj=>?_) _ _ (ha.put hd _) hw))
  have hm:(⟨K kv[j].1,kv[j].2,j⟩:MapEntry)∈XT K kv 0:=by
   have:=WQ (K:=K) kv 0 j
   rw [List.getElem?_eq_getElem hj,Nat.zero_add] at this
   exact List.mem_of_getElem? this
  have hz:leftOf (XT K kv 0).toArray seen.toArray=#[]:=Array.eq_empty_of_size_eq_zero h0
  unfold leftOf at hz
  rw [Array.filter_eq_empty_iff] at hz
  have:=hz _ (by simpa using hm)
  simpa using this
 ·unfold leftOf at he
  simp only [List.mem_toArray,Array.mem_toList_iff,Array.mem_filter] at he
  obtain ⟨hm,hs⟩:=he
  obtain ⟨j,hj,hje⟩:=List.getElem_of_mem hm
  rw [Dz] at hj
  have hg:=WQ (K:=K) kv 0 j
  rw [List.getElem?_eq_getElem hj,List.getElem?_eq_getElem (by rw [Dz];exact hj),hje,Nat.zero_add] at hg
  have hg':e=⟨K kv[j].1,kv[j].2,j⟩:=by simpa using hg
  subst hg'
  have hrun:(execOp a.eval ⟨some d,.next x false,ty,pos,aft,none⟩).run P w = .ok (.value (.tuple (yL kv K (some j)))) (ChangeMaps.setBlock w1 r (IK b kv.length (kW seen (some j)))):=by
   simp [execOp,ha.ev hx,hn,yL,hj,IK,kW]
  have hw2:St ⟨w0,F0,pre++(r,IK b kv.length seen)::post,G⟩ w1:=by
   rcases hw1 with rfl | rfl
   ·exact hw
   ·exact hw.drew
  exact wpList_plain rfl fun Kk hK=>upon_value hrun (hK _ _ (k (some j) ⟨hj,by simpa using hs⟩ _ _ (ha.put hd _) (hw2.write pre ⟨rfl,rfl,rfl,rfl,rfl⟩ (fun c fr e=>by cases e))))
omit [DecidableEq κ] in
theorem F7 {x:Operand} {r j:Nat} {seen:List Nat} {p:κ×Value} {g:Obj→List (Nat×Obj)} (hx:ev m x=some (.pointer (some ⟨r,0,none⟩))) (hr:Own bs r (IK b kv.length (seen++[j])) g) (ho:Own bs b (ZA K kv) f) (hj:kv[j]?=some p) :
  Qt P N m (St ⟨w0,F0,bs,G⟩) (.entry x) ty (.tuple #[K p.1,p.2]):=fun a w _ _ _ _ ha hw=>by
 have hb:=hw.own ho
 have hi:=hw.own hr
 unfold ZA at hb
 have hg:=WQ (K:=K) kv 0 j
 rw [hj,Nat.zero_add] at hg
 have hmem:=List.mem_of_getElem? hg
 have:=run_entry_at (P:=P) w r b kv.length seen.toArray (XT K kv 0).toArray kv.length ⟨K p.1,p.2,j⟩ (by rw [hi];simp [IK]) hb (by simpa using hmem) (by simpa using EY kv 0)
 simp [execOp,ha.ev hx,this]
end
end
section
open Go.RowKit Ig
theorem LM (l:List Int) (x:Int):Yw (l++[x])=(Yw l++Lib.itoa x)++[32]:=by unfold Yw;rw [List.flatMap_append];simp
theorem RU {x:Int} (h:0≤x∧x≤1000000):(Lib.itoa x).length≤21:=Lib.itoa_length_le x (by omega) (by omega)
theorem UZ:∀ {l:List Int},(∀ x∈l,0≤x∧x≤1000000)→(Yw l).length≤22*l.length
 |[],_=>by simp [Yw]
 |x::l,h=>by
  have h1:=RU (h x (by simp))
  have h2:=UZ (l:=l) (fun y hy=>h y (by simp [hy]))
  rw [WN]
  simp only [List.length_append,List.length_cons]
  change (Xc x).length≤21 at h1
  omega
structure gV (b:Nat) (l:List Int) where
 i:Nat
 ob:List (Nat×Obj)
 le:i≤l.length
 bl:AN b (Yw (l.take i)) ob
theorem CL {w:World} {F:Gs} {r:Sr} {l:List Int} (hF:Fits F w) (hGl:JF F) (hR:JP F r l) (hp:PW l):QV Tryz.prog 252 [r.v] w F (tx (Yw l)):=by
 obtain ⟨q,n,c⟩:=r
 have hln:=hR.2.1
 dsimp only [Sr.v] at hln ⊢
 have hl1:=hp.2
 refine QT.intro (G:=fun F=>JF F∧JP F ⟨q,n,c⟩ l) Tryz.func252 rfl (by rfl) rfl rfl hF (fun F' hF'=>⟨hGl.le hF',hR.le hF'⟩)<|QG<|QB<|QA (QE rfl)<|QF<|QC<|QG<|QB<|QZ xi (fun b3=>QF<|QC<|QG<|QG<|QB<|QA (QD rfl)<|QA (Qn rfl Qe)<|QA (QD rfl)<|QF<|QC<|Qa<|J0 (ι:=gV b3 l) [(3,_),(6,_),(7,_)] (fun i=>[(8,.int .i64 ((i.i:Nat):Int))]) (fun i=>i.ob++[]) (fun i F=>True) (fun i=>l.length - i.i) (⟨0,_,Nat.zero_le _,by rw [List.take_zero];exact .fresh⟩) ⟨rfl,rfl,rfl,trivial⟩ ⟨rfl,trivial⟩ (List.Sublist.refl _) (fun _ _=>trivial) (fun i=>?_))
 have hi:=i.le
 have hkl:=UZ (l:=l.take i.i) (fun x hx=>hp.1 x (List.mem_of_mem_take hx))
 rw [List.length_take] at hkl
 refine QG<|QB<|QA (QU rfl rfl rfl)<|QF<|QC<|QG ?_
 refine QQ rfl (fun hc=>?_) (fun hc=>?_)
 ·
  have hlt:i.i<l.length:=by have:=of_decide_eq_true hc;omega
  have he:=hp.el hlt
  have hil:=RU he
  refine QP<|QC<|QG<|Qa<|QG<|QB<|QA (JY (n:=n) (i.i) (fun F ⟨⟨hGl,hR⟩,_⟩=>(hR).1) rfl rfl Qe Qp (by omega))<|QA (Jf (n:=n) ((i.i)*1) (fun F ⟨⟨hGl,hR⟩,_⟩=>(hR).1) (by omega) rfl Qp (JL (o:=l) (by omega)))<|QA (QE rfl)<|QF<|QC<|QG<|QB<|QA (QD rfl)<|QH rfl (fun w F hF ⟨⟨hGl,hR⟩,_⟩=>C3 hF hGl ((by omega)) ((by omega))) (fun _=>XQ rfl (List.Perm.refl _) (V5 i.bl (by omega)) (fun xj=>JJ _ (fun w F hF h=>h.2) (fun hbl=>QF<|QC<|QB<|XQ rfl (List.Perm.refl _) (TG (c:=32) hbl (by rw [List.length_append];omega)) (fun wob2=>JJ _ (fun w F hF h=>h.2) (fun hbl2=>?_)))))
  rw [← LM,Xn hlt,← ZJ hlt] at hbl2
  refine QF<|Ql<|QC<|QB<|QA (Qu rfl rfl (by omega))<|QA (QD rfl)<|QF ?_
  exact Qo (⟨i.i+1,wob2,hlt,hbl2⟩) (by show l.length - (i.i+1)<l.length - i.i;omega) ⟨rfl,rfl,rfl,rfl,trivial⟩ (List.Sublist.refl _) (fun F h=>⟨h.1.1.1.1,trivial⟩)
 ·
  have hge:i.i=l.length:=by have:=of_decide_eq_false hc;omega
  refine Q5 ?_
  repeat (first | refine Qc ?_ | refine QX (by rfl) ?_)
  refine Qd<|QC<|QG<|QB ?_
  have hbl:=i.bl
  rw [hge,List.take_length] at hbl
  refine Em (v:=tx (Yw l)) hF rfl (enters_of Tryz.func281 (by rfl) rfl) (fun w' hw'=>Tryz.Builder_String_any w.heap.size b3 (Yw l) w' (hbl.is hw') (by obtain ⟨F',h'⟩:=hw';exact h'.ext.size))<|QA (QE rfl)<|QF<|QC<|QR ?_
  exact QN (()) rfl (.tmp rfl .nil) (rfl) (fun _ _=>trivial)
end
end Go.Proofs.YtknegjaeoffnbaaGreatDoor
namespace Ig
def BG:List Tm→Tm→List Tm
 |[],n=>[n]
 |t::l,n=>if n.2=t.2 then n::l else t::BG l n
theorem Rn:∀ (l:List Tm) (n:Tm),∀ k,k∈(BG l n).map (·.2)→k=n.2∨k∈l.map (·.2)
 |[],n,k,h=>by simp [BG] at h;exact .inl h
 |t::l,n,k,h=>by
  simp only [BG] at h
  split at h
  ·simp only [List.map_cons,List.mem_cons] at h ⊢;rcases h with h | h
   ·exact .inl h
   ·exact .inr (.inr h)
  ·simp only [List.map_cons,List.mem_cons] at h ⊢;rcases h with h | h
   ·exact .inr (.inl h)
   ·rcases Rn l n k h with h | h
    ·exact .inl h
    ·exact .inr (.inr h)
theorem PG:∀ {l:List Tm} (n:Tm),(l.map (·.2)).Nodup→((BG l n).map (·.2)).Nodup
 |[],n,_=>by simp [BG]
 |t::l,n,h=>by
  simp only [List.map_cons] at h
  obtain ⟨h1,h2⟩:=List.nodup_cons.1 h
  simp only [BG]
  split
  ·rename_i e
   simp only [List.map_cons];rw [e];exact h
  ·rename_i e
   simp only [List.map_cons]
   refine List.nodup_cons.2 ⟨fun hm=>?_,PG n h2⟩
   rcases Rn l n _ hm with g | g
   ·exact e g.symm
   ·exact h1 g
theorem Rf:∀ {l:List Tm} (n:Tm),(l.map (·.2)).Nodup→∀ k,Jn (BG l n) k=if n.2=k then n.1 else Jn l k
 |[],n,_,k=>by simp [BG,Jn,Rat.add_zero]
 |t::l,n,h,k=>by
  simp only [List.map_cons] at h
  obtain ⟨h1,h2⟩:=List.nodup_cons.1 h
  have hz:Jn l t.2=0:=KL fun x hx e=>h1 (e ▸ List.mem_map_of_mem (f:=(·.2)) hx)
  simp only [BG]
  split
  ·rename_i e
   simp only [Jn]
   by_cases g:n.2=k
   ·have g2:t.2=k:=e ▸ g
    rw [if_pos g,if_pos g,← g2,hz,Rat.add_zero]
   ·have g2:¬ t.2=k:=fun q=>g (e.trans q)
    rw [if_neg g,if_neg g,if_neg g2]
  ·rename_i e
   simp only [Jn]
   rw [Rf n h2 k]
   by_cases g:n.2=k
   ·have g2:¬ t.2=k:=fun q=>e (g.trans q.symm)
    rw [if_pos g,if_neg g2,if_pos g,Rat.zero_add]
   ·rw [if_neg g,if_neg g]
structure OA (T l:List Tm):Prop where
 nd:(T.map (·.2)).Nodup
 eq:E5 T l
theorem OA.nil:OA [] []:=⟨List.nodup_nil,E5.refl _⟩
theorem OA.add {T l:List Tm} (h:OA T l) (f:Rat) (p:List Int):OA (BG T (f+Jn T p,p)) (l++[(f,p)]) :=
 ⟨PG _ h.nd,fun k=>by
  rw [Rf _ h.nd,Kb,← h.eq k]
  simp only [Jn]
  by_cases g:p=k
  ·rw [if_pos g,if_pos g,g,Rat.add_zero];exact Rat.add_comm _ _
  ·rw [if_neg g,if_neg g,Rat.add_zero,Rat.add_zero]⟩
theorem OA.DK {T l:List Tm} (h:OA T l) {t:Tm} (ht:t∈T):Jn T t.2=t.1:=by
 have key:∀ {T:List Tm},(T.map (·.2)).Nodup→t∈T→Jn T t.2=t.1:=by
  intro T
  induction T with
  |nil=>intro _ h;cases h
  |cons x T ih =>
   intro hn hm
   simp only [List.map_cons] at hn
   obtain ⟨h1,h2⟩:=List.nodup_cons.1 hn
   rcases List.mem_cons.1 hm with rfl | hm
   ·simp only [Jn]
    have hz:Jn T t.2=0:=KL fun x hx e=>h1 (e ▸ List.mem_map_of_mem (f:=(·.2)) hx)
    rw [if_pos trivial,hz,Rat.add_zero]
   ·simp only [Jn]
    have:¬ x.2=t.2:=fun e=>h1 (e ▸ List.mem_map_of_mem (f:=(·.2)) hm)
    rw [if_neg this,ih h2 hm,Rat.zero_add]
 exact key h.nd ht
theorem Re {T:List Tm} {p:List Int} (h:p∉T.map (·.2)):Jn T p=0:=KL fun x hx e=>h (e ▸ List.mem_map_of_mem (f:=(·.2)) hx)
theorem OA.norm {T l s:List Tm} (h:OA T l) (hp:s.Perm (T.filter fun t=>decide (t.1≠0))) (hs:s.Pairwise fun x y=>before x.2 y.2=true):s=XK l:=by
 refine UC ⟨hs,fun t ht=>?_⟩ ((E5.perm hp).trans ((eqv_filter T).trans h.eq))
 have:=(hp.mem_iff).1 ht
 simpa using (List.mem_filter.1 this).2
end Ig
namespace Go.Proofs.YtknegjaeoffnbaaGreatDoor
section
open Go.RowKit Ig
structure XZ where
 x:Fr
 r:Sr
 t:Tm
instance :Inhabited XZ:=⟨⟨⟨⟨0,none,0,0⟩,⟨0,none,0,0⟩⟩,⟨none,0,0⟩,(0,[])⟩⟩
def Yv (t:XZ):List Value:=[.int .i64 t.x.n.s,.slice t.x.n.q t.x.n.n t.x.n.cap,.int .i64 t.x.d.s,.slice t.x.d.q t.x.d.n t.x.d.cap,.slice t.r.q t.r.n t.r.cap]
@[reducible] def Az (t:XZ):Value:=.agg #[.int .i64 t.x.n.s,.slice t.x.n.q t.x.n.n t.x.n.cap,.int .i64 t.x.d.s,.slice t.x.d.q t.x.d.n t.x.d.cap,.slice t.r.q t.r.n t.r.cap]
theorem Yb (t:XZ):(Yv t).length=5:=rfl
def TF (F:Gs) (t:XZ):Prop:=Jc F t.x t.t.1∧JP F t.r t.t.2
theorem TF.le {F F':Gs} {t:XZ} (h:TF F t) (k:Gs.le F F'):TF F' t:=⟨h.1.le k,h.2.le k⟩
def Vo (F:Gs) (ts:List XZ):Prop:=∀ t∈ts,TF F t
theorem Vo.le {F F':Gs} {ts:List XZ} (h:Vo F ts) (k:Gs.le F F'):Vo F' ts:=fun t ht=>(h t ht).le k
def W5 (ts:List XZ):List (List UInt8×Value):=ts.map fun t=>(Yw t.t.2,Az t)
def JK (ts:List XZ):List Tm:=ts.map (·.t)
def addN:List XZ→XZ→List XZ
 |[],n=>[n]
 |t::l,n=>if n.t.2=t.t.2 then n::l else t::addN l n
theorem TN:∀ (ts:List XZ) (n:XZ),JK (addN ts n)=BG (JK ts) n.t
 |[],n=>rfl
 |t::l,n=>by
  have ih:=TN l n
  unfold JK at ih ⊢
  simp only [addN,List.map_cons,BG]
  split
  ·simp
  ·simp [ih]
theorem Nh:∀ (ts:List XZ) (n:XZ),W5 (addN ts n)=Bl (W5 ts) (Yw n.t.2) (Az n)
 |[],n=>rfl
 |t::l,n=>by
  have ih:=Nh l n
  unfold W5 at ih ⊢
  simp only [addN,List.map_cons,Bl]
  by_cases h:n.t.2=t.t.2
  ·rw [if_pos h,if_pos (congrArg Yw h)];simp
  ·rw [if_neg h,if_neg fun e=>h (Bv e)];simp [ih]
theorem Nb {ts:List XZ} {n x:XZ} (h:x∈addN ts n):x=n∨x∈ts:=by
 induction ts with
 |nil=>simp [addN] at h;exact .inl h
 |cons t l ih =>
  simp only [addN] at h
  split at h
  ·rcases List.mem_cons.1 h with h | h
   ·exact .inl h
   ·exact .inr (List.mem_cons_of_mem _ h)
  ·rcases List.mem_cons.1 h with h | h
   ·exact .inr (h ▸ List.mem_cons_self)
   ·rcases ih h with h | h
    ·exact .inl h
    ·exact .inr (List.mem_cons_of_mem _ h)
theorem zL:∀ (ts:List XZ) (p:List Int) (i:Nat),(Z4 (W5 ts) (Yw p) i=none∧p∉(JK ts).map (·.2))∨∃ j,∃ t∈ts,t.t.2=p∧Z4 (W5 ts) (Yw p) i=some (j,Az t)
 |[],_,_=>.inl ⟨rfl,by simp [JK]⟩
 |t::l,p,i=>by
  by_cases h:p=t.t.2
  ·exact .inr ⟨i,t,List.mem_cons_self,h.symm,by show(if _ then _ else _)=_;rw [if_pos (congrArg Yw h)]⟩
  ·rcases zL l p (i+1) with ⟨h1,h2⟩ | ⟨j,u,hu,h1,h2⟩
   ·refine .inl ⟨?_,?_⟩
    ·show(if _ then _ else _)=_
     rw [if_neg fun e=>h (Bv e)];exact h1
    ·simp only [JK,List.map_cons,List.mem_cons,not_or];exact⟨h,h2⟩
   ·refine .inr ⟨j,u,List.mem_cons_of_mem _ hu,h1,?_⟩
    show(if _ then _ else _)=_
    rw [if_neg fun e=>h (Bv e)];exact h2
def Zm (l:List Tm):Nat:=(l.map fun t=>JQ t.1+1).sum
theorem Xl (l m:List Tm):Zm (l++m)=Zm l+Zm m:=by unfold Zm;rw [List.map_append,List.sum_append]
theorem BR:∀ (l:List Tm) (k:List Int),JQ (Jn l k)≤Zm l+1
 |[],k=>by show JQ (0:Rat)≤_;decide
 |t::l,k=>by
  have h1:=BR l k
  simp only [Jn]
  have h2:=Vr (if t.2=k then t.1 else 0) (Jn l k)
  have h3:JQ (if t.2=k then t.1 else 0)≤JQ t.1+1:=by
   split
   ·omega
   ·have:JQ (0:Rat)≤1:=by decide
    omega
  have e:Zm (t::l)=JQ t.1+1+Zm l:=by unfold Zm;rw [List.map_cons,List.sum_cons]
  have h4:JQ (Jn (t::l) k)≤Zm l+1+(JQ t.1+1):=by
   simp only [Jn]
   by_cases g:t.2=k
   ·rw [if_pos g] at h2 ⊢
    omega
   ·rw [if_neg g,Rat.zero_add];omega
  rw [e]
  simp only [Jn] at h4
  omega
structure VB (ts:List XZ) (l:List Tm):Prop where
 AL:OA (JK ts) l
 pw:∀ t∈ts,PW t.t.2
 ln:ts.length≤l.length
theorem VB.nil:VB [] []:=⟨OA.nil,(fun _ h=>by cases h),Nat.le_refl _⟩
theorem qU (ts:List XZ) (n:XZ):(addN ts n).length≤ts.length+1:=by
 induction ts with
 |nil=>exact Nat.le_refl _
 |cons t l ih =>
  simp only [addN]
  split<;>simp only [List.length_cons]<;>omega
theorem VB.add {ts:List XZ} {l:List Tm} (h:VB ts l) {f:Rat} {p:List Int} (hp:PW p) {n:XZ} (hn:n.t=(f+Jn (JK ts) p,p)):VB (addN ts n) (l++[(f,p)]) :=
 ⟨by rw [TN,hn];exact h.AL.add f p,fun t ht=>by
  rcases Nb ht with rfl | ht
  ·rw [hn];exact hp
  ·exact h.pw t ht,by have:=qU ts n;have:=h.ln;rw [List.length_append];simp only [List.length_singleton];omega⟩
theorem VB.sz {ts:List XZ} {l:List Tm} (h:VB ts l) {t:XZ} (ht:t∈ts):JQ t.t.1≤Zm l+1:=by
 rw [← h.AL.DK (List.mem_map_of_mem (f:=XZ.t) ht),h.AL.eq];exact BR _ _
theorem NV:UJ Tryz.prog 227 9 165=true:=by kernel_rfl
theorem Sc:S7 Tryz.prog 9 tx:=.str (by kernel_rfl)
theorem qh:kG Tryz.prog 165=some (.agg #[.int .i64 0,.slice none 0 0,.int .i64 0,.slice none 0 0,.slice none 0 0]):=by kernel_rfl
end
section
open Go.RowKit Ig
theorem S9 {P:Program} {Q:Exit→Act→World→Prop} {N:Nat} {m:Sl} {w0:World} {F0:Gs} {bs:List (Nat×Obj)} {G H:Gs→Prop} {c:Code} (h:∀ F,G F→H F) (k:J P c Q N m ⟨w0,F0,bs,fun F=>G F∧H F⟩):J P c Q N m ⟨w0,F0,bs,G⟩ :=
 fun a w ha hw=>k a w ha (hw.By fun F h'=>⟨h',h F h'⟩)
variable {w0:World} {F0:Gs} {bs:List (Nat×Obj)} {G:Gs→Prop}
theorem AY {ts:List XZ} {l:List Tm} {m:Nat} {x:Fr} {f:Rat} {r:Sr} {p:List Int} (hI:VB ts l) (hp:PW p) (hz:JQ f≤40000000) (hl:Zm l≤40000000) (hG:∀ F,G F→JF F∧Vo F ts∧Jc F x f∧JP F r p) {t0:XZ} {j:Nat} (ht:t0∈ts) (h0:t0.t.2=p) (hf:Z4 (W5 ts) (Yw p) 0=some (j,Az t0)) :
  XD Tryz.prog 210 [.map (some m),x.v,r.v] ⟨w0,F0,(m,ZA tx (W5 ts))::bs,G⟩ (fun(_:XZ)=>.tuple #[]) (fun n=>⟨w0,F0,(m,ZA tx (W5 (addN ts n)))::bs,fun F=>G F∧Vo F (addN ts n)∧n.t=(f+Jn (JK ts) p,p)⟩):=by
 have hc0:Jn (JK ts) p=t0.t.1:=by rw [← h0];exact hI.AL.DK (List.mem_map_of_mem (f:=XZ.t) ht)
 have hz0:=hI.sz ht
 dsimp only [Sr.v,Fr.v]
 refine XD.intro Tryz.func210 rfl (by rfl) rfl rfl<|S9 hG<|QG<|QB<|Qz rfl (vs:=[_,_,_,_]) rfl (fun b4=>QF<|QC<|QG<|QB<|QA (QD rfl)<|QH rfl (fun w F hF ⟨hG0,hGl,hT,⟨hxn,hxd⟩,hR⟩=>CL hF hGl (r:=r) hR (hp)) (fun _=>QA (QE rfl)<|QF<|QC<|QG<|QG<|QB<|QA (QD rfl)<|QA (QD rfl)<|QA (Tt Sc rfl rfl NV (.there .here) hf)<|QA (QD rfl)<|QA (QM rfl rfl)<|QA (QM rfl rfl)<|QZ Zh (fun b7=>QS (vs:=[_,_,_,_,_]) rfl rfl rfl Ji rfl .here (.here (.here (.here (.here (.here .nil))))) ⟨rfl,rfl,rfl,rfl,rfl,trivial⟩ ?_)))
 refine QA (QE rfl)<|QF<|QC<|QG<|QB<|QA (QD rfl)<|QF<|QC ?_
 refine QQ rfl (fun hc=>?_) (fun hc=>?_)
 ·
  refine QB<|QA (QJ (vs:=[_,_,_,_]) rfl Qg (.there .here) (.here (.here (.here (.here .nil)))) rfl)<|QA (QI rfl YF Qg)<|QA (QJ (vs:=[_,_,_,_]) rfl Qg .here (.here (.here (.here (.here .nil)))) rfl)<|QH rfl (fun w F hF ⟨⟨hG0,hGl,hT,⟨hxn,hxd⟩,hR⟩,_⟩=>Nx hF ⟨by assumption,by assumption⟩ ((hT t0 ht).1) (by omega) (by omega)) (fun x21=>QS (vs:=[_,_,_,_]) rfl rfl rfl Qg rfl (.there .here) (.here (.here (.here (.here .nil)))) ⟨rfl,rfl,rfl,rfl,trivial⟩<|QF<|QC<|QB<|QA (QD rfl)<|QA (QD rfl)<|QA (QJ (vs:=[_,_,_,_]) rfl Qg (.there .here) (.here (.here (.here (.here .nil)))) rfl)<|QA (QD rfl)<|QA (Q4 rfl NM Zh (.cons (vs:=[_,_,_,_]) rfl rfl rfl (.here (.here (.here (.here .nil)))) (.cons (vs:=[_]) rfl rfl rfl (.skip (.skip (.skip (.skip (.here .nil))))) .nil)))<|G6 (k:=Yw p) (v:=Az ⟨x21,r,(f+t0.t.1,p)⟩) Sc rfl rfl rfl NV (.there (.there .here))<|QF<|ED ?_)
  exact Y8 (⟨x21,r,(f+t0.t.1,p)⟩) rfl .nil (rfl) (fun w h=>by
   show St ⟨w0,F0,(m,ZA tx (W5 (addN ts ⟨x21,r,(f+t0.t.1,p)⟩)))::bs,_⟩ w
   rw [Nh]
   exact St.imp h (.cons _ (.cons _ (List.Sublist.refl _))) (fun F ⟨⟨⟨hG0,hGl,hT,⟨hxn,hxd⟩,hR⟩,_⟩,⟨h21,h21_⟩⟩=>⟨hG0,fun t ht=>by
    rcases Nb ht with rfl | ht
    ·exact⟨⟨by assumption,by assumption⟩,hR⟩
    ·exact hT t ht,by rw [hc0]⟩))
 ·exact absurd hc (by cases hc)
theorem TT {ts:List XZ} {l:List Tm} {m:Nat} {x:Fr} {f:Rat} {r:Sr} {p:List Int} (hI:VB ts l) (hp:PW p) (hz:JQ f≤40000000) (hl:Zm l≤40000000) (hG:∀ F,G F→JF F∧Vo F ts∧Jc F x f∧JP F r p) (hf:Z4 (W5 ts) (Yw p) 0=none) (hm:p∉(JK ts).map (·.2)) :
  XD Tryz.prog 210 [.map (some m),x.v,r.v] ⟨w0,F0,(m,ZA tx (W5 ts))::bs,G⟩ (fun(_:XZ)=>.tuple #[]) (fun n=>⟨w0,F0,(m,ZA tx (W5 (addN ts n)))::bs,fun F=>G F∧Vo F (addN ts n)∧n.t=(f+Jn (JK ts) p,p)⟩):=by
 have hc0:Jn (JK ts) p=0:=Re hm
 dsimp only [Sr.v,Fr.v]
 refine XD.intro Tryz.func210 rfl (by rfl) rfl rfl<|S9 hG<|QG<|QB<|Qz rfl (vs:=[_,_,_,_]) rfl (fun b4=>QF<|QC<|QG<|QB<|QA (QD rfl)<|QH rfl (fun w F hF ⟨hG0,hGl,hT,⟨hxn,hxd⟩,hR⟩=>CL hF hGl (r:=r) hR (hp)) (fun _=>QA (QE rfl)<|QF<|QC<|QG<|QG<|QB<|QA (QD rfl)<|QA (QD rfl)<|QA (P4 Sc rfl rfl NV qh (.there .here) hf)<|QA (QD rfl)<|QA (QM rfl rfl)<|QA (QM rfl rfl)<|QZ Zh (fun b7=>QS (vs:=[_,_,_,_,_]) rfl rfl rfl Ji rfl .here (.here (.here (.here (.here (.here .nil))))) ⟨rfl,rfl,rfl,rfl,rfl,trivial⟩ ?_)))
 refine QA (QE rfl)<|QF<|QC<|QG<|QB<|QA (QD rfl)<|QF<|QC ?_
 refine QQ rfl (fun hc=>?_) (fun hc=>?_)
 ·exact absurd hc (by cases hc)
 ·
  refine QP<|QC<|QB<|QA (QD rfl)<|QA (QD rfl)<|QA (QJ (vs:=[_,_,_,_]) rfl Qg (.there .here) (.here (.here (.here (.here .nil)))) rfl)<|QA (QD rfl)<|QA (Q4 rfl NM Zh (.cons (vs:=[_,_,_,_]) rfl rfl rfl (.here (.here (.here (.here .nil)))) (.cons (vs:=[_]) rfl rfl rfl (.skip (.skip (.skip (.skip (.here .nil))))) .nil)))<|G6 (k:=Yw p) (v:=Az ⟨x,r,(f,p)⟩) Sc rfl rfl rfl NV (.there (.there .here))<|QF<|ED ?_
  exact Y8 (⟨x,r,(f,p)⟩) rfl .nil (rfl) (fun w h=>by
   show St ⟨w0,F0,(m,ZA tx (W5 (addN ts ⟨x,r,(f,p)⟩)))::bs,_⟩ w
   rw [Nh]
   exact St.imp h (.cons _ (.cons _ (List.Sublist.refl _))) (fun F ⟨⟨hG0,hGl,hT,⟨hxn,hxd⟩,hR⟩,_⟩=>⟨hG0,fun t ht=>by
    rcases Nb ht with rfl | ht
    ·exact⟨⟨by assumption,by assumption⟩,hR⟩
    ·exact hT t ht,by rw [hc0,Rat.add_zero]⟩))
theorem BU {ts:List XZ} {l:List Tm} {m:Nat} {x:Fr} {f:Rat} {r:Sr} {p:List Int} (hI:VB ts l) (hp:PW p) (hz:JQ f≤40000000) (hl:Zm l≤40000000) (hG:∀ F,G F→JF F∧Vo F ts∧Jc F x f∧JP F r p) :
  XD Tryz.prog 210 [.map (some m),x.v,r.v] ⟨w0,F0,(m,ZA tx (W5 ts))::bs,G⟩ (fun(_:XZ)=>.tuple #[]) (fun n=>⟨w0,F0,(m,ZA tx (W5 (addN ts n)))::bs,fun F=>G F∧Vo F (addN ts n)∧n.t=(f+Jn (JK ts) p,p)⟩):=by
 rcases zL ts p 0 with ⟨h1,h2⟩ | ⟨j,t,ht,h1,h2⟩
 ·exact TT hI hp hz hl hG h1 h2
 ·exact AY hI hp hz hl hG ht h1 h2
end
section
open Go.RowKit Ig
variable [Dr]
theorem jO {w:World} {F:Gs} {a b:XZ} (hF:Fits F w) (hA:TF F a) (hB:TF F b) (pa:PW a.t.2) (pb:PW b.t.2):QV Tryz.prog 253 [Az a,Az b] w F (.int .i64 (Vd a.t.2 b.t.2)):=by
 refine QT.intro (G:=fun F=>TF F a∧TF F b) Tryz.func253 rfl (by rfl) rfl rfl hF (fun F' hF'=>⟨hA.le hF',hB.le hF'⟩)<|QG<|QB<|Qz rfl (vs:=[_,_,_,_,_]) rfl (fun b2=>Qz rfl (vs:=[_,_,_,_,_]) rfl (fun b3=>QA (QE rfl)<|QF<|QC<|QG<|QB<|QA (QI rfl ZB Qs)<|QA (Qi rfl Qs (.there .here) (.skip (.skip (.skip (.skip (.here .nil))))))<|QA (QI rfl ZB Qs)<|QA (Qi rfl Qs .here (.skip (.skip (.skip (.skip (.here .nil))))))<|QH rfl (fun w F hF ⟨hA,hB⟩=>H2 hF (ra:=a.r) (rb:=b.r) hA.2 (hB.2) (pa) (pb)) (fun _=>QA (QE rfl)<|QF<|QC<|QR ?_)))
 exact QN (()) rfl (.tmp rfl .nil) (rfl) (fun F ⟨⟨hA,hB⟩,_⟩=>trivial)
end
end Go.Proofs.YtknegjaeoffnbaaGreatDoor
namespace Go.Proofs
open Go.Shelf
def Tryz.I7:Go.Shelf.Ren:=⟨fun | 14=>213 | 20=>257 | 21=>258 | 22=>259 | 23=>260 | 24=>261 | 25=>262 | 26=>263 | 27=>264 | 46=>290 | 47=>291 | 48=>292 | 49=>293 | 50=>294 | 15=>214 | 57=>311 | 28=>265 | 29=>266 | n=>n,fun | 24=>165 | 22=>156 | 3=>3 | 25=>168 | 4=>4 | 0=>0 | 46=>263 | 45=>262 | 50=>85 | 66=>290 | 39=>232 | 55=>248 | 70=>294 | 76=>308 | 77=>309 | 53=>269 | 5=>5 | 9=>9 | n=>n,fun | n=>n⟩
theorem Tryz.zA:Go.Proofs.SlLaysF0.n14 Tryz.prog Tryz.I7:={
 mixed:=by kernel_rfl
 f14:=⟨Tryz.f213.name,by decide,Tryz.func213.trans (congrArg some (by kernel_rfl))⟩
 f15:=Tryz.func214.trans (congrArg some (by kernel_rfl))
 f20:=⟨Tryz.f257.name,by decide,Tryz.func257.trans (congrArg some (by kernel_rfl))⟩
 f21:=⟨Tryz.f258.name,by decide,Tryz.func258.trans (congrArg some (by kernel_rfl))⟩
 f22:=⟨Tryz.f259.name,by decide,Tryz.func259.trans (congrArg some (by kernel_rfl))⟩
 f23:=⟨Tryz.f260.name,by decide,Tryz.func260.trans (congrArg some (by kernel_rfl))⟩
 f24:=⟨Tryz.f261.name,by decide,Tryz.func261.trans (congrArg some (by kernel_rfl))⟩
 f25:=⟨Tryz.f262.name,by decide,Tryz.func262.trans (congrArg some (by kernel_rfl))⟩
 f26:=⟨Tryz.f263.name,by decide,Tryz.func263.trans (congrArg some (by kernel_rfl))⟩
 f27:=⟨Tryz.f264.name,by decide,Tryz.func264.trans (congrArg some (by kernel_rfl))⟩
 f28:=Tryz.func265.trans (congrArg some (by kernel_rfl))
 f29:=Tryz.func266.trans (congrArg some (by kernel_rfl))
 f46:=⟨Tryz.f290.name,by decide,Tryz.func290.trans (congrArg some (by kernel_rfl))⟩
 f47:=Tryz.func291.trans (congrArg some (by kernel_rfl))
 f48:=Tryz.func292.trans (congrArg some (by kernel_rfl))
 f49:=⟨Tryz.f293.name,by decide,Tryz.func293.trans (congrArg some (by kernel_rfl))⟩
 f50:=⟨Tryz.f294.name,by decide,Tryz.func294.trans (congrArg some (by kernel_rfl))⟩
 f57:=⟨Tryz.f311.name,by decide,Tryz.func311.trans (congrArg some (by kernel_rfl))⟩
 t0:=Tryz.underlying0
 a0:=Tryz.isAgg0
 z0:=Tryz.sizeOf0
 v0:=Tryz.zeroValue0
 t3:=Tryz.underlying3
 a3:=Tryz.isAgg3
 z3:=Tryz.sizeOf3
 v3:=Tryz.zeroValue3
 t4:=Tryz.underlying4
 a4:=Tryz.isAgg4
 z4:=Tryz.sizeOf4
 v4:=Tryz.zeroValue4
 t5:=Tryz.underlying5
 a5:=Tryz.isAgg5
 z5:=Tryz.sizeOf5
 v5:=Tryz.zeroValue5
 t9:=Tryz.underlying9
 a9:=Tryz.isAgg9
 z9:=Tryz.sizeOf9
 v9:=Tryz.zeroValue9
 t22:=Tryz.underlying156
 a22:=Tryz.isAgg156
 z22:=Tryz.sizeOf156
 v22:=Tryz.zeroValue156
 t25:=Tryz.underlying168
 a25:=Tryz.isAgg168
 z25:=Tryz.sizeOf168
 v25:=Tryz.zeroValue168
 t39:=Tryz.underlying232
 a39:=Tryz.isAgg232
 z39:=Tryz.sizeOf232
 v39:=Tryz.zeroValue232
 t45:=Tryz.underlying262
 a45:=Tryz.isAgg262
 z45:=Tryz.sizeOf262
 v45:=Tryz.zeroValue262
 t46:=Tryz.underlying263
 a46:=Tryz.isAgg263
 z46:=Tryz.sizeOf263
 v46:=Tryz.zeroValue263
 t50:=Tryz.underlying85
 a50:=Tryz.isAgg85
 z50:=Tryz.sizeOf85
 v50:=Tryz.zeroValue85
 t53:=Tryz.underlying269
 a53:=Tryz.isAgg269
 z53:=Tryz.sizeOf269
 v53:=Tryz.zeroValue269
 t55:=Tryz.underlying248
 a55:=Tryz.isAgg248
 z55:=Tryz.sizeOf248
 v55:=Tryz.zeroValue248
 t66:=Tryz.underlying290
 a66:=Tryz.isAgg290
 z66:=Tryz.sizeOf290
 v66:=Tryz.zeroValue290
 t70:=Tryz.underlying294
 a70:=Tryz.isAgg294
 z70:=Tryz.sizeOf294
 v70:=Tryz.zeroValue294
 t76:=Tryz.underlying308
 a76:=Tryz.isAgg308
 z76:=Tryz.sizeOf308
 v76:=Tryz.zeroValue308
 t77:=Tryz.underlying309
 a77:=Tryz.isAgg309
 z77:=Tryz.sizeOf309
 v77:=Tryz.zeroValue309 }
end Go.Proofs
namespace Go.Proofs.YtknegjaeoffnbaaGreatDoor
section
open Go.RowKit Ig Go.Sort
def vw:XZ:=⟨⟨⟨0,none,0,0⟩,⟨1,none,0,0⟩⟩,⟨none,0,0⟩,(0,[])⟩
theorem kX (F:Gs):TF F vw:=⟨⟨Js.small F (by decide) (by decide),Js.small F (by decide) (by decide)⟩,⟨by simp [JB,vw],rfl,Nat.le_refl _⟩⟩
theorem PW.nil:PW []:=⟨fun _ h=>(by cases h),by simp⟩
abbrev xY (F:Gs):={t:XZ // TF F t∧PW t.t.2}
instance (F:Gs):Inhabited (xY F):=⟨⟨vw,kX F,PW.nil⟩⟩
def HM (F:Gs):xY F→List Value:=fun t=>Yv t.1
def kD (F:Gs):xY F→xY F→Int:=fun x y=>Vd x.1.t.2 y.1.t.2
theorem vX {F:Gs} (x y:xY F):ltOf (kD F) x y=before x.1.t.2 y.1.t.2:=(Wp _ _).symm
theorem Pg {a b c:List Int} (h:before a b=false) (k:before b c=false):before a c=false:=by
 cases hb:before a c with
 |false=>rfl
 |true =>
  rcases KM b c with e | e | e
  ·subst e;rw [h] at hb;cases hb
  ·rw [k] at e;cases e
  ·rw [before_trans hb e] at h;cases h
theorem kO (F:Gs):SWO (ltOf (kD F)) where
 irrefl:=fun x=>by rw [vX];exact before_irrefl _
 trans:=fun x y z h k=>by rw [vX] at h k ⊢;exact before_trans h k
 ntrans:=fun x y z h k=>by rw [vX] at h k ⊢;exact Pg h k
def LC (w:World) (F:Gs) (W:World):Gs:=fun b=>if b<w.heap.size then F b else match W.heap[b]? with | some (.cells c T _)=>if T=248 then some (c,248) else none | _=>none
theorem WL {w W:World} {F:Gs} {b:Nat} (h:b<w.heap.size):LC w F W b=F b:=if_pos h
theorem IC {w W:World} {F:Gs} (hF:Fits F w):Gs.le F (LC w F W):=fun b x hb=>by rw [WL (hF.lt hb)];exact hb
theorem RG {w W:World} {F:Gs} {DN:Nat} {c':Array Value} {T:TypeId} {fr':Nat×Nat} (hF:Fits F w) (hn:F DN=none) (hT:T≠248) (h1:∀ b,b<w.heap.size→b≠DN→W.heap[b]?=w.heap[b]?) (h2:W.heap[DN]?=some (.cells c' T fr')):Fits (LC w F W) W:=by
 refine⟨fun b c T hb=>?_,fun b c fr hb=>?_⟩
 ·by_cases hlt:b<w.heap.size
  ·rw [WL hlt] at hb
   obtain ⟨fr,e⟩:=hF.row b c T hb
   have hne:b≠DN:=by rintro rfl;rw [hn] at hb;cases hb
   exact⟨fr,by rw [h1 b hlt hne];exact e⟩
  ·unfold LC at hb
   rw [if_neg hlt] at hb
   split at hb
   ·rename_i c' T' fr heq
    split at hb
    ·rename_i hT;cases hb;exact⟨fr,by rw [heq,hT]⟩
    ·cases hb
   ·cases hb
 ·by_cases hlt:b<w.heap.size
  ·rw [WL hlt]
   by_cases hne:b=DN
   ·subst hne;rw [h2] at hb;cases hb;exact absurd rfl hT
   ·rw [h1 b hlt hne] at hb;exact hF.all b c fr hb
  ·unfold LC
   rw [if_neg hlt,hb];simp
theorem j6 {w w':World} (h1:Below w.heap.size w w') (h2:w.drawn≤w'.drawn):w'=grow (w.drewN (w'.drawn - w.drawn)) (w'.heap.extract w.heap.size w'.heap.size):=by
 have hh:w'.heap=w.heap++w'.heap.extract w.heap.size w'.heap.size:=by
  apply Array.ext_getElem?
  intro i
  rw [Array.getElem?_append]
  split
  ·rename_i h;exact h1.block i h
  ·rename_i h
   rw [Array.getElem?_extract]
   have:=h1.size
   by_cases g:i<w'.heap.size
   ·rw [if_pos (by omega)];congr 1;omega
   ·rw [if_neg (by omega),Array.getElem?_eq_none (by omega)]
 obtain ⟨e1,e2,e3,_,_⟩:=h1
 cases w' with
 |mk heap tape drawn os output =>
  simp only at hh e1 e2 e3 h2
  unfold grow World.drewN
  simp only [World.mk.injEq]
  exact⟨hh,e2,by omega,e1,e3⟩
section
variable {α:Type} [Inhabited α] {enc:α→List Value} {k:Nat} {w:World} {DN m:Nat} {dk:Array α} {os:Array Obj} {c:Array Value} {T:TypeId} {fr:Nat×Nat}
theorem BS (b:Nat) (hb:b<w.heap.size) (hne:b≠DN):(sortWorldK enc k w DN 0 m dk os).heap[b]?=w.heap[b]?:=by
 show((w.heap.modify DN _)++os)[b]?=_
 rw [Array.getElem?_append,if_pos (by simpa using hb),Array.getElem?_modify,if_neg (Ne.symm hne)]
theorem OZ (h:w.heap[DN]?=some (.cells c T fr)):(sortWorldK enc k w DN 0 m dk os).heap[DN]?=some (.cells (putCells id 0 (flatK enc k dk) c) T fr):=by
 have hb:DN<w.heap.size:=by
  rcases Nat.lt_or_ge DN w.heap.size with g | g
  ·exact g
  ·rw [Array.getElem?_eq_none g] at h;cases h
 show((w.heap.modify DN _)++os)[DN]?=_
 rw [Array.getElem?_append,if_pos (by simpa using hb),Array.getElem?_modify,if_pos rfl,h]
 rfl
theorem FL (hk:∀ x,(enc x).length=k) (d:Array α):flatK enc k d=(d.toList.flatMap enc).toArray:=by
 have hl:(d.toList.flatMap enc).length=d.size*k:=by
  generalize hd:d.toList=l
  have:d.size=l.length:=by rw [← hd];simp
  rw [this]
  clear this hd
  induction l with
  |nil=>simp
  |cons x l ih=>rw [List.flatMap_cons,List.length_append,ih,hk,List.length_cons,Nat.add_mul];omega
 apply Array.ext_getElem?
 intro t
 by_cases ht:t<d.size*k
 ·have hk0:0<k:=Nat.pos_of_ne_zero fun e=>by rw [e] at ht;simp at ht
  have h1:t / k<d.size:=(Nat.div_lt_iff_lt_mul hk0).2 ht
  have h2:t%k<k:=Nat.mod_lt _ hk0
  have h3:t%k<(enc d[t / k]!).length:=by rw [hk];exact h2
  have e1:(flatK enc k d)[t]?=some ((enc d[t / k]!)[t%k]!):=by
   rw [Array.getElem?_eq_getElem (by rw [size_flatK];exact ht)]
   have:=get_flatK enc k d t ht
   rw [getElem!_pos _ t (by rw [size_flatK];exact ht)] at this
   rw [this]
  rw [e1,List.getElem?_toArray]
  have h4:el d.toList (t / k)=d[t / k]!:=by simp [el,h1]
  have:=XW (f:=enc) hk (l:=d.toList) (i:=t / k) (j:=t%k) (u:=(enc d[t / k]!)[t%k]!) (by simpa using h1) (by rw [h4,List.getElem?_eq_getElem h3,getElem!_pos (enc d[t / k]!) (t%k) h3])
  rw [Nat.mul_comm,Nat.div_add_mod] at this
  exact this.symm
 ·rw [Array.getElem?_eq_none (by rw [size_flatK];omega),List.getElem?_toArray,List.getElem?_eq_none (by omega)]
theorem SD {a b rest:List Value} (h:b.length=a.length):putCells id 0 b.toArray (a++rest).toArray=(b++rest).toArray:=by
 apply Array.ext_getElem?
 intro i
 unfold putCells
 rw [Array.getElem?_mapIdx,List.getElem?_toArray,List.getElem?_toArray,List.getElem?_append,List.getElem?_append]
 by_cases hi:i<a.length
 ·have hi':i<b.length:=by omega
  rw [if_pos hi,if_pos hi',List.getElem?_eq_getElem hi,List.getElem?_eq_getElem hi']
  simp [hi']
 ·have hi':¬ i<b.length:=by omega
  rw [if_neg hi,if_neg hi',h]
  have e:¬ (0≤i∧i<0+b.toArray.size):=by simp;omega
  cases rest[i - a.length]? with
  |none=>rfl
  |some x=>simp only [Option.map_some];rw [if_neg e]
end
def Fj (g:FuncId):Prop:=Enters Tryz.prog g∧∀ (w:World) (F:Gs) (a b:XZ),Fits F w→TF F a→TF F b→PW a.t.2→PW b.t.2→@QT ⟨True⟩ Tryz.prog g [Az a,Az b] w F Unit (fun _=>.int .i64 (Vd a.t.2 b.t.2)) (fun _ _=>True)
theorem Fj.lays {g:FuncId} (hg:Fj g) {w:World} {F:Gs} {DN size:Nat} {c:Array Value} {T:TypeId} {fr:Nat×Nat} (hF:Fits F w) (hn:F DN=none) (hT:T≠248) (hb:w.heap[DN]?=some (.cells c T fr)):CmpLays Tryz.prog g #[] (HM F) 5 (kD F) DN 0 size w:=fun m os dk _ x y=>by
 have hf:=RG (W:=sortWorldK (HM F) 5 w DN 0 m dk os) hF hn hT (fun b h1 h2=>BS b h1 h2) (OZ hb)
 have hle:=IC (W:=sortWorldK (HM F) 5 w DN 0 m dk os) hF
 have:=(hg.2 _ _ x.1 y.1 hf (x.2.1.le hle) (y.2.1.le hle) x.2.2 y.2.2).2
 refine this.mono ?_
 rintro e w' ⟨_,F',rfl,hx,_⟩
 exact⟨rfl,_,_,j6 (@Pm.toBelow ⟨True⟩ _ _ hx) (@Pm.dr ⟨True⟩ _ _ hx trivial)⟩
theorem vu {F:Gs} (x:xY F):∀ v∈HM F x,v.oneCell'=true:=by
 intro v hv
 unfold HM Yv at hv
 simp only [List.mem_cons,List.not_mem_nil,or_false] at hv
 rcases hv with rfl | rfl | rfl | rfl | rfl<;>rfl
variable [Dr] {w0:World} {F0:Gs} {bs:List (Nat×Obj)} {G:Gs→Prop}
theorem kV {g:FuncId} (hg:Fj g) {b n cap lim:Nat} {ts:List XZ} {rest:List Value} (hG:∀ F,G F→Vo F ts) (hp:∀ t∈ts,PW t.t.2) (hl:ts.length=n) (hn:n<4611686018427387904) (hlim:lim<4611686018427387904) :
  XD Tryz.prog 213 [.slice (some ⟨b,0,none⟩) n cap,.int .i64 0,.int .i64 (n:Nat),.int .i64 (lim:Nat),.func (.func g) #[] #[]] ⟨w0,F0,(b,.cells (ts.flatMap Yv++rest).toArray 165 (0,0))::bs,G⟩ (fun(_:List XZ)=>.tuple #[])
   (fun ts'=>⟨w0,F0,(b,.cells (ts'.flatMap Yv++rest).toArray 165 (0,0))::bs,fun F=>G F∧ts'.Perm ts∧ts'.Pairwise (fun x y=>before y.t.2 x.t.2=false)⟩):=by
 refine⟨enters_of Tryz.func213 (by rfl) rfl,fun w hw=>?_⟩
 obtain ⟨F,h⟩:=hw
 obtain ⟨hb1,hb2,hb3⟩:=h.bx (b,_) List.mem_cons_self
 have hts:=hG F h.hG
 have hblt:b<w.heap.size:=(Array.getElem?_eq_some_iff.1 hb1).1
 have hT:(165:TypeId)≠248:=by decide
 obtain ⟨d,hd⟩:∃ d:Array (xY F),d.toList.map (·.1)=ts:=by
  refine⟨(ts.attach.map fun t=>(⟨t.1,hts t.1 t.2,hp t.1 t.2⟩:xY F)).toArray,?_⟩
  simp [List.map_map,Function.comp_def]
 have hds:d.size=n:=by rw [← hl,← hd];simp
 have hfl:∀ d:Array (xY F),flatK (HM F) 5 d=((d.toList.map (·.1)).flatMap Yv).toArray:=fun d=>by
  rw [FL (enc:=HM F) (k:=5) (fun _=>rfl),List.flatMap_map];rfl
 have hH:HoldsK (HM F) 5 w b 0 d:=by
  intro j hj
  rw [hfl,hd] at hj ⊢
  have hj':j<(ts.flatMap Yv).length:=by simpa using hj
  rw [Nat.zero_add]
  refine⟨?_,by simp [World.frozen?,hb1]⟩
  simp only [World.cell?,hb1,Option.isSome_none,Bool.false_eq_true,if_false,List.getElem?_toArray]
  rw [List.getElem?_append_left hj',List.getElem?_eq_getElem hj']
  show some _=some ((ts.flatMap Yv).toArray[j]!)
  rw [getElem!_pos (ts.flatMap Yv).toArray j (by simpa using hj')]
  simp
 have hR:RowK (HM F) 5 w b 0 d:=⟨fun _=>rfl,fun x=>vu x,hH,hblt⟩
 have eg:=hg.1
 have hcmp:=hg.lays (size:=d.size) h.fits hb3 hT hb1
 have hs:=AnyQ.pdqsortCmpFunc_all Tryz.zA 5 (Rq Ji) (YS Ji) (HM F) (kD F) g #[] (kO F) b 0 cap d w eg hcmp hR (d.size+1) 0 d.size lim d w (by omega) rfl (SWK.start hH) (Nat.zero_le _) (Nat.le_refl _) (by omega) hlim (Or.inl rfl)
 have hpl:=pdq_sorts (ltOf (kD F)) (kO F) d 0 d.size lim true true (Nat.zero_le _) (Nat.le_refl _) (Or.inl rfl)
 generalize pdq (ltOf (kD F)) d 0 d.size lim true true=d' at hs hpl
 obtain ⟨⟨hp1,_,hp2⟩,hso⟩:=hpl
 rw [hds] at hs
 refine hs.mono ?_
 rintro e w' ⟨rfl,m,os,rfl⟩
 have hbk:=OZ (enc:=HM F) (k:=5) (m:=m) (dk:=d') (os:=os) hb1
 have hfit:=RG (W:=sortWorldK (HM F) 5 w b 0 m d' os) h.fits hb3 hT (fun b h1 h2=>BS b h1 h2) hbk
 have hle:=IC (W:=sortWorldK (HM F) 5 w b 0 m d' os) h.fits
 have hperm:(d'.toList.map (·.1)).Perm ts:=by
  rw [← hd]
  refine List.Perm.map _ ?_
  have e1:(d'.extract 0 d.size).toList=d'.toList:=by rw [← hp1];simp
  have e2:(d.extract 0 d.size).toList=d.toList:=by simp
  rw [e1,e2] at hp2;exact hp2
 have hcells:putCells id 0 (flatK (HM F) 5 d') (ts.flatMap Yv++rest).toArray=((d'.toList.map (·.1)).flatMap Yv++rest).toArray:=by
  rw [hfl]
  refine SD ?_
  have:=(List.Perm.flatMap_right Yv hperm).length_eq
  exact this
 rw [hcells] at hbk
 have hsz:w.heap.size≤(sortWorldK (HM F) 5 w b 0 m d' os).heap.size:=by
  show _≤((w.heap.modify b _)++os).size
  simp
 refine⟨d'.toList.map (·.1),rfl,LC w F (sortWorldK (HM F) 5 w b 0 m d' os),?_⟩
 refine⟨Gs.le_trans h.le hle,fun k hk=>?_,hfit,⟨⟨?_,?_,?_,?_,?_⟩,?_⟩,fun k hk=>?_,h.nd,fun F' hF'=>⟨h.g F' (Gs.le_trans hle hF'),hperm,?_⟩⟩
 ·have:k<w.heap.size:=Nat.lt_of_lt_of_le hk h.ext.size
  rw [WL this];exact h.old k hk
 ·exact h.ext.os
 ·exact h.ext.tape
 ·exact h.ext.output
 ·exact Nat.le_trans h.ext.size hsz
 ·intro k hk
  have h1:k<w.heap.size:=Nat.lt_of_lt_of_le hk h.ext.size
  have h2:k≠b:=by rintro rfl;exact absurd hk (Nat.not_lt.2 hb2)
  rw [BS k h1 h2];exact h.ext.block k hk
 ·intro hd
  exact Nat.le_trans (h.ext.dr hd) (Nat.le_add_right _ _)
 ·rcases List.mem_cons.1 hk with rfl | hk
  ·exact⟨hbk,hb2,by rw [WL hblt];exact hb3⟩
  ·obtain ⟨g1,g2,g3⟩:=h.bx k (List.mem_cons_of_mem _ hk)
   have h1:k.1<w.heap.size:=(Array.getElem?_eq_some_iff.1 g1).1
   have h2:k.1≠b:=by
    have:=h.nd
    simp only [List.map_cons] at this
    have:=(List.nodup_cons.1 this).1
    rintro e
    exact this (e ▸ List.mem_map_of_mem (f:=(·.1)) hk)
   exact⟨by rw [BS k.1 h1 h2];exact g1,g2,by rw [WL h1];exact g3⟩
 ·rw [List.pairwise_map,List.pairwise_iff_getElem]
  intro i j hi hj hij
  have hi':i<d'.size:=by simpa using hi
  have hj':j<d'.size:=by simpa using hj
  have:=hso i j (Nat.zero_le _) hij (by omega)
  rw [vX,getElem!_pos _ i hi',getElem!_pos _ j hj'] at this
  simpa using this
end
section
open Go.RowKit Ig
section
variable [Dr] {w0:World} {F0:Gs} {bs:List (Nat×Obj)} {G:Gs→Prop}
theorem L2 {w:World} {F:Gs} (hF:Fits F w) {n:Nat} (h:n<4611686018427387904):QV Tryz.prog 214 [.int .u64 (n:Nat)] w F (.int .i64 (Lib.bitLen n:Nat)) :=
 QT.same (enters_of Tryz.func214 (by rfl) rfl) hF (by
  have:=Tryz.bits_Len (n:Nat) w (by omega) (by omega)
  rwa [Int.toNat_natCast] at this)
theorem qB:∀ {ts:List XZ},ts.flatMap Yv=[]→ts=[]
 |[],_=>rfl
 |t::l,h=>by rw [List.flatMap_cons] at h;simp [Yv] at h
theorem yD {g:FuncId} (hg:Fj g) {n lim:Nat} {v:Value} {ts:List XZ} {ob:List (Nat×Obj)} (hr:Q7 165 5 v n (ts.flatMap Yv) ob) (hG:∀ F,G F→Vo F ts) (hp:∀ t∈ts,PW t.t.2) (hl:ts.length=n) (hn:n<4611686018427387904) (hlim:lim<4611686018427387904) :
  XD Tryz.prog 213 [v,.int .i64 0,.int .i64 (n:Nat),.int .i64 (lim:Nat),.func (.func g) #[] #[]] ⟨w0,F0,ob++bs,G⟩ (fun(_:List XZ×List (Nat×Obj))=>.tuple #[])
   (fun c=>⟨w0,F0,c.2++bs,fun F=>G F∧Q7 165 5 v n (c.1.flatMap Yv) c.2∧c.1.Perm ts∧c.1.Pairwise (fun x y=>before y.t.2 x.t.2=false)⟩):=by
 generalize hcs:ts.flatMap Yv=cs at hr
 cases hr with
 |nil =>
  have:=qB hcs
  subst this
  refine⟨enters_of Tryz.func213 (by rfl) rfl,fun w hw=>?_⟩
  refine(AnyF.pdqsortCmpFunc_none Tryz.zA none 0 (lim:Nat) (.func (.func g) #[] #[]) w).mono ?_
  rintro e w' ⟨rfl,rfl⟩
  exact⟨([],[]),rfl,hw.By fun F h=>⟨h,.nil,List.Perm.refl _,List.Pairwise.nil⟩⟩
 |some h1 h2 h3 h4 =>
  rename_i b cap rest
  subst hcs
  have h:=kV (w0:=w0) (F0:=F0) (bs:=bs) (G:=G) hg (b:=b) (n:=n) (cap:=cap) (lim:=lim) (ts:=ts) (rest:=rest) hG hp hl hn hlim
  refine⟨h.1,fun w hw=>(h.2 w hw).mono ?_⟩
  rintro e w' ⟨ts',rfl,hw'⟩
  refine⟨(ts',[(b,.cells (ts'.flatMap Yv++rest).toArray 165 (0,0))]),rfl,hw'.By fun F ⟨hG',hpm,hpw⟩=>⟨hG',?_,hpm,hpw⟩⟩
  have hlen:(ts'.flatMap Yv).length=(ts.flatMap Yv).length:=(List.Perm.flatMap_right Yv hpm).length_eq
  exact .some (by rw [hlen];exact h1) (by rw [hlen];exact h2) h3 h4
theorem Oe {g:FuncId} (hg:Fj g) {n:Nat} {v:Value} {ts:List XZ} {ob:List (Nat×Obj)} (hr:Q7 165 5 v n (ts.flatMap Yv) ob) (hG:∀ F,G F→Vo F ts) (hp:∀ t∈ts,PW t.t.2) (hl:ts.length=n) (hn:n<4611686018427387904) :
  XD Tryz.prog 134 [v,.func (.func g) #[] #[]] ⟨w0,F0,ob++bs,G⟩ (fun(_:List XZ×List (Nat×Obj))=>.tuple #[])
   (fun c=>⟨w0,F0,c.2++bs,fun F=>G F∧Q7 165 5 v n (c.1.flatMap Yv) c.2∧c.1.Perm ts∧c.1.Pairwise (fun x y=>before y.t.2 x.t.2=false)⟩):=by
 refine XD.intro Tryz.func134 rfl (by rfl) rfl rfl<|QG<|QB<|QA (QD rfl)<|QA (Tu rfl hr J3)<|QA (QE rfl)<|QF<|QC<|QB<|QA (QD rfl)<|QA (QD rfl)<|QA (QD rfl)<|QA (F8 rfl kK zH (by omega))<|QH rfl (fun w F hF _=>L2 hF hn) (fun _=>QA (QD rfl)<|XQ rfl (List.Perm.refl _) (yD hg hr (fun F h=>hG F h.1) hp hl hn (Nat.lt_of_le_of_lt (Lib.bitLen_le n 62 (by omega) (by omega)) (by omega))) (fun c=>QF<|ED ?_))
 exact Y8 (c) rfl .nil (rfl) (fun w h=>h.By fun F h=>⟨h.1.1,h.2⟩)
end
end
section
open Go.RowKit Ig
theorem Gr:∀ (n:Nat) (l:List Nat),l.Nodup→(∀ j∈l,j<n)→l.length≤n
 |0,l,_,h=>by
  cases l with
  |nil=>exact Nat.le_refl _
  |cons x l=>exact absurd (h x List.mem_cons_self) (Nat.not_lt_zero _)
 |n+1,l,hn,h=>by
  have h1:=Gr n (l.erase n) (hn.erase n) fun j hj=>by
   have h2:=(hn.mem_erase_iff).1 hj
   have h3:=h j h2.2
   have h4:=h2.1
   omega
  rw [List.length_erase] at h1
  split at h1<;>omega
theorem Py {n j:Nat} {l:List Nat} (hn:l.Nodup) (h:∀ j∈l,j<n) (hj:j<n) (hjn:j∉l):(l++[j]).Nodup∧(∀ i∈l++[j],i<n)∧l.length<n:=by
 have h1:(l++[j]).Nodup:=by
  rw [List.nodup_append]
  exact⟨hn,by simp,fun a ha b hb=>by rw [List.mem_singleton.1 hb];rintro rfl;exact hjn ha⟩
 have h2:∀ i∈l++[j],i<n:=fun i hi=>by
  rcases List.mem_append.1 hi with hi | hi
  ·exact h i hi
  ·rw [List.mem_singleton.1 hi];exact hj
 have h3:=Gr n _ h1 h2
 rw [List.length_append] at h3
 exact⟨h1,h2,by simp at h3;omega⟩
theorem Tg {n:Nat} {l:List Nat} (hn:l.Nodup) (h:∀ j∈l,j<n) (ha:∀ j,j<n→j∈l):l.Perm (List.range n) :=
 (List.perm_ext_iff_of_nodup hn List.nodup_range).2 fun a=>by rw [List.mem_range];exact⟨h a,ha a⟩
theorem Bt {α:Type} [Inhabited α] (l:List α):(List.range l.length).map (el l)=l:=by
 apply List.ext_getElem?
 intro i
 by_cases h:i<l.length
 ·rw [List.getElem?_map,List.getElem?_range h,List.getElem?_eq_getElem h];simp [Zl h]
 ·rw [List.getElem?_eq_none (by simp;omega),List.getElem?_eq_none (by omega)]
def Jo (F:Gs) (s:Sr) (ts:List XZ) (p:List Tm):Prop:=JB F s.q s.n 5 (ts.flatMap Yv)∧Vo F ts∧JK ts=p∧s.n≤s.cap∧ts.length=s.n
theorem Jo.le {F F':Gs} {s:Sr} {ts:List XZ} {p:List Tm} (h:Jo F s ts p) (k:Gs.le F F'):Jo F' s ts p:=⟨h.1.le k,h.2.1.le k,h.2.2⟩
def IB (ts:List XZ):List XZ:=ts.filter fun t=>decide (t.t.1≠0)
theorem T7 (ts:List XZ) (t:XZ):IB (ts++[t])=IB ts++(if t.t.1≠0 then [t] else []):=by
 unfold IB;rw [List.filter_append];congr 1
 by_cases h:t.t.1=0
 ·simp [h]
 ·simp [h]
structure ku (ts:List XZ) where
 seen:List Nat
 v:Value
 n:Nat
 ob:List (Nat×Obj)
 hr:Q7 165 5 v n ((IB (seen.map (el ts))).flatMap Yv) ob
 nd:seen.Nodup
 lt:∀ j∈seen,j<ts.length
 hn:(IB (seen.map (el ts))).length=n
theorem II (ts:List XZ):(W5 ts).length=ts.length:=by simp [W5]
theorem qK:Fj 253:=⟨enters_of Tryz.func253 (by rfl) rfl,fun w F a b hF hA hB pa pb=>@jO ⟨True⟩ w F a b hF hA hB pa pb⟩
theorem Ba {r:Rat}:Ep r.num=0↔r=0:=by
 unfold Ep
 constructor
 ·intro h
  apply Rat.num_eq_zero.1
  split at h
  ·omega
  ·split at h<;>omega
 ·rintro rfl;rfl
theorem Oa {ts os:List XZ} {l:List Tm} {seen:List Nat} (hI:VB ts l) (hn:seen.Nodup) (hlt:∀ j∈seen,j<ts.length) (hall:∀ j,j<ts.length→j∈seen) (hp:os.Perm (IB (seen.map (el ts)))) (hs:os.Pairwise fun x y=>before y.t.2 x.t.2=false):JK os=XK l:=by
 have h1:os.Perm (IB ts):=by
  refine hp.trans ?_
  unfold IB
  refine List.Perm.filter _ ?_
  have:=(Tg hn hlt hall).map (el ts)
  rwa [Bt] at this
 have h2:(JK os).Perm ((JK ts).filter fun t=>decide (t.1≠0)):=by
  have:=h1.map XZ.t
  unfold IB at this
  have e:(ts.filter fun t=>decide (t.t.1≠0)).map XZ.t=(ts.map XZ.t).filter fun t=>decide (t.1≠0):=by
   rw [List.filter_map];rfl
  rw [e] at this;exact this
 refine hI.AL.norm h2 ?_
 have hnd:((JK os).map (·.2)).Nodup:=by
  have h3:((JK os).map (·.2)).Perm (((JK ts).filter fun t=>decide (t.1≠0)).map (·.2)):=h2.map _
  rw [h3.nodup_iff]
  exact(List.filter_sublist.map _).nodup hI.AL.nd
 unfold JK at hnd ⊢
 rw [List.pairwise_map]
 rw [List.map_map] at hnd
 have hnd2:=List.pairwise_map.1 hnd
 refine(hs.and hnd2).imp ?_
 rintro x y ⟨h1,h2⟩
 rcases KM x.t.2 y.t.2 with e | e | e
 ·exact absurd e h2
 ·exact e
 ·rw [h1] at e;cases e
theorem A6 {ts:List XZ} {seen:List Nat} (hlt:∀ j∈seen,j<ts.length) {t:XZ} (h:t∈IB (seen.map (el ts))):t∈ts:=by
 have:=(List.mem_filter.1 h).1
 obtain ⟨j,hj,e⟩:=List.mem_map.1 this
 rw [← e];exact Je (hlt j hj)
theorem Cb {ts:List XZ} {seen:List Nat} {j:Nat} {t:XZ} (e:el ts j=t) (h:t.t.1≠0):IB ((seen++[j]).map (el ts))=IB (seen.map (el ts))++[t]:=by
 rw [List.map_append,List.map_cons,List.map_nil,e,T7,if_pos h]
theorem zC {ts:List XZ} {seen:List Nat} {j:Nat} {t:XZ} (e:el ts j=t) (h:t.t.1=0):IB ((seen++[j]).map (el ts))=IB (seen.map (el ts)):=by
 rw [List.map_append,List.map_cons,List.map_nil,e,T7,if_neg (not_not_intro h),List.append_nil]
theorem SN (t:XZ):∀ v∈Yv t,v.oneCell'=true:=by
 intro v hv
 unfold Yv at hv
 simp only [List.mem_cons,List.not_mem_nil,or_false] at hv
 rcases hv with rfl | rfl | rfl | rfl | rfl<;>rfl
section
variable {w0:World} {F0:Gs} {bs:List (Nat×Obj)} {G:Gs→Prop}
theorem Gk {m:Nat} {ts:List XZ} {l:List Tm} (hI:VB ts l) (hlen:ts.length≤1000000000) (hG:∀ F,G F→Vo F ts) :
  XD Tryz.prog 211 [.map (some m)] ⟨w0,F0,(m,ZA tx (W5 ts))::bs,G⟩ (fun(c:Sr×List XZ)=>c.1.v) (fun c=>⟨w0,F0,(m,ZA tx (W5 ts))::bs,fun F=>G F∧Jo F c.1 c.2 (XK l)⟩):=by
 refine XD.intro Tryz.func211 rfl (by rfl) rfl rfl<|S9 hG<|QG<|QB<|QA (QE rfl)<|QF<|QC<|QG<|QB<|QA (QE rfl)<|QF<|QC<|QG<|QG<|QB<|QA (QD rfl)<|El rfl NV .here (fun b7=>QF<|QC<|Qa<|J0 (ι:=ku ts) [(7,_)] (fun i=>[(3,i.v)]) (fun i=>(b7,IK m (W5 ts).length i.seen)::(m,ZA tx (W5 ts))::(i.ob++bs)) (fun i F=>True) (fun i=>ts.length - i.seen.length) (⟨[],_,0,[],.nil,List.nodup_nil,(fun _ h=>by cases h),rfl⟩) ⟨rfl,trivial⟩ ⟨rfl,trivial⟩ (List.Sublist.refl _) (fun _ _=>trivial) (fun i=>?_))
 simp only [List.cons_append,List.nil_append]
 have hn0:i.n≤i.seen.length:=by rw [← i.hn];exact Nat.le_trans (List.length_filter_le _ _) (by simp)
 refine QG<|QB<|PK (kv:=W5 ts) (K:=tx) (b:=m) rfl .here (.there .here) (fun x hx=>QA (QM rfl (zD x))<|QF<|QC<|QG ?_)
 refine QQ rfl (fun hc=>?_) (fun hc=>?_)
 ·
  obtain ⟨j,rfl⟩:∃ j,x=some j:=by
   cases x with
   |none=>cases hc
   |some j=>exact⟨j,rfl⟩
  obtain ⟨hj,hjn⟩:=hx
  rw [II] at hj
  obtain ⟨hs1,hs2,hs3⟩:=Py i.nd i.lt hj hjn
  have htm:=Je hj
  have hkj:(W5 ts)[j]?=some (Yw (el ts j).t.2,Az (el ts j)):=by rw [W5,List.getElem?_map,List.getElem?_eq_getElem hj,Zl hj];rfl
  generalize hte:el ts j=t at htm hkj
  refine QP<|QC<|Qa<|QG<|QB<|QA (F7 (kv:=W5 ts) (K:=tx) (p:=(Yw t.t.2,Az t)) rfl .here (.there .here) hkj)<|QA (QM rfl rfl)<|QZ Zh (fun b5=>QS (vs:=[_,_,_,_,_]) rfl rfl rfl Ji rfl .here (.here (.here (.here (.here (.here .nil))))) ⟨rfl,rfl,rfl,rfl,rfl,trivial⟩<|QF<|QC<|QG<|QB<|QA (QI rfl YF Qg)<|QA (QJ (vs:=[_,_,_,_]) rfl Qg .here (.here (.here (.here (.here .nil)))) rfl)<|QH rfl (fun w F hF ⟨⟨hG0,hT⟩,_⟩=>Gv hF ((hT t htm).1)) (fun _=>QA (QU rfl rfl rfl)<|QF<|QC ?_))
  refine QQ rfl (fun hc=>?_) (fun hc=>?_)
  ·
   have hnz:t.t.1≠0:=fun e=>by rw [e] at hc;cases hc
   refine QB<|QA (QD rfl)<|QA (QJ (vs:=[_,_,_,_,_]) rfl Ji .here (.here (.here (.here (.here (.here .nil))))) rfl)<|QW rfl (Q8 J3) Ji Zh rfl rfl (fun b18=>ZF (bs':=(_::_::_::bs)++i.ob) (.cons _ (.cons _ (.cons _ List.perm_append_comm))) ?_)
   refine Kv (ob:=i.ob) (k:=1) (sz:=5) (news:=Yv t) rfl rfl J3 Ji Zh rfl Ff i.hr (Src.row (off:=0) (fun F ⟨⟨⟨hG0,hT⟩,_⟩,hs18⟩=>hs18) (fun j v hv=>by rw [Nat.zero_add];show((Yv t).toArray)[j]?=some v;rw [List.getElem?_toArray];exact hv) rfl) (by omega) (by omega) (SN t) (fun v19 ob19 hr19=>?_)
   refine ZF (bs':=_::_::_::(ob19++bs)) (.cons _ (.cons _ (.cons _ List.perm_append_comm)))<|QA (QE rfl)<|QF<|Ql ?_
   exact Qo (⟨i.seen++[j],v19,i.n+1,ob19,by rw [Cb hte hnz,List.flatMap_append];simpa using hr19,hs1,hs2,by rw [Cb hte hnz,List.length_append,i.hn];rfl⟩) (by show _ - (i.seen++[j]).length<_;rw [List.length_append];simp only [List.length_singleton];omega) ⟨rfl,rfl,trivial⟩ (.cons _ (List.Sublist.refl _)) (fun F h=>⟨h.1.1.1,trivial⟩)
  ·
   have hz:t.t.1=0:=Ba.1 (by simpa using hc)
   refine QP<|Ql ?_
   exact Qo (⟨i.seen++[j],i.v,i.n,i.ob,by rw [zC hte hz];exact i.hr,hs1,hs2,by rw [zC hte hz];exact i.hn⟩) (by show _ - (i.seen++[j]).length<_;rw [List.length_append];simp only [List.length_singleton];omega) ⟨rfl,rfl,trivial⟩ (.cons _ (List.Sublist.refl _)) (fun F h=>⟨h.1.1,trivial⟩)
 ·
  obtain rfl:x=none:=by
   cases x with
   |none=>rfl
   |some j=>cases hc
  rw [show vv (W5 ts).length i.seen none=∀ j,j<(W5 ts).length→j∈i.seen from rfl,II] at hx
  refine Q5 ?_
  repeat (first | refine Qc ?_ | refine QX (by rfl) ?_)
  refine Qd<|QC<|QG<|QB<|QA (QD rfl)<|XQ rfl (List.perm_middle.trans (.cons _ List.perm_middle)).symm (Oe qK i.hr (fun F ⟨⟨hG0,hT⟩,_⟩ t ht=>hT t (A6 i.lt ht)) (fun t ht=>hI.pw t (A6 i.lt ht)) i.hn (by have:=Gr _ _ i.nd i.lt;omega)) (fun c=>JJ _ (fun w F hF h=>h.2) (fun hso=>?_))
  obtain ⟨r,hv,hrn,hrc,hfix⟩:=Q7.fix (w0:=w0) (F0:=F0) (bs1:=(b7,IK m (W5 ts).length (kW i.seen none))::(m,ZA tx (W5 ts))::bs) (G:=_) hso.1
  refine ZF List.perm_append_comm<|D9 hfix ?_
  rw [hv]
  refine QF<|QC<|QG<|QB<|QA (QD rfl)<|QA (QE rfl)<|QF<|QC<|QR ?_
  exact Y8 (⟨r,c.1⟩) rfl (.tmp rfl .nil) (rfl) (fun w h=>St.imp h (.cons _ (List.Sublist.refl _)) (fun F ⟨⟨⟨⟨hG0,hT⟩,_⟩,_⟩,hrow⟩=>⟨hG0,by rw [hrn];exact hrow,fun t ht=>hT t (A6 i.lt (hso.2.1.mem_iff.1 ht)),Oa hI i.nd i.lt hx hso.2.1 hso.2.2,by rw [hrn];exact hrc,hso.2.1.length_eq.trans (i.hn.trans hrn.symm)⟩))
end
end
section
open Go.RowKit Ig
section
variable [Dr] [df:Df] {P:Program} {N:Nat} {m:Sl} {w0:World} {F0:Gs} {bs:List (Nat×Obj)} {G:Gs→Prop}
theorem jF {T yT ty e:TypeId} {x y:Operand} {q:Option Addr} {n c:Nat} {Y:World→Prop} (hx:ev m x=some (.slice q n c)) (hy:ev m y=some (.slice none 0 0)) (hT:BH P T=some e):Qt P N m Y (.binOp .eql T x y yT) ty (.bool q.isNone):=fun a w _ _ _ _ ha _=>by
 have:=Lib.run_eql_slice_nil (P:=P) w T e q n c 0 0 (Q8 hT)
 simp [execOp,ha.ev hx,ha.ev hy,eqGuard,this]
theorem Src.vr {sz k c:Nat} {a:Addr} {news:List Value} (hr:∀ F,G F→JB F (some a) k sz news) (hl:news.length=k*sz):Src ⟨w0,F0,bs,G⟩ sz (.slice (some a) k c) k news:=by
 refine⟨hl,.inr ⟨a,c,rfl,fun w hw j v hv=>?_⟩⟩
 have hk:0<k:=by
  rcases Nat.eq_zero_or_pos k with h | h
  ·rw [h,Nat.zero_mul] at hl;rw [List.length_eq_zero_iff.1 hl] at hv;simp at hv
  ·exact h
 obtain ⟨F,h⟩:=id hw
 obtain ⟨b,off,_,_,e,_,_⟩:=(hr F h.hG).2 hk
 cases e
 rw [Vg];exact K6 hw hr hk hv
theorem CX {F:Gs} {n c:Nat} {l:List Int} (h:JP F ⟨none,n,c⟩ l):Q7 3 1 (.slice none 0 0) n (l.map Q3) []:=by
 obtain ⟨⟨_,h1⟩,h2,_⟩:=h
 have h0:n=0:=by
  rcases Nat.eq_zero_or_pos n with h | h
  ·exact h
  ·obtain ⟨_,_,_,_,e,_⟩:=h1 h;cases e
 subst h0
 rw [List.length_eq_zero_iff.1 h2];exact .nil
theorem j3 (l:List Int):∀ v∈l.map Q3,v.oneCell'=true:=by
 intro v hv
 obtain ⟨x,_,rfl⟩:=List.mem_map.1 hv
 rfl
end
section
variable {w0:World} {F0:Gs} {bs:List (Nat×Obj)} {G:Gs→Prop}
theorem S0 {r:Sr} {l:List Int} (hG:∀ F,G F→JP F r l) (hn:l.length=r.n) (hl:l.length≤1000000000) :
  XD Tryz.prog 133 [r.v] ⟨w0,F0,bs,G⟩ (fun(c:Value×List (Nat×Obj))=>c.1) (fun c=>⟨w0,F0,bs++c.2,fun F=>G F∧Q7 3 1 c.1 r.n (l.map Q3) c.2⟩):=by
 obtain ⟨q,n,c⟩:=r
 dsimp only [Sr.v] at hn ⊢
 refine XD.intro Tryz.func133 rfl (by rfl) rfl rfl<|S9 hG<|QG<|QB<|QA (QE rfl)<|QF<|QC<|QG<|QG<|QB<|QA (QD rfl)<|QA (jF rfl rfl Qe)<|QF<|QC ?_
 refine QQ rfl (fun hc=>?_) (fun hc=>?_)
 ·
  obtain rfl:q=none:=by
   cases q with
   |none=>rfl
   |some a=>cases hc
  refine QG<|QB<|QA (QE rfl)<|QF<|QC<|QR ?_
  exact Y8 (⟨.slice none 0 0,[]⟩) rfl (.tmp rfl .nil) (rfl) (fun w h=>St.imp h (by simp) (fun F ⟨hG0,hR⟩=>⟨hG0,CX hR⟩))
 ·
  obtain ⟨a,rfl⟩:∃ a,q=some a:=by
   cases q with
   |none=>cases hc
   |some a=>exact⟨a,rfl⟩
  refine QP<|QC<|QG<|QB<|Gb (Q8 Qe) Qp (fun b5=>QA (QD rfl)<|ZF (bs':=bs++[(b5,.cells ([]++[]:List Value).toArray 3 (0,0))]) (List.perm_append_comm (l₁:=[_]))<|Kv (ob:=[(b5,.cells ([]++[]:List Value).toArray 3 (0,0))]) (n:=0) (k:=n) (sz:=1) (news:=l.map Q3) rfl rfl Qe Qp VE rfl DM (.some rfl rfl (Nat.le_refl _) (by decide)) (Src.vr (fun F hG=>hG.2.1) (by simp [hn])) (by omega) (by omega) (j3 l) (fun v7 ob7 hr7=>?_))
  rw [Nat.zero_add,List.nil_append] at hr7
  refine QA (QE rfl)<|QF<|QC<|QR ?_
  exact Y8 (⟨v7,ob7⟩) rfl (.tmp rfl .nil) (rfl) (fun w h=>St.imp h (List.Sublist.refl _) (fun F ⟨hG0,hR⟩=>⟨hG0,hr7⟩))
end
end
section
open Go.RowKit Ig
structure Ge where
 f:List UInt8
 r:Sr
 k:List Int
instance :Inhabited Ge:=⟨⟨[],⟨none,0,0⟩,[]⟩⟩
def Wu (t:Ge):List Value:=[tx t.f,.slice t.r.q t.r.n t.r.cap]
theorem V0 (t:Ge):(Wu t).length=2:=rfl
def Yy (F:Gs) (ts:List Ge):Prop:=∀ t∈ts,JP F t.r t.k
theorem Yy.le {F F':Gs} {ts:List Ge} (h:Yy F ts) (k:Gs.le F F'):Yy F' ts:=fun t ht=>(h t ht).le k
def qg (t:Ge):Tm:=(JM t.f,t.k)
structure kq (ps:List Ge) where
 i:Nat
 ts:List XZ
 le:i≤ps.length
 hI:VB ts ((ps.take i).map qg)
theorem OW (l:List Tm) (i:Nat):Zm (l.take i)≤Zm l:=by
 have:=Xl (l.take i) (l.drop i)
 rw [List.take_append_drop] at this;omega
theorem BP {l:List Tm} {t:Tm} (h:t∈l):JQ t.1≤Zm l:=by
 induction l with
 |nil=>cases h
 |cons x l ih =>
  have e:Zm (x::l)=JQ x.1+1+Zm l:=by unfold Zm;rw [List.map_cons,List.sum_cons]
  rcases List.mem_cons.1 h with rfl | h
  ·omega
  ·have:=ih h;omega
section
variable {P:Program} {w:World} {F:Gs} {f:FuncId} {args:List Value} {γ:Type} {val:γ→Value} {fact:γ→Gs→Prop}
theorem XD.dj [Dr] {G0:Gs→Prop} {E':γ→Env} (h:XD P f args ⟨w,F,[],G0⟩ val E') (hF:Fits F w) (hg:∀ F',Gs.le F F'→G0 F') (he:∀ c w',St (E' c) w'→St ⟨w,F,[],fun F=>fact c F⟩ w'):QT P f args w F val fact:=by
 refine⟨h.1,(h.2 w (St.start hF hg)).mono ?_⟩
 rintro e w' ⟨c,rfl,hw⟩
 obtain ⟨F',h'⟩:=he c w' hw
 exact⟨c,F',rfl,h'.ext,h'.le,h'.old,h'.fits,h'.g⟩
theorem Sz {r:Sr} {l:List Int} (hF:Fits F w) (hR:JP F r l) (hl:l.length≤1000000000):QT Tryz.prog 133 [r.v] w F (fun(c:Sr)=>c.v) (fun c F=>JP F c l):=by
 have h:=S0 (w0:=w) (F0:=F) (bs:=[]) (G:=fun F'=>Gs.le F F') (r:=r) (l:=l) (fun F' h=>hR.le h) hR.2.1 hl
 refine⟨h.1,(h.2 w (St.start hF fun _ h=>h)).mono ?_⟩
 rintro e w' ⟨⟨v,ob⟩,rfl,hw⟩
 obtain ⟨F1,h1⟩:=id hw
 have ho:=(h1.hG).2
 dsimp only at ho hw
 obtain ⟨s,hv,hsn,hsc,hfix⟩:=Q7.fix (w0:=w) (F0:=F) (bs1:=[]) ho
 obtain ⟨F',h'⟩:=hfix w' hw
 exact⟨s,F',by rw [hv],h'.ext,h'.le,h'.old,h'.fits,fun F'' hle=>⟨by rw [hsn];exact(h'.g F'' hle).2,by rw [hsn];exact hR.2.1,by rw [hsn];exact hsc⟩⟩
end
section
theorem jL {w:World} {F:Gs} {r:Sr} {ps:List Ge} (hF:Fits F w) (hGl:JF F) (hR:JB F r.q r.n 2 (ps.flatMap Wu)) (hP:Yy F ps) (hn:ps.length=r.n) (hl:ps.length≤100000) (hv:∀ t∈ps,Jg t.f=0∧t.f.length≤1000000∧PW t.k) (hz:Zm (ps.map qg)≤40000000) :
  QT Tryz.prog 130 [r.v] w F (fun(c:Sr×List XZ)=>c.1.v) (fun c F=>Jo F c.1 c.2 (XK (ps.map qg))):=by
 obtain ⟨q,n,cap⟩:=r
 dsimp only [Sr.v] at hn hR ⊢
 refine QT.intro (G:=fun F=>JF F∧JB F q n 2 (ps.flatMap Wu)∧Yy F ps) Tryz.func130 rfl (by rfl) rfl rfl hF (fun F' hF'=>⟨hGl.le hF',hR.le hF',hP.le hF'⟩)<|QG<|QB<|QA (QE rfl)<|QF<|QC<|QG<|QB<|Vj tx (fun m=>QA (QE rfl)<|QF<|QC<|QG<|QG<|QB<|QA (QD rfl)<|QA (Qn rfl Zs)<|QA (QD rfl)<|QF<|QC<|Qa<|J0 (ι:=kq ps) [(3,_),(7,_),(8,_)] (fun i=>[(9,.int .i64 ((i.i:Nat):Int))]) (fun i=>[(m,ZA tx (W5 i.ts))]) (fun i F=>Vo F i.ts) (fun i=>ps.length - i.i) (⟨0,[],Nat.zero_le _,VB.nil⟩) ⟨rfl,rfl,rfl,trivial⟩ ⟨rfl,trivial⟩ (List.Sublist.refl _) (fun _ _ _ h=>by cases h) (fun i=>?_))
 simp only [List.cons_append,List.nil_append]
 have hi:=i.le
 refine QG<|QB<|QA (QU rfl rfl rfl)<|QF<|QC<|QG ?_
 refine QQ rfl (fun hc=>?_) (fun hc=>?_)
 ·
  have hlt:i.i<ps.length:=by have:=of_decide_eq_true hc;omega
  have hv1:=hv _ (Je hlt)
  have hz1:=OW (ps.map qg) i.i
  rw [← List.map_take] at hz1
  have hz2:JQ (qg (el ps i.i)).1≤Zm (ps.map qg):=BP (List.mem_map_of_mem (Je hlt))
  dsimp only [qg] at hz2
  have hl1:=hv1.2.2.2
  refine QP<|QC<|QG<|Qa<|QG<|QB<|QA (JY (n:=n) (i.i) (fun F ⟨⟨hGl,hR,hP⟩,hT⟩=>hR) rfl rfl Zs X4 (by omega))<|QA (X9 (n:=n) (vs:=[tx (el ps (i.i)).f,.slice (el ps (i.i)).r.q (el ps (i.i)).r.n (el ps (i.i)).r.cap]) ((i.i)*2) (fun F ⟨⟨hGl,hR,hP⟩,hT⟩=>hR) (by omega) rfl X4 rfl (fun j v hv=>XW (f:=Wu) (l:=ps) V0 (by omega) hv))<|QZ Xp (fun b5=>QS (vs:=[_,_]) rfl rfl rfl X4 rfl .here (.here (.here .nil)) ⟨rfl,rfl,trivial⟩<|QF<|QC<|JG (.cons_cons _ (.cons _ .slnil)) mixed (by kernel_rfl)<|QK (QD rfl)<|QK (QI rfl B7 JC)<|QK (Qi rfl JC .here (.here .nil))<|QY rfl (fun w F hF ⟨⟨hGl,hR,hP⟩,hT⟩=>H9 hF hGl ((Xs (hv _ (Je hlt)).1).1) (by have:=(hv _ (Je hlt)).2.1;omega)) (fun x16=>QK (QI rfl Wm Qs)<|QK (Qi rfl Qs .here (.skip (.here .nil)))<|QY rfl (fun w F hF ⟨⟨⟨hGl,hR,hP⟩,hT⟩,_⟩=>Sz hF (r:=(el ps i.i).r) (hP _ (Je hlt)) (by omega)) (fun c19=>AK rfl (List.Perm.swap _ _ _) (BU (r:=c19) (x:=x16) i.hI hv1.2.2 (by omega) (by omega) (fun F ⟨⟨⟨⟨hGl,hR,hP⟩,hT⟩,h16⟩,B1⟩=>⟨hGl,hT,h16,B1⟩)) (fun n w h=>St.imp h (.cons _ (List.Sublist.refl _)) (fun F h=>h.1.1.1)) (fun n20=>G7 _ (fun w F hF h=>h.2.2) (fun h20=>?_)))))
  have hI2:VB (addN i.ts n20) ((ps.take (i.i+1)).map qg):=by
   have:=i.hI.add hv1.2.2 h20
   rw [ZJ hlt,List.map_append];exact this
  refine Q2<|Ql<|QC<|QB<|QA (Qu rfl rfl (by omega))<|QA (QD rfl)<|QF ?_
  exact Qo (⟨i.i+1,addN i.ts n20,hlt,hI2⟩) (by show ps.length - (i.i+1)<ps.length - i.i;omega) ⟨rfl,rfl,rfl,rfl,trivial⟩ (.cons_cons _ (.cons _ .slnil)) (fun F h=>⟨h.1.1.1.1,h.2.1⟩)
 ·
  have hge:i.i=ps.length:=by have:=of_decide_eq_false hc;omega
  refine Q5 ?_
  repeat (first | refine Qc ?_ | refine QX (by rfl) ?_)
  refine Qd<|QC<|QG<|QB<|QA (QD rfl) ?_
  have hI:=i.hI
  rw [hge,List.take_length] at hI
  refine XQ rfl (List.Perm.refl _) (Gk hI (by have:=hI.ln;rw [List.length_map] at this;omega) (fun F h=>h.2)) (fun c23=>QA (QE rfl)<|QF<|QC<|QR ?_)
  exact QN (c23) rfl (.tmp rfl .nil) (rfl) (fun F h=>h.2)
end
end
section
open Go.RowKit Ig
abbrev W8:=Sr×List XZ
instance :Inhabited W8:=⟨(⟨none,0,0⟩,[])⟩
def AB (F:Gs) (ls:List W8):Prop:=∀ e∈ls,Jo F e.1 e.2 (JK e.2)
theorem AB.le {F F':Gs} {ls:List W8} (h:AB F ls) (k:Gs.le F F'):AB F' ls:=fun e he=>(h e he).le k
def DP (ls:List W8):List Tm:=ls.flatMap fun e=>JK e.2
structure gr (ls:List W8) where
 i:Nat
 ts:List XZ
 le:i≤ls.length
 hI:VB ts (DP (ls.take i))
structure DY (l0:List Tm) (te:List XZ) where
 j:Nat
 ts:List XZ
 le:j≤te.length
 hI:VB ts (l0++JK (te.take j))
theorem Xw {te:List XZ} {j:Nat} (h:j<te.length):JK (te.take (j+1))=JK (te.take j)++[(el te j).t]:=by unfold JK;rw [ZJ h,List.map_append];rfl
theorem qt {a b c:List Tm} (e:a++b=c):Zm a≤Zm c:=by rw [← e,Xl];omega
theorem L5 {ls:List W8} {i:Nat} (h:i<ls.length):DP (ls.take (i+1))=DP (ls.take i)++JK (el ls i).2:=by unfold DP;rw [ZJ h,List.flatMap_append];simp
theorem xV {ls:List W8} {i j:Nat} (h:i<ls.length):Zm (DP (ls.take i)++JK ((el ls i).2.take j))≤Zm (DP ls):=by
 have e1:DP ls=DP (ls.take i)++(JK (el ls i).2++DP (ls.drop (i+1))):=by
  have:ls=ls.take i++el ls i::ls.drop (i+1):=by rw [← ML h,List.take_append_drop]
  unfold DP
  conv=>lhs;rw [this]
  rw [List.flatMap_append,List.flatMap_cons]
 have e2:JK (el ls i).2=JK ((el ls i).2.take j)++JK ((el ls i).2.drop j):=by unfold JK;rw [← List.map_append,List.take_append_drop]
 have h1:=congrArg Zm e1
 have h2:=congrArg Zm e2
 rw [Xl,Xl] at h1
 rw [Xl] at h2
 rw [Xl];omega
theorem yG {w:World} {F:Gs} {p q:W8} (hF:Fits F w) (hGl:JF F) (hP:Jo F p.1 p.2 (JK p.2)) (hQ:Jo F q.1 q.2 (JK q.2)) (hp:(∀ t∈p.2,PW t.t.2)∧∀ t∈q.2,PW t.t.2) (hl:p.2.length≤400000000∧q.2.length≤400000000) (hz:Zm (JK p.2++JK q.2)≤40000000) :
  QT Tryz.prog 139 [p.1.v,q.1.v] w F (fun(c:W8)=>c.1.v) (fun c F=>Jo F c.1 c.2 (XK (JK p.2++JK q.2))):=by
 have hpw:∀ e∈[p,q],(∀ t∈e.2,PW t.t.2)∧e.2.length≤400000000∧e.2.length=e.1.n:=by
  intro e he
  simp only [List.mem_cons,List.not_mem_nil,or_false] at he
  rcases he with rfl | rfl
  ·exact⟨hp.1,hl.1,hP.2.2.2.2⟩
  ·exact⟨hp.2,hl.2,hQ.2.2.2.2⟩
 have hall:DP [p,q]=JK p.2++JK q.2:=by simp [DP]
 rw [← hall] at hz ⊢
 dsimp only [Sr.v]
 refine QT.intro (G:=fun F=>JF F∧AB F [p,q]) Tryz.func139 rfl (by rfl) rfl rfl hF (fun F' hF'=>⟨hGl.le hF',AB.le (by intro e he;simp only [List.mem_cons,List.not_mem_nil,or_false] at he;rcases he with rfl | rfl;exact hP;exact hQ) hF'⟩)<|QG<|QB<|QA (QE rfl)<|QF<|QC<|QG<|QB<|Vj tx (fun m=>QA (QE rfl)<|QF<|QC<|QG<|QG<|QB<|QA (QD rfl)<|QA (QD rfl)<|QW rfl (Q8 De) WS OK rfl rfl (fun b13=>QA (Qn rfl De)<|QA (QD rfl)<|QF<|QC<|Qa<|J0 (ι:=gr [p,q]) [(5,_),(13,_),(14,_)] (fun i=>[(15,.int .i64 ((i.i:Nat):Int))]) (fun i=>[(m,ZA tx (W5 i.ts))]) (fun i F=>Vo F i.ts) (fun i=>2 - i.i) (⟨0,[],Nat.zero_le _,VB.nil⟩) ⟨rfl,rfl,rfl,trivial⟩ ⟨rfl,trivial⟩ (List.Sublist.refl _) (fun _ _ _ h=>by cases h) (fun i=>?_)))
 simp only [List.cons_append,List.nil_append]
 have hi:=i.le
 simp only [List.length_cons,List.length_nil] at hi
 refine QG<|QB<|QA (QU rfl rfl rfl)<|QF<|QC<|QG ?_
 refine QQ rfl (fun hc=>?_) (fun hc=>?_)
 ·
  have hlt:i.i<[p,q].length:=by have:=of_decide_eq_true hc;simp only [List.length_cons,List.length_nil];omega
  have hem:=Je hlt
  have hpe:=hpw _ hem
  have hln:=hpe.2.2
  have hln2:=hpe.2.1
  refine QP<|QC<|QG<|Qa<|QG<|QB<|QA (JY (n:=2) (i.i) (fun F ⟨⟨⟨hGl,hL⟩,hs13⟩,hT⟩=>JB.of (n:=2) (sz:=1) (cs:=[p,q].map fun e=>e.1.v) hs13 rfl) rfl rfl De WS (by simpa using hlt))<|QA (Jf (n:=2) (i.i*1) (fun F ⟨⟨⟨hGl,hL⟩,hs13⟩,hT⟩=>JB.of (n:=2) (sz:=1) (cs:=[p,q].map fun e=>e.1.v) hs13 rfl) (by decide) rfl WS (Dt (f:=fun e:W8=>e.1.v) (l:=[p,q]) hlt))<|QA (QE rfl)<|QF<|QC<|QG<|QB<|QA (QD rfl)<|QA (Qn rfl J3)<|QA (QD rfl)<|QF<|QC<|Qa<|J0 (ι:=DY (DP ([p,q].take i.i)) (el [p,q] i.i).2) [(5,_),(13,_),(14,_),(15,_),(19,_),(20,_)] (fun i2=>[(21,.int .i64 ((i2.j:Nat):Int))]) (fun i2=>[(m,ZA tx (W5 i2.ts))]) (fun i2 F=>Vo F i2.ts) (fun i2=>(el [p,q] i.i).2.length - i2.j) (⟨0,i.ts,Nat.zero_le _,by simpa [JK] using i.hI⟩) ⟨rfl,rfl,rfl,rfl,rfl,rfl,trivial⟩ ⟨rfl,trivial⟩ (List.Sublist.refl _) (fun _ h=>h.2) (fun i2=>?_)
  simp only [List.cons_append,List.nil_append]
  have hj:=i2.le
  refine QG<|QB<|QA (QU rfl rfl rfl)<|QF<|QC<|QG ?_
  refine QQ rfl (fun hc=>?_) (fun hc=>?_)
  ·
   have hlt2:i2.j<(el [p,q] i.i).2.length:=by have:=of_decide_eq_true hc;omega
   have htm:=Je hlt2
   have hz1:=xV (j:=i2.j) hlt
   have hz2:JQ (el (el [p,q] i.i).2 i2.j).t.1≤Zm (DP [p,q]):=BP (List.mem_flatMap.2 ⟨_,hem,List.mem_map_of_mem htm⟩)
   refine QP<|QC<|QG<|Qa<|QG<|QB<|QA (JY (n:=(el [p,q] i.i).1.n) (i2.j) (fun F ⟨⟨⟨⟨hGl,hL⟩,hs13⟩,hT⟩,hT2⟩=>(hL _ hem).1) rfl rfl J3 Ji (by omega))<|QA (X9 (n:=(el [p,q] i.i).1.n) (vs:=[.int .i64 (el (el [p,q] i.i).2 (i2.j)).x.n.s,.slice (el (el [p,q] i.i).2 (i2.j)).x.n.q (el (el [p,q] i.i).2 (i2.j)).x.n.n (el (el [p,q] i.i).2 (i2.j)).x.n.cap,.int .i64 (el (el [p,q] i.i).2 (i2.j)).x.d.s,.slice (el (el [p,q] i.i).2 (i2.j)).x.d.q (el (el [p,q] i.i).2 (i2.j)).x.d.n (el (el [p,q] i.i).2 (i2.j)).x.d.cap,.slice (el (el [p,q] i.i).2 (i2.j)).r.q (el (el [p,q] i.i).2 (i2.j)).r.n (el (el [p,q] i.i).2 (i2.j)).r.cap]) ((i2.j)*5) (fun F ⟨⟨⟨⟨hGl,hL⟩,hs13⟩,hT⟩,hT2⟩=>(hL _ hem).1) (by omega) rfl Ji rfl (fun j v hv=>XW (f:=Yv) (l:=(el [p,q] i.i).2) Yb (by omega) hv))<|QZ Zh (fun b9=>QS (vs:=[_,_,_,_,_]) rfl rfl rfl Ji rfl .here (.here (.here (.here (.here (.here .nil))))) ⟨rfl,rfl,rfl,rfl,rfl,trivial⟩<|QF<|QC<|QB<|QA (QD rfl)<|QA (QI rfl YF Qg)<|QA (QJ (vs:=[_,_,_,_]) rfl Qg .here (.here (.here (.here (.here .nil)))) rfl)<|QA (QI rfl ZB Qs)<|QA (Qi rfl Qs .here (.skip (.skip (.skip (.skip (.here .nil))))))<|XQ rfl (List.Perm.swap _ _ _) (BU (r:=(el (el [p,q] i.i).2 i2.j).r) (x:=(el (el [p,q] i.i).2 i2.j).x) i2.hI (hpe.1 _ htm) (by omega) (by omega) (fun F ⟨⟨⟨⟨hGl,hL⟩,hs13⟩,hT⟩,hT2⟩=>⟨hGl,hT2,((hL _ hem).2.1 _ htm).1,((hL _ hem).2.1 _ htm).2⟩)) (fun n30=>JJ _ (fun w F hF h=>h.2.2) (fun h30=>QF<|Ql<|QC<|QB<|QA (Qu rfl rfl (by omega)) ?_)))
   refine QA (QD rfl)<|QF ?_
   exact Qo (⟨i2.j+1,addN i2.ts n30,hlt2,by rw [Xw hlt2,← List.append_assoc];exact i2.hI.add (hpe.1 _ htm) h30⟩) (by show _ - (i2.j+1)<_ - i2.j;omega) ⟨rfl,rfl,rfl,rfl,rfl,rfl,rfl,trivial⟩ (.cons_cons _ (.cons _ .slnil)) (fun F h=>⟨h.1.1,h.2.1⟩)
  ·
   have hge2:i2.j=(el [p,q] i.i).2.length:=by have:=of_decide_eq_false hc;omega
   refine Q5 ?_
   repeat (first | refine Qc ?_ | refine QX (by rfl) ?_)
   refine Qd<|Ql<|QC<|QB<|QA (Qu rfl rfl (by omega))<|QA (QD rfl)<|QF ?_
   exact Qo (⟨i.i+1,i2.ts,hlt,by rw [L5 hlt];have:=i2.hI;rw [hge2,List.take_length] at this;exact this⟩) (by show 2 - (i.i+1)<2 - i.i;simp only [List.length_cons,List.length_nil] at hlt;omega) ⟨rfl,rfl,rfl,rfl,trivial⟩ (List.Sublist.refl _) (fun F h=>⟨h.1.1,h.2⟩)
 ·
  have hge:i.i=[p,q].length:=by have:=of_decide_eq_false hc;simp only [List.length_cons,List.length_nil];omega
  refine Q5 ?_
  repeat (first | refine Qc ?_ | refine QX (by rfl) ?_)
  refine Qd<|QC<|QG<|QB<|QA (QD rfl) ?_
  have hI:=i.hI
  rw [hge,List.take_length] at hI
  refine XQ rfl (List.Perm.refl _) (Gk hI (by have:=hI.ln;rw [hall,List.length_append] at this;simp only [JK,List.length_map] at this;omega) (fun F h=>h.2)) (fun c34=>QA (QE rfl)<|QF<|QC<|QR ?_)
  exact QN (c34) rfl (.tmp rfl .nil) (rfl) (fun F h=>h.2)
end
section
open Go.RowKit Ig
section
variable {P:Program} {Q:Exit→Act→World→Prop} {N:Nat} {m:Sl} {E0:Env} {ops:Array Oper} {l:List Oper} {w0:World} {F0:Gs} {bs:List (Nat×Obj)} {G:Gs→Prop}
theorem Ml [Dr] {bs':List (Nat×Obj)} (hp:bs.Perm bs') (k:JD P ops Q E0 l N m ⟨w0,F0,bs',G⟩):JD P ops Q E0 l N m ⟨w0,F0,bs,G⟩:=fun hE a w ha hw=>k (fun w h=>hE w (h.perm hp.symm)) a w ha (hw.perm hp)
end
def WU (a:Rat) (l:List Tm):List Tm:=if a=0 then [] else l.map fun t=>(t.1*a,t.2)
structure gR (a:Rat) (ts:List XZ) where
 i:Nat
 v:Value
 ob:List (Nat×Obj)
 out:List XZ
 le:i≤ts.length
 hr:Q7 165 5 v i (out.flatMap Yv) ob
 ho:JK out=(JK (ts.take i)).map fun t=>(t.1*a,t.2)
theorem jW {a:Rat} {ts out:List XZ} {i:Nat} (hi:i≤ts.length) (h:JK out=(JK (ts.take i)).map fun t=>(t.1*a,t.2)):out.length=i:=by
 have:=congrArg List.length h
 simp only [JK,List.length_map,List.length_take] at this
 omega
theorem CC {w:World} {F:Gs} {p:W8} {x:Fr} {a:Rat} (hF:Fits F w) (hP:Jo F p.1 p.2 (JK p.2)) (hA:Jc F x a) (hl:p.2.length≤1000000) (ha:JQ a≤40000000) (hz:Zm (JK p.2)≤40000000) :
  QT Tryz.prog 183 [p.1.v,x.v] w F (fun(c:W8)=>c.1.v) (fun c F=>Jo F c.1 c.2 (WU a (JK p.2))):=by
 obtain ⟨⟨q,n,cap⟩,ts⟩:=p
 have hln:ts.length=n:=hP.2.2.2.2
 dsimp only [Sr.v,Fr.v] at hP hl hz ⊢
 refine QT.intro (G:=fun F=>Jo F ⟨q,n,cap⟩ ts (JK ts)∧Jc F x a) Tryz.func183 rfl (by rfl) rfl rfl hF (fun F' hF'=>⟨hP.le hF',hA.le hF'⟩)<|QG<|QB<|Qz rfl (vs:=[_,_,_,_]) rfl (fun b3=>QA (QE rfl)<|QF<|QC<|QG<|QG<|QB<|QA (QJ (vs:=[_,_,_,_]) rfl Qg .here (.here (.here (.here (.here .nil)))) rfl)<|QH rfl (fun w F hF ⟨hP,⟨hxn,hxd⟩⟩=>Gv hF ⟨by assumption,by assumption⟩) (fun _=>QA (QU rfl rfl rfl)<|QF<|QC ?_))
 refine QQ rfl (fun hc=>?_) (fun hc=>?_)
 ·
  have ha0:a=0:=Ba.1 (by simpa using hc)
  refine QG<|QB<|QA (QE rfl)<|QF<|QC<|QR ?_
  exact QN ((⟨none,0,0⟩,[])) rfl (.tmp rfl .nil) (rfl) (fun F ⟨⟨hP,⟨hxn,hxd⟩⟩,_⟩=>⟨JB.nil F none 5,(fun _ h=>by cases h),by unfold WU;rw [if_pos ha0];rfl,Nat.le_refl _,rfl⟩)
 ·
  have ha0:a≠0:=fun e=>by rw [e] at hc;cases hc
  refine QP<|QC<|QG<|QB<|QA (QE rfl)<|QF<|QC<|QG<|QG<|QB<|QA (QD rfl)<|QA (Qn rfl J3)<|QA (QD rfl)<|QF<|QC<|Qa<|J0 (ι:=gR a ts) [(3,_),(11,_),(12,_)] (fun i=>[(5,i.v),(13,.int .i64 ((i.i:Nat):Int))]) (fun i=>(b3,.cells [.int .i64 x.n.s,.slice x.n.q x.n.n x.n.cap,.int .i64 x.d.s,.slice x.d.q x.d.n x.d.cap].toArray 130 (0,0))::i.ob) (fun i F=>Vo F i.out) (fun i=>ts.length - i.i) (⟨0,_,[],[],Nat.zero_le _,.nil,by simp [JK]⟩) ⟨rfl,rfl,rfl,trivial⟩ ⟨rfl,rfl,trivial⟩ (List.Sublist.refl _) (fun _ _ _ h=>by cases h) (fun i=>?_)
  simp only [List.cons_append,List.nil_append]
  have hi:=i.le
  refine QG<|QB<|QA (QU rfl rfl rfl)<|QF<|QC<|QG ?_
  refine QQ rfl (fun hc=>?_) (fun hc=>?_)
  ·
   have hlt:i.i<ts.length:=by have:=of_decide_eq_true hc;omega
   have htm:=Je hlt
   have hz2:JQ (el ts i.i).t.1≤Zm (JK ts):=BP (List.mem_map_of_mem htm)
   refine QP<|QC<|QG<|Qa<|QG<|QB<|QA (JY (n:=n) (i.i) (fun F ⟨⟨⟨hP,⟨hxn,hxd⟩⟩,_⟩,hT⟩=>(hP).1) rfl rfl J3 Ji (by omega))<|QA (X9 (n:=n) (vs:=[.int .i64 (el ts (i.i)).x.n.s,.slice (el ts (i.i)).x.n.q (el ts (i.i)).x.n.n (el ts (i.i)).x.n.cap,.int .i64 (el ts (i.i)).x.d.s,.slice (el ts (i.i)).x.d.q (el ts (i.i)).x.d.n (el ts (i.i)).x.d.cap,.slice (el ts (i.i)).r.q (el ts (i.i)).r.n (el ts (i.i)).r.cap]) ((i.i)*5) (fun F ⟨⟨⟨hP,⟨hxn,hxd⟩⟩,_⟩,hT⟩=>(hP).1) (by omega) rfl Ji rfl (fun j v hv=>XW (f:=Yv) (l:=ts) Yb (by omega) hv))<|QZ Zh (fun b7=>QS (vs:=[_,_,_,_,_]) rfl rfl rfl Ji rfl .here (.here (.here (.here (.here (.here .nil))))) ⟨rfl,rfl,rfl,rfl,rfl,trivial⟩<|QF<|QC<|JG (.cons_cons _ (.cons_cons _ (List.nil_sublist _))) mixed (by kernel_rfl)<|QK (QD rfl)<|QK (QI rfl YF Qg)<|QK (QJ (vs:=[_,_,_,_]) rfl Qg .here (.here (.here (.here (.here .nil)))) rfl)<|QK (QJ (vs:=[_,_,_,_]) rfl Qg (.there .here) (.here (.here (.here (.here .nil)))) rfl)<|QY rfl (fun w F hF ⟨⟨⟨hP,⟨hxn,hxd⟩⟩,_⟩,hT⟩=>Km hF (hP.2.1 _ htm |>.1) ⟨by assumption,by assumption⟩ (by omega) (by omega)) (fun x21=>QK (QI rfl ZB Qs)<|QK (Qi rfl Qs .here (.skip (.skip (.skip (.skip (.here .nil))))))<|QK (Q4 rfl NM Zh (.cons (vs:=[_,_,_,_]) rfl rfl rfl (.here (.here (.here (.here .nil)))) (.cons (vs:=[_]) rfl rfl rfl (.skip (.skip (.skip (.skip (.here .nil))))) .nil))) ?_))
   refine Jv rfl (Q8 J3) Ji Zh rfl rfl (fun b25=>?_) (fun w h=>h.imp (.cons_cons _ (.cons_cons _ (List.nil_sublist _))) (fun F h=>h.1))
   refine Ml (List.perm_append_comm (l₁:=[_,_])) ?_
   refine EB (n:=i.i) (k:=1) (sz:=5) (news:=Yv ⟨x21,(el ts i.i).r,((el ts i.i).t.1*a,(el ts i.i).t.2)⟩) rfl rfl J3 Ji Zh rfl Ff i.hr (Src.row (off:=0) (fun F ⟨⟨⟨⟨⟨hP,⟨hxn,hxd⟩⟩,_⟩,hT⟩,⟨h21,h21_⟩⟩,hs25⟩=>hs25) (fun j v hv=>by rw [Nat.zero_add];show((Yv ⟨x21,(el ts i.i).r,((el ts i.i).t.1*a,(el ts i.i).t.2)⟩).toArray)[j]?=some v;rw [List.getElem?_toArray];exact hv) rfl) (by omega) (by omega) (SN _) (List.Sublist.refl _) (fun _ h=>h.1.1) (fun v26 ob26 hr26=>?_)
   refine Ml (List.perm_append_comm (l₂:=[_,_]))<|QK (QE rfl)<|Q2<|Ql<|QC<|QB<|QA (Qu rfl rfl (by omega))<|QA (QD rfl)<|QF ?_
   exact Qo (⟨i.i+1,v26,ob26,i.out++[⟨x21,(el ts i.i).r,((el ts i.i).t.1*a,(el ts i.i).t.2)⟩],hlt,by rw [List.flatMap_append];simpa using hr26,by rw [Xw hlt,List.map_append,← i.ho];simp [JK]⟩) (by show ts.length - (i.i+1)<ts.length - i.i;omega) ⟨rfl,rfl,rfl,rfl,rfl,trivial⟩ (.cons _ (List.Sublist.refl _)) (fun F ⟨⟨⟨hB,hT⟩,⟨h21,h21_⟩⟩,_⟩=>⟨hB,fun t ht=>by
   rcases List.mem_append.1 ht with ht | ht
   ·exact hT t ht
   ·rw [List.mem_singleton.1 ht];exact⟨⟨h21,h21_⟩,(hB.1.1.2.1 _ htm).2⟩⟩)
  ·
   have hge:i.i=ts.length:=by have:=of_decide_eq_false hc;omega
   refine Q5 ?_
   repeat (first | refine Qc ?_ | refine QX (by rfl) ?_)
   refine Qd<|QC<|QG<|QB ?_
   obtain ⟨r,hv,hrn,hrc,hfix⟩:=Q7.fix (w0:=w) (F0:=F) (bs1:=[_]) (G:=_) i.hr
   refine D9 hfix ?_
   rw [hv]
   refine QA (QD rfl)<|QA (QE rfl)<|QF<|QC<|QR ?_
   exact QN ((r,i.out)) rfl (.tmp rfl .nil) (rfl) (fun F ⟨⟨⟨⟨hP,_⟩,_⟩,hT⟩,hrow⟩=>⟨by rw [hrn];exact hrow,hT,by unfold WU;rw [if_neg ha0,i.ho,hge,List.take_length],by rw [hrn];exact hrc,by rw [hrn];exact jW hi i.ho⟩)
end
section
open Go.RowKit Ig
abbrev Pt:=List (List UInt8×List Int)
def XJ (ts:List Ge):Pt:=ts.map fun t=>(t.f,t.k)
def EG (l:List Tm):Pt:=l.map fun t=>(Qy t.1,t.2)
def Vm (F:Gs) (s:Sr) (ts:List Ge) (p:Pt):Prop:=JB F s.q s.n 2 (ts.flatMap Wu)∧Yy F ts∧XJ ts=p∧s.n≤s.cap∧ts.length=s.n
theorem Vm.le {F F':Gs} {s:Sr} {ts:List Ge} {p:Pt} (h:Vm F s ts p) (k:Gs.le F F'):Vm F' s ts p:=⟨h.1.le k,h.2.1.le k,h.2.2⟩
abbrev VK:=Sr×List Ge
theorem xR (t:Ge):∀ v∈Wu t,v.oneCell'=true:=by
 intro v hv
 unfold Wu at hv
 simp only [List.mem_cons,List.not_mem_nil,or_false] at hv
 rcases hv with rfl | rfl<;>rfl
structure gO (ts:List XZ) where
 i:Nat
 v:Value
 ob:List (Nat×Obj)
 out:List Ge
 le:i≤ts.length
 hr:Q7 122 2 v i (out.flatMap Wu) ob
 ho:XJ out=EG (JK (ts.take i))
theorem yr {ts:List XZ} {out:List Ge} {i:Nat} (hi:i≤ts.length) (h:XJ out=EG (JK (ts.take i))):out.length=i:=by
 have:=congrArg List.length h
 simp only [XJ,EG,JK,List.length_map,List.length_take] at this
 omega
theorem jJ {w:World} {F:Gs} {p:W8} (hF:Fits F w) (hGl:JF F) (hP:Jo F p.1 p.2 (JK p.2)) (hp:∀ t∈p.2,PW t.t.2) (hl:p.2.length≤1000000) (hz:∀ t∈p.2,JQ t.t.1≤100000000) :
  QT Tryz.prog 221 [p.1.v] w F (fun(c:VK)=>c.1.v) (fun c F=>Vm F c.1 c.2 (EG (JK p.2))):=by
 obtain ⟨⟨q,n,cap⟩,ts⟩:=p
 have hln:ts.length=n:=hP.2.2.2.2
 dsimp only [Sr.v] at hP hl hz ⊢
 refine QT.intro (G:=fun F=>JF F∧Jo F ⟨q,n,cap⟩ ts (JK ts)) Tryz.func221 rfl (by rfl) rfl rfl hF (fun F' hF'=>⟨hGl.le hF',hP.le hF'⟩)<|QG<|QB<|QA (QE rfl)<|QF<|QC<|QG<|QB<|QA (QE rfl)<|QF<|QC<|QG<|QG<|QB<|QA (QD rfl)<|QA (Qn rfl J3)<|QA (QD rfl)<|QF<|QC<|Qa<|J0 (ι:=gO ts) [(6,_),(7,_)] (fun i=>[(3,i.v),(8,.int .i64 ((i.i:Nat):Int))]) (fun i=>i.ob) (fun i F=>Yy F i.out) (fun i=>ts.length - i.i) (⟨0,_,[],[],Nat.zero_le _,.nil,by simp [JK,XJ,EG]⟩) ⟨rfl,rfl,trivial⟩ ⟨rfl,rfl,trivial⟩ (List.Sublist.refl _) (fun _ _ _ h=>by cases h) (fun i=>?_)
 simp only [List.cons_append,List.nil_append]
 have hi:=i.le
 refine QG<|QB<|QA (QU rfl rfl rfl)<|QF<|QC<|QG ?_
 refine QQ rfl (fun hc=>?_) (fun hc=>?_)
 ·
  have hlt:i.i<ts.length:=by have:=of_decide_eq_true hc;omega
  have htm:=Je hlt
  refine QP<|QC<|QG<|Qa<|QG<|QB<|QA (JY (n:=n) (i.i) (fun F ⟨⟨hGl,hP⟩,hT⟩=>(hP).1) rfl rfl J3 Ji (by omega))<|QA (X9 (n:=n) (vs:=[.int .i64 (el ts (i.i)).x.n.s,.slice (el ts (i.i)).x.n.q (el ts (i.i)).x.n.n (el ts (i.i)).x.n.cap,.int .i64 (el ts (i.i)).x.d.s,.slice (el ts (i.i)).x.d.q (el ts (i.i)).x.d.n (el ts (i.i)).x.d.cap,.slice (el ts (i.i)).r.q (el ts (i.i)).r.n (el ts (i.i)).r.cap]) ((i.i)*5) (fun F ⟨⟨hGl,hP⟩,hT⟩=>(hP).1) (by omega) rfl Ji rfl (fun j v hv=>XW (f:=Yv) (l:=ts) Yb (by omega) hv))<|QZ Zh (fun b5=>QS (vs:=[_,_,_,_,_]) rfl rfl rfl Ji rfl .here (.here (.here (.here (.here (.here .nil))))) ⟨rfl,rfl,rfl,rfl,rfl,trivial⟩<|QF<|QC<|JG (.cons_cons _ (List.nil_sublist _)) mixed (by kernel_rfl)<|QK (QD rfl)<|QK (QI rfl YF Qg)<|QK (QJ (vs:=[_,_,_,_]) rfl Qg .here (.here (.here (.here (.here .nil)))) rfl)<|QY rfl (fun w F hF ⟨⟨hGl,hP⟩,hT⟩=>MJ hF hGl (hP.2.1 _ htm |>.1) (hz _ htm)) (fun _=>QK (QI rfl ZB Qs)<|QK (Qi rfl Qs .here (.skip (.skip (.skip (.skip (.here .nil))))))<|QY rfl (fun w F hF ⟨⟨⟨hGl,hP⟩,hT⟩,_⟩=>Sz hF (r:=(el ts i.i).r) (hP.2.1 _ htm).2 (by have:=(hp _ htm).2;omega)) (fun c18=>QK (Q4 rfl ZM Xp (.cons (vs:=[_]) rfl rfl rfl (.here .nil) (.cons (vs:=[_]) rfl rfl rfl (.skip (.here .nil)) .nil))) ?_)))
  refine Jv rfl (Q8 Zs) X4 Xp rfl rfl (fun b20=>?_) (fun w h=>h.imp (.cons_cons _ (List.nil_sublist _)) (fun F h=>h.1.1))
  refine Ml (List.perm_append_comm (l₁:=[_])) ?_
  refine EB (n:=i.i) (k:=1) (sz:=2) (news:=Wu ⟨Qy (el ts i.i).t.1,c18,(el ts i.i).t.2⟩) rfl rfl Zs X4 Xp rfl yj i.hr (Src.row (off:=0) (fun F ⟨⟨⟨⟨⟨hGl,hP⟩,hT⟩,_⟩,h18⟩,hs20⟩=>hs20) (fun j v hv=>by rw [Nat.zero_add];show((Wu ⟨Qy (el ts i.i).t.1,c18,(el ts i.i).t.2⟩).toArray)[j]?=some v;rw [List.getElem?_toArray];exact hv) rfl) (by omega) (by omega) (xR _) (List.Sublist.refl _) (fun _ h=>h.1.1.1) (fun v21 ob21 hr21=>?_)
  refine Ml (List.perm_append_comm (l₂:=[_]))<|QK (QE rfl)<|Q2<|Ql<|QC<|QB<|QA (Qu rfl rfl (by omega))<|QA (QD rfl)<|QF ?_
  exact Qo (⟨i.i+1,v21,ob21,i.out++[⟨Qy (el ts i.i).t.1,c18,(el ts i.i).t.2⟩],hlt,by rw [List.flatMap_append];simpa using hr21,by unfold XJ EG;rw [Xw hlt,List.map_append,List.map_append];have:=i.ho;unfold XJ EG at this;rw [this];rfl⟩) (by show ts.length - (i.i+1)<ts.length - i.i;omega) ⟨rfl,rfl,rfl,rfl,trivial⟩ (.cons _ (List.Sublist.refl _)) (fun F ⟨⟨⟨⟨hB,hT⟩,_⟩,h18⟩,_⟩=>⟨hB,fun t ht=>by
   rcases List.mem_append.1 ht with ht | ht
   ·exact hT t ht
   ·rw [List.mem_singleton.1 ht];exact h18⟩)
 ·
  have hge:i.i=ts.length:=by have:=of_decide_eq_false hc;omega
  refine Q5 ?_
  repeat (first | refine Qc ?_ | refine QX (by rfl) ?_)
  refine Qd<|QC<|QG<|QB ?_
  obtain ⟨r,hv,hrn,hrc,hfix⟩:=Q7.fix (w0:=w) (F0:=F) (bs1:=[]) (G:=_) i.hr
  refine D9 hfix ?_
  rw [hv]
  refine QA (QD rfl)<|QA (QE rfl)<|QF<|QC<|QR ?_
  exact QN ((r,i.out)) rfl (.tmp rfl .nil) (rfl) (fun F ⟨⟨_,hT⟩,hrow⟩=>⟨by rw [hrn];exact hrow,hT,by rw [i.ho,hge,List.take_length],by rw [hrn];exact hrc,by rw [hrn];exact yr hi i.ho⟩)
end
section
open Go.RowKit Ig
theorem Q7.pos {T:TypeId} {sz n:Nat} {v:Value} {cs:List Value} {ob:List (Nat×Obj)} (h:Q7 T sz v n cs ob) (hn:0<n):∃ b cap rest,v = .slice (Option.some ⟨b,0,Option.none⟩) n cap∧ob=[(b,.cells (cs++rest).toArray T (0,0))]∧cs.length=n*sz∧cs.length+rest.length=cap*sz∧n≤cap∧cap≤maxLen:=by
 cases h with
 |nil=>omega
 |some h1 h2 h3 h4=>exact⟨_,_,_,rfl,rfl,h1,h2,h3,h4⟩
structure dV (p q:List XZ) where
 i:Nat
 ts:List XZ
 le:i≤p.length
 hI:VB ts (Jk (JK (p.take i)) (JK q))
structure dX (l0:List Tm) (s:Tm) (q:List XZ) where
 j:Nat
 ts:List XZ
 le:j≤q.length
 hI:VB ts (l0++Xa s (JK (q.take j)))
structure dW (n:Nat) (a b:List Int) where
 k:Nat
 L:List Int
 v:Value
 ob:List (Nat×Obj)
 le:k≤b.length
 hr:Q7 3 1 v n (L.map Q3) ob
 hL:L=Xu (a.take k) (b.take k)++a.drop k
theorem L9 {a b:List Int} {k:Nat} (h1:k<a.length) (h2:k<b.length):(Xu (a.take k) (b.take k)++a.drop k).set k (Qf a k+Qf b k)=Xu (a.take (k+1)) (b.take (k+1))++a.drop (k+1):=by
 have hl:(Xu (a.take k) (b.take k)).length=k:=by unfold Xu;rw [List.length_zipWith,List.length_take,List.length_take];omega
 have hs:Xu (a.take (k+1)) (b.take (k+1))=Xu (a.take k) (b.take k)++[Qf a k+Qf b k]:=by
  rw [ZJ h1,ZJ h2,Xn h1,Xn h2]
  unfold Xu
  rw [List.zipWith_append (by rw [List.length_take,List.length_take];omega)];rfl
 rw [hs,ML h1,List.set_append_right _ _ (by omega),hl,Nat.sub_self]
 simp
theorem U8 {a b:List Int} {k:Nat} (h1:k<a.length) (h2:k<b.length):Qf (Xu (a.take k) (b.take k)++a.drop k) k=Qf a k:=by
 have hl:(Xu (a.take k) (b.take k)).length=k:=by unfold Xu;rw [List.length_zipWith,List.length_take,List.length_take];omega
 have h3:k<(Xu (a.take k) (b.take k)++a.drop k).length:=by rw [List.length_append,hl,List.length_drop];omega
 rw [Xn h3,Xn h1,Zl h3,Zl h1,List.getElem_append_right (by omega)]
 simp [hl]
theorem NL {p q:List XZ} {i:Nat} (h:i<p.length):Jk (JK (p.take (i+1))) (JK q)=Jk (JK (p.take i)) (JK q)++Xa (el p i).t (JK q):=by
 rw [Xw h,Bm];congr 1;simp [Jk]
theorem CE {p q:List XZ} {i j:Nat} (h:i<p.length):Zm (Jk (JK (p.take i)) (JK q)++Xa (el p i).t (JK (q.take j)))≤Zm (Jk (JK p) (JK q)):=by
 have e1:JK p=JK (p.take (i+1))++JK (p.drop (i+1)):=by unfold JK;rw [← List.map_append,List.take_append_drop]
 have e2:JK q=JK (q.take j)++JK (q.drop j):=by unfold JK;rw [← List.map_append,List.take_append_drop]
 have h1:Zm (Jk (JK p) (JK q))=Zm (Jk (JK (p.take (i+1))++JK (p.drop (i+1))) (JK q)):=by rw [← e1]
 rw [Bm,NL h,Xl,Xl] at h1
 have h2:Zm (Xa (el p i).t (JK q))=Zm (Xa (el p i).t (JK (q.take j)++JK (q.drop j))):=by rw [← e2]
 rw [Hc,Xl] at h2
 rw [Xl];omega
theorem P8 (p q:List Tm):(Jk p q).length=p.length*q.length:=by
 induction p with
 |nil=>simp [Jk]
 |cons s p ih=>rw [We,List.length_append,ih,List.length_cons,Nat.add_mul];simp [Xa];omega
theorem yM {a b:Nat} (h:a≤10000) (k:b≤10000):a*b≤100000000:=Nat.mul_le_mul h k
theorem yB {w:World} {F:Gs} {p q:W8} {N:Nat} (hF:Fits F w) (hGl:JF F) (hP:Jo F p.1 p.2 (JK p.2)) (hQ:Jo F q.1 q.2 (JK q.2)) (hw:(∀ t∈p.2,t.t.2.length=N)∧∀ t∈q.2,t.t.2.length=N) (hN:N≤1000) (hl:p.2.length≤10000∧q.2.length≤10000)
  (hpw:(∀ t∈p.2,PW t.t.2)∧(∀ t∈q.2,PW t.t.2)∧∀ s∈p.2,∀ t∈q.2,PW (Xu s.t.2 t.t.2)) (hz1:Zm (JK p.2)≤20000000∧Zm (JK q.2)≤20000000) (hz:Zm (Jk (JK p.2) (JK q.2))≤40000000) :
  QT Tryz.prog 223 [p.1.v,q.1.v] w F (fun(c:W8)=>c.1.v) (fun c F=>Jo F c.1 c.2 (XK (Jk (JK p.2) (JK q.2)))):=by
 have hpn:=hP.2.2.2.2
 have hqn:=hQ.2.2.2.2
 dsimp only [Sr.v]
 refine QT.intro (G:=fun F=>JF F∧Jo F p.1 p.2 (JK p.2)∧Jo F q.1 q.2 (JK q.2)) Tryz.func223 rfl (by rfl) rfl rfl hF (fun F' hF'=>⟨hGl.le hF',hP.le hF',hQ.le hF'⟩)<|QG<|QB<|QA (QE rfl)<|QF<|QC<|QG<|QB<|Vj tx (fun m=>QA (QE rfl)<|QF<|QC<|QG<|QG<|QB<|QA (QD rfl)<|QA (Qn rfl J3)<|QA (QD rfl)<|QF<|QC<|Qa<|J0 (ι:=dV p.2 q.2) [(1,_),(5,_),(14,_),(15,_)] (fun i=>[(16,.int .i64 ((i.i:Nat):Int))]) (fun i=>[(m,ZA tx (W5 i.ts))]) (fun i F=>Vo F i.ts) (fun i=>p.2.length - i.i) (⟨0,[],Nat.zero_le _,VB.nil⟩) ⟨rfl,rfl,rfl,rfl,trivial⟩ ⟨rfl,trivial⟩ (List.Sublist.refl _) (fun _ _ _ h=>by cases h) (fun i=>?_))
 simp only [List.cons_append,List.nil_append]
 have hi:=i.le
 refine QG<|QB<|QA (QU rfl rfl rfl)<|QF<|QC<|QG ?_
 refine QQ rfl (fun hc=>?_) (fun hc=>?_)
 ·
  have hlt:i.i<p.2.length:=by have:=of_decide_eq_true hc;omega
  have hta:=Je hlt
  have hna:=hw.1 _ hta
  have hra:=(hP.2.1 _ hta).2.2.1
  refine QP<|QC<|QG<|Qa<|QG<|QB<|QA (JY (n:=p.1.n) (i.i) (fun F ⟨⟨hGl,hP,hQ⟩,hT⟩=>(hP).1) rfl rfl J3 Ji (by omega))<|QA (X9 (n:=p.1.n) (vs:=[.int .i64 (el p.2 (i.i)).x.n.s,.slice (el p.2 (i.i)).x.n.q (el p.2 (i.i)).x.n.n (el p.2 (i.i)).x.n.cap,.int .i64 (el p.2 (i.i)).x.d.s,.slice (el p.2 (i.i)).x.d.q (el p.2 (i.i)).x.d.n (el p.2 (i.i)).x.d.cap,.slice (el p.2 (i.i)).r.q (el p.2 (i.i)).r.n (el p.2 (i.i)).r.cap]) ((i.i)*5) (fun F ⟨⟨hGl,hP,hQ⟩,hT⟩=>(hP).1) (by omega) rfl Ji rfl (fun j v hv=>XW (f:=Yv) (l:=p.2) Yb (by omega) hv))<|QZ Zh (fun b7=>QS (vs:=[_,_,_,_,_]) rfl rfl rfl Ji rfl .here (.here (.here (.here (.here (.here .nil))))) ⟨rfl,rfl,rfl,rfl,rfl,trivial⟩<|QF<|QC<|QG<|QB<|QA (QD rfl)<|QA (Qn rfl J3)<|QA (QD rfl)<|QF<|QC<|Qa<|J0 (ι:=dX (Jk (JK (p.2.take i.i)) (JK q.2)) (el p.2 i.i).t q.2) [(1,_),(5,_),(7,_),(14,_),(15,_),(16,_),(20,_),(21,_)] (fun i2=>[(22,.int .i64 ((i2.j:Nat):Int))]) (fun i2=>[(b7,.cells (Yv (el p.2 i.i)).toArray 165 (0,0)),(m,ZA tx (W5 i2.ts))]) (fun i2 F=>Vo F i2.ts) (fun i2=>q.2.length - i2.j) (⟨0,i.ts,Nat.zero_le _,by simpa [JK,Xa] using i.hI⟩) ⟨rfl,rfl,rfl,rfl,rfl,rfl,rfl,rfl,trivial⟩ ⟨rfl,trivial⟩ (List.Sublist.refl _) (fun _ h=>h.2) (fun i2=>?_))
  simp only [List.cons_append,List.nil_append]
  have hj:=i2.le
  refine QG<|QB<|QA (QU rfl rfl rfl)<|QF<|QC<|QG ?_
  refine QQ rfl (fun hc=>?_) (fun hc=>?_)
  ·
   have hlt2:i2.j<q.2.length:=by have:=of_decide_eq_true hc;omega
   have htb:=Je hlt2
   have hnb:=hw.2 _ htb
   have hrb:=(hQ.2.1 _ htb).2.2.1
   have hzz:=CE (q:=q.2) (j:=i2.j) hlt
   have hza:JQ (el p.2 i.i).t.1≤Zm (JK p.2):=BP (List.mem_map_of_mem hta)
   have hzb:JQ (el q.2 i2.j).t.1≤Zm (JK q.2):=BP (List.mem_map_of_mem htb)
   refine QP<|QC<|QG<|Qa<|QG<|QB<|QA (JY (n:=q.1.n) (i2.j) (fun F ⟨⟨⟨hGl,hP,hQ⟩,hT⟩,hT2⟩=>(hQ).1) rfl rfl J3 Ji (by omega))<|QA (X9 (n:=q.1.n) (vs:=[.int .i64 (el q.2 (i2.j)).x.n.s,.slice (el q.2 (i2.j)).x.n.q (el q.2 (i2.j)).x.n.n (el q.2 (i2.j)).x.n.cap,.int .i64 (el q.2 (i2.j)).x.d.s,.slice (el q.2 (i2.j)).x.d.q (el q.2 (i2.j)).x.d.n (el q.2 (i2.j)).x.d.cap,.slice (el q.2 (i2.j)).r.q (el q.2 (i2.j)).r.n (el q.2 (i2.j)).r.cap]) ((i2.j)*5) (fun F ⟨⟨⟨hGl,hP,hQ⟩,hT⟩,hT2⟩=>(hQ).1) (by omega) rfl Ji rfl (fun j v hv=>XW (f:=Yv) (l:=q.2) Yb (by omega) hv))<|QZ Zh (fun b9=>QS (vs:=[_,_,_,_,_]) rfl rfl rfl Ji rfl .here (.here (.here (.here (.here (.here .nil))))) ⟨rfl,rfl,rfl,rfl,rfl,trivial⟩<|QF<|QC<|QG<|QB<|QA (QI rfl ZB Qs)<|QA (Qi rfl Qs (.there .here) (.skip (.skip (.skip (.skip (.here .nil))))))<|XQ rfl (List.Perm.refl _) (S0 (r:=(el p.2 i.i).r) (l:=(el p.2 i.i).t.2) (fun F ⟨⟨⟨hGl,hP,hQ⟩,hT⟩,hT2⟩=>(hP.2.1 _ hta).2) hra (by omega)) (fun c28=>JJ _ (fun w F hF h=>h.2) (fun h28=>QA (QE rfl)<|QF<|QC<|QG<|QG<|QB<|QA (QI rfl ZB Qs) ?_)))
   refine QA (Qi rfl Qs .here (.skip (.skip (.skip (.skip (.here .nil))))))<|QA (Qn rfl Qe)<|QA (QD rfl)<|QF<|QC<|Qa<|J0 (ι:=dW (el p.2 i.i).r.n (el p.2 i.i).t.2 (el q.2 i2.j).t.2) [(1,_),(5,_),(7,_),(9,_),(14,_),(15,_),(16,_),(20,_),(21,_),(22,_),(30,_),(31,_)] (fun i3=>[(10,i3.v),(32,.int .i64 ((i3.k:Nat):Int))]) (fun i3=>[(b9,.cells (Yv (el q.2 i2.j)).toArray 165 (0,0)),(b7,.cells (Yv (el p.2 i.i)).toArray 165 (0,0)),(m,ZA tx (W5 i2.ts))]++i3.ob) (fun i3 F=>True) (fun i3=>(el q.2 i2.j).t.2.length - i3.k) (⟨0,(el p.2 i.i).t.2,c28.1,c28.2,Nat.zero_le _,h28,by simp [Xu]⟩) ⟨rfl,rfl,rfl,rfl,rfl,rfl,rfl,rfl,rfl,rfl,rfl,rfl,trivial⟩ ⟨rfl,rfl,trivial⟩ (List.Sublist.refl _) (fun _ _=>trivial) (fun i3=>?_)
   simp only [List.cons_append,List.nil_append]
   have hk:=i3.le
   refine QG<|QB<|QA (QU rfl rfl rfl)<|QF<|QC<|QG ?_
   refine QQ rfl (fun hc=>?_) (fun hc=>?_)
   ·
    obtain ⟨k,L,v,ob,hk0,hr,hL⟩:=i3
    dsimp only at hk hc ⊢
    have hlt3:k<(el q.2 i2.j).t.2.length:=by have:=of_decide_eq_true hc;omega
    have hka:k<(el p.2 i.i).t.2.length:=by omega
    have hLn:L.length=(el p.2 i.i).t.2.length:=by rw [hL];unfold Xu;simp;omega
    have hb1:=(hpw.1 _ hta).el hka
    have hb2:=(hpw.2.1 _ htb).el hlt3
    obtain ⟨b,cap,rest,rfl,rfl,e1,e2,e3,e4⟩:=Q7.pos hr (by omega)
    have hdL:Qf L k=Qf (el p.2 i.i).t.2 k:=by rw [hL];exact U8 hka hlt3
    refine QP<|QC<|QG<|Qa<|QG<|QB<|QA (QD rfl)<|QA (JY (n:=(el q.2 i2.j).r.n) k (fun F ⟨⟨⟨⟨⟨hGl,hP,hQ⟩,hT⟩,hT2⟩,_⟩,_⟩=>(hQ.2.1 _ htb).2.1) rfl rfl Qe Qp (by omega))<|QA (Jf (n:=(el q.2 i2.j).r.n) (k*1) (fun F ⟨⟨⟨⟨⟨hGl,hP,hQ⟩,hT⟩,hT2⟩,_⟩,_⟩=>(hQ.2.1 _ htb).2.1) (by omega) rfl Qp (JL (o:=(el q.2 i2.j).t.2) (by omega)))<|QA (QE rfl)<|QA (QE rfl)<|QF<|QC<|QB<|QA (QD rfl)<|QA (QD rfl)<|QA (Qx (i:=k) rfl rfl Qe Qp (by omega))<|QA (Ya (c:=(L).map Q3++rest) (T':=3) rfl Qp (.there (.there (.there .here))) (Zo (by first | omega | (simp only [List.length_set];omega))))<|QA (QD rfl)<|QA (Qu rfl rfl (by omega))<|QA (Qx (i:=k) rfl rfl Qe Qp (by omega))<|QS (vs:=[_]) rfl rfl rfl Qp rfl (.there (.there (.there .here))) (VT (by first | omega | (simp only [List.length_set];omega)) ((Qf (L) (k)+Qf (el q.2 i2.j).t.2 k))) ⟨rfl,trivial⟩<|QF<|Ql<|QC ?_
    refine QB<|QA (Qu rfl rfl (by omega))<|QA (QD rfl)<|QF ?_
    exact Qo (⟨k+1,_,_,_,hlt3,Q7.some (by simpa using e1) (by simpa using e2) e3 e4,by rw [hL,U8 hka hlt3];exact L9 hka hlt3⟩) (by show(el q.2 i2.j).t.2.length - (k+1)<(el q.2 i2.j).t.2.length - k;omega) ⟨rfl,rfl,rfl,rfl,rfl,rfl,rfl,rfl,rfl,rfl,rfl,rfl,rfl,rfl,trivial⟩ (List.Sublist.refl _) (fun F h=>⟨h.1,trivial⟩)
   ·
    have hge3:i3.k=(el q.2 i2.j).t.2.length:=by have:=of_decide_eq_false hc;omega
    have hLe:i3.L=Xu (el p.2 i.i).t.2 (el q.2 i2.j).t.2:=by
     have h1:=i3.hL
     rw [hge3,List.take_length] at h1
     rw [h1,List.take_of_length_le (by omega),List.drop_of_length_le (by omega),List.append_nil]
    have hLn:(Xu (el p.2 i.i).t.2 (el q.2 i2.j).t.2).length=(el p.2 i.i).r.n:=by rw [Kd (by omega)];exact hra
    refine Q5 ?_
    repeat (first | refine Qc ?_ | refine QX (by rfl) ?_)
    refine Qd<|QC<|QB<|QA (QD rfl)<|QA (QI rfl YF Qg)<|QA (QJ (vs:=[_,_,_,_]) rfl Qg (.there .here) (.here (.here (.here (.here .nil)))) rfl)<|QA (QI rfl YF Qg)<|QA (QJ (vs:=[_,_,_,_]) rfl Qg .here (.here (.here (.here (.here .nil)))) rfl)<|QH rfl (fun w F hF ⟨⟨⟨⟨⟨hGl,hP,hQ⟩,hT⟩,hT2⟩,_⟩,_⟩=>Km hF ((hP.2.1 _ hta).1) ((hQ.2.1 _ htb).1) (by omega) (by omega)) (fun x50=>QA (QD rfl) ?_)
    obtain ⟨r,hv,hrn,hrc,hfix⟩:=Q7.fix (w0:=w) (F0:=F) (bs1:=[(b9,.cells (Yv (el q.2 i2.j)).toArray 165 (0,0)),(b7,.cells (Yv (el p.2 i.i)).toArray 165 (0,0)),(m,ZA tx (W5 i2.ts))]) (G:=_) i3.hr
    refine D9 hfix ?_
    rw [hv]
    refine ZF (List.perm_middle (l₁:=[_,_]) (l₂:=[]))<|XQ rfl (List.Perm.refl _) (BU (r:=r) (x:=x50) i2.hI (hpw.2.2 _ hta _ htb) (by have:=Jz (el p.2 i.i).t.1 (el q.2 i2.j).t.1;omega) (by omega) (fun F ⟨⟨⟨⟨⟨⟨⟨hGl,hP,hQ⟩,hT⟩,hT2⟩,_⟩,_⟩,⟨h50,h50_⟩⟩,hrow⟩=>⟨hGl,hT2,⟨h50,h50_⟩,by rw [hrn,← hLe];exact hrow,by rw [hrn];exact hLn,by rw [hrn];exact hrc⟩)) (fun n52=>JJ _ (fun w F hF h=>h.2.2) (fun h52=>ZF (bs':=[_,_,_]) (List.perm_middle (l₁:=[_,_]) (l₂:=[])).symm<|QF<|Ql<|QC<|QB<|QA (Qu rfl rfl (by omega))<|QA (QD rfl)<|QF ?_))
    exact Qo (⟨i2.j+1,addN i2.ts n52,hlt2,by rw [Xw hlt2,Hc,← List.append_assoc];exact i2.hI.add (hpw.2.2 _ hta _ htb) h52⟩) (by show q.2.length - (i2.j+1)<q.2.length - i2.j;omega) ⟨rfl,rfl,rfl,rfl,rfl,rfl,rfl,rfl,rfl,trivial⟩ (.cons _ (List.Sublist.refl _)) (fun F h=>⟨h.1.1.1.1.1.1,h.2.1⟩)
  ·
   have hge2:i2.j=q.2.length:=by have:=of_decide_eq_false hc;omega
   refine Q5 ?_
   repeat (first | refine Qc ?_ | refine QX (by rfl) ?_)
   refine Qd<|Ql<|QC<|QB<|QA (Qu rfl rfl (by omega))<|QA (QD rfl)<|QF ?_
   exact Qo (⟨i.i+1,i2.ts,hlt,by rw [NL hlt];have:=i2.hI;rw [hge2,List.take_length] at this;exact this⟩) (by show p.2.length - (i.i+1)<p.2.length - i.i;omega) ⟨rfl,rfl,rfl,rfl,rfl,trivial⟩ (.cons _ (List.Sublist.refl _)) (fun F h=>⟨h.1.1,h.2⟩)
 ·
  have hge:i.i=p.2.length:=by have:=of_decide_eq_false hc;omega
  refine Q5 ?_
  repeat (first | refine Qc ?_ | refine QX (by rfl) ?_)
  refine Qd<|QC<|QG<|QB<|QA (QD rfl) ?_
  have hI:=i.hI
  rw [hge,List.take_length] at hI
  refine XQ rfl (List.Perm.refl _) (Gk hI (by have h1:=hI.ln;rw [P8] at h1;simp only [JK,List.length_map] at h1;have h2:=yM hl.1 hl.2;omega) (fun F h=>h.2)) (fun c56=>QA (QE rfl)<|QF<|QC<|QR ?_)
  exact QN (c56) rfl (.tmp rfl .nil) (rfl) (fun F h=>h.2)
end
section
open Go.RowKit Ig
def xI:List Tm→Int
 |[]=>0
 |t::_=>t.2.sum
def H8 (l:List Tm):Bool:=l.any fun t=>Xd t.1
def Nl:List Bool→Int→Int
 |[],_=>-1
 |b::l,i=>if b then i else Nl l (i+1)
theorem Ug:∀ (l:List Bool) (i:Int),0≤i→(decide (0≤Nl l i)=l.any id)
 |[],i,_=>rfl
 |true::l,i,h=>by simp [Nl,h]
 |false::l,i,h=>by simpa [Nl] using Ug l (i+1) (by omega)
structure Fi (bl:List Bool) where
 i:Nat
 le:i≤bl.length
 h:Nl bl 0=Nl (bl.drop i) i
theorem Fi.hit {bl:List Bool} (s:Fi bl) (h:s.i<bl.length) (e:bl[s.i]=true):Nl bl 0=s.i:=by
 rw [s.h,List.drop_eq_getElem_cons h,e];rfl
theorem Fi.gA {bl:List Bool} (s:Fi bl) (h:s.i<bl.length) (e:bl[s.i]=false):Nl bl 0=Nl (bl.drop (s.i+1)) ((s.i+1:Nat):Int):=by
 rw [s.h,List.drop_eq_getElem_cons h,e];rfl
theorem Fi.stop {bl:List Bool} (s:Fi bl) (h:bl.length≤s.i):Nl bl 0 = -1:=by
 rw [s.h,List.drop_of_length_le h];rfl
theorem KO (ts:List XZ):(JK ts).length=ts.length:=by simp [JK]
theorem Fo {ts:List XZ} {i:Nat} (h:i<ts.length) (hb:i<((JK ts).map fun t=>Xd t.1).length):((JK ts).map fun t=>Xd t.1)[i]=Xd (el ts i).t.1:=by
 simp [JK,Zl h]
theorem yE {w:World} {F:Gs} {q:Option Addr} {n cap:Nat} {ts:List XZ} (hF:Fits F w) (hP:Jo F ⟨q,n,cap⟩ ts (JK ts)) (hp:∀ t∈ts,PW t.t.2) (hl:ts.length≤1000000):QV Tryz.prog 219 [.slice q n cap] w F (.int .i64 (xI (JK ts))):=by
 have hln:ts.length=n:=hP.2.2.2.2
 refine QT.intro (G:=fun F=>Jo F ⟨q,n,cap⟩ ts (JK ts)) Tryz.func219 rfl (by rfl) rfl rfl hF (fun F' hF'=>hP.le hF')<|QG<|QB<|QA (QE rfl)<|QF<|QC<|QG<|QG<|QB<|QA (QD rfl)<|QA (Qn rfl J3)<|QA (QU rfl rfl rfl)<|QF<|QC ?_
 refine QQ rfl (fun hc=>?_) (fun hc=>?_)
 ·
  have h0:ts=[]:=by have:=of_decide_eq_true hc;exact List.length_eq_zero_iff.1 (by omega)
  refine QG<|QB<|QA (QE rfl)<|QF<|QC<|QR ?_
  exact QN (()) rfl (.tmp rfl .nil) (by rw [h0];rfl) (fun F hP=>trivial)
 ·
  have h0:0<ts.length:=by have:=of_decide_eq_false hc;omega
  have htm:=Je h0
  refine QP<|QC<|QG<|QB<|QA (QD rfl)<|QA (JY (n:=n) (0) (fun F hP=>(hP).1) rfl (congrArg (fun z:Int=>some (Value.int .i64 z)) (by omega)) J3 Ji (by omega))<|QA (QI rfl ZB Qs)<|QA (Jf (n:=n) ((0)*5+4) (fun F hP=>(hP).1) (by omega) rfl Qs (XW (f:=Yv) (l:=ts) Yb (by omega) rfl))<|QH rfl (fun w F hF hP=>Dk hF (r:=(el ts 0).r) (hP.2.1 _ htm).2 (hp _ htm)) (fun _=>QA (QE rfl)<|QF<|QC<|QR ?_)
  exact QN (()) rfl (.tmp rfl .nil) (congrArg (Value.int .i64) (by cases ts with | nil=>cases h0 | cons t l=>rfl)) (fun F ⟨hP,_⟩=>trivial)
theorem I6 {w:World} {F:Gs} {t:XZ} (hF:Fits F w) (hGl:JF F) (hT:TF F t) (hz:JQ t.t.1≤100000000):QV Tryz.prog 269 [Az t] w F (.bool (Xd t.t.1)):=by
 refine QT.intro (G:=fun F=>JF F∧TF F t) Tryz.func269 rfl (by rfl) rfl rfl hF (fun F' hF'=>⟨hGl.le hF',hT.le hF'⟩)<|QG<|QB<|Qz rfl (vs:=[_,_,_,_,_]) rfl (fun b1=>QA (QE rfl)<|QF<|QC<|QG<|QB<|QA (QI rfl YF Qg)<|QA (QJ (vs:=[_,_,_,_]) rfl Qg .here (.here (.here (.here (.here .nil)))) rfl)<|QH rfl (fun w F hF ⟨hGl,hT⟩=>B5 hF hGl (hT.1) (hz)) (fun _=>QA (QE rfl)<|QF<|QC<|QR ?_))
 exact QN (()) rfl (.tmp rfl .nil) (rfl) (fun F ⟨⟨hGl,hT⟩,_⟩=>trivial)
theorem CM {w:World} {F:Gs} {q:Option Addr} {n cap:Nat} {ts:List XZ} (hF:Fits F w) (hP:Jo F ⟨q,n,cap⟩ ts (JK ts)) (hGl:JF F) (hz:∀ t∈ts,JQ t.t.1≤100000000) (hl:ts.length≤1000000):QV Tryz.prog 295 [.slice q n cap,.func (.func 269) #[] #[]] w F (.int .i64 (Nl ((JK ts).map fun t=>Xd t.1) 0)):=by
 have hln:ts.length=n:=hP.2.2.2.2
 have hbl:((JK ts).map fun t=>Xd t.1).length=ts.length:=by simp [JK]
 refine QT.intro (G:=fun F=>JF F∧Jo F ⟨q,n,cap⟩ ts (JK ts)) Tryz.func295 rfl (by rfl) rfl rfl hF (fun F' hF'=>⟨hGl.le hF',hP.le hF'⟩)<|QG<|QB<|QA (QE rfl)<|QF<|QC<|QG<|QG<|QB<|QA (QD rfl)<|QA (Qn rfl J3)<|QA (QD rfl)<|QF<|QC<|Qa<|Zf (ι:=Fi ((JK ts).map fun t=>Xd t.1)) [(0,_),(1,_),(7,_)] (fun i=>[(8,.int .i64 ((i.i:Nat):Int))]) (fun i=>ts.length - i.i) (⟨0,Nat.zero_le _,rfl⟩) ⟨rfl,rfl,rfl,trivial⟩ ⟨rfl,trivial⟩ (fun i=>?_)
 simp only [List.cons_append,List.nil_append]
 have hi:=i.le
 refine QG<|QB<|QA (QU rfl rfl rfl)<|QF<|QC<|QG ?_
 refine QQ rfl (fun hc=>?_) (fun hc=>?_)
 ·
  have hlt:i.i<ts.length:=by have:=of_decide_eq_true hc;omega
  have htm:=Je hlt
  refine QP<|QC<|QG<|Qa<|QG<|QB<|QA (QD rfl)<|QA (QE rfl)<|QF<|QC<|QG<|QB<|QA (QD rfl)<|QA (QD rfl)<|QA (QD rfl)<|QA (JY (n:=n) (i.i) (fun F ⟨hGl,hP⟩=>(hP).1) rfl rfl J3 Ji (by omega))<|QA (X9 (n:=n) (vs:=[.int .i64 (el ts (i.i)).x.n.s,.slice (el ts (i.i)).x.n.q (el ts (i.i)).x.n.n (el ts (i.i)).x.n.cap,.int .i64 (el ts (i.i)).x.d.s,.slice (el ts (i.i)).x.d.q (el ts (i.i)).x.d.n (el ts (i.i)).x.d.cap,.slice (el ts (i.i)).r.q (el ts (i.i)).r.n (el ts (i.i)).r.cap]) ((i.i)*5) (fun F ⟨hGl,hP⟩=>(hP).1) (by omega) rfl Ji rfl (fun j v hv=>XW (f:=Yv) (l:=ts) Yb (by omega) hv))<|Ga (c1:=[]) (c2:=[]) rfl rfl (fun w F hF ⟨hGl,hP⟩=>I6 hF hGl (t:=el ts i.i) (hP.2.1 _ htm) (hz _ htm)) (fun _=>QF<|QC ?_)
  refine QQ rfl (fun hc=>?_) (fun hc=>?_)
  ·
   refine QG<|QB<|QA (QD rfl)<|QA (QE rfl)<|QF<|QC<|QR ?_
   repeat (first | refine JH ?_ | refine JA ?_)
   exact QN (()) rfl (.tmp rfl .nil) (congrArg (Value.int .i64) (i.hit (by omega) (by rw [Fo hlt];exact hc))) (fun F ⟨⟨hGl,hP⟩,_⟩=>trivial)
  ·
   refine QP<|Ql<|QC<|QB<|QA (Qu rfl rfl (by omega))<|QA (QD rfl)<|QF ?_
   exact Qo (⟨i.i+1,by omega,i.gA (by omega) (by rw [Fo hlt];exact hc)⟩) (by show ts.length - (i.i+1)<ts.length - i.i;omega) ⟨rfl,rfl,rfl,rfl,trivial⟩ (List.Sublist.refl _) (fun F h=>h.1)
 ·
  have hge:ts.length≤i.i:=by have:=of_decide_eq_false hc;omega
  refine Q5 ?_
  repeat (first | refine Qc ?_ | refine QX (by rfl) ?_)
  refine Qd<|QC<|QG<|QB<|QA (QE rfl)<|QF<|QC<|QR ?_
  exact QN (()) rfl (.tmp rfl .nil) (congrArg (Value.int .i64) (i.stop (by omega))) (fun F ⟨hGl,hP⟩=>trivial)
theorem T1 {w:World} {F:Gs} {q:Option Addr} {n cap:Nat} {ts:List XZ} (hF:Fits F w) (hP:Jo F ⟨q,n,cap⟩ ts (JK ts)) (hGl:JF F) (hz:∀ t∈ts,JQ t.t.1≤100000000) (hl:ts.length≤1000000):QV Tryz.prog 268 [.slice q n cap,.func (.func 269) #[] #[]] w F (.bool (H8 (JK ts))):=by
 refine QT.intro (G:=fun F=>JF F∧Jo F ⟨q,n,cap⟩ ts (JK ts)) Tryz.func268 rfl (by rfl) rfl rfl hF (fun F' hF'=>⟨hGl.le hF',hP.le hF'⟩)<|QG<|QB<|QA (QE rfl)<|QF<|QC<|QG<|QB<|QA (QD rfl)<|QA (QD rfl)<|QH rfl (fun w F hF ⟨hGl,hP⟩=>CM hF (hP) (hGl) (hz) (hl)) (fun _=>QA (QU rfl rfl rfl)<|QA (QE rfl)<|QF<|QC<|QR ?_)
 exact QN (()) rfl (.tmp rfl .nil) (congrArg Value.bool (by rw [show H8 (JK ts)=((JK ts).map fun t=>Xd t.1).any id by simp [H8,List.any_map],← Ug _ 0 (Int.le_refl _)])) (fun F ⟨⟨hGl,hP⟩,_⟩=>trivial)
theorem CI {w:World} {F:Gs} {q:Option Addr} {n cap:Nat} {ts:List XZ} (hF:Fits F w) (hP:Jo F ⟨q,n,cap⟩ ts (JK ts)) (hGl:JF F) (hz:∀ t∈ts,JQ t.t.1≤100000000) (hl:ts.length≤1000000):QV Tryz.prog 220 [.slice q n cap] w F (.bool (H8 (JK ts))):=by
 refine QT.intro (G:=fun F=>JF F∧Jo F ⟨q,n,cap⟩ ts (JK ts)) Tryz.func220 rfl (by rfl) rfl rfl hF (fun F' hF'=>⟨hGl.le hF',hP.le hF'⟩)<|QG<|QB<|QA (QE rfl)<|QF<|QC<|QG<|QB<|QA (QD rfl)<|QH rfl (fun w F hF ⟨hGl,hP⟩=>T1 hF (hP) (hGl) (hz) (hl)) (fun _=>QA (QE rfl)<|QF<|QC<|QR ?_)
 exact QN (()) rfl (.tmp rfl .nil) (rfl) (fun F ⟨⟨hGl,hP⟩,_⟩=>trivial)
end
section
open Go.RowKit Ig
def Di (l:List Tm):Int:=Qm [if decide (xI l>12)=true then 4 else 0,if decide ((l.length:Int)>64)=true then 5 else 0,if H8 l=true then 4 else 0]
def PU (l:List Tm):Pt:=if Di l=0 then EG l else []
theorem Vm.nil (F:Gs):Vm F ⟨none,0,0⟩ [] []:=⟨JB.nil F none 2,(fun _ h=>by cases h),rfl,Nat.le_refl _,rfl⟩
theorem GJ {w:World} {F:Gs} {q:Option Addr} {n cap:Nat} {ts:List XZ} (hF:Fits F w) (hP:Jo F ⟨q,n,cap⟩ ts (JK ts)) (hGl:JF F) (hp:∀ t∈ts,PW t.t.2) (hz:∀ t∈ts,JQ t.t.1≤100000000) (hl:ts.length≤1000000) :
  QT Tryz.prog 137 [.slice q n cap] w F (fun(c:VK)=>.tuple #[c.1.v,.int .i64 (Di (JK ts))]) (fun c F=>Vm F c.1 c.2 (PU (JK ts))):=by
 have hln:ts.length=n:=hP.2.2.2.2
 have hlen:(JK ts).length=n:=by rw [KO];exact hln
 have hre:Di (JK ts)=Qm [if decide (xI (JK ts)>12)=true then 4 else 0,if decide ((n:Int)>64)=true then 5 else 0,if H8 (JK ts)=true then 4 else 0]:=by unfold Di;rw [hlen]
 refine QT.intro (G:=fun F=>JF F∧Jo F ⟨q,n,cap⟩ ts (JK ts)) Tryz.func137 rfl (by rfl) rfl rfl hF (fun F' hF'=>⟨hGl.le hF',hP.le hF'⟩)<|QG<|QB<|QA (QE rfl)<|QA (QE rfl)<|QF<|QC<|QG<|QG<|QB<|QA (QD rfl)<|QH rfl (fun w F hF ⟨hGl,hP⟩=>yE hF (hP) (hp) (hl)) (fun _=>QA (QU rfl rfl rfl)<|QH rfl (fun w F hF ⟨⟨hGl,hP⟩,_⟩=>Zz hF ) (fun _=>QA (QD rfl)<|QA (Qn rfl J3)<|QA (QU rfl rfl rfl)<|QH rfl (fun w F hF ⟨⟨⟨hGl,hP⟩,_⟩,_⟩=>Zz hF ) (fun _=>QA (QD rfl)<|QH rfl (fun w F hF ⟨⟨⟨⟨hGl,hP⟩,_⟩,_⟩,_⟩=>CI hF (hP) (hGl) (hz) (hl)) (fun _=>QH rfl (fun w F hF ⟨⟨⟨⟨⟨hGl,hP⟩,_⟩,_⟩,_⟩,_⟩=>Zz hF ) (fun _=>QW rfl (Q8 Zq) KC BI rfl rfl (fun b16=>QH rfl (fun w F hF ⟨⟨⟨⟨⟨⟨⟨hGl,hP⟩,_⟩,_⟩,_⟩,_⟩,_⟩,hs16⟩=>YE hF (JB.of (cs:=List.map Q3 [if decide (xI (JK ts)>12)=true then 4 else 0,if decide ((n:Int)>64)=true then 5 else 0,if H8 (JK ts)=true then 4 else 0]) hs16 rfl) (by decide)) (fun _=>QA (QE rfl)<|QF ?_)))))))
 refine QC<|QG<|QB<|QA (QD rfl)<|QA (QU rfl rfl rfl)<|QF<|QC ?_
 refine QQ rfl (fun hc=>?_) (fun hc=>?_)
 ·
  have he:Di (JK ts)≠0:=by rw [hre];exact bne_iff_ne.1 hc
  refine QG<|QB<|QA (QD rfl)<|QA (QE rfl)<|QA (QE rfl)<|QF<|QC<|QR ?_
  exact Jb ((⟨none,0,0⟩,[])) rfl (.tmp rfl (.tmp rfl .nil)) (by rw [hre]) (fun F ⟨⟨⟨⟨⟨⟨⟨⟨hGl,hP⟩,_⟩,_⟩,_⟩,_⟩,_⟩,hs16⟩,_⟩=>by unfold PU;rw [if_neg he];exact Vm.nil F)
 ·
  have he:Di (JK ts)=0:=by rw [hre];exact bne_eq_false_iff_eq.1 hc
  refine QP<|QC<|QG<|QB<|QA (QD rfl)<|QH rfl (fun w F hF ⟨⟨⟨⟨⟨⟨⟨⟨hGl,hP⟩,_⟩,_⟩,_⟩,_⟩,_⟩,hs16⟩,_⟩=>jJ hF hGl (p:=(⟨q,n,cap⟩,ts)) hP hp hl hz) (fun c22=>QA (QE rfl)<|QA (QE rfl)<|QF<|QC<|QR ?_)
  exact Jb (c22) rfl (.tmp rfl (.tmp rfl .nil)) (by rw [he]) (fun F ⟨⟨⟨⟨⟨⟨⟨⟨⟨hGl,hP⟩,_⟩,_⟩,_⟩,_⟩,_⟩,hs16⟩,_⟩,h22⟩=>by unfold PU;rw [if_pos he];exact h22)
end
section
open Go.RowKit Ig
def Zr (v:Int):Int:=if decide (v<0)=true∨decide (v>24)=true then 3 else 0
theorem VH (v:Int):Zr v=0↔0≤v∧v≤24:=by unfold Zr;simp only [decide_eq_true_eq];split<;>omega
theorem Lu {v:Int} (h:¬ v<0):Zr v=if decide (v>24)=true then 3 else 0:=by unfold Zr;simp [h]
def Wr (l:List Int):Int:=(l.map fun k=>if 13<k then 13 else k).sum
def Vq (f:List UInt8) (l:List Int) (v:Int):Int :=
 if(l.length:Int)≠v+1 then 2 else if l.any (fun k=>decide (k<0))=true then 3 else Qm [if decide (Wr l>12)=true then 4 else 0,Jg f]
theorem L0 {l:List Int} {i:Nat} (h:i<l.length):Wr (l.take (i+1))=Wr (l.take i)+(if 13<Qf l i then 13 else Qf l i):=by
 unfold Wr;rw [ZJ h,List.map_append,List.sum_append,Xn h];simp
theorem N8 (l:List Int) (h:∀ k∈l,0≤k):0≤Wr l∧Wr l≤13*l.length:=by
 induction l with
 |nil=>simp [Wr]
 |cons x l ih =>
  have h1:=ih fun k hk=>h k (by simp [hk])
  have h2:=h x (by simp)
  have e:Wr (x::l)=(if 13<x then 13 else x)+Wr l:=by unfold Wr;rw [List.map_cons,List.sum_cons]
  rw [e,List.length_cons];split<;>omega
structure gP (l:List Int) where
 i:Nat
 le:i≤l.length
 nn:∀ k∈l.take i,0≤k
theorem xT {l:List Int} {i:Nat} (h:i<l.length) (hn:Qf l i<0):l.any (fun k=>decide (k<0))=true:=by
 rw [List.any_eq_true];exact⟨el l i,Je h,by rw [← Xn h];exact decide_eq_true hn⟩
theorem yt {l:List Int} (h:∀ k∈l,0≤k):¬ l.any (fun k=>decide (k<0))=true:=by
 rw [List.any_eq_true];rintro ⟨k,hk,e⟩;have:=of_decide_eq_true e;have:=h k hk;omega
theorem Gy {w:World} {F:Gs} {v:Int} (hF:Fits F w):QV Tryz.prog 141 [.int .i64 v] w F (.int .i64 (Zr v)):=by
 refine QT.intro (G:=fun F=>True) Tryz.func141 rfl (by rfl) rfl rfl hF (fun F' hF'=>trivial)<|QG<|QB<|QA (QE rfl)<|QF<|QC<|QG<|QB<|QA (QD rfl)<|QA (QU rfl rfl rfl)<|QA (QD rfl) ?_
 refine Qk (t:=5) rfl (fun hb5=>?_) (fun hb5=>?_)
 ·
  refine QO rfl rfl rfl<|QO rfl rfl rfl<|QA (Qj rfl rfl rfl)<|QH rfl (fun w F hF _=>Zz hF ) (fun _=>QA (QE rfl)<|QF<|QC<|QR ?_)
  exact QN (()) rfl (.tmp rfl .nil) (congrArg (Value.int .i64) (by unfold Zr;simp_all)) (fun F ⟨_,_⟩=>trivial)
 ·
  refine QL rfl rfl<|QA (QD rfl)<|QL rfl rfl<|QA (QU rfl rfl rfl)<|QA (Qh rfl rfl rfl)<|QH rfl (fun w F hF _=>Zz hF ) (fun _=>QA (QE rfl)<|QF<|QC<|QR ?_)
  exact QN (()) rfl (.tmp rfl .nil) (congrArg (Value.int .i64) (Lu (of_decide_eq_false hb5))) (fun F ⟨_,_⟩=>trivial)
theorem xC {w:World} {F:Gs} {f:List UInt8} {q:Option Addr} {n cap:Nat} {l:List Int} {v:Int} (hF:Fits F w) (hGl:JF F) (hR:JP F ⟨q,n,cap⟩ l) (hf:f.length≤1000000) (hl:l.length≤1000000) (hv : -1000000≤v∧v≤1000000):QV Tryz.prog 155 [.agg #[tx f,.slice q n cap],.int .i64 v] w F (.int .i64 (Vq f l v)):=by
 have hln:l.length=n:=hR.2.1
 refine QT.intro (G:=fun F=>JF F∧JP F ⟨q,n,cap⟩ l) Tryz.func155 rfl (by rfl) rfl rfl hF (fun F' hF'=>⟨hGl.le hF',hR.le hF'⟩)<|QG<|QB<|Qz rfl (vs:=[_,_]) rfl (fun b2=>QA (QE rfl)<|QF<|QC<|QG<|QG<|QB<|QA (QI rfl Wm Qs)<|QA (Qi rfl Qs .here (.skip (.here .nil)))<|QA (Qn rfl Qe)<|QA (QD rfl)<|QA (Qu rfl rfl (by omega))<|QA (QU rfl rfl rfl)<|QF<|QC ?_)
 refine QQ rfl (fun hc=>?_) (fun hc=>?_)
 ·
  have hne:=bne_iff_ne.1 hc
  refine QG<|QB<|QA (QE rfl)<|QF<|QC<|QR ?_
  exact QN (()) rfl (.tmp rfl .nil) (congrArg (Value.int .i64) (by unfold Vq;rw [if_pos (by rw [hln];exact hne)])) (fun F ⟨hGl,hR⟩=>trivial)
 ·
  have heq:=bne_eq_false_iff_eq.1 hc
  refine QP<|QC<|QG<|QB<|QA (QE rfl)<|QF<|QC<|QG<|QG<|QB<|QA (QI rfl Wm Qs)<|QA (Qi rfl Qs .here (.skip (.here .nil)))<|QA (Qn rfl Qe)<|QA (QD rfl)<|QF<|QC<|Qa<|Zf (ι:=gP l) [(2,_),(15,_),(16,_)] (fun i=>[(5,.int .i64 (Wr (l.take i.i))),(17,.int .i64 ((i.i:Nat):Int))]) (fun i=>l.length - i.i) (⟨0,Nat.zero_le _,by simp⟩) ⟨rfl,rfl,rfl,trivial⟩ ⟨rfl,rfl,trivial⟩ (fun i=>?_)
  simp only [List.cons_append,List.nil_append]
  have hi:=i.le
  have hb:=N8 _ i.nn
  rw [List.length_take] at hb
  refine QG<|QB<|QA (QU rfl rfl rfl)<|QF<|QC<|QG ?_
  refine QQ rfl (fun hc=>?_) (fun hc=>?_)
  ·
   have hlt:i.i<l.length:=by have:=of_decide_eq_true hc;omega
   refine QP<|QC<|QG<|Qa<|QG<|QB<|QA (JY (n:=n) (i.i) (fun F ⟨hGl,hR⟩=>(hR).1) rfl rfl Qe Qp (by omega))<|QA (Jf (n:=n) ((i.i)*1) (fun F ⟨hGl,hR⟩=>(hR).1) (by omega) rfl Qp (JL (o:=l) (by omega)))<|QA (QE rfl)<|QF<|QC<|QG<|QG<|QB<|QA (QD rfl)<|QA (QU rfl rfl rfl)<|QF<|QC ?_
   refine QQ rfl (fun hc=>?_) (fun hc=>?_)
   ·
    have hng:=of_decide_eq_true hc
    refine QG<|QB<|QA (QE rfl)<|QF<|QC<|QR ?_
    repeat (first | refine JH ?_ | refine JA ?_)
    exact QN (()) rfl (.tmp rfl .nil) (congrArg (Value.int .i64) (by unfold Vq;rw [if_neg (by rw [hln];exact fun h=>h heq),if_pos (xT hlt hng)])) (fun F ⟨hGl,hR⟩=>trivial)
   ·
    have hng:=of_decide_eq_false hc
    refine QP<|QC<|QB<|QA (QD rfl)<|QA (QD rfl)<|QA (x3 rfl rfl)<|QA (Qu rfl rfl (by omega))<|QA (QE rfl)<|QF<|Ql<|QC<|QB<|QA (Qu rfl rfl (by omega))<|QA (QD rfl)<|QF ?_
    exact Qo (⟨i.i+1,hlt,by intro k hk;rw [ZJ hlt] at hk;rcases List.mem_append.1 hk with hk | hk;exact i.nn k hk;rw [List.mem_singleton.1 hk,← Xn hlt];omega⟩) (by show l.length - (i.i+1)<l.length - i.i;omega) ⟨rfl,rfl,rfl,(congrArg (fun z:Int=>some (Value.int .i64 z)) (L0 hlt).symm),rfl,trivial⟩ (List.Sublist.refl _) (fun F h=>h)
  ·
   have hge:i.i=l.length:=by have:=of_decide_eq_false hc;omega
   refine Q5 ?_
   repeat (first | refine Qc ?_ | refine QX (by rfl) ?_)
   refine Qd<|QC<|QG<|JG (List.Sublist.refl _) mixed (by kernel_rfl) ?_
   rw [hge,List.take_length]
   have hnn:=i.nn
   rw [hge,List.take_length] at hnn
   refine QK (QD rfl)<|QK (QU rfl rfl rfl)<|QY rfl (fun w F hF ⟨hGl,hR⟩=>Zz hF ) (fun _=>QK (QI rfl B7 JC)<|QK (Qi rfl JC .here (.here .nil))<|QY rfl (fun w F hF ⟨⟨hGl,hR⟩,_⟩=>MO hF hGl (hf)) (fun _=>?_))
   refine Jv rfl (Q8 Zq) KC BI rfl rfl (fun b34=>?_) (fun w h=>h.imp (.cons_cons _ .slnil) (fun F h=>h.1.1))
   refine QY rfl (fun w F hF ⟨⟨⟨⟨hGl,hR⟩,_⟩,_⟩,hs34⟩=>YE hF (JB.of (cs:=List.map Q3 [if decide (Wr l>12)=true then 4 else 0,Jg f]) hs34 rfl) (by decide)) (fun _=>QK (QE rfl)<|Q2<|QC<|QR ?_)
   exact QN (()) rfl (.tmp rfl .nil) (congrArg (Value.int .i64) (by unfold Vq;rw [if_neg (by rw [hln];exact fun h=>h heq),if_neg (yt hnn)])) (fun F ⟨⟨⟨⟨⟨hGl,hR⟩,_⟩,_⟩,hs34⟩,_⟩=>trivial)
end
section
open Go.RowKit Ig
theorem VY {a b:Int} (h:Qm [a,b]=0):a=0∧b=0:=by
 unfold Qm at h
 by_cases g:a=0
 ·rw [if_pos g] at h
  unfold Qm at h
  by_cases k:b=0
  ·exact⟨g,k⟩
  ·rw [if_neg k] at h;exact⟨g,h⟩
 ·rw [if_neg g] at h;exact absurd h g
def Wz (p:Pt) (v:Int) (i:Nat):Int :=
 let e:=Qm [Vq (el p i).1 (el p i).2 v,if((el p i).1==[48])=true then 6 else 0]
 if e=0∧0<i∧0≤Vd (el p (i - 1)).2 (el p i).2 then 11 else e
def X5 (p:Pt) (v:Int):Int:=if decide ((p.length:Int)>64)=true then 5 else Qm ((List.range p.length).map (Wz p v))
theorem Ut {n i:Nat} (h:i<n):el (List.range n) i=i:=by rw [Zl (by simpa using h)];simp
theorem BF {ts:List Ge} {i:Nat} (h:i<ts.length):el (XJ ts) i=((el ts i).f,(el ts i).k):=by rw [Zl (by simpa [XJ] using h),Zl h];simp [XJ]
theorem Fc {l:List Int} (h:∀ k∈l,0≤k) (hc:Wr l≤12):∀ k∈l,k≤12:=by
 induction l with
 |nil=>intro k hk;cases hk
 |cons x l ih =>
  have hl:∀ k∈l,0≤k:=fun k hk=>h k (by simp [hk])
  have h1:=(N8 l hl).1
  have h2:=h x (by simp)
  have e:Wr (x::l)=(if 13<x then 13 else x)+Wr l:=by unfold Wr;rw [List.map_cons,List.sum_cons]
  rw [e] at hc
  intro k hk
  rcases List.mem_cons.1 hk with rfl | hk
  ·split at hc<;>omega
  ·refine ih hl ?_ k hk
   split at hc<;>omega
theorem VN {f:List UInt8} {l:List Int} {v:Int} (h:Vq f l v=0):(l.length:Int)=v+1∧(∀ k∈l,0≤k∧k≤12)∧Wr l≤12∧Jg f=0:=by
 unfold Vq at h
 split at h
 ·omega
 ·rename_i h1
  split at h
  ·omega
  ·rename_i h2
   have hn:∀ k∈l,0≤k:=fun k hk=>by
    rcases Int.lt_or_le k 0 with g | g
    ·exact absurd (List.any_eq_true.2 ⟨k,hk,decide_eq_true g⟩) h2
    ·exact g
   obtain ⟨g1,g2⟩:=VY h
   have hc:Wr l≤12:=by
    rcases Int.lt_or_le 12 (Wr l) with g | g
    ·rw [if_pos (decide_eq_true g)] at g1;omega
    ·exact g
   exact⟨by omega,fun k hk=>⟨hn k hk,Fc hn hc k hk⟩,hc,g2⟩
theorem Wc {f:List UInt8} {l:List Int} {v:Int} (h:Vq f l v=0) (hv:v≤24):PW l:=by
 obtain ⟨h1,h2,_⟩:=VN h
 exact⟨fun k hk=>by have:=h2 k hk;omega,by omega⟩
theorem Px {p:Pt} {v:Int} {i:Nat} (h:Wz p v i=0):Vq (el p i).1 (el p i).2 v=0∧(el p i).1≠[48]∧(0<i→Vd (el p (i - 1)).2 (el p i).2<0):=by
 unfold Wz at h
 dsimp only at h
 by_cases g:Qm [Vq (el p i).1 (el p i).2 v,if((el p i).1==[48])=true then 6 else 0]=0∧0<i∧0≤Vd (el p (i - 1)).2 (el p i).2
 ·rw [if_pos g] at h;omega
 ·rw [if_neg g] at h
  obtain ⟨h1,h2'⟩:=VY h
  have h2:(el p i).1≠[48]:=by
   intro q
   rw [if_pos (by rw [q];rfl)] at h2'
   omega
  refine⟨h1,h2,fun hi=>?_⟩
  rcases Int.lt_or_le (Vd (el p (i - 1)).2 (el p i).2) 0 with q | q
  ·exact q
  ·exact absurd ⟨h,hi,q⟩ g
structure qZ (p:Pt) (v:Int) (n:Nat) where
 i:Nat
 le:i≤n
 z:∀ j,j<i→Wz p v j=0
def qZ.scan {p:Pt} {v:Int} {n:Nat} (s:qZ p v n):YJ (List.range n) (Wz p v):=⟨s.i,by rw [List.length_range];exact s.le,by
 have key:∀ i,i≤n→(∀ j,j<i→Wz p v j=0)→Qm ((List.range n).map (Wz p v))=Qm (((List.range n).map (Wz p v)).drop i):=by
  intro i
  induction i with
  |zero=>intro _ _;rfl
  |succ i ih =>
   intro hi hz
   rw [ih (by omega) (fun j hj=>hz j (by omega)),KZ (by simp;omega) (by simp;exact hz i (by omega))]
 exact key s.i s.le s.z⟩
theorem E8 {p:Pt} {v x:Int} {n:Nat} (hn:p.length=n) (hp:¬ (n:Int)>64) (s:qZ p v n) (h:s.i<n) (hs:Wz p v s.i=x) (hx:x≠0):X5 p v=x:=by
 unfold X5
 rw [hn,if_neg (by rw [decide_eq_true_eq];exact hp),s.scan.hit (by rw [List.length_range];exact h) (by rw [show s.scan.i=s.i from rfl,Ut h,hs];exact hx),show s.scan.i=s.i from rfl,Ut h,hs]
theorem Oc {p:Pt} {v:Int} {n:Nat} (hn:p.length=n) (hp:¬ (n:Int)>64) (s:qZ p v n) (h:n≤s.i):X5 p v=0:=by
 unfold X5
 rw [hn,if_neg (by rw [decide_eq_true_eq];exact hp),s.scan.stop (by rw [List.length_range];exact h)]
theorem step_eq {ps:List Ge} {v E:Int} {i:Nat} (h:i<ps.length) (hE:Qm [Vq (el ps i).f (el ps i).k v,if((el ps i).f==[48])=true then 6 else 0]=E):Wz (XJ ps) v i=if E=0∧0<i∧0≤Vd (el ps (i - 1)).k (el ps i).k then 11 else E:=by
 unfold Wz
 rw [BF h,BF (show i - 1<ps.length by omega)]
 dsimp only
 rw [hE]
theorem B8 {w:World} {F:Gs} {q:Option Addr} {n cap:Nat} {ps:List Ge} {v:Int} (hF:Fits F w) (hGl:JF F) (hR:JB F q n 2 (ps.flatMap Wu)) (hP:Yy F ps) (hln:ps.length=n) (hf:∀ t∈ps,t.f.length≤1000000∧t.k.length≤1000000) (hl:ps.length≤1000000) (hv:0≤v∧v≤24):QV Tryz.prog 143 [.slice q n cap,.int .i64 v] w F (.int .i64 (X5 (XJ ps) v)):=by
 have hal:(XJ ps).length=n:=by unfold XJ;rw [List.length_map];exact hln
 refine QT.intro (G:=fun F=>JF F∧JB F q n 2 (ps.flatMap Wu)∧Yy F ps) Tryz.func143 rfl (by rfl) rfl rfl hF (fun F' hF'=>⟨hGl.le hF',hR.le hF',hP.le hF'⟩)<|QG<|QB<|QA (QE rfl)<|QF<|QC<|QG<|QG<|QB<|QA (QD rfl)<|QA (Qn rfl Zs)<|QA (QU rfl rfl rfl)<|QF<|QC ?_
 refine QQ rfl (fun hc=>?_) (fun hc=>?_)
 ·
  have hbig:=hc
  refine QG<|QB<|QA (QE rfl)<|QF<|QC<|QR ?_
  exact QN (()) rfl (.tmp rfl .nil) (congrArg (Value.int .i64) (by unfold X5;rw [hal,if_pos hbig])) (fun F ⟨hGl,hR,hP⟩=>trivial)
 ·
  have hbig:=of_decide_eq_false hc
  refine QP<|QC<|QG<|QG<|QB<|QA (QD rfl)<|QA (Qn rfl Zs)<|QA (QD rfl)<|QF<|QC<|Qa<|Zf (ι:=qZ (XJ ps) v n) [(0,_),(1,_),(11,_),(12,_)] (fun i=>[(13,.int .i64 ((i.i:Nat):Int))]) (fun i=>n - i.i) (⟨0,Nat.zero_le _,fun j hj=>absurd hj (Nat.not_lt_zero _)⟩) ⟨rfl,rfl,rfl,rfl,trivial⟩ ⟨rfl,trivial⟩ (fun i=>?_)
  simp only [List.cons_append,List.nil_append]
  have hi:=i.le
  refine QG<|QB<|QA (QU rfl rfl rfl)<|QF<|QC<|QG ?_
  refine QQ rfl (fun hc=>?_) (fun hc=>?_)
  ·
   have hlt:i.i<n:=by have:=of_decide_eq_true hc;omega
   have htm:el ps i.i∈ps:=Je (by omega)
   refine QP<|QC<|QG<|Qa<|QG<|QB<|QA (QD rfl)<|QA (JY (n:=n) (i.i) (fun F ⟨hGl,hR,hP⟩=>hR) rfl rfl Zs X4 (by omega))<|QA (X9 (n:=n) (vs:=[tx (el ps (i.i)).f,.slice (el ps (i.i)).r.q (el ps (i.i)).r.n (el ps (i.i)).r.cap]) ((i.i)*2) (fun F ⟨hGl,hR,hP⟩=>hR) (by omega) rfl X4 rfl (fun j v hv=>XW (f:=Wu) (l:=ps) V0 (by omega) hv))<|QZ Xp (fun b6=>QA (QE rfl)<|QS (vs:=[_,_]) rfl rfl rfl X4 rfl .here (.here (.here .nil)) ⟨rfl,rfl,trivial⟩<|QF<|QC<|QG<|JG (List.Sublist.refl _) mixed (by kernel_rfl)<|QK (QJ (vs:=[_,_]) rfl X4 .here (.here (.here .nil)) rfl)<|QK (QD rfl)<|QY rfl (fun w F hF ⟨hGl,hR,hP⟩=>xC hF (hGl) (f:=(el ps i.i).f) (l:=(el ps i.i).k) (hP _ htm) ((hf _ htm).1) ((hf _ htm).2) (by omega)) (fun _=>QK (QI rfl B7 JC)<|QK (Qi rfl JC .here (.here .nil))<|QK (Za rfl rfl)<|QY rfl (fun w F hF ⟨⟨hGl,hR,hP⟩,_⟩=>Zz hF ) (fun _=>?_)))
   refine Jv rfl (Q8 Zq) KC BI rfl rfl (fun b25=>?_) (fun w h=>h.imp (.cons_cons _ .slnil) (fun F h=>h.1.1))
   refine QY rfl (fun w F hF ⟨⟨⟨⟨hGl,hR,hP⟩,_⟩,_⟩,hs25⟩=>YE hF (JB.of (cs:=List.map Q3 [Vq (el ps i.i).f (el ps i.i).k v,if((el ps i.i).f==[48])=true then 6 else 0]) hs25 rfl) (by decide)) (fun _=>QK (QE rfl)<|Q2<|QC<|QG<|QG<|JG (List.Sublist.refl _) mixed (by kernel_rfl) ?_)
   generalize hE:Qm [Vq (el ps i.i).f (el ps i.i).k v,if((el ps i.i).f==[48])=true then 6 else 0]=E
   have hst:=step_eq (v:=v) (show i.i<ps.length by omega) hE
   refine QK (QD rfl)<|QK (QU rfl rfl rfl)<|QK (QD rfl) ?_
   refine DU (t:=29) rfl (fun hb29=>?_) (fun hb29=>?_)
   ·
    refine XH rfl rfl<|QK (QD rfl)<|XH rfl rfl<|QK (QU rfl rfl rfl)<|QK (Qj rfl rfl rfl)<|QK (QD rfl) ?_
    refine DU (t:=33) rfl (fun hb33=>?_) (fun hb33=>?_)
    ·
     refine XH rfl rfl<|QK (QD rfl)<|XH rfl rfl<|QK (QD rfl)<|XH rfl rfl<|QK (Jx rfl rfl (by omega))<|XH rfl rfl ?_
     have hi0:0<i.i:=by have:=of_decide_eq_true hb33;omega
     refine QK (JY (n:=n) ((i.i - 1)) (fun F ⟨⟨⟨⟨⟨hGl,hR,hP⟩,_⟩,_⟩,hs25⟩,_⟩=>hR) rfl (congrArg (fun z:Int=>some (Value.int .i64 z)) (by omega)) Zs X4 (by omega))<|XH rfl rfl<|QK (QI rfl Wm Qs)<|XH rfl rfl<|QK (Jf (n:=n) (((i.i - 1))*2+1) (fun F ⟨⟨⟨⟨⟨hGl,hR,hP⟩,_⟩,_⟩,hs25⟩,_⟩=>hR) (by omega) rfl Qs (XW (f:=Wu) (l:=ps) V0 (by omega) rfl))<|XH rfl rfl<|QK (QI rfl Wm Qs)<|XH rfl rfl<|QK (Qi rfl Qs .here (.skip (.here .nil)))<|XH rfl rfl ?_
     have hz0:=(Px (i.z (i.i - 1) (by omega))).1
     rw [BF (show i.i - 1<ps.length by omega)] at hz0
     have hE0:E=0:=eq_of_beq hb29
     obtain ⟨hz1,_⟩:=VY (hE.trans hE0)
     have htm0:el ps (i.i - 1)∈ps:=Je (by omega)
     refine QY rfl (fun w F hF ⟨⟨⟨⟨⟨hGl,hR,hP⟩,_⟩,_⟩,hs25⟩,_⟩=>H2 hF (ra:=(el ps (i.i - 1)).r) (rb:=(el ps i.i).r) (hP _ htm0) (hP _ htm) (Wc hz0 hv.2) (Wc hz1 hv.2)) (fun _=>XH rfl rfl<|QK (QU rfl rfl rfl)<|QK (Qj rfl rfl rfl)<|Q2<|QC ?_)
     refine QQ rfl (fun hc=>?_) (fun hc=>?_)
     ·
      have h44:=of_decide_eq_true hc
      refine QB<|QA (QE rfl)<|QF<|QC<|QG<|QB<|QA (QD rfl)<|QA (QU rfl rfl rfl)<|QF<|QC ?_
      refine QQ rfl (fun hc=>?_) (fun hc=>?_)
      ·
       refine QG<|QB<|QA (QD rfl)<|QA (QE rfl)<|QF<|QC<|QR ?_
       repeat (first | refine JH ?_ | refine JA ?_)
       exact QN (()) rfl (.tmp rfl .nil) (congrArg (Value.int .i64) (E8 hal hbig i hlt (by first | (rw [hst];exact if_pos ⟨eq_of_beq hb29,by have:=of_decide_eq_true hb33;omega,h44⟩) | (rw [hst];exact if_neg (fun h=>h44 h.2.2)) | (rw [hst];exact if_neg (fun h=>by have:=of_decide_eq_false hb33;omega)) | (rw [hst];exact if_neg (fun h=>by rw [h.1] at hb29;cases hb29))) (bne_iff_ne.1 hc))) (fun F ⟨⟨⟨⟨⟨⟨hGl,hR,hP⟩,_⟩,_⟩,hs25⟩,_⟩,_⟩=>trivial)
      ·
       refine QP<|Ql<|QC<|QB<|QA (Qu rfl rfl (by omega))<|QA (QD rfl)<|QF ?_
       exact Qo (⟨i.i+1,hlt,fun j hj=>by
        rcases Nat.lt_or_ge j i.i with g | g
        ·exact i.z j g
        ·rw [show j=i.i from by omega];first | exact absurd hc (by decide) | (rw [hst,if_neg (fun h=>h44 h.2.2)];exact bne_eq_false_iff_eq.1 hc) | (rw [hst,if_neg (fun h=>by have:=of_decide_eq_false hb33;omega)];exact bne_eq_false_iff_eq.1 hc) | (rw [hst,if_neg (fun h=>by rw [h.1] at hb29;cases hb29)];exact bne_eq_false_iff_eq.1 hc)⟩) (by show n - (i.i+1)<n - i.i;omega) ⟨rfl,rfl,rfl,rfl,rfl,trivial⟩ (.cons _ .slnil) (fun F h=>h.1.1.1.1.1)
     ·
      have h44:=of_decide_eq_false hc
      refine QP<|QC<|QG<|QB<|QA (QD rfl)<|QA (QU rfl rfl rfl)<|QF<|QC ?_
      refine QQ rfl (fun hc=>?_) (fun hc=>?_)
      ·
       refine QG<|QB<|QA (QD rfl)<|QA (QE rfl)<|QF<|QC<|QR ?_
       repeat (first | refine JH ?_ | refine JA ?_)
       exact QN (()) rfl (.tmp rfl .nil) (congrArg (Value.int .i64) (E8 hal hbig i hlt (by first | (rw [hst];exact if_pos ⟨eq_of_beq hb29,by have:=of_decide_eq_true hb33;omega,h44⟩) | (rw [hst];exact if_neg (fun h=>h44 h.2.2)) | (rw [hst];exact if_neg (fun h=>by have:=of_decide_eq_false hb33;omega)) | (rw [hst];exact if_neg (fun h=>by rw [h.1] at hb29;cases hb29))) (bne_iff_ne.1 hc))) (fun F ⟨⟨⟨⟨⟨⟨hGl,hR,hP⟩,_⟩,_⟩,hs25⟩,_⟩,_⟩=>trivial)
      ·
       refine QP<|Ql<|QC<|QB<|QA (Qu rfl rfl (by omega))<|QA (QD rfl)<|QF ?_
       exact Qo (⟨i.i+1,hlt,fun j hj=>by
        rcases Nat.lt_or_ge j i.i with g | g
        ·exact i.z j g
        ·rw [show j=i.i from by omega];first | exact absurd hc (by decide) | (rw [hst,if_neg (fun h=>h44 h.2.2)];exact bne_eq_false_iff_eq.1 hc) | (rw [hst,if_neg (fun h=>by have:=of_decide_eq_false hb33;omega)];exact bne_eq_false_iff_eq.1 hc) | (rw [hst,if_neg (fun h=>by rw [h.1] at hb29;cases hb29)];exact bne_eq_false_iff_eq.1 hc)⟩) (by show n - (i.i+1)<n - i.i;omega) ⟨rfl,rfl,rfl,rfl,rfl,trivial⟩ (.cons _ .slnil) (fun F h=>h.1.1.1.1.1)
    ·
     refine Ju rfl rfl rfl<|Ju rfl rfl rfl<|Ju rfl rfl rfl<|Ju rfl rfl rfl<|Ju rfl rfl rfl<|Ju rfl rfl rfl<|Ju rfl rfl rfl<|Ju rfl rfl rfl<|Ju rfl rfl rfl<|Ju rfl rfl rfl<|QK (Qh rfl rfl rfl)<|Q2<|QC<|ZE rfl<|QP<|QC<|QG<|QB<|QA (QD rfl)<|QA (QU rfl rfl rfl)<|QF<|QC ?_
     refine QQ rfl (fun hc=>?_) (fun hc=>?_)
     ·
      refine QG<|QB<|QA (QD rfl)<|QA (QE rfl)<|QF<|QC<|QR ?_
      repeat (first | refine JH ?_ | refine JA ?_)
      exact QN (()) rfl (.tmp rfl .nil) (congrArg (Value.int .i64) (E8 hal hbig i hlt (by first | (rw [hst];exact if_pos ⟨eq_of_beq hb29,by have:=of_decide_eq_true hb33;omega,h44⟩) | (rw [hst];exact if_neg (fun h=>h44 h.2.2)) | (rw [hst];exact if_neg (fun h=>by have:=of_decide_eq_false hb33;omega)) | (rw [hst];exact if_neg (fun h=>by rw [h.1] at hb29;cases hb29))) (bne_iff_ne.1 hc))) (fun F ⟨⟨⟨⟨⟨hGl,hR,hP⟩,_⟩,_⟩,hs25⟩,_⟩=>trivial)
     ·
      refine QP<|Ql<|QC<|QB<|QA (Qu rfl rfl (by omega))<|QA (QD rfl)<|QF ?_
      exact Qo (⟨i.i+1,hlt,fun j hj=>by
        rcases Nat.lt_or_ge j i.i with g | g
        ·exact i.z j g
        ·rw [show j=i.i from by omega];first | exact absurd hc (by decide) | (rw [hst,if_neg (fun h=>h44 h.2.2)];exact bne_eq_false_iff_eq.1 hc) | (rw [hst,if_neg (fun h=>by have:=of_decide_eq_false hb33;omega)];exact bne_eq_false_iff_eq.1 hc) | (rw [hst,if_neg (fun h=>by rw [h.1] at hb29;cases hb29)];exact bne_eq_false_iff_eq.1 hc)⟩) (by show n - (i.i+1)<n - i.i;omega) ⟨rfl,rfl,rfl,rfl,rfl,trivial⟩ (.cons _ .slnil) (fun F h=>h.1.1.1.1)
   ·
    refine Ju rfl rfl rfl<|Ju rfl rfl rfl<|QK (Qh rfl rfl rfl)<|QK (QD rfl)<|Ju rfl rfl rfl<|Ju rfl rfl rfl<|Ju rfl rfl rfl<|Ju rfl rfl rfl<|Ju rfl rfl rfl<|Ju rfl rfl rfl<|Ju rfl rfl rfl<|Ju rfl rfl rfl<|Ju rfl rfl rfl<|Ju rfl rfl rfl<|QK (Qh rfl rfl rfl)<|Q2<|QC<|ZE rfl<|QP<|QC<|QG<|QB<|QA (QD rfl)<|QA (QU rfl rfl rfl)<|QF ?_
    refine QC ?_
    refine QQ rfl (fun hc=>?_) (fun hc=>?_)
    ·
     refine QG<|QB<|QA (QD rfl)<|QA (QE rfl)<|QF<|QC<|QR ?_
     repeat (first | refine JH ?_ | refine JA ?_)
     exact QN (()) rfl (.tmp rfl .nil) (congrArg (Value.int .i64) (E8 hal hbig i hlt (by first | (rw [hst];exact if_pos ⟨eq_of_beq hb29,by have:=of_decide_eq_true hb33;omega,h44⟩) | (rw [hst];exact if_neg (fun h=>h44 h.2.2)) | (rw [hst];exact if_neg (fun h=>by have:=of_decide_eq_false hb33;omega)) | (rw [hst];exact if_neg (fun h=>by rw [h.1] at hb29;cases hb29))) (bne_iff_ne.1 hc))) (fun F ⟨⟨⟨⟨⟨hGl,hR,hP⟩,_⟩,_⟩,hs25⟩,_⟩=>trivial)
    ·
     refine QP<|Ql<|QC<|QB<|QA (Qu rfl rfl (by omega))<|QA (QD rfl)<|QF ?_
     exact Qo (⟨i.i+1,hlt,fun j hj=>by
        rcases Nat.lt_or_ge j i.i with g | g
        ·exact i.z j g
        ·rw [show j=i.i from by omega];first | exact absurd hc (by decide) | (rw [hst,if_neg (fun h=>h44 h.2.2)];exact bne_eq_false_iff_eq.1 hc) | (rw [hst,if_neg (fun h=>by have:=of_decide_eq_false hb33;omega)];exact bne_eq_false_iff_eq.1 hc) | (rw [hst,if_neg (fun h=>by rw [h.1] at hb29;cases hb29)];exact bne_eq_false_iff_eq.1 hc)⟩) (by show n - (i.i+1)<n - i.i;omega) ⟨rfl,rfl,rfl,rfl,rfl,trivial⟩ (.cons _ .slnil) (fun F h=>h.1.1.1.1)
  ·
   have hge:n≤i.i:=by have:=of_decide_eq_false hc;omega
   refine Q5 ?_
   repeat (first | refine Qc ?_ | refine QX (by rfl) ?_)
   refine Qd<|QC<|QG<|QB<|QA (QE rfl)<|QF<|QC<|QR ?_
   exact QN (()) rfl (.tmp rfl .nil) (congrArg (Value.int .i64) (Oc hal hbig i hge)) (fun F ⟨hGl,hR,hP⟩=>trivial)
end
section
open Go.RowKit Ig
theorem Sn {w:World} {F:Gs} {q:Option Addr} {n cap b:Nat} {ps:List Ge} {v:Int} (hF:Fits F w) (hGl:JF F) (hB:F b=some (#[.int .i64 v],3)) (hR:JB F q n 2 (ps.flatMap Wu)) (hP:Yy F ps) (hln:ps.length=n) (hf:∀ t∈ps,t.f.length≤1000000∧t.k.length≤1000000) (hl:ps.length≤1000000) (hv:0≤v∧v≤24):QV Tryz.prog 208 [.slice q n cap,.pointer (some ⟨b,0,none⟩)] w F (.int .i64 (X5 (XJ ps) v)):=by
 refine QT.intro (G:=fun F=>JF F∧F b=some (#[.int .i64 v],3)∧JB F q n 2 (ps.flatMap Wu)∧Yy F ps) Tryz.func208 rfl (by rfl) rfl rfl hF (fun F' hF'=>⟨hGl.le hF',hF' _ _ hB,hR.le hF',hP.le hF'⟩)<|QG<|QB<|QA (QE rfl)<|QF<|QC<|QG<|QB<|QA (QD rfl)<|QA (NK (c:=#[.int .i64 v]) (T':=3) rfl Qp (fun F ⟨hGl,hB,hR,hP⟩=>hB) rfl)<|QH rfl (fun w F hF ⟨hGl,hB,hR,hP⟩=>B8 hF (hGl) (hR) (hP) (hln) (hf) (hl) (hv)) (fun _=>QA (QE rfl)<|QF<|QC<|QR ?_)
 exact QN (()) rfl (.tmp rfl .nil) (rfl) (fun F ⟨⟨hGl,hB,hR,hP⟩,_⟩=>trivial)
end
section
open Go.RowKit Ig
instance :Inhabited VK:=⟨(⟨none,0,0⟩,[])⟩
section
variable [Dr] [df:Df] {P:Program} {N:Nat} {m:Sl} {S:World→Prop} {ty:TypeId}
theorem NJ {g:FuncId} {cap:Array Operand} {vs:List Value} (hv:Et m cap.toList=some vs):Qt P N m S (.makeFunc (.func g) #[] cap) ty (.func (.func g) #[] vs.toArray):=fun a w _ _ _ _ ha _=>by
 have:=ha.Et hv
 have e:cap.map a.eval=vs.toArray:=by rw [← this];apply Array.ext';simp
 simp [execOp,Instr.makeFunc,e]
end
def YX (F:Gs) (ls:List VK):Prop:=∀ e∈ls,JB F e.1.q e.1.n 2 (e.2.flatMap Wu)∧Yy F e.2
theorem YX.le {F F':Gs} {ls:List VK} (h:YX F ls) (k:Gs.le F F'):YX F' ls:=fun e he=>⟨(h e he).1.le k,(h e he).2.le k⟩
def Vn (e:VK):Prop:=e.2.length=e.1.n∧(∀ t∈e.2,t.f.length≤1000000∧t.k.length≤1000000)∧e.2.length≤1000000
def WR (ls:List VK) (v:Int):Int:=if Zr v=0 then Qm (ls.map fun e=>X5 (XJ e.2) v) else Zr v
theorem FT {w:World} {F:Gs} {q:Option Addr} {n c f:Nat} {ls:List VK} {fE:VK→Int} {c1 c2:List Value} {G0:Gs→Prop} (hF:Fits F w) (hg:∀ F F',Gs.le F F'→G0 F→G0 F') (h0:G0 F) (hR:JB F q n 1 (ls.map fun e=>e.1.v)) (hn:ls.length=n) (hb:n≤1000000) (hc:∀ e∈ls,∀ w F,Fits F w→G0 F→QV Tryz.prog f (c1++[e.1.v]++c2) w F (.int .i64 (fE e))) :
  QV Tryz.prog 207 [.slice q n c,.func (.func f) c1.toArray c2.toArray] w F (.int .i64 (Qm (ls.map fE))):=by
 refine QT.intro (G:=fun F=>G0 F∧JB F q n 1 (ls.map fun e=>e.1.v)) Tryz.func207 rfl (by rfl) rfl rfl hF (fun F' hF'=>⟨hg F F' hF' h0,hR.le hF'⟩)<|QG<|QB<|QA (QE rfl)<|QF<|QC<|QG<|QG<|QB<|QA (QD rfl)<|QA (Qn rfl EI)<|QA (QD rfl)<|QF<|QC<|Qa<|Zf (ι:=YJ ls fE) [(1,_),(8,_),(9,_)] (fun i=>[(10,.int .i64 ((i.i:Nat):Int))]) (fun i=>ls.length - i.i) (YJ.start _ _) ⟨rfl,rfl,rfl,trivial⟩ ⟨rfl,trivial⟩ (fun i=>?_)
 simp only [List.cons_append,List.nil_append]
 have hi:=i.le
 refine QG<|QB<|QA (QU rfl rfl rfl)<|QF<|QC<|QG ?_
 refine QQ rfl (fun hc2=>?_) (fun hc2=>?_)
 ·
  have hlt:i.i<ls.length:=by have:=of_decide_eq_true hc2;omega
  have hem:=Je hlt
  refine QP<|QC<|QG<|Qa<|QG<|QB<|QA (JY (n:=n) (i.i) (fun F ⟨hG0,hR⟩=>hR) rfl rfl EI Ms (by omega))<|QA (Jf (n:=n) ((i.i)*1) (fun F ⟨hG0,hR⟩=>hR) (by omega) rfl Ms (Dt (f:=fun e:VK=>e.1.v) (l:=ls) (by omega)))<|QA (QE rfl)<|QF<|QC<|QG<|QB<|QA (QD rfl)<|QA (QD rfl)<|Ga (c1:=c1) (c2:=c2) rfl rfl (fun w F hF ⟨hG0,hR⟩=>hc _ hem w F hF hG0) (fun _=>QA (QE rfl)<|QF<|QC<|QG<|QB<|QA (QD rfl)<|QA (QU rfl rfl rfl)<|QF<|QC ?_)
  refine QQ rfl (fun hc2=>?_) (fun hc2=>?_)
  ·
   have h18:=bne_iff_ne.1 hc2
   refine QG<|QB<|QA (QD rfl)<|QA (QE rfl)<|QF<|QC<|QR ?_
   repeat (first | refine JH ?_ | refine JA ?_)
   exact QN (()) rfl (.tmp rfl .nil) (congrArg (Value.int .i64) (i.hit hlt h18)) (fun F ⟨⟨hG0,hR⟩,_⟩=>trivial)
  ·
   have h18:=bne_eq_false_iff_eq.1 hc2
   refine QP<|Ql<|QC<|QB<|QA (Qu rfl rfl (by omega))<|QA (QD rfl)<|QF ?_
   exact Qo (i.next hlt h18) (by show ls.length - (i.i+1)<ls.length - i.i;omega) ⟨rfl,rfl,rfl,rfl,trivial⟩ (List.Sublist.refl _) (fun F h=>h.1)
 ·
  have hge:ls.length≤i.i:=by have:=of_decide_eq_false hc2;omega
  refine Q5 ?_
  repeat (first | refine Qc ?_ | refine QX (by rfl) ?_)
  refine Qd<|QC<|QG<|QB<|QA (QE rfl)<|QF<|QC<|QR ?_
  exact QN (()) rfl (.tmp rfl .nil) (congrArg (Value.int .i64) (i.stop hge)) (fun F ⟨hG0,hR⟩=>trivial)
theorem BE {w:World} {F:Gs} {q:Option Addr} {n c:Nat} {ls:List VK} {v:Int} (hF:Fits F w) (hGl:JF F) (hR:JB F q n 1 (ls.map fun e=>e.1.v)) (hA:YX F ls) (hn:ls.length=n) (hb:n≤1000000) (ht:∀ e∈ls,Vn e) :
  QV Tryz.prog 128 [.int .i64 v,.slice q n c] w F (.int .i64 (WR ls v)):=by
 refine QT.intro (G:=fun F=>JF F∧JB F q n 1 (ls.map fun e=>e.1.v)∧YX F ls) Tryz.func128 rfl (by rfl) rfl rfl hF (fun F' hF'=>⟨hGl.le hF',hR.le hF',hA.le hF'⟩)<|QG<|QB<|Qz rfl (vs:=[_]) rfl (fun b2=>QA (QE rfl)<|QF<|QC<|QG<|QG<|QB<|QA (Qi rfl Qp .here (.here .nil))<|QH rfl (fun w F hF ⟨hGl,hR,hA⟩=>Gy hF ) (fun _=>QA (QE rfl)<|QF<|QC<|QG<|QB<|QA (QD rfl)<|QA (QU rfl rfl rfl)<|QF<|QC ?_))
 refine QQ rfl (fun hc=>?_) (fun hc=>?_)
 ·
  have hc0:=bne_iff_ne.1 hc
  refine QG<|QB<|QA (QD rfl)<|QA (QE rfl)<|QF<|QC<|QR ?_
  exact QN (()) rfl (.tmp rfl .nil) (congrArg (Value.int .i64) (by unfold WR;rw [if_neg hc0])) (fun F ⟨⟨hGl,hR,hA⟩,_⟩=>trivial)
 ·
  have hc0:=bne_eq_false_iff_eq.1 hc
  have hv:=(VH v).1 hc0
  refine QP<|QC<|QG<|QB<|QA (QD rfl)<|D8 (b:=b2) .here<|QA (NJ rfl)<|QH rfl (fun w F hF ⟨⟨⟨hGl,hR,hA⟩,_⟩,hB⟩=>FT (f:=208) (fE:=fun e=>X5 (XJ e.2) v) (c1:=[]) (c2:=[.pointer (some ⟨b2,0,none⟩)]) (G0:=fun F=>JF F∧YX F ls∧F b2=some (#[.int .i64 v],3)) hF (fun F F' hle h=>⟨h.1.le hle,h.2.1.le hle,hle _ _ h.2.2⟩) ⟨hGl,hA,hB⟩ hR hn hb (fun e he w F hF h=>Sn hF h.1 h.2.2 (h.2.1 e he).1 (h.2.1 e he).2 (ht e he).1 (ht e he).2.1 (ht e he).2.2 hv)) (fun _=>QA (QE rfl)<|QF<|QC<|QR ?_)
  exact QN (()) rfl (.tmp rfl .nil) (congrArg (Value.int .i64) (by unfold WR;rw [if_pos hc0])) (fun F ⟨⟨⟨⟨hGl,hR,hA⟩,_⟩,hB⟩,_⟩=>trivial)
end
section
open Go.RowKit Ig
def JN (p:Pt):List Tm:=p.map fun x=>(JM x.1,x.2)
theorem TO (ts:List Ge):ts.map qg=JN (XJ ts):=by simp [JN,XJ,qg]
theorem RQ:∀ (p:List Tm) (t:Tm),(Zi p t).length≤p.length+1
 |[],t=>by
  unfold Zi;split<;>simp
 |x::p,t=>by
  have:=RQ p t
  unfold Zi
  repeat' split
  all_goals simp only [List.length_cons]
  all_goals omega
theorem UL:∀ (l p:List Tm),(l.foldl Zi p).length≤p.length+l.length
 |[],p=>by simp
 |t::l,p=>by
  have h1:=UL l (Zi p t)
  have h2:=RQ p t
  simp only [List.foldl_cons,List.length_cons];omega
theorem WM (l:List Tm):(XK l).length≤l.length:=by have:=UL l [];simpa [XK] using this
theorem UG:∀ (l p:List Tm) (x:Tm),x∈l.foldl Zi p→(∃ y∈p,y.2=x.2)∨∃ y∈l,y.2=x.2
 |[],p,x,h=>.inl ⟨x,h,rfl⟩
 |t::l,p,x,h=>by
  rw [List.foldl_cons] at h
  rcases UG l _ x h with ⟨y,hy,e⟩ | ⟨y,hy,e⟩
  ·rcases Dq hy with h2 | h2
   ·exact .inl ⟨y,h2,e⟩
   ·exact .inr ⟨t,by simp,by rw [← h2];exact e⟩
  ·exact .inr ⟨y,by simp [hy],e⟩
theorem Ds {l:List Tm} {x:Tm} (h:x∈XK l):∃ y∈l,y.2=x.2:=by
 rcases UG l [] x h with ⟨y,hy,_⟩ | h
 ·cases hy
 ·exact h
theorem Wt {p:List Tm} (h:Canon p) {t:Tm} (ht:t∈p):Ig.Jn p t.2=t.1:=by
 induction p with
 |nil=>cases ht
 |cons x p ih =>
  rcases List.mem_cons.1 ht with rfl | ht
  ·exact h.head
  ·have hb:=(List.pairwise_cons.1 h.xu).1 t ht
   have hne:x.2≠t.2:=L3 hb
   simp only [Ig.Jn]
   rw [if_neg hne,Rat.zero_add];exact ih h.tail ht
theorem Dc {l:List Tm} {t:Tm} (h:t∈XK l):JQ t.1≤Zm l+1:=by
 rw [← Wt (Yt l) h,Wo];exact BR l t.2
theorem Dd {l:List Tm} {k:Nat} (h:∀ t∈l,JQ t.1≤k):Zm l≤l.length*(k+1):=by
 induction l with
 |nil=>simp [Zm]
 |cons x l ih =>
  have e:Zm (x::l)=JQ x.1+1+Zm l:=by unfold Zm;rw [List.map_cons,List.sum_cons]
  have h1:=ih fun t ht=>h t (by simp [ht])
  have h2:=h x (by simp)
  rw [e,List.length_cons,Nat.add_mul];omega
theorem Pf {a b:List Int} (h:Vd a b<0):before a b=true:=by rw [Wp];exact decide_eq_true h
theorem WK {α:Type} [Inhabited α] {R:α→α→Prop} (ht:∀ a b c,R a b→R b c→R a c):∀ (l:List α),(∀ i,0<i→i<l.length→R (el l (i - 1)) (el l i))→l.Pairwise R
 |[],_=>List.Pairwise.nil
 |x::l,h=>by
  have ih:=WK ht l fun i h0 hi=>by
   have:=h (i+1) (by omega) (by simp;omega)
   have e1:el (x::l) (i+1)=el l i:=rfl
   have e2:el (x::l) (i+1 - 1)=el l (i - 1):=by
    obtain ⟨j,rfl⟩:∃ j,i=j+1:=⟨i - 1,by omega⟩
    rfl
   rw [e1,e2] at this;exact this
  refine List.pairwise_cons.2 ⟨?_,ih⟩
  cases l with
  |nil=>intro y hy;cases hy
  |cons z l =>
   have hz:R x z:=h 1 (by omega) (by simp)
   intro y hy
   rcases List.mem_cons.1 hy with rfl | hy
   ·exact hz
   ·exact ht _ _ _ hz ((List.pairwise_cons.1 ih).1 y hy)
structure Y6 (p:Pt) (v:Int):Prop where
 len:p.length≤64
 term:∀ x∈p,Vq x.1 x.2 v=0
 can:Canon (JN p)
theorem WA {p:Pt} {v:Int} (h:X5 p v=0):Y6 p v:=by
 unfold X5 at h
 split at h
 ·omega
 ·rename_i hl
  have hl':p.length≤64:=by rw [decide_eq_true_eq] at hl;omega
  have hz:∀ i,i<p.length→Wz p v i=0:=by
   have key:∀ (l:List Int),Qm l=0→∀ x∈l,x=0:=by
    intro l
    induction l with
    |nil=>intro _ x hx;cases hx
    |cons a l ih =>
     intro h x hx
     unfold Qm at h
     by_cases g:a=0
     ·rw [if_pos g] at h
      rcases List.mem_cons.1 hx with rfl | hx
      ·exact g
      ·exact ih h x hx
     ·rw [if_neg g] at h;exact absurd h g
   intro i hi
   exact key _ h _ (List.mem_map.2 ⟨i,by simpa using hi,rfl⟩)
  have hs:=fun i hi=>Px (hz i hi)
  have hel:∀ x∈p,∃ i,i<p.length∧el p i=x:=fun x hx=>by
   obtain ⟨i,hi,e⟩:=List.getElem_of_mem hx
   exact⟨i,hi,by rw [Zl hi];exact e⟩
  refine⟨hl',fun x hx=>?_,⟨?_,fun t ht=>?_⟩⟩
  ·obtain ⟨i,hi,rfl⟩:=hel x hx;exact(hs i hi).1
  ·unfold JN
   rw [List.pairwise_map]
   refine WK (R:=fun a b:List UInt8×List Int=>before a.2 b.2=true) (fun a b c h k=>before_trans h k) p fun i h0 hi=>?_
   exact Pf ((hs i hi).2.2 h0)
  ·unfold JN at ht
   obtain ⟨x,hx,rfl⟩:=List.mem_map.1 ht
   obtain ⟨i,hi,rfl⟩:=hel x hx
   have h1:=(VN (hs i hi).1).2.2.2
   have h2:=(hs i hi).2.1
   intro e
   have h3:=(Xs h1).1
   have e':JM (el p i).1=0:=e
   rw [e'] at h3
   exact h2 (h3.trans NI)
theorem Y6.sz {p:Pt} {v:Int} (h:Y6 p v):∀ t∈JN p,JQ t.1≤2400:=fun t ht=>by
 unfold JN at ht
 obtain ⟨x,hx,rfl⟩:=List.mem_map.1 ht
 exact J4 (VN (h.term x hx)).2.2.2
theorem Y6.Zm {p:Pt} {v:Int} (h:Y6 p v):YtknegjaeoffnbaaGreatDoor.Zm (JN p)≤160000:=by
 have h1:=Dd h.sz
 have h2:(JN p).length≤64:=by unfold JN;rw [List.length_map];exact h.len
 have:=Nat.mul_le_mul_right 2401 h2
 omega
theorem Y6.pw {p:Pt} {v:Int} (h:Y6 p v) (hv:v≤24):∀ t∈JN p,PW t.2:=fun t ht=>by
 unfold JN at ht
 obtain ⟨x,hx,rfl⟩:=List.mem_map.1 ht
 exact Wc (h.term x hx) hv
end
section
open Go.RowKit Ig
def vW (ls:List VK) (v:Int) (l:List Tm):Int:=if WR ls v=0 then Di l else WR ls v
def vV (ls:List VK) (v:Int) (l:List Tm):Pt:=if WR ls v=0 then PU l else []
theorem MP {ls:List VK} {v:Int} (h:WR ls v=0):(0≤v∧v≤24)∧∀ e∈ls,Y6 (XJ e.2) v:=by
 unfold WR at h
 split at h
 ·rename_i g
  refine⟨(VH v).1 g,fun e he=>WA ?_⟩
  have key:∀ (l:List Int),Qm l=0→∀ x∈l,x=0:=by
   intro l
   induction l with
   |nil=>intro _ x hx;cases hx
   |cons a l ih =>
    intro h x hx
    unfold Qm at h
    by_cases g:a=0
    ·rw [if_pos g] at h
     rcases List.mem_cons.1 hx with rfl | hx
     ·exact g
     ·exact ih h x hx
    ·rw [if_neg g] at h;exact absurd h g
  exact key _ h _ (List.mem_map.2 ⟨e,he,rfl⟩)
 ·rename_i g;exact absurd h g
theorem Vs {w:World} {F:Gs} {a:VK} {v:Int} (hF:Fits F w) (hGl:JF F) (hR:JB F a.1.q a.1.n 2 (a.2.flatMap Wu)) (hP:Yy F a.2) (ht:Vn a) (ho:Y6 (XJ a.2) v) (hv:0≤v∧v≤24) :
  QT Tryz.prog 130 [a.1.v] w F (fun(c:W8)=>c.1.v) (fun c F=>Jo F c.1 c.2 (JN (XJ a.2))):=by
 have hs:=ho.Zm
 have h:=jL hF hGl (r:=a.1) (ps:=a.2) hR hP ht.1 (by have:=ho.len;simp [XJ] at this;omega) (fun t htm=>?_) (by rw [TO];omega)
 ·rw [TO,GO ho.can] at h;exact h
 ·have h1:=ho.term (t.f,t.k) (List.mem_map.2 ⟨t,htm,rfl⟩)
  exact⟨(VN h1).2.2.2,(ht.2.1 t htm).1,Wc h1 hv.2⟩
theorem Jo.len {F:Gs} {s:Sr} {ts:List XZ} {p:List Tm} (h:Jo F s ts p):ts.length=p.length:=by rw [← h.2.2.1];simp [JK]
theorem XL {ts:List XZ} {p:List Tm} {Q:Tm→Prop} (h:JK ts=p) (hq:∀ t∈p,Q t):∀ t∈ts,Q t.t:=fun t ht=>hq _ (h ▸ List.mem_map_of_mem ht)
theorem NT {l:List Tm} (hp:∀ t∈l,PW t.2):∀ t∈XK l,PW t.2:=fun t ht=>by
 obtain ⟨y,hy,e⟩:=Ds ht
 rw [← e];exact hp y hy
end
section
open Go.RowKit Ig
def vT (c:List UInt8) (p:Pt) (v:Int) (l:List Tm):Int:=if Qm [Zr v,Jg c]=0 then(if X5 p v=0 then Di l else X5 p v) else Qm [Zr v,Jg c]
def vS (c:List UInt8) (p:Pt) (v:Int) (l:List Tm):Pt:=if Qm [Zr v,Jg c]=0 then(if X5 p v=0 then PU l else []) else []
theorem NY {a:Rat} {l:List Tm} {t:Tm} (h:t∈WU a l):∃ y∈l,t=(y.1*a,y.2):=by
 unfold WU at h
 split at h
 ·cases h
 ·obtain ⟨y,hy,e⟩:=List.mem_map.1 h;exact⟨y,hy,e.symm⟩
theorem A9 (a:Rat) (l:List Tm):(WU a l).length≤l.length:=by
 unfold WU;split<;>simp
def P9 (p:Pt) (n:Nat):Int:=if Qm [if decide ((n:Int)=0)=true then 2 else 0,if decide ((n:Int)>25)=true then 5 else 0]=0 then X5 p ((n:Int) - 1) else Qm [if decide ((n:Int)=0)=true then 2 else 0,if decide ((n:Int)>25)=true then 5 else 0]
theorem IA {n:Nat} (h:Qm [if decide ((n:Int)=0)=true then 2 else 0,if decide ((n:Int)>25)=true then 5 else 0]=0):1≤n∧n≤25:=by
 obtain ⟨h1,h2⟩:=VY h
 simp only [decide_eq_true_eq] at h1 h2
 constructor
 ·split at h1<;>omega
 ·split at h2<;>omega
theorem xw {w:World} {F:Gs} {a:VK} {c:List UInt8} {v:Int} (hF:Fits F w) (hGl:JF F) (hR:JB F a.1.q a.1.n 2 (a.2.flatMap Wu)) (hA:Yy F a.2) (ht:Vn a) (hcl:c.length≤1000000) :
  QT Tryz.prog 76 [tx c,a.1.v,.int .i64 v] w F (fun(r:VK)=>.tuple #[r.1.v,.int .i64 (vT c (XJ a.2) v (WU (JM c) (JN (XJ a.2))))]) (fun r F=>Vm F r.1 r.2 (vS c (XJ a.2) v (WU (JM c) (JN (XJ a.2))))):=by
 dsimp only [Sr.v]
 refine QT.intro (G:=fun F=>JF F∧JB F a.1.q a.1.n 2 (a.2.flatMap Wu)∧Yy F a.2) Tryz.func76 rfl (by rfl) rfl rfl hF (fun F' hF'=>⟨hGl.le hF',hR.le hF',hA.le hF'⟩)<|QG<|QB<|QA (QE rfl)<|QA (QE rfl)<|QF<|QC<|QG<|QG<|QB<|QA (QD rfl)<|QH rfl (fun w F hF ⟨hGl,hR,hA⟩=>Gy hF ) (fun _=>QA (QD rfl)<|QH rfl (fun w F hF ⟨⟨hGl,hR,hA⟩,_⟩=>MO hF hGl (hcl)) (fun _=>QW rfl (Q8 Zq) KC BI rfl rfl (fun b14=>QH rfl (fun w F hF ⟨⟨⟨⟨hGl,hR,hA⟩,_⟩,_⟩,hs14⟩=>YE hF (JB.of (cs:=List.map Q3 [Zr v,Jg c]) hs14 rfl) (by decide)) (fun _=>QA (QE rfl)<|QF<|QC<|QG<|QB<|QA (QD rfl)<|QA (QU rfl rfl rfl)<|QF<|QC ?_))))
 refine QQ rfl (fun hc=>?_) (fun hc=>?_)
 ·
  have hc0:=bne_iff_ne.1 hc
  refine QG<|QB<|QA (QD rfl)<|QA (QE rfl)<|QA (QE rfl)<|QF<|QC<|QR ?_
  exact Jb ((⟨none,0,0⟩,[])) rfl (.tmp rfl (.tmp rfl .nil)) (by unfold vT;rw [if_neg hc0]) (fun F ⟨⟨⟨⟨⟨hGl,hR,hA⟩,_⟩,_⟩,hs14⟩,_⟩=>by unfold vS;rw [if_neg hc0];exact Vm.nil F)
 ·
  have hc0:=bne_eq_false_iff_eq.1 hc
  obtain ⟨hc1,hc2⟩:=VY hc0
  have hv:=(VH v).1 hc1
  refine QP<|QC<|QG<|QG<|QB<|QA (QD rfl)<|QA (QD rfl)<|QH rfl (fun w F hF ⟨⟨⟨⟨⟨hGl,hR,hA⟩,_⟩,_⟩,hs14⟩,_⟩=>B8 hF (hGl) (hR) (hA) (ht.1) (ht.2.1) (ht.2.2) (hv)) (fun _=>QA (QE rfl)<|QF<|QC<|QG<|QB<|QA (QD rfl)<|QA (QU rfl rfl rfl)<|QF<|QC ?_)
  refine QQ rfl (fun hc=>?_) (fun hc=>?_)
  ·
   have ht0:=bne_iff_ne.1 hc
   refine QG<|QB<|QA (QD rfl)<|QA (QE rfl)<|QA (QE rfl)<|QF<|QC<|QR ?_
   exact Jb ((⟨none,0,0⟩,[])) rfl (.tmp rfl (.tmp rfl .nil)) (by unfold vT;rw [if_pos hc0,if_neg ht0]) (fun F ⟨⟨⟨⟨⟨⟨hGl,hR,hA⟩,_⟩,_⟩,hs14⟩,_⟩,_⟩=>by unfold vS;rw [if_pos hc0,if_neg ht0];exact Vm.nil F)
  ·
   have ht0:=bne_eq_false_iff_eq.1 hc
   have oa:=WA ht0
   have sa:=oa.Zm
   have hpa:∀ t∈JN (XJ a.2),PW t.2:=oa.pw hv.2
   have la:(JN (XJ a.2)).length≤64:=by unfold JN;rw [List.length_map];exact oa.len
   have hzc:=J4 hc2
   have hll:=A9 (JM c) (JN (XJ a.2))
   refine QP<|QC<|QG<|QB<|QA (QD rfl)<|QH rfl (fun w F hF ⟨⟨⟨⟨⟨⟨hGl,hR,hA⟩,_⟩,_⟩,hs14⟩,_⟩,_⟩=>Vs hF hGl (a:=a) hR hA ht oa hv) (fun c26=>JJ _ (fun w F hF h=>And.intro h.2.2.2.1 h.2.len) (fun h26p=>?_))
   obtain ⟨e26,l26⟩:=h26p
   refine QA (QD rfl)<|QH rfl (fun w F hF ⟨⟨⟨⟨⟨⟨⟨hGl,hR,hA⟩,_⟩,_⟩,hs14⟩,_⟩,_⟩,h26⟩=>H9 hF hGl (Xs hc2).1 (by omega)) (fun x28=>QH rfl (fun w F hF ⟨⟨⟨⟨⟨⟨⟨⟨hGl,hR,hA⟩,_⟩,_⟩,hs14⟩,_⟩,_⟩,h26⟩,⟨h28,h28_⟩⟩=>CC hF (p:=c26) (x:=x28) (by rw [e26];exact h26) ⟨h28,h28_⟩ (by omega) (by omega) (by rw [e26];omega)) (fun c29=>JJ _ (fun w F hF h=>And.intro h.2.2.2.1 h.2.len) (fun h29p=>?_)))
   obtain ⟨e29,l29⟩:=h29p
   rw [e26] at e29 l29
   refine QH rfl (fun w F hF ⟨⟨⟨⟨⟨⟨⟨⟨⟨hGl,hR,hA⟩,_⟩,_⟩,hs14⟩,_⟩,_⟩,h26⟩,⟨h28,h28_⟩⟩,h29⟩=>GJ hF (q:=c29.1.q) (n:=c29.1.n) (cap:=c29.1.cap) (ts:=c29.2) (by rw [e29];rw [e26] at h29;exact h29) hGl (XL (Q:=fun t=>PW t.2) e29 (fun t ht=>by obtain ⟨y,hy,e⟩:=NY ht;rw [e];exact hpa y hy)) (XL (Q:=fun t=>JQ t.1≤100000000) e29 (fun t ht=>by obtain ⟨y,hy,e⟩:=NY ht;rw [e];have h1:=Jz y.1 (JM c);have h2:=oa.sz y hy;dsimp only;omega)) (by omega)) (fun c30=>?_)
   rw [e29]
   refine QA (QM rfl rfl)<|QA (QM rfl rfl)<|QA (QE rfl)<|QA (QE rfl)<|QF<|QC<|QR ?_
   exact Jb (c30) rfl (.tmp rfl (.tmp rfl .nil)) (by unfold vT;rw [if_pos hc0,if_pos ht0];rfl) (fun F ⟨⟨⟨⟨⟨⟨⟨⟨⟨⟨hGl,hR,hA⟩,_⟩,_⟩,hs14⟩,_⟩,_⟩,h26⟩,⟨h28,h28_⟩⟩,h29⟩,h30⟩=>by unfold vS;rw [if_pos hc0,if_pos ht0];exact h30)
theorem CJ {w:World} {F:Gs} {a:VK} {n:Nat} (hF:Fits F w) (hGl:JF F) (hR:JB F a.1.q a.1.n 2 (a.2.flatMap Wu)) (hA:Yy F a.2) (ht:Vn a) (hn:n≤1000000) :
  QV Tryz.prog 185 [a.1.v,.int .i64 (n:Nat)] w F (.int .i64 (P9 (XJ a.2) n)):=by
 dsimp only [Sr.v]
 refine QT.intro (G:=fun F=>JF F∧JB F a.1.q a.1.n 2 (a.2.flatMap Wu)∧Yy F a.2) Tryz.func185 rfl (by rfl) rfl rfl hF (fun F' hF'=>⟨hGl.le hF',hR.le hF',hA.le hF'⟩)<|QG<|QB<|QA (QE rfl)<|QF<|QC<|QG<|QG<|QB<|QA (QD rfl)<|QA (QU rfl rfl rfl)<|QH rfl (fun w F hF ⟨hGl,hR,hA⟩=>Zz hF ) (fun _=>QA (QD rfl)<|QA (QU rfl rfl rfl)<|QH rfl (fun w F hF ⟨⟨hGl,hR,hA⟩,_⟩=>Zz hF ) (fun _=>QW rfl (Q8 Zq) KC BI rfl rfl (fun b12=>QH rfl (fun w F hF ⟨⟨⟨⟨hGl,hR,hA⟩,_⟩,_⟩,hs12⟩=>YE hF (JB.of (cs:=List.map Q3 [if decide ((n:Int)=0)=true then 2 else 0,if decide ((n:Int)>25)=true then 5 else 0]) hs12 rfl) (by decide)) (fun _=>QA (QE rfl)<|QF<|QC<|QG<|QB<|QA (QD rfl)<|QA (QU rfl rfl rfl)<|QF ?_))))
 refine QC ?_
 refine QQ rfl (fun hc=>?_) (fun hc=>?_)
 ·
  have hc0:=bne_iff_ne.1 hc
  refine QG<|QB<|QA (QD rfl)<|QA (QE rfl)<|QF<|QC<|QR ?_
  exact QN (()) rfl (.tmp rfl .nil) (congrArg (Value.int .i64) (by unfold P9;rw [if_neg hc0])) (fun F ⟨⟨⟨⟨⟨hGl,hR,hA⟩,_⟩,_⟩,hs12⟩,_⟩=>trivial)
 ·
  have hc0:=bne_eq_false_iff_eq.1 hc
  have hv:=IA hc0
  refine QP<|QC<|QG<|QB<|QA (QD rfl)<|QA (QD rfl)<|QA (Jx rfl rfl (by omega))<|QH rfl (fun w F hF ⟨⟨⟨⟨⟨hGl,hR,hA⟩,_⟩,_⟩,hs12⟩,_⟩=>B8 hF (hGl) (hR) (hA) (ht.1) (ht.2.1) (ht.2.2) (by omega)) (fun _=>QA (QE rfl)<|QF<|QC<|QR ?_)
  exact QN (()) rfl (.tmp rfl .nil) (congrArg (Value.int .i64) (by unfold P9;rw [if_pos hc0])) (fun F ⟨⟨⟨⟨⟨⟨hGl,hR,hA⟩,_⟩,_⟩,hs12⟩,_⟩,_⟩=>trivial)
end
end Go.Proofs.YtknegjaeoffnbaaGreatDoor
