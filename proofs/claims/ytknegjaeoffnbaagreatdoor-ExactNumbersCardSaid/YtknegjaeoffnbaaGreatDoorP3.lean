/- Steps of the proof of the theorem in the last file. -/
import Derived.Test.YtknegjaeoffnbaaGreatDoorP2
import Derived.MapKept
import Derived.Maps.RangeRun
import Derived.Lib.ItoaLen
import Derived.Shelf.SlSortCmp.PdqK
import Derived.Ground.SlsfProg
import Derived.Test.YtknegjaeoffnbaaGreatDoorProg
import Derived.Sort.AssemblyPlain
import Derived.Shelf.SlSortCmp.NoneTotal
set_option linter.all false
namespace Go.Proofs.YtknegjaeoffnbaaGreatDoor
section
open Go.RowKit Ig
def YG (x:Rat):Rat:=if x.num<0 then -x else x
theorem Oz (x:Rat):(YG x).num=(x.num.natAbs:Int)∧(YG x).den=x.den:=by
 unfold YG;split
 ·exact⟨by rw [Rat.neg_num];omega,by rw [Rat.neg_den]⟩
 ·exact⟨by omega,rfl⟩
theorem LL {z:Int} (h:z<0):XX z=45::XX (-z):=by
 rw [Zg h,Jj (z:=-z) (by omega)];congr 2;omega
theorem BX {x:Rat} (h:x.num<0):JJ x=45::JJ (-x):=by
 unfold JJ
 rw [Rat.neg_num,Rat.neg_den,LL h]
 split<;>rfl
theorem Vp (x:Rat):Lib.hasPrefix (JJ x) [45]=decide (x.num<0):=by
 by_cases h:x.num<0
 ·rw [BX h];simp [Lib.hasPrefix,List.isPrefixOf,h]
 ·have e:(decide (x.num<0))=false:=by simpa using h
  rw [e]
  unfold JJ
  rw [Jj (by omega)]
  have hd:=JZ x.num.natAbs
  split
  ·exact KB hd
  ·have hne:=Yv x.num.natAbs
   cases hl:Lib.decDigits x.num.natAbs with
   |nil=>exact absurd hl hne
   |cons c r =>
    have:=KB hd
    rw [hl] at this
    simpa [Lib.hasPrefix,List.isPrefixOf] using this
theorem Tc (x:Rat):Lib.trimPrefix (JJ x) [45]=JJ (YG x):=by
 unfold Lib.trimPrefix YG
 rw [Vp]
 by_cases h:x.num<0
 ·rw [if_pos (by simpa using h),if_pos h,BX h];rfl
 ·rw [if_neg (by simpa using h),if_neg h]
theorem OS (x:Rat):JX (YG x)=JX x:=by
 unfold YG;split
 ·exact Gb x
 ·rfl
def xL (x:Rat) (c:Int×Int×Bool):Prop:=c.2.2=true→c.1=x.num∧c.2.1=(x.den:Int)∧x.num.natAbs<1000000000∧x.den<1000000000
theorem M6 {l:List UInt8} (h:XC l=true) (hl:l.length≤9):JB l<1000000000:=by
 have h1:=VL h
 have h2:10^l.length≤10^9:=Nat.pow_le_pow_right (by decide) hl
 omega
theorem BV {w:World} {F:Gs} {x:Rat} (hF:Fits F w) (hl:JX x≤100000):QT Tryz.prog 194 [tx (JJ x)] w F (fun(c:Int×Int×Bool)=>.tuple #[.int .i64 c.1,.int .i64 c.2.1,.bool c.2.2]) (fun c _=>xL x c):=by
 have hlen:=Gj x
 have hlen2:=Gj (YG x)
 rw [OS] at hlen2
 obtain ⟨an,ad⟩:=Oz x
 have hah:=Yw Jn (JJ (YG x))
 have anT:XX (YG x).num=Lib.decDigits x.num.natAbs:=by rw [an,Jj (by omega)];rfl
 refine QT.intro (G:=fun F=>True) Tryz.func194 rfl (by rfl) rfl rfl hF (fun F' hF'=>trivial)<|QG<|QB<|QA (QE rfl)<|QA (QE rfl)<|QA (QE rfl)<|QF<|QD<|QG<|QB<|QA (QC rfl)<|QA (QE rfl)<|QF<|QD<|QG<|QG<|QB<|QA (QC rfl)<|QA (Jo rfl J5)<|QA (QU rfl rfl rfl)<|QF<|QD ?_
 refine QO rfl (fun hc=>?_) (fun hc=>?_)
 ·
  refine QG<|QB<|QA (QE rfl)<|QA (QE rfl)<|QA (QE rfl)<|QF<|QD<|QS ?_
  exact JH ((0,0,false):Int×Int×Bool) rfl (.tmp rfl (.tmp rfl (.tmp rfl .nil))) (rfl) (fun F hT=>fun h=>by cases h)
 ·
  refine QN<|QD ?_
  refine Z5 [(5,_)] [(6,.bool (decide (x.num<0)))] ⟨rfl,trivial⟩ ?_ ?_
  ·
   refine QB<|QA (QC rfl)<|QA (Jo rfl J5)<|QA (QU rfl rfl rfl)<|QA (QC rfl) ?_
   refine Qk (t:=17) rfl (fun hb17=>?_) (fun hb17=>?_)
   ·
    refine QJ rfl rfl<|QA (QC rfl)<|QJ rfl rfl<|QA (KA (i:=0) rfl rfl J5 (by have:=of_decide_eq_true hb17;omega))<|QJ rfl rfl<|QA (QU rfl rfl rfl)<|QA (Qi rfl rfl rfl)<|QA (QE rfl)<|QF ?_
    exact XI ⟨rfl,(congrArg (fun b=>some (Value.bool b)) (by have h0:0<(JJ x).length:=(by have:=of_decide_eq_true hb17;omega);rw [← Vp,Yt h0];exact W3 rfl)),trivial⟩ (List.Sublist.refl _) (fun _ h=>h)
   ·
    refine QR rfl rfl rfl<|QR rfl rfl rfl<|QR rfl rfl rfl<|QA (Qh rfl rfl rfl)<|QA (QE rfl)<|QF ?_
    exact XI ⟨rfl,(congrArg (fun b=>some (Value.bool b)) (by have h0:(JJ x).length=0:=(by have:=of_decide_eq_false hb17;omega);rw [← Vp,List.eq_nil_of_length_eq_zero h0];rfl)),trivial⟩ (List.Sublist.refl _) (fun _ h=>h)
  ·
   simp only [List.cons_append,List.nil_append]
   refine Z5 [(6,_)] [(5,tx (JJ (YG x)))] ⟨rfl,trivial⟩ ?_ ?_
   ·
    refine QG<|QB<|QA (QC rfl)<|QF<|QD ?_
    refine QO rfl (fun hc=>?_) (fun hc=>?_)
    ·
     refine QB<|QA (QC rfl)<|QA (Zr (1) rfl rfl J5 rfl (by have:=Hq (s:=JJ x) (by rw [Vp];exact hc);omega))<|QA (QE rfl)<|QF ?_
     exact XI ⟨rfl,(congrArg (fun l=>some (tx l)) (by rw [← Tc];unfold Lib.trimPrefix;rw [if_pos (by rw [Vp];exact hc)];rfl)),trivial⟩ (List.Sublist.refl _) (fun _ h=>h)
    ·
     refine QN ?_
     exact XI ⟨rfl,(congrArg (fun l=>some (tx l)) (by rw [← Tc];unfold Lib.trimPrefix;rw [Vp,hc];rfl)),trivial⟩ (List.Sublist.refl _) (fun _ h=>h)
   ·
    simp only [List.cons_append,List.nil_append]
    refine QG<|QB<|QA (QC rfl)<|QH rfl (fun w F hF hT=>VK hF (by omega)) (fun _=>QA (QE rfl)<|QF<|QD<|QG<|QG<|QB<|QA (QC rfl)<|QA (QU rfl rfl rfl)<|QA (QC rfl) ?_)
    refine Qk (t:=29) rfl (fun hb29=>?_) (fun hb29=>?_)
    ·
     refine QR rfl rfl rfl<|QR rfl rfl rfl<|QR rfl rfl rfl<|QR rfl rfl rfl<|QR rfl rfl rfl<|QA (Qi rfl rfl rfl)<|QF<|QD<|K8 rfl<|QG<|QB<|QA (QE rfl)<|QA (QE rfl)<|QA (QE rfl)<|QF<|QD<|QS ?_
     exact JH ((0,0,false):Int×Int×Bool) rfl (.tmp rfl (.tmp rfl (.tmp rfl .nil))) (rfl) (fun F ⟨hT,_⟩=>fun h=>by cases h)
    ·
     refine QJ rfl rfl<|QA (QC rfl)<|QJ rfl rfl<|QA (Jo rfl J5)<|QJ rfl rfl<|QA (QC rfl)<|QJ rfl rfl<|QA (Jx rfl rfl (by omega))<|QJ rfl rfl<|QA (QU rfl rfl rfl)<|QA (Qh rfl rfl rfl)<|QF<|QD ?_
     refine QO rfl (fun hc=>?_) (fun hc=>?_)
     ·
      refine QG<|QB<|QA (QE rfl)<|QA (QE rfl)<|QA (QE rfl)<|QF<|QD<|QS ?_
      exact JH ((0,0,false):Int×Int×Bool) rfl (.tmp rfl (.tmp rfl (.tmp rfl .nil))) (rfl) (fun F ⟨hT,_⟩=>fun h=>by cases h)
     ·
      have k9:ahead Jn (JJ (YG x))≤9∧(JJ (YG x)).length - ahead Jn (JJ (YG x))≤10:=by
       have ha:=Yw Jn (JJ (YG x))
       first | (simp at hc hb29;omega) | (simp at hc;omega)
      have kt:(JJ (YG x)).take (ahead Jn (JJ (YG x)))=XX (YG x).num:=by
       by_cases hd:(YG x).den=1
       ·obtain ⟨e1,e2⟩:=Hm hd
        rw [e2,List.take_length,e1]
       ·exact(Kg hd).2.2.1
      have kr:JB ((JJ (YG x)).take (ahead Jn (JJ (YG x))))=x.num.natAbs:=by rw [kt,anT,XP]
      have hnum:x.num.natAbs<1000000000:=by
       have h1:=M6 (l:=XX (YG x).num) (by rw [anT];exact JZ _) (by rw [← kt,List.length_take];omega)
       rw [anT,XP] at h1;exact h1
      have hdn:x.den<1000000000:=by
       rw [← ad]
       by_cases hd:(YG x).den=1
       ·omega
       ·obtain ⟨e1,e2,e3,e4⟩:=Kg hd
        have h1:=M6 (l:=Lib.decDigits (YG x).den) (JZ _) (by rw [← e4,List.length_drop];omega)
        rw [XP] at h1;exact h1
      refine QN<|QD<|QG<|QB<|QA (QC rfl)<|QA (QC rfl)<|QA (Vq (ahead Jn (JJ (YG x))) rfl rfl J5 rfl (by omega))<|QH rfl (fun w F hF ⟨hT,_⟩=>BS hF (by rw [kt,anT];exact JZ _) (by rw [List.length_take];omega)) (fun _=>?_)
      rw [kr]
      refine QA (QE rfl)<|QA (QE rfl)<|QF<|QD ?_
      refine Z5 [(6,_),(8,_)] [(9,.int .i64 (x.den:Int))] ⟨rfl,rfl,trivial⟩ ?_ ?_
      ·
       refine QG<|QB<|QA (QC rfl)<|QA (QC rfl)<|QA (Jo rfl J5)<|QA (QU rfl rfl rfl)<|QF<|QD ?_
       refine QO rfl (fun hc=>?_) (fun hc=>?_)
       ·
        have hlt:=of_decide_eq_true hc
        have hd:¬ (YG x).den=1:=fun g=>by have:=(Hn (YG x)).2 g;have:=of_decide_eq_true hc;omega
        have kd:=(Kg hd).2.2.2
        have kd2:JB ((JJ (YG x)).drop (ahead Jn (JJ (YG x))+1))=x.den:=by rw [kd,XP,ad]
        refine QB<|QA (QC rfl)<|QA (QC rfl)<|QA (Qw rfl rfl (by omega))<|QA (Zr ((ahead Jn (JJ (YG x))+1)) rfl rfl J5 (congrArg (fun z:Int=>some (Value.int .i64 z)) (by omega)) (by omega))<|QH rfl (fun w F hF ⟨⟨hT,_⟩,_⟩=>BS hF (by rw [kd];exact JZ _) (by rw [List.length_drop];omega)) (fun _=>?_)
        rw [kd2]
        refine QA (QE rfl)<|QF ?_
        exact XI ⟨rfl,rfl,rfl,trivial⟩ (List.Sublist.refl _) (fun _ h=>h.1)
       ·
        have hd:(YG x).den=1:=(Hn (YG x)).1 (by have:=of_decide_eq_false hc;have:=Yw Jn (JJ (YG x));omega)
        refine QN ?_
        exact XI ⟨rfl,rfl,(congrArg (fun z:Int=>some (Value.int .i64 z)) (by rw [← ad,hd];rfl)),trivial⟩ (List.Sublist.refl _) (fun _ h=>h)
      ·
       simp only [List.cons_append,List.nil_append]
       have hden:x.den<1000000000:=hdn
       refine Z5 [(9,_)] [(8,.int .i64 (x.num))] ⟨rfl,trivial⟩ ?_ ?_
       ·
        refine QG<|QB<|QA (QC rfl)<|QF<|QD ?_
        refine QO rfl (fun hc=>?_) (fun hc=>?_)
        ·
         refine QB<|QA (QC rfl)<|QA (Jx rfl rfl (by omega))<|QA (QE rfl)<|QF ?_
         exact XI ⟨rfl,(congrArg (fun z:Int=>some (Value.int .i64 z)) (by have:=of_decide_eq_true hc;omega)),trivial⟩ (List.Sublist.refl _) (fun _ h=>h)
        ·
         refine QN ?_
         exact XI ⟨rfl,(congrArg (fun z:Int=>some (Value.int .i64 z)) (by have:=of_decide_eq_false hc;omega)),trivial⟩ (List.Sublist.refl _) (fun _ h=>h)
       ·
        simp only [List.cons_append,List.nil_append]
        refine QG<|QB<|QA (QC rfl)<|QA (QC rfl)<|QA (QE rfl)<|QA (QE rfl)<|QA (QE rfl)<|QF<|QD<|QS ?_
        exact JH ((x.num,(x.den:Int),true):Int×Int×Bool) rfl (.tmp rfl (.tmp rfl (.tmp rfl .nil))) (rfl) (fun F ⟨⟨hT,_⟩,_⟩=>fun _=>⟨rfl,rfl,hnum,hden⟩)
end
section
open Go.RowKit Ig
section
variable {P:Program} {N:Nat} {m:Sl} {S:World→Prop} {ty:TypeId}
theorem zW {T yT:TypeId} {x y:Operand} {a b:Int} (hx:ev m x=some (.int .i64 a)) (hy:ev m y=some (.int .i64 b)) (h:0<b) (h0 : -9223372036854775807≤a) (h1:a≤9223372036854775807):Qt P N m S (.binOp .quo T x y yT) ty (.int .i64 (a.tdiv b)):=by
 have:=F9 (P:=P) (N:=N) (m:=m) (S:=S) (ty:=ty) (T:=T) (yT:=yT) hx hy (by omega)
 have e:=Int.natAbs_tdiv a b
 have e2:a.natAbs.div b.natAbs≤a.natAbs:=Nat.div_le_self _ _
 rw [IntWalk.i64_in _ (by omega)] at this;exact this
end
theorem qt {w:World} {F:Gs} {x y:Int} (hF:Fits F w) (h0:0≤x) (h1:x≤9223372036854775807) (k0:0≤y) (k1:y≤9223372036854775807):QW Tryz.prog 181 [.int .i64 x,.int .i64 y] w F (.int .i64 (Nat.gcd x.toNat y.toNat:Nat)):=by
 have:=zO (a:=x.toNat) (b:=y.toNat) hF (by omega) (by omega)
 rw [Int.toNat_of_nonneg h0,Int.toNat_of_nonneg k0] at this;exact this
theorem Cf (z:Int):(if 0 - z>z then 0 - z else z)=((z.natAbs:Nat):Int):=by split<;>omega
theorem Uv (n:Nat):Ds n 1=Lib.decDigits n:=by
 rcases Nat.eq_zero_or_pos n with h | h
 ·subst h;unfold Ds hd;rw [if_pos rfl,X8];rfl
 ·exact Nw h
theorem CY {n:Int} {d:Nat} (h:0<d):n.tdiv ((Nat.gcd n.natAbs d:Nat):Int)=(Rat.divInt n d).num:=by
 rw [(YE (x:=n) (y:=(d:Int)) (by omega)).1]
 have e:(Nat.gcd n.natAbs d:Nat)=Int.gcd n (d:Int):=by simp [Int.gcd]
 rw [e]
 exact Int.tdiv_eq_ediv_of_dvd (Int.gcd_dvd_left (a:=n) (b:=(d:Int)))
theorem CZ {n:Int} {d:Nat} (h:0<d):(d:Int) / ((Nat.gcd n.natAbs d:Nat):Int)=((Rat.divInt n d).den:Int):=by
 rw [(YE (x:=n) (y:=(d:Int)) (by omega)).2]
 have e:(Nat.gcd n.natAbs d:Nat)=Int.gcd n (d:Int):=by simp [Int.gcd]
 rw [e]
theorem jN (n:Int) {d:Int} (h:d≠0):Rat.divInt (if d<0 then 0 - n else n) (d.natAbs:Int)=Rat.divInt n d:=by
 split
 ·rename_i g
  rw [show((d.natAbs:Nat):Int) = -d by omega,Int.zero_sub];exact Rat.neg_divInt_neg n d
 ·rw [show((d.natAbs:Nat):Int)=d by omega]
theorem Ca {n:Int} {d:Nat} (h:0<d) (hn:n.natAbs≤4000000000000000000) (hd:d≤4000000000000000000):(Rat.divInt n d).num.natAbs≤4000000000000000000∧(Rat.divInt n d).den≤4000000000000000000∧0<(Rat.divInt n d).den:=by
 have e1:=CY (n:=n) h
 have e2:=CZ (n:=n) h
 have k1:=Int.natAbs_tdiv n ((Nat.gcd n.natAbs d:Nat):Int)
 have k2:n.natAbs.div ((Nat.gcd n.natAbs d:Nat):Int).natAbs≤n.natAbs:=Nat.div_le_self _ _
 have k3:(d:Int) / ((Nat.gcd n.natAbs d:Nat):Int)≤(d:Int):=Int.ediv_le_self _ (by omega)
 have k4:=(Rat.divInt n d).den_pos
 rw [e1] at k1
 omega
theorem Ts (z:Int):(if z<0 then [45] else [])++Lib.decDigits z.natAbs=XX z:=by
 split
 ·rename_i h;rw [Zg h];rfl
 ·rw [Jj (by omega)];rfl
theorem qh {z:Int} (h : -9223372036854775808≤z∧z≤9223372036854775807):sz z≤64:=by
 rw [Xx];omega
theorem xa {w:World} {F:Gs} {num den:Int} (hF:Fits F w) (hn : -9223372036854775808≤num∧num≤9223372036854775807) (hd : -9223372036854775808≤den∧den≤9223372036854775807) (h0:den≠0):QW Tryz.prog 74 [.int .i64 num,.int .i64 den] w F (tx (JJ (Rat.divInt num den))):=by
 refine QT.intro (G:=fun F=>True) Tryz.func74 rfl (by rfl) rfl rfl hF (fun F' hF'=>trivial)<|QG<|QB<|QA (QE rfl)<|QF<|QD<|QG ?_
 refine Z5 [(0,_),(1,_)] [(20,.bool (decide (num < -4000000000000000000∨num>4000000000000000000∨den < -4000000000000000000∨den>4000000000000000000)))] ⟨rfl,rfl,trivial⟩ ?_ ?_
 ·
  refine QB<|QA (QC rfl)<|QA (QU rfl rfl rfl)<|QA (QC rfl) ?_
  refine Qk (t:=9) rfl (fun hb9=>?_) (fun hb9=>?_)
  ·
   refine QR rfl rfl rfl<|QR rfl rfl rfl<|QA (Qi rfl rfl rfl)<|QA (QC rfl)<|QR rfl rfl rfl<|QR rfl rfl rfl<|QA (Qi rfl rfl rfl)<|QA (QC rfl)<|QR rfl rfl rfl<|QR rfl rfl rfl<|QA (Qi rfl rfl rfl)<|QF ?_
   exact XI ⟨rfl,rfl,(congrArg (fun b=>some (Value.bool b)) (by rw [Bool.eq_iff_iff];simp_all;try omega)),trivial⟩ (List.Sublist.refl _) (fun _ h=>h)
  ·
   refine QJ rfl rfl<|QA (QC rfl)<|QJ rfl rfl<|QA (QU rfl rfl rfl)<|QA (Qh rfl rfl rfl)<|QA (QC rfl) ?_
   refine Qk (t:=13) rfl (fun hb13=>?_) (fun hb13=>?_)
   ·
    refine QR rfl rfl rfl<|QR rfl rfl rfl<|QA (Qi rfl rfl rfl)<|QA (QC rfl)<|QR rfl rfl rfl<|QR rfl rfl rfl<|QA (Qi rfl rfl rfl)<|QF ?_
    exact XI ⟨rfl,rfl,(congrArg (fun b=>some (Value.bool b)) (by rw [Bool.eq_iff_iff];simp_all;try omega)),trivial⟩ (List.Sublist.refl _) (fun _ h=>h)
   ·
    refine QJ rfl rfl<|QA (QC rfl)<|QJ rfl rfl<|QA (QU rfl rfl rfl)<|QA (Qh rfl rfl rfl)<|QA (QC rfl) ?_
    refine Qk (t:=17) rfl (fun hb17=>?_) (fun hb17=>?_)
    ·
     refine QR rfl rfl rfl<|QR rfl rfl rfl<|QA (Qi rfl rfl rfl)<|QF ?_
     exact XI ⟨rfl,rfl,(congrArg (fun b=>some (Value.bool b)) (by rw [Bool.eq_iff_iff];simp_all;try omega)),trivial⟩ (List.Sublist.refl _) (fun _ h=>h)
    ·
     refine QJ rfl rfl<|QA (QC rfl)<|QJ rfl rfl<|QA (QU rfl rfl rfl)<|QA (Qh rfl rfl rfl)<|QF ?_
     exact XI ⟨rfl,rfl,(congrArg (fun b=>some (Value.bool b)) (by rw [Bool.eq_iff_iff];simp_all;try omega)),trivial⟩ (List.Sublist.refl _) (fun _ h=>h)
 ·
  simp only [List.cons_append,List.nil_append]
  refine QO rfl (fun hc=>?_) (fun hc=>?_)
  ·
   refine QG<|QB<|QA (QC rfl)<|QH rfl (fun w F hF hT=>Ge hF (by omega)) (fun c22=>QA (QC rfl)<|QH rfl (fun w F hF ⟨hT,h22⟩=>Ge hF (by omega)) (fun c24=>QH rfl (fun w F hF ⟨⟨hT,h22⟩,h24⟩=>Yd hF (h22) (h24) (h0) (by have:=qh hn;omega) (by have:=qh hd;omega)) (fun _=>QA (QE rfl)<|QF<|QD<|QS ?_)))
   exact QQ (()) rfl (.tmp rfl .nil) (rfl) (fun F ⟨⟨⟨hT,h22⟩,h24⟩,_⟩=>trivial)
  ·
   have hb:¬ (num < -4000000000000000000∨num>4000000000000000000∨den < -4000000000000000000∨den>4000000000000000000):=of_decide_eq_false hc
   refine QN<|QD ?_
   refine Z5 [] [(0,.int .i64 (if den<0 then 0 - num else num)),(1,.int .i64 ((den.natAbs:Nat):Int))] trivial ?_ ?_
   ·
    refine QG<|QB<|QA (QC rfl)<|QA (QU rfl rfl rfl)<|QF<|QD ?_
    refine QO rfl (fun hc=>?_) (fun hc=>?_)
    ·
     refine QB<|QA (QC rfl)<|QA (Jx rfl rfl (by omega))<|QA (QC rfl)<|QA (Jx rfl rfl (by omega))<|QA (QE rfl)<|QA (QE rfl)<|QF ?_
     exact XI ⟨(congrArg (fun z:Int=>some (Value.int .i64 z)) (if_pos (of_decide_eq_true hc)).symm),(congrArg (fun z:Int=>some (Value.int .i64 z)) (by have:=of_decide_eq_true hc;omega)),trivial⟩ (List.Sublist.refl _) (fun _ h=>h)
    ·
     refine QN ?_
     exact XI ⟨(congrArg (fun z:Int=>some (Value.int .i64 z)) (if_neg (of_decide_eq_false hc)).symm),(congrArg (fun z:Int=>some (Value.int .i64 z)) (by have:=of_decide_eq_false hc;omega)),trivial⟩ (List.Sublist.refl _) (fun _ h=>h)
   ·
    simp only [List.cons_append,List.nil_append]
    have hq:=jN num h0
    have b1:(if den<0 then 0 - num else num).natAbs≤4000000000000000000:=by split<;>omega
    generalize (if den<0 then 0 - num else num)=n1 at *
    obtain ⟨c1,c2,c3⟩:=Ca (n:=n1) (d:=den.natAbs) (by omega) b1 (by omega)
    have hg:0<Nat.gcd n1.natAbs den.natAbs:=Nat.gcd_pos_of_pos_right _ (by omega)
    have lr1:=Gk (Rat.divInt n1 (den.natAbs:Int)).num
    have lr2:=SF (Rat.divInt n1 (den.natAbs:Int)).den
    have lz1:=qh (z:=(Rat.divInt n1 (den.natAbs:Int)).num) (by omega)
    have lz2:=qh (z:=((Rat.divInt n1 (den.natAbs:Int)).den:Int)) (by omega)
    have e1:=CY (n:=n1) (d:=den.natAbs) (by omega)
    have e2:=CZ (n:=n1) (d:=den.natAbs) (by omega)
    refine QG<|QB<|QA (QC rfl)<|QA (QC rfl)<|QA (Jx rfl rfl (by omega))<|QA (xg rfl rfl) ?_
    rw [Cf]
    refine QA (QC rfl)<|QH rfl (fun w F hF hT=>qt hF (by omega) (by omega) (by omega) (by omega)) (fun _=>QA (QE rfl)<|QF<|QD<|QG<|JQ (List.Sublist.refl _) mixed (by kernel_rfl) ?_)
    simp only [Int.toNat_natCast]
    refine QM (QC rfl)<|QM (QC rfl)<|QM (zW rfl rfl (by omega) (by omega) (by omega)) ?_
    rw [e1]
    refine QM (QC rfl)<|QM (QC rfl)<|QM (V3 rfl rfl (by omega) (by omega) (by omega)) ?_
    rw [e2]
    refine QM (QE rfl)<|QM (QE rfl)<|Q3<|QD<|QG<|QB<|QA (QE rfl)<|QF<|QD ?_
    refine Z5 [(0,_),(1,_)] [(6,tx (if(Rat.divInt n1 (den.natAbs:Int)).num<0 then [45] else []))] ⟨rfl,rfl,trivial⟩ ?_ ?_
    ·
     refine QG<|QB<|QA (QC rfl)<|QA (QU rfl rfl rfl)<|QF<|QD ?_
     refine QO rfl (fun hc=>?_) (fun hc=>?_)
     ·
      refine QB<|QA (QE rfl)<|QF ?_
      exact XI ⟨rfl,rfl,(congrArg (fun l=>some (tx l)) (if_pos (of_decide_eq_true hc)).symm),trivial⟩ (List.Sublist.refl _) (fun _ h=>h)
     ·
      refine QN ?_
      exact XI ⟨rfl,rfl,(congrArg (fun l=>some (tx l)) (if_neg (of_decide_eq_false hc)).symm),trivial⟩ (List.Sublist.refl _) (fun _ h=>h)
    ·
     simp only [List.cons_append,List.nil_append]
     refine QG<|QB<|QA (QC rfl)<|QA (QC rfl)<|QA (QC rfl)<|QA (Jx rfl rfl (by omega))<|QA (xg rfl rfl) ?_
     rw [Cf]
     refine QH rfl (fun w F hF ⟨hT,_⟩=>Vo hF (least:=1) (by omega) (by omega) (by omega)) (fun _=>?_)
     simp only [Int.toNat_natCast,Uv]
     refine QA (XO rfl rfl (by have e:=congrArg List.length (Ts (Rat.divInt n1 (den.natAbs:Int)).num);rw [List.length_append] at e;omega))<|QA (QE rfl)<|QF<|QD<|QG<|QG<|QB ?_
     rw [Ts]
     refine QA (QC rfl)<|QA (QU rfl rfl rfl)<|QF<|QD ?_
     refine QO rfl (fun hc=>?_) (fun hc=>?_)
     ·
      have hd1:¬ ((Rat.divInt n1 (den.natAbs:Int)).den:Int)=1:=by have:=of_decide_eq_true hc;omega
      refine QB<|QA (QC rfl)<|QA (XO rfl rfl (by simp only [List.length_append,List.length_cons,List.length_nil];omega))<|QA (QC rfl)<|QH rfl (fun w F hF ⟨⟨hT,_⟩,_⟩=>Vo hF (least:=1) (by omega) (by omega) (by omega)) (fun _=>?_)
      simp only [Int.toNat_natCast,Uv]
      refine QA (XO rfl rfl (by simp only [List.length_append,List.length_cons,List.length_nil];omega))<|QA (QE rfl)<|QF<|QD<|QG<|QB<|QA (QC rfl)<|QA (QE rfl)<|QF<|QD<|QS ?_
      exact QQ (()) rfl (.tmp rfl .nil) (by rw [← hq];exact congrArg (fun l=>tx l) (by rw [← Ru hd1,Tu])) (fun F ⟨⟨⟨hT,_⟩,_⟩,_⟩=>trivial)
     ·
      have hd1:((Rat.divInt n1 (den.natAbs:Int)).den:Int)=1:=by have:=of_decide_eq_false hc;omega
      refine QN<|QD<|QG<|QB<|QA (QC rfl)<|QA (QE rfl)<|QF<|QD<|QS ?_
      exact QQ (()) rfl (.tmp rfl .nil) (by rw [← hq];exact congrArg (fun l=>tx l) (F7 hd1).symm) (fun F ⟨⟨hT,_⟩,_⟩=>trivial)
end
section
open Go.RowKit Ig
theorem M9:JJ 0=[48]:=by
 have h:(0:Rat).num=0:=rfl
 unfold JJ
 rw [if_pos (by rfl),h,Jj (by decide)];exact X8
theorem Tt (x:Rat):x.num<0↔x<0:=by rw [← Rat.not_le,← Rat.num_nonneg];omega
theorem IH (x:Rat):Ar (JJ x)=JJ (-x):=by
 unfold Ar Wt
 rw [Vp]
 by_cases h0:JJ x=[48]
 ·rw [if_pos h0]
  have hx:x=0:=by
   have hv:=Z8 x.num
   by_cases hd:x.den=1
   ·rw [(Hm hd).1] at h0
    rw [h0] at hv
    have:x.num=0:=by rw [← hv];rfl
    exact Rat.num_eq_zero.1 this
   ·have:=(Kg hd).2.2.1
    have h1:=(Kg hd).2.1
    rw [h0] at h1
    have h2:=(Kg hd).1
    have h3:0<(XX x.num).length:=by
     rcases Nat.eq_zero_or_pos (XX x.num).length with g | g
     ·have e:=List.eq_nil_of_length_eq_zero g
      unfold XX at e
      rcases Int.lt_or_le x.num 0 with q | q
      ·have:=Zg q;unfold XX at this;rw [this] at e;cases e
      ·have:=Jj q;unfold XX at this;rw [this] at e;exact absurd e (Yv _)
     ·exact g
    rw [h0] at h2
    simp at h1;omega
  subst hx
  have e:(-0:Rat)=0:=by decide
  rw [e,if_neg (by decide),if_pos rfl]
 ·rw [if_neg h0]
  by_cases hn:x.num<0
  ·rw [if_pos (show(decide (x.num<0))=true by simpa using hn),if_pos (by decide),BX hn];rfl
  ·rw [if_neg (show ¬ (decide (x.num<0))=true by simpa using hn),if_neg (by decide),if_neg (by decide)]
   have h1:(-x).num<0:=by
    rw [Rat.neg_num]
    have:x.num≠0:=by
     intro e
     have:=Rat.num_eq_zero.1 e
     subst this
     exact h0 M9
    omega
   have:=BX h1
   rw [Rat.neg_neg] at this
   exact this.symm
theorem TM (x:Rat):Wt (JJ x)=Eg x.num:=by
 unfold Wt
 rw [Vp]
 by_cases h0:x=0
 ·subst h0;rw [if_pos M9];rfl
 ·have hn:x.num≠0:=fun e=>h0 (Rat.num_eq_zero.1 e)
  have h1:JJ x≠[48]:=by
   intro e
   have h2:=IH x
   unfold Ar Wt at h2
   rw [if_pos e,if_neg (by decide),if_pos rfl,e] at h2
   by_cases hd:x.den=1
   ·have hv:=Z8 x.num
    rw [← (Hm hd).1,e] at hv
    exact hn hv.symm
   ·have:=(Kg hd).2.2.1
    have hv:=Z8 x.num
    rw [← this,e] at hv
    have h3:=(Kg hd).2.1
    rw [e] at h3
    have h4:ahead Jn [48]=1:=by decide
    rw [h4] at h3
    exact absurd h3 (by decide)
  rw [if_neg h1]
  unfold Eg
  by_cases g:x.num<0
  ·rw [if_pos (show(decide (x.num<0))=true by simpa using g),if_pos g]
  ·rw [if_neg (show ¬ (decide (x.num<0))=true by simpa using g),if_neg g,if_neg hn]
theorem Nn (x:Rat):x.num / (x.den:Int)=x.floor:=(Rat.floor_def x).symm
theorem Le {x:Rat} (h:x.den=1):x.floor=x.num:=by rw [← Nn,h];exact Int.ediv_one _
theorem inv_divInt {x:Rat} (_:x.num≠0):Rat.divInt x.den x.num=x⁻¹:=(Rat.inv_def x).symm
theorem qm (x:Rat):Eg x.num=if x<0 then -1 else if x=0 then 0 else 1:=by
 unfold Eg
 by_cases h:x<0
 ·rw [if_pos h,if_pos ((Tt x).2 h)]
 ·rw [if_neg h,if_neg (fun g=>h ((Tt x).1 g))]
  by_cases h0:x=0
  ·rw [if_pos h0,if_pos (Rat.num_eq_zero.2 h0)]
  ·rw [if_neg h0,if_neg (fun g=>h0 (Rat.num_eq_zero.1 g))]
theorem j6 (x y:Rat):Eg (x - y).num=Wz x y:=by
 rw [qm]
 unfold Wz
 have h1:(x - y<0)↔x<y:=by grind
 have h2:(x - y=0)↔x=y:=by grind
 simp only [h1,h2]
theorem SO (n:Int):JJ (n:Rat)=XX n:=by unfold JJ;rw [if_pos (by simp)];simp
theorem Oy {w:World} {F:Gs} {x y:Rat} (hF:Fits F w) (hx:JX x≤100000) (hy:JX y≤100000):QW Tryz.prog 92 [tx (JJ x),tx (JJ y)] w F (tx (JJ (x+y))):=by
 refine QT.intro (G:=fun F=>True) Tryz.func92 rfl (by rfl) rfl rfl hF (fun F' hF'=>trivial)<|QG<|QB<|QA (QE rfl)<|QF<|QD<|QG<|QB<|QA (QC rfl)<|QH rfl (fun w F hF hT=>BV hF (hx)) (fun c17=>JK _ (fun w F hF ⟨hT,h17⟩=>h17) (fun p17=>QA (QC rfl)<|QA (QK rfl rfl)<|QA (QK rfl rfl)<|QA (QK rfl rfl)<|QA (QE rfl)<|QA (QE rfl)<|QA (QE rfl)<|QF<|QD<|QG<|QB<|QA (QC rfl)<|QH rfl (fun w F hF ⟨hT,h17⟩=>BV hF (hy)) (fun c23=>JK _ (fun w F hF ⟨⟨hT,h17⟩,h23⟩=>h23) (fun p23=>?_))))
 refine QA (QC rfl)<|QA (QK rfl rfl)<|QA (QK rfl rfl)<|QA (QK rfl rfl)<|QA (QE rfl)<|QA (QE rfl)<|QA (QE rfl)<|QF<|QD<|QG<|QG<|QB<|QA (QC rfl)<|QA (QC rfl) ?_
 refine Qk (t:=28) rfl (fun hb28=>?_) (fun hb28=>?_)
 ·
  refine QJ rfl rfl<|QA (QC rfl)<|QA (Qi rfl rfl rfl)<|QF<|QD ?_
  refine QO rfl (fun hc=>?_) (fun hc=>?_)
  ·
   refine QG ?_
   obtain ⟨a1,a2,a3,a4⟩:=p17 hb28
   obtain ⟨b1,b2,b3,b4⟩:=p23 hc
   have xd:=x.den_pos
   have yd:=y.den_pos
   have e1:(x.num*y.den).natAbs<1000000000*1000000000:=by rw [Int.natAbs_mul];exact Nat.mul_lt_mul_of_lt_of_lt a3 (by omega)
   have e2:(y.num*x.den).natAbs<1000000000*1000000000:=by rw [Int.natAbs_mul];exact Nat.mul_lt_mul_of_lt_of_lt b3 (by omega)
   have e3:(x.num*y.num).natAbs<1000000000*1000000000:=by rw [Int.natAbs_mul];exact Nat.mul_lt_mul_of_lt_of_lt a3 b3
   have e4:((x.den:Int)*y.den).natAbs<1000000000*1000000000:=by rw [Int.natAbs_mul];exact Nat.mul_lt_mul_of_lt_of_lt (by omega) (by omega)
   have e5:(x.den:Int)*y.den≠0:=by have h1:=ZS x;have h2:=ZS y;exact Int.mul_ne_zero h1 h2
   rw [a1,a2,b1,b2]
   refine QB<|QA (QC rfl)<|QA (QC rfl)<|QA (WB rfl rfl (by omega))<|QA (QC rfl)<|QA (QC rfl)<|QA (WB rfl rfl (by omega))<|QA (Qw rfl rfl (by omega))<|QA (QC rfl)<|QA (QC rfl)<|QA (WB rfl rfl (by omega))<|QH rfl (fun w F hF ⟨⟨hT,h17⟩,h23⟩=>xa hF (by omega) (by omega) (e5)) (fun _=>QA (QE rfl)<|QF<|QD<|QS ?_)
   exact QQ (()) rfl (.tmp rfl .nil) (by rw [Va]) (fun F ⟨⟨⟨hT,h17⟩,h23⟩,_⟩=>trivial)
  ·
   refine QN<|QD<|QG ?_
   have s1:=JW x
   have s2:=JU x
   have s3:=JW y
   have s4:=JU y
   have m1:=Zm x.num y.den
   have m2:=Zm y.num x.den
   have m3:=Zm (x.den:Int) y.den
   have m4:=Zm x.num y.num
   have m5:=Mv (x.num*y.den) (y.num*x.den)
   have e5:(x.den:Int)*y.den≠0:=Int.mul_ne_zero (ZS x) (ZS y)
   refine QB<|QA (QC rfl)<|QH rfl (fun w F hF ⟨⟨hT,h17⟩,h23⟩=>YM hF (hx)) (fun c44=>QA (QC rfl)<|QA (QK rfl rfl)<|QA (QK rfl rfl)<|QZ Xc (fun b11=>QZ Xc (fun b12=>QP (vs:=[_,_]) rfl rfl rfl Qv rfl (.there .here) (.here (.here .nil)) ⟨rfl,rfl,trivial⟩<|QP (vs:=[_,_]) rfl rfl rfl Qv rfl .here (.here (.here .nil)) ⟨rfl,rfl,trivial⟩<|QF<|QD<|QG<|QB<|QA (QC rfl)<|QH rfl (fun w F hF ⟨⟨⟨hT,h17⟩,h23⟩,h44⟩=>YM hF (hy)) (fun c49=>QA (QC rfl)<|QA (QK rfl rfl)<|QA (QK rfl rfl)<|QZ Xc (fun b13=>QZ Xc (fun b14=>QP (vs:=[_,_]) rfl rfl rfl Qv rfl (.there .here) (.here (.here .nil)) ⟨rfl,rfl,trivial⟩<|QP (vs:=[_,_]) rfl rfl rfl Qv rfl .here (.here (.here .nil)) ⟨rfl,rfl,trivial⟩<|QF<|QD ?_))))))
   refine QG<|JQ (List.Sublist.refl _) mixed (by kernel_rfl)<|QM (QL (vs:=[_,_]) rfl Qv (.there (.there (.there .here))) (.here (.here .nil)) rfl)<|QM (QL (vs:=[_,_]) rfl Qv .here (.here (.here .nil)) rfl)<|Qb rfl (fun w F hF ⟨⟨⟨⟨hT,h17⟩,h23⟩,h44⟩,h49⟩=>YL hF (h44.1) (h49.2) (by omega) (by omega)) (fun c54=>QM (QL (vs:=[_,_]) rfl Qv (.there .here) (.here (.here .nil)) rfl)<|QM (QL (vs:=[_,_]) rfl Qv (.there (.there .here)) (.here (.here .nil)) rfl)<|Qb rfl (fun w F hF ⟨⟨⟨⟨⟨hT,h17⟩,h23⟩,h44⟩,h49⟩,h54⟩=>YL hF (h49.1) (h44.2) (by omega) (by omega)) (fun c57=>Qb rfl (fun w F hF ⟨⟨⟨⟨⟨⟨hT,h17⟩,h23⟩,h44⟩,h49⟩,h54⟩,h57⟩=>Fz hF (h54) (h57) (by omega) (by omega)) (fun c58=>QM (QL (vs:=[_,_]) rfl Qv (.there (.there .here)) (.here (.here .nil)) rfl)<|QM (QL (vs:=[_,_]) rfl Qv .here (.here (.here .nil)) rfl)<|Qb rfl (fun w F hF ⟨⟨⟨⟨⟨⟨⟨hT,h17⟩,h23⟩,h44⟩,h49⟩,h54⟩,h57⟩,h58⟩=>YL hF (h44.2) (h49.2) (by omega) (by omega)) (fun c61=>Qb rfl (fun w F hF ⟨⟨⟨⟨⟨⟨⟨⟨hT,h17⟩,h23⟩,h44⟩,h49⟩,h54⟩,h57⟩,h58⟩,h61⟩=>Yd hF (h58) (h61) (e5) (by omega) (by omega)) (fun _=>QM (QE rfl)<|Q3<|QD<|QS ?_)))))
   exact QQ (()) rfl (.tmp rfl .nil) (by rw [Va]) (fun F ⟨⟨⟨⟨⟨⟨⟨⟨⟨hT,h17⟩,h23⟩,h44⟩,h49⟩,h54⟩,h57⟩,h58⟩,h61⟩,_⟩=>trivial)
 ·
  refine QR rfl rfl rfl<|QA (Qh rfl rfl rfl)<|QF<|QD<|Zw rfl<|QN<|QD<|QG ?_
  have s1:=JW x
  have s2:=JU x
  have s3:=JW y
  have s4:=JU y
  have m1:=Zm x.num y.den
  have m2:=Zm y.num x.den
  have m3:=Zm (x.den:Int) y.den
  have m4:=Zm x.num y.num
  have m5:=Mv (x.num*y.den) (y.num*x.den)
  have e5:(x.den:Int)*y.den≠0:=Int.mul_ne_zero (ZS x) (ZS y)
  refine QB<|QA (QC rfl)<|QH rfl (fun w F hF ⟨⟨hT,h17⟩,h23⟩=>YM hF (hx)) (fun c44=>QA (QC rfl)<|QA (QK rfl rfl)<|QA (QK rfl rfl)<|QZ Xc (fun b11=>QZ Xc (fun b12=>QP (vs:=[_,_]) rfl rfl rfl Qv rfl (.there .here) (.here (.here .nil)) ⟨rfl,rfl,trivial⟩<|QP (vs:=[_,_]) rfl rfl rfl Qv rfl .here (.here (.here .nil)) ⟨rfl,rfl,trivial⟩<|QF<|QD<|QG<|QB<|QA (QC rfl)<|QH rfl (fun w F hF ⟨⟨⟨hT,h17⟩,h23⟩,h44⟩=>YM hF (hy)) (fun c49=>QA (QC rfl)<|QA (QK rfl rfl)<|QA (QK rfl rfl)<|QZ Xc (fun b13=>QZ Xc (fun b14=>QP (vs:=[_,_]) rfl rfl rfl Qv rfl (.there .here) (.here (.here .nil)) ⟨rfl,rfl,trivial⟩<|QP (vs:=[_,_]) rfl rfl rfl Qv rfl .here (.here (.here .nil)) ⟨rfl,rfl,trivial⟩<|QF<|QD ?_))))))
  refine QG<|JQ (List.Sublist.refl _) mixed (by kernel_rfl)<|QM (QL (vs:=[_,_]) rfl Qv (.there (.there (.there .here))) (.here (.here .nil)) rfl)<|QM (QL (vs:=[_,_]) rfl Qv .here (.here (.here .nil)) rfl)<|Qb rfl (fun w F hF ⟨⟨⟨⟨hT,h17⟩,h23⟩,h44⟩,h49⟩=>YL hF (h44.1) (h49.2) (by omega) (by omega)) (fun c54=>QM (QL (vs:=[_,_]) rfl Qv (.there .here) (.here (.here .nil)) rfl)<|QM (QL (vs:=[_,_]) rfl Qv (.there (.there .here)) (.here (.here .nil)) rfl)<|Qb rfl (fun w F hF ⟨⟨⟨⟨⟨hT,h17⟩,h23⟩,h44⟩,h49⟩,h54⟩=>YL hF (h49.1) (h44.2) (by omega) (by omega)) (fun c57=>Qb rfl (fun w F hF ⟨⟨⟨⟨⟨⟨hT,h17⟩,h23⟩,h44⟩,h49⟩,h54⟩,h57⟩=>Fz hF (h54) (h57) (by omega) (by omega)) (fun c58=>QM (QL (vs:=[_,_]) rfl Qv (.there (.there .here)) (.here (.here .nil)) rfl)<|QM (QL (vs:=[_,_]) rfl Qv .here (.here (.here .nil)) rfl)<|Qb rfl (fun w F hF ⟨⟨⟨⟨⟨⟨⟨hT,h17⟩,h23⟩,h44⟩,h49⟩,h54⟩,h57⟩,h58⟩=>YL hF (h44.2) (h49.2) (by omega) (by omega)) (fun c61=>Qb rfl (fun w F hF ⟨⟨⟨⟨⟨⟨⟨⟨hT,h17⟩,h23⟩,h44⟩,h49⟩,h54⟩,h57⟩,h58⟩,h61⟩=>Yd hF (h58) (h61) (e5) (by omega) (by omega)) (fun _=>QM (QE rfl)<|Q3<|QD<|QS ?_)))))
  exact QQ (()) rfl (.tmp rfl .nil) (by rw [Va]) (fun F ⟨⟨⟨⟨⟨⟨⟨⟨⟨hT,h17⟩,h23⟩,h44⟩,h49⟩,h54⟩,h57⟩,h58⟩,h61⟩,_⟩=>trivial)
theorem Oq {w:World} {F:Gs} {x y:Rat} (hF:Fits F w) (hx:JX x≤100000) (hy:JX y≤100000):QW Tryz.prog 93 [tx (JJ x),tx (JJ y)] w F (tx (JJ (x*y))):=by
 refine QT.intro (G:=fun F=>True) Tryz.func93 rfl (by rfl) rfl rfl hF (fun F' hF'=>trivial)<|QG<|QB<|QA (QE rfl)<|QF<|QD<|QG<|QB<|QA (QC rfl)<|QH rfl (fun w F hF hT=>BV hF (hx)) (fun c17=>JK _ (fun w F hF ⟨hT,h17⟩=>h17) (fun p17=>QA (QC rfl)<|QA (QK rfl rfl)<|QA (QK rfl rfl)<|QA (QK rfl rfl)<|QA (QE rfl)<|QA (QE rfl)<|QA (QE rfl)<|QF<|QD<|QG<|QB<|QA (QC rfl)<|QH rfl (fun w F hF ⟨hT,h17⟩=>BV hF (hy)) (fun c23=>JK _ (fun w F hF ⟨⟨hT,h17⟩,h23⟩=>h23) (fun p23=>?_))))
 refine QA (QC rfl)<|QA (QK rfl rfl)<|QA (QK rfl rfl)<|QA (QK rfl rfl)<|QA (QE rfl)<|QA (QE rfl)<|QA (QE rfl)<|QF<|QD<|QG<|QG<|QB<|QA (QC rfl)<|QA (QC rfl) ?_
 refine Qk (t:=28) rfl (fun hb28=>?_) (fun hb28=>?_)
 ·
  refine QJ rfl rfl<|QA (QC rfl)<|QA (Qi rfl rfl rfl)<|QF<|QD ?_
  refine QO rfl (fun hc=>?_) (fun hc=>?_)
  ·
   refine QG ?_
   obtain ⟨a1,a2,a3,a4⟩:=p17 hb28
   obtain ⟨b1,b2,b3,b4⟩:=p23 hc
   have xd:=x.den_pos
   have yd:=y.den_pos
   have e1:(x.num*y.den).natAbs<1000000000*1000000000:=by rw [Int.natAbs_mul];exact Nat.mul_lt_mul_of_lt_of_lt a3 (by omega)
   have e2:(y.num*x.den).natAbs<1000000000*1000000000:=by rw [Int.natAbs_mul];exact Nat.mul_lt_mul_of_lt_of_lt b3 (by omega)
   have e3:(x.num*y.num).natAbs<1000000000*1000000000:=by rw [Int.natAbs_mul];exact Nat.mul_lt_mul_of_lt_of_lt a3 b3
   have e4:((x.den:Int)*y.den).natAbs<1000000000*1000000000:=by rw [Int.natAbs_mul];exact Nat.mul_lt_mul_of_lt_of_lt (by omega) (by omega)
   have e5:(x.den:Int)*y.den≠0:=by have h1:=ZS x;have h2:=ZS y;exact Int.mul_ne_zero h1 h2
   rw [a1,a2,b1,b2]
   refine QB<|QA (QC rfl)<|QA (QC rfl)<|QA (WB rfl rfl (by omega))<|QA (QC rfl)<|QA (QC rfl)<|QA (WB rfl rfl (by omega))<|QH rfl (fun w F hF ⟨⟨hT,h17⟩,h23⟩=>xa hF (by omega) (by omega) (e5)) (fun _=>QA (QE rfl)<|QF<|QD<|QS ?_)
   exact QQ (()) rfl (.tmp rfl .nil) (by rw [VR]) (fun F ⟨⟨⟨hT,h17⟩,h23⟩,_⟩=>trivial)
  ·
   refine QN<|QD<|QG ?_
   have s1:=JW x
   have s2:=JU x
   have s3:=JW y
   have s4:=JU y
   have m1:=Zm x.num y.den
   have m2:=Zm y.num x.den
   have m3:=Zm (x.den:Int) y.den
   have m4:=Zm x.num y.num
   have m5:=Mv (x.num*y.den) (y.num*x.den)
   have e5:(x.den:Int)*y.den≠0:=Int.mul_ne_zero (ZS x) (ZS y)
   refine QB<|QA (QC rfl)<|QH rfl (fun w F hF ⟨⟨hT,h17⟩,h23⟩=>YM hF (hx)) (fun c40=>QA (QC rfl)<|QA (QK rfl rfl)<|QA (QK rfl rfl)<|QZ Xc (fun b11=>QZ Xc (fun b12=>QP (vs:=[_,_]) rfl rfl rfl Qv rfl (.there .here) (.here (.here .nil)) ⟨rfl,rfl,trivial⟩<|QP (vs:=[_,_]) rfl rfl rfl Qv rfl .here (.here (.here .nil)) ⟨rfl,rfl,trivial⟩<|QF<|QD<|QG<|QB<|QA (QC rfl)<|QH rfl (fun w F hF ⟨⟨⟨hT,h17⟩,h23⟩,h40⟩=>YM hF (hy)) (fun c45=>QA (QC rfl)<|QA (QK rfl rfl)<|QA (QK rfl rfl)<|QZ Xc (fun b13=>QZ Xc (fun b14=>QP (vs:=[_,_]) rfl rfl rfl Qv rfl (.there .here) (.here (.here .nil)) ⟨rfl,rfl,trivial⟩<|QP (vs:=[_,_]) rfl rfl rfl Qv rfl .here (.here (.here .nil)) ⟨rfl,rfl,trivial⟩<|QF<|QD ?_))))))
   refine QG<|JQ (List.Sublist.refl _) mixed (by kernel_rfl)<|QM (QL (vs:=[_,_]) rfl Qv (.there (.there (.there .here))) (.here (.here .nil)) rfl)<|QM (QL (vs:=[_,_]) rfl Qv (.there .here) (.here (.here .nil)) rfl)<|Qb rfl (fun w F hF ⟨⟨⟨⟨hT,h17⟩,h23⟩,h40⟩,h45⟩=>YL hF (h40.1) (h45.1) (by omega) (by omega)) (fun c50=>QM (QL (vs:=[_,_]) rfl Qv (.there (.there .here)) (.here (.here .nil)) rfl)<|QM (QL (vs:=[_,_]) rfl Qv .here (.here (.here .nil)) rfl)<|Qb rfl (fun w F hF ⟨⟨⟨⟨⟨hT,h17⟩,h23⟩,h40⟩,h45⟩,h50⟩=>YL hF (h40.2) (h45.2) (by omega) (by omega)) (fun c53=>Qb rfl (fun w F hF ⟨⟨⟨⟨⟨⟨hT,h17⟩,h23⟩,h40⟩,h45⟩,h50⟩,h53⟩=>Yd hF (h50) (h53) (e5) (by omega) (by omega)) (fun _=>QM (QE rfl)<|Q3<|QD<|QS ?_)))
   exact QQ (()) rfl (.tmp rfl .nil) (by rw [VR]) (fun F ⟨⟨⟨⟨⟨⟨⟨hT,h17⟩,h23⟩,h40⟩,h45⟩,h50⟩,h53⟩,_⟩=>trivial)
 ·
  refine QR rfl rfl rfl<|QA (Qh rfl rfl rfl)<|QF<|QD<|Zw rfl<|QN<|QD<|QG ?_
  have s1:=JW x
  have s2:=JU x
  have s3:=JW y
  have s4:=JU y
  have m1:=Zm x.num y.den
  have m2:=Zm y.num x.den
  have m3:=Zm (x.den:Int) y.den
  have m4:=Zm x.num y.num
  have m5:=Mv (x.num*y.den) (y.num*x.den)
  have e5:(x.den:Int)*y.den≠0:=Int.mul_ne_zero (ZS x) (ZS y)
  refine QB<|QA (QC rfl)<|QH rfl (fun w F hF ⟨⟨hT,h17⟩,h23⟩=>YM hF (hx)) (fun c40=>QA (QC rfl)<|QA (QK rfl rfl)<|QA (QK rfl rfl)<|QZ Xc (fun b11=>QZ Xc (fun b12=>QP (vs:=[_,_]) rfl rfl rfl Qv rfl (.there .here) (.here (.here .nil)) ⟨rfl,rfl,trivial⟩<|QP (vs:=[_,_]) rfl rfl rfl Qv rfl .here (.here (.here .nil)) ⟨rfl,rfl,trivial⟩<|QF<|QD<|QG<|QB<|QA (QC rfl)<|QH rfl (fun w F hF ⟨⟨⟨hT,h17⟩,h23⟩,h40⟩=>YM hF (hy)) (fun c45=>QA (QC rfl)<|QA (QK rfl rfl)<|QA (QK rfl rfl)<|QZ Xc (fun b13=>QZ Xc (fun b14=>QP (vs:=[_,_]) rfl rfl rfl Qv rfl (.there .here) (.here (.here .nil)) ⟨rfl,rfl,trivial⟩<|QP (vs:=[_,_]) rfl rfl rfl Qv rfl .here (.here (.here .nil)) ⟨rfl,rfl,trivial⟩<|QF<|QD ?_))))))
  refine QG<|JQ (List.Sublist.refl _) mixed (by kernel_rfl)<|QM (QL (vs:=[_,_]) rfl Qv (.there (.there (.there .here))) (.here (.here .nil)) rfl)<|QM (QL (vs:=[_,_]) rfl Qv (.there .here) (.here (.here .nil)) rfl)<|Qb rfl (fun w F hF ⟨⟨⟨⟨hT,h17⟩,h23⟩,h40⟩,h45⟩=>YL hF (h40.1) (h45.1) (by omega) (by omega)) (fun c50=>QM (QL (vs:=[_,_]) rfl Qv (.there (.there .here)) (.here (.here .nil)) rfl)<|QM (QL (vs:=[_,_]) rfl Qv .here (.here (.here .nil)) rfl)<|Qb rfl (fun w F hF ⟨⟨⟨⟨⟨hT,h17⟩,h23⟩,h40⟩,h45⟩,h50⟩=>YL hF (h40.2) (h45.2) (by omega) (by omega)) (fun c53=>Qb rfl (fun w F hF ⟨⟨⟨⟨⟨⟨hT,h17⟩,h23⟩,h40⟩,h45⟩,h50⟩,h53⟩=>Yd hF (h50) (h53) (e5) (by omega) (by omega)) (fun _=>QM (QE rfl)<|Q3<|QD<|QS ?_)))
  exact QQ (()) rfl (.tmp rfl .nil) (by rw [VR]) (fun F ⟨⟨⟨⟨⟨⟨⟨hT,h17⟩,h23⟩,h40⟩,h45⟩,h50⟩,h53⟩,_⟩=>trivial)
theorem Ol {w:World} {F:Gs} {x y:Rat} (hF:Fits F w) (hx:JX x≤100000) (hy:JX y≤100000):QW Tryz.prog 32 [tx (JJ x),tx (JJ y)] w F (tx (JJ (x - y))):=by
 have hly:=Gj y
 refine QT.intro (G:=fun F=>True) Tryz.func32 rfl (by rfl) rfl rfl hF (fun F' hF'=>trivial)<|QG<|QB<|QA (QE rfl)<|QF<|QD<|QG<|QB<|QA (QC rfl)<|QA (QC rfl)<|QH rfl (fun w F hF hT=>zN hF (by omega)) (fun _=>?_)
 rw [IH]
 refine QH rfl (fun w F hF ⟨hT,_⟩=>Oy hF (hx) (by rw [Gb];exact hy)) (fun _=>QA (QE rfl)<|QF<|QD<|QS ?_)
 exact QQ (()) rfl (.tmp rfl .nil) (by rw [Rat.sub_eq_add_neg]) (fun F ⟨⟨hT,_⟩,_⟩=>trivial)
theorem Om {w:World} {F:Gs} {x:Rat} (hF:Fits F w) (h0:x.num≠0) (hx:JX x≤100000):QW Tryz.prog 127 [tx (JJ x)] w F (tx (JJ x⁻¹)):=by
 have s1:=JW x
 have s2:=JU x
 refine QT.intro (G:=fun F=>True) Tryz.func127 rfl (by rfl) rfl rfl hF (fun F' hF'=>trivial)<|QG<|QB<|QA (QE rfl)<|QF<|QD<|QG<|QB<|QA (QC rfl)<|QH rfl (fun w F hF hT=>YM hF (hx)) (fun c7=>QA (QC rfl)<|QA (QK rfl rfl)<|QA (QK rfl rfl)<|QZ Xc (fun b3=>QZ Xc (fun b4=>QP (vs:=[_,_]) rfl rfl rfl Qv rfl (.there .here) (.here (.here .nil)) ⟨rfl,rfl,trivial⟩<|QP (vs:=[_,_]) rfl rfl rfl Qv rfl .here (.here (.here .nil)) ⟨rfl,rfl,trivial⟩<|QF<|QD<|QG<|QB<|QA (QL (vs:=[_,_]) rfl Qv .here (.here (.here .nil)) rfl)<|QA (QL (vs:=[_,_]) rfl Qv (.there .here) (.here (.here .nil)) rfl)<|QH rfl (fun w F hF ⟨hT,h7⟩=>Yd hF (h7.2) (h7.1) (h0) (by omega) (by omega)) (fun _=>QA (QE rfl) ?_))))
 refine QF<|QD<|QS ?_
 exact QQ (()) rfl (.tmp rfl .nil) (by rw [inv_divInt h0]) (fun F ⟨⟨hT,h7⟩,_⟩=>trivial)
theorem zP {w:World} {F:Gs} {x y:Rat} (hF:Fits F w) (h0:y.num≠0) (hx:JX x≤100000) (hy:JX y≤100000):QW Tryz.prog 37 [tx (JJ x),tx (JJ y)] w F (tx (JJ (x / y))):=by
 refine QT.intro (G:=fun F=>True) Tryz.func37 rfl (by rfl) rfl rfl hF (fun F' hF'=>trivial)<|QG<|QB<|QA (QE rfl)<|QF<|QD<|QG<|QB<|QA (QC rfl)<|QA (QC rfl)<|QH rfl (fun w F hF hT=>Om hF (h0) (hy)) (fun _=>QH rfl (fun w F hF ⟨hT,_⟩=>Oq hF (hx) (by have:=Ez h0;omega)) (fun _=>QA (QE rfl)<|QF<|QD<|QS ?_))
 exact QQ (()) rfl (.tmp rfl .nil) (by rw [Rat.div_def]) (fun F ⟨⟨hT,_⟩,_⟩=>trivial)
theorem zR {w:World} {F:Gs} {x y:Rat} (hF:Fits F w) (hx:JX x≤30000) (hy:JX y≤30000):QW Tryz.prog 30 [tx (JJ x),tx (JJ y)] w F (.int .i64 (Wz x y)):=by
 refine QT.intro (G:=fun F=>True) Tryz.func30 rfl (by rfl) rfl rfl hF (fun F' hF'=>trivial)<|QG<|QB<|QA (QE rfl)<|QF<|QD<|QG<|QB<|QA (QC rfl)<|QA (QC rfl)<|QH rfl (fun w F hF hT=>Ol hF (by omega) (by omega)) (fun _=>QH rfl (fun w F hF ⟨hT,_⟩=>E7 hF ) (fun _=>QA (QE rfl)<|QF<|QD<|QS ?_))
 exact QQ (()) rfl (.tmp rfl .nil) (by rw [TM,j6]) (fun F ⟨⟨hT,_⟩,_⟩=>trivial)
theorem Ov {w:World} {F:Gs} {x:Rat} (hF:Fits F w) (hx:JX x≤100000):QW Tryz.prog 91 [tx (JJ x)] w F (tx (JJ ((x.floor:Int):Rat))):=by
 have hl:=Gj x
 have s1:=JW x
 have s2:=JU x
 have s3:=V7 x
 refine QT.intro (G:=fun F=>True) Tryz.func91 rfl (by rfl) rfl rfl hF (fun F' hF'=>trivial)<|QG<|QB<|QA (QE rfl)<|QF<|QD<|QG<|QG<|QB<|QA (QC rfl)<|QH rfl (fun w F hF hT=>Oi hF (by omega)) (fun _=>QF<|QD ?_)
 refine QO rfl (fun hc=>?_) (fun hc=>?_)
 ·
  have hd:x.den=1:=(Hn x).1 (by simpa using hc)
  refine QG<|QB<|QA (QC rfl)<|QA (QE rfl)<|QF<|QD<|QS ?_
  exact QQ (()) rfl (.tmp rfl .nil) (by rw [SO,Le hd,(Hm hd).1]) (fun F ⟨hT,_⟩=>trivial)
 ·
  refine QN<|QD<|QG<|QB<|QA (QC rfl)<|QH rfl (fun w F hF ⟨hT,_⟩=>YM hF (hx)) (fun c10=>QA (QC rfl)<|QA (QK rfl rfl)<|QA (QK rfl rfl)<|QZ Xc (fun b3=>QZ Xc (fun b4=>QP (vs:=[_,_]) rfl rfl rfl Qv rfl (.there .here) (.here (.here .nil)) ⟨rfl,rfl,trivial⟩<|QP (vs:=[_,_]) rfl rfl rfl Qv rfl .here (.here (.here .nil)) ⟨rfl,rfl,trivial⟩<|QF<|QD<|QG<|QB<|QA (QL (vs:=[_,_]) rfl Qv (.there .here) (.here (.here .nil)) rfl)<|QA (QL (vs:=[_,_]) rfl Qv .here (.here (.here .nil)) rfl)<|QH rfl (fun w F hF ⟨⟨hT,_⟩,h10⟩=>TY hF (h10.1) (h10.2) (by have:=den_pos x;omega) (by omega) (by omega)) (fun c15=>QH rfl (fun w F hF ⟨⟨⟨hT,_⟩,h10⟩,h15⟩=>E6 hF (h15) (by rw [Nn];omega)) (fun _=>QA (QE rfl)<|QF<|QD<|QS ?_)))))
  exact QQ (()) rfl (.tmp rfl .nil) (by rw [SO,Nn]) (fun F ⟨⟨⟨⟨hT,_⟩,h10⟩,h15⟩,_⟩=>trivial)
end
section
open Go.RowKit Ig
theorem I3 {w:World} {F:Gs} {s:List UInt8} (hF:Fits F w) (hl:s.length≤1000000) (h1:XC (Lib.trimPrefix (s.take (ahead Jn s)) [45])=true) (h2:ahead Jn s<s.length→XC (Lib.trimPrefix (s.drop (ahead Jn s+1)) [45])=true):QT Tryz.prog 119 [tx s] w F Ri.v2 (fun c F=>YN F c.1 (Zq (s.take (ahead Jn s)))∧(ahead Jn s<s.length→YN F c.2 (Zq (s.drop (ahead Jn s+1))))):=by
 have hah:=Yw Jn s
 refine QT.intro (G:=fun F=>True) Tryz.func119 rfl (by rfl) rfl rfl hF (fun F' hF'=>trivial)<|QG<|QB<|QZ Xc (fun b2=>QZ Xc (fun b3=>QF<|QD<|QG<|QB<|QA (QC rfl)<|QA (QE rfl)<|QF<|QD<|QG<|QB<|QA (QC rfl)<|QH rfl (fun w F hF hT=>VK hF (by omega)) (fun _=>QA (QE rfl)<|QF<|QD<|QG<|QG<|QB<|QA (QC rfl)<|QA (QC rfl) ?_)))
 refine QA (Jo rfl J5)<|QA (QU rfl rfl rfl)<|QF<|QD ?_
 refine QO rfl (fun hc=>?_) (fun hc=>?_)
 ·
  have hd:ahead Jn s=s.length:=by have:(ahead Jn s:Int)=(s.length:Int):=(by simpa using hc);omega
  refine QG<|QB<|QA (QC rfl)<|QH rfl (fun w F hF ⟨hT,_⟩=>V9 hF (by rw [hd,List.take_length] at h1;exact h1) (by omega)) (fun c14=>QH rfl (fun w F hF ⟨⟨hT,_⟩,h14⟩=>Ge hF (by decide)) (fun c15=>QP (vs:=[_,_]) rfl rfl rfl Qv rfl (.there .here) (.here (.here .nil)) ⟨rfl,rfl,trivial⟩<|QP (vs:=[_,_]) rfl rfl rfl Qv rfl .here (.here (.here .nil)) ⟨rfl,rfl,trivial⟩<|QF<|QD<|QS ?_))
  exact JH ((c14,c15):Ri×Ri) rfl (.Ja (c:=[_,_]) rfl Qv (.there .here) (.Ja (c:=[_,_]) rfl Qv .here .nil)) (rfl) (fun F ⟨⟨⟨hT,_⟩,h14⟩,h15⟩=>⟨by rw [hd,List.take_length];exact h14,fun g=>by omega⟩)
 ·
  have hd:ahead Jn s<s.length:=by rcases Nat.lt_or_ge (ahead Jn s) s.length with g | g;exact g;exact absurd (show ahead Jn s=s.length by omega) (fun e=>by rw [e] at hc;simp at hc)
  refine QN<|QD<|QG<|JQ (.cons _ (.cons _ .slnil)) mixed (by kernel_rfl)<|QM (QC rfl)<|QM (QC rfl)<|QM (Vq (ahead Jn s) rfl rfl J5 rfl (by omega))<|Qb rfl (fun w F hF ⟨hT,_⟩=>V9 hF (h1) (by rw [List.length_take];omega)) (fun c19=>QM (QC rfl)<|QM (QC rfl)<|QM (Qw rfl rfl (by omega))<|QM (Zr ((ahead Jn s+1)) rfl rfl J5 (congrArg (fun z:Int=>some (Value.int .i64 z)) (by omega)) (by omega))<|Qb rfl (fun w F hF ⟨⟨hT,_⟩,Bq⟩=>V9 hF (h2 hd) (by rw [List.length_drop];omega)) (fun c24=>JY (vs:=[_,_]) rfl rfl rfl Qv rfl (.there .here) (.cons _ .slnil) (fun _ h=>h.1.1) (.here (.here .nil)) ⟨rfl,rfl,trivial⟩<|JY (vs:=[_,_]) rfl rfl rfl Qv rfl .here (.cons _ .slnil) (fun _ h=>h.1.1) (.here (.here .nil)) ⟨rfl,rfl,trivial⟩<|Q3<|QD<|QS ?_))
  exact JH ((c19,c24):Ri×Ri) rfl (.Ja (c:=[_,_]) rfl Qv (.there .here) (.Ja (c:=[_,_]) rfl Qv .here .nil)) (rfl) (fun F ⟨⟨⟨hT,_⟩,Bq⟩,h24⟩=>⟨Bq,fun _=>h24⟩)
def PZ (s:List UInt8):Bool:=!J0 ((Lib.trimPrefix s [45]).take (ahead Jn (Lib.trimPrefix s [45])))||(Lib.hasPrefix s [45]&&(Lib.trimPrefix s [45]).take (ahead Jn (Lib.trimPrefix s [45]))==[48])
def H5 (s:List UInt8):List UInt8:=(Lib.trimPrefix s [45]).drop (ahead Jn (Lib.trimPrefix s [45])+1)
def W8 (s:List UInt8):Bool:=decide (ahead Jn (Lib.trimPrefix s [45])<(Lib.trimPrefix s [45]).length)
def N2 (s:List UInt8):Bool:=W8 s&&(!J0 (H5 s)||(H5 s==[48]||H5 s==[49]))
def Sj (s:List UInt8):Bool:=decide (600<ahead Jn (Lib.trimPrefix s [45]))||decide (600<(H5 s).length)
def SR (s:List UInt8):Bool:=W8 s&&!(Nat.gcd (JB ((Lib.trimPrefix s [45]).take (ahead Jn (Lib.trimPrefix s [45])))) (JB (H5 s))==1)
def GO (s:List UInt8):Int:=if PZ s=true then 1 else if N2 s=true then 1 else if Sj s=true then 4 else if SR s=true then 1 else 0
theorem Ml {l:List UInt8} (h:(!J0 l)=false):0<l.length:=by
 rcases Nat.eq_zero_or_pos l.length with g | g
 ·rw [List.eq_nil_of_length_eq_zero g] at h;simp [J0] at h
 ·exact g
theorem qe {p:UInt8→Bool} {s:List UInt8} (h:∀ c∈s,p c=true):s.takeWhile p=s:=by
 induction s with
 |nil=>rfl
 |cons c r ih=>rw [List.takeWhile_cons_of_pos (h c (by simp)),ih (fun d hd=>h d (by simp [hd]))]
theorem Fq {l:List UInt8} (h:XC l=true):sz (JB l:Int)≤4*l.length:=by
 rw [Xx]
 have h1:=VL h
 have h2:10^l.length≤2^(4*l.length):=by rw [Nat.pow_mul];exact Nat.pow_le_pow_left (by decide) _
 simp;omega
theorem L2 (s:List UInt8):(Xp 47 s).1=s.take (ahead Jn s)∧(Xp 47 s).2.1=s.drop (ahead Jn s+1)∧(Xp 47 s).2.2=decide (ahead Jn s<s.length):=by
 have hf:(fun c:UInt8=>!Jn c)=fun c=>c != 47:=by funext c;simp [Jn,bne]
 have h1:=KJ (fun c:UInt8=>c != 47) s
 have ha:ahead Jn s=(s.takeWhile (fun c=>c != 47)).length:=by unfold ahead;rw [hf]
 rw [ha]
 by_cases hc:s.contains 47=true
 ·have e:Xp 47 s=(s.takeWhile (· != 47),(s.dropWhile (· != 47)).drop 1,true):=by unfold Xp;rw [if_pos hc]
  rw [e]
  obtain ⟨r,hr⟩:=Hd (show(47:UInt8)∈s by simpa using hc)
  have hd:=h1.2
  rw [hr] at hd
  refine⟨h1.1.symm,?_,?_⟩
  ·show(s.dropWhile (· != 47)).drop 1=_
   rw [hr,← List.drop_drop,hd]
  ·have:(s.takeWhile (fun c=>c != 47)).length<s.length:=by
    have:=congrArg List.length hd
    rw [List.length_drop,List.length_cons] at this;omega
   simp [this]
 ·have e:Xp 47 s=(s,[],false):=by unfold Xp;rw [if_neg hc]
  rw [e]
  have h2:s.takeWhile (fun c=>c != 47)=s:=by
   refine qe fun c hm=>?_
   have:c≠47:=by rintro rfl;exact hc (by simpa using hm)
   simpa using this
  rw [h2]
  simp
theorem OM (s:List UInt8):Lib.trimPrefix (Xp 47 s).1 [45]=(Xp 47 (Lib.trimPrefix s [45])).1∧Lib.hasPrefix (Xp 47 s).1 [45]=Lib.hasPrefix s [45]∧(Xp 47 s).2=(Xp 47 (Lib.trimPrefix s [45])).2:=by
 cases s with
 |nil=>exact⟨rfl,rfl,rfl⟩
 |cons c r =>
  by_cases hc:c=45
  ·subst hc
   have e:Lib.trimPrefix (45::r) [45]=r:=rfl
   rw [e]
   unfold Xp
   have h0:((45:UInt8)::r).contains 47=r.contains 47:=by simp
   rw [h0]
   split
   ·exact⟨rfl,rfl,rfl⟩
   ·exact⟨rfl,rfl,rfl⟩
  ·have hp:Lib.hasPrefix (c::r) [45]=false:=by
    rw [Yt (by simp)];simpa using hc
   have e:Lib.trimPrefix (c::r) [45]=c::r:=by unfold Lib.trimPrefix;rw [if_neg (by rw [hp];decide)]
   rw [e]
   have e2:∀ l:List UInt8,Lib.hasPrefix l [45]=false→Lib.trimPrefix l [45]=l:=fun l h=>by unfold Lib.trimPrefix;rw [if_neg (by rw [h];decide)]
   have h3:Lib.hasPrefix (Xp 47 (c::r)).1 [45]=false:=by
    unfold Xp
    split
    ·by_cases h47:c=47
     ·subst h47;rfl
     ·rw [List.takeWhile_cons_of_pos (by simpa using h47),Yt (by simp)];simpa using hc
    ·exact hp
   exact⟨e2 _ h3,by rw [h3,hp],rfl⟩
theorem j9 {s:List UInt8} (h1:PZ s=false) (h2:N2 s=false) (hk:ahead Jn (Lib.trimPrefix s [45])<(Lib.trimPrefix s [45]).length):XC ((Lib.trimPrefix s [45]).take (ahead Jn (Lib.trimPrefix s [45])))=true∧XC (H5 s)=true:=by
 have hs:W8 s=true:=by simp [W8];exact hk
 simp only [PZ,Bool.or_eq_false_iff,Bool.not_eq_false'] at h1
 simp only [N2,hs,Bool.true_and,Bool.or_eq_false_iff,Bool.not_eq_false'] at h2
 exact⟨Y6 h1.1,Y6 h2.1⟩
theorem Lv (s:List UInt8):GO s=Qp s:=by
 obtain ⟨t1,t2,t3⟩:=OM s
 obtain ⟨c1,c2,c3⟩:=L2 (Lib.trimPrefix s [45])
 have t4:(Xp 47 s).2.1=H5 s:=by rw [t3,c2];rfl
 have t5:(Xp 47 s).2.2=W8 s:=by rw [t3,c3];rfl
 have hlen:(Lib.trimPrefix s [45]).take (ahead Jn (Lib.trimPrefix s [45]))=(Lib.trimPrefix s [45]).take (ahead Jn (Lib.trimPrefix s [45])):=rfl
 have hk:((Lib.trimPrefix s [45]).take (ahead Jn (Lib.trimPrefix s [45]))).length=ahead Jn (Lib.trimPrefix s [45]):=by
  rw [List.length_take];have:=Yw Jn (Lib.trimPrefix s [45]);omega
 unfold Qp GP GO Fe PZ N2 Sj SR
 rw [t1,t2,t4,t5,c1,hk]
 generalize (Lib.trimPrefix s [45]).take (ahead Jn (Lib.trimPrefix s [45]))=a
 generalize H5 s=d
 generalize W8 s=f
 generalize Lib.hasPrefix s [45]=n
 have e:(!J0 a||(n&&a==[48])||(f&&(!J0 d||d==[48]||d==[49])))=((!J0 a||(n&&a==[48]))||(f&&(!J0 d||(d==[48]||d==[49])))):=by rw [Bool.or_assoc (!J0 d)]
 rw [e]
 cases (!J0 a||(n&&a==[48]))<;>cases (f&&(!J0 d||(d==[48]||d==[49])))<;>rfl
theorem Ta {w:World} {F:Gs} {s:List UInt8} (hF:Fits F w) (hl:s.length≤1000000):QW Tryz.prog 20 [tx s] w F (.int .i64 (Qp s)):=by
 rw [← Lv]
 have hln:(Lib.trimPrefix s [45]).length≤s.length:=BE _ _
 have hah:=Yw Jn (Lib.trimPrefix s [45])
 refine QT.intro (G:=fun F=>True) Tryz.func20 rfl (by rfl) rfl rfl hF (fun F' hF'=>trivial)<|QG<|QB<|QA (QE rfl)<|QF<|QD<|QG<|QB<|QA (QC rfl)<|QA (QE rfl)<|QF<|QD ?_
 refine Z5 [(0,_)] [(3,tx (Lib.trimPrefix s [45]))] ⟨rfl,trivial⟩ ?_ ?_
 ·
  refine Z5 [(0,_),(3,_)] [(16,.bool (Lib.hasPrefix s [45]))] ⟨rfl,rfl,trivial⟩ ?_ ?_
  ·
   refine QB<|QA (QC rfl)<|QA (Jo rfl J5)<|QA (QU rfl rfl rfl)<|QA (QC rfl) ?_
   refine Qk (t:=12) rfl (fun hb12=>?_) (fun hb12=>?_)
   ·
    refine QJ rfl rfl<|QA (QC rfl)<|QJ rfl rfl<|QA (KA (i:=0) rfl rfl J5 (by have:=of_decide_eq_true hb12;omega))<|QJ rfl rfl<|QA (QU rfl rfl rfl)<|QA (Qi rfl rfl rfl)<|QF ?_
    exact XI ⟨rfl,rfl,(congrArg (fun b=>some (Value.bool b)) (by have h0:0<s.length:=(by have:=of_decide_eq_true hb12;omega);rw [Yt h0];exact W3 rfl)),trivial⟩ (List.Sublist.refl _) (fun _ h=>h)
   ·
    refine QR rfl rfl rfl<|QR rfl rfl rfl<|QR rfl rfl rfl<|QA (Qh rfl rfl rfl)<|QF ?_
    exact XI ⟨rfl,rfl,(congrArg (fun b=>some (Value.bool b)) (by have h0:s.length=0:=(by have:=of_decide_eq_false hb12;omega);rw [List.eq_nil_of_length_eq_zero h0];rfl)),trivial⟩ (List.Sublist.refl _) (fun _ h=>h)
  ·
   simp only [List.cons_append,List.nil_append]
   refine QO rfl (fun hc=>?_) (fun hc=>?_)
   ·
    refine QB<|QA (QC rfl)<|QA (Zr (1) rfl rfl J5 rfl (Hq hc))<|QA (QE rfl)<|QF ?_
    exact XI ⟨rfl,(congrArg (fun l=>some (tx l)) (by unfold Lib.trimPrefix;rw [if_pos hc];rfl)),trivial⟩ (List.Sublist.refl _) (fun _ h=>h)
   ·
    refine QN ?_
    exact XI ⟨rfl,(congrArg (fun l=>some (tx l)) (by unfold Lib.trimPrefix;rw [hc];rfl)),trivial⟩ (List.Sublist.refl _) (fun _ h=>h)
 ·
  simp only [List.cons_append,List.nil_append]
  refine QG<|QB<|QA (QC rfl)<|QH rfl (fun w F hF hT=>VK hF (by omega)) (fun _=>QA (QE rfl)<|QF<|QD<|QG ?_)
  refine Z5 [(3,_),(4,_)] [(36,.bool (PZ s))] ⟨rfl,rfl,trivial⟩ ?_ ?_
  ·
   refine QB<|QA (QC rfl)<|QA (QC rfl)<|QA (Vq ((ahead Jn (Lib.trimPrefix s [45]))) rfl rfl J5 rfl (by omega))<|QH rfl (fun w F hF ⟨hT,_⟩=>F3 hF (by rw [List.length_take];omega)) (fun _=>QA (ZO rfl)<|QA (QC rfl) ?_)
   refine Qk (t:=26) rfl (fun hb26=>?_) (fun hb26=>?_)
   ·
    refine QR rfl rfl rfl<|QR rfl rfl rfl<|QR rfl rfl rfl<|QR rfl rfl rfl<|JO rfl rfl<|JO rfl rfl<|JO rfl rfl<|JO rfl rfl<|QR rfl rfl rfl<|QA (Qi rfl rfl rfl)<|QF ?_
    exact XI ⟨rfl,rfl,(congrArg (fun b=>some (Value.bool b)) (by simp [PZ] at hb26 ⊢;simp [hb26])),trivial⟩ (List.Sublist.refl _) (fun _ h=>h.1)
   ·
    refine QJ rfl rfl<|QA (QC rfl)<|QJ rfl rfl<|QA (KA (i:=0) rfl rfl V8 (by have h1:=Ml hb26;rw [List.length_take] at h1;omega))<|QJ rfl rfl<|QA (QU rfl rfl rfl)<|QJ rfl rfl<|QA (QC rfl) ?_
    refine Qk (t:=30) rfl (fun hb30=>?_) (fun hb30=>?_)
    ·
     refine QJ rfl rfl<|QA (QC rfl)<|QJ rfl rfl<|QA (QC rfl)<|QJ rfl rfl<|QA (Vq ((ahead Jn (Lib.trimPrefix s [45]))) rfl rfl J5 rfl (by omega))<|QJ rfl rfl<|QA (Zy rfl rfl)<|QJ rfl rfl<|QA (Qi rfl rfl rfl)<|QA (Qh rfl rfl rfl)<|QF ?_
     exact XI ⟨rfl,rfl,(congrArg (fun b=>some (Value.bool b)) (by have h0:0<s.length:=(by have h1:=Ml hb26;rw [List.length_take] at h1;omega);have hp:Lib.hasPrefix s [45]=true:=(by rw [Yt h0,← W3 (z:=45) rfl];exact hb30);simp [PZ] at hb26 ⊢;simp [hb26,hp])),trivial⟩ (List.Sublist.refl _) (fun _ h=>h.1)
    ·
     refine QR rfl rfl rfl<|QR rfl rfl rfl<|QR rfl rfl rfl<|QR rfl rfl rfl<|QJ rfl rfl<|QA (Qh rfl rfl rfl)<|QA (Qh rfl rfl rfl)<|QF ?_
     exact XI ⟨rfl,rfl,(congrArg (fun b=>some (Value.bool b)) (by have h0:0<s.length:=(by have h1:=Ml hb26;rw [List.length_take] at h1;omega);have hp:Lib.hasPrefix s [45]=false:=(by rw [Yt h0,← W3 (z:=45) rfl];exact hb30);simp [PZ] at hb26 ⊢;simp [hb26,hp])),trivial⟩ (List.Sublist.refl _) (fun _ h=>h.1)
  ·
   simp only [List.cons_append,List.nil_append]
   refine QO rfl (fun hc=>?_) (fun hc=>?_)
   ·
    have hb1:PZ s=true:=hc
    refine QG<|QB<|QA (QE rfl)<|QF<|QD<|QS ?_
    exact QQ (()) rfl (.tmp rfl .nil) (congrArg (Value.int .i64) (by simp [GO,hb1])) (fun F ⟨hT,_⟩=>trivial)
   ·
    have hb1:PZ s=false:=hc
    refine QN<|QD<|QG ?_
    refine Z5 [(3,_),(4,_)] [(62,.bool (N2 s))] ⟨rfl,rfl,trivial⟩ ?_ ?_
    ·
     refine QB<|QA (QC rfl)<|QA (QC rfl)<|QA (Jo rfl J5)<|QA (QU rfl rfl rfl)<|QA (QC rfl) ?_
     refine Qk (t:=41) rfl (fun hb41=>?_) (fun hb41=>?_)
     ·
      refine QJ rfl rfl<|QA (QC rfl)<|QJ rfl rfl<|QA (QC rfl)<|QJ rfl rfl<|QA (Qw rfl rfl (by omega))<|QJ rfl rfl<|QA (Zr (((ahead Jn (Lib.trimPrefix s [45]))+1)) rfl rfl J5 (congrArg (fun z:Int=>some (Value.int .i64 z)) (by omega)) (by have:=of_decide_eq_true hb41;omega))<|QJ rfl rfl<|QH rfl (fun w F hF ⟨hT,_⟩=>F3 hF (by rw [List.length_drop];omega)) (fun _=>QJ rfl rfl<|QA (ZO rfl)<|QJ rfl rfl<|QA (QC rfl) ?_)
      refine Qk (t:=48) rfl (fun hb48=>?_) (fun hb48=>?_)
      ·
       refine QR rfl rfl rfl<|QR rfl rfl rfl<|QR rfl rfl rfl<|QR rfl rfl rfl<|QR rfl rfl rfl<|QJ rfl rfl<|QA (Qi rfl rfl rfl)<|QJ rfl rfl<|QA (QC rfl)<|QR rfl rfl rfl<|QR rfl rfl rfl<|QR rfl rfl rfl<|QR rfl rfl rfl<|QR rfl rfl rfl<|QJ rfl rfl<|QA (Qi rfl rfl rfl)<|QA (Qi rfl rfl rfl)<|QF ?_
       exact XI ⟨rfl,rfl,(congrArg (fun b=>some (Value.bool b)) (by have h1:W8 s=true:=(by simp [W8];simpa using hb41);simp [N2,h1];simp at hb48;exact .inl hb48)),trivial⟩ (List.Sublist.refl _) (fun _ h=>h.1)
      ·
       refine QJ rfl rfl<|QA (QC rfl)<|QJ rfl rfl<|QA (QC rfl)<|QJ rfl rfl<|QA (Qw rfl rfl (by omega))<|QJ rfl rfl<|QA (Zr (((ahead Jn (Lib.trimPrefix s [45]))+1)) rfl rfl J5 (congrArg (fun z:Int=>some (Value.int .i64 z)) (by omega)) (by have:=of_decide_eq_true hb41;omega))<|QJ rfl rfl<|QA (Zy rfl rfl)<|QJ rfl rfl<|QA (Qh rfl rfl rfl)<|QJ rfl rfl<|QA (QC rfl) ?_
       refine Qk (t:=55) rfl (fun hb55=>?_) (fun hb55=>?_)
       ·
        refine QR rfl rfl rfl<|QR rfl rfl rfl<|QR rfl rfl rfl<|QR rfl rfl rfl<|QR rfl rfl rfl<|QJ rfl rfl<|QA (Qi rfl rfl rfl)<|QA (Qi rfl rfl rfl)<|QF ?_
        exact XI ⟨rfl,rfl,(congrArg (fun b=>some (Value.bool b)) (by have h1:W8 s=true:=(by simp [W8];simpa using hb41);simp [N2,h1];exact .inr (.inl (by simpa [H5] using hb55)))),trivial⟩ (List.Sublist.refl _) (fun _ h=>h.1)
       ·
        refine QJ rfl rfl<|QA (QC rfl)<|QJ rfl rfl<|QA (QC rfl)<|QJ rfl rfl<|QA (Qw rfl rfl (by omega))<|QJ rfl rfl<|QA (Zr (((ahead Jn (Lib.trimPrefix s [45]))+1)) rfl rfl J5 (congrArg (fun z:Int=>some (Value.int .i64 z)) (by omega)) (by have:=of_decide_eq_true hb41;omega))<|QJ rfl rfl<|QA (Zy rfl rfl)<|QJ rfl rfl<|QA (Qh rfl rfl rfl)<|QA (Qi rfl rfl rfl)<|QF ?_
        exact XI ⟨rfl,rfl,(congrArg (fun b=>some (Value.bool b)) (by have h1:W8 s=true:=(by simp [W8];simpa using hb41);simp at hb48 hb55;simp [N2,h1,H5,hb48,hb55])),trivial⟩ (List.Sublist.refl _) (fun _ h=>h.1)
     ·
      refine QR rfl rfl rfl<|QR rfl rfl rfl<|QR rfl rfl rfl<|QR rfl rfl rfl<|QR rfl rfl rfl<|QR rfl rfl rfl<|QR rfl rfl rfl<|JO rfl rfl<|JO rfl rfl<|JO rfl rfl<|JO rfl rfl<|JO rfl rfl<|QR rfl rfl rfl<|QR rfl rfl rfl<|JO rfl rfl<|JO rfl rfl<|JO rfl rfl<|JO rfl rfl<|JO rfl rfl<|QR rfl rfl rfl<|QA (Qh rfl rfl rfl)<|QF ?_
      exact XI ⟨rfl,rfl,(congrArg (fun b=>some (Value.bool b)) (by have h1:W8 s=false:=(by simp [W8];simpa using hb41);simp [N2,h1])),trivial⟩ (List.Sublist.refl _) (fun _ h=>h)
    ·
     simp only [List.cons_append,List.nil_append]
     refine QO rfl (fun hc=>?_) (fun hc=>?_)
     ·
      have hb2:N2 s=true:=hc
      refine QG<|QB<|QA (QE rfl)<|QF<|QD<|QS ?_
      exact QQ (()) rfl (.tmp rfl .nil) (congrArg (Value.int .i64) (by simp [GO,hb1,hb2])) (fun F ⟨hT,_⟩=>trivial)
     ·
      have hb2:N2 s=false:=hc
      refine QN<|QD<|QG ?_
      refine Z5 [(3,_),(4,_)] [(72,.bool (Sj s))] ⟨rfl,rfl,trivial⟩ ?_ ?_
      ·
       refine QB<|QA (QC rfl)<|QA (QU rfl rfl rfl)<|QA (QC rfl) ?_
       refine Qk (t:=65) rfl (fun hb65=>?_) (fun hb65=>?_)
       ·
        refine QR rfl rfl rfl<|QR rfl rfl rfl<|QR rfl rfl rfl<|QR rfl rfl rfl<|QR rfl rfl rfl<|QR rfl rfl rfl<|QA (Qi rfl rfl rfl)<|QF ?_
        exact XI ⟨rfl,rfl,(congrArg (fun b=>some (Value.bool b)) (by have:=of_decide_eq_true hb65;simp [Sj];left;omega)),trivial⟩ (List.Sublist.refl _) (fun _ h=>h)
       ·
        refine QJ rfl rfl<|QA (QC rfl)<|QJ rfl rfl<|QA (Jo rfl J5)<|QJ rfl rfl<|QA (QC rfl)<|QJ rfl rfl<|QA (Jx rfl rfl (by omega))<|QJ rfl rfl<|QA (Jx rfl rfl (by omega))<|QJ rfl rfl<|QA (QU rfl rfl rfl)<|QA (Qh rfl rfl rfl)<|QF ?_
        exact XI ⟨rfl,rfl,(congrArg (fun b=>some (Value.bool b)) (by rw [Bool.eq_iff_iff];have:=of_decide_eq_false hb65;simp [Sj,H5];omega)),trivial⟩ (List.Sublist.refl _) (fun _ h=>h)
      ·
       simp only [List.cons_append,List.nil_append]
       refine QO rfl (fun hc=>?_) (fun hc=>?_)
       ·
        have hb3:Sj s=true:=hc
        refine QG<|QB<|QA (QE rfl)<|QF<|QD<|QS ?_
        exact QQ (()) rfl (.tmp rfl .nil) (congrArg (Value.int .i64) (by simp [GO,hb1,hb2,hb3])) (fun F ⟨hT,_⟩=>trivial)
       ·
        have hb3:Sj s=false:=hc
        have hk6:ahead Jn (Lib.trimPrefix s [45])≤600:=by simp [Sj] at hb3;exact hb3.1
        refine QN<|QD<|QG<|QG<|QB<|QA (QC rfl)<|QA (QC rfl)<|QA (Jo rfl J5)<|QA (QU rfl rfl rfl)<|QF<|QD ?_
        refine QO rfl (fun hc=>?_) (fun hc=>?_)
        ·
         have hk:ahead Jn (Lib.trimPrefix s [45])<(Lib.trimPrefix s [45]).length:=by have:=of_decide_eq_true hc;omega
         obtain ⟨da,dd⟩:=j9 hb1 hb2 hk
         refine QG<|QB<|QA (QC rfl)<|QH rfl (fun w F hF ⟨hT,_⟩=>I3 hF (s:=(Lib.trimPrefix s [45])) (by omega) (by rw [ZA da];exact da) (fun _=>by rw [show(List.drop (ahead Jn (Lib.trimPrefix s [45])+1) (Lib.trimPrefix s [45]))=H5 s from rfl,ZA dd];exact dd)) (fun c79=>QA (QC rfl)<|QA (QK rfl rfl)<|QA (QK rfl rfl)<|QZ Xc (fun b5=>QZ Xc (fun b6=>QP (vs:=[_,_]) rfl rfl rfl Qv rfl (.there .here) (.here (.here .nil)) ⟨rfl,rfl,trivial⟩<|QP (vs:=[_,_]) rfl rfl rfl Qv rfl .here (.here (.here .nil)) ⟨rfl,rfl,trivial⟩<|QF<|QD<|QG<|Xl _ (fun w F hF h=>And.intro h.2.1.p (And.intro (h.2.2 hk).p (And.intro h.2.1.1.2.1 (h.2.2 hk).1.2.1))) (fun pp=>?_))))
         obtain ⟨pa,pd,na,nd⟩:=pp
         rw [XB da] at pa
         have pd2:=pd
         rw [show Zq ((Lib.trimPrefix s [45]).drop (ahead Jn (Lib.trimPrefix s [45])+1))=JB (H5 s) from XB dd] at pd2
         have la:=pa.len
         have ld:=pd2.len
         have sa:=Fq da
         have sd:=Fq dd
         have h600:(H5 s).length≤600:=by simp [Sj] at hb3;exact hb3.2
         rw [List.length_take] at sa
         refine QB<|QA (QI rfl XK Qs)<|QA (Qn rfl Qs (.there .here) (.skip (.here .nil)))<|QA (QI rfl XK Qs)<|QA (Qn rfl Qs .here (.skip (.here .nil))) ?_
         refine QH rfl (fun w F hF ⟨⟨hT,_⟩,h79⟩=>Pv hF (a:=c79.1.l) (b:=c79.2.l) (ra:=c79.1.r) (rb:=c79.2.r) h79.1.1 ((h79.2 hk).1) (pa.dg) (pd.dg) (pa.nz) (pd.nz) (by omega) (by omega)) (fun c86=>?_);rcases c86 with ⟨v86,l86⟩;dsimp only
         refine JK _ (fun w F hF ⟨⟨⟨hT,_⟩,h79⟩,⟨h86,h86p⟩⟩=>And.intro h86.2 h86p) (fun p86=>QA (QE rfl)<|QF<|QD ?_)
         refine Z5 [] [(95,.bool (SR s))] trivial ?_ ?_
         ·
          have hgc:dv B9 l86=(Nat.gcd (JB ((Lib.trimPrefix s [45]).take (ahead Jn (Lib.trimPrefix s [45])))) (JB (H5 s)):Nat):=by
           rw [p86.2.2.2,Ui pa pd2];rfl
          have hone:=NH p86.2.1 p86.2.2.1
          have hsl:W8 s=true:=by simp [W8];exact hk
          refine QB<|QA (QC rfl)<|QA (Ql rfl Qe)<|QA (QU rfl rfl rfl)<|QA (QC rfl) ?_
          refine Qk (t:=90) rfl (fun hb90=>?_) (fun hb90=>?_)
          ·
           refine QR rfl rfl rfl<|QR rfl rfl rfl<|QR rfl rfl rfl<|QR rfl rfl rfl<|QA (Qi rfl rfl rfl)<|QF ?_
           exact XI ⟨(congrArg (fun b=>some (Value.bool b)) (by have h1:¬ l86.length=1:=(by simp at hb90;omega);rw [Bool.eq_iff_iff];simp [SR,hsl];intro g;exact h1 (hone.2 (by rw [hgc,g];rfl)).1)),trivial⟩ (List.Sublist.refl _) (fun _ h=>h)
          ·
           have hn1:v86.n=1:=by simp at hb90;omega
           refine QJ rfl rfl<|QA (QC rfl)<|QJ rfl rfl<|QA (Jc (n:=v86.n) (0) (fun F ⟨⟨⟨hT,_⟩,h79⟩,⟨h86,h86p⟩⟩=>(h86).1) rfl (congrArg (fun z:Int=>some (Value.int .i64 z)) (by omega)) Qe Qu (by omega))<|QJ rfl rfl<|QA (Ji (n:=v86.n) ((0)*1) (fun F ⟨⟨⟨hT,_⟩,h79⟩,⟨h86,h86p⟩⟩=>(h86).1) (by omega) rfl Qu (JR (o:=l86) (by omega)))<|QJ rfl rfl<|QA (QU rfl rfl rfl)<|QA (Qh rfl rfl rfl)<|QF ?_
           exact XI ⟨(congrArg (fun b=>some (Value.bool b)) (by have h1:l86.length=1:=(by omega);rw [Bool.eq_iff_iff];simp [SR,hsl];exact not_congr ⟨fun e=>by have h2:=hone.1 ⟨h1,e⟩;rw [hgc] at h2;omega,fun e=>(hone.2 (by rw [hgc,e];rfl)).2⟩)),trivial⟩ (List.Sublist.refl _) (fun _ h=>h)
         ·
          simp only [List.cons_append,List.nil_append]
          refine QO rfl (fun hc=>?_) (fun hc=>?_)
          ·
           have hg4:SR s=true:=hc
           refine QG<|QB<|QA (QE rfl)<|QF<|QD<|QS ?_
           exact QQ (()) rfl (.tmp rfl .nil) (congrArg (Value.int .i64) (by simp [GO,hb1,hb2,hb3,hg4])) (fun F ⟨⟨⟨hT,_⟩,h79⟩,⟨h86,h86p⟩⟩=>trivial)
          ·
           have hg4:SR s=false:=hc
           refine QN<|QD<|QG<|QB<|QA (QE rfl)<|QF<|QD<|QS ?_
           exact QQ (()) rfl (.tmp rfl .nil) (congrArg (Value.int .i64) (by simp [GO,hb1,hb2,hb3,hg4])) (fun F ⟨⟨⟨hT,_⟩,h79⟩,⟨h86,h86p⟩⟩=>trivial)
        ·
         have hg4:SR s=false:=by have:=of_decide_eq_false hc;simp [SR,W8];intro g;omega
         refine QN<|QD<|QG<|QB<|QA (QE rfl)<|QF<|QD<|QS ?_
         exact QQ (()) rfl (.tmp rfl .nil) (congrArg (Value.int .i64) (by simp [GO,hb1,hb2,hb3,hg4])) (fun F ⟨hT,_⟩=>trivial)
end
section
open Go.RowKit Ig
structure Y5 {α:Type} (l:List α) (f:α→Int) where
 i:Nat
 le:i≤l.length
 h:Qj (l.map f)=Qj ((l.map f).drop i)
section
variable {α:Type} [Inhabited α] {l:List α} {f:α→Int}
theorem SB {i:Nat} (hi:i<l.length):(l.map f)[i]'(by simpa using hi)=f (el l i):=by rw [List.getElem_map,Zi hi]
def Y5.next (s:Y5 l f) (hi:s.i<l.length) (h:f (el l s.i)=0):Y5 l f:=⟨s.i+1,hi,by
 rw [s.h,KU (by simpa using hi) (by rw [SB hi];exact h)]⟩
theorem Y5.hit (s:Y5 l f) (hi:s.i<l.length) (h:f (el l s.i)≠0):Qj (l.map f)=f (el l s.i):=by
 rw [s.h,We (by simpa using hi) (by rw [SB hi];exact h),SB hi]
theorem Y5.stop (s:Y5 l f) (hi:l.length≤s.i):Qj (l.map f)=0:=by
 rw [s.h,List.drop_of_length_le (by simpa using hi)];rfl
end
def Y5.start {α:Type} (l:List α) (f:α→Int):Y5 l f:=⟨0,Nat.zero_le _,rfl⟩
structure S0 {α:Type} (l:List α) (p:α→Bool) where
 i:Nat
 le:i≤l.length
 h:l.all p=(l.drop i).all p
section
variable {α:Type} [Inhabited α] {l:List α} {p:α→Bool}
def S0.next (s:S0 l p) (hi:s.i<l.length) (h:p (el l s.i)=true):S0 l p:=⟨s.i+1,hi,by rw [s.h,MG hi,List.all_cons,h,Bool.true_and]⟩
theorem S0.hit (s:S0 l p) (hi:s.i<l.length) (h:p (el l s.i)=false):l.all p=false:=by rw [s.h,MG hi,List.all_cons,h,Bool.false_and]
theorem S0.stop (s:S0 l p) (hi:l.length≤s.i):l.all p=true:=by rw [s.h,List.drop_of_length_le hi];rfl
end
def S0.start {α:Type} (l:List α) (p:α→Bool):S0 l p:=⟨0,Nat.zero_le _,rfl⟩
theorem F5 {w:World} {F:Gs} {a b:List UInt8} (hF:Fits F w) (ha:Qp a=0) (hb:Qp b=0):QW Tryz.prog 30 [tx a,tx b] w F (.int .i64 (Wz (JA a) (JA b))):=by
 have h1:=Q7 ha
 have h2:=Q7 hb
 have:=zR (x:=JA a) (y:=JA b) hF (by omega) (by omega)
 rw [← (Jq ha).1,← (Jq hb).1] at this;exact this
theorem Tb {w:World} {F:Gs} {q:Option Addr} {n c:Nat} {l:List (List UInt8)} (hF:Fits F w) (hR:JF F q n 1 (l.map tx)) (hl:l.length=n∧∀ s∈l,s.length≤1000000) (hn:n≤1000000):QW Tryz.prog 29 [.slice q n c] w F (.int .i64 (Qj (l.map Qp))):=by
 have hln:=hl.1
 refine QT.intro (G:=fun F=>JF F q n 1 (l.map tx)) Tryz.func29 rfl (by rfl) rfl rfl hF (fun F' hF'=>hR.le hF')<|QG<|QB<|QA (QE rfl)<|QF<|QD<|QG<|QG<|QB<|QA (QE rfl)<|QF<|QD<|Qa<|YU (ι:=Y5 l Qp) [(0,_)] (fun i=>[(3,.int .i64 ((i.i:Nat):Int))]) (fun i=>l.length - i.i) (Y5.start _ _) ⟨rfl,trivial⟩ ⟨rfl,trivial⟩ (fun i=>?_)
 simp only [List.cons_append,List.nil_append]
 refine QG<|QG<|QB<|QA (QC rfl)<|QA (QC rfl)<|QA (Ql rfl BO)<|QA (QU rfl rfl rfl)<|QF<|QD ?_
 refine QO rfl (fun hc=>?_) (fun hc=>?_)
 ·
  have hi:i.i<l.length:=by have:=of_decide_eq_true hc;omega
  refine QN<|QD<|QG<|Qa<|QG<|QB<|QA (QC rfl)<|QA (QC rfl)<|QA (Jc (n:=n) (i.i) (fun F hR=>hR) rfl rfl BO X2 (by omega))<|QA (Ji (n:=n) ((i.i)*1) (fun F hR=>hR) (by omega) rfl X2 (NU (f:=tx) (l:=l) (by omega)))<|QH rfl (fun w F hF hR=>Ta hF (hl.2 _ (Je hi))) (fun _=>QA (QE rfl)<|QF<|QD<|QG<|QB<|QA (QC rfl)<|QA (QU rfl rfl rfl)<|QF<|QD ?_)
  refine QO rfl (fun hc=>?_) (fun hc=>?_)
  ·
   refine QG<|QB<|QA (QC rfl)<|QA (QE rfl)<|QF<|QD<|QS ?_
   repeat (first | refine JN ?_ | refine JE ?_)
   exact QQ (()) rfl (.tmp rfl .nil) (congrArg (Value.int .i64) (i.hit hi (by simpa using hc))) (fun F ⟨hR,_⟩=>trivial)
  ·
   refine QN<|Qm<|QD<|QB<|QA (QC rfl)<|QA (Qw rfl rfl (by omega))<|QA (QE rfl)<|QF ?_
   exact Qo (i.next hi (by simpa using hc)) (by show l.length - (i.i+1)<l.length - i.i;omega) ⟨rfl,rfl,trivial⟩ (List.Sublist.refl _) (fun F h=>h.1)
 ·
  have hi:l.length≤i.i:=by have:=of_decide_eq_false hc;omega
  refine Q6 ?_
  repeat (first | refine Qc ?_ | refine QX (by rfl) ?_)
  refine Qd<|QD<|QG<|QB<|QA (QE rfl)<|QF<|QD<|QS ?_
  exact QQ (()) rfl (.tmp rfl .nil) (congrArg (Value.int .i64) (i.stop hi)) (fun F hR=>trivial)
def gv (a:List UInt8) (d:Int):Bool:=decide ((a.length:Int)≤2*d+2)&&(Qp a==0&&(decide (((U4 (numOf a)).length:Int)≤d)&&decide (((EP a).length:Int)≤d)))
end
section
open Go.RowKit Ig
def vf (x y:Rat):Rat:=if Wz x y≤0 then x else y
def vg (x y:Rat):Rat:=if Wz x y≥0 then x else y
@[reducible] def dS (a:Rat×Rat):Value:=.agg #[tx (JJ a.1),tx (JJ a.2)]
def gn (k:Nat) (a:Rat×Rat):Prop:=JX a.1≤k∧JX a.2≤k
end
section
open Go.RowKit Ig
def xu (s:Rat×Rat) (l:List (Rat×Rat)):Rat×Rat:=l.foldl (fun s p=>(vf s.1 p.1,vg s.2 p.2)) s
def vW (p:Rat×Rat):List Value:=[tx (JJ p.1),tx (JJ p.2)]
theorem kD (p:Rat×Rat):(vW p).length=2:=rfl
structure dO (l:List (Rat×Rat)) where
 i:Nat
 s:Rat×Rat
 le:i≤l.length
 sz:gn 20000 s
 h:xu s (l.drop i)=xu (el l 0) (l.drop 1)
end
section
open Go Go.RowKit
section
variable [Dr] [df:Df]
def GD (l:List Oper) (r:List Nat) (i:Nat):Bool:=match l[i]? with
 |some o=>o.after.all fun e=>!(Region.binds .any e)||!(r.contains e.on)
 |none=>false
def Ad (l:List Oper) (i:Nat):Bool:=match l[i]? with
 |some o=>Jv o.op
 |none=>false
def P2 (l:List Oper) (r:List Nat):Option Nat:=r.find? fun i=>Ad l i&&GD l r i
def Mr (l:List Oper):Bool :=
 Region.noSelect l.toArray&&KS .any l.toArray l.length&&(List.range l.length).all fun j=>match l[j]? with
  |none=>false
  |some oj=>(List.range j).all fun i=>match l[i]? with
   |none=>false
   |some oi=>if Jv oi.op||Jv oj.op then(Region.waitsFor .any l.toArray j i||oi.apart l.toArray oj) else true
theorem Mq {l:List Oper} (h:Mr l=true) {i j:Nat} (hij:i<j) {oi oj:Oper} (hi:l[i]?=some oi) (hj:l[j]?=some oj) (hq:(Jv oi.op||Jv oj.op)=true):(Region.waitsFor .any l.toArray j i||oi.apart l.toArray oj)=true:=by
 simp only [Mr,Bool.and_eq_true] at h
 have hjl:j<l.length:=by rcases Nat.lt_or_ge j l.length with g | g;exact g;rw [List.getElem?_eq_none g] at hj;cases hj
 have h1:=List.all_eq_true.1 h.2 j (List.mem_range.2 hjl)
 rw [hj] at h1
 have h2:=List.all_eq_true.1 h1 i (List.mem_range.2 hij)
 rw [hi] at h2
 simp only at h2
 rw [if_pos hq] at h2;exact h2
section
variable {P:Program} {Q:Exit→Act→World→Prop} {S:World→Prop}
def Ei (P:Program) (l:List Oper) (Q:Exit→Act→World→Prop) (S:World→Prop):Nat→List Nat→Act→World→Prop
 |0,_,a,w=>Q .normal a w
 |n+1,r,a,w=>match P2 l r with
  |some i=>∃ o v,l[i]?=some o∧YieldsIf P l.toArray S o v a∧Ei P l Q S n (r.erase i) (a.put o.dst v) w
  |none=>∀ i∈r,GD l r i=true→wpOp P l.toArray (fun _ _ _=>False) i (fun a' w'=>S w'∧Ei P l Q S n (r.erase i) a' w') a w
theorem ON {l:List Oper} (hB:Mr l=true) (hQ:∀ c a d v w,Q (.panic c) (Act.put a d v) w→Q (.panic c) a w) :
  ∀ (m:Nat) (r:List Nat) (listed:Array Bool) (a:Act) (w:World),r.length=m→r.Pairwise (·<·)→(∀ i,i∈r↔i<l.length∧listed.getD i true=false)→listed.size=l.length →
   (∀ j oj,l.toArray[j]?=some oj→listed.getD j false=true→∀ e∈oj.after,Region.binds .any e=true→listed.getD e.on false=true)→S w→Ei P l Q S m r a w→wpAnyH P .any l.toArray Q S m listed a w:=by
 have hB':=hB
 simp only [Mr,Bool.and_eq_true] at hB'
 obtain ⟨⟨hns,hord⟩,_⟩:=hB'
 have hsel:=Region.noSelect_spec hns
 intro m
 induction m with
 |zero =>
  intro r listed a w hm hs hr hsz hcl hS h
  have:r=[]:=List.length_eq_zero_iff.1 hm
  subst this
  refine⟨?_,h⟩
  rw [List.eq_nil_iff_forall_not_mem]
  intro i hi
  obtain ⟨h1,o,ho,_⟩:=mem_ready.1 hi
  have hlt:i<l.length:=by have:=(Array.getElem?_eq_some_iff.1 ho).1;simpa using this
  have:=(hr i).2 ⟨hlt,h1⟩
  cases this
 |succ m ih =>
  intro r listed a w hm hs hr hsz hcl hS h
  have hready:∀ j,j∈Region.ready .any l.toArray listed↔j∈r∧GD l r j=true:=by
   intro j
   rw [mem_ready,hr j]
   constructor
   ·rintro ⟨h1,o,ho,h2⟩
    have hlt:j<l.length:=by have:=(Array.getElem?_eq_some_iff.1 ho).1;simpa using this
    refine⟨⟨hlt,h1⟩,?_⟩
    unfold GD
    have ho':l[j]?=some o:=by simpa using ho
    rw [ho']
    rw [Array.all_eq_true_iff_forall_mem]
    intro e he
    cases hb:Region.binds .any e with
    |false=>rfl
    |true =>
     have:=h2 e he hb
     simp only [Bool.not_true,Bool.false_or,Bool.not_eq_true',List.contains_eq_mem,decide_eq_false_iff_not]
     intro hmem
     have h3:=((hr e.on).1 hmem).2
     rw [getD_both h3] at this;cases this
   ·rintro ⟨⟨hlt,h1⟩,h2⟩
    obtain ⟨o,ho,hed⟩:=Xt hord hlt
    refine⟨h1,o,ho,fun e he hb=>?_⟩
    unfold GD at h2
    have ho':l[j]?=some o:=by simpa using ho
    rw [ho',Array.all_eq_true_iff_forall_mem] at h2
    have:=h2 e he
    rw [hb] at this
    simp only [Bool.not_true,Bool.false_or,Bool.not_eq_true',List.contains_eq_mem,decide_eq_false_iff_not] at this
    cases hv:listed.getD e.on false with
    |true=>rfl
    |false =>
     have hel:=hed e he hb
     exact absurd ((hr e.on).2 ⟨by omega,getD_in (by omega) hv⟩) this
  have next:∀ j,j∈Region.ready .any l.toArray listed→∀ a' w',S w'→Ei P l Q S m (r.erase j) a' w'→wpAnyH P .any l.toArray Q S m (listed.setIfInBounds j true) a' w':=by
   intro j hj a' w' hS' h'
   have hjr:=((hready j).1 hj).1
   have hjsz:j<listed.size:=by rw [hsz];exact((hr j).1 hjr).1
   refine ih (r.erase j) _ a' w' (by rw [List.length_erase_of_mem hjr];omega) (hs.sublist List.erase_sublist) (fun k=>?_) (by simpa using hsz) (fun k ok hk hl e he hb=>?_) hS' h'
   ·rw [List.Nodup.mem_erase_iff (hs.imp (fun h=>Nat.ne_of_lt h)),hr k]
    by_cases hjk:j=k
    ·subst hjk;simp [hjsz]
    ·rw [getD_set_ne true hjk];simp [Ne.symm hjk]
   ·by_cases hjk:j=k
    ·subst hjk
     obtain ⟨_,oj,hoj,hall⟩:=mem_ready.1 hj
     have:ok=oj:=Option.some.inj (hk.symm.trans hoj)
     subst this
     exact getD_set_true (hall e he hb)
    ·rw [getD_set_ne false hjk] at hl
     exact getD_set_true (hcl k ok hk hl e he hb)
  unfold Ei at h
  cases hp:P2 l r with
  |some j =>
   rw [hp] at h
   obtain ⟨oj,v,hoj0,hy,h'⟩:=h
   have hoj:l.toArray[j]?=some oj:=by simpa using hoj0
   have hjr:j∈r:=List.mem_of_find?_eq_some hp
   have hqr:=List.find?_some hp
   simp only [Bool.and_eq_true] at hqr
   have hq:Jv oj.op=true:=by have:=hqr.1;unfold Ad at this;rw [hoj0] at this;exact this
   have hj:j∈Region.ready .any l.toArray listed:=(hready j).2 ⟨hjr,hqr.2⟩
   have hjs:=mem_ready.1 hj
   have happ:∀ k ok,l.toArray[k]?=some ok→k≠j→listed.getD k true=false→(∀ e∈ok.after,Region.binds .any e=true→e.on≠j)→oj.apart l.toArray ok=true:=by
    intro k ok hok hkj hun hno
    have hnw:Region.waitsFor .any l.toArray k j=false:=by
     cases hv:Region.waitsFor .any l.toArray k j with
     |false=>rfl
     |true =>
      obtain ⟨o',ho',e,he,hb,hon⟩:=Region.waitsFor_spec hv
      have:o'=ok:=Option.some.inj (ho'.symm.trans hok)
      subst this
      exact absurd hon (hno e he hb)
    have hnw2:Region.waitsFor .any l.toArray j k=false:=by
     cases hv:Region.waitsFor .any l.toArray j k with
     |false=>rfl
     |true =>
      obtain ⟨o',ho',e,he,hb,hon⟩:=Region.waitsFor_spec hv
      obtain ⟨_,o2,ho2,hall⟩:=hjs
      have:o'=o2:=Option.some.inj (ho'.symm.trans ho2)
      subst this
      have:=hall e he hb
      rw [hon,getD_both hun] at this;cases this
    rcases Nat.lt_or_gt_of_ne hkj with hlt | hgt
    ·have:=Mq hB hlt (by simpa using hok) (by simpa using hoj) (by simp [hq])
     rw [hnw2] at this
     exact N5 (by simpa using this)
    ·have:=Mq hB hgt (by simpa using hoj) (by simpa using hok) (by simp [hq])
     rw [hnw] at this
     simpa using this
   exact wpAnyH_first hoj hsel (fun c a w h=>hQ c a _ v w h) m listed a w happ hj hy hS (next j hj _ w hS h')
  |none =>
   rw [hp] at h
   match r,hm,hs,hr,h,hready,next with
   |i::r,hm,hs,hr,h,hready,next =>
    have hil:=(hr i).1 (by simp)
    have hmin:∀ j,j<i→listed.getD j false=true:=by
     intro j hj
     cases hv:listed.getD j false with
     |true=>rfl
     |false =>
      have hjl:j<l.length:=by omega
      have:=(hr j).2 ⟨hjl,getD_in (by omega) hv⟩
      rcases List.mem_cons.1 this with e | e
      ·omega
      ·have:=(List.pairwise_cons.1 hs).1 j e;omega
    obtain ⟨oi,hoi,hed⟩:=Xt hord hil.1
    have hri:i∈Region.ready .any l.toArray listed:=mem_ready.2 ⟨hil.2,oi,hoi,fun e he hb=>hmin _ (hed e he hb)⟩
    refine⟨fun h0=>(by rw [h0] at hri;cases hri),fun j hj=>?_⟩
    have hj':=(hready j).1 hj
    exact S6 (wpOp_mono (fun a' w' h=>⟨h.1,next j hj a' w' h.1 h.2⟩) (h j hj'.1 hj'.2))
theorem PG {l:List Oper} {Q':Exit→Act→World→Prop} (hB:Mr l=true) (hQ:∀ c a w,¬ Q' (.panic c) a w) {a:Act} {w:World} (hS:S w) (h:Ei P l Q' S l.length (List.range' 0 l.length) a w) :
  wpAny P .any l.toArray Q' l.length (Array.replicate l.length false) a w:=by
 refine wpAny_of_held _ _ _ _ (ON hB (fun c a d v w h=>absurd h (hQ c _ w)) l.length (List.range' 0 l.length) _ a w (by simp) List.pairwise_lt_range' (fun i=>?_) (by simp) (fun j oj _ hl=>(by rw [getD_replicate_false] at hl;cases hl)) hS h)
 rw [List.mem_range'_1]
 constructor
 ·intro h
  have:i<l.length:=by omega
  simp [this]
 ·intro h;omega
theorem Mj {id:Nat} {a:Act} {w:World} {l:List Oper} (hm:P.follows .mixedOrders=true) (hB:Mr l=true) (hS:S { w with drawn:=w.drawn+1 })
  (h:Ei P l (Xu (Q .normal)) S l.length (List.range' 0 l.length) a { w with drawn:=w.drawn+1 }):(Code.region id l.toArray true).wp P Q a w:=by
 refine wp_region_any hm ?_
 have:=PG (P:=P) (Q':=Xu (Q .normal)) hB (fun c a w h=>h) hS h
 simpa using Vl (Q':=Q) (fun e a w h=>by cases e<;>first | exact h | exact h.elim) _ _ _ _ this
end
section
variable {P:Program} {Q:Exit→Act→World→Prop} {N:Nat} {m:Sl} {E E0:Env} {l:List Oper} {r r':List Nat} {w0:World} {F0:Gs} {bs:List (Nat×Obj)} {G:Gs→Prop}
def JT (P:Program) (l:List Oper) (Q:Exit→Act→World→Prop) (E0:Env) (r:List Nat) (N:Nat) (m:Sl) (E:Env):Prop:=(∀ w,St E w→St E0 w)→∀ a w,Js N m a→St E w→Ei P l Q (St E0) r.length r a w
def BW (P:Program) (l:List Oper) (Q:Exit→Act→World→Prop) (E0:Env) (r:List Nat):Act→World→Prop:=fun a w=>Ei P l Q (St E0) r.length r a w
theorem Yn (h:JT P l Q E0 r N m E):JD P l.toArray (Xu (BW P l Q E0 r)) E0 [] N m E:=fun hE a w ha hw=>h hE a w ha hw
theorem RM {i:Nat} (h:i∈r):r.length=(r.erase i).length+1:=by
 rw [List.length_erase_of_mem h]
 have:=List.length_pos_of_mem h
 omega
theorem L8 (i:Nat) {o:Oper} (hp:P2 l r=some i) (ho:l[i]?=some o) (he:r.erase i=r') (h:JD P l.toArray (Xu (BW P l Q E0 r')) E0 [o] N m E):JT P l Q E0 r N m E:=by
 intro hE a w ha hw
 subst he
 have hi:i∈r:=List.mem_of_find?_eq_some hp
 rw [RM hi]
 unfold Ei
 rw [hp]
 have hq:Jv o.op=true:=by
  have:=List.find?_some hp
  simp only [Bool.and_eq_true] at this
  have:=this.1;unfold Ad at this;rw [ho] at this;exact this
 rcases h hE a w ha hw with ⟨_,v,h1,h2⟩ | ⟨h1,_⟩
 ·exact⟨o,v,ho,h1,h2⟩
 ·rw [hq] at h1;cases h1
theorem AK {i:Nat} {o:Oper} (ho:l[i]?=some o) (hq:Jv o.op=false) (h:JD P l.toArray (Xu (BW P l Q E0 r')) E0 [o] N m E) (hE:∀ w,St E w→St E0 w) {a:Act} {w:World} (ha:Js N m a) (hw:St E w) :
  wpOp P l.toArray (fun _ _ _=>False) i (fun a' w'=>St E0 w'∧BW P l Q E0 r' a' w') a w:=by
 have ho':l.toArray[i]?=some o:=by simpa using ho
 unfold wpOp
 simp only [ho']
 rcases h hE a w ha hw with ⟨h1,_⟩ | ⟨_,h2⟩
 ·rw [hq] at h1;cases h1
 ·split
  ·rename_i g
   rw [if_pos g] at h2
   exact .inl h2
  ·rename_i g
   rw [if_neg g] at h2
   exact h2
theorem ke (hp:P2 l r=none) (h:∀ i∈r.filter (GD l r),∃ o,l[i]?=some o∧Jv o.op=false∧JD P l.toArray (Xu (BW P l Q E0 (r.erase i))) E0 [o] N m E) (hr:r≠[]:=by decide):JT P l Q E0 r N m E:=by
 intro hE a w ha hw
 obtain ⟨x,s,rfl⟩:=List.exists_cons_of_ne_nil hr
 show Ei P l Q (St E0) (s.length+1) (x::s) a w
 unfold Ei
 rw [hp]
 intro i hi hrd
 obtain ⟨o,ho,hq,hj⟩:=h i (List.mem_filter.2 ⟨hi,hrd⟩)
 have:=AK ho hq hj hE ha hw
 refine wpOp_mono (fun a' w' h=>⟨h.1,?_⟩) this
 have h2:=h.2
 unfold BW at h2
 rw [show s.length=((x::s).erase i).length by have:=RM hi;simp at this;omega]
 exact h2
theorem Ku (i:Nat) {o:Oper} (hp:P2 l r=none) (hl:r.filter (GD l r)=[i]) (ho:l[i]?=some o) (hq:Jv o.op=false) (he:r.erase i=r') (h:JD P l.toArray (Xu (BW P l Q E0 r')) E0 [o] N m E) (hr:r≠[]:=by decide):JT P l Q E0 r N m E :=
 ke hp (fun k hk=>by rw [hl] at hk;cases List.mem_singleton.1 hk;exact⟨o,ho,hq,he ▸ h⟩) hr
theorem Il (i j:Nat) {o u:Oper} {r2:List Nat} (hp:P2 l r=none) (hl:r.filter (GD l r)=[i,j]) (ho:l[i]?=some o) (hu:l[j]?=some u) (hq:Jv o.op=false) (hq2:Jv u.op=false) (he:r.erase i=r') (he2:r.erase j=r2)
  (h:JD P l.toArray (Xu (BW P l Q E0 r')) E0 [o] N m E) (h2:JD P l.toArray (Xu (BW P l Q E0 r2)) E0 [u] N m E) (hr:r≠[]:=by decide):JT P l Q E0 r N m E :=
 ke hp (fun k hk=>by
  rw [hl] at hk
  simp only [List.mem_cons,List.not_mem_nil,or_false] at hk
  rcases hk with rfl | rfl
  ·exact⟨o,ho,hq,he ▸ h⟩
  ·exact⟨u,hu,hq2,he2 ▸ h2⟩) hr
theorem yk {id:Nat} {bs0:List (Nat×Obj)} (hb0:bs0.Sublist bs) (hm:P.follows .mixedOrders=true) (hB:Mr l=true) (hr:List.range' 0 l.length=r) (h:JT P l (Xu (Q .normal)) ⟨w0,F0,bs0,G⟩ r N m ⟨w0,F0,bs,G⟩):J P (.region id l.toArray true) Q N m ⟨w0,F0,bs,G⟩:=fun a w ha hw=>by
 subst hr
 refine Mj hm hB ((hw.imp hb0 fun _ h=>h).drew) ?_
 have:=h (fun _ h=>h.imp hb0 fun _ h=>h) a _ ha hw.drew
 simpa using this
theorem DL (h:Fin Q .normal N m E):JT P l (Xu (Q .normal)) E0 [] N m E:=fun _=>h
end
end
end
section
open Go.RowKit Ig
def Bc (a:Rat×Rat) (n:Int):Rat×Rat:=(if(decide (n>0)&&(decide (n%2=0)&&(decide (Eg a.1.num<0)&&decide (Eg a.2.num>0))))=true then 0 else(K3 (a.1^n.toNat) [a.2^n.toNat]).1,(K3 (a.1^n.toNat) [a.2^n.toNat]).2)
theorem TH {w:World} {F:Gs} {x:Sp} {a:Rat×Rat} {n:Int} (hF:Fits F w) (h:ZV F x a) (hn:0≤n∧n≤12) (hz:JX a.1≤1000000∧JX a.2≤1000000):VE Tryz.prog 149 [x.v,.int .i64 n] w F (Bc a n):=by
 obtain ⟨z1,z2⟩:=hz
 have p1:=BG a.1 n.toNat
 have p2:=BG a.2 n.toNat
 have m1:n.toNat*JX a.1≤12*1000000:=Nat.mul_le_mul (by omega) z1
 have m2:n.toNat*JX a.2≤12*1000000:=Nat.mul_le_mul (by omega) z2
 dsimp only [Sp.v]
 refine QT.intro (G:=fun F=>ZV F x a) Tryz.func149 rfl (by rfl) rfl rfl hF (fun F' hF'=>h.le hF')<|QG<|QB ?_
 refine Q5 rfl (vs:=[_,_,_,_,_,_,_,_]) rfl (fun b2=>?_)
 refine QZ Y2 (fun b4=>?_)
 refine QF<|QD ?_
 refine Ik (ι:=Nat×Sp) [(1,_),(2,_),(4,_)] (fun i=>[(5,.pointer (some ⟨i.1,0,none⟩))]) (fun i=>[(i.1,.cells [.int .i64 i.2.lo.n.s,.slice i.2.lo.n.q i.2.lo.n.n i.2.lo.n.cap,.int .i64 i.2.lo.d.s,.slice i.2.lo.d.q i.2.lo.d.n i.2.lo.d.cap,.int .i64 i.2.hi.n.s,.slice i.2.hi.n.q i.2.hi.n.n i.2.hi.n.cap,.int .i64 i.2.hi.d.s,.slice i.2.hi.d.q i.2.hi.d.n i.2.hi.d.cap].toArray 138 (0,0)),(b4,.cells [.int .i64 0,.slice none 0 0,.int .i64 0,.slice none 0 0,.int .i64 0,.slice none 0 0,.int .i64 0,.slice none 0 0].toArray 138 (0,0)),(b2,.cells [.int .i64 x.lo.n.s,.slice x.lo.n.q x.lo.n.n x.lo.n.cap,.int .i64 x.lo.d.s,.slice x.lo.d.q x.lo.d.n x.lo.d.cap,.int .i64 x.hi.n.s,.slice x.hi.n.q x.hi.n.n x.hi.n.cap,.int .i64 x.hi.d.s,.slice x.hi.d.q x.hi.d.n x.hi.d.cap].toArray 138 (0,0))]) (fun i F=>ZV F i.2 (K3 (a.1^n.toNat) [a.2^n.toNat])) ⟨rfl,rfl,rfl,trivial⟩ ?_ ?_
 ·
  refine yk (r:=[0,1,2,3,4,5,6,7,8,9,10,11]) (.cons_cons _ (.cons_cons _ .slnil)) mixed (by kernel_rfl) rfl<|L8 0 (by kernel_rfl) rfl rfl<|QM (QI rfl Zt Qg)<|Yn<|L8 1 (by kernel_rfl) rfl rfl<|QM (QL (vs:=[_,_,_,_]) rfl Qg (.there .here) (.here (.here (.here (.here .nil)))) rfl)<|Yn<|L8 2 (by kernel_rfl) rfl rfl<|QM (QC rfl)<|Yn<|L8 4 (by kernel_rfl) rfl rfl<|QM (QI rfl YD Qg)<|Yn<|L8 5 (by kernel_rfl) rfl rfl<|QM (QL (vs:=[_,_,_,_]) rfl Qg (.there .here) (.skip (.skip (.skip (.skip (.here (.here (.here (.here .nil)))))))) rfl)<|Yn<|L8 6 (by kernel_rfl) rfl rfl<|QM (QC rfl)<|Yn ?_
  refine Il 3 10 (by kernel_rfl) (by kernel_rfl) rfl rfl rfl rfl rfl rfl ?_ ?_
  ·
   refine Qb rfl (fun w F hF ⟨⟨h1,h2⟩,⟨h3,h4⟩⟩=>Nj hF ⟨by assumption,by assumption⟩ (hn.1) (by omega) (by omega)) (fun x9=>?_)
   refine Yn ?_
   refine Il 7 10 (by kernel_rfl) (by kernel_rfl) rfl rfl rfl rfl rfl rfl ?_ ?_
   ·
    refine Qb rfl (fun w F hF ⟨⟨⟨h1,h2⟩,⟨h3,h4⟩⟩,⟨h9,h9_⟩⟩=>Nj hF ⟨by assumption,by assumption⟩ (hn.1) (by omega) (by omega)) (fun x13=>?_)
    refine Yn ?_
    refine Il 8 10 (by kernel_rfl) (by kernel_rfl) rfl rfl rfl rfl rfl rfl ?_ ?_
    ·
     refine Ju rfl (Q8 Ho) Qg X1 rfl rfl (fun b14=>?_) (fun w h=>h.imp (.cons_cons _ (.cons_cons _ .slnil)) (fun F h=>h.1.1))
     refine Yn ?_
     refine Il 9 10 (by kernel_rfl) (by kernel_rfl) rfl rfl rfl rfl rfl rfl ?_ ?_
     ·
      refine Qb rfl (fun w F hF ⟨⟨⟨⟨⟨h1,h2⟩,⟨h3,h4⟩⟩,⟨h9,h9_⟩⟩,⟨h13,h13_⟩⟩,hs14⟩=>KY hF (⟨h9,h9_⟩) (ps:=[(x13,a.2^n.toNat)]) (JF.of (n:=1) (sz:=4) hs14 rfl) (fun p hp=>by simp only [List.mem_singleton] at hp;subst hp;exact⟨h13,h13_⟩) rfl (by omega) (⟨by omega,fun p hp=>by simp only [List.mem_singleton] at hp;subst hp;show JX (a.2^n.toNat)≤50000000;omega⟩)) (fun x15=>?_)
      refine Yn<|Ku 10 (by kernel_rfl) (by kernel_rfl) rfl rfl rfl ?_
      refine GW Y2 (fun b5=>?_)
      refine Yn<|Ku 11 (by kernel_rfl) (by kernel_rfl) rfl rfl rfl<|JY (vs:=[_,_,_,_,_,_,_,_]) rfl rfl rfl XL rfl .here (.cons_cons _ (.cons_cons _ .slnil)) (fun _ h=>h.1.1.1.1) (.here (.here (.here (.here (.here (.here (.here (.here .nil)))))))) ⟨rfl,rfl,rfl,rfl,rfl,rfl,rfl,rfl,trivial⟩<|Yn<|DL ?_
      exact J9 ((b5,x15)) ⟨rfl,rfl,rfl,rfl,trivial⟩ (List.Sublist.refl _) (fun F ⟨⟨⟨⟨⟨⟨h1,h2⟩,⟨h3,h4⟩⟩,⟨h9,h9_⟩⟩,⟨h13,h13_⟩⟩,hs14⟩,⟨⟨h15,h15_⟩,⟨h15a,h15b⟩⟩⟩=>⟨⟨⟨h1,h2⟩,⟨h3,h4⟩⟩,⟨⟨h15,h15_⟩,⟨h15a,h15b⟩⟩⟩)
     ·
      refine GW Y2 (fun b5=>?_)
      refine Yn<|Ku 9 (by kernel_rfl) (by kernel_rfl) rfl rfl rfl ?_
      refine Qb rfl (fun w F hF ⟨⟨⟨⟨⟨h1,h2⟩,⟨h3,h4⟩⟩,⟨h9,h9_⟩⟩,⟨h13,h13_⟩⟩,hs14⟩=>KY hF (⟨h9,h9_⟩) (ps:=[(x13,a.2^n.toNat)]) (JF.of (n:=1) (sz:=4) hs14 rfl) (fun p hp=>by simp only [List.mem_singleton] at hp;subst hp;exact⟨h13,h13_⟩) rfl (by omega) (⟨by omega,fun p hp=>by simp only [List.mem_singleton] at hp;subst hp;show JX (a.2^n.toNat)≤50000000;omega⟩)) (fun x15=>?_)
      refine Yn<|Ku 11 (by kernel_rfl) (by kernel_rfl) rfl rfl rfl<|JY (vs:=[_,_,_,_,_,_,_,_]) rfl rfl rfl XL rfl .here (.cons_cons _ (.cons_cons _ .slnil)) (fun _ h=>h.1.1.1.1) (.here (.here (.here (.here (.here (.here (.here (.here .nil)))))))) ⟨rfl,rfl,rfl,rfl,rfl,rfl,rfl,rfl,trivial⟩<|Yn<|DL ?_
      exact J9 ((b5,x15)) ⟨rfl,rfl,rfl,rfl,trivial⟩ (List.Sublist.refl _) (fun F ⟨⟨⟨⟨⟨⟨h1,h2⟩,⟨h3,h4⟩⟩,⟨h9,h9_⟩⟩,⟨h13,h13_⟩⟩,hs14⟩,⟨⟨h15,h15_⟩,⟨h15a,h15b⟩⟩⟩=>⟨⟨⟨h1,h2⟩,⟨h3,h4⟩⟩,⟨⟨h15,h15_⟩,⟨h15a,h15b⟩⟩⟩)
    ·
     refine GW Y2 (fun b5=>?_)
     refine Yn<|Ku 8 (by kernel_rfl) (by kernel_rfl) rfl rfl rfl ?_
     refine Ju rfl (Q8 Ho) Qg X1 rfl rfl (fun b14=>?_) (fun w h=>h.imp (.cons _ (.cons_cons _ (.cons_cons _ .slnil))) (fun F h=>h.1.1))
     refine Yn<|Ku 9 (by kernel_rfl) (by kernel_rfl) rfl rfl rfl ?_
     refine Qb rfl (fun w F hF ⟨⟨⟨⟨⟨h1,h2⟩,⟨h3,h4⟩⟩,⟨h9,h9_⟩⟩,⟨h13,h13_⟩⟩,hs14⟩=>KY hF (⟨h9,h9_⟩) (ps:=[(x13,a.2^n.toNat)]) (JF.of (n:=1) (sz:=4) hs14 rfl) (fun p hp=>by simp only [List.mem_singleton] at hp;subst hp;exact⟨h13,h13_⟩) rfl (by omega) (⟨by omega,fun p hp=>by simp only [List.mem_singleton] at hp;subst hp;show JX (a.2^n.toNat)≤50000000;omega⟩)) (fun x15=>?_)
     refine Yn<|Ku 11 (by kernel_rfl) (by kernel_rfl) rfl rfl rfl<|JY (vs:=[_,_,_,_,_,_,_,_]) rfl rfl rfl XL rfl .here (.cons_cons _ (.cons_cons _ .slnil)) (fun _ h=>h.1.1.1.1) (.here (.here (.here (.here (.here (.here (.here (.here .nil)))))))) ⟨rfl,rfl,rfl,rfl,rfl,rfl,rfl,rfl,trivial⟩<|Yn<|DL ?_
     exact J9 ((b5,x15)) ⟨rfl,rfl,rfl,rfl,trivial⟩ (List.Sublist.refl _) (fun F ⟨⟨⟨⟨⟨⟨h1,h2⟩,⟨h3,h4⟩⟩,⟨h9,h9_⟩⟩,⟨h13,h13_⟩⟩,hs14⟩,⟨⟨h15,h15_⟩,⟨h15a,h15b⟩⟩⟩=>⟨⟨⟨h1,h2⟩,⟨h3,h4⟩⟩,⟨⟨h15,h15_⟩,⟨h15a,h15b⟩⟩⟩)
   ·
    refine GW Y2 (fun b5=>?_)
    refine Yn<|Ku 7 (by kernel_rfl) (by kernel_rfl) rfl rfl rfl ?_
    refine Qb rfl (fun w F hF ⟨⟨⟨h1,h2⟩,⟨h3,h4⟩⟩,⟨h9,h9_⟩⟩=>Nj hF ⟨by assumption,by assumption⟩ (hn.1) (by omega) (by omega)) (fun x13=>?_)
    refine Yn<|Ku 8 (by kernel_rfl) (by kernel_rfl) rfl rfl rfl ?_
    refine Ju rfl (Q8 Ho) Qg X1 rfl rfl (fun b14=>?_) (fun w h=>h.imp (.cons _ (.cons_cons _ (.cons_cons _ .slnil))) (fun F h=>h.1.1))
    refine Yn<|Ku 9 (by kernel_rfl) (by kernel_rfl) rfl rfl rfl ?_
    refine Qb rfl (fun w F hF ⟨⟨⟨⟨⟨h1,h2⟩,⟨h3,h4⟩⟩,⟨h9,h9_⟩⟩,⟨h13,h13_⟩⟩,hs14⟩=>KY hF (⟨h9,h9_⟩) (ps:=[(x13,a.2^n.toNat)]) (JF.of (n:=1) (sz:=4) hs14 rfl) (fun p hp=>by simp only [List.mem_singleton] at hp;subst hp;exact⟨h13,h13_⟩) rfl (by omega) (⟨by omega,fun p hp=>by simp only [List.mem_singleton] at hp;subst hp;show JX (a.2^n.toNat)≤50000000;omega⟩)) (fun x15=>?_)
    refine Yn<|Ku 11 (by kernel_rfl) (by kernel_rfl) rfl rfl rfl<|JY (vs:=[_,_,_,_,_,_,_,_]) rfl rfl rfl XL rfl .here (.cons_cons _ (.cons_cons _ .slnil)) (fun _ h=>h.1.1.1.1) (.here (.here (.here (.here (.here (.here (.here (.here .nil)))))))) ⟨rfl,rfl,rfl,rfl,rfl,rfl,rfl,rfl,trivial⟩<|Yn<|DL ?_
    exact J9 ((b5,x15)) ⟨rfl,rfl,rfl,rfl,trivial⟩ (List.Sublist.refl _) (fun F ⟨⟨⟨⟨⟨⟨h1,h2⟩,⟨h3,h4⟩⟩,⟨h9,h9_⟩⟩,⟨h13,h13_⟩⟩,hs14⟩,⟨⟨h15,h15_⟩,⟨h15a,h15b⟩⟩⟩=>⟨⟨⟨h1,h2⟩,⟨h3,h4⟩⟩,⟨⟨h15,h15_⟩,⟨h15a,h15b⟩⟩⟩)
  ·
   refine GW Y2 (fun b5=>?_)
   refine Yn<|Ku 3 (by kernel_rfl) (by kernel_rfl) rfl rfl rfl ?_
   refine Qb rfl (fun w F hF ⟨⟨h1,h2⟩,⟨h3,h4⟩⟩=>Nj hF ⟨by assumption,by assumption⟩ (hn.1) (by omega) (by omega)) (fun x9=>?_)
   refine Yn<|Ku 7 (by kernel_rfl) (by kernel_rfl) rfl rfl rfl ?_
   refine Qb rfl (fun w F hF ⟨⟨⟨h1,h2⟩,⟨h3,h4⟩⟩,⟨h9,h9_⟩⟩=>Nj hF ⟨by assumption,by assumption⟩ (hn.1) (by omega) (by omega)) (fun x13=>?_)
   refine Yn<|Ku 8 (by kernel_rfl) (by kernel_rfl) rfl rfl rfl ?_
   refine Ju rfl (Q8 Ho) Qg X1 rfl rfl (fun b14=>?_) (fun w h=>h.imp (.cons _ (.cons_cons _ (.cons_cons _ .slnil))) (fun F h=>h.1.1))
   refine Yn<|Ku 9 (by kernel_rfl) (by kernel_rfl) rfl rfl rfl ?_
   refine Qb rfl (fun w F hF ⟨⟨⟨⟨⟨h1,h2⟩,⟨h3,h4⟩⟩,⟨h9,h9_⟩⟩,⟨h13,h13_⟩⟩,hs14⟩=>KY hF (⟨h9,h9_⟩) (ps:=[(x13,a.2^n.toNat)]) (JF.of (n:=1) (sz:=4) hs14 rfl) (fun p hp=>by simp only [List.mem_singleton] at hp;subst hp;exact⟨h13,h13_⟩) rfl (by omega) (⟨by omega,fun p hp=>by simp only [List.mem_singleton] at hp;subst hp;show JX (a.2^n.toNat)≤50000000;omega⟩)) (fun x15=>?_)
   refine Yn<|Ku 11 (by kernel_rfl) (by kernel_rfl) rfl rfl rfl<|JY (vs:=[_,_,_,_,_,_,_,_]) rfl rfl rfl XL rfl .here (.cons_cons _ (.cons_cons _ .slnil)) (fun _ h=>h.1.1.1.1) (.here (.here (.here (.here (.here (.here (.here (.here .nil)))))))) ⟨rfl,rfl,rfl,rfl,rfl,rfl,rfl,rfl,trivial⟩<|Yn<|DL ?_
   exact J9 ((b5,x15)) ⟨rfl,rfl,rfl,rfl,trivial⟩ (List.Sublist.refl _) (fun F ⟨⟨⟨⟨⟨⟨h1,h2⟩,⟨h3,h4⟩⟩,⟨h9,h9_⟩⟩,⟨h13,h13_⟩⟩,hs14⟩,⟨⟨h15,h15_⟩,⟨h15a,h15b⟩⟩⟩=>⟨⟨⟨h1,h2⟩,⟨h3,h4⟩⟩,⟨⟨h15,h15_⟩,⟨h15a,h15b⟩⟩⟩)
 ·intro i
  simp only [List.cons_append,List.nil_append]
  refine QG ?_
  refine Z5 [(4,_),(5,_)] [(34,.bool ((decide (n>0)&&(decide (n%2=0)&&(decide (Eg a.1.num<0)&&decide (Eg a.2.num>0))))))] ⟨rfl,rfl,trivial⟩ ?_ ?_
  ·
   refine QB<|QA (QC rfl)<|QA (QU rfl rfl rfl)<|QA (QC rfl) ?_
   refine Qk (t:=18) rfl (fun hb18=>?_) (fun hb18=>?_)
   ·
    refine QJ rfl rfl<|QA (QC rfl)<|QJ rfl rfl<|QA (Y9 rfl rfl (by omega) (by omega))<|QJ rfl rfl<|QA (QU rfl rfl rfl)<|QA (Qi rfl rfl rfl)<|QA (QC rfl) ?_
    refine Qk (t:=23) rfl (fun hb23=>?_) (fun hb23=>?_)
    ·
     refine QJ rfl rfl<|QA (QI rfl Zt Qg)<|QJ rfl rfl<|QA (QL (vs:=[_,_,_,_]) rfl Qg (.there (.there .here)) (.here (.here (.here (.here .nil)))) rfl)<|QJ rfl rfl ?_
     refine QH rfl (fun w F hF ⟨⟨⟨h1,h2⟩,⟨h3,h4⟩⟩,⟨⟨k1,k2⟩,⟨k3,k4⟩⟩⟩=>Gl hF ⟨by assumption,by assumption⟩) (fun _=>?_)
     refine QJ rfl rfl<|QA (QU rfl rfl rfl)<|QA (Qi rfl rfl rfl)<|QA (QC rfl) ?_
     refine Qk (t:=29) rfl (fun hb29=>?_) (fun hb29=>?_)
     ·
      refine QJ rfl rfl<|QA (QI rfl YD Qg)<|QJ rfl rfl<|QA (QL (vs:=[_,_,_,_]) rfl Qg (.there (.there .here)) (.skip (.skip (.skip (.skip (.here (.here (.here (.here .nil)))))))) rfl)<|QJ rfl rfl ?_
      refine QH rfl (fun w F hF ⟨⟨⟨⟨h1,h2⟩,⟨h3,h4⟩⟩,⟨⟨k1,k2⟩,⟨k3,k4⟩⟩⟩,_⟩=>Gl hF ⟨by assumption,by assumption⟩) (fun _=>?_)
      refine QJ rfl rfl<|QA (QU rfl rfl rfl)<|QA (Qi rfl rfl rfl)<|QF ?_
      exact XI ⟨rfl,rfl,(congrArg (fun b=>some (Value.bool b)) (by rw [Bool.eq_iff_iff];simp_all<;>(intros;omega))),trivial⟩ (List.Sublist.refl _) (fun _ h=>h.1.1)
     ·
      refine QR rfl rfl rfl<|QR rfl rfl rfl<|QR rfl rfl rfl<|QR rfl rfl rfl<|QA (Qh rfl rfl rfl)<|QF ?_
      exact XI ⟨rfl,rfl,(congrArg (fun b=>some (Value.bool b)) (by rw [Bool.eq_iff_iff];simp_all<;>(intros;omega))),trivial⟩ (List.Sublist.refl _) (fun _ h=>h.1)
    ·
     refine QR rfl rfl rfl<|QR rfl rfl rfl<|QR rfl rfl rfl<|QR rfl rfl rfl<|QA (Qh rfl rfl rfl)<|QA (QC rfl)<|QR rfl rfl rfl<|QR rfl rfl rfl<|QR rfl rfl rfl<|QR rfl rfl rfl<|QA (Qh rfl rfl rfl)<|QF ?_
     exact XI ⟨rfl,rfl,(congrArg (fun b=>some (Value.bool b)) (by rw [Bool.eq_iff_iff];simp_all<;>(intros;omega))),trivial⟩ (List.Sublist.refl _) (fun _ h=>h)
   ·
    refine QR rfl rfl rfl<|QR rfl rfl rfl<|QR rfl rfl rfl<|QA (Qh rfl rfl rfl)<|QA (QC rfl)<|QR rfl rfl rfl<|QR rfl rfl rfl<|QR rfl rfl rfl<|QR rfl rfl rfl<|QA (Qh rfl rfl rfl)<|QA (QC rfl)<|QR rfl rfl rfl<|QR rfl rfl rfl<|QR rfl rfl rfl<|QR rfl rfl rfl<|QA (Qh rfl rfl rfl)<|QF ?_
    exact XI ⟨rfl,rfl,(congrArg (fun b=>some (Value.bool b)) (by rw [Bool.eq_iff_iff];simp_all<;>(intros;omega))),trivial⟩ (List.Sublist.refl _) (fun _ h=>h)
  ·
   simp only [List.cons_append,List.nil_append]
   refine QO rfl (fun hc=>?_) (fun hc=>?_)
   ·
    refine QB ?_
    refine QH rfl (fun w F hF ⟨⟨⟨h1,h2⟩,⟨h3,h4⟩⟩,⟨⟨k1,k2⟩,⟨k3,k4⟩⟩⟩=>vJ hF (by omega) (by omega)) (fun x35=>?_)
    refine QA (QI rfl Zt Qg)<|QP (vs:=[_,_,_,_]) rfl rfl rfl Qg rfl .here (.here (.here (.here (.here .nil)))) ⟨rfl,rfl,rfl,rfl,trivial⟩<|QF<|QD<|QG<|QB<|QA (QL (vs:=[_,_,_,_,_,_,_,_]) rfl XL .here (.here (.here (.here (.here (.here (.here (.here (.here .nil)))))))) rfl)<|QP (vs:=[_,_,_,_,_,_,_,_]) rfl rfl rfl XL rfl (.there .here) (.here (.here (.here (.here (.here (.here (.here (.here .nil)))))))) ⟨rfl,rfl,rfl,rfl,rfl,rfl,rfl,rfl,trivial⟩<|QF<|QD<|QS ?_
    exact QQ (⟨x35,i.2.hi⟩) rfl (.Ja (c:=[_,_,_,_,_,_,_,_]) rfl XL (.there .here) .nil) (rfl) (fun F ⟨⟨⟨⟨h1,h2⟩,⟨h3,h4⟩⟩,⟨⟨k1,k2⟩,⟨k3,k4⟩⟩⟩,⟨h35,h35_⟩⟩=>by have e:(Bc a n)=(0,(K3 (a.1^n.toNat) [a.2^n.toNat]).2):=(by unfold Bc;rw [if_pos hc]);rw [e];exact⟨⟨h35,h35_⟩,⟨k3,k4⟩⟩)
   ·
    refine QN<|QD<|QG<|QB<|QA (QL (vs:=[_,_,_,_,_,_,_,_]) rfl XL .here (.here (.here (.here (.here (.here (.here (.here (.here .nil)))))))) rfl)<|QP (vs:=[_,_,_,_,_,_,_,_]) rfl rfl rfl XL rfl (.there .here) (.here (.here (.here (.here (.here (.here (.here (.here .nil)))))))) ⟨rfl,rfl,rfl,rfl,rfl,rfl,rfl,rfl,trivial⟩<|QF<|QD<|QS ?_
    exact QQ (i.2) rfl (.Ja (c:=[_,_,_,_,_,_,_,_]) rfl XL (.there .here) .nil) (rfl) (fun F ⟨⟨⟨h1,h2⟩,⟨h3,h4⟩⟩,⟨⟨k1,k2⟩,⟨k3,k4⟩⟩⟩=>by have e:(Bc a n)=(K3 (a.1^n.toNat) [a.2^n.toNat]):=(by unfold Bc;rw [if_neg (by rw [hc];decide)]);rw [e];exact⟨⟨k1,k2⟩,⟨k3,k4⟩⟩)
end
section
open Go.RowKit Ig
def M4 (n:Int):Int:=if n<0∨n>12 then 3 else 0
theorem qp {n:Int} (h:M4 n=0):0≤n∧n≤12:=by unfold M4 at h;split at h<;>omega
def LB (lo hi:List UInt8) (n:Int):(List UInt8×List UInt8)×Int:=if Qj [XR lo hi,M4 n]=0 then Bs (Bc (JA lo,JA hi) n) else(([],[]),Qj [XR lo hi,M4 n])
theorem OR:JX 0≤1:=by decide
theorem jA {a:Rat×Rat} {n:Int} (hn:0≤n∧n≤12) (h:JX a.1≤1000000∧JX a.2≤1000000):JX (Bc a n).1≤12000001∧JX (Bc a n).2≤12000001:=by
 have p1:=BG a.1 n.toNat
 have p2:=BG a.2 n.toNat
 have m1:n.toNat*JX a.1≤12*1000000:=Nat.mul_le_mul (by omega) h.1
 have m2:n.toNat*JX a.2≤12*1000000:=Nat.mul_le_mul (by omega) h.2
 have ha:=Gt (k:=12000001) [a.2^n.toNat] (a.1^n.toNat,a.1^n.toNat) ⟨by show JX (a.1^n.toNat)≤_;omega,by show JX (a.1^n.toNat)≤_;omega⟩ (fun x hx=>by simp only [List.mem_singleton] at hx;subst hx;omega)
 unfold Bc
 refine⟨?_,ha.2⟩
 show JX (if _ then _ else _)≤_
 split
 ·have:=OR;omega
 ·exact ha.1
theorem Tg {w:World} {F:Gs} {lo hi:List UInt8} {n:Int} (hF:Fits F w) (hG:JC F) (hl:lo.length≤1000000∧hi.length≤1000000):QW Tryz.prog 48 [.agg #[tx lo,tx hi],.int .i64 n] w F (.tuple #[.agg #[tx (LB lo hi n).1.1,tx (LB lo hi n).1.2],.int .i64 (LB lo hi n).2]):=by
 refine QT.intro (G:=fun F=>JC F) Tryz.func48 rfl (by rfl) rfl rfl hF (fun F' hF'=>hG.le hF')<|QG<|QB<|Q5 rfl (vs:=[_,_]) rfl (fun b2=>QZ Yp (fun b4=>QA (QE rfl)<|QF<|QD<|QG ?_))
 refine Z5 [(1,_),(2,_),(4,_)] [(6,.int .i64 (Qj [XR lo hi,M4 n]))] ⟨rfl,rfl,rfl,trivial⟩ ?_ ?_
 ·
  refine QB<|QA (QL (vs:=[_,_]) rfl Jw (.there .here) (.here (.here .nil)) rfl)<|QH rfl (fun w F hF hGl=>KX hF hGl (hl)) (fun _=>QA (QC rfl)<|QA (QU rfl rfl rfl)<|QA (QC rfl) ?_)
  refine Qk (t:=11) rfl (fun hb11=>?_) (fun hb11=>?_)
  ·
   refine QR rfl rfl rfl<|QR rfl rfl rfl<|QA (Qi rfl rfl rfl)<|QH rfl (fun w F hF ⟨hGl,_⟩=>Zx hF ) (fun _=>QV rfl (Q8 Zn) Y3 BA rfl rfl (fun b16=>QH rfl (fun w F hF ⟨⟨⟨hGl,_⟩,_⟩,hs16⟩=>YB hF (JF.of (cs:=List.map Qz [XR lo hi,(if(true:Bool)=true then 3 else 0)]) hs16 rfl) (by decide)) (fun _=>QA (QE rfl)<|QF ?_)))
   exact XI ⟨rfl,rfl,rfl,(congrArg (fun z:Int=>some (Value.int .i64 z)) (by have h:=of_decide_eq_true hb11;have e:M4 n=3:=(by unfold M4;rw [if_pos (.inl h)]);rw [e];rfl)),trivial⟩ (List.Sublist.refl _) (fun _ h=>h.1.1.1.1)
  ·
   refine QJ rfl rfl<|QA (QC rfl)<|QJ rfl rfl<|QA (QU rfl rfl rfl)<|QA (Qh rfl rfl rfl)<|QH rfl (fun w F hF ⟨hGl,_⟩=>Zx hF ) (fun _=>QV rfl (Q8 Zn) Y3 BA rfl rfl (fun b16=>QH rfl (fun w F hF ⟨⟨⟨hGl,_⟩,_⟩,hs16⟩=>YB hF (JF.of (cs:=List.map Qz [XR lo hi,(if(decide (n>12))=true then 3 else 0)]) hs16 rfl) (by decide)) (fun _=>QA (QE rfl)<|QF ?_)))
   exact XI ⟨rfl,rfl,rfl,(congrArg (fun z:Int=>some (Value.int .i64 z)) (by have h:=of_decide_eq_false hb11;have e:M4 n=(if(decide (n>12))=true then 3 else 0):=(by unfold M4;by_cases g:n>12<;>simp [g,h]);rw [e])),trivial⟩ (List.Sublist.refl _) (fun _ h=>h.1.1.1.1)
 ·
  simp only [List.cons_append,List.nil_append]
  refine QG<|QB<|QA (QC rfl)<|QA (QU rfl rfl rfl)<|QF<|QD ?_
  refine QO rfl (fun hc=>?_) (fun hc=>?_)
  ·
   have he:¬ Qj [XR lo hi,M4 n]=0:=by simpa using hc
   refine QG<|QB<|QA (Q9 rfl KR Yp .nil)<|QA (QC rfl)<|QP (vs:=[_,_]) rfl rfl rfl Jw rfl .here (.here (.here .nil)) ⟨rfl,rfl,trivial⟩<|QA (QE rfl)<|QF<|QD<|QS ?_
   exact JH (()) rfl (.Ja (c:=[_,_]) rfl Jw .here (.tmp rfl .nil)) (by unfold LB;rw [if_neg he];rfl) (fun F hGl=>trivial)
  ·
   have he:Qj [XR lo hi,M4 n]=0:=by simpa using hc
   obtain ⟨e1,e2⟩:=X7 he
   obtain ⟨k1,k2,_⟩:=VC e1
   have hn:=qp e2
   have s1:=Q7 k1
   have s2:=Q7 k2
   have hps:=jA (a:=(JA lo,JA hi)) hn ⟨by show JX (JA lo)≤_;omega,by show JX (JA hi)≤_;omega⟩
   refine QN<|QD<|QG<|QB<|QA (QL (vs:=[_,_]) rfl Jw (.there .here) (.here (.here .nil)) rfl)<|QH rfl (fun w F hF hGl=>NG hF hGl (k1) (k2) (hl)) (fun x23=>QA (QC rfl)<|QH rfl (fun w F hF ⟨hGl,⟨⟨h23,h23_⟩,⟨h23a,h23b⟩⟩⟩=>TH hF ⟨⟨h23,h23_⟩,⟨h23a,h23b⟩⟩ hn ⟨Nat.le_trans s1 (by decide),Nat.le_trans s2 (by decide)⟩) (fun x25=>QH rfl (fun w F hF ⟨⟨hGl,⟨⟨h23,h23_⟩,⟨h23a,h23b⟩⟩⟩,⟨⟨h25,h25_⟩,⟨h25a,h25b⟩⟩⟩=>E4 hF hGl (r:=Bc (JA lo,JA hi) n) ⟨⟨h25,h25_⟩,⟨h25a,h25b⟩⟩ ⟨by omega,by omega⟩) (fun _=>QA (QK rfl rfl)<|QA (QK rfl rfl)<|QP (vs:=[_,_]) rfl rfl rfl Jw rfl .here (.here (.here .nil)) ⟨rfl,rfl,trivial⟩<|QA (QE rfl)<|QF<|QD<|QS ?_)))
   exact JH (()) rfl (.Ja (c:=[_,_]) rfl Jw .here (.tmp rfl .nil)) (by unfold LB;rw [if_pos he];rfl) (fun F ⟨⟨⟨hGl,⟨⟨h23,h23_⟩,⟨h23a,h23b⟩⟩⟩,⟨⟨h25,h25_⟩,⟨h25a,h25b⟩⟩⟩,_⟩=>trivial)
end
end Go.Proofs.YtknegjaeoffnbaaGreatDoor
namespace Ig
def Zs:List Int→List Int→Bool
 |x::a,y::b=>decide (y<x)||(decide (x=y)&&Zs a b)
 |_::_,[]=>true
 |[],_=>false
def before (a b:List Int):Bool:=decide (b.sum<a.sum)||(decide (a.sum=b.sum)&&Zs a b)
theorem Bl:∀ a:List Int,Zs a a=false
 |[]=>rfl
 |x::a=>by simp [Zs,Bl a]
theorem EH:∀ {a b c:List Int},Zs a b=true→Zs b c=true→Zs a c=true
 |[],_,_,h,_=>by simp [Zs] at h
 |_::_,[],_,_,h=>by simp [Zs] at h
 |_::_,_::_,[],_,_=>rfl
 |x::a,y::b,z::c,h,k=>by
  simp only [Zs,Bool.or_eq_true,Bool.and_eq_true,decide_eq_true_eq] at h k ⊢
  rcases h with h | ⟨h,h'⟩<;>rcases k with k | ⟨k,k'⟩
  ·left;omega
  ·left;omega
  ·left;omega
  ·right;exact⟨by omega,EH h' k'⟩
theorem RE:∀ a b:List Int,a=b∨Zs a b=true∨Zs b a=true
 |[],[]=>.inl rfl
 |[],_::_=>.inr (.inr rfl)
 |_::_,[]=>.inr (.inl rfl)
 |x::a,y::b=>by
  simp only [Zs,Bool.or_eq_true,Bool.and_eq_true,decide_eq_true_eq,List.cons.injEq]
  rcases Int.lt_trichotomy x y with h | h | h
  ·right;right;left;omega
  ·rcases RE a b with k | k | k
   ·left;exact⟨h,k⟩
   ·right;left;right;exact⟨h,k⟩
   ·right;right;right;exact⟨h.symm,k⟩
  ·right;left;left;omega
theorem before_irrefl (a:List Int):before a a=false:=by simp [before,Bl]
theorem before_trans {a b c:List Int} (h:before a b=true) (k:before b c=true):before a c=true:=by
 simp only [before,Bool.or_eq_true,Bool.and_eq_true,decide_eq_true_eq] at h k ⊢
 rcases h with h | ⟨h,h'⟩<;>rcases k with k | ⟨k,k'⟩
 ·left;omega
 ·left;omega
 ·left;omega
 ·right;exact⟨by omega,EH h' k'⟩
theorem KG (a b:List Int):a=b∨before a b=true∨before b a=true:=by
 simp only [before,Bool.or_eq_true,Bool.and_eq_true,decide_eq_true_eq]
 rcases Int.lt_trichotomy a.sum b.sum with h | h | h
 ·right;right;left;exact h
 ·rcases RE a b with k | k | k
  ·left;exact k
  ·right;left;right;exact⟨h,k⟩
  ·right;right;right;exact⟨h.symm,k⟩
 ·right;left;left;exact h
theorem Lz {a b:List Int} (h:before a b=true):a≠b:=by
 rintro rfl;rw [before_irrefl] at h;cases h
theorem xB {a b:List Int} (h:before a b=true):before b a=false:=by
 cases hb:before b a with
 |false=>rfl
 |true=>have:=before_trans h hb;rw [before_irrefl] at this;cases this
abbrev Tm:=Rat×List Int
def Jl:List Tm→List Int→Rat
 |[],_=>0
 |t::p,k=>(if t.2=k then t.1 else 0)+Jl p k
theorem KW (p q:List Tm) (k:List Int):Jl (p++q) k=Jl p k+Jl q k:=by
 induction p with
 |nil=>simp [Jl,Rat.zero_add]
 |cons t p ih=>simp only [List.cons_append,Jl,ih,Rat.add_assoc]
structure Canon (p:List Tm):Prop where
 xY:p.Pairwise (fun x y=>before x.2 y.2=true)
 nz:∀ t∈p,t.1≠0
theorem Canon.nil:Canon []:=⟨List.Pairwise.nil,fun _ h=>by cases h⟩
theorem Canon.tail {t:Tm} {p:List Tm} (h:Canon (t::p)):Canon p:=⟨(List.pairwise_cons.1 h.xY).2,fun x hx=>h.nz x (List.mem_cons_of_mem _ hx)⟩
theorem KE {p:List Tm} {k:List Int} (h:∀ t∈p,t.2≠k):Jl p k=0:=by
 induction p with
 |nil=>rfl
 |cons t p ih=>rw [Jl,if_neg (h t (by simp)),ih (fun x hx=>h x (by simp [hx])),Rat.zero_add]
theorem Canon.head {t:Tm} {p:List Tm} (h:Canon (t::p)):Jl (t::p) t.2=t.1:=by
 rw [Jl,if_pos rfl,KE,Rat.add_zero]
 intro x hx e
 have:=(List.pairwise_cons.1 h.xY).1 x hx
 rw [e,before_irrefl] at this;cases this
theorem Canon.after {t:Tm} {p:List Tm} (h:Canon (t::p)):Jl p t.2=0:=KE fun x hx e=>by
 have:=(List.pairwise_cons.1 h.xY).1 x hx
 rw [e,before_irrefl] at this;cases this
theorem Canon.early {t:Tm} {p:List Tm} (h:Canon (t::p)) {k:List Int} (hk:before k t.2=true):Jl (t::p) k=0:=KE fun x hx e=>by
 rcases List.mem_cons.1 hx with rfl | hx
 ·rw [e,before_irrefl] at hk;cases hk
 ·have:=before_trans hk ((List.pairwise_cons.1 h.xY).1 x hx)
  rw [e,before_irrefl] at this;cases this
theorem RU:∀ {p q:List Tm},Canon p→Canon q→(∀ k,Jl p k=Jl q k)→p=q
 |[],[],_,_,_=>rfl
 |[],y::q,_,hq,h=>by
  have:=h y.2
  rw [hq.head] at this
  exact absurd this.symm (hq.nz y (by simp))
 |x::p,[],hp,_,h=>by
  have:=h x.2
  rw [hp.head] at this
  exact absurd this (hp.nz x (by simp))
 |x::p,y::q,hp,hq,h=>by
  rcases KG x.2 y.2 with e | e | e
  ·have h1:=h x.2
   rw [hp.head] at h1
   have h2:=hq.head
   rw [← e] at h2
   rw [h2] at h1
   have hxy:x=y:=Prod.ext h1 e
   subst hxy
   congr 1
   refine RU hp.tail hq.tail (fun k=>?_)
   have h3:=h k
   simp only [Jl] at h3
   generalize Jl p k=a at *
   generalize Jl q k=b at *
   grind
  ·have h1:=h x.2
   rw [hp.head,hq.early e] at h1
   exact absurd h1 (hp.nz x (by simp))
  ·have h1:=h y.2
   rw [hq.head,hp.early e] at h1
   exact absurd h1.symm (hq.nz y (by simp))
def Zf:List Tm→Tm→List Tm
 |[],t=>if t.1=0 then [] else [t]
 |x::p,t=>if before x.2 t.2=true then x::Zf p t else if x.2=t.2 then(if x.1+t.1=0 then p else(x.1+t.1,t.2)::p) else if t.1=0 then x::p else t::x::p
theorem Fb (p:List Tm) (t:Tm) (k:List Int):Jl (Zf p t) k=Jl p k+(if t.2=k then t.1 else 0):=by
 induction p with
 |nil =>
  unfold Zf
  split
  ·rename_i h;rw [h];simp [Jl,Rat.add_zero]
  ·simp [Jl,Rat.zero_add,Rat.add_zero]
 |cons x p ih =>
  unfold Zf
  split
  ·simp only [Jl,ih,Rat.add_assoc]
  ·split
   ·rename_i h
    split
    ·rename_i h0
     simp only [Jl]
     rw [h]
     by_cases hk:t.2=k
     ·simp only [hk,if_true]
      rw [Rat.add_assoc,Rat.add_comm (Jl p k),← Rat.add_assoc,h0,Rat.zero_add]
     ·simp only [hk,if_false,Rat.zero_add,Rat.add_zero]
    ·simp only [Jl]
     rw [h]
     by_cases hk:t.2=k
     ·simp only [hk,if_true]
      rw [Rat.add_assoc,Rat.add_assoc,Rat.add_comm t.1]
     ·simp only [hk,if_false,Rat.zero_add,Rat.add_zero]
   ·split
    ·rename_i h0;rw [h0];simp [Rat.add_zero]
    ·simp only [Jl];rw [Rat.add_comm]
theorem Dh {p:List Tm} {t x:Tm} (h:x∈Zf p t):x∈p∨x.2=t.2:=by
 induction p with
 |nil =>
  unfold Zf at h
  split at h
  ·cases h
  ·simp at h;subst h;exact .inr rfl
 |cons y p ih =>
  unfold Zf at h
  split at h
  ·rcases List.mem_cons.1 h with rfl | h
   ·exact .inl (by simp)
   ·rcases ih h with h | h
    ·exact .inl (by simp [h])
    ·exact .inr h
  ·split at h
   ·split at h
    ·exact .inl (by simp [h])
    ·rcases List.mem_cons.1 h with rfl | h
     ·exact .inr rfl
     ·exact .inl (by simp [h])
   ·split at h
    ·exact .inl h
    ·rcases List.mem_cons.1 h with rfl | h
     ·exact .inr rfl
     ·exact .inl h
theorem Canon.Zf {p:List Tm} (h:Canon p) (t:Tm):Canon (Ig.Zf p t):=by
 induction p with
 |nil =>
  unfold Ig.Zf
  split
  ·exact Canon.nil
  ·rename_i h0;exact⟨List.pairwise_singleton _ _,fun x hx=>by simp at hx;subst hx;exact h0⟩
 |cons x p ih =>
  have hs:=List.pairwise_cons.1 h.xY
  unfold Ig.Zf
  split
  ·rename_i hb
   have hc:=ih h.tail
   refine⟨List.pairwise_cons.2 ⟨fun y hy=>?_,hc.xY⟩,fun y hy=>?_⟩
   ·rcases Dh hy with hy | hy
    ·exact hs.1 y hy
    ·rw [hy];exact hb
   ·rcases List.mem_cons.1 hy with rfl | hy
    ·exact h.nz _ (by simp)
    ·exact hc.nz y hy
  ·rename_i hb
   split
   ·rename_i he
    split
    ·exact h.tail
    ·rename_i h0
     refine⟨List.pairwise_cons.2 ⟨fun y hy=>?_,hs.2⟩,fun y hy=>?_⟩
     ·have:=hs.1 y hy;rw [he] at this;exact this
     ·rcases List.mem_cons.1 hy with rfl | hy
      ·exact h0
      ·exact h.nz y (by simp [hy])
   ·rename_i he
    split
    ·exact h
    ·rename_i h0
     have hb':before t.2 x.2=true:=by
      rcases KG x.2 t.2 with q | q | q
      ·exact absurd q he
      ·exact absurd q hb
      ·exact q
     refine⟨List.pairwise_cons.2 ⟨fun y hy=>?_,h.xY⟩,fun y hy=>?_⟩
     ·rcases List.mem_cons.1 hy with rfl | hy
      ·exact hb'
      ·exact before_trans hb' (hs.1 y hy)
     ·rcases List.mem_cons.1 hy with rfl | hy
      ·exact h0
      ·exact h.nz y hy
def XH (l:List Tm):List Tm:=l.foldl Zf []
theorem Nl (l:List Tm):∀ {p:List Tm},Canon p→Canon (l.foldl Zf p)∧∀ k,Jl (l.foldl Zf p) k=Jl p k+Jl l k:=by
 induction l with
 |nil=>intro p h;exact⟨h,fun k=>by simp [Jl,Rat.add_zero]⟩
 |cons t l ih =>
  intro p h
  obtain ⟨h1,h2⟩:=ih (h.Zf t)
  exact⟨h1,fun k=>by rw [List.foldl_cons,h2,Fb,Jl,Rat.add_assoc]⟩
theorem Yj (l:List Tm):Canon (XH l):=(Nl l Canon.nil).1
theorem Wh (l:List Tm) (k:List Int):Jl (XH l) k=Jl l k:=by
 rw [XH,(Nl l Canon.nil).2,Jl,Rat.zero_add]
def Ey (p q:List Tm):Prop:=∀ k,Jl p k=Jl q k
theorem Ey.refl (p:List Tm):Ey p p:=fun _=>rfl
theorem Ey.symm {p q:List Tm} (h:Ey p q):Ey q p:=fun k=>(h k).symm
theorem Ey.trans {p q r:List Tm} (h:Ey p q) (h':Ey q r):Ey p r:=fun k=>(h k).trans (h' k)
theorem Ey.append {p q p' q':List Tm} (h:Ey p p') (h':Ey q q'):Ey (p++q) (p'++q'):=fun k=>by rw [KW,KW,h,h']
theorem Tw {p l:List Tm} (hp:Canon p) (h:Ey p l):p=XH l:=RU hp (Yj l) fun k=>by rw [Wh,h]
theorem GH {p:List Tm} (hp:Canon p):XH p=p:=(Tw hp (Ey.refl p)).symm
theorem Ey.perm {l m:List Tm} (h:l.Perm m):Ey l m:=by
 intro k
 induction h with
 |nil=>rfl
 |cons x _ ih=>rw [Jl,Jl,ih]
 |swap x y l=>simp only [Jl];rw [← Rat.add_assoc,← Rat.add_assoc];congr 1;exact Rat.add_comm _ _
 |trans _ _ h1 h2=>exact h1.trans h2
theorem Ey.cons {p q:List Tm} (t:Tm) (h:Ey p q):Ey (t::p) (t::q):=fun k=>by rw [Jl,Jl,h]
theorem eqv_filter (p:List Tm):Ey (p.filter (fun t=>decide (t.1≠0))) p:=by
 induction p with
 |nil=>exact Ey.refl _
 |cons t p ih =>
  rw [List.filter_cons]
  split
  ·exact ih.cons t
  ·rename_i h
   have h0:t.1=0:=by simpa using h
   intro k
   rw [Jl,h0,ih k];simp [Rat.zero_add]
def Xq (a b:List Int):List Int:=List.zipWith (·+·) a b
theorem KZ {a b:List Int} (h:a.length=b.length):(Xq a b).length=a.length:=by simp [Xq,h]
def AU (k a:List Int):List Int:=List.zipWith (· - ·) k a
theorem EU:∀ {a b k:List Int},a.length=b.length→(Xq a b=k↔k.length=a.length∧b=AU k a)
 |[],[],k,_=>by cases k<;>simp [Xq,AU]
 |x::a,y::b,[],_=>by simp [Xq]
 |x::a,y::b,z::k,h=>by
  have ih:=EU (a:=a) (b:=b) (k:=k) (by simpa using h)
  simp only [Xq,AU,List.zipWith_cons_cons,List.cons.injEq,List.length_cons,Nat.add_right_cancel_iff] at ih ⊢
  rw [ih]
  constructor
  ·rintro ⟨h1,h2,h3⟩;exact⟨h2,by omega,h3⟩
  ·rintro ⟨h1,h2,h3⟩;exact⟨by omega,h1,h3⟩
def XZ (s:Tm) (q:List Tm):List Tm:=q.map fun t=>(s.1*t.1,Xq s.2 t.2)
def Jh (p q:List Tm):List Tm:=p.flatMap fun s=>XZ s q
def Y1 (n:Nat) (p:List Tm):Prop:=∀ t∈p,t.2.length=n
theorem Y1.append {n:Nat} {p q:List Tm} (h:Y1 n p) (k:Y1 n q):Y1 n (p++q):=fun t ht=>by
 rcases List.mem_append.1 ht with ht | ht
 ·exact h t ht
 ·exact k t ht
theorem Y1.tail {n:Nat} {t:Tm} {p:List Tm} (h:Y1 n (t::p)):Y1 n p:=fun x hx=>h x (by simp [hx])
theorem Y1.XZ {n:Nat} {s:Tm} {q:List Tm} (hs:s.2.length=n) (h:Y1 n q):Y1 n (Ig.XZ s q):=fun t ht=>by
 obtain ⟨u,hu,rfl⟩:=List.mem_map.1 ht
 show(Xq s.2 u.2).length=n
 rw [KZ (by rw [hs,h u hu]),hs]
theorem Y1.Jh {n:Nat} {p q:List Tm} (h:Y1 n p) (k:Y1 n q):Y1 n (Ig.Jh p q):=fun t ht=>by
 obtain ⟨s,hs,ht⟩:=List.mem_flatMap.1 ht
 exact k.XZ (h s hs) t ht
theorem Y1.Zf {n:Nat} {p:List Tm} {t:Tm} (h:Y1 n p) (ht:t.2.length=n):Y1 n (Ig.Zf p t):=fun x hx=>by
 rcases Dh hx with hx | hx
 ·exact h x hx
 ·rw [hx];exact ht
theorem Y1.XH {n:Nat} {l:List Tm} (h:Y1 n l):Y1 n (Ig.XH l):=by
 have:∀ (l p:List Tm),Y1 n p→Y1 n l→Y1 n (l.foldl Ig.Zf p):=by
  intro l
  induction l with
  |nil=>intro p hp _;exact hp
  |cons t l ih=>intro p hp hl;exact ih _ (hp.Zf (hl t (by simp))) hl.tail
 exact this l [] (fun _ h=>by cases h) h
theorem Ux {n:Nat} {s:Tm} {q:List Tm} (hs:s.2.length=n) (h:Y1 n q) (k:List Int):Jl (XZ s q) k=if k.length=n then s.1*Jl q (AU k s.2) else 0:=by
 induction q with
 |nil=>simp [XZ,Jl,Rat.mul_zero]
 |cons t q ih =>
  have ht:t.2.length=n:=h t (by simp)
  have hk:=EU (a:=s.2) (b:=t.2) (k:=k) (by rw [hs,ht])
  rw [XZ,List.map_cons,Jl]
  show(if Xq s.2 t.2=k then s.1*t.1 else 0)+Jl (XZ s q) k=_
  rw [ih h.tail]
  by_cases hl:k.length=n
  ·rw [if_pos hl,if_pos hl,Jl,Rat.mul_add]
   congr 1
   by_cases e:Xq s.2 t.2=k
   ·rw [if_pos e,if_pos (hk.1 e).2]
   ·rw [if_neg e,if_neg (fun q=>e (hk.2 ⟨by rw [hl,hs],q⟩)),Rat.mul_zero]
  ·rw [if_neg hl,if_neg hl,if_neg (fun e=>hl (by rw [(hk.1 e).1,hs])),Rat.zero_add]
theorem WY (s:Tm) (p q:List Tm):Jh (s::p) q=XZ s q++Jh p q:=by simp [Jh]
theorem HH (s:Tm) (p q:List Tm):XZ s (p++q)=XZ s p++XZ s q:=by simp [XZ]
theorem Bb (p p' q:List Tm):Jh (p++p') q=Jh p q++Jh p' q:=by simp [Jh]
end Ig
namespace Go.Proofs.YtknegjaeoffnbaaGreatDoor
section
open Go.RowKit Ig
variable [Dr]
def PW (l:List Int):Prop:=(∀ x∈l,0≤x∧x≤1000000)∧l.length≤1000
theorem PW.el {l:List Int} (h:PW l) {i:Nat} (hi:i<l.length):0≤Qf l i∧Qf l i≤1000000:=by rw [X9 hi];exact h.1 _ (Je hi)
theorem Mw {l:List Int} {i:Nat} (hi:i<l.length):(l.take (i+1)).sum=(l.take i).sum+Qf l i:=by
 rw [ZL hi,List.sum_append,X9 hi];simp
theorem PW.sum {l:List Int} (h:PW l):∀ i,i≤l.length→0≤(l.take i).sum∧(l.take i).sum≤i*1000000:=by
 intro i
 induction i with
 |zero=>intro _;simp
 |succ i ih =>
  intro hi
  have h1:=ih (by omega)
  have h2:=h.el (i:=i) (by omega)
  rw [Mw (by omega)]
  omega
theorem E5 (l:List Int):Qj l=Qj (l.map fun x=>x):=by rw [List.map_id']
def AH:List Int→List Int→Int
 |[],[]=>0
 |[],_::_=>-1
 |_::_,[]=>1
 |x::a,y::b=>if ZU x y≠0 then ZU x y else AH a b
theorem Rm:∀ a b:List Int,(AH b a<0↔Zs a b=true)∧(AH b a=0↔a=b)
 |[],[]=>by simp [AH,Zs]
 |[],_::_=>by simp [AH,Zs]
 |_::_,[]=>by simp [AH,Zs]
 |x::a,y::b=>by
  have ih:=Rm a b
  unfold AH Zs ZU
  by_cases h1:y<x
  ·simp [h1];omega
  ·by_cases h2:y=x
   ·subst h2;simp [ih.1,ih.2]
   ·have h3:¬ x=y:=fun e=>h2 e.symm
    simp [h1,h2,h3]
theorem MH (x y:Int):Lib.compareInt x y=ZU x y:=by
 unfold Lib.compareInt ZU
 by_cases h1:x<y
 ·simp [h1]
 ·by_cases h2:x=y
  ·subst h2;simp
  ·have h3:y<x:=by omega
   simp [h1,h2,h3]
def VX (a b:List Int):Int:=Qj [ZU b.sum a.sum,AH b a]
theorem Wi (a b:List Int):before a b=decide (VX a b<0):=by
 obtain ⟨h1,h2⟩:=Rm a b
 unfold before VX
 rw [Bool.eq_iff_iff,decide_eq_true_iff]
 simp only [Qj]
 by_cases h:b.sum<a.sum
 ·have e:ZU b.sum a.sum = -1:=by unfold ZU;rw [if_pos h]
  rw [e];simp [h]
 ·by_cases g:b.sum=a.sum
  ·have e:ZU b.sum a.sum=0:=by unfold ZU;rw [if_neg h,if_pos g]
   rw [e]
   by_cases k:AH b a=0
   ·have hf:Zs a b=false:=by cases hl:Zs a b with
     |false=>rfl
     |true=>have:=h1.2 hl;omega
    simp [k,g,hf]
   ·simp [k,g,h1]
  ·have e:ZU b.sum a.sum=1:=by unfold ZU;rw [if_neg h,if_neg g]
   have g2:¬ a.sum=b.sum:=fun e=>g e.symm
   rw [e];simp [h,g2]
theorem yR {a b:List Int} (h:VX a b=0):a=b:=by
 rcases KG a b with q | q | q
 ·exact q
 ·rw [Wi] at q;have:=of_decide_eq_true q;omega
 ·
  obtain ⟨h1,h2⟩:=Rm a b
  unfold VX at h
  simp only [Qj] at h
  split at h
  ·split at h
   ·exact h2.1 (by assumption)
   ·exact absurd h (by assumption)
  ·exact absurd h (by assumption)
def Ym (l:List Int):List UInt8:=l.flatMap fun x=>Lib.itoa x++[32]
theorem WH (x:Int) (l:List Int):Ym (x::l)=XX x++32::Ym l:=by unfold Ym;rw [List.flatMap_cons];simp [XX]
theorem Bm:∀ {a b:List Int},Ym a=Ym b→a=b
 |[],[],_=>rfl
 |[],y::b,h=>by rw [WH] at h;simp [Ym] at h
 |x::a,[],h=>by rw [WH] at h;simp [Ym] at h
 |x::a,y::b,h=>by
  rw [WH,WH] at h
  have h1:=Nx (c:=32) (a:=XX x) (b:=Ym a) (Bh x (by decide) (by decide))
  have h2:=Nx (c:=32) (a:=XX y) (b:=Ym b) (Bh y (by decide) (by decide))
  rw [h,h2] at h1
  simp only [Prod.mk.injEq,and_true] at h1
  have e:x=y:=by rw [← Z8 x,← Z8 y,h1.1]
  rw [e,Bm h1.2.symm]
theorem Dc {w:World} {F:Gs} {r:Sr} {l:List Int} (hF:Fits F w) (hR:JP F r l) (hp:PW l):QW Tryz.prog 217 [r.v] w F (.int .i64 l.sum):=by
 obtain ⟨q,n,c⟩:=r
 have hln:=hR.2.1
 dsimp only [Sr.v] at hln ⊢
 have hl1:=hp.2
 refine QT.intro (G:=fun F=>JP F ⟨q,n,c⟩ l) Tryz.func217 rfl (by rfl) rfl rfl hF (fun F' hF'=>hR.le hF')<|QG<|QB<|QA (QE rfl)<|QF<|QD<|QG<|QB<|QA (QE rfl)<|QF<|QD<|QG<|QG<|QB<|QA (QC rfl)<|QA (Ql rfl Qe)<|QA (QC rfl)<|QF<|QD<|Qa<|YU (ι:={i:Nat // i≤l.length}) [(6,_),(7,_)] (fun i=>[(3,.int .i64 ((l.take i.1).sum)),(8,.int .i64 ((i.1:Nat):Int))]) (fun i=>l.length - i.1) (⟨0,Nat.zero_le _⟩) ⟨rfl,rfl,trivial⟩ ⟨rfl,rfl,trivial⟩ (fun i=>?_)
 simp only [List.cons_append,List.nil_append]
 have hi:=i.2
 have hs:=hp.sum i.1 hi
 refine QG<|QB<|QA (QU rfl rfl rfl)<|QF<|QD<|QG ?_
 refine QO rfl (fun hc=>?_) (fun hc=>?_)
 ·
  have hlt:i.1<l.length:=by have:=of_decide_eq_true hc;omega
  have he:=hp.el hlt
  refine QN<|QD<|QG<|Qa<|QG<|QB<|QA (Jc (n:=n) (i.1) (fun F hR=>(hR).1) rfl rfl Qe Qu (by omega))<|QA (Ji (n:=n) ((i.1)*1) (fun F hR=>(hR).1) (by omega) rfl Qu (JR (o:=l) (by omega)))<|QA (QE rfl)<|QF<|QD<|QB<|QA (QC rfl)<|QA (QC rfl)<|QA (Qw rfl rfl (by omega))<|QA (QE rfl)<|QF<|Qm<|QD<|QB<|QA (Qw rfl rfl (by omega))<|QA (QC rfl)<|QF ?_
  exact Qo (⟨i.1+1,hlt⟩) (by show l.length - (i.1+1)<l.length - i.1;omega) ⟨rfl,rfl,(congrArg (fun z:Int=>some (Value.int .i64 z)) (Mw hlt).symm),rfl,trivial⟩ (List.Sublist.refl _) (fun F h=>h)
 ·
  have hge:i.1=l.length:=by have:=of_decide_eq_false hc;omega
  refine Q6 ?_
  repeat (first | refine Qc ?_ | refine QX (by rfl) ?_)
  refine Qd<|QD<|QG<|QB<|QA (QC rfl)<|QA (QE rfl)<|QF<|QD<|QS ?_
  exact QQ (()) rfl (.tmp rfl .nil) (congrArg (Value.int .i64) (by rw [List.take_of_length_le (by omega)])) (fun F hR=>trivial)
theorem jK {w:World} {F:Gs} {q:Option Addr} {n c:Nat} {l:List Int} (hF:Fits F w) (hR:JF F q n 1 (l.map Qz)) (hn:n≤1000000000):QW Tryz.prog 215 [.slice q n c] w F (.int .i64 (Qj l)):=by
 have hln:l.length=n:=by have:=hR.1;simpa using this
 have em:l=l.map (fun x=>x):=by simp
 refine QT.intro (G:=fun F=>JF F q n 1 (l.map Qz)) Tryz.func215 rfl (by rfl) rfl rfl hF (fun F' hF'=>hR.le hF')<|QG<|QB<|QA (QE rfl)<|QF<|QD<|QG<|QB<|QA (QE rfl)<|QF<|QD<|QG<|QG<|QB<|QA (QC rfl)<|QA (Ql rfl Qe)<|QA (QC rfl)<|QF<|QD<|Qa<|YU (ι:=Y5 l (fun x=>x)) [(3,_),(6,_),(7,_)] (fun i=>[(8,.int .i64 ((i.i:Nat):Int))]) (fun i=>l.length - i.i) (Y5.start _ _) ⟨rfl,rfl,rfl,trivial⟩ ⟨rfl,trivial⟩ (fun i=>?_)
 simp only [List.cons_append,List.nil_append]
 have hi:=i.le
 refine QG<|QB<|QA (QU rfl rfl rfl)<|QF<|QD<|QG ?_
 refine QO rfl (fun hc=>?_) (fun hc=>?_)
 ·
  have hlt:i.i<l.length:=by have:=of_decide_eq_true hc;omega
  refine QN<|QD<|QG<|Qa<|QG<|QB<|QA (Jc (n:=n) (i.i) (fun F hR=>hR) rfl rfl Qe Qu (by omega))<|QA (Ji (n:=n) ((i.i)*1) (fun F hR=>hR) (by omega) rfl Qu (JR (o:=l) (by omega)))<|QA (QE rfl)<|QF<|QD<|QG<|QB<|QA (QC rfl)<|QA (QC rfl)<|QA (QU rfl rfl rfl)<|QF<|QD ?_
  refine QO rfl (fun hc=>?_) (fun hc=>?_)
  ·
   refine QG<|QB<|QA (QC rfl)<|QA (QE rfl)<|QF<|QD<|QS ?_
   repeat (first | refine JN ?_ | refine JE ?_)
   exact QQ (()) rfl (.tmp rfl .nil) (congrArg (Value.int .i64) (by rw [X9 hlt,E5 l];exact i.hit hlt (by rw [← X9 hlt];simpa using hc))) (fun F hR=>trivial)
  ·
   refine QN<|Qm<|QD<|QB<|QA (Qw rfl rfl (by omega))<|QA (QC rfl)<|QF ?_
   exact Qo (i.next hlt (by rw [← X9 hlt];simpa using hc)) (by show l.length - (i.i+1)<l.length - i.i;omega) ⟨rfl,rfl,rfl,rfl,trivial⟩ (List.Sublist.refl _) (fun F h=>h)
 ·
  have hge:l.length≤i.i:=by have:=of_decide_eq_false hc;omega
  refine Q6 ?_
  repeat (first | refine Qc ?_ | refine QX (by rfl) ?_)
  refine Qd<|QD<|QG<|QB<|QA (QC rfl)<|QA (QE rfl)<|QF<|QD<|QS ?_
  exact QQ (()) rfl (.tmp rfl .nil) (congrArg (Value.int .i64) (by rw [E5 l];exact i.stop hge)) (fun F hR=>trivial)
structure yg (a b:List Int) where
 i:Nat
 la:i≤a.length
 lb:i≤b.length
 h:AH a b=AH (a.drop i) (b.drop i)
theorem yg.cons {a b:List Int} (s:yg a b) (ha:s.i<a.length) (hb:s.i<b.length):AH a b=if ZU (Qf a s.i) (Qf b s.i)≠0 then ZU (Qf a s.i) (Qf b s.i) else AH (a.drop (s.i+1)) (b.drop (s.i+1)):=by
 rw [s.h,J8 ha,J8 hb,AH]
theorem TL {w:World} {F:Gs} {ra rb:Sr} {a b:List Int} (hF:Fits F w) (hA:JP F ra a) (hB:JP F rb b) (la:a.length≤1000000) (lb:b.length≤1000000):QW Tryz.prog 218 [ra.v,rb.v] w F (.int .i64 (AH a b)):=by
 obtain ⟨q,n,c⟩:=ra
 obtain ⟨q',n',c'⟩:=rb
 have na:=hA.2.1
 have nb:=hB.2.1
 dsimp only [Sr.v] at na nb ⊢
 refine QT.intro (G:=fun F=>JP F ⟨q,n,c⟩ a∧JP F ⟨q',n',c'⟩ b) Tryz.func218 rfl (by rfl) rfl rfl hF (fun F' hF'=>⟨hA.le hF',hB.le hF'⟩)<|QG<|QB<|QA (QE rfl)<|QF<|QD<|QG<|QG<|QB<|QA (QC rfl)<|QA (Ql rfl Qe)<|QA (QC rfl)<|QF<|QD<|Qa<|YU (ι:=yg a b) [(0,_),(1,_),(9,_),(10,_)] (fun i=>[(11,.int .i64 ((i.i:Nat):Int))]) (fun i=>a.length - i.i) (⟨0,Nat.zero_le _,Nat.zero_le _,rfl⟩) ⟨rfl,rfl,rfl,rfl,trivial⟩ ⟨rfl,trivial⟩ (fun i=>?_)
 simp only [List.cons_append,List.nil_append]
 have hla:=i.la
 have hlb:=i.lb
 refine QG<|QB<|QA (QU rfl rfl rfl)<|QF<|QD<|QG ?_
 refine QO rfl (fun hc=>?_) (fun hc=>?_)
 ·
  have hlt:i.i<a.length:=by have:=of_decide_eq_true hc;omega
  refine QN<|QD<|QG<|Qa<|QG<|QB<|QA (QC rfl)<|QA (Jc (n:=n) (i.i) (fun F ⟨hA,hB⟩=>(hA).1) rfl rfl Qe Qu (by omega))<|QA (Ji (n:=n) ((i.i)*1) (fun F ⟨hA,hB⟩=>(hA).1) (by omega) rfl Qu (JR (o:=a) (by omega)))<|QA (QE rfl)<|QA (QE rfl)<|QF<|QD<|QG<|QG<|QB<|QA (QC rfl)<|QA (QC rfl)<|QA (Ql rfl Qe)<|QA (QU rfl rfl rfl)<|QF<|QD ?_
  refine QO rfl (fun hc=>?_) (fun hc=>?_)
  ·
   have hge2:b.length≤i.i:=by have:=of_decide_eq_true hc;omega
   refine QG<|QB<|QA (QE rfl)<|QF<|QD<|QS ?_
   repeat (first | refine JN ?_ | refine JE ?_)
   exact QQ (()) rfl (.tmp rfl .nil) (congrArg (Value.int .i64) (by rw [i.h,J8 hlt,List.drop_of_length_le hge2];rfl)) (fun F ⟨hA,hB⟩=>trivial)
  ·
   have hlt2:i.i<b.length:=by have:=of_decide_eq_false hc;omega
   refine QN<|QD<|QG<|QB<|QA (QC rfl)<|QA (QC rfl)<|QA (Jc (n:=n') (i.i) (fun F ⟨hA,hB⟩=>(hB).1) rfl rfl Qe Qu (by omega))<|QA (Ji (n:=n') ((i.i)*1) (fun F ⟨hA,hB⟩=>(hB).1) (by omega) rfl Qu (JR (o:=b) (by omega)))<|QA (QE rfl)<|QF<|QD<|QG<|QB<|QA (QC rfl)<|QA (QC rfl)<|QH rfl (fun w F hF ⟨hA,hB⟩=>DA hF ) (fun _=>QA (QE rfl)<|QF<|QD<|QG<|QB<|QA (QC rfl)<|QA (QU rfl rfl rfl)<|QF<|QD ?_)
   refine QO rfl (fun hc=>?_) (fun hc=>?_)
   ·
    refine QG<|QB<|QA (QC rfl)<|QA (QE rfl)<|QF<|QD<|QS ?_
    repeat (first | refine JN ?_ | refine JE ?_)
    exact QQ (()) rfl (.tmp rfl .nil) (congrArg (Value.int .i64) (by rw [i.cons hlt hlt2,if_pos (by rw [← MH];simpa using hc),MH])) (fun F ⟨⟨hA,hB⟩,_⟩=>trivial)
   ·
    refine QN<|Qm<|QD<|QB<|QA (Qw rfl rfl (by omega))<|QA (QC rfl)<|QF ?_
    exact Qo (⟨i.i+1,hlt,hlt2,by rw [i.cons hlt hlt2,if_neg (by rw [← MH];simpa using hc)]⟩) (by show a.length - (i.i+1)<a.length - i.i;omega) ⟨rfl,rfl,rfl,rfl,rfl,trivial⟩ (List.Sublist.refl _) (fun F h=>h.1)
 ·
  have hge:a.length≤i.i:=by have:=of_decide_eq_false hc;omega
  refine Q6 ?_
  repeat (first | refine Qc ?_ | refine QX (by rfl) ?_)
  refine Qd<|QD<|QG<|QG<|QB<|QA (QC rfl)<|QA (Ql rfl Qe)<|QA (QC rfl)<|QA (Ql rfl Qe)<|QA (QU rfl rfl rfl)<|QF<|QD ?_
  refine QO rfl (fun hc=>?_) (fun hc=>?_)
  ·
   have hlt3:=of_decide_eq_true hc
   refine QG<|QB<|QA (QE rfl)<|QF<|QD<|QS ?_
   exact QQ (()) rfl (.tmp rfl .nil) (congrArg (Value.int .i64) (by rw [i.h,List.drop_of_length_le hge,J8 (l:=b) (k:=i.i) (by omega)];rfl)) (fun F ⟨hA,hB⟩=>trivial)
  ·
   have hlt3:=of_decide_eq_false hc
   refine QN<|QD<|QG<|QB<|QA (QE rfl)<|QF<|QD<|QS ?_
   exact QQ (()) rfl (.tmp rfl .nil) (congrArg (Value.int .i64) (by rw [i.h,List.drop_of_length_le hge,List.drop_of_length_le (by omega)];rfl)) (fun F ⟨hA,hB⟩=>trivial)
theorem Hs {w:World} {F:Gs} {ra rb:Sr} {a b:List Int} (hF:Fits F w) (hA:JP F ra a) (hB:JP F rb b) (pa:PW a) (pb:PW b):QW Tryz.prog 136 [ra.v,rb.v] w F (.int .i64 (VX a b)):=by
 have la:=pa.2
 have lb:=pb.2
 dsimp only [Sr.v]
 refine QT.intro (G:=fun F=>JP F ra a∧JP F rb b) Tryz.func136 rfl (by rfl) rfl rfl hF (fun F' hF'=>⟨hA.le hF',hB.le hF'⟩)<|QG<|QB<|QA (QE rfl)<|QF<|QD<|QG<|QB<|QA (QC rfl)<|QH rfl (fun w F hF ⟨hA,hB⟩=>Dc hF (r:=rb) hB (pb)) (fun _=>QA (QC rfl)<|QH rfl (fun w F hF ⟨⟨hA,hB⟩,_⟩=>Dc hF (r:=ra) hA (pa)) (fun _=>QH rfl (fun w F hF ⟨⟨⟨hA,hB⟩,_⟩,_⟩=>DA hF ) (fun _=>?_)))
 rw [MH]
 refine QA (QC rfl)<|QA (QC rfl)<|QH rfl (fun w F hF ⟨⟨⟨⟨hA,hB⟩,_⟩,_⟩,_⟩=>TL hF (ra:=rb) (rb:=ra) hB (hA) (by omega) (by omega)) (fun _=>QV rfl (Q8 Qe) Qu Vi rfl rfl (fun b13=>QH rfl (fun w F hF ⟨⟨⟨⟨⟨⟨hA,hB⟩,_⟩,_⟩,_⟩,_⟩,hs13⟩=>jK hF (JF.of (cs:=List.map Qz [ZU b.sum a.sum,AH b a]) hs13 rfl) (by decide)) (fun _=>QA (QE rfl)<|QF<|QD<|QS ?_)))
 exact QQ (()) rfl (.tmp rfl .nil) (rfl) (fun F ⟨⟨⟨⟨⟨⟨⟨hA,hB⟩,_⟩,_⟩,_⟩,_⟩,hs13⟩,_⟩=>trivial)
end
section
open Go.RowKit Ig
def XQ {κ:Type} (K:κ→Value):List (κ×Value)→Nat→List MapEntry
 |[],_=>[]
 |x::l,i=>⟨K x.1,x.2,i⟩::XQ K l (i+1)
def ZD {κ:Type} (K:κ→Value) (l:List (κ×Value)):Obj:=.map (XQ K l 0).toArray l.length
def Z3 {κ:Type} [DecidableEq κ]:List (κ×Value)→κ→Nat→Option (Nat×Value)
 |[],_,_=>none
 |x::l,k,i=>if k=x.1 then some (i,x.2) else Z3 l k (i+1)
def Ba {κ:Type} [DecidableEq κ]:List (κ×Value)→κ→Value→List (κ×Value)
 |[],k,v=>[(k,v)]
 |x::l,k,v=>if k=x.1 then(k,v)::l else x::Ba l k v
structure Su (P:Program) (kt:TypeId) {κ:Type} [DecidableEq κ] (K:κ→Value):Prop where
 yx:∀ e w k,(Instr.checkKey e 10000 kt (K k)).run P w = .ok () w
 find:∀ w k (l:List (κ×Value)),(Instr.findKey kt (K k) (XQ K l 0)).run P w = .ok (Z3 l k 0) w
 same:∀ k,Instr.sameBits 10000 (K k) (K k)=true
section
variable {κ:Type} {K:κ→Value}
theorem Dq:∀ (l:List (κ×Value)) i,(XQ K l i).length=l.length
 |[],_=>rfl
 |_::l,i=>by simp [XQ,Dq l]
theorem Nq:∀ (l:List (κ×Value)) i k v,XQ K (l++[(k,v)]) i=XQ K l i++[⟨K k,v,i+l.length⟩]
 |[],i,k,v=>by simp [XQ]
 |x::l,i,k,v=>by
  simp only [List.cons_append,XQ,Nq l,List.length_cons]
  rw [show i+1+l.length=i+(l.length+1) from by omega]
theorem WJ:∀ (l:List (κ×Value)) (i j:Nat),(XQ K l i)[j]?=l[j]?.map fun x=>(⟨K x.1,x.2,i+j⟩:MapEntry)
 |[],_,_=>by simp [XQ]
 |x::l,i,0=>by simp [XQ]
 |x::l,i,j+1=>by
  simp only [XQ,List.getElem?_cons_succ,WJ l]
  rw [show i+1+j=i+(j+1) from by omega]
theorem RN:∀ (l:List (κ×Value)) i j k v,XQ K (l.set j (k,v)) i=(XQ K l i).modify j fun e=>{ e with key:=K k,val:=v }
 |[],_,_,_,_=>by simp [XQ]
 |x::l,i,0,k,v=>by simp [XQ]
 |x::l,i,j+1,k,v=>by simp [XQ,RN l]
theorem H2:∀ (l:List (κ×Value)) i,∀ e∈XQ K l i,i≤e.born∧e.born<i+l.length
 |[],_,e,h=>by cases h
 |x::l,i,e,h=>by
  simp only [XQ,List.mem_cons] at h
  rcases h with rfl | h
  ·simp
  ·have:=H2 l (i+1) e h
   simp only [List.length_cons];omega
theorem EO:∀ (l:List (κ×Value)) i,((XQ K l i).map (·.born)).Nodup
 |[],_=>List.nodup_nil
 |x::l,i=>by
  simp only [XQ,List.map_cons]
  refine List.nodup_cons.2 ⟨fun h=>?_,EO l (i+1)⟩
  obtain ⟨e,he,h⟩:=List.mem_map.1 h
  have:=(H2 l (i+1) e he).1
  omega
variable [DecidableEq κ]
theorem Hy:∀ {l:List (κ×Value)} {k i j v},Z3 l k i=some (j,v)→i≤j∧j - i<l.length∧l[j - i]?=some (k,v)
 |[],_,_,_,_,h=>by cases h
 |x::l,k,i,j,v,h=>by
  simp only [Z3] at h
  split at h
  ·rename_i e
   cases h
   subst e
   simp
  ·obtain ⟨h1,h2,h3⟩:=Hy h
   refine⟨by omega,by simp only [List.length_cons];omega,?_⟩
   rw [show j - i=(j - (i+1))+1 from by omega,List.getElem?_cons_succ];exact h3
theorem Pz:∀ {l:List (κ×Value)} {k v i},Z3 l k i=none→Ba l k v=l++[(k,v)]
 |[],_,_,_,_=>rfl
 |x::l,k,v,i,h=>by
  simp only [Z3] at h
  split at h
  ·cases h
  ·rename_i e
   simp only [Ba,if_neg e,List.cons_append,Pz h]
theorem Py:∀ {l:List (κ×Value)} {k v i j u},Z3 l k i=some (j,u)→Ba l k v=l.set (j - i) (k,v)
 |[],_,_,_,_,_,h=>by cases h
 |x::l,k,v,i,j,u,h=>by
  simp only [Z3] at h
  split at h
  ·rename_i e
   cases h
   simp [Ba,e]
  ·rename_i e
   have:=(Hy h).1
   simp only [Ba,if_neg e,Py h]
   rw [show j - i=(j - (i+1))+1 from by omega];rfl
end
theorem AY (a b:List UInt8):Instr.sameNow .string (tx a) (tx b)=some (decide (a=b)):=by
 show some ((⟨a.toArray⟩:ByteArray)==⟨b.toArray⟩)=_
 congr 1
 rw [Bool.eq_iff_iff,decide_eq_true_iff,MapKept.bytes_beq]
 constructor
 ·intro h;cases h;rfl
 ·intro h;rw [h]
theorem No (k:List UInt8):∀ (l:List (List UInt8×Value)) (i n:Nat),Instr.findNow .string (tx k) (XQ tx l n) i=some (Z3 l k i)
 |[],_,_=>rfl
 |x::l,i,n=>by
  simp only [XQ,Instr.findNow,AY,Z3]
  by_cases h:k=x.1
  ·simp [h]
  ·simp [h,No k l]
theorem Su.str {P:Program} {kt:TypeId} (h:P.underlying kt=some .string):Su P kt tx where
 yx:=fun e w k=>MapKept.run_checkKey (k:=tx k) h (by simp [MapKept.IsKey,tx]) e 9999
 find:=fun w k l=>MapKept.run_findKey h (No k l 0 0)
 same:=fun k=>by
  show(ByteArray.mk k.toArray==ByteArray.mk k.toArray)=true
  rw [MapKept.bytes_beq]
def y3 (P:Program) (T:TypeId):Option Value:=match P.info? T with
 |some i=>i.zero
 |none=>none
theorem qY {P:Program} {T:TypeId} {z:Value} (h:y3 P T=some z) (w:World):(zeroValue T).run P w = .ok z w:=by
 unfold y3 at h
 split at h
 ·rename_i i hi
  simp [zeroValue,typeInfo,hi,h]
 ·cases h
def T4 (P:Program) (T kt et:TypeId):Bool:=match P.underlying T with | some (.map k e)=>Nat.beq k kt&&Nat.beq e et | _=>false
theorem SC {P:Program} {T kt et:TypeId} (h:T4 P T kt et=true):P.underlying T=some (.map kt et):=by
 unfold T4 at h
 split at h
 ·rename_i e
  simp only [Bool.and_eq_true] at h
  have h1:=Nat.eq_of_beq_eq_true h.1
  have h2:=Nat.eq_of_beq_eq_true h.2
  rw [e,h1,h2]
 ·cases h
section
variable [Dr] [df:Df] {P:Program} {Q:Exit→Act→World→Prop} {N:Nat} {m:Sl} {E E0:Env} {ops:Array Oper} {l:List Oper} {w0:World} {F0:Gs} {bs:List (Nat×Obj)} {G:Gs→Prop} {d:Nat} {ty:TypeId} {pos:String} {aft:Array Edge}
theorem Ve {κ:Type} (K:κ→Value) {T:TypeId} (k:∀ b,JS P ops Q l N ((d,.map (some b))::m) ⟨w0,F0,(b,ZD K [])::bs,G⟩) (hd:J4 N (some d)=true:=by rfl) :
  JS P ops Q (⟨some d,.makeMap T none,ty,pos,aft,none⟩::l) N m ⟨w0,F0,bs,G⟩:=fun a w ha hw=>by
 have hrun:(execOp a.eval ⟨some d,.makeMap T none,ty,pos,aft,none⟩).run P w = .ok (.value (.map (some w.heap.size))) (w.alloc (.map #[] 0)):=by
  simp [execOp,Instr.makeMap]
 exact wpList_plain rfl fun Kk hK=>upon_value hrun (hK _ _ (k _ _ _ (ha.put hd _) (hw.alloc _ (fun c fr e=>by cases e))))
variable {κ:Type} [DecidableEq κ] {K:κ→Value} {kv:List (κ×Value)} {b:Nat} {f:Obj→List (Nat×Obj)}
theorem Td {T kt et:TypeId} {x y:Operand} {k:κ} {i:Nat} {v:Value} (hq:Su P kt K) (hx:ev m x=some (.map (some b))) (hy:ev m y=some (K k)) (ht:T4 P T kt et=true) (ho:Own bs b (ZD K kv) f) (hf:Z3 kv k 0=some (i,v)) :
  Qt P N m (St ⟨w0,F0,bs,G⟩) (.lookup T x y true) ty (.tuple #[v,.bool true]):=fun a w _ _ _ _ ha hw=>by
 have hb:=hw.own ho
 unfold ZD at hb
 have hu:=SC ht
 simp [execOp,ha.ev hx,ha.ev hy,Instr.lookup,run_underlying hu,MapKept.run_getObj_map hb,hq.yx,hq.find,hf]
theorem Pw {T kt et:TypeId} {x y:Operand} {k:κ} {z:Value} (hq:Su P kt K) (hx:ev m x=some (.map (some b))) (hy:ev m y=some (K k)) (ht:T4 P T kt et=true) (hz:y3 P et=some z) (ho:Own bs b (ZD K kv) f) (hf:Z3 kv k 0=none) :
  Qt P N m (St ⟨w0,F0,bs,G⟩) (.lookup T x y true) ty (.tuple #[z,.bool false]):=fun a w _ _ _ _ ha hw=>by
 have hb:=hw.own ho
 unfold ZD at hb
 have hu:=SC ht
 simp [execOp,ha.ev hx,ha.ev hy,Instr.lookup,run_underlying hu,MapKept.run_getObj_map hb,hq.yx,hq.find,hf,qY hz]
theorem Gw {T kt et:TypeId} {x y z:Operand} {k:κ} {v:Value} (hq:Su P kt K) (hx:ev m x=some (.map (some b))) (hy:ev m y=some (K k)) (hz:ev m z=some v) (ht:T4 P T kt et=true) (ho:Own bs b (ZD K kv) f)
  (kk:JS P ops Q l N m ⟨w0,F0,f (ZD K (Ba kv k v)),G⟩):JS P ops Q (⟨none,.mapUpdate T x y z,ty,pos,aft,none⟩::l) N m ⟨w0,F0,bs,G⟩:=fun a w ha hw=>by
 have hb:=hw.own ho
 obtain ⟨pre,post,e1,e2⟩:=ho.split
 subst e1
 rw [e2] at kk
 have hu:=SC ht
 have hb':=hb
 unfold ZD at hb'
 have hrun:(execOp a.eval ⟨none,.mapUpdate T x y z,ty,pos,aft,none⟩).run P w = .ok .skip { w with heap:=w.heap.setIfInBounds b (ZD K (Ba kv k v)) }:=by
  cases hf:Z3 kv k 0 with
  |none =>
   have e:ZD K (Ba kv k v) = .map ((XQ K kv 0).toArray.push ⟨K k,v,kv.length⟩) (kv.length+1):=by
    rw [Pz hf];simp [ZD,Nq]
   rw [e]
   simp [execOp,ha.ev hx,ha.ev hy,ha.ev hz,Instr.mapUpdate,run_underlying hu,MapKept.run_getObj_map hb',hq.yx,hq.find,hf,MapKept.run_setObj_map _ hb']
  |some r =>
   obtain ⟨i,u⟩:=r
   obtain ⟨_,h2,h3⟩:=Hy hf
   rw [Nat.sub_zero] at h2 h3
   have e:ZD K (Ba kv k v) = .map ((XQ K kv 0).toArray.modify i fun e=>{ e with key:=K k,val:=v }) kv.length:=by
    rw [Py hf]
    unfold ZD
    rw [Nat.sub_zero,RN,List.length_set]
    congr 1
    apply Array.ext'
    simp
   have hk:((((XQ K kv 0).toArray[i]?).map (·.key)).getD (K k))=K k:=by
    simp [WJ,h3]
   rw [e]
   simp only [execOp,ha.ev hx,ha.ev hy,ha.ev hz,Instr.mapUpdate,Sem.run_bind,run_underlying hu,MapKept.run_getObj_map hb',hq.yx,hq.find,hf,Result.andThen_ok,hk,Instr.keyThatStays,hq.same,if_true,Sem.run_pure,MapKept.run_setObj_map _ hb']
 exact wpList_plain rfl fun Kk hK=>upon_skip hrun (hK _ _ (kk _ _ ha (hw.write pre ⟨rfl,rfl,rfl,rfl,rfl⟩ (fun c fr e=>by cases e))))
def zw (kv:List (κ×Value)) (K:κ→Value):Option Nat→Array Value
 |some j=>match kv[j]? with
  |some p=>#[.bool true,K p.1,p.2]
  |none=>#[.bool true]
 |none=>#[.bool false]
def kI (seen:List Nat):Option Nat→List Nat
 |some j=>seen++[j]
 |none=>seen
def vb (n:Nat) (seen:List Nat):Option Nat→Prop
 |some j=>j<n∧j∉seen
 |none=>∀ j,j<n→j∈seen
omit [DecidableEq κ] in
theorem xk (x:Option Nat):(zw kv K x)[0]?=some (.bool x.isSome):=by
 cases x with
 |none=>rfl
 |some j =>
  simp only [zw]
  cases kv[j]?<;>rfl
def IP (b n:Nat) (seen:List Nat):Obj:=.mapIter (some b) n seen.toArray n
omit [DecidableEq κ] in
theorem Ec {T kt et:TypeId} {x:Operand} (hx:ev m x=some (.map (some b))) (ht:T4 P T kt et=true) (ho:Own bs b (ZD K kv) f) (k:∀ r,JS P ops Q l N ((d,.pointer (some ⟨r,0,none⟩))::m) ⟨w0,F0,(r,IP b kv.length [])::bs,G⟩) (hd:J4 N (some d)=true:=by rfl) :
  JS P ops Q (⟨some d,.range T x,ty,pos,aft,none⟩::l) N m ⟨w0,F0,bs,G⟩:=fun a w ha hw=>by
 have hb:=hw.own ho
 unfold ZD at hb
 have hrun:(execOp a.eval ⟨some d,.range T x,ty,pos,aft,none⟩).run P w = .ok (.value (.pointer (some ⟨w.heap.size,0,none⟩))) (w.alloc (IP b kv.length [])):=by
  simp [execOp,ha.ev hx,run_range_map w T kt et b _ _ (SC ht) hb,IP]
 exact wpList_plain rfl fun Kk hK=>upon_value hrun (hK _ _ (k _ _ _ (ha.put hd _) (hw.alloc _ (fun c fr e=>by cases e))))
omit [DecidableEq κ] in
theorem PB {x:Operand} {r:Nat} {seen:List Nat} {g:Obj→List (Nat×Obj)} (hx:ev m x=some (.pointer (some ⟨r,0,none⟩))) (hr:Own bs r (IP b kv.length seen) g) (ho:Own bs b (ZD K kv) f)
  (k:∀ x,vb kv.length seen x→JS P ops Q l N ((d,.tuple (zw kv K x))::m) ⟨w0,F0,g (IP b kv.length (kI seen x)),G⟩) (hd:J4 N (some d)=true:=by rfl) :
  JS P ops Q (⟨some d,.next x false,ty,pos,aft,none⟩::l) N m ⟨w0,F0,bs,G⟩:=fun a w ha hw=>by
 have hb:=hw.own ho
 have hi:=hw.own hr
 unfold ZD at hb
 obtain ⟨pre,post,e1,e2⟩:=hr.split
 subst e1
 simp only [e2] at k
 have hold:∀ e∈(XQ K kv 0).toArray.toList,e.born<kv.length:=fun e he=>by have:=(H2 kv 0 e (by simpa using he)).2;omega
 rcases run_next_at (P:=P) w ty r b kv.length kv.length seen.toArray (XQ K kv 0).toArray kv.length hi hb hold (Nat.le_refl _) with ⟨h0,hn⟩ | ⟨e,he,w1,hw1,hn⟩
 ·have hrun:(execOp a.eval ⟨some d,.next x false,ty,pos,aft,none⟩).run P w = .ok (.value (.tuple (zw kv K none))) w:=by
   simp [execOp,ha.ev hx,hn,zw]
  refine wpList_plain rfl fun Kk hK=>upon_value hrun (hK _ _ (k none (fun j hj=>?_) _ _ (ha.put hd _) hw))
  have hm:(⟨K kv[j].1,kv[j].2,j⟩:MapEntry)∈XQ K kv 0:=by
   have:=WJ (K:=K) kv 0 j
   rw [List.getElem?_eq_getElem hj,Nat.zero_add] at this
   exact List.mem_of_getElem? this
  have hz:leftOf (XQ K kv 0).toArray seen.toArray=#[]:=Array.eq_empty_of_size_eq_zero h0
  unfold leftOf at hz
  rw [Array.filter_eq_empty_iff] at hz
  have:=hz _ (by simpa using hm)
  simpa using this
 ·unfold leftOf at he
  simp only [List.mem_toArray,Array.mem_toList_iff,Array.mem_filter] at he
  obtain ⟨hm,hs⟩:=he
  obtain ⟨j,hj,hje⟩:=List.getElem_of_mem hm
  rw [Dq] at hj
  have hg:=WJ (K:=K) kv 0 j
  rw [List.getElem?_eq_getElem hj,List.getElem?_eq_getElem (by rw [Dq];exact hj),hje,Nat.zero_add] at hg
  have hg':e=⟨K kv[j].1,kv[j].2,j⟩:=by simpa using hg
  subst hg'
  have hrun:(execOp a.eval ⟨some d,.next x false,ty,pos,aft,none⟩).run P w = .ok (.value (.tuple (zw kv K (some j)))) (ChangeMaps.setBlock w1 r (IP b kv.length (kI seen (some j)))):=by
   simp [execOp,ha.ev hx,hn,zw,hj,IP,kI]
  have hw2:St ⟨w0,F0,pre++(r,IP b kv.length seen)::post,G⟩ w1:=by
   rcases hw1 with rfl | rfl
   ·exact hw
   ·exact hw.drew
  exact wpList_plain rfl fun Kk hK=>upon_value hrun (hK _ _ (k (some j) ⟨hj,by simpa using hs⟩ _ _ (ha.put hd _) (hw2.write pre ⟨rfl,rfl,rfl,rfl,rfl⟩ (fun c fr e=>by cases e))))
omit [DecidableEq κ] in
theorem IB {x:Operand} {r j:Nat} {seen:List Nat} {p:κ×Value} {g:Obj→List (Nat×Obj)} (hx:ev m x=some (.pointer (some ⟨r,0,none⟩))) (hr:Own bs r (IP b kv.length (seen++[j])) g) (ho:Own bs b (ZD K kv) f) (hj:kv[j]?=some p) :
  Qt P N m (St ⟨w0,F0,bs,G⟩) (.entry x) ty (.tuple #[K p.1,p.2]):=fun a w _ _ _ _ ha hw=>by
 have hb:=hw.own ho
 have hi:=hw.own hr
 unfold ZD at hb
 have hg:=WJ (K:=K) kv 0 j
 rw [hj,Nat.zero_add] at hg
 have hmem:=List.mem_of_getElem? hg
 have:=run_entry_at (P:=P) w r b kv.length seen.toArray (XQ K kv 0).toArray kv.length ⟨K p.1,p.2,j⟩ (by rw [hi];simp [IP]) hb (by simpa using hmem) (by simpa using EO kv 0)
 simp [execOp,ha.ev hx,this]
end
end
section
open Go.RowKit Ig
theorem LX (l:List Int) (x:Int):Ym (l++[x])=(Ym l++Lib.itoa x)++[32]:=by unfold Ym;rw [List.flatMap_append];simp
theorem RI {x:Int} (h:0≤x∧x≤1000000):(Lib.itoa x).length≤21:=Lib.itoa_length_le x (by omega) (by omega)
theorem UJ:∀ {l:List Int},(∀ x∈l,0≤x∧x≤1000000)→(Ym l).length≤22*l.length
 |[],_=>by simp [Ym]
 |x::l,h=>by
  have h1:=RI (h x (by simp))
  have h2:=UJ (l:=l) (fun y hy=>h y (by simp [hy]))
  rw [WH]
  simp only [List.length_append,List.length_cons]
  change (XX x).length≤21 at h1
  omega
structure gH (b:Nat) (l:List Int) where
 i:Nat
 ob:List (Nat×Obj)
 le:i≤l.length
 bl:AI b (Ym (l.take i)) ob
theorem CL {w:World} {F:Gs} {r:Sr} {l:List Int} (hF:Fits F w) (hGl:JC F) (hR:JP F r l) (hp:PW l):QW Tryz.prog 252 [r.v] w F (tx (Ym l)):=by
 obtain ⟨q,n,c⟩:=r
 have hln:=hR.2.1
 dsimp only [Sr.v] at hln ⊢
 have hl1:=hp.2
 refine QT.intro (G:=fun F=>JC F∧JP F ⟨q,n,c⟩ l) Tryz.func252 rfl (by rfl) rfl rfl hF (fun F' hF'=>⟨hGl.le hF',hR.le hF'⟩)<|QG<|QB<|QA (QE rfl)<|QF<|QD<|QG<|QB<|QZ xR (fun b3=>QF<|QD<|QG<|QG<|QB<|QA (QC rfl)<|QA (Ql rfl Qe)<|QA (QC rfl)<|QF<|QD<|Qa<|Jz (ι:=gH b3 l) [(3,_),(6,_),(7,_)] (fun i=>[(8,.int .i64 ((i.i:Nat):Int))]) (fun i=>i.ob++[]) (fun i F=>True) (fun i=>l.length - i.i) (⟨0,_,Nat.zero_le _,by rw [List.take_zero];exact .fresh⟩) ⟨rfl,rfl,rfl,trivial⟩ ⟨rfl,trivial⟩ (List.Sublist.refl _) (fun _ _=>trivial) (fun i=>?_))
 have hi:=i.le
 have hkl:=UJ (l:=l.take i.i) (fun x hx=>hp.1 x (List.mem_of_mem_take hx))
 rw [List.length_take] at hkl
 refine QG<|QB<|QA (QU rfl rfl rfl)<|QF<|QD<|QG ?_
 refine QO rfl (fun hc=>?_) (fun hc=>?_)
 ·
  have hlt:i.i<l.length:=by have:=of_decide_eq_true hc;omega
  have he:=hp.el hlt
  have hil:=RI he
  refine QN<|QD<|QG<|Qa<|QG<|QB<|QA (Jc (n:=n) (i.i) (fun F ⟨⟨hGl,hR⟩,_⟩=>(hR).1) rfl rfl Qe Qu (by omega))<|QA (Ji (n:=n) ((i.i)*1) (fun F ⟨⟨hGl,hR⟩,_⟩=>(hR).1) (by omega) rfl Qu (JR (o:=l) (by omega)))<|QA (QE rfl)<|QF<|QD<|QG<|QB<|QA (QC rfl)<|QH rfl (fun w F hF ⟨⟨hGl,hR⟩,_⟩=>Cu hF hGl ((by omega)) ((by omega))) (fun _=>XN rfl (List.Perm.refl _) (Vz i.bl (by omega)) (fun xS=>JK _ (fun w F hF h=>h.2) (fun hbl=>QF<|QD<|QB<|XN rfl (List.Perm.refl _) (S3 (c:=32) hbl (by rw [List.length_append];omega)) (fun wob2=>JK _ (fun w F hF h=>h.2) (fun hbl2=>?_)))))
  rw [← LX,X9 hlt,← ZL hlt] at hbl2
  refine QF<|Qm<|QD<|QB<|QA (Qw rfl rfl (by omega))<|QA (QC rfl)<|QF ?_
  exact Qo (⟨i.i+1,wob2,hlt,hbl2⟩) (by show l.length - (i.i+1)<l.length - i.i;omega) ⟨rfl,rfl,rfl,rfl,trivial⟩ (List.Sublist.refl _) (fun F h=>⟨h.1.1.1.1,trivial⟩)
 ·
  have hge:i.i=l.length:=by have:=of_decide_eq_false hc;omega
  refine Q6 ?_
  repeat (first | refine Qc ?_ | refine QX (by rfl) ?_)
  refine Qd<|QD<|QG<|QB ?_
  have hbl:=i.bl
  rw [hge,List.take_length] at hbl
  refine Ed (v:=tx (Ym l)) hF rfl (enters_of Tryz.func281 (by rfl) rfl) (fun w' hw'=>Tryz.Builder_String_any w.heap.size b3 (Ym l) w' (hbl.is hw') (by obtain ⟨F',h'⟩:=hw';exact h'.ext.size))<|QA (QE rfl)<|QF<|QD<|QS ?_
  exact QQ (()) rfl (.tmp rfl .nil) (rfl) (fun _ _=>trivial)
end
end Go.Proofs.YtknegjaeoffnbaaGreatDoor
namespace Ig
def H8:List Tm→Tm→List Tm
 |[],n=>[n]
 |t::l,n=>if n.2=t.2 then n::l else t::H8 l n
theorem Ra:∀ (l:List Tm) (n:Tm),∀ k,k∈(H8 l n).map (·.2)→k=n.2∨k∈l.map (·.2)
 |[],n,k,h=>by simp [H8] at h;exact .inl h
 |t::l,n,k,h=>by
  simp only [H8] at h
  split at h
  ·simp only [List.map_cons,List.mem_cons] at h ⊢;rcases h with h | h
   ·exact .inl h
   ·exact .inr (.inr h)
  ·simp only [List.map_cons,List.mem_cons] at h ⊢;rcases h with h | h
   ·exact .inr (.inl h)
   ·rcases Ra l n k h with h | h
    ·exact .inl h
    ·exact .inr (.inr h)
theorem N7:∀ {l:List Tm} (n:Tm),(l.map (·.2)).Nodup→((H8 l n).map (·.2)).Nodup
 |[],n,_=>by simp [H8]
 |t::l,n,h=>by
  simp only [List.map_cons] at h
  obtain ⟨h1,h2⟩:=List.nodup_cons.1 h
  simp only [H8]
  split
  ·rename_i e
   simp only [List.map_cons];rw [e];exact h
  ·rename_i e
   simp only [List.map_cons]
   refine List.nodup_cons.2 ⟨fun hm=>?_,N7 n h2⟩
   rcases Ra l n _ hm with g | g
   ·exact e g.symm
   ·exact h1 g
theorem RT:∀ {l:List Tm} (n:Tm),(l.map (·.2)).Nodup→∀ k,Jl (H8 l n) k=if n.2=k then n.1 else Jl l k
 |[],n,_,k=>by simp [H8,Jl,Rat.add_zero]
 |t::l,n,h,k=>by
  simp only [List.map_cons] at h
  obtain ⟨h1,h2⟩:=List.nodup_cons.1 h
  have hz:Jl l t.2=0:=KE fun x hx e=>h1 (e ▸ List.mem_map_of_mem (f:=(·.2)) hx)
  simp only [H8]
  split
  ·rename_i e
   simp only [Jl]
   by_cases g:n.2=k
   ·have g2:t.2=k:=e ▸ g
    rw [if_pos g,if_pos g,← g2,hz,Rat.add_zero]
   ·have g2:¬ t.2=k:=fun q=>g (e.trans q)
    rw [if_neg g,if_neg g,if_neg g2]
  ·rename_i e
   simp only [Jl]
   rw [RT n h2 k]
   by_cases g:n.2=k
   ·have g2:¬ t.2=k:=fun q=>e (g.trans q.symm)
    rw [if_pos g,if_neg g2,if_pos g,Rat.zero_add]
   ·rw [if_neg g,if_neg g]
structure L6 (T l:List Tm):Prop where
 nd:(T.map (·.2)).Nodup
 eq:Ey T l
theorem L6.nil:L6 [] []:=⟨List.nodup_nil,Ey.refl _⟩
theorem L6.add {T l:List Tm} (h:L6 T l) (f:Rat) (p:List Int):L6 (H8 T (f+Jl T p,p)) (l++[(f,p)]) :=
 ⟨N7 _ h.nd,fun k=>by
  rw [RT _ h.nd,KW,← h.eq k]
  simp only [Jl]
  by_cases g:p=k
  ·rw [if_pos g,if_pos g,g,Rat.add_zero];exact Rat.add_comm _ _
  ·rw [if_neg g,if_neg g,Rat.add_zero,Rat.add_zero]⟩
theorem L6.DC {T l:List Tm} (h:L6 T l) {t:Tm} (ht:t∈T):Jl T t.2=t.1:=by
 have key:∀ {T:List Tm},(T.map (·.2)).Nodup→t∈T→Jl T t.2=t.1:=by
  intro T
  induction T with
  |nil=>intro _ h;cases h
  |cons x T ih =>
   intro hn hm
   simp only [List.map_cons] at hn
   obtain ⟨h1,h2⟩:=List.nodup_cons.1 hn
   rcases List.mem_cons.1 hm with rfl | hm
   ·simp only [Jl]
    have hz:Jl T t.2=0:=KE fun x hx e=>h1 (e ▸ List.mem_map_of_mem (f:=(·.2)) hx)
    rw [if_pos trivial,hz,Rat.add_zero]
   ·simp only [Jl]
    have:¬ x.2=t.2:=fun e=>h1 (e ▸ List.mem_map_of_mem (f:=(·.2)) hm)
    rw [if_neg this,ih h2 hm,Rat.zero_add]
 exact key h.nd ht
theorem RS {T:List Tm} {p:List Int} (h:p∉T.map (·.2)):Jl T p=0:=KE fun x hx e=>h (e ▸ List.mem_map_of_mem (f:=(·.2)) hx)
theorem L6.norm {T l s:List Tm} (h:L6 T l) (hp:s.Perm (T.filter fun t=>decide (t.1≠0))) (hs:s.Pairwise fun x y=>before x.2 y.2=true):s=XH l:=by
 refine Tw ⟨hs,fun t ht=>?_⟩ ((Ey.perm hp).trans ((eqv_filter T).trans h.eq))
 have:=(hp.mem_iff).1 ht
 simpa using (List.mem_filter.1 this).2
end Ig
namespace Go.Proofs.YtknegjaeoffnbaaGreatDoor
section
open Go.RowKit Ig
structure XY where
 x:Fr
 r:Sr
 t:Tm
instance :Inhabited XY:=⟨⟨⟨⟨0,none,0,0⟩,⟨0,none,0,0⟩⟩,⟨none,0,0⟩,(0,[])⟩⟩
def Yl (t:XY):List Value:=[.int .i64 t.x.n.s,.slice t.x.n.q t.x.n.n t.x.n.cap,.int .i64 t.x.d.s,.slice t.x.d.q t.x.d.n t.x.d.cap,.slice t.r.q t.r.n t.r.cap]
@[reducible] def Ap (t:XY):Value:=.agg #[.int .i64 t.x.n.s,.slice t.x.n.q t.x.n.n t.x.n.cap,.int .i64 t.x.d.s,.slice t.x.d.q t.x.d.n t.x.d.cap,.slice t.r.q t.r.n t.r.cap]
theorem YS (t:XY):(Yl t).length=5:=rfl
def S2 (F:Gs) (t:XY):Prop:=JV F t.x t.t.1∧JP F t.r t.t.2
theorem S2.le {F F':Gs} {t:XY} (h:S2 F t) (k:Gs.le F F'):S2 F' t:=⟨h.1.le k,h.2.le k⟩
def Vk (F:Gs) (ts:List XY):Prop:=∀ t∈ts,S2 F t
theorem Vk.le {F F':Gs} {ts:List XY} (h:Vk F ts) (k:Gs.le F F'):Vk F' ts:=fun t ht=>(h t ht).le k
def Ww (ts:List XY):List (List UInt8×Value):=ts.map fun t=>(Ym t.t.2,Ap t)
def JL (ts:List XY):List Tm:=ts.map (·.t)
def addN:List XY→XY→List XY
 |[],n=>[n]
 |t::l,n=>if n.t.2=t.t.2 then n::l else t::addN l n
theorem TA:∀ (ts:List XY) (n:XY),JL (addN ts n)=H8 (JL ts) n.t
 |[],n=>rfl
 |t::l,n=>by
  have ih:=TA l n
  unfold JL at ih ⊢
  simp only [addN,List.map_cons,H8]
  split
  ·simp
  ·simp [ih]
theorem NX:∀ (ts:List XY) (n:XY),Ww (addN ts n)=Ba (Ww ts) (Ym n.t.2) (Ap n)
 |[],n=>rfl
 |t::l,n=>by
  have ih:=NX l n
  unfold Ww at ih ⊢
  simp only [addN,List.map_cons,Ba]
  by_cases h:n.t.2=t.t.2
  ·rw [if_pos h,if_pos (congrArg Ym h)];simp
  ·rw [if_neg h,if_neg fun e=>h (Bm e)];simp [ih]
theorem NS {ts:List XY} {n x:XY} (h:x∈addN ts n):x=n∨x∈ts:=by
 induction ts with
 |nil=>simp [addN] at h;exact .inl h
 |cons t l ih =>
  simp only [addN] at h
  split at h
  ·rcases List.mem_cons.1 h with h | h
   ·exact .inl h
   ·exact .inr (List.mem_cons_of_mem _ h)
  ·rcases List.mem_cons.1 h with h | h
   ·exact .inr (h ▸ List.mem_cons_self)
   ·rcases ih h with h | h
    ·exact .inl h
    ·exact .inr (List.mem_cons_of_mem _ h)
theorem xx:∀ (ts:List XY) (p:List Int) (i:Nat),(Z3 (Ww ts) (Ym p) i=none∧p∉(JL ts).map (·.2))∨∃ j,∃ t∈ts,t.t.2=p∧Z3 (Ww ts) (Ym p) i=some (j,Ap t)
 |[],_,_=>.inl ⟨rfl,by simp [JL]⟩
 |t::l,p,i=>by
  by_cases h:p=t.t.2
  ·exact .inr ⟨i,t,List.mem_cons_self,h.symm,by show(if _ then _ else _)=_;rw [if_pos (congrArg Ym h)]⟩
  ·rcases xx l p (i+1) with ⟨h1,h2⟩ | ⟨j,u,hu,h1,h2⟩
   ·refine .inl ⟨?_,?_⟩
    ·show(if _ then _ else _)=_
     rw [if_neg fun e=>h (Bm e)];exact h1
    ·simp only [JL,List.map_cons,List.mem_cons,not_or];exact⟨h,h2⟩
   ·refine .inr ⟨j,u,List.mem_cons_of_mem _ hu,h1,?_⟩
    show(if _ then _ else _)=_
    rw [if_neg fun e=>h (Bm e)];exact h2
def Zj (l:List Tm):Nat:=(l.map fun t=>JX t.1+1).sum
theorem Xi (l m:List Tm):Zj (l++m)=Zj l+Zj m:=by unfold Zj;rw [List.map_append,List.sum_append]
theorem BI:∀ (l:List Tm) (k:List Int),JX (Jl l k)≤Zj l+1
 |[],k=>by show JX (0:Rat)≤_;decide
 |t::l,k=>by
  have h1:=BI l k
  simp only [Jl]
  have h2:=Yr (if t.2=k then t.1 else 0) (Jl l k)
  have h3:JX (if t.2=k then t.1 else 0)≤JX t.1+1:=by
   split
   ·omega
   ·have:JX (0:Rat)≤1:=by decide
    omega
  have e:Zj (t::l)=JX t.1+1+Zj l:=by unfold Zj;rw [List.map_cons,List.sum_cons]
  have h4:JX (Jl (t::l) k)≤Zj l+1+(JX t.1+1):=by
   simp only [Jl]
   by_cases g:t.2=k
   ·rw [if_pos g] at h2 ⊢
    omega
   ·rw [if_neg g,Rat.zero_add];omega
  rw [e]
  simp only [Jl] at h4
  omega
structure K7 (ts:List XY) (l:List Tm):Prop where
 AG:L6 (JL ts) l
 pw:∀ t∈ts,PW t.t.2
 ln:ts.length≤l.length
theorem K7.nil:K7 [] []:=⟨L6.nil,(fun _ h=>by cases h),Nat.le_refl _⟩
theorem qL (ts:List XY) (n:XY):(addN ts n).length≤ts.length+1:=by
 induction ts with
 |nil=>exact Nat.le_refl _
 |cons t l ih =>
  simp only [addN]
  split<;>simp only [List.length_cons]<;>omega
theorem K7.add {ts:List XY} {l:List Tm} (h:K7 ts l) {f:Rat} {p:List Int} (hp:PW p) {n:XY} (hn:n.t=(f+Jl (JL ts) p,p)):K7 (addN ts n) (l++[(f,p)]) :=
 ⟨by rw [TA,hn];exact h.AG.add f p,fun t ht=>by
  rcases NS ht with rfl | ht
  ·rw [hn];exact hp
  ·exact h.pw t ht,by have:=qL ts n;have:=h.ln;rw [List.length_append];simp only [List.length_singleton];omega⟩
theorem K7.sz {ts:List XY} {l:List Tm} (h:K7 ts l) {t:XY} (ht:t∈ts):JX t.t.1≤Zj l+1:=by
 rw [← h.AG.DC (List.mem_map_of_mem (f:=XY.t) ht),h.AG.eq];exact BI _ _
theorem NN:T4 Tryz.prog 227 9 165=true:=by kernel_rfl
theorem SI:Su Tryz.prog 9 tx:=.str (by kernel_rfl)
theorem qW:y3 Tryz.prog 165=some (.agg #[.int .i64 0,.slice none 0 0,.int .i64 0,.slice none 0 0,.slice none 0 0]):=by kernel_rfl
end
section
open Go.RowKit Ig
theorem Sw {P:Program} {Q:Exit→Act→World→Prop} {N:Nat} {m:Sl} {w0:World} {F0:Gs} {bs:List (Nat×Obj)} {G H:Gs→Prop} {c:Code} (h:∀ F,G F→H F) (k:J P c Q N m ⟨w0,F0,bs,fun F=>G F∧H F⟩):J P c Q N m ⟨w0,F0,bs,G⟩ :=
 fun a w ha hw=>k a w ha (hw.Bn fun F h'=>⟨h',h F h'⟩)
variable {w0:World} {F0:Gs} {bs:List (Nat×Obj)} {G:Gs→Prop}
theorem AT {ts:List XY} {l:List Tm} {m:Nat} {x:Fr} {f:Rat} {r:Sr} {p:List Int} (hI:K7 ts l) (hp:PW p) (hz:JX f≤40000000) (hl:Zj l≤40000000) (hG:∀ F,G F→JC F∧Vk F ts∧JV F x f∧JP F r p) {t0:XY} {j:Nat} (ht:t0∈ts) (h0:t0.t.2=p) (hf:Z3 (Ww ts) (Ym p) 0=some (j,Ap t0)) :
  XA Tryz.prog 210 [.map (some m),x.v,r.v] ⟨w0,F0,(m,ZD tx (Ww ts))::bs,G⟩ (fun(_:XY)=>.tuple #[]) (fun n=>⟨w0,F0,(m,ZD tx (Ww (addN ts n)))::bs,fun F=>G F∧Vk F (addN ts n)∧n.t=(f+Jl (JL ts) p,p)⟩):=by
 have hc0:Jl (JL ts) p=t0.t.1:=by rw [← h0];exact hI.AG.DC (List.mem_map_of_mem (f:=XY.t) ht)
 have hz0:=hI.sz ht
 dsimp only [Sr.v,Fr.v]
 refine XA.intro Tryz.func210 rfl (by rfl) rfl rfl<|Sw hG<|QG<|QB<|Q5 rfl (vs:=[_,_,_,_]) rfl (fun b4=>QF<|QD<|QG<|QB<|QA (QC rfl)<|QH rfl (fun w F hF ⟨hG0,hGl,hT,⟨hxn,hxd⟩,hR⟩=>CL hF hGl (r:=r) hR (hp)) (fun _=>QA (QE rfl)<|QF<|QD<|QG<|QG<|QB<|QA (QC rfl)<|QA (QC rfl)<|QA (Td SI rfl rfl NN (.there .here) hf)<|QA (QC rfl)<|QA (QK rfl rfl)<|QA (QK rfl rfl)<|QZ Ze (fun b7=>QP (vs:=[_,_,_,_,_]) rfl rfl rfl Jf rfl .here (.here (.here (.here (.here (.here .nil))))) ⟨rfl,rfl,rfl,rfl,rfl,trivial⟩ ?_)))
 refine QA (QE rfl)<|QF<|QD<|QG<|QB<|QA (QC rfl)<|QF<|QD ?_
 refine QO rfl (fun hc=>?_) (fun hc=>?_)
 ·
  refine QB<|QA (QL (vs:=[_,_,_,_]) rfl Qg (.there .here) (.here (.here (.here (.here .nil)))) rfl)<|QA (QI rfl YC Qg)<|QA (QL (vs:=[_,_,_,_]) rfl Qg .here (.here (.here (.here (.here .nil)))) rfl)<|QH rfl (fun w F hF ⟨⟨hG0,hGl,hT,⟨hxn,hxd⟩,hR⟩,_⟩=>Hz hF ⟨by assumption,by assumption⟩ ((hT t0 ht).1) (by omega) (by omega)) (fun x21=>QP (vs:=[_,_,_,_]) rfl rfl rfl Qg rfl (.there .here) (.here (.here (.here (.here .nil)))) ⟨rfl,rfl,rfl,rfl,trivial⟩<|QF<|QD<|QB<|QA (QC rfl)<|QA (QC rfl)<|QA (QL (vs:=[_,_,_,_]) rfl Qg (.there .here) (.here (.here (.here (.here .nil)))) rfl)<|QA (QC rfl)<|QA (Q9 rfl ND Ze (.cons (vs:=[_,_,_,_]) rfl rfl rfl (.here (.here (.here (.here .nil)))) (.cons (vs:=[_]) rfl rfl rfl (.skip (.skip (.skip (.skip (.here .nil))))) .nil)))<|Gw (k:=Ym p) (v:=Ap ⟨x21,r,(f+t0.t.1,p)⟩) SI rfl rfl rfl NN (.there (.there .here))<|QF<|D5 ?_)
  exact Yz (⟨x21,r,(f+t0.t.1,p)⟩) rfl .nil (rfl) (fun w h=>by
   show St ⟨w0,F0,(m,ZD tx (Ww (addN ts ⟨x21,r,(f+t0.t.1,p)⟩)))::bs,_⟩ w
   rw [NX]
   exact St.imp h (.cons _ (.cons _ (List.Sublist.refl _))) (fun F ⟨⟨⟨hG0,hGl,hT,⟨hxn,hxd⟩,hR⟩,_⟩,⟨h21,h21_⟩⟩=>⟨hG0,fun t ht=>by
    rcases NS ht with rfl | ht
    ·exact⟨⟨by assumption,by assumption⟩,hR⟩
    ·exact hT t ht,by rw [hc0]⟩))
 ·exact absurd hc (by cases hc)
theorem TF {ts:List XY} {l:List Tm} {m:Nat} {x:Fr} {f:Rat} {r:Sr} {p:List Int} (hI:K7 ts l) (hp:PW p) (hz:JX f≤40000000) (hl:Zj l≤40000000) (hG:∀ F,G F→JC F∧Vk F ts∧JV F x f∧JP F r p) (hf:Z3 (Ww ts) (Ym p) 0=none) (hm:p∉(JL ts).map (·.2)) :
  XA Tryz.prog 210 [.map (some m),x.v,r.v] ⟨w0,F0,(m,ZD tx (Ww ts))::bs,G⟩ (fun(_:XY)=>.tuple #[]) (fun n=>⟨w0,F0,(m,ZD tx (Ww (addN ts n)))::bs,fun F=>G F∧Vk F (addN ts n)∧n.t=(f+Jl (JL ts) p,p)⟩):=by
 have hc0:Jl (JL ts) p=0:=RS hm
 dsimp only [Sr.v,Fr.v]
 refine XA.intro Tryz.func210 rfl (by rfl) rfl rfl<|Sw hG<|QG<|QB<|Q5 rfl (vs:=[_,_,_,_]) rfl (fun b4=>QF<|QD<|QG<|QB<|QA (QC rfl)<|QH rfl (fun w F hF ⟨hG0,hGl,hT,⟨hxn,hxd⟩,hR⟩=>CL hF hGl (r:=r) hR (hp)) (fun _=>QA (QE rfl)<|QF<|QD<|QG<|QG<|QB<|QA (QC rfl)<|QA (QC rfl)<|QA (Pw SI rfl rfl NN qW (.there .here) hf)<|QA (QC rfl)<|QA (QK rfl rfl)<|QA (QK rfl rfl)<|QZ Ze (fun b7=>QP (vs:=[_,_,_,_,_]) rfl rfl rfl Jf rfl .here (.here (.here (.here (.here (.here .nil))))) ⟨rfl,rfl,rfl,rfl,rfl,trivial⟩ ?_)))
 refine QA (QE rfl)<|QF<|QD<|QG<|QB<|QA (QC rfl)<|QF<|QD ?_
 refine QO rfl (fun hc=>?_) (fun hc=>?_)
 ·exact absurd hc (by cases hc)
 ·
  refine QN<|QD<|QB<|QA (QC rfl)<|QA (QC rfl)<|QA (QL (vs:=[_,_,_,_]) rfl Qg (.there .here) (.here (.here (.here (.here .nil)))) rfl)<|QA (QC rfl)<|QA (Q9 rfl ND Ze (.cons (vs:=[_,_,_,_]) rfl rfl rfl (.here (.here (.here (.here .nil)))) (.cons (vs:=[_]) rfl rfl rfl (.skip (.skip (.skip (.skip (.here .nil))))) .nil)))<|Gw (k:=Ym p) (v:=Ap ⟨x,r,(f,p)⟩) SI rfl rfl rfl NN (.there (.there .here))<|QF<|D5 ?_
  exact Yz (⟨x,r,(f,p)⟩) rfl .nil (rfl) (fun w h=>by
   show St ⟨w0,F0,(m,ZD tx (Ww (addN ts ⟨x,r,(f,p)⟩)))::bs,_⟩ w
   rw [NX]
   exact St.imp h (.cons _ (.cons _ (List.Sublist.refl _))) (fun F ⟨⟨hG0,hGl,hT,⟨hxn,hxd⟩,hR⟩,_⟩=>⟨hG0,fun t ht=>by
    rcases NS ht with rfl | ht
    ·exact⟨⟨by assumption,by assumption⟩,hR⟩
    ·exact hT t ht,by rw [hc0,Rat.add_zero]⟩))
theorem BK {ts:List XY} {l:List Tm} {m:Nat} {x:Fr} {f:Rat} {r:Sr} {p:List Int} (hI:K7 ts l) (hp:PW p) (hz:JX f≤40000000) (hl:Zj l≤40000000) (hG:∀ F,G F→JC F∧Vk F ts∧JV F x f∧JP F r p) :
  XA Tryz.prog 210 [.map (some m),x.v,r.v] ⟨w0,F0,(m,ZD tx (Ww ts))::bs,G⟩ (fun(_:XY)=>.tuple #[]) (fun n=>⟨w0,F0,(m,ZD tx (Ww (addN ts n)))::bs,fun F=>G F∧Vk F (addN ts n)∧n.t=(f+Jl (JL ts) p,p)⟩):=by
 rcases xx ts p 0 with ⟨h1,h2⟩ | ⟨j,t,ht,h1,h2⟩
 ·exact TF hI hp hz hl hG h1 h2
 ·exact AT hI hp hz hl hG ht h1 h2
end
section
open Go.RowKit Ig
variable [Dr]
theorem jB {w:World} {F:Gs} {a b:XY} (hF:Fits F w) (hA:S2 F a) (hB:S2 F b) (pa:PW a.t.2) (pb:PW b.t.2):QW Tryz.prog 253 [Ap a,Ap b] w F (.int .i64 (VX a.t.2 b.t.2)):=by
 refine QT.intro (G:=fun F=>S2 F a∧S2 F b) Tryz.func253 rfl (by rfl) rfl rfl hF (fun F' hF'=>⟨hA.le hF',hB.le hF'⟩)<|QG<|QB<|Q5 rfl (vs:=[_,_,_,_,_]) rfl (fun b2=>Q5 rfl (vs:=[_,_,_,_,_]) rfl (fun b3=>QA (QE rfl)<|QF<|QD<|QG<|QB<|QA (QI rfl ZE Qs)<|QA (Qn rfl Qs (.there .here) (.skip (.skip (.skip (.skip (.here .nil))))))<|QA (QI rfl ZE Qs)<|QA (Qn rfl Qs .here (.skip (.skip (.skip (.skip (.here .nil))))))<|QH rfl (fun w F hF ⟨hA,hB⟩=>Hs hF (ra:=a.r) (rb:=b.r) hA.2 (hB.2) (pa) (pb)) (fun _=>QA (QE rfl)<|QF<|QD<|QS ?_)))
 exact QQ (()) rfl (.tmp rfl .nil) (rfl) (fun F ⟨⟨hA,hB⟩,_⟩=>trivial)
end
end Go.Proofs.YtknegjaeoffnbaaGreatDoor
namespace Go.Proofs
open Go.Shelf
def Tryz.LD:Go.Shelf.Ren:=⟨fun | 14=>213 | 20=>257 | 21=>258 | 22=>259 | 23=>260 | 24=>261 | 25=>262 | 26=>263 | 27=>264 | 46=>290 | 47=>291 | 48=>292 | 49=>293 | 50=>294 | 15=>214 | 57=>311 | 28=>265 | 29=>266 | n=>n,fun | 24=>165 | 22=>156 | 3=>3 | 25=>168 | 4=>4 | 0=>0 | 46=>263 | 45=>262 | 50=>85 | 66=>290 | 39=>232 | 55=>248 | 70=>294 | 76=>308 | 77=>309 | 53=>269 | 5=>5 | 9=>9 | n=>n,fun | n=>n⟩
theorem Tryz.xh:Go.Proofs.SlLaysF0.n14 Tryz.prog Tryz.LD:={
 mixed:=by kernel_rfl
 f14:=⟨Tryz.f213.name,by decide,Tryz.func213.trans (congrArg some (by kernel_rfl))⟩
 f15:=Tryz.func214.trans (congrArg some (by kernel_rfl))
 f20:=⟨Tryz.f257.name,by decide,Tryz.func257.trans (congrArg some (by kernel_rfl))⟩
 f21:=⟨Tryz.f258.name,by decide,Tryz.func258.trans (congrArg some (by kernel_rfl))⟩
 f22:=⟨Tryz.f259.name,by decide,Tryz.func259.trans (congrArg some (by kernel_rfl))⟩
 f23:=⟨Tryz.f260.name,by decide,Tryz.func260.trans (congrArg some (by kernel_rfl))⟩
 f24:=⟨Tryz.f261.name,by decide,Tryz.func261.trans (congrArg some (by kernel_rfl))⟩
 f25:=⟨Tryz.f262.name,by decide,Tryz.func262.trans (congrArg some (by kernel_rfl))⟩
 f26:=⟨Tryz.f263.name,by decide,Tryz.func263.trans (congrArg some (by kernel_rfl))⟩
 f27:=⟨Tryz.f264.name,by decide,Tryz.func264.trans (congrArg some (by kernel_rfl))⟩
 f28:=Tryz.func265.trans (congrArg some (by kernel_rfl))
 f29:=Tryz.func266.trans (congrArg some (by kernel_rfl))
 f46:=⟨Tryz.f290.name,by decide,Tryz.func290.trans (congrArg some (by kernel_rfl))⟩
 f47:=Tryz.func291.trans (congrArg some (by kernel_rfl))
 f48:=Tryz.func292.trans (congrArg some (by kernel_rfl))
 f49:=⟨Tryz.f293.name,by decide,Tryz.func293.trans (congrArg some (by kernel_rfl))⟩
 f50:=⟨Tryz.f294.name,by decide,Tryz.func294.trans (congrArg some (by kernel_rfl))⟩
 f57:=⟨Tryz.f311.name,by decide,Tryz.func311.trans (congrArg some (by kernel_rfl))⟩
 t0:=Tryz.underlying0
 a0:=Tryz.isAgg0
 z0:=Tryz.sizeOf0
 v0:=Tryz.zeroValue0
 t3:=Tryz.underlying3
 a3:=Tryz.isAgg3
 z3:=Tryz.sizeOf3
 v3:=Tryz.zeroValue3
 t4:=Tryz.underlying4
 a4:=Tryz.isAgg4
 z4:=Tryz.sizeOf4
 v4:=Tryz.zeroValue4
 t5:=Tryz.underlying5
 a5:=Tryz.isAgg5
 z5:=Tryz.sizeOf5
 v5:=Tryz.zeroValue5
 t9:=Tryz.underlying9
 a9:=Tryz.isAgg9
 z9:=Tryz.sizeOf9
 v9:=Tryz.zeroValue9
 t22:=Tryz.underlying156
 a22:=Tryz.isAgg156
 z22:=Tryz.sizeOf156
 v22:=Tryz.zeroValue156
 t25:=Tryz.underlying168
 a25:=Tryz.isAgg168
 z25:=Tryz.sizeOf168
 v25:=Tryz.zeroValue168
 t39:=Tryz.underlying232
 a39:=Tryz.isAgg232
 z39:=Tryz.sizeOf232
 v39:=Tryz.zeroValue232
 t45:=Tryz.underlying262
 a45:=Tryz.isAgg262
 z45:=Tryz.sizeOf262
 v45:=Tryz.zeroValue262
 t46:=Tryz.underlying263
 a46:=Tryz.isAgg263
 z46:=Tryz.sizeOf263
 v46:=Tryz.zeroValue263
 t50:=Tryz.underlying85
 a50:=Tryz.isAgg85
 z50:=Tryz.sizeOf85
 v50:=Tryz.zeroValue85
 t53:=Tryz.underlying269
 a53:=Tryz.isAgg269
 z53:=Tryz.sizeOf269
 v53:=Tryz.zeroValue269
 t55:=Tryz.underlying248
 a55:=Tryz.isAgg248
 z55:=Tryz.sizeOf248
 v55:=Tryz.zeroValue248
 t66:=Tryz.underlying290
 a66:=Tryz.isAgg290
 z66:=Tryz.sizeOf290
 v66:=Tryz.zeroValue290
 t70:=Tryz.underlying294
 a70:=Tryz.isAgg294
 z70:=Tryz.sizeOf294
 v70:=Tryz.zeroValue294
 t76:=Tryz.underlying308
 a76:=Tryz.isAgg308
 z76:=Tryz.sizeOf308
 v76:=Tryz.zeroValue308
 t77:=Tryz.underlying309
 a77:=Tryz.isAgg309
 z77:=Tryz.sizeOf309
 v77:=Tryz.zeroValue309 }
end Go.Proofs
namespace Go.Proofs.YtknegjaeoffnbaaGreatDoor
section
open Go.RowKit Ig Go.Sort
def vc:XY:=⟨⟨⟨0,none,0,0⟩,⟨1,none,0,0⟩⟩,⟨none,0,0⟩,(0,[])⟩
theorem kJ (F:Gs):S2 F vc:=⟨⟨Jr.small F (by decide) (by decide),Jr.small F (by decide) (by decide)⟩,⟨by simp [JF,vc],rfl,Nat.le_refl _⟩⟩
theorem PW.nil:PW []:=⟨fun _ h=>(by cases h),by simp⟩
abbrev xJ (F:Gs):={t:XY // S2 F t∧PW t.t.2}
instance (F:Gs):Inhabited (xJ F):=⟨⟨vc,kJ F,PW.nil⟩⟩
def G4 (F:Gs):xJ F→List Value:=fun t=>Yl t.1
def yy (F:Gs):xJ F→xJ F→Int:=fun x y=>VX x.1.t.2 y.1.t.2
theorem vI {F:Gs} (x y:xJ F):ltOf (yy F) x y=before x.1.t.2 y.1.t.2:=(Wi _ _).symm
theorem PY {a b c:List Int} (h:before a b=false) (k:before b c=false):before a c=false:=by
 cases hb:before a c with
 |false=>rfl
 |true =>
  rcases KG b c with e | e | e
  ·subst e;rw [h] at hb;cases hb
  ·rw [k] at e;cases e
  ·rw [before_trans hb e] at h;cases h
theorem y9 (F:Gs):SWO (ltOf (yy F)) where
 irrefl:=fun x=>by rw [vI];exact before_irrefl _
 trans:=fun x y z h k=>by rw [vI] at h k ⊢;exact before_trans h k
 ntrans:=fun x y z h k=>by rw [vI] at h k ⊢;exact PY h k
def LM (w:World) (F:Gs) (W:World):Gs:=fun b=>if b<w.heap.size then F b else match W.heap[b]? with | some (.cells c T _)=>if T=248 then some (c,248) else none | _=>none
theorem WE {w W:World} {F:Gs} {b:Nat} (h:b<w.heap.size):LM w F W b=F b:=if_pos h
theorem IG {w W:World} {F:Gs} (hF:Fits F w):Gs.le F (LM w F W):=fun b x hb=>by rw [WE (hF.lt hb)];exact hb
theorem P7 {w W:World} {F:Gs} {DH:Nat} {c':Array Value} {T:TypeId} {fr':Nat×Nat} (hF:Fits F w) (hn:F DH=none) (hT:T≠248) (h1:∀ b,b<w.heap.size→b≠DH→W.heap[b]?=w.heap[b]?) (h2:W.heap[DH]?=some (.cells c' T fr')):Fits (LM w F W) W:=by
 refine⟨fun b c T hb=>?_,fun b c fr hb=>?_⟩
 ·by_cases hlt:b<w.heap.size
  ·rw [WE hlt] at hb
   obtain ⟨fr,e⟩:=hF.row b c T hb
   have hne:b≠DH:=by rintro rfl;rw [hn] at hb;cases hb
   exact⟨fr,by rw [h1 b hlt hne];exact e⟩
  ·unfold LM at hb
   rw [if_neg hlt] at hb
   split at hb
   ·rename_i c' T' fr heq
    split at hb
    ·rename_i hT;cases hb;exact⟨fr,by rw [heq,hT]⟩
    ·cases hb
   ·cases hb
 ·by_cases hlt:b<w.heap.size
  ·rw [WE hlt]
   by_cases hne:b=DH
   ·subst hne;rw [h2] at hb;cases hb;exact absurd rfl hT
   ·rw [h1 b hlt hne] at hb;exact hF.all b c fr hb
  ·unfold LM
   rw [if_neg hlt,hb];simp
theorem js {w w':World} (h1:Below w.heap.size w w') (h2:w.drawn≤w'.drawn):w'=grow (w.drewN (w'.drawn - w.drawn)) (w'.heap.extract w.heap.size w'.heap.size):=by
 have hh:w'.heap=w.heap++w'.heap.extract w.heap.size w'.heap.size:=by
  apply Array.ext_getElem?
  intro i
  rw [Array.getElem?_append]
  split
  ·rename_i h;exact h1.block i h
  ·rename_i h
   rw [Array.getElem?_extract]
   have:=h1.size
   by_cases g:i<w'.heap.size
   ·rw [if_pos (by omega)];congr 1;omega
   ·rw [if_neg (by omega),Array.getElem?_eq_none (by omega)]
 obtain ⟨e1,e2,e3,_,_⟩:=h1
 cases w' with
 |mk heap tape drawn os output =>
  simp only at hh e1 e2 e3 h2
  unfold grow World.drewN
  simp only [World.mk.injEq]
  exact⟨hh,e2,by omega,e1,e3⟩
section
variable {α:Type} [Inhabited α] {enc:α→List Value} {k:Nat} {w:World} {DH m:Nat} {dk:Array α} {os:Array Obj} {c:Array Value} {T:TypeId} {fr:Nat×Nat}
theorem BJ (b:Nat) (hb:b<w.heap.size) (hne:b≠DH):(sortWorldK enc k w DH 0 m dk os).heap[b]?=w.heap[b]?:=by
 show((w.heap.modify DH _)++os)[b]?=_
 rw [Array.getElem?_append,if_pos (by simpa using hb),Array.getElem?_modify,if_neg (Ne.symm hne)]
theorem OW (h:w.heap[DH]?=some (.cells c T fr)):(sortWorldK enc k w DH 0 m dk os).heap[DH]?=some (.cells (putCells id 0 (flatK enc k dk) c) T fr):=by
 have hb:DH<w.heap.size:=by
  rcases Nat.lt_or_ge DH w.heap.size with g | g
  ·exact g
  ·rw [Array.getElem?_eq_none g] at h;cases h
 show((w.heap.modify DH _)++os)[DH]?=_
 rw [Array.getElem?_append,if_pos (by simpa using hb),Array.getElem?_modify,if_pos rfl,h]
 rfl
theorem FJ (hk:∀ x,(enc x).length=k) (d:Array α):flatK enc k d=(d.toList.flatMap enc).toArray:=by
 have hl:(d.toList.flatMap enc).length=d.size*k:=by
  generalize hd:d.toList=l
  have:d.size=l.length:=by rw [← hd];simp
  rw [this]
  clear this hd
  induction l with
  |nil=>simp
  |cons x l ih=>rw [List.flatMap_cons,List.length_append,ih,hk,List.length_cons,Nat.add_mul];omega
 apply Array.ext_getElem?
 intro t
 by_cases ht:t<d.size*k
 ·have hk0:0<k:=Nat.pos_of_ne_zero fun e=>by rw [e] at ht;simp at ht
  have h1:t / k<d.size:=(Nat.div_lt_iff_lt_mul hk0).2 ht
  have h2:t%k<k:=Nat.mod_lt _ hk0
  have h3:t%k<(enc d[t / k]!).length:=by rw [hk];exact h2
  have e1:(flatK enc k d)[t]?=some ((enc d[t / k]!)[t%k]!):=by
   rw [Array.getElem?_eq_getElem (by rw [size_flatK];exact ht)]
   have:=get_flatK enc k d t ht
   rw [getElem!_pos _ t (by rw [size_flatK];exact ht)] at this
   rw [this]
  rw [e1,List.getElem?_toArray]
  have h4:el d.toList (t / k)=d[t / k]!:=by simp [el,h1]
  have:=XU (f:=enc) hk (l:=d.toList) (i:=t / k) (j:=t%k) (u:=(enc d[t / k]!)[t%k]!) (by simpa using h1) (by rw [h4,List.getElem?_eq_getElem h3,getElem!_pos (enc d[t / k]!) (t%k) h3])
  rw [Nat.mul_comm,Nat.div_add_mod] at this
  exact this.symm
 ·rw [Array.getElem?_eq_none (by rw [size_flatK];omega),List.getElem?_toArray,List.getElem?_eq_none (by omega)]
theorem Ry {a b rest:List Value} (h:b.length=a.length):putCells id 0 b.toArray (a++rest).toArray=(b++rest).toArray:=by
 apply Array.ext_getElem?
 intro i
 unfold putCells
 rw [Array.getElem?_mapIdx,List.getElem?_toArray,List.getElem?_toArray,List.getElem?_append,List.getElem?_append]
 by_cases hi:i<a.length
 ·have hi':i<b.length:=by omega
  rw [if_pos hi,if_pos hi',List.getElem?_eq_getElem hi,List.getElem?_eq_getElem hi']
  simp [hi']
 ·have hi':¬ i<b.length:=by omega
  rw [if_neg hi,if_neg hi',h]
  have e:¬ (0≤i∧i<0+b.toArray.size):=by simp;omega
  cases rest[i - a.length]? with
  |none=>rfl
  |some x=>simp only [Option.map_some];rw [if_neg e]
end
def Fj (g:FuncId):Prop:=Enters Tryz.prog g∧∀ (w:World) (F:Gs) (a b:XY),Fits F w→S2 F a→S2 F b→PW a.t.2→PW b.t.2→@QT ⟨True⟩ Tryz.prog g [Ap a,Ap b] w F Unit (fun _=>.int .i64 (VX a.t.2 b.t.2)) (fun _ _=>True)
theorem Fj.lays {g:FuncId} (hg:Fj g) {w:World} {F:Gs} {DH size:Nat} {c:Array Value} {T:TypeId} {fr:Nat×Nat} (hF:Fits F w) (hn:F DH=none) (hT:T≠248) (hb:w.heap[DH]?=some (.cells c T fr)):CmpLays Tryz.prog g #[] (G4 F) 5 (yy F) DH 0 size w:=fun m os dk _ x y=>by
 have hf:=P7 (W:=sortWorldK (G4 F) 5 w DH 0 m dk os) hF hn hT (fun b h1 h2=>BJ b h1 h2) (OW hb)
 have hle:=IG (W:=sortWorldK (G4 F) 5 w DH 0 m dk os) hF
 have:=(hg.2 _ _ x.1 y.1 hf (x.2.1.le hle) (y.2.1.le hle) x.2.2 y.2.2).2
 refine this.mono ?_
 rintro e w' ⟨_,F',rfl,hx,_⟩
 exact⟨rfl,_,_,js (@Pd.toBelow ⟨True⟩ _ _ hx) (@Pd.dr ⟨True⟩ _ _ hx trivial)⟩
theorem va {F:Gs} (x:xJ F):∀ v∈G4 F x,v.oneCell'=true:=by
 intro v hv
 unfold G4 Yl at hv
 simp only [List.mem_cons,List.not_mem_nil,or_false] at hv
 rcases hv with rfl | rfl | rfl | rfl | rfl<;>rfl
variable [Dr] {w0:World} {F0:Gs} {bs:List (Nat×Obj)} {G:Gs→Prop}
theorem kG {g:FuncId} (hg:Fj g) {b n cap lim:Nat} {ts:List XY} {rest:List Value} (hG:∀ F,G F→Vk F ts) (hp:∀ t∈ts,PW t.t.2) (hl:ts.length=n) (hn:n<4611686018427387904) (hlim:lim<4611686018427387904) :
  XA Tryz.prog 213 [.slice (some ⟨b,0,none⟩) n cap,.int .i64 0,.int .i64 (n:Nat),.int .i64 (lim:Nat),.func (.func g) #[] #[]] ⟨w0,F0,(b,.cells (ts.flatMap Yl++rest).toArray 165 (0,0))::bs,G⟩ (fun(_:List XY)=>.tuple #[])
   (fun ts'=>⟨w0,F0,(b,.cells (ts'.flatMap Yl++rest).toArray 165 (0,0))::bs,fun F=>G F∧ts'.Perm ts∧ts'.Pairwise (fun x y=>before y.t.2 x.t.2=false)⟩):=by
 refine⟨enters_of Tryz.func213 (by rfl) rfl,fun w hw=>?_⟩
 obtain ⟨F,h⟩:=hw
 obtain ⟨hb1,hb2,hb3⟩:=h.bx (b,_) List.mem_cons_self
 have hts:=hG F h.hG
 have hblt:b<w.heap.size:=(Array.getElem?_eq_some_iff.1 hb1).1
 have hT:(165:TypeId)≠248:=by decide
 obtain ⟨d,hd⟩:∃ d:Array (xJ F),d.toList.map (·.1)=ts:=by
  refine⟨(ts.attach.map fun t=>(⟨t.1,hts t.1 t.2,hp t.1 t.2⟩:xJ F)).toArray,?_⟩
  simp [List.map_map,Function.comp_def]
 have hds:d.size=n:=by rw [← hl,← hd];simp
 have hfl:∀ d:Array (xJ F),flatK (G4 F) 5 d=((d.toList.map (·.1)).flatMap Yl).toArray:=fun d=>by
  rw [FJ (enc:=G4 F) (k:=5) (fun _=>rfl),List.flatMap_map];rfl
 have hH:HoldsK (G4 F) 5 w b 0 d:=by
  intro j hj
  rw [hfl,hd] at hj ⊢
  have hj':j<(ts.flatMap Yl).length:=by simpa using hj
  rw [Nat.zero_add]
  refine⟨?_,by simp [World.frozen?,hb1]⟩
  simp only [World.cell?,hb1,Option.isSome_none,Bool.false_eq_true,if_false,List.getElem?_toArray]
  rw [List.getElem?_append_left hj',List.getElem?_eq_getElem hj']
  show some _=some ((ts.flatMap Yl).toArray[j]!)
  rw [getElem!_pos (ts.flatMap Yl).toArray j (by simpa using hj')]
  simp
 have hR:RowK (G4 F) 5 w b 0 d:=⟨fun _=>rfl,fun x=>va x,hH,hblt⟩
 have eg:=hg.1
 have hcmp:=hg.lays (size:=d.size) h.fits hb3 hT hb1
 have hs:=AnyQ.pdqsortCmpFunc_all Tryz.xh 5 (Re Jf) (YK Jf) (G4 F) (yy F) g #[] (y9 F) b 0 cap d w eg hcmp hR (d.size+1) 0 d.size lim d w (by omega) rfl (SWK.start hH) (Nat.zero_le _) (Nat.le_refl _) (by omega) hlim (Or.inl rfl)
 have hpl:=pdq_sorts (ltOf (yy F)) (y9 F) d 0 d.size lim true true (Nat.zero_le _) (Nat.le_refl _) (Or.inl rfl)
 generalize pdq (ltOf (yy F)) d 0 d.size lim true true=d' at hs hpl
 obtain ⟨⟨hp1,_,hp2⟩,hso⟩:=hpl
 rw [hds] at hs
 refine hs.mono ?_
 rintro e w' ⟨rfl,m,os,rfl⟩
 have hbk:=OW (enc:=G4 F) (k:=5) (m:=m) (dk:=d') (os:=os) hb1
 have hfit:=P7 (W:=sortWorldK (G4 F) 5 w b 0 m d' os) h.fits hb3 hT (fun b h1 h2=>BJ b h1 h2) hbk
 have hle:=IG (W:=sortWorldK (G4 F) 5 w b 0 m d' os) h.fits
 have hperm:(d'.toList.map (·.1)).Perm ts:=by
  rw [← hd]
  refine List.Perm.map _ ?_
  have e1:(d'.extract 0 d.size).toList=d'.toList:=by rw [← hp1];simp
  have e2:(d.extract 0 d.size).toList=d.toList:=by simp
  rw [e1,e2] at hp2;exact hp2
 have hcells:putCells id 0 (flatK (G4 F) 5 d') (ts.flatMap Yl++rest).toArray=((d'.toList.map (·.1)).flatMap Yl++rest).toArray:=by
  rw [hfl]
  refine Ry ?_
  have:=(List.Perm.flatMap_right Yl hperm).length_eq
  exact this
 rw [hcells] at hbk
 have hsz:w.heap.size≤(sortWorldK (G4 F) 5 w b 0 m d' os).heap.size:=by
  show _≤((w.heap.modify b _)++os).size
  simp
 refine⟨d'.toList.map (·.1),rfl,LM w F (sortWorldK (G4 F) 5 w b 0 m d' os),?_⟩
 refine⟨Gs.le_trans h.le hle,fun k hk=>?_,hfit,⟨⟨?_,?_,?_,?_,?_⟩,?_⟩,fun k hk=>?_,h.nd,fun F' hF'=>⟨h.g F' (Gs.le_trans hle hF'),hperm,?_⟩⟩
 ·have:k<w.heap.size:=Nat.lt_of_lt_of_le hk h.ext.size
  rw [WE this];exact h.old k hk
 ·exact h.ext.os
 ·exact h.ext.tape
 ·exact h.ext.output
 ·exact Nat.le_trans h.ext.size hsz
 ·intro k hk
  have h1:k<w.heap.size:=Nat.lt_of_lt_of_le hk h.ext.size
  have h2:k≠b:=by rintro rfl;exact absurd hk (Nat.not_lt.2 hb2)
  rw [BJ k h1 h2];exact h.ext.block k hk
 ·intro hd
  exact Nat.le_trans (h.ext.dr hd) (Nat.le_add_right _ _)
 ·rcases List.mem_cons.1 hk with rfl | hk
  ·exact⟨hbk,hb2,by rw [WE hblt];exact hb3⟩
  ·obtain ⟨g1,g2,g3⟩:=h.bx k (List.mem_cons_of_mem _ hk)
   have h1:k.1<w.heap.size:=(Array.getElem?_eq_some_iff.1 g1).1
   have h2:k.1≠b:=by
    have:=h.nd
    simp only [List.map_cons] at this
    have:=(List.nodup_cons.1 this).1
    rintro e
    exact this (e ▸ List.mem_map_of_mem (f:=(·.1)) hk)
   exact⟨by rw [BJ k.1 h1 h2];exact g1,g2,by rw [WE h1];exact g3⟩
 ·rw [List.pairwise_map,List.pairwise_iff_getElem]
  intro i j hi hj hij
  have hi':i<d'.size:=by simpa using hi
  have hj':j<d'.size:=by simpa using hj
  have:=hso i j (Nat.zero_le _) hij (by omega)
  rw [vI,getElem!_pos _ i hi',getElem!_pos _ j hj'] at this
  simpa using this
end
section
open Go.RowKit Ig
section
variable [Dr] {w0:World} {F0:Gs} {bs:List (Nat×Obj)} {G:Gs→Prop}
theorem Ly {w:World} {F:Gs} (hF:Fits F w) {n:Nat} (h:n<4611686018427387904):QW Tryz.prog 214 [.int .u64 (n:Nat)] w F (.int .i64 (Lib.bitLen n:Nat)) :=
 QT.same (enters_of Tryz.func214 (by rfl) rfl) hF (by
  have:=Tryz.bits_Len (n:Nat) w (by omega) (by omega)
  rwa [Int.toNat_natCast] at this)
theorem C3:∀ {ts:List XY},ts.flatMap Yl=[]→ts=[]
 |[],_=>rfl
 |t::l,h=>by rw [List.flatMap_cons] at h;simp [Yl] at h
theorem zh {g:FuncId} (hg:Fj g) {n lim:Nat} {v:Value} {ts:List XY} {ob:List (Nat×Obj)} (hr:Q4 165 5 v n (ts.flatMap Yl) ob) (hG:∀ F,G F→Vk F ts) (hp:∀ t∈ts,PW t.t.2) (hl:ts.length=n) (hn:n<4611686018427387904) (hlim:lim<4611686018427387904) :
  XA Tryz.prog 213 [v,.int .i64 0,.int .i64 (n:Nat),.int .i64 (lim:Nat),.func (.func g) #[] #[]] ⟨w0,F0,ob++bs,G⟩ (fun(_:List XY×List (Nat×Obj))=>.tuple #[])
   (fun c=>⟨w0,F0,c.2++bs,fun F=>G F∧Q4 165 5 v n (c.1.flatMap Yl) c.2∧c.1.Perm ts∧c.1.Pairwise (fun x y=>before y.t.2 x.t.2=false)⟩):=by
 generalize hcs:ts.flatMap Yl=cs at hr
 cases hr with
 |nil =>
  have:=C3 hcs
  subst this
  refine⟨enters_of Tryz.func213 (by rfl) rfl,fun w hw=>?_⟩
  refine(AnyF.pdqsortCmpFunc_none Tryz.xh none 0 (lim:Nat) (.func (.func g) #[] #[]) w).mono ?_
  rintro e w' ⟨rfl,rfl⟩
  exact⟨([],[]),rfl,hw.Bn fun F h=>⟨h,.nil,List.Perm.refl _,List.Pairwise.nil⟩⟩
 |some h1 h2 h3 h4 =>
  rename_i b cap rest
  subst hcs
  have h:=kG (w0:=w0) (F0:=F0) (bs:=bs) (G:=G) hg (b:=b) (n:=n) (cap:=cap) (lim:=lim) (ts:=ts) (rest:=rest) hG hp hl hn hlim
  refine⟨h.1,fun w hw=>(h.2 w hw).mono ?_⟩
  rintro e w' ⟨ts',rfl,hw'⟩
  refine⟨(ts',[(b,.cells (ts'.flatMap Yl++rest).toArray 165 (0,0))]),rfl,hw'.Bn fun F ⟨hG',hpm,hpw⟩=>⟨hG',?_,hpm,hpw⟩⟩
  have hlen:(ts'.flatMap Yl).length=(ts.flatMap Yl).length:=(List.Perm.flatMap_right Yl hpm).length_eq
  exact .some (by rw [hlen];exact h1) (by rw [hlen];exact h2) h3 h4
theorem Oa {g:FuncId} (hg:Fj g) {n:Nat} {v:Value} {ts:List XY} {ob:List (Nat×Obj)} (hr:Q4 165 5 v n (ts.flatMap Yl) ob) (hG:∀ F,G F→Vk F ts) (hp:∀ t∈ts,PW t.t.2) (hl:ts.length=n) (hn:n<4611686018427387904) :
  XA Tryz.prog 134 [v,.func (.func g) #[] #[]] ⟨w0,F0,ob++bs,G⟩ (fun(_:List XY×List (Nat×Obj))=>.tuple #[])
   (fun c=>⟨w0,F0,c.2++bs,fun F=>G F∧Q4 165 5 v n (c.1.flatMap Yl) c.2∧c.1.Perm ts∧c.1.Pairwise (fun x y=>before y.t.2 x.t.2=false)⟩):=by
 refine XA.intro Tryz.func134 rfl (by rfl) rfl rfl<|QG<|QB<|QA (QC rfl)<|QA (Te rfl hr J1)<|QA (QE rfl)<|QF<|QD<|QB<|QA (QC rfl)<|QA (QC rfl)<|QA (QC rfl)<|QA (IC rfl y6 xt (by omega))<|QH rfl (fun w F hF _=>Ly hF hn) (fun _=>QA (QC rfl)<|XN rfl (List.Perm.refl _) (zh hg hr (fun F h=>hG F h.1) hp hl hn (Nat.lt_of_le_of_lt (Lib.bitLen_le n 62 (by omega) (by omega)) (by omega))) (fun c=>QF<|D5 ?_))
 exact Yz (c) rfl .nil (rfl) (fun w h=>h.Bn fun F h=>⟨h.1.1,h.2⟩)
end
end
section
open Go.RowKit Ig
theorem Gi:∀ (n:Nat) (l:List Nat),l.Nodup→(∀ j∈l,j<n)→l.length≤n
 |0,l,_,h=>by
  cases l with
  |nil=>exact Nat.le_refl _
  |cons x l=>exact absurd (h x List.mem_cons_self) (Nat.not_lt_zero _)
 |n+1,l,hn,h=>by
  have h1:=Gi n (l.erase n) (hn.erase n) fun j hj=>by
   have h2:=(hn.mem_erase_iff).1 hj
   have h3:=h j h2.2
   have h4:=h2.1
   omega
  rw [List.length_erase] at h1
  split at h1<;>omega
theorem Pp {n j:Nat} {l:List Nat} (hn:l.Nodup) (h:∀ j∈l,j<n) (hj:j<n) (hjn:j∉l):(l++[j]).Nodup∧(∀ i∈l++[j],i<n)∧l.length<n:=by
 have h1:(l++[j]).Nodup:=by
  rw [List.nodup_append]
  exact⟨hn,by simp,fun a ha b hb=>by rw [List.mem_singleton.1 hb];rintro rfl;exact hjn ha⟩
 have h2:∀ i∈l++[j],i<n:=fun i hi=>by
  rcases List.mem_append.1 hi with hi | hi
  ·exact h i hi
  ·rw [List.mem_singleton.1 hi];exact hj
 have h3:=Gi n _ h1 h2
 rw [List.length_append] at h3
 exact⟨h1,h2,by simp at h3;omega⟩
theorem TR {n:Nat} {l:List Nat} (hn:l.Nodup) (h:∀ j∈l,j<n) (ha:∀ j,j<n→j∈l):l.Perm (List.range n) :=
 (List.perm_ext_iff_of_nodup hn List.nodup_range).2 fun a=>by rw [List.mem_range];exact⟨h a,ha a⟩
theorem Bk {α:Type} [Inhabited α] (l:List α):(List.range l.length).map (el l)=l:=by
 apply List.ext_getElem?
 intro i
 by_cases h:i<l.length
 ·rw [List.getElem?_map,List.getElem?_range h,List.getElem?_eq_getElem h];simp [Zi h]
 ·rw [List.getElem?_eq_none (by simp;omega),List.getElem?_eq_none (by omega)]
def Jm (F:Gs) (s:Sr) (ts:List XY) (p:List Tm):Prop:=JF F s.q s.n 5 (ts.flatMap Yl)∧Vk F ts∧JL ts=p∧s.n≤s.cap∧ts.length=s.n
theorem Jm.le {F F':Gs} {s:Sr} {ts:List XY} {p:List Tm} (h:Jm F s ts p) (k:Gs.le F F'):Jm F' s ts p:=⟨h.1.le k,h.2.1.le k,h.2.2⟩
def IF (ts:List XY):List XY:=ts.filter fun t=>decide (t.t.1≠0)
theorem Tr (ts:List XY) (t:XY):IF (ts++[t])=IF ts++(if t.t.1≠0 then [t] else []):=by
 unfold IF;rw [List.filter_append];congr 1
 by_cases h:t.t.1=0
 ·simp [h]
 ·simp [h]
structure kX (ts:List XY) where
 seen:List Nat
 v:Value
 n:Nat
 ob:List (Nat×Obj)
 hr:Q4 165 5 v n ((IF (seen.map (el ts))).flatMap Yl) ob
 nd:seen.Nodup
 lt:∀ j∈seen,j<ts.length
 hn:(IF (seen.map (el ts))).length=n
theorem IM (ts:List XY):(Ww ts).length=ts.length:=by simp [Ww]
theorem qC:Fj 253:=⟨enters_of Tryz.func253 (by rfl) rfl,fun w F a b hF hA hB pa pb=>@jB ⟨True⟩ w F a b hF hA hB pa pb⟩
theorem BR {r:Rat}:Eg r.num=0↔r=0:=by
 unfold Eg
 constructor
 ·intro h
  apply Rat.num_eq_zero.1
  split at h
  ·omega
  ·split at h<;>omega
 ·rintro rfl;rfl
theorem OX {ts os:List XY} {l:List Tm} {seen:List Nat} (hI:K7 ts l) (hn:seen.Nodup) (hlt:∀ j∈seen,j<ts.length) (hall:∀ j,j<ts.length→j∈seen) (hp:os.Perm (IF (seen.map (el ts)))) (hs:os.Pairwise fun x y=>before y.t.2 x.t.2=false):JL os=XH l:=by
 have h1:os.Perm (IF ts):=by
  refine hp.trans ?_
  unfold IF
  refine List.Perm.filter _ ?_
  have:=(TR hn hlt hall).map (el ts)
  rwa [Bk] at this
 have h2:(JL os).Perm ((JL ts).filter fun t=>decide (t.1≠0)):=by
  have:=h1.map XY.t
  unfold IF at this
  have e:(ts.filter fun t=>decide (t.t.1≠0)).map XY.t=(ts.map XY.t).filter fun t=>decide (t.1≠0):=by
   rw [List.filter_map];rfl
  rw [e] at this;exact this
 refine hI.AG.norm h2 ?_
 have hnd:((JL os).map (·.2)).Nodup:=by
  have h3:((JL os).map (·.2)).Perm (((JL ts).filter fun t=>decide (t.1≠0)).map (·.2)):=h2.map _
  rw [h3.nodup_iff]
  exact(List.filter_sublist.map _).nodup hI.AG.nd
 unfold JL at hnd ⊢
 rw [List.pairwise_map]
 rw [List.map_map] at hnd
 have hnd2:=List.pairwise_map.1 hnd
 refine(hs.and hnd2).imp ?_
 rintro x y ⟨h1,h2⟩
 rcases KG x.t.2 y.t.2 with e | e | e
 ·exact absurd e h2
 ·exact e
 ·rw [h1] at e;cases e
theorem Ax {ts:List XY} {seen:List Nat} (hlt:∀ j∈seen,j<ts.length) {t:XY} (h:t∈IF (seen.map (el ts))):t∈ts:=by
 have:=(List.mem_filter.1 h).1
 obtain ⟨j,hj,e⟩:=List.mem_map.1 this
 rw [← e];exact Je (hlt j hj)
theorem Cb {ts:List XY} {seen:List Nat} {j:Nat} {t:XY} (e:el ts j=t) (h:t.t.1≠0):IF ((seen++[j]).map (el ts))=IF (seen.map (el ts))++[t]:=by
 rw [List.map_append,List.map_cons,List.map_nil,e,Tr,if_pos h]
theorem xj {ts:List XY} {seen:List Nat} {j:Nat} {t:XY} (e:el ts j=t) (h:t.t.1=0):IF ((seen++[j]).map (el ts))=IF (seen.map (el ts)):=by
 rw [List.map_append,List.map_cons,List.map_nil,e,Tr,if_neg (not_not_intro h),List.append_nil]
theorem R8 (t:XY):∀ v∈Yl t,v.oneCell'=true:=by
 intro v hv
 unfold Yl at hv
 simp only [List.mem_cons,List.not_mem_nil,or_false] at hv
 rcases hv with rfl | rfl | rfl | rfl | rfl<;>rfl
section
variable {w0:World} {F0:Gs} {bs:List (Nat×Obj)} {G:Gs→Prop}
theorem Gd {m:Nat} {ts:List XY} {l:List Tm} (hI:K7 ts l) (hlen:ts.length≤1000000000) (hG:∀ F,G F→Vk F ts) :
  XA Tryz.prog 211 [.map (some m)] ⟨w0,F0,(m,ZD tx (Ww ts))::bs,G⟩ (fun(c:Sr×List XY)=>c.1.v) (fun c=>⟨w0,F0,(m,ZD tx (Ww ts))::bs,fun F=>G F∧Jm F c.1 c.2 (XH l)⟩):=by
 refine XA.intro Tryz.func211 rfl (by rfl) rfl rfl<|Sw hG<|QG<|QB<|QA (QE rfl)<|QF<|QD<|QG<|QB<|QA (QE rfl)<|QF<|QD<|QG<|QG<|QB<|QA (QC rfl)<|Ec rfl NN .here (fun b7=>QF<|QD<|Qa<|Jz (ι:=kX ts) [(7,_)] (fun i=>[(3,i.v)]) (fun i=>(b7,IP m (Ww ts).length i.seen)::(m,ZD tx (Ww ts))::(i.ob++bs)) (fun i F=>True) (fun i=>ts.length - i.seen.length) (⟨[],_,0,[],.nil,List.nodup_nil,(fun _ h=>by cases h),rfl⟩) ⟨rfl,trivial⟩ ⟨rfl,trivial⟩ (List.Sublist.refl _) (fun _ _=>trivial) (fun i=>?_))
 simp only [List.cons_append,List.nil_append]
 have hn0:i.n≤i.seen.length:=by rw [← i.hn];exact Nat.le_trans (List.length_filter_le _ _) (by simp)
 refine QG<|QB<|PB (kv:=Ww ts) (K:=tx) (b:=m) rfl .here (.there .here) (fun x hx=>QA (QK rfl (xk x))<|QF<|QD<|QG ?_)
 refine QO rfl (fun hc=>?_) (fun hc=>?_)
 ·
  obtain ⟨j,rfl⟩:∃ j,x=some j:=by
   cases x with
   |none=>cases hc
   |some j=>exact⟨j,rfl⟩
  obtain ⟨hj,hjn⟩:=hx
  rw [IM] at hj
  obtain ⟨hs1,hs2,hs3⟩:=Pp i.nd i.lt hj hjn
  have htm:=Je hj
  have hkj:(Ww ts)[j]?=some (Ym (el ts j).t.2,Ap (el ts j)):=by rw [Ww,List.getElem?_map,List.getElem?_eq_getElem hj,Zi hj];rfl
  generalize hte:el ts j=t at htm hkj
  refine QN<|QD<|Qa<|QG<|QB<|QA (IB (kv:=Ww ts) (K:=tx) (p:=(Ym t.t.2,Ap t)) rfl .here (.there .here) hkj)<|QA (QK rfl rfl)<|QZ Ze (fun b5=>QP (vs:=[_,_,_,_,_]) rfl rfl rfl Jf rfl .here (.here (.here (.here (.here (.here .nil))))) ⟨rfl,rfl,rfl,rfl,rfl,trivial⟩<|QF<|QD<|QG<|QB<|QA (QI rfl YC Qg)<|QA (QL (vs:=[_,_,_,_]) rfl Qg .here (.here (.here (.here (.here .nil)))) rfl)<|QH rfl (fun w F hF ⟨⟨hG0,hT⟩,_⟩=>Gl hF ((hT t htm).1)) (fun _=>QA (QU rfl rfl rfl)<|QF<|QD ?_))
  refine QO rfl (fun hc=>?_) (fun hc=>?_)
  ·
   have hnz:t.t.1≠0:=fun e=>by rw [e] at hc;cases hc
   refine QB<|QA (QC rfl)<|QA (QL (vs:=[_,_,_,_,_]) rfl Jf .here (.here (.here (.here (.here (.here .nil))))) rfl)<|QV rfl (Q8 J1) Jf Ze rfl rfl (fun b18=>ZI (bs':=(_::_::_::bs)++i.ob) (.cons _ (.cons _ (.cons _ List.perm_append_comm))) ?_)
   refine Kr (ob:=i.ob) (k:=1) (sz:=5) (news:=Yl t) rfl rfl J1 Jf Ze rfl Ff i.hr (Src.row (off:=0) (fun F ⟨⟨⟨hG0,hT⟩,_⟩,hs18⟩=>hs18) (fun j v hv=>by rw [Nat.zero_add];show((Yl t).toArray)[j]?=some v;rw [List.getElem?_toArray];exact hv) rfl) (by omega) (by omega) (R8 t) (fun v19 ob19 hr19=>?_)
   refine ZI (bs':=_::_::_::(ob19++bs)) (.cons _ (.cons _ (.cons _ List.perm_append_comm)))<|QA (QE rfl)<|QF<|Qm ?_
   exact Qo (⟨i.seen++[j],v19,i.n+1,ob19,by rw [Cb hte hnz,List.flatMap_append];simpa using hr19,hs1,hs2,by rw [Cb hte hnz,List.length_append,i.hn];rfl⟩) (by show _ - (i.seen++[j]).length<_;rw [List.length_append];simp only [List.length_singleton];omega) ⟨rfl,rfl,trivial⟩ (.cons _ (List.Sublist.refl _)) (fun F h=>⟨h.1.1.1,trivial⟩)
  ·
   have hz:t.t.1=0:=BR.1 (by simpa using hc)
   refine QN<|Qm ?_
   exact Qo (⟨i.seen++[j],i.v,i.n,i.ob,by rw [xj hte hz];exact i.hr,hs1,hs2,by rw [xj hte hz];exact i.hn⟩) (by show _ - (i.seen++[j]).length<_;rw [List.length_append];simp only [List.length_singleton];omega) ⟨rfl,rfl,trivial⟩ (.cons _ (List.Sublist.refl _)) (fun F h=>⟨h.1.1,trivial⟩)
 ·
  obtain rfl:x=none:=by
   cases x with
   |none=>rfl
   |some j=>cases hc
  rw [show vb (Ww ts).length i.seen none=∀ j,j<(Ww ts).length→j∈i.seen from rfl,IM] at hx
  refine Q6 ?_
  repeat (first | refine Qc ?_ | refine QX (by rfl) ?_)
  refine Qd<|QD<|QG<|QB<|QA (QC rfl)<|XN rfl (List.perm_middle.trans (.cons _ List.perm_middle)).symm (Oa qC i.hr (fun F ⟨⟨hG0,hT⟩,_⟩ t ht=>hT t (Ax i.lt ht)) (fun t ht=>hI.pw t (Ax i.lt ht)) i.hn (by have:=Gi _ _ i.nd i.lt;omega)) (fun c=>JK _ (fun w F hF h=>h.2) (fun hso=>?_))
  obtain ⟨r,hv,hrn,hrc,hfix⟩:=Q4.fix (w0:=w0) (F0:=F0) (bs1:=(b7,IP m (Ww ts).length (kI i.seen none))::(m,ZD tx (Ww ts))::bs) (G:=_) hso.1
  refine ZI List.perm_append_comm<|D1 hfix ?_
  rw [hv]
  refine QF<|QD<|QG<|QB<|QA (QC rfl)<|QA (QE rfl)<|QF<|QD<|QS ?_
  exact Yz (⟨r,c.1⟩) rfl (.tmp rfl .nil) (rfl) (fun w h=>St.imp h (.cons _ (List.Sublist.refl _)) (fun F ⟨⟨⟨⟨hG0,hT⟩,_⟩,_⟩,hrow⟩=>⟨hG0,by rw [hrn];exact hrow,fun t ht=>hT t (Ax i.lt (hso.2.1.mem_iff.1 ht)),OX hI i.nd i.lt hx hso.2.1 hso.2.2,by rw [hrn];exact hrc,hso.2.1.length_eq.trans (i.hn.trans hrn.symm)⟩))
end
end
section
open Go.RowKit Ig
section
variable [Dr] [df:Df] {P:Program} {N:Nat} {m:Sl} {w0:World} {F0:Gs} {bs:List (Nat×Obj)} {G:Gs→Prop}
theorem qu {T yT ty e:TypeId} {x y:Operand} {q:Option Addr} {n c:Nat} {Y:World→Prop} (hx:ev m x=some (.slice q n c)) (hy:ev m y=some (.slice none 0 0)) (hT:H9 P T=some e):Qt P N m Y (.binOp .eql T x y yT) ty (.bool q.isNone):=fun a w _ _ _ _ ha _=>by
 have:=Lib.run_eql_slice_nil (P:=P) w T e q n c 0 0 (Q8 hT)
 simp [execOp,ha.ev hx,ha.ev hy,eqGuard,this]
theorem Src.vY {sz k c:Nat} {a:Addr} {news:List Value} (hr:∀ F,G F→JF F (some a) k sz news) (hl:news.length=k*sz):Src ⟨w0,F0,bs,G⟩ sz (.slice (some a) k c) k news:=by
 refine⟨hl,.inr ⟨a,c,rfl,fun w hw j v hv=>?_⟩⟩
 have hk:0<k:=by
  rcases Nat.eq_zero_or_pos k with h | h
  ·rw [h,Nat.zero_mul] at hl;rw [List.length_eq_zero_iff.1 hl] at hv;simp at hv
  ·exact h
 obtain ⟨F,h⟩:=id hw
 obtain ⟨b,off,_,_,e,_,_⟩:=(hr F h.hG).2 hk
 cases e
 rw [Vb];exact K2 hw hr hk hv
theorem CX {F:Gs} {n c:Nat} {l:List Int} (h:JP F ⟨none,n,c⟩ l):Q4 3 1 (.slice none 0 0) n (l.map Qz) []:=by
 obtain ⟨⟨_,h1⟩,h2,_⟩:=h
 have h0:n=0:=by
  rcases Nat.eq_zero_or_pos n with h | h
  ·exact h
  ·obtain ⟨_,_,_,_,e,_⟩:=h1 h;cases e
 subst h0
 rw [List.length_eq_zero_iff.1 h2];exact .nil
theorem jo (l:List Int):∀ v∈l.map Qz,v.oneCell'=true:=by
 intro v hv
 obtain ⟨x,_,rfl⟩:=List.mem_map.1 hv
 rfl
end
section
variable {w0:World} {F0:Gs} {bs:List (Nat×Obj)} {G:Gs→Prop}
theorem Sh {r:Sr} {l:List Int} (hG:∀ F,G F→JP F r l) (hn:l.length=r.n) (hl:l.length≤1000000000) :
  XA Tryz.prog 133 [r.v] ⟨w0,F0,bs,G⟩ (fun(c:Value×List (Nat×Obj))=>c.1) (fun c=>⟨w0,F0,bs++c.2,fun F=>G F∧Q4 3 1 c.1 r.n (l.map Qz) c.2⟩):=by
 obtain ⟨q,n,c⟩:=r
 dsimp only [Sr.v] at hn ⊢
 refine XA.intro Tryz.func133 rfl (by rfl) rfl rfl<|Sw hG<|QG<|QB<|QA (QE rfl)<|QF<|QD<|QG<|QG<|QB<|QA (QC rfl)<|QA (qu rfl rfl Qe)<|QF<|QD ?_
 refine QO rfl (fun hc=>?_) (fun hc=>?_)
 ·
  obtain rfl:q=none:=by
   cases q with
   |none=>rfl
   |some a=>cases hc
  refine QG<|QB<|QA (QE rfl)<|QF<|QD<|QS ?_
  exact Yz (⟨.slice none 0 0,[]⟩) rfl (.tmp rfl .nil) (rfl) (fun w h=>St.imp h (by simp) (fun F ⟨hG0,hR⟩=>⟨hG0,CX hR⟩))
 ·
  obtain ⟨a,rfl⟩:∃ a,q=some a:=by
   cases q with
   |none=>cases hc
   |some a=>exact⟨a,rfl⟩
  refine QN<|QD<|QG<|QB<|GU (Q8 Qe) Qu (fun b5=>QA (QC rfl)<|ZI (bs':=bs++[(b5,.cells ([]++[]:List Value).toArray 3 (0,0))]) (List.perm_append_comm (l₁:=[_]))<|Kr (ob:=[(b5,.cells ([]++[]:List Value).toArray 3 (0,0))]) (n:=0) (k:=n) (sz:=1) (news:=l.map Qz) rfl rfl Qe Qu Vi rfl DF (.some rfl rfl (Nat.le_refl _) (by decide)) (Src.vY (fun F hG=>hG.2.1) (by simp [hn])) (by omega) (by omega) (jo l) (fun v7 ob7 hr7=>?_))
  rw [Nat.zero_add,List.nil_append] at hr7
  refine QA (QE rfl)<|QF<|QD<|QS ?_
  exact Yz (⟨v7,ob7⟩) rfl (.tmp rfl .nil) (rfl) (fun w h=>St.imp h (List.Sublist.refl _) (fun F ⟨hG0,hR⟩=>⟨hG0,hr7⟩))
end
end
section
open Go.RowKit Ig
structure GX where
 f:List UInt8
 r:Sr
 k:List Int
instance :Inhabited GX:=⟨⟨[],⟨none,0,0⟩,[]⟩⟩
def Wm (t:GX):List Value:=[tx t.f,.slice t.r.q t.r.n t.r.cap]
theorem Vv (t:GX):(Wm t).length=2:=rfl
def Yo (F:Gs) (ts:List GX):Prop:=∀ t∈ts,JP F t.r t.k
theorem Yo.le {F F':Gs} {ts:List GX} (h:Yo F ts) (k:Gs.le F F'):Yo F' ts:=fun t ht=>(h t ht).le k
def qV (t:GX):Tm:=(JA t.f,t.k)
structure kW (ps:List GX) where
 i:Nat
 ts:List XY
 le:i≤ps.length
 hI:K7 ts ((ps.take i).map qV)
theorem OT (l:List Tm) (i:Nat):Zj (l.take i)≤Zj l:=by
 have:=Xi (l.take i) (l.drop i)
 rw [List.take_append_drop] at this;omega
theorem BH {l:List Tm} {t:Tm} (h:t∈l):JX t.1≤Zj l:=by
 induction l with
 |nil=>cases h
 |cons x l ih =>
  have e:Zj (x::l)=JX x.1+1+Zj l:=by unfold Zj;rw [List.map_cons,List.sum_cons]
  rcases List.mem_cons.1 h with rfl | h
  ·omega
  ·have:=ih h;omega
section
variable {P:Program} {w:World} {F:Gs} {f:FuncId} {args:List Value} {γ:Type} {val:γ→Value} {fact:γ→Gs→Prop}
theorem XA.dR [Dr] {G0:Gs→Prop} {E':γ→Env} (h:XA P f args ⟨w,F,[],G0⟩ val E') (hF:Fits F w) (hg:∀ F',Gs.le F F'→G0 F') (he:∀ c w',St (E' c) w'→St ⟨w,F,[],fun F=>fact c F⟩ w'):QT P f args w F val fact:=by
 refine⟨h.1,(h.2 w (St.start hF hg)).mono ?_⟩
 rintro e w' ⟨c,rfl,hw⟩
 obtain ⟨F',h'⟩:=he c w' hw
 exact⟨c,F',rfl,h'.ext,h'.le,h'.old,h'.fits,h'.g⟩
theorem Sg {r:Sr} {l:List Int} (hF:Fits F w) (hR:JP F r l) (hl:l.length≤1000000000):QT Tryz.prog 133 [r.v] w F (fun(c:Sr)=>c.v) (fun c F=>JP F c l):=by
 have h:=Sh (w0:=w) (F0:=F) (bs:=[]) (G:=fun F'=>Gs.le F F') (r:=r) (l:=l) (fun F' h=>hR.le h) hR.2.1 hl
 refine⟨h.1,(h.2 w (St.start hF fun _ h=>h)).mono ?_⟩
 rintro e w' ⟨⟨v,ob⟩,rfl,hw⟩
 obtain ⟨F1,h1⟩:=id hw
 have ho:=(h1.hG).2
 dsimp only at ho hw
 obtain ⟨s,hv,hsn,hsc,hfix⟩:=Q4.fix (w0:=w) (F0:=F) (bs1:=[]) ho
 obtain ⟨F',h'⟩:=hfix w' hw
 exact⟨s,F',by rw [hv],h'.ext,h'.le,h'.old,h'.fits,fun F'' hle=>⟨by rw [hsn];exact(h'.g F'' hle).2,by rw [hsn];exact hR.2.1,by rw [hsn];exact hsc⟩⟩
end
section
theorem q8 {w:World} {F:Gs} {r:Sr} {ps:List GX} (hF:Fits F w) (hGl:JC F) (hR:JF F r.q r.n 2 (ps.flatMap Wm)) (hP:Yo F ps) (hn:ps.length=r.n) (hl:ps.length≤100000) (hv:∀ t∈ps,Qp t.f=0∧t.f.length≤1000000∧PW t.k) (hz:Zj (ps.map qV)≤40000000) :
  QT Tryz.prog 130 [r.v] w F (fun(c:Sr×List XY)=>c.1.v) (fun c F=>Jm F c.1 c.2 (XH (ps.map qV))):=by
 obtain ⟨q,n,cap⟩:=r
 dsimp only [Sr.v] at hn hR ⊢
 refine QT.intro (G:=fun F=>JC F∧JF F q n 2 (ps.flatMap Wm)∧Yo F ps) Tryz.func130 rfl (by rfl) rfl rfl hF (fun F' hF'=>⟨hGl.le hF',hR.le hF',hP.le hF'⟩)<|QG<|QB<|QA (QE rfl)<|QF<|QD<|QG<|QB<|Ve tx (fun m=>QA (QE rfl)<|QF<|QD<|QG<|QG<|QB<|QA (QC rfl)<|QA (Ql rfl Zp)<|QA (QC rfl)<|QF<|QD<|Qa<|Jz (ι:=kW ps) [(3,_),(7,_),(8,_)] (fun i=>[(9,.int .i64 ((i.i:Nat):Int))]) (fun i=>[(m,ZD tx (Ww i.ts))]) (fun i F=>Vk F i.ts) (fun i=>ps.length - i.i) (⟨0,[],Nat.zero_le _,K7.nil⟩) ⟨rfl,rfl,rfl,trivial⟩ ⟨rfl,trivial⟩ (List.Sublist.refl _) (fun _ _ _ h=>by cases h) (fun i=>?_))
 simp only [List.cons_append,List.nil_append]
 have hi:=i.le
 refine QG<|QB<|QA (QU rfl rfl rfl)<|QF<|QD<|QG ?_
 refine QO rfl (fun hc=>?_) (fun hc=>?_)
 ·
  have hlt:i.i<ps.length:=by have:=of_decide_eq_true hc;omega
  have hv1:=hv _ (Je hlt)
  have hz1:=OT (ps.map qV) i.i
  rw [← List.map_take] at hz1
  have hz2:JX (qV (el ps i.i)).1≤Zj (ps.map qV):=BH (List.mem_map_of_mem (Je hlt))
  dsimp only [qV] at hz2
  have hl1:=hv1.2.2.2
  refine QN<|QD<|QG<|Qa<|QG<|QB<|QA (Jc (n:=n) (i.i) (fun F ⟨⟨hGl,hR,hP⟩,hT⟩=>hR) rfl rfl Zp X3 (by omega))<|QA (ZB (n:=n) (vs:=[tx (el ps (i.i)).f,.slice (el ps (i.i)).r.q (el ps (i.i)).r.n (el ps (i.i)).r.cap]) ((i.i)*2) (fun F ⟨⟨hGl,hR,hP⟩,hT⟩=>hR) (by omega) rfl X3 rfl (fun j v hv=>XU (f:=Wm) (l:=ps) Vv (by omega) hv))<|QZ Xm (fun b5=>QP (vs:=[_,_]) rfl rfl rfl X3 rfl .here (.here (.here .nil)) ⟨rfl,rfl,trivial⟩<|QF<|QD<|JQ (.cons_cons _ (.cons _ .slnil)) mixed (by kernel_rfl)<|QM (QC rfl)<|QM (QI rfl By X2)<|QM (Qn rfl X2 .here (.here .nil))<|Qb rfl (fun w F hF ⟨⟨hGl,hR,hP⟩,hT⟩=>Kh hF hGl ((Jq (hv _ (Je hlt)).1).1) (by have:=(hv _ (Je hlt)).2.1;omega)) (fun x16=>QM (QI rfl Wf Qs)<|QM (Qn rfl Qs .here (.skip (.here .nil)))<|Qb rfl (fun w F hF ⟨⟨⟨hGl,hR,hP⟩,hT⟩,_⟩=>Sg hF (r:=(el ps i.i).r) (hP _ (Je hlt)) (by omega)) (fun c19=>AF rfl (List.Perm.swap _ _ _) (BK (r:=c19) (x:=x16) i.hI hv1.2.2 (by omega) (by omega) (fun F ⟨⟨⟨⟨hGl,hR,hP⟩,hT⟩,h16⟩,Bq⟩=>⟨hGl,hT,h16,Bq⟩)) (fun n w h=>St.imp h (.cons _ (List.Sublist.refl _)) (fun F h=>h.1.1.1)) (fun n20=>Gx _ (fun w F hF h=>h.2.2) (fun h20=>?_)))))
  have hI2:K7 (addN i.ts n20) ((ps.take (i.i+1)).map qV):=by
   have:=i.hI.add hv1.2.2 h20
   rw [ZL hlt,List.map_append];exact this
  refine Q3<|Qm<|QD<|QB<|QA (Qw rfl rfl (by omega))<|QA (QC rfl)<|QF ?_
  exact Qo (⟨i.i+1,addN i.ts n20,hlt,hI2⟩) (by show ps.length - (i.i+1)<ps.length - i.i;omega) ⟨rfl,rfl,rfl,rfl,trivial⟩ (.cons_cons _ (.cons _ .slnil)) (fun F h=>⟨h.1.1.1.1,h.2.1⟩)
 ·
  have hge:i.i=ps.length:=by have:=of_decide_eq_false hc;omega
  refine Q6 ?_
  repeat (first | refine Qc ?_ | refine QX (by rfl) ?_)
  refine Qd<|QD<|QG<|QB<|QA (QC rfl) ?_
  have hI:=i.hI
  rw [hge,List.take_length] at hI
  refine XN rfl (List.Perm.refl _) (Gd hI (by have:=hI.ln;rw [List.length_map] at this;omega) (fun F h=>h.2)) (fun c23=>QA (QE rfl)<|QF<|QD<|QS ?_)
  exact QQ (c23) rfl (.tmp rfl .nil) (rfl) (fun F h=>h.2)
end
end
section
open Go.RowKit Ig
abbrev W1:=Sr×List XY
instance :Inhabited W1:=⟨(⟨none,0,0⟩,[])⟩
def U6 (F:Gs) (ls:List W1):Prop:=∀ e∈ls,Jm F e.1 e.2 (JL e.2)
theorem U6.le {F F':Gs} {ls:List W1} (h:U6 F ls) (k:Gs.le F F'):U6 F' ls:=fun e he=>(h e he).le k
def DI (ls:List W1):List Tm:=ls.flatMap fun e=>JL e.2
structure gV (ls:List W1) where
 i:Nat
 ts:List XY
 le:i≤ls.length
 hI:K7 ts (DI (ls.take i))
structure DQ (l0:List Tm) (te:List XY) where
 j:Nat
 ts:List XY
 le:j≤te.length
 hI:K7 ts (l0++JL (te.take j))
theorem Xs {te:List XY} {j:Nat} (h:j<te.length):JL (te.take (j+1))=JL (te.take j)++[(el te j).t]:=by unfold JL;rw [ZL h,List.map_append];rfl
theorem qg {a b c:List Tm} (e:a++b=c):Zj a≤Zj c:=by rw [← e,Xi];omega
theorem L1 {ls:List W1} {i:Nat} (h:i<ls.length):DI (ls.take (i+1))=DI (ls.take i)++JL (el ls i).2:=by unfold DI;rw [ZL h,List.flatMap_append];simp
theorem xG {ls:List W1} {i j:Nat} (h:i<ls.length):Zj (DI (ls.take i)++JL ((el ls i).2.take j))≤Zj (DI ls):=by
 have e1:DI ls=DI (ls.take i)++(JL (el ls i).2++DI (ls.drop (i+1))):=by
  have:ls=ls.take i++el ls i::ls.drop (i+1):=by rw [← MG h,List.take_append_drop]
  unfold DI
  conv=>lhs;rw [this]
  rw [List.flatMap_append,List.flatMap_cons]
 have e2:JL (el ls i).2=JL ((el ls i).2.take j)++JL ((el ls i).2.drop j):=by unfold JL;rw [← List.map_append,List.take_append_drop]
 have h1:=congrArg Zj e1
 have h2:=congrArg Zj e2
 rw [Xi,Xi] at h1
 rw [Xi] at h2
 rw [Xi];omega
theorem zk {w:World} {F:Gs} {p q:W1} (hF:Fits F w) (hGl:JC F) (hP:Jm F p.1 p.2 (JL p.2)) (hQ:Jm F q.1 q.2 (JL q.2)) (hp:(∀ t∈p.2,PW t.t.2)∧∀ t∈q.2,PW t.t.2) (hl:p.2.length≤400000000∧q.2.length≤400000000) (hz:Zj (JL p.2++JL q.2)≤40000000) :
  QT Tryz.prog 139 [p.1.v,q.1.v] w F (fun(c:W1)=>c.1.v) (fun c F=>Jm F c.1 c.2 (XH (JL p.2++JL q.2))):=by
 have hpw:∀ e∈[p,q],(∀ t∈e.2,PW t.t.2)∧e.2.length≤400000000∧e.2.length=e.1.n:=by
  intro e he
  simp only [List.mem_cons,List.not_mem_nil,or_false] at he
  rcases he with rfl | rfl
  ·exact⟨hp.1,hl.1,hP.2.2.2.2⟩
  ·exact⟨hp.2,hl.2,hQ.2.2.2.2⟩
 have hall:DI [p,q]=JL p.2++JL q.2:=by simp [DI]
 rw [← hall] at hz ⊢
 dsimp only [Sr.v]
 refine QT.intro (G:=fun F=>JC F∧U6 F [p,q]) Tryz.func139 rfl (by rfl) rfl rfl hF (fun F' hF'=>⟨hGl.le hF',U6.le (by intro e he;simp only [List.mem_cons,List.not_mem_nil,or_false] at he;rcases he with rfl | rfl;exact hP;exact hQ) hF'⟩)<|QG<|QB<|QA (QE rfl)<|QF<|QD<|QG<|QB<|Ve tx (fun m=>QA (QE rfl)<|QF<|QD<|QG<|QG<|QB<|QA (QC rfl)<|QA (QC rfl)<|QV rfl (Q8 DX) WM OH rfl rfl (fun b13=>QA (Ql rfl DX)<|QA (QC rfl)<|QF<|QD<|Qa<|Jz (ι:=gV [p,q]) [(5,_),(13,_),(14,_)] (fun i=>[(15,.int .i64 ((i.i:Nat):Int))]) (fun i=>[(m,ZD tx (Ww i.ts))]) (fun i F=>Vk F i.ts) (fun i=>2 - i.i) (⟨0,[],Nat.zero_le _,K7.nil⟩) ⟨rfl,rfl,rfl,trivial⟩ ⟨rfl,trivial⟩ (List.Sublist.refl _) (fun _ _ _ h=>by cases h) (fun i=>?_)))
 simp only [List.cons_append,List.nil_append]
 have hi:=i.le
 simp only [List.length_cons,List.length_nil] at hi
 refine QG<|QB<|QA (QU rfl rfl rfl)<|QF<|QD<|QG ?_
 refine QO rfl (fun hc=>?_) (fun hc=>?_)
 ·
  have hlt:i.i<[p,q].length:=by have:=of_decide_eq_true hc;simp only [List.length_cons,List.length_nil];omega
  have hem:=Je hlt
  have hpe:=hpw _ hem
  have hln:=hpe.2.2
  have hln2:=hpe.2.1
  refine QN<|QD<|QG<|Qa<|QG<|QB<|QA (Jc (n:=2) (i.i) (fun F ⟨⟨⟨hGl,hL⟩,hs13⟩,hT⟩=>JF.of (n:=2) (sz:=1) (cs:=[p,q].map fun e=>e.1.v) hs13 rfl) rfl rfl DX WM (by simpa using hlt))<|QA (Ji (n:=2) (i.i*1) (fun F ⟨⟨⟨hGl,hL⟩,hs13⟩,hT⟩=>JF.of (n:=2) (sz:=1) (cs:=[p,q].map fun e=>e.1.v) hs13 rfl) (by decide) rfl WM (NU (f:=fun e:W1=>e.1.v) (l:=[p,q]) hlt))<|QA (QE rfl)<|QF<|QD<|QG<|QB<|QA (QC rfl)<|QA (Ql rfl J1)<|QA (QC rfl)<|QF<|QD<|Qa<|Jz (ι:=DQ (DI ([p,q].take i.i)) (el [p,q] i.i).2) [(5,_),(13,_),(14,_),(15,_),(19,_),(20,_)] (fun i2=>[(21,.int .i64 ((i2.j:Nat):Int))]) (fun i2=>[(m,ZD tx (Ww i2.ts))]) (fun i2 F=>Vk F i2.ts) (fun i2=>(el [p,q] i.i).2.length - i2.j) (⟨0,i.ts,Nat.zero_le _,by simpa [JL] using i.hI⟩) ⟨rfl,rfl,rfl,rfl,rfl,rfl,trivial⟩ ⟨rfl,trivial⟩ (List.Sublist.refl _) (fun _ h=>h.2) (fun i2=>?_)
  simp only [List.cons_append,List.nil_append]
  have hj:=i2.le
  refine QG<|QB<|QA (QU rfl rfl rfl)<|QF<|QD<|QG ?_
  refine QO rfl (fun hc=>?_) (fun hc=>?_)
  ·
   have hlt2:i2.j<(el [p,q] i.i).2.length:=by have:=of_decide_eq_true hc;omega
   have htm:=Je hlt2
   have hz1:=xG (j:=i2.j) hlt
   have hz2:JX (el (el [p,q] i.i).2 i2.j).t.1≤Zj (DI [p,q]):=BH (List.mem_flatMap.2 ⟨_,hem,List.mem_map_of_mem htm⟩)
   refine QN<|QD<|QG<|Qa<|QG<|QB<|QA (Jc (n:=(el [p,q] i.i).1.n) (i2.j) (fun F ⟨⟨⟨⟨hGl,hL⟩,hs13⟩,hT⟩,hT2⟩=>(hL _ hem).1) rfl rfl J1 Jf (by omega))<|QA (ZB (n:=(el [p,q] i.i).1.n) (vs:=[.int .i64 (el (el [p,q] i.i).2 (i2.j)).x.n.s,.slice (el (el [p,q] i.i).2 (i2.j)).x.n.q (el (el [p,q] i.i).2 (i2.j)).x.n.n (el (el [p,q] i.i).2 (i2.j)).x.n.cap,.int .i64 (el (el [p,q] i.i).2 (i2.j)).x.d.s,.slice (el (el [p,q] i.i).2 (i2.j)).x.d.q (el (el [p,q] i.i).2 (i2.j)).x.d.n (el (el [p,q] i.i).2 (i2.j)).x.d.cap,.slice (el (el [p,q] i.i).2 (i2.j)).r.q (el (el [p,q] i.i).2 (i2.j)).r.n (el (el [p,q] i.i).2 (i2.j)).r.cap]) ((i2.j)*5) (fun F ⟨⟨⟨⟨hGl,hL⟩,hs13⟩,hT⟩,hT2⟩=>(hL _ hem).1) (by omega) rfl Jf rfl (fun j v hv=>XU (f:=Yl) (l:=(el [p,q] i.i).2) YS (by omega) hv))<|QZ Ze (fun b9=>QP (vs:=[_,_,_,_,_]) rfl rfl rfl Jf rfl .here (.here (.here (.here (.here (.here .nil))))) ⟨rfl,rfl,rfl,rfl,rfl,trivial⟩<|QF<|QD<|QB<|QA (QC rfl)<|QA (QI rfl YC Qg)<|QA (QL (vs:=[_,_,_,_]) rfl Qg .here (.here (.here (.here (.here .nil)))) rfl)<|QA (QI rfl ZE Qs)<|QA (Qn rfl Qs .here (.skip (.skip (.skip (.skip (.here .nil))))))<|XN rfl (List.Perm.swap _ _ _) (BK (r:=(el (el [p,q] i.i).2 i2.j).r) (x:=(el (el [p,q] i.i).2 i2.j).x) i2.hI (hpe.1 _ htm) (by omega) (by omega) (fun F ⟨⟨⟨⟨hGl,hL⟩,hs13⟩,hT⟩,hT2⟩=>⟨hGl,hT2,((hL _ hem).2.1 _ htm).1,((hL _ hem).2.1 _ htm).2⟩)) (fun n30=>JK _ (fun w F hF h=>h.2.2) (fun h30=>QF<|Qm<|QD<|QB<|QA (Qw rfl rfl (by omega)) ?_)))
   refine QA (QC rfl)<|QF ?_
   exact Qo (⟨i2.j+1,addN i2.ts n30,hlt2,by rw [Xs hlt2,← List.append_assoc];exact i2.hI.add (hpe.1 _ htm) h30⟩) (by show _ - (i2.j+1)<_ - i2.j;omega) ⟨rfl,rfl,rfl,rfl,rfl,rfl,rfl,trivial⟩ (.cons_cons _ (.cons _ .slnil)) (fun F h=>⟨h.1.1,h.2.1⟩)
  ·
   have hge2:i2.j=(el [p,q] i.i).2.length:=by have:=of_decide_eq_false hc;omega
   refine Q6 ?_
   repeat (first | refine Qc ?_ | refine QX (by rfl) ?_)
   refine Qd<|Qm<|QD<|QB<|QA (Qw rfl rfl (by omega))<|QA (QC rfl)<|QF ?_
   exact Qo (⟨i.i+1,i2.ts,hlt,by rw [L1 hlt];have:=i2.hI;rw [hge2,List.take_length] at this;exact this⟩) (by show 2 - (i.i+1)<2 - i.i;simp only [List.length_cons,List.length_nil] at hlt;omega) ⟨rfl,rfl,rfl,rfl,trivial⟩ (List.Sublist.refl _) (fun F h=>⟨h.1.1,h.2⟩)
 ·
  have hge:i.i=[p,q].length:=by have:=of_decide_eq_false hc;simp only [List.length_cons,List.length_nil];omega
  refine Q6 ?_
  repeat (first | refine Qc ?_ | refine QX (by rfl) ?_)
  refine Qd<|QD<|QG<|QB<|QA (QC rfl) ?_
  have hI:=i.hI
  rw [hge,List.take_length] at hI
  refine XN rfl (List.Perm.refl _) (Gd hI (by have:=hI.ln;rw [hall,List.length_append] at this;simp only [JL,List.length_map] at this;omega) (fun F h=>h.2)) (fun c34=>QA (QE rfl)<|QF<|QD<|QS ?_)
  exact QQ (c34) rfl (.tmp rfl .nil) (rfl) (fun F h=>h.2)
end
section
open Go.RowKit Ig
section
variable {P:Program} {Q:Exit→Act→World→Prop} {N:Nat} {m:Sl} {E0:Env} {ops:Array Oper} {l:List Oper} {w0:World} {F0:Gs} {bs:List (Nat×Obj)} {G:Gs→Prop}
theorem Mf [Dr] {bs':List (Nat×Obj)} (hp:bs.Perm bs') (k:JD P ops Q E0 l N m ⟨w0,F0,bs',G⟩):JD P ops Q E0 l N m ⟨w0,F0,bs,G⟩:=fun hE a w ha hw=>k (fun w h=>hE w (h.perm hp.symm)) a w ha (hw.perm hp)
end
def WO (a:Rat) (l:List Tm):List Tm:=if a=0 then [] else l.map fun t=>(t.1*a,t.2)
structure gD (a:Rat) (ts:List XY) where
 i:Nat
 v:Value
 ob:List (Nat×Obj)
 out:List XY
 le:i≤ts.length
 hr:Q4 165 5 v i (out.flatMap Yl) ob
 ho:JL out=(JL (ts.take i)).map fun t=>(t.1*a,t.2)
theorem jJ {a:Rat} {ts out:List XY} {i:Nat} (hi:i≤ts.length) (h:JL out=(JL (ts.take i)).map fun t=>(t.1*a,t.2)):out.length=i:=by
 have:=congrArg List.length h
 simp only [JL,List.length_map,List.length_take] at this
 omega
theorem CC {w:World} {F:Gs} {p:W1} {x:Fr} {a:Rat} (hF:Fits F w) (hP:Jm F p.1 p.2 (JL p.2)) (hA:JV F x a) (hl:p.2.length≤1000000) (ha:JX a≤40000000) (hz:Zj (JL p.2)≤40000000) :
  QT Tryz.prog 183 [p.1.v,x.v] w F (fun(c:W1)=>c.1.v) (fun c F=>Jm F c.1 c.2 (WO a (JL p.2))):=by
 obtain ⟨⟨q,n,cap⟩,ts⟩:=p
 have hln:ts.length=n:=hP.2.2.2.2
 dsimp only [Sr.v,Fr.v] at hP hl hz ⊢
 refine QT.intro (G:=fun F=>Jm F ⟨q,n,cap⟩ ts (JL ts)∧JV F x a) Tryz.func183 rfl (by rfl) rfl rfl hF (fun F' hF'=>⟨hP.le hF',hA.le hF'⟩)<|QG<|QB<|Q5 rfl (vs:=[_,_,_,_]) rfl (fun b3=>QA (QE rfl)<|QF<|QD<|QG<|QG<|QB<|QA (QL (vs:=[_,_,_,_]) rfl Qg .here (.here (.here (.here (.here .nil)))) rfl)<|QH rfl (fun w F hF ⟨hP,⟨hxn,hxd⟩⟩=>Gl hF ⟨by assumption,by assumption⟩) (fun _=>QA (QU rfl rfl rfl)<|QF<|QD ?_))
 refine QO rfl (fun hc=>?_) (fun hc=>?_)
 ·
  have ha0:a=0:=BR.1 (by simpa using hc)
  refine QG<|QB<|QA (QE rfl)<|QF<|QD<|QS ?_
  exact QQ ((⟨none,0,0⟩,[])) rfl (.tmp rfl .nil) (rfl) (fun F ⟨⟨hP,⟨hxn,hxd⟩⟩,_⟩=>⟨JF.nil F none 5,(fun _ h=>by cases h),by unfold WO;rw [if_pos ha0];rfl,Nat.le_refl _,rfl⟩)
 ·
  have ha0:a≠0:=fun e=>by rw [e] at hc;cases hc
  refine QN<|QD<|QG<|QB<|QA (QE rfl)<|QF<|QD<|QG<|QG<|QB<|QA (QC rfl)<|QA (Ql rfl J1)<|QA (QC rfl)<|QF<|QD<|Qa<|Jz (ι:=gD a ts) [(3,_),(11,_),(12,_)] (fun i=>[(5,i.v),(13,.int .i64 ((i.i:Nat):Int))]) (fun i=>(b3,.cells [.int .i64 x.n.s,.slice x.n.q x.n.n x.n.cap,.int .i64 x.d.s,.slice x.d.q x.d.n x.d.cap].toArray 130 (0,0))::i.ob) (fun i F=>Vk F i.out) (fun i=>ts.length - i.i) (⟨0,_,[],[],Nat.zero_le _,.nil,by simp [JL]⟩) ⟨rfl,rfl,rfl,trivial⟩ ⟨rfl,rfl,trivial⟩ (List.Sublist.refl _) (fun _ _ _ h=>by cases h) (fun i=>?_)
  simp only [List.cons_append,List.nil_append]
  have hi:=i.le
  refine QG<|QB<|QA (QU rfl rfl rfl)<|QF<|QD<|QG ?_
  refine QO rfl (fun hc=>?_) (fun hc=>?_)
  ·
   have hlt:i.i<ts.length:=by have:=of_decide_eq_true hc;omega
   have htm:=Je hlt
   have hz2:JX (el ts i.i).t.1≤Zj (JL ts):=BH (List.mem_map_of_mem htm)
   refine QN<|QD<|QG<|Qa<|QG<|QB<|QA (Jc (n:=n) (i.i) (fun F ⟨⟨⟨hP,⟨hxn,hxd⟩⟩,_⟩,hT⟩=>(hP).1) rfl rfl J1 Jf (by omega))<|QA (ZB (n:=n) (vs:=[.int .i64 (el ts (i.i)).x.n.s,.slice (el ts (i.i)).x.n.q (el ts (i.i)).x.n.n (el ts (i.i)).x.n.cap,.int .i64 (el ts (i.i)).x.d.s,.slice (el ts (i.i)).x.d.q (el ts (i.i)).x.d.n (el ts (i.i)).x.d.cap,.slice (el ts (i.i)).r.q (el ts (i.i)).r.n (el ts (i.i)).r.cap]) ((i.i)*5) (fun F ⟨⟨⟨hP,⟨hxn,hxd⟩⟩,_⟩,hT⟩=>(hP).1) (by omega) rfl Jf rfl (fun j v hv=>XU (f:=Yl) (l:=ts) YS (by omega) hv))<|QZ Ze (fun b7=>QP (vs:=[_,_,_,_,_]) rfl rfl rfl Jf rfl .here (.here (.here (.here (.here (.here .nil))))) ⟨rfl,rfl,rfl,rfl,rfl,trivial⟩<|QF<|QD<|JQ (.cons_cons _ (.cons_cons _ (List.nil_sublist _))) mixed (by kernel_rfl)<|QM (QC rfl)<|QM (QI rfl YC Qg)<|QM (QL (vs:=[_,_,_,_]) rfl Qg .here (.here (.here (.here (.here .nil)))) rfl)<|QM (QL (vs:=[_,_,_,_]) rfl Qg (.there .here) (.here (.here (.here (.here .nil)))) rfl)<|Qb rfl (fun w F hF ⟨⟨⟨hP,⟨hxn,hxd⟩⟩,_⟩,hT⟩=>KC hF (hP.2.1 _ htm |>.1) ⟨by assumption,by assumption⟩ (by omega) (by omega)) (fun x21=>QM (QI rfl ZE Qs)<|QM (Qn rfl Qs .here (.skip (.skip (.skip (.skip (.here .nil))))))<|QM (Q9 rfl ND Ze (.cons (vs:=[_,_,_,_]) rfl rfl rfl (.here (.here (.here (.here .nil)))) (.cons (vs:=[_]) rfl rfl rfl (.skip (.skip (.skip (.skip (.here .nil))))) .nil))) ?_))
   refine Ju rfl (Q8 J1) Jf Ze rfl rfl (fun b25=>?_) (fun w h=>h.imp (.cons_cons _ (.cons_cons _ (List.nil_sublist _))) (fun F h=>h.1))
   refine Mf (List.perm_append_comm (l₁:=[_,_])) ?_
   refine D3 (n:=i.i) (k:=1) (sz:=5) (news:=Yl ⟨x21,(el ts i.i).r,((el ts i.i).t.1*a,(el ts i.i).t.2)⟩) rfl rfl J1 Jf Ze rfl Ff i.hr (Src.row (off:=0) (fun F ⟨⟨⟨⟨⟨hP,⟨hxn,hxd⟩⟩,_⟩,hT⟩,⟨h21,h21_⟩⟩,hs25⟩=>hs25) (fun j v hv=>by rw [Nat.zero_add];show((Yl ⟨x21,(el ts i.i).r,((el ts i.i).t.1*a,(el ts i.i).t.2)⟩).toArray)[j]?=some v;rw [List.getElem?_toArray];exact hv) rfl) (by omega) (by omega) (R8 _) (List.Sublist.refl _) (fun _ h=>h.1.1) (fun v26 ob26 hr26=>?_)
   refine Mf (List.perm_append_comm (l₂:=[_,_]))<|QM (QE rfl)<|Q3<|Qm<|QD<|QB<|QA (Qw rfl rfl (by omega))<|QA (QC rfl)<|QF ?_
   exact Qo (⟨i.i+1,v26,ob26,i.out++[⟨x21,(el ts i.i).r,((el ts i.i).t.1*a,(el ts i.i).t.2)⟩],hlt,by rw [List.flatMap_append];simpa using hr26,by rw [Xs hlt,List.map_append,← i.ho];simp [JL]⟩) (by show ts.length - (i.i+1)<ts.length - i.i;omega) ⟨rfl,rfl,rfl,rfl,rfl,trivial⟩ (.cons _ (List.Sublist.refl _)) (fun F ⟨⟨⟨hB,hT⟩,⟨h21,h21_⟩⟩,_⟩=>⟨hB,fun t ht=>by
   rcases List.mem_append.1 ht with ht | ht
   ·exact hT t ht
   ·rw [List.mem_singleton.1 ht];exact⟨⟨h21,h21_⟩,(hB.1.1.2.1 _ htm).2⟩⟩)
  ·
   have hge:i.i=ts.length:=by have:=of_decide_eq_false hc;omega
   refine Q6 ?_
   repeat (first | refine Qc ?_ | refine QX (by rfl) ?_)
   refine Qd<|QD<|QG<|QB ?_
   obtain ⟨r,hv,hrn,hrc,hfix⟩:=Q4.fix (w0:=w) (F0:=F) (bs1:=[_]) (G:=_) i.hr
   refine D1 hfix ?_
   rw [hv]
   refine QA (QC rfl)<|QA (QE rfl)<|QF<|QD<|QS ?_
   exact QQ ((r,i.out)) rfl (.tmp rfl .nil) (rfl) (fun F ⟨⟨⟨⟨hP,_⟩,_⟩,hT⟩,hrow⟩=>⟨by rw [hrn];exact hrow,hT,by unfold WO;rw [if_neg ha0,i.ho,hge,List.take_length],by rw [hrn];exact hrc,by rw [hrn];exact jJ hi i.ho⟩)
end
section
open Go.RowKit Ig
abbrev Pt:=List (List UInt8×List Int)
def XG (ts:List GX):Pt:=ts.map fun t=>(t.f,t.k)
def D8 (l:List Tm):Pt:=l.map fun t=>(JJ t.1,t.2)
def Vh (F:Gs) (s:Sr) (ts:List GX) (p:Pt):Prop:=JF F s.q s.n 2 (ts.flatMap Wm)∧Yo F ts∧XG ts=p∧s.n≤s.cap∧ts.length=s.n
theorem Vh.le {F F':Gs} {s:Sr} {ts:List GX} {p:Pt} (h:Vh F s ts p) (k:Gs.le F F'):Vh F' s ts p:=⟨h.1.le k,h.2.1.le k,h.2.2⟩
abbrev VF:=Sr×List GX
theorem xC (t:GX):∀ v∈Wm t,v.oneCell'=true:=by
 intro v hv
 unfold Wm at hv
 simp only [List.mem_cons,List.not_mem_nil,or_false] at hv
 rcases hv with rfl | rfl<;>rfl
structure gA (ts:List XY) where
 i:Nat
 v:Value
 ob:List (Nat×Obj)
 out:List GX
 le:i≤ts.length
 hr:Q4 122 2 v i (out.flatMap Wm) ob
 ho:XG out=D8 (JL (ts.take i))
theorem yY {ts:List XY} {out:List GX} {i:Nat} (hi:i≤ts.length) (h:XG out=D8 (JL (ts.take i))):out.length=i:=by
 have:=congrArg List.length h
 simp only [XG,D8,JL,List.length_map,List.length_take] at this
 omega
theorem qz {w:World} {F:Gs} {p:W1} (hF:Fits F w) (hGl:JC F) (hP:Jm F p.1 p.2 (JL p.2)) (hp:∀ t∈p.2,PW t.t.2) (hl:p.2.length≤1000000) (hz:∀ t∈p.2,JX t.t.1≤100000000) :
  QT Tryz.prog 221 [p.1.v] w F (fun(c:VF)=>c.1.v) (fun c F=>Vh F c.1 c.2 (D8 (JL p.2))):=by
 obtain ⟨⟨q,n,cap⟩,ts⟩:=p
 have hln:ts.length=n:=hP.2.2.2.2
 dsimp only [Sr.v] at hP hl hz ⊢
 refine QT.intro (G:=fun F=>JC F∧Jm F ⟨q,n,cap⟩ ts (JL ts)) Tryz.func221 rfl (by rfl) rfl rfl hF (fun F' hF'=>⟨hGl.le hF',hP.le hF'⟩)<|QG<|QB<|QA (QE rfl)<|QF<|QD<|QG<|QB<|QA (QE rfl)<|QF<|QD<|QG<|QG<|QB<|QA (QC rfl)<|QA (Ql rfl J1)<|QA (QC rfl)<|QF<|QD<|Qa<|Jz (ι:=gA ts) [(6,_),(7,_)] (fun i=>[(3,i.v),(8,.int .i64 ((i.i:Nat):Int))]) (fun i=>i.ob) (fun i F=>Yo F i.out) (fun i=>ts.length - i.i) (⟨0,_,[],[],Nat.zero_le _,.nil,by simp [JL,XG,D8]⟩) ⟨rfl,rfl,trivial⟩ ⟨rfl,rfl,trivial⟩ (List.Sublist.refl _) (fun _ _ _ h=>by cases h) (fun i=>?_)
 simp only [List.cons_append,List.nil_append]
 have hi:=i.le
 refine QG<|QB<|QA (QU rfl rfl rfl)<|QF<|QD<|QG ?_
 refine QO rfl (fun hc=>?_) (fun hc=>?_)
 ·
  have hlt:i.i<ts.length:=by have:=of_decide_eq_true hc;omega
  have htm:=Je hlt
  refine QN<|QD<|QG<|Qa<|QG<|QB<|QA (Jc (n:=n) (i.i) (fun F ⟨⟨hGl,hP⟩,hT⟩=>(hP).1) rfl rfl J1 Jf (by omega))<|QA (ZB (n:=n) (vs:=[.int .i64 (el ts (i.i)).x.n.s,.slice (el ts (i.i)).x.n.q (el ts (i.i)).x.n.n (el ts (i.i)).x.n.cap,.int .i64 (el ts (i.i)).x.d.s,.slice (el ts (i.i)).x.d.q (el ts (i.i)).x.d.n (el ts (i.i)).x.d.cap,.slice (el ts (i.i)).r.q (el ts (i.i)).r.n (el ts (i.i)).r.cap]) ((i.i)*5) (fun F ⟨⟨hGl,hP⟩,hT⟩=>(hP).1) (by omega) rfl Jf rfl (fun j v hv=>XU (f:=Yl) (l:=ts) YS (by omega) hv))<|QZ Ze (fun b5=>QP (vs:=[_,_,_,_,_]) rfl rfl rfl Jf rfl .here (.here (.here (.here (.here (.here .nil))))) ⟨rfl,rfl,rfl,rfl,rfl,trivial⟩<|QF<|QD<|JQ (.cons_cons _ (List.nil_sublist _)) mixed (by kernel_rfl)<|QM (QC rfl)<|QM (QI rfl YC Qg)<|QM (QL (vs:=[_,_,_,_]) rfl Qg .here (.here (.here (.here (.here .nil)))) rfl)<|Qb rfl (fun w F hF ⟨⟨hGl,hP⟩,hT⟩=>ME hF hGl (hP.2.1 _ htm |>.1) (hz _ htm)) (fun _=>QM (QI rfl ZE Qs)<|QM (Qn rfl Qs .here (.skip (.skip (.skip (.skip (.here .nil))))))<|Qb rfl (fun w F hF ⟨⟨⟨hGl,hP⟩,hT⟩,_⟩=>Sg hF (r:=(el ts i.i).r) (hP.2.1 _ htm).2 (by have:=(hp _ htm).2;omega)) (fun c18=>QM (Q9 rfl ZP Xm (.cons (vs:=[_]) rfl rfl rfl (.here .nil) (.cons (vs:=[_]) rfl rfl rfl (.skip (.here .nil)) .nil))) ?_)))
  refine Ju rfl (Q8 Zp) X3 Xm rfl rfl (fun b20=>?_) (fun w h=>h.imp (.cons_cons _ (List.nil_sublist _)) (fun F h=>h.1.1))
  refine Mf (List.perm_append_comm (l₁:=[_])) ?_
  refine D3 (n:=i.i) (k:=1) (sz:=2) (news:=Wm ⟨JJ (el ts i.i).t.1,c18,(el ts i.i).t.2⟩) rfl rfl Zp X3 Xm rfl yU i.hr (Src.row (off:=0) (fun F ⟨⟨⟨⟨⟨hGl,hP⟩,hT⟩,_⟩,h18⟩,hs20⟩=>hs20) (fun j v hv=>by rw [Nat.zero_add];show((Wm ⟨JJ (el ts i.i).t.1,c18,(el ts i.i).t.2⟩).toArray)[j]?=some v;rw [List.getElem?_toArray];exact hv) rfl) (by omega) (by omega) (xC _) (List.Sublist.refl _) (fun _ h=>h.1.1.1) (fun v21 ob21 hr21=>?_)
  refine Mf (List.perm_append_comm (l₂:=[_]))<|QM (QE rfl)<|Q3<|Qm<|QD<|QB<|QA (Qw rfl rfl (by omega))<|QA (QC rfl)<|QF ?_
  exact Qo (⟨i.i+1,v21,ob21,i.out++[⟨JJ (el ts i.i).t.1,c18,(el ts i.i).t.2⟩],hlt,by rw [List.flatMap_append];simpa using hr21,by unfold XG D8;rw [Xs hlt,List.map_append,List.map_append];have:=i.ho;unfold XG D8 at this;rw [this];rfl⟩) (by show ts.length - (i.i+1)<ts.length - i.i;omega) ⟨rfl,rfl,rfl,rfl,trivial⟩ (.cons _ (List.Sublist.refl _)) (fun F ⟨⟨⟨⟨hB,hT⟩,_⟩,h18⟩,_⟩=>⟨hB,fun t ht=>by
   rcases List.mem_append.1 ht with ht | ht
   ·exact hT t ht
   ·rw [List.mem_singleton.1 ht];exact h18⟩)
 ·
  have hge:i.i=ts.length:=by have:=of_decide_eq_false hc;omega
  refine Q6 ?_
  repeat (first | refine Qc ?_ | refine QX (by rfl) ?_)
  refine Qd<|QD<|QG<|QB ?_
  obtain ⟨r,hv,hrn,hrc,hfix⟩:=Q4.fix (w0:=w) (F0:=F) (bs1:=[]) (G:=_) i.hr
  refine D1 hfix ?_
  rw [hv]
  refine QA (QC rfl)<|QA (QE rfl)<|QF<|QD<|QS ?_
  exact QQ ((r,i.out)) rfl (.tmp rfl .nil) (rfl) (fun F ⟨⟨_,hT⟩,hrow⟩=>⟨by rw [hrn];exact hrow,hT,by rw [i.ho,hge,List.take_length],by rw [hrn];exact hrc,by rw [hrn];exact yY hi i.ho⟩)
end
section
open Go.RowKit Ig
theorem Q4.pos {T:TypeId} {sz n:Nat} {v:Value} {cs:List Value} {ob:List (Nat×Obj)} (h:Q4 T sz v n cs ob) (hn:0<n):∃ b cap rest,v = .slice (Option.some ⟨b,0,Option.none⟩) n cap∧ob=[(b,.cells (cs++rest).toArray T (0,0))]∧cs.length=n*sz∧cs.length+rest.length=cap*sz∧n≤cap∧cap≤maxLen:=by
 cases h with
 |nil=>omega
 |some h1 h2 h3 h4=>exact⟨_,_,_,rfl,rfl,h1,h2,h3,h4⟩
structure dI (p q:List XY) where
 i:Nat
 ts:List XY
 le:i≤p.length
 hI:K7 ts (Jh (JL (p.take i)) (JL q))
structure dK (l0:List Tm) (s:Tm) (q:List XY) where
 j:Nat
 ts:List XY
 le:j≤q.length
 hI:K7 ts (l0++XZ s (JL (q.take j)))
structure dJ (n:Nat) (a b:List Int) where
 k:Nat
 L:List Int
 v:Value
 ob:List (Nat×Obj)
 le:k≤b.length
 hr:Q4 3 1 v n (L.map Qz) ob
 hL:L=Xq (a.take k) (b.take k)++a.drop k
theorem L5 {a b:List Int} {k:Nat} (h1:k<a.length) (h2:k<b.length):(Xq (a.take k) (b.take k)++a.drop k).set k (Qf a k+Qf b k)=Xq (a.take (k+1)) (b.take (k+1))++a.drop (k+1):=by
 have hl:(Xq (a.take k) (b.take k)).length=k:=by unfold Xq;rw [List.length_zipWith,List.length_take,List.length_take];omega
 have hs:Xq (a.take (k+1)) (b.take (k+1))=Xq (a.take k) (b.take k)++[Qf a k+Qf b k]:=by
  rw [ZL h1,ZL h2,X9 h1,X9 h2]
  unfold Xq
  rw [List.zipWith_append (by rw [List.length_take,List.length_take];omega)];rfl
 rw [hs,MG h1,List.set_append_right _ _ (by omega),hl,Nat.sub_self]
 simp
theorem U2 {a b:List Int} {k:Nat} (h1:k<a.length) (h2:k<b.length):Qf (Xq (a.take k) (b.take k)++a.drop k) k=Qf a k:=by
 have hl:(Xq (a.take k) (b.take k)).length=k:=by unfold Xq;rw [List.length_zipWith,List.length_take,List.length_take];omega
 have h3:k<(Xq (a.take k) (b.take k)++a.drop k).length:=by rw [List.length_append,hl,List.length_drop];omega
 rw [X9 h3,X9 h1,Zi h3,Zi h1,List.getElem_append_right (by omega)]
 simp [hl]
theorem NC {p q:List XY} {i:Nat} (h:i<p.length):Jh (JL (p.take (i+1))) (JL q)=Jh (JL (p.take i)) (JL q)++XZ (el p i).t (JL q):=by
 rw [Xs h,Bb];congr 1;simp [Jh]
theorem CE {p q:List XY} {i j:Nat} (h:i<p.length):Zj (Jh (JL (p.take i)) (JL q)++XZ (el p i).t (JL (q.take j)))≤Zj (Jh (JL p) (JL q)):=by
 have e1:JL p=JL (p.take (i+1))++JL (p.drop (i+1)):=by unfold JL;rw [← List.map_append,List.take_append_drop]
 have e2:JL q=JL (q.take j)++JL (q.drop j):=by unfold JL;rw [← List.map_append,List.take_append_drop]
 have h1:Zj (Jh (JL p) (JL q))=Zj (Jh (JL (p.take (i+1))++JL (p.drop (i+1))) (JL q)):=by rw [← e1]
 rw [Bb,NC h,Xi,Xi] at h1
 have h2:Zj (XZ (el p i).t (JL q))=Zj (XZ (el p i).t (JL (q.take j)++JL (q.drop j))):=by rw [← e2]
 rw [HH,Xi] at h2
 rw [Xi];omega
theorem P0 (p q:List Tm):(Jh p q).length=p.length*q.length:=by
 induction p with
 |nil=>simp [Jh]
 |cons s p ih=>rw [WY,List.length_append,ih,List.length_cons,Nat.add_mul];simp [XZ];omega
theorem zz {a b:Nat} (h:a≤10000) (k:b≤10000):a*b≤100000000:=Nat.mul_le_mul h k
theorem zf {w:World} {F:Gs} {p q:W1} {N:Nat} (hF:Fits F w) (hGl:JC F) (hP:Jm F p.1 p.2 (JL p.2)) (hQ:Jm F q.1 q.2 (JL q.2)) (hw:(∀ t∈p.2,t.t.2.length=N)∧∀ t∈q.2,t.t.2.length=N) (hN:N≤1000) (hl:p.2.length≤10000∧q.2.length≤10000)
  (hpw:(∀ t∈p.2,PW t.t.2)∧(∀ t∈q.2,PW t.t.2)∧∀ s∈p.2,∀ t∈q.2,PW (Xq s.t.2 t.t.2)) (hz1:Zj (JL p.2)≤20000000∧Zj (JL q.2)≤20000000) (hz:Zj (Jh (JL p.2) (JL q.2))≤40000000) :
  QT Tryz.prog 223 [p.1.v,q.1.v] w F (fun(c:W1)=>c.1.v) (fun c F=>Jm F c.1 c.2 (XH (Jh (JL p.2) (JL q.2)))):=by
 have hpn:=hP.2.2.2.2
 have hqn:=hQ.2.2.2.2
 dsimp only [Sr.v]
 refine QT.intro (G:=fun F=>JC F∧Jm F p.1 p.2 (JL p.2)∧Jm F q.1 q.2 (JL q.2)) Tryz.func223 rfl (by rfl) rfl rfl hF (fun F' hF'=>⟨hGl.le hF',hP.le hF',hQ.le hF'⟩)<|QG<|QB<|QA (QE rfl)<|QF<|QD<|QG<|QB<|Ve tx (fun m=>QA (QE rfl)<|QF<|QD<|QG<|QG<|QB<|QA (QC rfl)<|QA (Ql rfl J1)<|QA (QC rfl)<|QF<|QD<|Qa<|Jz (ι:=dI p.2 q.2) [(1,_),(5,_),(14,_),(15,_)] (fun i=>[(16,.int .i64 ((i.i:Nat):Int))]) (fun i=>[(m,ZD tx (Ww i.ts))]) (fun i F=>Vk F i.ts) (fun i=>p.2.length - i.i) (⟨0,[],Nat.zero_le _,K7.nil⟩) ⟨rfl,rfl,rfl,rfl,trivial⟩ ⟨rfl,trivial⟩ (List.Sublist.refl _) (fun _ _ _ h=>by cases h) (fun i=>?_))
 simp only [List.cons_append,List.nil_append]
 have hi:=i.le
 refine QG<|QB<|QA (QU rfl rfl rfl)<|QF<|QD<|QG ?_
 refine QO rfl (fun hc=>?_) (fun hc=>?_)
 ·
  have hlt:i.i<p.2.length:=by have:=of_decide_eq_true hc;omega
  have hta:=Je hlt
  have hna:=hw.1 _ hta
  have hra:=(hP.2.1 _ hta).2.2.1
  refine QN<|QD<|QG<|Qa<|QG<|QB<|QA (Jc (n:=p.1.n) (i.i) (fun F ⟨⟨hGl,hP,hQ⟩,hT⟩=>(hP).1) rfl rfl J1 Jf (by omega))<|QA (ZB (n:=p.1.n) (vs:=[.int .i64 (el p.2 (i.i)).x.n.s,.slice (el p.2 (i.i)).x.n.q (el p.2 (i.i)).x.n.n (el p.2 (i.i)).x.n.cap,.int .i64 (el p.2 (i.i)).x.d.s,.slice (el p.2 (i.i)).x.d.q (el p.2 (i.i)).x.d.n (el p.2 (i.i)).x.d.cap,.slice (el p.2 (i.i)).r.q (el p.2 (i.i)).r.n (el p.2 (i.i)).r.cap]) ((i.i)*5) (fun F ⟨⟨hGl,hP,hQ⟩,hT⟩=>(hP).1) (by omega) rfl Jf rfl (fun j v hv=>XU (f:=Yl) (l:=p.2) YS (by omega) hv))<|QZ Ze (fun b7=>QP (vs:=[_,_,_,_,_]) rfl rfl rfl Jf rfl .here (.here (.here (.here (.here (.here .nil))))) ⟨rfl,rfl,rfl,rfl,rfl,trivial⟩<|QF<|QD<|QG<|QB<|QA (QC rfl)<|QA (Ql rfl J1)<|QA (QC rfl)<|QF<|QD<|Qa<|Jz (ι:=dK (Jh (JL (p.2.take i.i)) (JL q.2)) (el p.2 i.i).t q.2) [(1,_),(5,_),(7,_),(14,_),(15,_),(16,_),(20,_),(21,_)] (fun i2=>[(22,.int .i64 ((i2.j:Nat):Int))]) (fun i2=>[(b7,.cells (Yl (el p.2 i.i)).toArray 165 (0,0)),(m,ZD tx (Ww i2.ts))]) (fun i2 F=>Vk F i2.ts) (fun i2=>q.2.length - i2.j) (⟨0,i.ts,Nat.zero_le _,by simpa [JL,XZ] using i.hI⟩) ⟨rfl,rfl,rfl,rfl,rfl,rfl,rfl,rfl,trivial⟩ ⟨rfl,trivial⟩ (List.Sublist.refl _) (fun _ h=>h.2) (fun i2=>?_))
  simp only [List.cons_append,List.nil_append]
  have hj:=i2.le
  refine QG<|QB<|QA (QU rfl rfl rfl)<|QF<|QD<|QG ?_
  refine QO rfl (fun hc=>?_) (fun hc=>?_)
  ·
   have hlt2:i2.j<q.2.length:=by have:=of_decide_eq_true hc;omega
   have htb:=Je hlt2
   have hnb:=hw.2 _ htb
   have hrb:=(hQ.2.1 _ htb).2.2.1
   have hzz:=CE (q:=q.2) (j:=i2.j) hlt
   have hza:JX (el p.2 i.i).t.1≤Zj (JL p.2):=BH (List.mem_map_of_mem hta)
   have hzb:JX (el q.2 i2.j).t.1≤Zj (JL q.2):=BH (List.mem_map_of_mem htb)
   refine QN<|QD<|QG<|Qa<|QG<|QB<|QA (Jc (n:=q.1.n) (i2.j) (fun F ⟨⟨⟨hGl,hP,hQ⟩,hT⟩,hT2⟩=>(hQ).1) rfl rfl J1 Jf (by omega))<|QA (ZB (n:=q.1.n) (vs:=[.int .i64 (el q.2 (i2.j)).x.n.s,.slice (el q.2 (i2.j)).x.n.q (el q.2 (i2.j)).x.n.n (el q.2 (i2.j)).x.n.cap,.int .i64 (el q.2 (i2.j)).x.d.s,.slice (el q.2 (i2.j)).x.d.q (el q.2 (i2.j)).x.d.n (el q.2 (i2.j)).x.d.cap,.slice (el q.2 (i2.j)).r.q (el q.2 (i2.j)).r.n (el q.2 (i2.j)).r.cap]) ((i2.j)*5) (fun F ⟨⟨⟨hGl,hP,hQ⟩,hT⟩,hT2⟩=>(hQ).1) (by omega) rfl Jf rfl (fun j v hv=>XU (f:=Yl) (l:=q.2) YS (by omega) hv))<|QZ Ze (fun b9=>QP (vs:=[_,_,_,_,_]) rfl rfl rfl Jf rfl .here (.here (.here (.here (.here (.here .nil))))) ⟨rfl,rfl,rfl,rfl,rfl,trivial⟩<|QF<|QD<|QG<|QB<|QA (QI rfl ZE Qs)<|QA (Qn rfl Qs (.there .here) (.skip (.skip (.skip (.skip (.here .nil))))))<|XN rfl (List.Perm.refl _) (Sh (r:=(el p.2 i.i).r) (l:=(el p.2 i.i).t.2) (fun F ⟨⟨⟨hGl,hP,hQ⟩,hT⟩,hT2⟩=>(hP.2.1 _ hta).2) hra (by omega)) (fun c28=>JK _ (fun w F hF h=>h.2) (fun h28=>QA (QE rfl)<|QF<|QD<|QG<|QG<|QB<|QA (QI rfl ZE Qs) ?_)))
   refine QA (Qn rfl Qs .here (.skip (.skip (.skip (.skip (.here .nil))))))<|QA (Ql rfl Qe)<|QA (QC rfl)<|QF<|QD<|Qa<|Jz (ι:=dJ (el p.2 i.i).r.n (el p.2 i.i).t.2 (el q.2 i2.j).t.2) [(1,_),(5,_),(7,_),(9,_),(14,_),(15,_),(16,_),(20,_),(21,_),(22,_),(30,_),(31,_)] (fun i3=>[(10,i3.v),(32,.int .i64 ((i3.k:Nat):Int))]) (fun i3=>[(b9,.cells (Yl (el q.2 i2.j)).toArray 165 (0,0)),(b7,.cells (Yl (el p.2 i.i)).toArray 165 (0,0)),(m,ZD tx (Ww i2.ts))]++i3.ob) (fun i3 F=>True) (fun i3=>(el q.2 i2.j).t.2.length - i3.k) (⟨0,(el p.2 i.i).t.2,c28.1,c28.2,Nat.zero_le _,h28,by simp [Xq]⟩) ⟨rfl,rfl,rfl,rfl,rfl,rfl,rfl,rfl,rfl,rfl,rfl,rfl,trivial⟩ ⟨rfl,rfl,trivial⟩ (List.Sublist.refl _) (fun _ _=>trivial) (fun i3=>?_)
   simp only [List.cons_append,List.nil_append]
   have hk:=i3.le
   refine QG<|QB<|QA (QU rfl rfl rfl)<|QF<|QD<|QG ?_
   refine QO rfl (fun hc=>?_) (fun hc=>?_)
   ·
    obtain ⟨k,L,v,ob,hk0,hr,hL⟩:=i3
    dsimp only at hk hc ⊢
    have hlt3:k<(el q.2 i2.j).t.2.length:=by have:=of_decide_eq_true hc;omega
    have hka:k<(el p.2 i.i).t.2.length:=by omega
    have hLn:L.length=(el p.2 i.i).t.2.length:=by rw [hL];unfold Xq;simp;omega
    have hb1:=(hpw.1 _ hta).el hka
    have hb2:=(hpw.2.1 _ htb).el hlt3
    obtain ⟨b,cap,rest,rfl,rfl,e1,e2,e3,e4⟩:=Q4.pos hr (by omega)
    have hdL:Qf L k=Qf (el p.2 i.i).t.2 k:=by rw [hL];exact U2 hka hlt3
    refine QN<|QD<|QG<|Qa<|QG<|QB<|QA (QC rfl)<|QA (Jc (n:=(el q.2 i2.j).r.n) k (fun F ⟨⟨⟨⟨⟨hGl,hP,hQ⟩,hT⟩,hT2⟩,_⟩,_⟩=>(hQ.2.1 _ htb).2.1) rfl rfl Qe Qu (by omega))<|QA (Ji (n:=(el q.2 i2.j).r.n) (k*1) (fun F ⟨⟨⟨⟨⟨hGl,hP,hQ⟩,hT⟩,hT2⟩,_⟩,_⟩=>(hQ.2.1 _ htb).2.1) (by omega) rfl Qu (JR (o:=(el q.2 i2.j).t.2) (by omega)))<|QA (QE rfl)<|QA (QE rfl)<|QF<|QD<|QB<|QA (QC rfl)<|QA (QC rfl)<|QA (Qy (i:=k) rfl rfl Qe Qu (by omega))<|QA (YR (c:=(L).map Qz++rest) (T':=3) rfl Qu (.there (.there (.there .here))) (Zl (by first | omega | (simp only [List.length_set];omega))))<|QA (QC rfl)<|QA (Qw rfl rfl (by omega))<|QA (Qy (i:=k) rfl rfl Qe Qu (by omega))<|QP (vs:=[_]) rfl rfl rfl Qu rfl (.there (.there (.there .here))) (VO (by first | omega | (simp only [List.length_set];omega)) ((Qf (L) (k)+Qf (el q.2 i2.j).t.2 k))) ⟨rfl,trivial⟩<|QF<|Qm<|QD ?_
    refine QB<|QA (Qw rfl rfl (by omega))<|QA (QC rfl)<|QF ?_
    exact Qo (⟨k+1,_,_,_,hlt3,Q4.some (by simpa using e1) (by simpa using e2) e3 e4,by rw [hL,U2 hka hlt3];exact L5 hka hlt3⟩) (by show(el q.2 i2.j).t.2.length - (k+1)<(el q.2 i2.j).t.2.length - k;omega) ⟨rfl,rfl,rfl,rfl,rfl,rfl,rfl,rfl,rfl,rfl,rfl,rfl,rfl,rfl,trivial⟩ (List.Sublist.refl _) (fun F h=>⟨h.1,trivial⟩)
   ·
    have hge3:i3.k=(el q.2 i2.j).t.2.length:=by have:=of_decide_eq_false hc;omega
    have hLe:i3.L=Xq (el p.2 i.i).t.2 (el q.2 i2.j).t.2:=by
     have h1:=i3.hL
     rw [hge3,List.take_length] at h1
     rw [h1,List.take_of_length_le (by omega),List.drop_of_length_le (by omega),List.append_nil]
    have hLn:(Xq (el p.2 i.i).t.2 (el q.2 i2.j).t.2).length=(el p.2 i.i).r.n:=by rw [KZ (by omega)];exact hra
    refine Q6 ?_
    repeat (first | refine Qc ?_ | refine QX (by rfl) ?_)
    refine Qd<|QD<|QB<|QA (QC rfl)<|QA (QI rfl YC Qg)<|QA (QL (vs:=[_,_,_,_]) rfl Qg (.there .here) (.here (.here (.here (.here .nil)))) rfl)<|QA (QI rfl YC Qg)<|QA (QL (vs:=[_,_,_,_]) rfl Qg .here (.here (.here (.here (.here .nil)))) rfl)<|QH rfl (fun w F hF ⟨⟨⟨⟨⟨hGl,hP,hQ⟩,hT⟩,hT2⟩,_⟩,_⟩=>KC hF ((hP.2.1 _ hta).1) ((hQ.2.1 _ htb).1) (by omega) (by omega)) (fun x50=>QA (QC rfl) ?_)
    obtain ⟨r,hv,hrn,hrc,hfix⟩:=Q4.fix (w0:=w) (F0:=F) (bs1:=[(b9,.cells (Yl (el q.2 i2.j)).toArray 165 (0,0)),(b7,.cells (Yl (el p.2 i.i)).toArray 165 (0,0)),(m,ZD tx (Ww i2.ts))]) (G:=_) i3.hr
    refine D1 hfix ?_
    rw [hv]
    refine ZI (List.perm_middle (l₁:=[_,_]) (l₂:=[]))<|XN rfl (List.Perm.refl _) (BK (r:=r) (x:=x50) i2.hI (hpw.2.2 _ hta _ htb) (by have:=J2 (el p.2 i.i).t.1 (el q.2 i2.j).t.1;omega) (by omega) (fun F ⟨⟨⟨⟨⟨⟨⟨hGl,hP,hQ⟩,hT⟩,hT2⟩,_⟩,_⟩,⟨h50,h50_⟩⟩,hrow⟩=>⟨hGl,hT2,⟨h50,h50_⟩,by rw [hrn,← hLe];exact hrow,by rw [hrn];exact hLn,by rw [hrn];exact hrc⟩)) (fun n52=>JK _ (fun w F hF h=>h.2.2) (fun h52=>ZI (bs':=[_,_,_]) (List.perm_middle (l₁:=[_,_]) (l₂:=[])).symm<|QF<|Qm<|QD<|QB<|QA (Qw rfl rfl (by omega))<|QA (QC rfl)<|QF ?_))
    exact Qo (⟨i2.j+1,addN i2.ts n52,hlt2,by rw [Xs hlt2,HH,← List.append_assoc];exact i2.hI.add (hpw.2.2 _ hta _ htb) h52⟩) (by show q.2.length - (i2.j+1)<q.2.length - i2.j;omega) ⟨rfl,rfl,rfl,rfl,rfl,rfl,rfl,rfl,rfl,trivial⟩ (.cons _ (List.Sublist.refl _)) (fun F h=>⟨h.1.1.1.1.1.1,h.2.1⟩)
  ·
   have hge2:i2.j=q.2.length:=by have:=of_decide_eq_false hc;omega
   refine Q6 ?_
   repeat (first | refine Qc ?_ | refine QX (by rfl) ?_)
   refine Qd<|Qm<|QD<|QB<|QA (Qw rfl rfl (by omega))<|QA (QC rfl)<|QF ?_
   exact Qo (⟨i.i+1,i2.ts,hlt,by rw [NC hlt];have:=i2.hI;rw [hge2,List.take_length] at this;exact this⟩) (by show p.2.length - (i.i+1)<p.2.length - i.i;omega) ⟨rfl,rfl,rfl,rfl,rfl,trivial⟩ (.cons _ (List.Sublist.refl _)) (fun F h=>⟨h.1.1,h.2⟩)
 ·
  have hge:i.i=p.2.length:=by have:=of_decide_eq_false hc;omega
  refine Q6 ?_
  repeat (first | refine Qc ?_ | refine QX (by rfl) ?_)
  refine Qd<|QD<|QG<|QB<|QA (QC rfl) ?_
  have hI:=i.hI
  rw [hge,List.take_length] at hI
  refine XN rfl (List.Perm.refl _) (Gd hI (by have h1:=hI.ln;rw [P0] at h1;simp only [JL,List.length_map] at h1;have h2:=zz hl.1 hl.2;omega) (fun F h=>h.2)) (fun c56=>QA (QE rfl)<|QF<|QD<|QS ?_)
  exact QQ (c56) rfl (.tmp rfl .nil) (rfl) (fun F h=>h.2)
end
section
open Go.RowKit Ig
def j3:List Tm→Int
 |[]=>0
 |t::_=>t.2.sum
def Hx (l:List Tm):Bool:=l.any fun t=>Xk t.1
def Nd:List Bool→Int→Int
 |[],_=>-1
 |b::l,i=>if b then i else Nd l (i+1)
theorem Ub:∀ (l:List Bool) (i:Int),0≤i→(decide (0≤Nd l i)=l.any id)
 |[],i,_=>rfl
 |true::l,i,h=>by simp [Nd,h]
 |false::l,i,h=>by simpa [Nd] using Ub l (i+1) (by omega)
structure Fi (bl:List Bool) where
 i:Nat
 le:i≤bl.length
 h:Nd bl 0=Nd (bl.drop i) i
theorem Fi.hit {bl:List Bool} (s:Fi bl) (h:s.i<bl.length) (e:bl[s.i]=true):Nd bl 0=s.i:=by
 rw [s.h,List.drop_eq_getElem_cons h,e];rfl
theorem Fi.ve {bl:List Bool} (s:Fi bl) (h:s.i<bl.length) (e:bl[s.i]=false):Nd bl 0=Nd (bl.drop (s.i+1)) ((s.i+1:Nat):Int):=by
 rw [s.h,List.drop_eq_getElem_cons h,e];rfl
theorem Fi.stop {bl:List Bool} (s:Fi bl) (h:bl.length≤s.i):Nd bl 0 = -1:=by
 rw [s.h,List.drop_of_length_le h];rfl
theorem KI (ts:List XY):(JL ts).length=ts.length:=by simp [JL]
theorem Fo {ts:List XY} {i:Nat} (h:i<ts.length) (hb:i<((JL ts).map fun t=>Xk t.1).length):((JL ts).map fun t=>Xk t.1)[i]=Xk (el ts i).t.1:=by
 simp [JL,Zi h]
theorem zi {w:World} {F:Gs} {q:Option Addr} {n cap:Nat} {ts:List XY} (hF:Fits F w) (hP:Jm F ⟨q,n,cap⟩ ts (JL ts)) (hp:∀ t∈ts,PW t.t.2) (hl:ts.length≤1000000):QW Tryz.prog 219 [.slice q n cap] w F (.int .i64 (j3 (JL ts))):=by
 have hln:ts.length=n:=hP.2.2.2.2
 refine QT.intro (G:=fun F=>Jm F ⟨q,n,cap⟩ ts (JL ts)) Tryz.func219 rfl (by rfl) rfl rfl hF (fun F' hF'=>hP.le hF')<|QG<|QB<|QA (QE rfl)<|QF<|QD<|QG<|QG<|QB<|QA (QC rfl)<|QA (Ql rfl J1)<|QA (QU rfl rfl rfl)<|QF<|QD ?_
 refine QO rfl (fun hc=>?_) (fun hc=>?_)
 ·
  have h0:ts=[]:=by have:=of_decide_eq_true hc;exact List.length_eq_zero_iff.1 (by omega)
  refine QG<|QB<|QA (QE rfl)<|QF<|QD<|QS ?_
  exact QQ (()) rfl (.tmp rfl .nil) (by rw [h0];rfl) (fun F hP=>trivial)
 ·
  have h0:0<ts.length:=by have:=of_decide_eq_false hc;omega
  have htm:=Je h0
  refine QN<|QD<|QG<|QB<|QA (QC rfl)<|QA (Jc (n:=n) (0) (fun F hP=>(hP).1) rfl (congrArg (fun z:Int=>some (Value.int .i64 z)) (by omega)) J1 Jf (by omega))<|QA (QI rfl ZE Qs)<|QA (Ji (n:=n) ((0)*5+4) (fun F hP=>(hP).1) (by omega) rfl Qs (XU (f:=Yl) (l:=ts) YS (by omega) rfl))<|QH rfl (fun w F hF hP=>Dc hF (r:=(el ts 0).r) (hP.2.1 _ htm).2 (hp _ htm)) (fun _=>QA (QE rfl)<|QF<|QD<|QS ?_)
  exact QQ (()) rfl (.tmp rfl .nil) (congrArg (Value.int .i64) (by cases ts with | nil=>cases h0 | cons t l=>rfl)) (fun F ⟨hP,_⟩=>trivial)
theorem LC {w:World} {F:Gs} {t:XY} (hF:Fits F w) (hGl:JC F) (hT:S2 F t) (hz:JX t.t.1≤100000000):QW Tryz.prog 269 [Ap t] w F (.bool (Xk t.t.1)):=by
 refine QT.intro (G:=fun F=>JC F∧S2 F t) Tryz.func269 rfl (by rfl) rfl rfl hF (fun F' hF'=>⟨hGl.le hF',hT.le hF'⟩)<|QG<|QB<|Q5 rfl (vs:=[_,_,_,_,_]) rfl (fun b1=>QA (QE rfl)<|QF<|QD<|QG<|QB<|QA (QI rfl YC Qg)<|QA (QL (vs:=[_,_,_,_]) rfl Qg .here (.here (.here (.here (.here .nil)))) rfl)<|QH rfl (fun w F hF ⟨hGl,hT⟩=>Bu hF hGl (hT.1) (hz)) (fun _=>QA (QE rfl)<|QF<|QD<|QS ?_))
 exact QQ (()) rfl (.tmp rfl .nil) (rfl) (fun F ⟨⟨hGl,hT⟩,_⟩=>trivial)
theorem CM {w:World} {F:Gs} {q:Option Addr} {n cap:Nat} {ts:List XY} (hF:Fits F w) (hP:Jm F ⟨q,n,cap⟩ ts (JL ts)) (hGl:JC F) (hz:∀ t∈ts,JX t.t.1≤100000000) (hl:ts.length≤1000000):QW Tryz.prog 295 [.slice q n cap,.func (.func 269) #[] #[]] w F (.int .i64 (Nd ((JL ts).map fun t=>Xk t.1) 0)):=by
 have hln:ts.length=n:=hP.2.2.2.2
 have hbl:((JL ts).map fun t=>Xk t.1).length=ts.length:=by simp [JL]
 refine QT.intro (G:=fun F=>JC F∧Jm F ⟨q,n,cap⟩ ts (JL ts)) Tryz.func295 rfl (by rfl) rfl rfl hF (fun F' hF'=>⟨hGl.le hF',hP.le hF'⟩)<|QG<|QB<|QA (QE rfl)<|QF<|QD<|QG<|QG<|QB<|QA (QC rfl)<|QA (Ql rfl J1)<|QA (QC rfl)<|QF<|QD<|Qa<|YU (ι:=Fi ((JL ts).map fun t=>Xk t.1)) [(0,_),(1,_),(7,_)] (fun i=>[(8,.int .i64 ((i.i:Nat):Int))]) (fun i=>ts.length - i.i) (⟨0,Nat.zero_le _,rfl⟩) ⟨rfl,rfl,rfl,trivial⟩ ⟨rfl,trivial⟩ (fun i=>?_)
 simp only [List.cons_append,List.nil_append]
 have hi:=i.le
 refine QG<|QB<|QA (QU rfl rfl rfl)<|QF<|QD<|QG ?_
 refine QO rfl (fun hc=>?_) (fun hc=>?_)
 ·
  have hlt:i.i<ts.length:=by have:=of_decide_eq_true hc;omega
  have htm:=Je hlt
  refine QN<|QD<|QG<|Qa<|QG<|QB<|QA (QC rfl)<|QA (QE rfl)<|QF<|QD<|QG<|QB<|QA (QC rfl)<|QA (QC rfl)<|QA (QC rfl)<|QA (Jc (n:=n) (i.i) (fun F ⟨hGl,hP⟩=>(hP).1) rfl rfl J1 Jf (by omega))<|QA (ZB (n:=n) (vs:=[.int .i64 (el ts (i.i)).x.n.s,.slice (el ts (i.i)).x.n.q (el ts (i.i)).x.n.n (el ts (i.i)).x.n.cap,.int .i64 (el ts (i.i)).x.d.s,.slice (el ts (i.i)).x.d.q (el ts (i.i)).x.d.n (el ts (i.i)).x.d.cap,.slice (el ts (i.i)).r.q (el ts (i.i)).r.n (el ts (i.i)).r.cap]) ((i.i)*5) (fun F ⟨hGl,hP⟩=>(hP).1) (by omega) rfl Jf rfl (fun j v hv=>XU (f:=Yl) (l:=ts) YS (by omega) hv))<|WL (c1:=[]) (c2:=[]) rfl rfl (fun w F hF ⟨hGl,hP⟩=>LC hF hGl (t:=el ts i.i) (hP.2.1 _ htm) (hz _ htm)) (fun _=>QF<|QD ?_)
  refine QO rfl (fun hc=>?_) (fun hc=>?_)
  ·
   refine QG<|QB<|QA (QC rfl)<|QA (QE rfl)<|QF<|QD<|QS ?_
   repeat (first | refine JN ?_ | refine JE ?_)
   exact QQ (()) rfl (.tmp rfl .nil) (congrArg (Value.int .i64) (i.hit (by omega) (by rw [Fo hlt];exact hc))) (fun F ⟨⟨hGl,hP⟩,_⟩=>trivial)
  ·
   refine QN<|Qm<|QD<|QB<|QA (Qw rfl rfl (by omega))<|QA (QC rfl)<|QF ?_
   exact Qo (⟨i.i+1,by omega,i.ve (by omega) (by rw [Fo hlt];exact hc)⟩) (by show ts.length - (i.i+1)<ts.length - i.i;omega) ⟨rfl,rfl,rfl,rfl,trivial⟩ (List.Sublist.refl _) (fun F h=>h.1)
 ·
  have hge:ts.length≤i.i:=by have:=of_decide_eq_false hc;omega
  refine Q6 ?_
  repeat (first | refine Qc ?_ | refine QX (by rfl) ?_)
  refine Qd<|QD<|QG<|QB<|QA (QE rfl)<|QF<|QD<|QS ?_
  exact QQ (()) rfl (.tmp rfl .nil) (congrArg (Value.int .i64) (i.stop (by omega))) (fun F ⟨hGl,hP⟩=>trivial)
theorem Tk {w:World} {F:Gs} {q:Option Addr} {n cap:Nat} {ts:List XY} (hF:Fits F w) (hP:Jm F ⟨q,n,cap⟩ ts (JL ts)) (hGl:JC F) (hz:∀ t∈ts,JX t.t.1≤100000000) (hl:ts.length≤1000000):QW Tryz.prog 268 [.slice q n cap,.func (.func 269) #[] #[]] w F (.bool (Hx (JL ts))):=by
 refine QT.intro (G:=fun F=>JC F∧Jm F ⟨q,n,cap⟩ ts (JL ts)) Tryz.func268 rfl (by rfl) rfl rfl hF (fun F' hF'=>⟨hGl.le hF',hP.le hF'⟩)<|QG<|QB<|QA (QE rfl)<|QF<|QD<|QG<|QB<|QA (QC rfl)<|QA (QC rfl)<|QH rfl (fun w F hF ⟨hGl,hP⟩=>CM hF (hP) (hGl) (hz) (hl)) (fun _=>QA (QU rfl rfl rfl)<|QA (QE rfl)<|QF<|QD<|QS ?_)
 exact QQ (()) rfl (.tmp rfl .nil) (congrArg Value.bool (by rw [show Hx (JL ts)=((JL ts).map fun t=>Xk t.1).any id by simp [Hx,List.any_map],← Ub _ 0 (Int.le_refl _)])) (fun F ⟨⟨hGl,hP⟩,_⟩=>trivial)
theorem CI {w:World} {F:Gs} {q:Option Addr} {n cap:Nat} {ts:List XY} (hF:Fits F w) (hP:Jm F ⟨q,n,cap⟩ ts (JL ts)) (hGl:JC F) (hz:∀ t∈ts,JX t.t.1≤100000000) (hl:ts.length≤1000000):QW Tryz.prog 220 [.slice q n cap] w F (.bool (Hx (JL ts))):=by
 refine QT.intro (G:=fun F=>JC F∧Jm F ⟨q,n,cap⟩ ts (JL ts)) Tryz.func220 rfl (by rfl) rfl rfl hF (fun F' hF'=>⟨hGl.le hF',hP.le hF'⟩)<|QG<|QB<|QA (QE rfl)<|QF<|QD<|QG<|QB<|QA (QC rfl)<|QH rfl (fun w F hF ⟨hGl,hP⟩=>Tk hF (hP) (hGl) (hz) (hl)) (fun _=>QA (QE rfl)<|QF<|QD<|QS ?_)
 exact QQ (()) rfl (.tmp rfl .nil) (rfl) (fun F ⟨⟨hGl,hP⟩,_⟩=>trivial)
end
section
open Go.RowKit Ig
def Da (l:List Tm):Int:=Qj [if decide (j3 l>12)=true then 4 else 0,if decide ((l.length:Int)>64)=true then 5 else 0,if Hx l=true then 4 else 0]
def PK (l:List Tm):Pt:=if Da l=0 then D8 l else []
theorem Vh.nil (F:Gs):Vh F ⟨none,0,0⟩ [] []:=⟨JF.nil F none 2,(fun _ h=>by cases h),rfl,Nat.le_refl _,rfl⟩
theorem GB {w:World} {F:Gs} {q:Option Addr} {n cap:Nat} {ts:List XY} (hF:Fits F w) (hP:Jm F ⟨q,n,cap⟩ ts (JL ts)) (hGl:JC F) (hp:∀ t∈ts,PW t.t.2) (hz:∀ t∈ts,JX t.t.1≤100000000) (hl:ts.length≤1000000) :
  QT Tryz.prog 137 [.slice q n cap] w F (fun(c:VF)=>.tuple #[c.1.v,.int .i64 (Da (JL ts))]) (fun c F=>Vh F c.1 c.2 (PK (JL ts))):=by
 have hln:ts.length=n:=hP.2.2.2.2
 have hlen:(JL ts).length=n:=by rw [KI];exact hln
 have hre:Da (JL ts)=Qj [if decide (j3 (JL ts)>12)=true then 4 else 0,if decide ((n:Int)>64)=true then 5 else 0,if Hx (JL ts)=true then 4 else 0]:=by unfold Da;rw [hlen]
 refine QT.intro (G:=fun F=>JC F∧Jm F ⟨q,n,cap⟩ ts (JL ts)) Tryz.func137 rfl (by rfl) rfl rfl hF (fun F' hF'=>⟨hGl.le hF',hP.le hF'⟩)<|QG<|QB<|QA (QE rfl)<|QA (QE rfl)<|QF<|QD<|QG<|QG<|QB<|QA (QC rfl)<|QH rfl (fun w F hF ⟨hGl,hP⟩=>zi hF (hP) (hp) (hl)) (fun _=>QA (QU rfl rfl rfl)<|QH rfl (fun w F hF ⟨⟨hGl,hP⟩,_⟩=>Zx hF ) (fun _=>QA (QC rfl)<|QA (Ql rfl J1)<|QA (QU rfl rfl rfl)<|QH rfl (fun w F hF ⟨⟨⟨hGl,hP⟩,_⟩,_⟩=>Zx hF ) (fun _=>QA (QC rfl)<|QH rfl (fun w F hF ⟨⟨⟨⟨hGl,hP⟩,_⟩,_⟩,_⟩=>CI hF (hP) (hGl) (hz) (hl)) (fun _=>QH rfl (fun w F hF ⟨⟨⟨⟨⟨hGl,hP⟩,_⟩,_⟩,_⟩,_⟩=>Zx hF ) (fun _=>QV rfl (Q8 Zn) Y3 BA rfl rfl (fun b16=>QH rfl (fun w F hF ⟨⟨⟨⟨⟨⟨⟨hGl,hP⟩,_⟩,_⟩,_⟩,_⟩,_⟩,hs16⟩=>YB hF (JF.of (cs:=List.map Qz [if decide (j3 (JL ts)>12)=true then 4 else 0,if decide ((n:Int)>64)=true then 5 else 0,if Hx (JL ts)=true then 4 else 0]) hs16 rfl) (by decide)) (fun _=>QA (QE rfl)<|QF ?_)))))))
 refine QD<|QG<|QB<|QA (QC rfl)<|QA (QU rfl rfl rfl)<|QF<|QD ?_
 refine QO rfl (fun hc=>?_) (fun hc=>?_)
 ·
  have he:Da (JL ts)≠0:=by rw [hre];exact bne_iff_ne.1 hc
  refine QG<|QB<|QA (QC rfl)<|QA (QE rfl)<|QA (QE rfl)<|QF<|QD<|QS ?_
  exact JH ((⟨none,0,0⟩,[])) rfl (.tmp rfl (.tmp rfl .nil)) (by rw [hre]) (fun F ⟨⟨⟨⟨⟨⟨⟨⟨hGl,hP⟩,_⟩,_⟩,_⟩,_⟩,_⟩,hs16⟩,_⟩=>by unfold PK;rw [if_neg he];exact Vh.nil F)
 ·
  have he:Da (JL ts)=0:=by rw [hre];exact bne_eq_false_iff_eq.1 hc
  refine QN<|QD<|QG<|QB<|QA (QC rfl)<|QH rfl (fun w F hF ⟨⟨⟨⟨⟨⟨⟨⟨hGl,hP⟩,_⟩,_⟩,_⟩,_⟩,_⟩,hs16⟩,_⟩=>qz hF hGl (p:=(⟨q,n,cap⟩,ts)) hP hp hl hz) (fun c22=>QA (QE rfl)<|QA (QE rfl)<|QF<|QD<|QS ?_)
  exact JH (c22) rfl (.tmp rfl (.tmp rfl .nil)) (by rw [he]) (fun F ⟨⟨⟨⟨⟨⟨⟨⟨⟨hGl,hP⟩,_⟩,_⟩,_⟩,_⟩,_⟩,hs16⟩,_⟩,h22⟩=>by unfold PK;rw [if_pos he];exact h22)
end
section
open Go.RowKit Ig
def Zo (v:Int):Int:=if decide (v<0)=true∨decide (v>24)=true then 3 else 0
theorem VB (v:Int):Zo v=0↔0≤v∧v≤24:=by unfold Zo;simp only [decide_eq_true_eq];split<;>omega
theorem Lq {v:Int} (h:¬ v<0):Zo v=if decide (v>24)=true then 3 else 0:=by unfold Zo;simp [h]
def Wk (l:List Int):Int:=(l.map fun k=>if 13<k then 13 else k).sum
def Vm (f:List UInt8) (l:List Int) (v:Int):Int :=
 if(l.length:Int)≠v+1 then 2 else if l.any (fun k=>decide (k<0))=true then 3 else Qj [if decide (Wk l>12)=true then 4 else 0,Qp f]
theorem Lw {l:List Int} {i:Nat} (h:i<l.length):Wk (l.take (i+1))=Wk (l.take i)+(if 13<Qf l i then 13 else Qf l i):=by
 unfold Wk;rw [ZL h,List.map_append,List.sum_append,X9 h];simp
theorem Nz (l:List Int) (h:∀ k∈l,0≤k):0≤Wk l∧Wk l≤13*l.length:=by
 induction l with
 |nil=>simp [Wk]
 |cons x l ih =>
  have h1:=ih fun k hk=>h k (by simp [hk])
  have h2:=h x (by simp)
  have e:Wk (x::l)=(if 13<x then 13 else x)+Wk l:=by unfold Wk;rw [List.map_cons,List.sum_cons]
  rw [e,List.length_cons];split<;>omega
structure gB (l:List Int) where
 i:Nat
 le:i≤l.length
 nn:∀ k∈l.take i,0≤k
theorem xE {l:List Int} {i:Nat} (h:i<l.length) (hn:Qf l i<0):l.any (fun k=>decide (k<0))=true:=by
 rw [List.any_eq_true];exact⟨el l i,Je h,by rw [← X9 h];exact decide_eq_true hn⟩
theorem yZ {l:List Int} (h:∀ k∈l,0≤k):¬ l.any (fun k=>decide (k<0))=true:=by
 rw [List.any_eq_true];rintro ⟨k,hk,e⟩;have:=of_decide_eq_true e;have:=h k hk;omega
theorem Gp {w:World} {F:Gs} {v:Int} (hF:Fits F w):QW Tryz.prog 141 [.int .i64 v] w F (.int .i64 (Zo v)):=by
 refine QT.intro (G:=fun F=>True) Tryz.func141 rfl (by rfl) rfl rfl hF (fun F' hF'=>trivial)<|QG<|QB<|QA (QE rfl)<|QF<|QD<|QG<|QB<|QA (QC rfl)<|QA (QU rfl rfl rfl)<|QA (QC rfl) ?_
 refine Qk (t:=5) rfl (fun hb5=>?_) (fun hb5=>?_)
 ·
  refine QR rfl rfl rfl<|QR rfl rfl rfl<|QA (Qi rfl rfl rfl)<|QH rfl (fun w F hF _=>Zx hF ) (fun _=>QA (QE rfl)<|QF<|QD<|QS ?_)
  exact QQ (()) rfl (.tmp rfl .nil) (congrArg (Value.int .i64) (by unfold Zo;simp_all)) (fun F ⟨_,_⟩=>trivial)
 ·
  refine QJ rfl rfl<|QA (QC rfl)<|QJ rfl rfl<|QA (QU rfl rfl rfl)<|QA (Qh rfl rfl rfl)<|QH rfl (fun w F hF _=>Zx hF ) (fun _=>QA (QE rfl)<|QF<|QD<|QS ?_)
  exact QQ (()) rfl (.tmp rfl .nil) (congrArg (Value.int .i64) (Lq (of_decide_eq_false hb5))) (fun F ⟨_,_⟩=>trivial)
theorem jx {w:World} {F:Gs} {f:List UInt8} {q:Option Addr} {n cap:Nat} {l:List Int} {v:Int} (hF:Fits F w) (hGl:JC F) (hR:JP F ⟨q,n,cap⟩ l) (hf:f.length≤1000000) (hl:l.length≤1000000) (hv : -1000000≤v∧v≤1000000):QW Tryz.prog 155 [.agg #[tx f,.slice q n cap],.int .i64 v] w F (.int .i64 (Vm f l v)):=by
 have hln:l.length=n:=hR.2.1
 refine QT.intro (G:=fun F=>JC F∧JP F ⟨q,n,cap⟩ l) Tryz.func155 rfl (by rfl) rfl rfl hF (fun F' hF'=>⟨hGl.le hF',hR.le hF'⟩)<|QG<|QB<|Q5 rfl (vs:=[_,_]) rfl (fun b2=>QA (QE rfl)<|QF<|QD<|QG<|QG<|QB<|QA (QI rfl Wf Qs)<|QA (Qn rfl Qs .here (.skip (.here .nil)))<|QA (Ql rfl Qe)<|QA (QC rfl)<|QA (Qw rfl rfl (by omega))<|QA (QU rfl rfl rfl)<|QF<|QD ?_)
 refine QO rfl (fun hc=>?_) (fun hc=>?_)
 ·
  have hne:=bne_iff_ne.1 hc
  refine QG<|QB<|QA (QE rfl)<|QF<|QD<|QS ?_
  exact QQ (()) rfl (.tmp rfl .nil) (congrArg (Value.int .i64) (by unfold Vm;rw [if_pos (by rw [hln];exact hne)])) (fun F ⟨hGl,hR⟩=>trivial)
 ·
  have heq:=bne_eq_false_iff_eq.1 hc
  refine QN<|QD<|QG<|QB<|QA (QE rfl)<|QF<|QD<|QG<|QG<|QB<|QA (QI rfl Wf Qs)<|QA (Qn rfl Qs .here (.skip (.here .nil)))<|QA (Ql rfl Qe)<|QA (QC rfl)<|QF<|QD<|Qa<|YU (ι:=gB l) [(2,_),(15,_),(16,_)] (fun i=>[(5,.int .i64 (Wk (l.take i.i))),(17,.int .i64 ((i.i:Nat):Int))]) (fun i=>l.length - i.i) (⟨0,Nat.zero_le _,by simp⟩) ⟨rfl,rfl,rfl,trivial⟩ ⟨rfl,rfl,trivial⟩ (fun i=>?_)
  simp only [List.cons_append,List.nil_append]
  have hi:=i.le
  have hb:=Nz _ i.nn
  rw [List.length_take] at hb
  refine QG<|QB<|QA (QU rfl rfl rfl)<|QF<|QD<|QG ?_
  refine QO rfl (fun hc=>?_) (fun hc=>?_)
  ·
   have hlt:i.i<l.length:=by have:=of_decide_eq_true hc;omega
   refine QN<|QD<|QG<|Qa<|QG<|QB<|QA (Jc (n:=n) (i.i) (fun F ⟨hGl,hR⟩=>(hR).1) rfl rfl Qe Qu (by omega))<|QA (Ji (n:=n) ((i.i)*1) (fun F ⟨hGl,hR⟩=>(hR).1) (by omega) rfl Qu (JR (o:=l) (by omega)))<|QA (QE rfl)<|QF<|QD<|QG<|QG<|QB<|QA (QC rfl)<|QA (QU rfl rfl rfl)<|QF<|QD ?_
   refine QO rfl (fun hc=>?_) (fun hc=>?_)
   ·
    have hng:=of_decide_eq_true hc
    refine QG<|QB<|QA (QE rfl)<|QF<|QD<|QS ?_
    repeat (first | refine JN ?_ | refine JE ?_)
    exact QQ (()) rfl (.tmp rfl .nil) (congrArg (Value.int .i64) (by unfold Vm;rw [if_neg (by rw [hln];exact fun h=>h heq),if_pos (xE hlt hng)])) (fun F ⟨hGl,hR⟩=>trivial)
   ·
    have hng:=of_decide_eq_false hc
    refine QN<|QD<|QB<|QA (QC rfl)<|QA (QC rfl)<|QA (xf rfl rfl)<|QA (Qw rfl rfl (by omega))<|QA (QE rfl)<|QF<|Qm<|QD<|QB<|QA (Qw rfl rfl (by omega))<|QA (QC rfl)<|QF ?_
    exact Qo (⟨i.i+1,hlt,by intro k hk;rw [ZL hlt] at hk;rcases List.mem_append.1 hk with hk | hk;exact i.nn k hk;rw [List.mem_singleton.1 hk,← X9 hlt];omega⟩) (by show l.length - (i.i+1)<l.length - i.i;omega) ⟨rfl,rfl,rfl,(congrArg (fun z:Int=>some (Value.int .i64 z)) (Lw hlt).symm),rfl,trivial⟩ (List.Sublist.refl _) (fun F h=>h)
  ·
   have hge:i.i=l.length:=by have:=of_decide_eq_false hc;omega
   refine Q6 ?_
   repeat (first | refine Qc ?_ | refine QX (by rfl) ?_)
   refine Qd<|QD<|QG<|JQ (List.Sublist.refl _) mixed (by kernel_rfl) ?_
   rw [hge,List.take_length]
   have hnn:=i.nn
   rw [hge,List.take_length] at hnn
   refine QM (QC rfl)<|QM (QU rfl rfl rfl)<|Qb rfl (fun w F hF ⟨hGl,hR⟩=>Zx hF ) (fun _=>QM (QI rfl By X2)<|QM (Qn rfl X2 .here (.here .nil))<|Qb rfl (fun w F hF ⟨⟨hGl,hR⟩,_⟩=>DD hF hGl (hf)) (fun _=>?_))
   refine Ju rfl (Q8 Zn) Y3 BA rfl rfl (fun b34=>?_) (fun w h=>h.imp (.cons_cons _ .slnil) (fun F h=>h.1.1))
   refine Qb rfl (fun w F hF ⟨⟨⟨⟨hGl,hR⟩,_⟩,_⟩,hs34⟩=>YB hF (JF.of (cs:=List.map Qz [if decide (Wk l>12)=true then 4 else 0,Qp f]) hs34 rfl) (by decide)) (fun _=>QM (QE rfl)<|Q3<|QD<|QS ?_)
   exact QQ (()) rfl (.tmp rfl .nil) (congrArg (Value.int .i64) (by unfold Vm;rw [if_neg (by rw [hln];exact fun h=>h heq),if_neg (yZ hnn)])) (fun F ⟨⟨⟨⟨⟨hGl,hR⟩,_⟩,_⟩,hs34⟩,_⟩=>trivial)
end
section
open Go.RowKit Ig
theorem VT {a b:Int} (h:Qj [a,b]=0):a=0∧b=0:=by
 unfold Qj at h
 by_cases g:a=0
 ·rw [if_pos g] at h
  unfold Qj at h
  by_cases k:b=0
  ·exact⟨g,k⟩
  ·rw [if_neg k] at h;exact⟨g,h⟩
 ·rw [if_neg g] at h;exact absurd h g
def Wr (p:Pt) (v:Int) (i:Nat):Int :=
 let e:=Qj [Vm (el p i).1 (el p i).2 v,if((el p i).1==[48])=true then 6 else 0]
 if e=0∧0<i∧0≤VX (el p (i - 1)).2 (el p i).2 then 11 else e
def X4 (p:Pt) (v:Int):Int:=if decide ((p.length:Int)>64)=true then 5 else Qj ((List.range p.length).map (Wr p v))
theorem Un {n i:Nat} (h:i<n):el (List.range n) i=i:=by rw [Zi (by simpa using h)];simp
theorem H7 {ts:List GX} {i:Nat} (h:i<ts.length):el (XG ts) i=((el ts i).f,(el ts i).k):=by rw [Zi (by simpa [XG] using h),Zi h];simp [XG]
theorem Fc {l:List Int} (h:∀ k∈l,0≤k) (hc:Wk l≤12):∀ k∈l,k≤12:=by
 induction l with
 |nil=>intro k hk;cases hk
 |cons x l ih =>
  have hl:∀ k∈l,0≤k:=fun k hk=>h k (by simp [hk])
  have h1:=(Nz l hl).1
  have h2:=h x (by simp)
  have e:Wk (x::l)=(if 13<x then 13 else x)+Wk l:=by unfold Wk;rw [List.map_cons,List.sum_cons]
  rw [e] at hc
  intro k hk
  rcases List.mem_cons.1 hk with rfl | hk
  ·split at hc<;>omega
  ·refine ih hl ?_ k hk
   split at hc<;>omega
theorem VI {f:List UInt8} {l:List Int} {v:Int} (h:Vm f l v=0):(l.length:Int)=v+1∧(∀ k∈l,0≤k∧k≤12)∧Wk l≤12∧Qp f=0:=by
 unfold Vm at h
 split at h
 ·omega
 ·rename_i h1
  split at h
  ·omega
  ·rename_i h2
   have hn:∀ k∈l,0≤k:=fun k hk=>by
    rcases Int.lt_or_le k 0 with g | g
    ·exact absurd (List.any_eq_true.2 ⟨k,hk,decide_eq_true g⟩) h2
    ·exact g
   obtain ⟨g1,g2⟩:=VT h
   have hc:Wk l≤12:=by
    rcases Int.lt_or_le 12 (Wk l) with g | g
    ·rw [if_pos (decide_eq_true g)] at g1;omega
    ·exact g
   exact⟨by omega,fun k hk=>⟨hn k hk,Fc hn hc k hk⟩,hc,g2⟩
theorem WW {f:List UInt8} {l:List Int} {v:Int} (h:Vm f l v=0) (hv:v≤24):PW l:=by
 obtain ⟨h1,h2,_⟩:=VI h
 exact⟨fun k hk=>by have:=h2 k hk;omega,by omega⟩
theorem Po {p:Pt} {v:Int} {i:Nat} (h:Wr p v i=0):Vm (el p i).1 (el p i).2 v=0∧(el p i).1≠[48]∧(0<i→VX (el p (i - 1)).2 (el p i).2<0):=by
 unfold Wr at h
 dsimp only at h
 by_cases g:Qj [Vm (el p i).1 (el p i).2 v,if((el p i).1==[48])=true then 6 else 0]=0∧0<i∧0≤VX (el p (i - 1)).2 (el p i).2
 ·rw [if_pos g] at h;omega
 ·rw [if_neg g] at h
  obtain ⟨h1,h2'⟩:=VT h
  have h2:(el p i).1≠[48]:=by
   intro q
   rw [if_pos (by rw [q];rfl)] at h2'
   omega
  refine⟨h1,h2,fun hi=>?_⟩
  rcases Int.lt_or_le (VX (el p (i - 1)).2 (el p i).2) 0 with q | q
  ·exact q
  ·exact absurd ⟨h,hi,q⟩ g
structure qQ (p:Pt) (v:Int) (n:Nat) where
 i:Nat
 le:i≤n
 z:∀ j,j<i→Wr p v j=0
def qQ.scan {p:Pt} {v:Int} {n:Nat} (s:qQ p v n):Y5 (List.range n) (Wr p v):=⟨s.i,by rw [List.length_range];exact s.le,by
 have key:∀ i,i≤n→(∀ j,j<i→Wr p v j=0)→Qj ((List.range n).map (Wr p v))=Qj (((List.range n).map (Wr p v)).drop i):=by
  intro i
  induction i with
  |zero=>intro _ _;rfl
  |succ i ih =>
   intro hi hz
   rw [ih (by omega) (fun j hj=>hz j (by omega)),KU (by simp;omega) (by simp;exact hz i (by omega))]
 exact key s.i s.le s.z⟩
theorem E3 {p:Pt} {v x:Int} {n:Nat} (hn:p.length=n) (hp:¬ (n:Int)>64) (s:qQ p v n) (h:s.i<n) (hs:Wr p v s.i=x) (hx:x≠0):X4 p v=x:=by
 unfold X4
 rw [hn,if_neg (by rw [decide_eq_true_eq];exact hp),s.scan.hit (by rw [List.length_range];exact h) (by rw [show s.scan.i=s.i from rfl,Un h,hs];exact hx),show s.scan.i=s.i from rfl,Un h,hs]
theorem OY {p:Pt} {v:Int} {n:Nat} (hn:p.length=n) (hp:¬ (n:Int)>64) (s:qQ p v n) (h:n≤s.i):X4 p v=0:=by
 unfold X4
 rw [hn,if_neg (by rw [decide_eq_true_eq];exact hp),s.scan.stop (by rw [List.length_range];exact h)]
theorem step_eq {ps:List GX} {v E:Int} {i:Nat} (h:i<ps.length) (hE:Qj [Vm (el ps i).f (el ps i).k v,if((el ps i).f==[48])=true then 6 else 0]=E):Wr (XG ps) v i=if E=0∧0<i∧0≤VX (el ps (i - 1)).k (el ps i).k then 11 else E:=by
 unfold Wr
 rw [H7 h,H7 (show i - 1<ps.length by omega)]
 dsimp only
 rw [hE]
theorem Bz {w:World} {F:Gs} {q:Option Addr} {n cap:Nat} {ps:List GX} {v:Int} (hF:Fits F w) (hGl:JC F) (hR:JF F q n 2 (ps.flatMap Wm)) (hP:Yo F ps) (hln:ps.length=n) (hf:∀ t∈ps,t.f.length≤1000000∧t.k.length≤1000000) (hl:ps.length≤1000000) (hv:0≤v∧v≤24):QW Tryz.prog 143 [.slice q n cap,.int .i64 v] w F (.int .i64 (X4 (XG ps) v)):=by
 have hal:(XG ps).length=n:=by unfold XG;rw [List.length_map];exact hln
 refine QT.intro (G:=fun F=>JC F∧JF F q n 2 (ps.flatMap Wm)∧Yo F ps) Tryz.func143 rfl (by rfl) rfl rfl hF (fun F' hF'=>⟨hGl.le hF',hR.le hF',hP.le hF'⟩)<|QG<|QB<|QA (QE rfl)<|QF<|QD<|QG<|QG<|QB<|QA (QC rfl)<|QA (Ql rfl Zp)<|QA (QU rfl rfl rfl)<|QF<|QD ?_
 refine QO rfl (fun hc=>?_) (fun hc=>?_)
 ·
  have hbig:=hc
  refine QG<|QB<|QA (QE rfl)<|QF<|QD<|QS ?_
  exact QQ (()) rfl (.tmp rfl .nil) (congrArg (Value.int .i64) (by unfold X4;rw [hal,if_pos hbig])) (fun F ⟨hGl,hR,hP⟩=>trivial)
 ·
  have hbig:=of_decide_eq_false hc
  refine QN<|QD<|QG<|QG<|QB<|QA (QC rfl)<|QA (Ql rfl Zp)<|QA (QC rfl)<|QF<|QD<|Qa<|YU (ι:=qQ (XG ps) v n) [(0,_),(1,_),(11,_),(12,_)] (fun i=>[(13,.int .i64 ((i.i:Nat):Int))]) (fun i=>n - i.i) (⟨0,Nat.zero_le _,fun j hj=>absurd hj (Nat.not_lt_zero _)⟩) ⟨rfl,rfl,rfl,rfl,trivial⟩ ⟨rfl,trivial⟩ (fun i=>?_)
  simp only [List.cons_append,List.nil_append]
  have hi:=i.le
  refine QG<|QB<|QA (QU rfl rfl rfl)<|QF<|QD<|QG ?_
  refine QO rfl (fun hc=>?_) (fun hc=>?_)
  ·
   have hlt:i.i<n:=by have:=of_decide_eq_true hc;omega
   have htm:el ps i.i∈ps:=Je (by omega)
   refine QN<|QD<|QG<|Qa<|QG<|QB<|QA (QC rfl)<|QA (Jc (n:=n) (i.i) (fun F ⟨hGl,hR,hP⟩=>hR) rfl rfl Zp X3 (by omega))<|QA (ZB (n:=n) (vs:=[tx (el ps (i.i)).f,.slice (el ps (i.i)).r.q (el ps (i.i)).r.n (el ps (i.i)).r.cap]) ((i.i)*2) (fun F ⟨hGl,hR,hP⟩=>hR) (by omega) rfl X3 rfl (fun j v hv=>XU (f:=Wm) (l:=ps) Vv (by omega) hv))<|QZ Xm (fun b6=>QA (QE rfl)<|QP (vs:=[_,_]) rfl rfl rfl X3 rfl .here (.here (.here .nil)) ⟨rfl,rfl,trivial⟩<|QF<|QD<|QG<|JQ (List.Sublist.refl _) mixed (by kernel_rfl)<|QM (QL (vs:=[_,_]) rfl X3 .here (.here (.here .nil)) rfl)<|QM (QC rfl)<|Qb rfl (fun w F hF ⟨hGl,hR,hP⟩=>jx hF (hGl) (f:=(el ps i.i).f) (l:=(el ps i.i).k) (hP _ htm) ((hf _ htm).1) ((hf _ htm).2) (by omega)) (fun _=>QM (QI rfl By X2)<|QM (Qn rfl X2 .here (.here .nil))<|QM (Zy rfl rfl)<|Qb rfl (fun w F hF ⟨⟨hGl,hR,hP⟩,_⟩=>Zx hF ) (fun _=>?_)))
   refine Ju rfl (Q8 Zn) Y3 BA rfl rfl (fun b25=>?_) (fun w h=>h.imp (.cons_cons _ .slnil) (fun F h=>h.1.1))
   refine Qb rfl (fun w F hF ⟨⟨⟨⟨hGl,hR,hP⟩,_⟩,_⟩,hs25⟩=>YB hF (JF.of (cs:=List.map Qz [Vm (el ps i.i).f (el ps i.i).k v,if((el ps i.i).f==[48])=true then 6 else 0]) hs25 rfl) (by decide)) (fun _=>QM (QE rfl)<|Q3<|QD<|QG<|QG<|JQ (List.Sublist.refl _) mixed (by kernel_rfl) ?_)
   generalize hE:Qj [Vm (el ps i.i).f (el ps i.i).k v,if((el ps i.i).f==[48])=true then 6 else 0]=E
   have hst:=step_eq (v:=v) (show i.i<ps.length by omega) hE
   refine QM (QC rfl)<|QM (QU rfl rfl rfl)<|QM (QC rfl) ?_
   refine DM (t:=29) rfl (fun hb29=>?_) (fun hb29=>?_)
   ·
    refine XE rfl rfl<|QM (QC rfl)<|XE rfl rfl<|QM (QU rfl rfl rfl)<|QM (Qi rfl rfl rfl)<|QM (QC rfl) ?_
    refine DM (t:=33) rfl (fun hb33=>?_) (fun hb33=>?_)
    ·
     refine XE rfl rfl<|QM (QC rfl)<|XE rfl rfl<|QM (QC rfl)<|XE rfl rfl<|QM (Jx rfl rfl (by omega))<|XE rfl rfl ?_
     have hi0:0<i.i:=by have:=of_decide_eq_true hb33;omega
     refine QM (Jc (n:=n) ((i.i - 1)) (fun F ⟨⟨⟨⟨⟨hGl,hR,hP⟩,_⟩,_⟩,hs25⟩,_⟩=>hR) rfl (congrArg (fun z:Int=>some (Value.int .i64 z)) (by omega)) Zp X3 (by omega))<|XE rfl rfl<|QM (QI rfl Wf Qs)<|XE rfl rfl<|QM (Ji (n:=n) (((i.i - 1))*2+1) (fun F ⟨⟨⟨⟨⟨hGl,hR,hP⟩,_⟩,_⟩,hs25⟩,_⟩=>hR) (by omega) rfl Qs (XU (f:=Wm) (l:=ps) Vv (by omega) rfl))<|XE rfl rfl<|QM (QI rfl Wf Qs)<|XE rfl rfl<|QM (Qn rfl Qs .here (.skip (.here .nil)))<|XE rfl rfl ?_
     have hz0:=(Po (i.z (i.i - 1) (by omega))).1
     rw [H7 (show i.i - 1<ps.length by omega)] at hz0
     have hE0:E=0:=eq_of_beq hb29
     obtain ⟨hz1,_⟩:=VT (hE.trans hE0)
     have htm0:el ps (i.i - 1)∈ps:=Je (by omega)
     refine Qb rfl (fun w F hF ⟨⟨⟨⟨⟨hGl,hR,hP⟩,_⟩,_⟩,hs25⟩,_⟩=>Hs hF (ra:=(el ps (i.i - 1)).r) (rb:=(el ps i.i).r) (hP _ htm0) (hP _ htm) (WW hz0 hv.2) (WW hz1 hv.2)) (fun _=>XE rfl rfl<|QM (QU rfl rfl rfl)<|QM (Qi rfl rfl rfl)<|Q3<|QD ?_)
     refine QO rfl (fun hc=>?_) (fun hc=>?_)
     ·
      have h44:=of_decide_eq_true hc
      refine QB<|QA (QE rfl)<|QF<|QD<|QG<|QB<|QA (QC rfl)<|QA (QU rfl rfl rfl)<|QF<|QD ?_
      refine QO rfl (fun hc=>?_) (fun hc=>?_)
      ·
       refine QG<|QB<|QA (QC rfl)<|QA (QE rfl)<|QF<|QD<|QS ?_
       repeat (first | refine JN ?_ | refine JE ?_)
       exact QQ (()) rfl (.tmp rfl .nil) (congrArg (Value.int .i64) (E3 hal hbig i hlt (by first | (rw [hst];exact if_pos ⟨eq_of_beq hb29,by have:=of_decide_eq_true hb33;omega,h44⟩) | (rw [hst];exact if_neg (fun h=>h44 h.2.2)) | (rw [hst];exact if_neg (fun h=>by have:=of_decide_eq_false hb33;omega)) | (rw [hst];exact if_neg (fun h=>by rw [h.1] at hb29;cases hb29))) (bne_iff_ne.1 hc))) (fun F ⟨⟨⟨⟨⟨⟨hGl,hR,hP⟩,_⟩,_⟩,hs25⟩,_⟩,_⟩=>trivial)
      ·
       refine QN<|Qm<|QD<|QB<|QA (Qw rfl rfl (by omega))<|QA (QC rfl)<|QF ?_
       exact Qo (⟨i.i+1,hlt,fun j hj=>by
        rcases Nat.lt_or_ge j i.i with g | g
        ·exact i.z j g
        ·rw [show j=i.i from by omega];first | exact absurd hc (by decide) | (rw [hst,if_neg (fun h=>h44 h.2.2)];exact bne_eq_false_iff_eq.1 hc) | (rw [hst,if_neg (fun h=>by have:=of_decide_eq_false hb33;omega)];exact bne_eq_false_iff_eq.1 hc) | (rw [hst,if_neg (fun h=>by rw [h.1] at hb29;cases hb29)];exact bne_eq_false_iff_eq.1 hc)⟩) (by show n - (i.i+1)<n - i.i;omega) ⟨rfl,rfl,rfl,rfl,rfl,trivial⟩ (.cons _ .slnil) (fun F h=>h.1.1.1.1.1)
     ·
      have h44:=of_decide_eq_false hc
      refine QN<|QD<|QG<|QB<|QA (QC rfl)<|QA (QU rfl rfl rfl)<|QF<|QD ?_
      refine QO rfl (fun hc=>?_) (fun hc=>?_)
      ·
       refine QG<|QB<|QA (QC rfl)<|QA (QE rfl)<|QF<|QD<|QS ?_
       repeat (first | refine JN ?_ | refine JE ?_)
       exact QQ (()) rfl (.tmp rfl .nil) (congrArg (Value.int .i64) (E3 hal hbig i hlt (by first | (rw [hst];exact if_pos ⟨eq_of_beq hb29,by have:=of_decide_eq_true hb33;omega,h44⟩) | (rw [hst];exact if_neg (fun h=>h44 h.2.2)) | (rw [hst];exact if_neg (fun h=>by have:=of_decide_eq_false hb33;omega)) | (rw [hst];exact if_neg (fun h=>by rw [h.1] at hb29;cases hb29))) (bne_iff_ne.1 hc))) (fun F ⟨⟨⟨⟨⟨⟨hGl,hR,hP⟩,_⟩,_⟩,hs25⟩,_⟩,_⟩=>trivial)
      ·
       refine QN<|Qm<|QD<|QB<|QA (Qw rfl rfl (by omega))<|QA (QC rfl)<|QF ?_
       exact Qo (⟨i.i+1,hlt,fun j hj=>by
        rcases Nat.lt_or_ge j i.i with g | g
        ·exact i.z j g
        ·rw [show j=i.i from by omega];first | exact absurd hc (by decide) | (rw [hst,if_neg (fun h=>h44 h.2.2)];exact bne_eq_false_iff_eq.1 hc) | (rw [hst,if_neg (fun h=>by have:=of_decide_eq_false hb33;omega)];exact bne_eq_false_iff_eq.1 hc) | (rw [hst,if_neg (fun h=>by rw [h.1] at hb29;cases hb29)];exact bne_eq_false_iff_eq.1 hc)⟩) (by show n - (i.i+1)<n - i.i;omega) ⟨rfl,rfl,rfl,rfl,rfl,trivial⟩ (.cons _ .slnil) (fun F h=>h.1.1.1.1.1)
    ·
     refine Jt rfl rfl rfl<|Jt rfl rfl rfl<|Jt rfl rfl rfl<|Jt rfl rfl rfl<|Jt rfl rfl rfl<|Jt rfl rfl rfl<|Jt rfl rfl rfl<|Jt rfl rfl rfl<|Jt rfl rfl rfl<|Jt rfl rfl rfl<|QM (Qh rfl rfl rfl)<|Q3<|QD<|Zw rfl<|QN<|QD<|QG<|QB<|QA (QC rfl)<|QA (QU rfl rfl rfl)<|QF<|QD ?_
     refine QO rfl (fun hc=>?_) (fun hc=>?_)
     ·
      refine QG<|QB<|QA (QC rfl)<|QA (QE rfl)<|QF<|QD<|QS ?_
      repeat (first | refine JN ?_ | refine JE ?_)
      exact QQ (()) rfl (.tmp rfl .nil) (congrArg (Value.int .i64) (E3 hal hbig i hlt (by first | (rw [hst];exact if_pos ⟨eq_of_beq hb29,by have:=of_decide_eq_true hb33;omega,h44⟩) | (rw [hst];exact if_neg (fun h=>h44 h.2.2)) | (rw [hst];exact if_neg (fun h=>by have:=of_decide_eq_false hb33;omega)) | (rw [hst];exact if_neg (fun h=>by rw [h.1] at hb29;cases hb29))) (bne_iff_ne.1 hc))) (fun F ⟨⟨⟨⟨⟨hGl,hR,hP⟩,_⟩,_⟩,hs25⟩,_⟩=>trivial)
     ·
      refine QN<|Qm<|QD<|QB<|QA (Qw rfl rfl (by omega))<|QA (QC rfl)<|QF ?_
      exact Qo (⟨i.i+1,hlt,fun j hj=>by
        rcases Nat.lt_or_ge j i.i with g | g
        ·exact i.z j g
        ·rw [show j=i.i from by omega];first | exact absurd hc (by decide) | (rw [hst,if_neg (fun h=>h44 h.2.2)];exact bne_eq_false_iff_eq.1 hc) | (rw [hst,if_neg (fun h=>by have:=of_decide_eq_false hb33;omega)];exact bne_eq_false_iff_eq.1 hc) | (rw [hst,if_neg (fun h=>by rw [h.1] at hb29;cases hb29)];exact bne_eq_false_iff_eq.1 hc)⟩) (by show n - (i.i+1)<n - i.i;omega) ⟨rfl,rfl,rfl,rfl,rfl,trivial⟩ (.cons _ .slnil) (fun F h=>h.1.1.1.1)
   ·
    refine Jt rfl rfl rfl<|Jt rfl rfl rfl<|QM (Qh rfl rfl rfl)<|QM (QC rfl)<|Jt rfl rfl rfl<|Jt rfl rfl rfl<|Jt rfl rfl rfl<|Jt rfl rfl rfl<|Jt rfl rfl rfl<|Jt rfl rfl rfl<|Jt rfl rfl rfl<|Jt rfl rfl rfl<|Jt rfl rfl rfl<|Jt rfl rfl rfl<|QM (Qh rfl rfl rfl)<|Q3<|QD<|Zw rfl<|QN<|QD<|QG<|QB<|QA (QC rfl)<|QA (QU rfl rfl rfl)<|QF ?_
    refine QD ?_
    refine QO rfl (fun hc=>?_) (fun hc=>?_)
    ·
     refine QG<|QB<|QA (QC rfl)<|QA (QE rfl)<|QF<|QD<|QS ?_
     repeat (first | refine JN ?_ | refine JE ?_)
     exact QQ (()) rfl (.tmp rfl .nil) (congrArg (Value.int .i64) (E3 hal hbig i hlt (by first | (rw [hst];exact if_pos ⟨eq_of_beq hb29,by have:=of_decide_eq_true hb33;omega,h44⟩) | (rw [hst];exact if_neg (fun h=>h44 h.2.2)) | (rw [hst];exact if_neg (fun h=>by have:=of_decide_eq_false hb33;omega)) | (rw [hst];exact if_neg (fun h=>by rw [h.1] at hb29;cases hb29))) (bne_iff_ne.1 hc))) (fun F ⟨⟨⟨⟨⟨hGl,hR,hP⟩,_⟩,_⟩,hs25⟩,_⟩=>trivial)
    ·
     refine QN<|Qm<|QD<|QB<|QA (Qw rfl rfl (by omega))<|QA (QC rfl)<|QF ?_
     exact Qo (⟨i.i+1,hlt,fun j hj=>by
        rcases Nat.lt_or_ge j i.i with g | g
        ·exact i.z j g
        ·rw [show j=i.i from by omega];first | exact absurd hc (by decide) | (rw [hst,if_neg (fun h=>h44 h.2.2)];exact bne_eq_false_iff_eq.1 hc) | (rw [hst,if_neg (fun h=>by have:=of_decide_eq_false hb33;omega)];exact bne_eq_false_iff_eq.1 hc) | (rw [hst,if_neg (fun h=>by rw [h.1] at hb29;cases hb29)];exact bne_eq_false_iff_eq.1 hc)⟩) (by show n - (i.i+1)<n - i.i;omega) ⟨rfl,rfl,rfl,rfl,rfl,trivial⟩ (.cons _ .slnil) (fun F h=>h.1.1.1.1)
  ·
   have hge:n≤i.i:=by have:=of_decide_eq_false hc;omega
   refine Q6 ?_
   repeat (first | refine Qc ?_ | refine QX (by rfl) ?_)
   refine Qd<|QD<|QG<|QB<|QA (QE rfl)<|QF<|QD<|QS ?_
   exact QQ (()) rfl (.tmp rfl .nil) (congrArg (Value.int .i64) (OY hal hbig i hge)) (fun F ⟨hGl,hR,hP⟩=>trivial)
end
section
open Go.RowKit Ig
theorem SY {w:World} {F:Gs} {q:Option Addr} {n cap b:Nat} {ps:List GX} {v:Int} (hF:Fits F w) (hGl:JC F) (hB:F b=some (#[.int .i64 v],3)) (hR:JF F q n 2 (ps.flatMap Wm)) (hP:Yo F ps) (hln:ps.length=n) (hf:∀ t∈ps,t.f.length≤1000000∧t.k.length≤1000000) (hl:ps.length≤1000000) (hv:0≤v∧v≤24):QW Tryz.prog 208 [.slice q n cap,.pointer (some ⟨b,0,none⟩)] w F (.int .i64 (X4 (XG ps) v)):=by
 refine QT.intro (G:=fun F=>JC F∧F b=some (#[.int .i64 v],3)∧JF F q n 2 (ps.flatMap Wm)∧Yo F ps) Tryz.func208 rfl (by rfl) rfl rfl hF (fun F' hF'=>⟨hGl.le hF',hF' _ _ hB,hR.le hF',hP.le hF'⟩)<|QG<|QB<|QA (QE rfl)<|QF<|QD<|QG<|QB<|QA (QC rfl)<|QA (NB (c:=#[.int .i64 v]) (T':=3) rfl Qu (fun F ⟨hGl,hB,hR,hP⟩=>hB) rfl)<|QH rfl (fun w F hF ⟨hGl,hB,hR,hP⟩=>Bz hF (hGl) (hR) (hP) (hln) (hf) (hl) (hv)) (fun _=>QA (QE rfl)<|QF<|QD<|QS ?_)
 exact QQ (()) rfl (.tmp rfl .nil) (rfl) (fun F ⟨⟨hGl,hB,hR,hP⟩,_⟩=>trivial)
end
section
open Go.RowKit Ig
instance :Inhabited VF:=⟨(⟨none,0,0⟩,[])⟩
section
variable [Dr] [df:Df] {P:Program} {N:Nat} {m:Sl} {S:World→Prop} {ty:TypeId}
theorem NA {g:FuncId} {cap:Array Operand} {vs:List Value} (hv:En m cap.toList=some vs):Qt P N m S (.makeFunc (.func g) #[] cap) ty (.func (.func g) #[] vs.toArray):=fun a w _ _ _ _ ha _=>by
 have:=ha.En hv
 have e:cap.map a.eval=vs.toArray:=by rw [← this];apply Array.ext';simp
 simp [execOp,Instr.makeFunc,e]
end
def YO (F:Gs) (ls:List VF):Prop:=∀ e∈ls,JF F e.1.q e.1.n 2 (e.2.flatMap Wm)∧Yo F e.2
theorem YO.le {F F':Gs} {ls:List VF} (h:YO F ls) (k:Gs.le F F'):YO F' ls:=fun e he=>⟨(h e he).1.le k,(h e he).2.le k⟩
def Vj (e:VF):Prop:=e.2.length=e.1.n∧(∀ t∈e.2,t.f.length≤1000000∧t.k.length≤1000000)∧e.2.length≤1000000
def WK (ls:List VF) (v:Int):Int:=if Zo v=0 then Qj (ls.map fun e=>X4 (XG e.2) v) else Zo v
theorem FR {w:World} {F:Gs} {q:Option Addr} {n c f:Nat} {ls:List VF} {fE:VF→Int} {c1 c2:List Value} {G0:Gs→Prop} (hF:Fits F w) (hg:∀ F F',Gs.le F F'→G0 F→G0 F') (h0:G0 F) (hR:JF F q n 1 (ls.map fun e=>e.1.v)) (hn:ls.length=n) (hb:n≤1000000) (hc:∀ e∈ls,∀ w F,Fits F w→G0 F→QW Tryz.prog f (c1++[e.1.v]++c2) w F (.int .i64 (fE e))) :
  QW Tryz.prog 207 [.slice q n c,.func (.func f) c1.toArray c2.toArray] w F (.int .i64 (Qj (ls.map fE))):=by
 refine QT.intro (G:=fun F=>G0 F∧JF F q n 1 (ls.map fun e=>e.1.v)) Tryz.func207 rfl (by rfl) rfl rfl hF (fun F' hF'=>⟨hg F F' hF' h0,hR.le hF'⟩)<|QG<|QB<|QA (QE rfl)<|QF<|QD<|QG<|QG<|QB<|QA (QC rfl)<|QA (Ql rfl EA)<|QA (QC rfl)<|QF<|QD<|Qa<|YU (ι:=Y5 ls fE) [(1,_),(8,_),(9,_)] (fun i=>[(10,.int .i64 ((i.i:Nat):Int))]) (fun i=>ls.length - i.i) (Y5.start _ _) ⟨rfl,rfl,rfl,trivial⟩ ⟨rfl,trivial⟩ (fun i=>?_)
 simp only [List.cons_append,List.nil_append]
 have hi:=i.le
 refine QG<|QB<|QA (QU rfl rfl rfl)<|QF<|QD<|QG ?_
 refine QO rfl (fun hc2=>?_) (fun hc2=>?_)
 ·
  have hlt:i.i<ls.length:=by have:=of_decide_eq_true hc2;omega
  have hem:=Je hlt
  refine QN<|QD<|QG<|Qa<|QG<|QB<|QA (Jc (n:=n) (i.i) (fun F ⟨hG0,hR⟩=>hR) rfl rfl EA Mm (by omega))<|QA (Ji (n:=n) ((i.i)*1) (fun F ⟨hG0,hR⟩=>hR) (by omega) rfl Mm (NU (f:=fun e:VF=>e.1.v) (l:=ls) (by omega)))<|QA (QE rfl)<|QF<|QD<|QG<|QB<|QA (QC rfl)<|QA (QC rfl)<|WL (c1:=c1) (c2:=c2) rfl rfl (fun w F hF ⟨hG0,hR⟩=>hc _ hem w F hF hG0) (fun _=>QA (QE rfl)<|QF<|QD<|QG<|QB<|QA (QC rfl)<|QA (QU rfl rfl rfl)<|QF<|QD ?_)
  refine QO rfl (fun hc2=>?_) (fun hc2=>?_)
  ·
   have h18:=bne_iff_ne.1 hc2
   refine QG<|QB<|QA (QC rfl)<|QA (QE rfl)<|QF<|QD<|QS ?_
   repeat (first | refine JN ?_ | refine JE ?_)
   exact QQ (()) rfl (.tmp rfl .nil) (congrArg (Value.int .i64) (i.hit hlt h18)) (fun F ⟨⟨hG0,hR⟩,_⟩=>trivial)
  ·
   have h18:=bne_eq_false_iff_eq.1 hc2
   refine QN<|Qm<|QD<|QB<|QA (Qw rfl rfl (by omega))<|QA (QC rfl)<|QF ?_
   exact Qo (i.next hlt h18) (by show ls.length - (i.i+1)<ls.length - i.i;omega) ⟨rfl,rfl,rfl,rfl,trivial⟩ (List.Sublist.refl _) (fun F h=>h.1)
 ·
  have hge:ls.length≤i.i:=by have:=of_decide_eq_false hc2;omega
  refine Q6 ?_
  repeat (first | refine Qc ?_ | refine QX (by rfl) ?_)
  refine Qd<|QD<|QG<|QB<|QA (QE rfl)<|QF<|QD<|QS ?_
  exact QQ (()) rfl (.tmp rfl .nil) (congrArg (Value.int .i64) (i.stop hge)) (fun F ⟨hG0,hR⟩=>trivial)
theorem H6 {w:World} {F:Gs} {q:Option Addr} {n c:Nat} {ls:List VF} {v:Int} (hF:Fits F w) (hGl:JC F) (hR:JF F q n 1 (ls.map fun e=>e.1.v)) (hA:YO F ls) (hn:ls.length=n) (hb:n≤1000000) (ht:∀ e∈ls,Vj e) :
  QW Tryz.prog 128 [.int .i64 v,.slice q n c] w F (.int .i64 (WK ls v)):=by
 refine QT.intro (G:=fun F=>JC F∧JF F q n 1 (ls.map fun e=>e.1.v)∧YO F ls) Tryz.func128 rfl (by rfl) rfl rfl hF (fun F' hF'=>⟨hGl.le hF',hR.le hF',hA.le hF'⟩)<|QG<|QB<|Q5 rfl (vs:=[_]) rfl (fun b2=>QA (QE rfl)<|QF<|QD<|QG<|QG<|QB<|QA (Qn rfl Qu .here (.here .nil))<|QH rfl (fun w F hF ⟨hGl,hR,hA⟩=>Gp hF ) (fun _=>QA (QE rfl)<|QF<|QD<|QG<|QB<|QA (QC rfl)<|QA (QU rfl rfl rfl)<|QF<|QD ?_))
 refine QO rfl (fun hc=>?_) (fun hc=>?_)
 ·
  have hc0:=bne_iff_ne.1 hc
  refine QG<|QB<|QA (QC rfl)<|QA (QE rfl)<|QF<|QD<|QS ?_
  exact QQ (()) rfl (.tmp rfl .nil) (congrArg (Value.int .i64) (by unfold WK;rw [if_neg hc0])) (fun F ⟨⟨hGl,hR,hA⟩,_⟩=>trivial)
 ·
  have hc0:=bne_eq_false_iff_eq.1 hc
  have hv:=(VB v).1 hc0
  refine QN<|QD<|QG<|QB<|QA (QC rfl)<|D0 (b:=b2) .here<|QA (NA rfl)<|QH rfl (fun w F hF ⟨⟨⟨hGl,hR,hA⟩,_⟩,hB⟩=>FR (f:=208) (fE:=fun e=>X4 (XG e.2) v) (c1:=[]) (c2:=[.pointer (some ⟨b2,0,none⟩)]) (G0:=fun F=>JC F∧YO F ls∧F b2=some (#[.int .i64 v],3)) hF (fun F F' hle h=>⟨h.1.le hle,h.2.1.le hle,hle _ _ h.2.2⟩) ⟨hGl,hA,hB⟩ hR hn hb (fun e he w F hF h=>SY hF h.1 h.2.2 (h.2.1 e he).1 (h.2.1 e he).2 (ht e he).1 (ht e he).2.1 (ht e he).2.2 hv)) (fun _=>QA (QE rfl)<|QF<|QD<|QS ?_)
  exact QQ (()) rfl (.tmp rfl .nil) (congrArg (Value.int .i64) (by unfold WK;rw [if_pos hc0])) (fun F ⟨⟨⟨⟨hGl,hR,hA⟩,_⟩,hB⟩,_⟩=>trivial)
end
section
open Go.RowKit Ig
def JM (p:Pt):List Tm:=p.map fun x=>(JA x.1,x.2)
theorem TB (ts:List GX):ts.map qV=JM (XG ts):=by simp [JM,XG,qV]
theorem RF:∀ (p:List Tm) (t:Tm),(Zf p t).length≤p.length+1
 |[],t=>by
  unfold Zf;split<;>simp
 |x::p,t=>by
  have:=RF p t
  unfold Zf
  repeat' split
  all_goals simp only [List.length_cons]
  all_goals omega
theorem T6:∀ (l p:List Tm),(l.foldl Zf p).length≤p.length+l.length
 |[],p=>by simp
 |t::l,p=>by
  have h1:=T6 l (Zf p t)
  have h2:=RF p t
  simp only [List.foldl_cons,List.length_cons];omega
theorem WG (l:List Tm):(XH l).length≤l.length:=by have:=T6 l [];simpa [XH] using this
theorem T1:∀ (l p:List Tm) (x:Tm),x∈l.foldl Zf p→(∃ y∈p,y.2=x.2)∨∃ y∈l,y.2=x.2
 |[],p,x,h=>.inl ⟨x,h,rfl⟩
 |t::l,p,x,h=>by
  rw [List.foldl_cons] at h
  rcases T1 l _ x h with ⟨y,hy,e⟩ | ⟨y,hy,e⟩
  ·rcases Dh hy with h2 | h2
   ·exact .inl ⟨y,h2,e⟩
   ·exact .inr ⟨t,by simp,by rw [← h2];exact e⟩
  ·exact .inr ⟨y,by simp [hy],e⟩
theorem Di {l:List Tm} {x:Tm} (h:x∈XH l):∃ y∈l,y.2=x.2:=by
 rcases T1 l [] x h with ⟨y,hy,_⟩ | h
 ·cases hy
 ·exact h
theorem Wl {p:List Tm} (h:Canon p) {t:Tm} (ht:t∈p):Ig.Jl p t.2=t.1:=by
 induction p with
 |nil=>cases ht
 |cons x p ih =>
  rcases List.mem_cons.1 ht with rfl | ht
  ·exact h.head
  ·have hb:=(List.pairwise_cons.1 h.xY).1 t ht
   have hne:x.2≠t.2:=Lz hb
   simp only [Ig.Jl]
   rw [if_neg hne,Rat.zero_add];exact ih h.tail ht
theorem DV {l:List Tm} {t:Tm} (h:t∈XH l):JX t.1≤Zj l+1:=by
 rw [← Wl (Yj l) h,Wh];exact BI l t.2
theorem DW {l:List Tm} {k:Nat} (h:∀ t∈l,JX t.1≤k):Zj l≤l.length*(k+1):=by
 induction l with
 |nil=>simp [Zj]
 |cons x l ih =>
  have e:Zj (x::l)=JX x.1+1+Zj l:=by unfold Zj;rw [List.map_cons,List.sum_cons]
  have h1:=ih fun t ht=>h t (by simp [ht])
  have h2:=h x (by simp)
  rw [e,List.length_cons,Nat.add_mul];omega
theorem PX {a b:List Int} (h:VX a b<0):before a b=true:=by rw [Wi];exact decide_eq_true h
theorem WD {α:Type} [Inhabited α] {R:α→α→Prop} (ht:∀ a b c,R a b→R b c→R a c):∀ (l:List α),(∀ i,0<i→i<l.length→R (el l (i - 1)) (el l i))→l.Pairwise R
 |[],_=>List.Pairwise.nil
 |x::l,h=>by
  have ih:=WD ht l fun i h0 hi=>by
   have:=h (i+1) (by omega) (by simp;omega)
   have e1:el (x::l) (i+1)=el l i:=rfl
   have e2:el (x::l) (i+1 - 1)=el l (i - 1):=by
    obtain ⟨j,rfl⟩:∃ j,i=j+1:=⟨i - 1,by omega⟩
    rfl
   rw [e1,e2] at this;exact this
  refine List.pairwise_cons.2 ⟨?_,ih⟩
  cases l with
  |nil=>intro y hy;cases hy
  |cons z l =>
   have hz:R x z:=h 1 (by omega) (by simp)
   intro y hy
   rcases List.mem_cons.1 hy with rfl | hy
   ·exact hz
   ·exact ht _ _ _ hz ((List.pairwise_cons.1 ih).1 y hy)
structure Yx (p:Pt) (v:Int):Prop where
 len:p.length≤64
 term:∀ x∈p,Vm x.1 x.2 v=0
 can:Canon (JM p)
theorem V5 {p:Pt} {v:Int} (h:X4 p v=0):Yx p v:=by
 unfold X4 at h
 split at h
 ·omega
 ·rename_i hl
  have hl':p.length≤64:=by rw [decide_eq_true_eq] at hl;omega
  have hz:∀ i,i<p.length→Wr p v i=0:=by
   have key:∀ (l:List Int),Qj l=0→∀ x∈l,x=0:=by
    intro l
    induction l with
    |nil=>intro _ x hx;cases hx
    |cons a l ih =>
     intro h x hx
     unfold Qj at h
     by_cases g:a=0
     ·rw [if_pos g] at h
      rcases List.mem_cons.1 hx with rfl | hx
      ·exact g
      ·exact ih h x hx
     ·rw [if_neg g] at h;exact absurd h g
   intro i hi
   exact key _ h _ (List.mem_map.2 ⟨i,by simpa using hi,rfl⟩)
  have hs:=fun i hi=>Po (hz i hi)
  have hel:∀ x∈p,∃ i,i<p.length∧el p i=x:=fun x hx=>by
   obtain ⟨i,hi,e⟩:=List.getElem_of_mem hx
   exact⟨i,hi,by rw [Zi hi];exact e⟩
  refine⟨hl',fun x hx=>?_,⟨?_,fun t ht=>?_⟩⟩
  ·obtain ⟨i,hi,rfl⟩:=hel x hx;exact(hs i hi).1
  ·unfold JM
   rw [List.pairwise_map]
   refine WD (R:=fun a b:List UInt8×List Int=>before a.2 b.2=true) (fun a b c h k=>before_trans h k) p fun i h0 hi=>?_
   exact PX ((hs i hi).2.2 h0)
  ·unfold JM at ht
   obtain ⟨x,hx,rfl⟩:=List.mem_map.1 ht
   obtain ⟨i,hi,rfl⟩:=hel x hx
   have h1:=(VI (hs i hi).1).2.2.2
   have h2:=(hs i hi).2.1
   intro e
   have h3:=(Jq h1).1
   have e':JA (el p i).1=0:=e
   rw [e'] at h3
   exact h2 (h3.trans M9)
theorem Yx.sz {p:Pt} {v:Int} (h:Yx p v):∀ t∈JM p,JX t.1≤2400:=fun t ht=>by
 unfold JM at ht
 obtain ⟨x,hx,rfl⟩:=List.mem_map.1 ht
 exact Q7 (VI (h.term x hx)).2.2.2
theorem Yx.Zj {p:Pt} {v:Int} (h:Yx p v):YtknegjaeoffnbaaGreatDoor.Zj (JM p)≤160000:=by
 have h1:=DW h.sz
 have h2:(JM p).length≤64:=by unfold JM;rw [List.length_map];exact h.len
 have:=Nat.mul_le_mul_right 2401 h2
 omega
theorem Yx.pw {p:Pt} {v:Int} (h:Yx p v) (hv:v≤24):∀ t∈JM p,PW t.2:=fun t ht=>by
 unfold JM at ht
 obtain ⟨x,hx,rfl⟩:=List.mem_map.1 ht
 exact WW (h.term x hx) hv
end
section
open Go.RowKit Ig
def vH (ls:List VF) (v:Int) (l:List Tm):Int:=if WK ls v=0 then Da l else WK ls v
def vG (ls:List VF) (v:Int) (l:List Tm):Pt:=if WK ls v=0 then PK l else []
theorem MJ {ls:List VF} {v:Int} (h:WK ls v=0):(0≤v∧v≤24)∧∀ e∈ls,Yx (XG e.2) v:=by
 unfold WK at h
 split at h
 ·rename_i g
  refine⟨(VB v).1 g,fun e he=>V5 ?_⟩
  have key:∀ (l:List Int),Qj l=0→∀ x∈l,x=0:=by
   intro l
   induction l with
   |nil=>intro _ x hx;cases hx
   |cons a l ih =>
    intro h x hx
    unfold Qj at h
    by_cases g:a=0
    ·rw [if_pos g] at h
     rcases List.mem_cons.1 hx with rfl | hx
     ·exact g
     ·exact ih h x hx
    ·rw [if_neg g] at h;exact absurd h g
  exact key _ h _ (List.mem_map.2 ⟨e,he,rfl⟩)
 ·rename_i g;exact absurd h g
theorem Vn {w:World} {F:Gs} {a:VF} {v:Int} (hF:Fits F w) (hGl:JC F) (hR:JF F a.1.q a.1.n 2 (a.2.flatMap Wm)) (hP:Yo F a.2) (ht:Vj a) (ho:Yx (XG a.2) v) (hv:0≤v∧v≤24) :
  QT Tryz.prog 130 [a.1.v] w F (fun(c:W1)=>c.1.v) (fun c F=>Jm F c.1 c.2 (JM (XG a.2))):=by
 have hs:=ho.Zj
 have h:=q8 hF hGl (r:=a.1) (ps:=a.2) hR hP ht.1 (by have:=ho.len;simp [XG] at this;omega) (fun t htm=>?_) (by rw [TB];omega)
 ·rw [TB,GH ho.can] at h;exact h
 ·have h1:=ho.term (t.f,t.k) (List.mem_map.2 ⟨t,htm,rfl⟩)
  exact⟨(VI h1).2.2.2,(ht.2.1 t htm).1,WW h1 hv.2⟩
theorem Jm.len {F:Gs} {s:Sr} {ts:List XY} {p:List Tm} (h:Jm F s ts p):ts.length=p.length:=by rw [← h.2.2.1];simp [JL]
theorem XJ {ts:List XY} {p:List Tm} {Q:Tm→Prop} (h:JL ts=p) (hq:∀ t∈p,Q t):∀ t∈ts,Q t.t:=fun t ht=>hq _ (h ▸ List.mem_map_of_mem ht)
theorem NL {l:List Tm} (hp:∀ t∈l,PW t.2):∀ t∈XH l,PW t.2:=fun t ht=>by
 obtain ⟨y,hy,e⟩:=Di ht
 rw [← e];exact hp y hy
end
section
open Go.RowKit Ig
def vF (c:List UInt8) (p:Pt) (v:Int) (l:List Tm):Int:=if Qj [Zo v,Qp c]=0 then(if X4 p v=0 then Da l else X4 p v) else Qj [Zo v,Qp c]
def vD (c:List UInt8) (p:Pt) (v:Int) (l:List Tm):Pt:=if Qj [Zo v,Qp c]=0 then(if X4 p v=0 then PK l else []) else []
theorem NQ {a:Rat} {l:List Tm} {t:Tm} (h:t∈WO a l):∃ y∈l,t=(y.1*a,y.2):=by
 unfold WO at h
 split at h
 ·cases h
 ·obtain ⟨y,hy,e⟩:=List.mem_map.1 h;exact⟨y,hy,e.symm⟩
theorem A0 (a:Rat) (l:List Tm):(WO a l).length≤l.length:=by
 unfold WO;split<;>simp
def P1 (p:Pt) (n:Nat):Int:=if Qj [if decide ((n:Int)=0)=true then 2 else 0,if decide ((n:Int)>25)=true then 5 else 0]=0 then X4 p ((n:Int) - 1) else Qj [if decide ((n:Int)=0)=true then 2 else 0,if decide ((n:Int)>25)=true then 5 else 0]
theorem IE {n:Nat} (h:Qj [if decide ((n:Int)=0)=true then 2 else 0,if decide ((n:Int)>25)=true then 5 else 0]=0):1≤n∧n≤25:=by
 obtain ⟨h1,h2⟩:=VT h
 simp only [decide_eq_true_eq] at h1 h2
 constructor
 ·split at h1<;>omega
 ·split at h2<;>omega
theorem xZ {w:World} {F:Gs} {a:VF} {c:List UInt8} {v:Int} (hF:Fits F w) (hGl:JC F) (hR:JF F a.1.q a.1.n 2 (a.2.flatMap Wm)) (hA:Yo F a.2) (ht:Vj a) (hcl:c.length≤1000000) :
  QT Tryz.prog 76 [tx c,a.1.v,.int .i64 v] w F (fun(r:VF)=>.tuple #[r.1.v,.int .i64 (vF c (XG a.2) v (WO (JA c) (JM (XG a.2))))]) (fun r F=>Vh F r.1 r.2 (vD c (XG a.2) v (WO (JA c) (JM (XG a.2))))):=by
 dsimp only [Sr.v]
 refine QT.intro (G:=fun F=>JC F∧JF F a.1.q a.1.n 2 (a.2.flatMap Wm)∧Yo F a.2) Tryz.func76 rfl (by rfl) rfl rfl hF (fun F' hF'=>⟨hGl.le hF',hR.le hF',hA.le hF'⟩)<|QG<|QB<|QA (QE rfl)<|QA (QE rfl)<|QF<|QD<|QG<|QG<|QB<|QA (QC rfl)<|QH rfl (fun w F hF ⟨hGl,hR,hA⟩=>Gp hF ) (fun _=>QA (QC rfl)<|QH rfl (fun w F hF ⟨⟨hGl,hR,hA⟩,_⟩=>DD hF hGl (hcl)) (fun _=>QV rfl (Q8 Zn) Y3 BA rfl rfl (fun b14=>QH rfl (fun w F hF ⟨⟨⟨⟨hGl,hR,hA⟩,_⟩,_⟩,hs14⟩=>YB hF (JF.of (cs:=List.map Qz [Zo v,Qp c]) hs14 rfl) (by decide)) (fun _=>QA (QE rfl)<|QF<|QD<|QG<|QB<|QA (QC rfl)<|QA (QU rfl rfl rfl)<|QF<|QD ?_))))
 refine QO rfl (fun hc=>?_) (fun hc=>?_)
 ·
  have hc0:=bne_iff_ne.1 hc
  refine QG<|QB<|QA (QC rfl)<|QA (QE rfl)<|QA (QE rfl)<|QF<|QD<|QS ?_
  exact JH ((⟨none,0,0⟩,[])) rfl (.tmp rfl (.tmp rfl .nil)) (by unfold vF;rw [if_neg hc0]) (fun F ⟨⟨⟨⟨⟨hGl,hR,hA⟩,_⟩,_⟩,hs14⟩,_⟩=>by unfold vD;rw [if_neg hc0];exact Vh.nil F)
 ·
  have hc0:=bne_eq_false_iff_eq.1 hc
  obtain ⟨hc1,hc2⟩:=VT hc0
  have hv:=(VB v).1 hc1
  refine QN<|QD<|QG<|QG<|QB<|QA (QC rfl)<|QA (QC rfl)<|QH rfl (fun w F hF ⟨⟨⟨⟨⟨hGl,hR,hA⟩,_⟩,_⟩,hs14⟩,_⟩=>Bz hF (hGl) (hR) (hA) (ht.1) (ht.2.1) (ht.2.2) (hv)) (fun _=>QA (QE rfl)<|QF<|QD<|QG<|QB<|QA (QC rfl)<|QA (QU rfl rfl rfl)<|QF<|QD ?_)
  refine QO rfl (fun hc=>?_) (fun hc=>?_)
  ·
   have ht0:=bne_iff_ne.1 hc
   refine QG<|QB<|QA (QC rfl)<|QA (QE rfl)<|QA (QE rfl)<|QF<|QD<|QS ?_
   exact JH ((⟨none,0,0⟩,[])) rfl (.tmp rfl (.tmp rfl .nil)) (by unfold vF;rw [if_pos hc0,if_neg ht0]) (fun F ⟨⟨⟨⟨⟨⟨hGl,hR,hA⟩,_⟩,_⟩,hs14⟩,_⟩,_⟩=>by unfold vD;rw [if_pos hc0,if_neg ht0];exact Vh.nil F)
  ·
   have ht0:=bne_eq_false_iff_eq.1 hc
   have oa:=V5 ht0
   have sa:=oa.Zj
   have hpa:∀ t∈JM (XG a.2),PW t.2:=oa.pw hv.2
   have la:(JM (XG a.2)).length≤64:=by unfold JM;rw [List.length_map];exact oa.len
   have hzc:=Q7 hc2
   have hll:=A0 (JA c) (JM (XG a.2))
   refine QN<|QD<|QG<|QB<|QA (QC rfl)<|QH rfl (fun w F hF ⟨⟨⟨⟨⟨⟨hGl,hR,hA⟩,_⟩,_⟩,hs14⟩,_⟩,_⟩=>Vn hF hGl (a:=a) hR hA ht oa hv) (fun c26=>JK _ (fun w F hF h=>And.intro h.2.2.2.1 h.2.len) (fun h26p=>?_))
   obtain ⟨e26,l26⟩:=h26p
   refine QA (QC rfl)<|QH rfl (fun w F hF ⟨⟨⟨⟨⟨⟨⟨hGl,hR,hA⟩,_⟩,_⟩,hs14⟩,_⟩,_⟩,h26⟩=>Kh hF hGl (Jq hc2).1 (by omega)) (fun x28=>QH rfl (fun w F hF ⟨⟨⟨⟨⟨⟨⟨⟨hGl,hR,hA⟩,_⟩,_⟩,hs14⟩,_⟩,_⟩,h26⟩,⟨h28,h28_⟩⟩=>CC hF (p:=c26) (x:=x28) (by rw [e26];exact h26) ⟨h28,h28_⟩ (by omega) (by omega) (by rw [e26];omega)) (fun c29=>JK _ (fun w F hF h=>And.intro h.2.2.2.1 h.2.len) (fun h29p=>?_)))
   obtain ⟨e29,l29⟩:=h29p
   rw [e26] at e29 l29
   refine QH rfl (fun w F hF ⟨⟨⟨⟨⟨⟨⟨⟨⟨hGl,hR,hA⟩,_⟩,_⟩,hs14⟩,_⟩,_⟩,h26⟩,⟨h28,h28_⟩⟩,h29⟩=>GB hF (q:=c29.1.q) (n:=c29.1.n) (cap:=c29.1.cap) (ts:=c29.2) (by rw [e29];rw [e26] at h29;exact h29) hGl (XJ (Q:=fun t=>PW t.2) e29 (fun t ht=>by obtain ⟨y,hy,e⟩:=NQ ht;rw [e];exact hpa y hy)) (XJ (Q:=fun t=>JX t.1≤100000000) e29 (fun t ht=>by obtain ⟨y,hy,e⟩:=NQ ht;rw [e];have h1:=J2 y.1 (JA c);have h2:=oa.sz y hy;dsimp only;omega)) (by omega)) (fun c30=>?_)
   rw [e29]
   refine QA (QK rfl rfl)<|QA (QK rfl rfl)<|QA (QE rfl)<|QA (QE rfl)<|QF<|QD<|QS ?_
   exact JH (c30) rfl (.tmp rfl (.tmp rfl .nil)) (by unfold vF;rw [if_pos hc0,if_pos ht0];rfl) (fun F ⟨⟨⟨⟨⟨⟨⟨⟨⟨⟨hGl,hR,hA⟩,_⟩,_⟩,hs14⟩,_⟩,_⟩,h26⟩,⟨h28,h28_⟩⟩,h29⟩,h30⟩=>by unfold vD;rw [if_pos hc0,if_pos ht0];exact h30)
theorem CJ {w:World} {F:Gs} {a:VF} {n:Nat} (hF:Fits F w) (hGl:JC F) (hR:JF F a.1.q a.1.n 2 (a.2.flatMap Wm)) (hA:Yo F a.2) (ht:Vj a) (hn:n≤1000000) :
  QW Tryz.prog 185 [a.1.v,.int .i64 (n:Nat)] w F (.int .i64 (P1 (XG a.2) n)):=by
 dsimp only [Sr.v]
 refine QT.intro (G:=fun F=>JC F∧JF F a.1.q a.1.n 2 (a.2.flatMap Wm)∧Yo F a.2) Tryz.func185 rfl (by rfl) rfl rfl hF (fun F' hF'=>⟨hGl.le hF',hR.le hF',hA.le hF'⟩)<|QG<|QB<|QA (QE rfl)<|QF<|QD<|QG<|QG<|QB<|QA (QC rfl)<|QA (QU rfl rfl rfl)<|QH rfl (fun w F hF ⟨hGl,hR,hA⟩=>Zx hF ) (fun _=>QA (QC rfl)<|QA (QU rfl rfl rfl)<|QH rfl (fun w F hF ⟨⟨hGl,hR,hA⟩,_⟩=>Zx hF ) (fun _=>QV rfl (Q8 Zn) Y3 BA rfl rfl (fun b12=>QH rfl (fun w F hF ⟨⟨⟨⟨hGl,hR,hA⟩,_⟩,_⟩,hs12⟩=>YB hF (JF.of (cs:=List.map Qz [if decide ((n:Int)=0)=true then 2 else 0,if decide ((n:Int)>25)=true then 5 else 0]) hs12 rfl) (by decide)) (fun _=>QA (QE rfl)<|QF<|QD<|QG<|QB<|QA (QC rfl)<|QA (QU rfl rfl rfl)<|QF ?_))))
 refine QD ?_
 refine QO rfl (fun hc=>?_) (fun hc=>?_)
 ·
  have hc0:=bne_iff_ne.1 hc
  refine QG<|QB<|QA (QC rfl)<|QA (QE rfl)<|QF<|QD<|QS ?_
  exact QQ (()) rfl (.tmp rfl .nil) (congrArg (Value.int .i64) (by unfold P1;rw [if_neg hc0])) (fun F ⟨⟨⟨⟨⟨hGl,hR,hA⟩,_⟩,_⟩,hs12⟩,_⟩=>trivial)
 ·
  have hc0:=bne_eq_false_iff_eq.1 hc
  have hv:=IE hc0
  refine QN<|QD<|QG<|QB<|QA (QC rfl)<|QA (QC rfl)<|QA (Jx rfl rfl (by omega))<|QH rfl (fun w F hF ⟨⟨⟨⟨⟨hGl,hR,hA⟩,_⟩,_⟩,hs12⟩,_⟩=>Bz hF (hGl) (hR) (hA) (ht.1) (ht.2.1) (ht.2.2) (by omega)) (fun _=>QA (QE rfl)<|QF<|QD<|QS ?_)
  exact QQ (()) rfl (.tmp rfl .nil) (congrArg (Value.int .i64) (by unfold P1;rw [if_pos hc0])) (fun F ⟨⟨⟨⟨⟨⟨hGl,hR,hA⟩,_⟩,_⟩,hs12⟩,_⟩,_⟩=>trivial)
end
section
open Go.RowKit Ig
def FZ (v:Nat) (t:Tm):List Tm:=if 0<Qf t.2 v then [(t.1*((Qf t.2 v:Int):Rat),t.2.set v (Qf t.2 v - 1))] else []
def Ki (v:Nat) (l:List Tm):List Tm:=l.flatMap (FZ v)
structure gP (v:Nat) (ps:List XY) where
 i:Nat
 ts:List XY
 le:i≤ps.length
 hI:K7 ts (Ki v (JL (ps.take i)))
theorem RQ {v:Nat} {ps:List XY} {i:Nat} (h:i<ps.length):Ki v (JL (ps.take (i+1)))=Ki v (JL (ps.take i))++FZ v (el ps i).t:=by
 rw [Xs h];unfold Ki;rw [List.flatMap_append];simp
theorem j2 (v:Nat) (ps:List XY) (i:Nat):Zj (Ki v (JL (ps.take i)))≤Zj (Ki v (JL ps)):=by
 have e:JL ps=JL (ps.take i)++JL (ps.drop i):=by unfold JL;rw [← List.map_append,List.take_append_drop]
 have h:Zj (Ki v (JL ps))=Zj (Ki v (JL (ps.take i)++JL (ps.drop i))):=by rw [← e]
 unfold Ki at h ⊢
 rw [List.flatMap_append,Xi] at h;omega
theorem PW.set {l:List Int} (h:PW l) {v:Nat} (hk:0<Qf l v):PW (l.set v (Qf l v - 1)):=by
 refine⟨fun x hx=>?_,by rw [List.length_set];exact h.2⟩
 rcases List.mem_or_eq_of_mem_set hx with hx | rfl
 ·exact h.1 x hx
 ·by_cases hv:v<l.length
  ·have:=h.el hv;omega
  ·have:Qf l v=0:=by simp [Qf,List.getD];intro h;exact absurd h hv
   omega
theorem Rj {x:Int} (h:0≤x∧x≤1000000):sz x≤64:=Nat.le_trans (KO (b:=1000000) (by omega)) (by decide)
theorem Nv (v:Nat) (l:List Tm):(Ki v l).length≤l.length:=by
 unfold Ki
 induction l with
 |nil=>simp
 |cons t l ih =>
  rw [List.flatMap_cons,List.length_append,List.length_cons]
  have:(FZ v t).length≤1:=by unfold FZ;split<;>simp
  omega
theorem CN {w:World} {F:Gs} {p:W1} {v:Nat} (hF:Fits F w) (hGl:JC F) (hP:Jm F p.1 p.2 (JL p.2)) (hp:∀ t∈p.2,PW t.t.2∧v<t.t.2.length) (hl:p.2.length≤100000) (hzt:∀ t∈p.2,JX t.t.1≤20000000) (hz:Zj (Ki v (JL p.2))≤40000000) :
  QT Tryz.prog 138 [p.1.v,.int .i64 (v:Nat)] w F (fun(c:W1)=>c.1.v) (fun c F=>Jm F c.1 c.2 (XH (Ki v (JL p.2)))):=by
 have hpn:=hP.2.2.2.2
 dsimp only [Sr.v]
 refine QT.intro (G:=fun F=>JC F∧Jm F p.1 p.2 (JL p.2)) Tryz.func138 rfl (by rfl) rfl rfl hF (fun F' hF'=>⟨hGl.le hF',hP.le hF'⟩)<|QG<|QB<|QA (QE rfl)<|QF<|QD<|QG<|QB ?_
 refine Ve tx (fun m=>?_)
 refine QA (QE rfl)<|QF<|QD<|QG<|QG<|QB<|QA (QC rfl)<|QA (Ql rfl J1)<|QA (QC rfl)<|QF<|QD<|Qa ?_
 refine Jz (ι:=gP v p.2) [(1,_),(5,_),(11,_),(12,_)] (fun i=>[(13,.int .i64 ((i.i:Nat):Int))]) (fun i=>[(m,ZD tx (Ww i.ts))]) (fun i F=>Vk F i.ts) (fun i=>p.2.length - i.i) (⟨0,[],Nat.zero_le _,K7.nil⟩) ⟨rfl,rfl,rfl,rfl,trivial⟩ ⟨rfl,trivial⟩ (List.Sublist.refl _) (fun _ _ _ h=>by cases h) (fun i=>?_)
 simp only [List.cons_append,List.nil_append]
 have hi:=i.le
 refine QG<|QB<|QA (QU rfl rfl rfl)<|QF<|QD<|QG ?_
 refine QO rfl (fun hc=>?_) (fun hc=>?_)
 ·
  have hlt:i.i<p.2.length:=by have:=of_decide_eq_true hc;omega
  have htm:=Je hlt
  have hp1:=hp _ htm
  have hra:=(hP.2.1 _ htm).2.2.1
  have hdl:=j2 v p.2 i.i
  have hzz:=hzt _ htm
  have hb1:=hp1.1.el hp1.2
  have hl2:=hp1.1.2
  refine QN<|QD<|QG<|Qa<|QG<|QB<|QA (Jc (n:=p.1.n) (i.i) (fun F ⟨⟨hGl,hP⟩,hT⟩=>(hP).1) rfl rfl J1 Jf (by omega))<|QA (ZB (n:=p.1.n) (vs:=[.int .i64 (el p.2 (i.i)).x.n.s,.slice (el p.2 (i.i)).x.n.q (el p.2 (i.i)).x.n.n (el p.2 (i.i)).x.n.cap,.int .i64 (el p.2 (i.i)).x.d.s,.slice (el p.2 (i.i)).x.d.q (el p.2 (i.i)).x.d.n (el p.2 (i.i)).x.d.cap,.slice (el p.2 (i.i)).r.q (el p.2 (i.i)).r.n (el p.2 (i.i)).r.cap]) ((i.i)*5) (fun F ⟨⟨hGl,hP⟩,hT⟩=>(hP).1) (by omega) rfl Jf rfl (fun j v hv=>XU (f:=Yl) (l:=p.2) YS (by omega) hv)) ?_
  refine QZ Ze (fun b7=>?_)
  refine QP (vs:=[_,_,_,_,_]) rfl rfl rfl Jf rfl .here (.here (.here (.here (.here (.here .nil))))) ⟨rfl,rfl,rfl,rfl,rfl,trivial⟩<|QF<|QD<|QG<|QB<|QA (QI rfl ZE Qs)<|QA (Qn rfl Qs .here (.skip (.skip (.skip (.skip (.here .nil))))))<|QA (QC rfl)<|QA (Jc (n:=(el p.2 i.i).r.n) (v) (fun F ⟨⟨hGl,hP⟩,hT⟩=>((hP.2.1 _ htm).2).1) rfl rfl Qe Qu (by omega))<|QA (Ji (n:=(el p.2 i.i).r.n) ((v)*1) (fun F ⟨⟨hGl,hP⟩,hT⟩=>((hP.2.1 _ htm).2).1) (by omega) rfl Qu (JR (o:=(el p.2 i.i).t.2) (by omega)))<|QA (QE rfl)<|QF<|QD<|QG<|QB<|QA (QC rfl)<|QA (QU rfl rfl rfl)<|QF<|QD ?_
  refine QO rfl (fun hc=>?_) (fun hc=>?_)
  ·
   have hkp:=of_decide_eq_true hc
   refine QG<|QB<|QA (QI rfl ZE Qs)<|QA (Qn rfl Qs .here (.skip (.skip (.skip (.skip (.here .nil)))))) ?_
   refine XN rfl (List.Perm.refl _) (Sh (r:=(el p.2 i.i).r) (l:=(el p.2 i.i).t.2) (fun F ⟨⟨hGl,hP⟩,hT⟩=>(hP.2.1 _ htm).2) hra (by omega)) (fun c26=>?_)
   refine JK _ (fun w F hF h=>h.2) (fun h26=>?_)
   obtain ⟨v26,ob26⟩:=c26
   dsimp only at h26 ⊢
   obtain ⟨bb,cap,rest,rfl,rfl,e1,e2,e3,e4⟩:=Q4.pos h26 (by omega)
   refine QA (QE rfl)<|QF<|QD<|QG<|QB<|QA (QC rfl)<|QA (QC rfl)<|QA (Qy (i:=v) rfl rfl Qe Qu (by omega))<|QA (YR (c:=((el p.2 i.i).t.2).map Qz++rest) (T':=3) rfl Qu (.there (.there .here)) (Zl (by first | omega | (simp only [List.length_set];omega))))<|QA (Jx rfl rfl (by omega))<|QA (Qy (i:=v) rfl rfl Qe Qu (by omega))<|QP (vs:=[_]) rfl rfl rfl Qu rfl (.there (.there .here)) (VO (by first | omega | (simp only [List.length_set];omega)) ((Qf ((el p.2 i.i).t.2) (v) - 1))) ⟨rfl,trivial⟩<|QF<|QD ?_
   obtain ⟨r,hv,hrn,hrc,hfix⟩:=Q4.fix (w0:=w) (F0:=F) (bs1:=[(b7,.cells (Yl (el p.2 i.i)).toArray 165 (0,0)),(m,ZD tx (Ww i.ts))]) (G:=_) (Q4.some (T:=3) (sz:=1) (b:=bb) (n:=(el p.2 i.i).r.n) (cap:=cap) (l:=((el p.2 i.i).t.2.set v (Qf (el p.2 i.i).t.2 v - 1)).map Qz) (rest:=rest) (by simpa using e1) (by simpa using e2) e3 e4)
   refine U9 hfix ?_
   rw [hv]
   refine JQ (.cons_cons _ (.cons _ .slnil)) mixed (by kernel_rfl)<|QM (QC rfl)<|QM (QI rfl YC Qg)<|QM (QL (vs:=[_,_,_,_]) rfl Qg .here (.here (.here (.here (.here .nil)))) rfl)<|QM (QC rfl) ?_
   refine Qb rfl (fun w F hF ⟨⟨⟨⟨hGl,hP⟩,hT⟩,_⟩,hrow⟩=>vJ hF (by omega) (by omega)) (fun x37=>?_)
   refine Qb rfl (fun w F hF ⟨⟨⟨⟨⟨hGl,hP⟩,hT⟩,_⟩,hrow⟩,⟨h37,h37_⟩⟩=>KC hF ((hP.2.1 _ htm).1) ⟨by assumption,by assumption⟩ (by omega) (by have h2:=Gc (Qf (el p.2 i.i).t.2 v);have h3:sz (Qf (el p.2 i.i).t.2 v)≤64:=Rj hb1;omega)) (fun x38=>?_)
   refine QM (QC rfl) ?_
   refine AF rfl (List.Perm.swap _ _ _) (BK (r:=r) (x:=x38) i.hI (hp1.1.set hkp) (by have h1:=J2 (el p.2 i.i).t.1 ((Qf (el p.2 i.i).t.2 v:Int):Rat);have h2:=Gc (Qf (el p.2 i.i).t.2 v);have h3:sz (Qf (el p.2 i.i).t.2 v)≤64:=Rj hb1;omega) (by omega) (fun F ⟨⟨⟨⟨⟨⟨hGl,hP⟩,hT⟩,_⟩,hrow⟩,⟨h37,h37_⟩⟩,⟨h38,h38_⟩⟩=>⟨hGl,hT,⟨h38,h38_⟩,by rw [hrn];exact hrow,by rw [hrn,List.length_set];exact hra,by rw [hrn];exact hrc⟩)) (fun n w h=>St.imp h (.cons _ (List.Sublist.refl _)) (fun F h=>h.1.1.1)) (fun n40=>?_)
   refine Gx _ (fun w F hF h=>h.2.2) (fun h40=>?_)
   have hI2:K7 (addN i.ts n40) (Ki v (JL (p.2.take (i.i+1)))):=by
    rw [RQ hlt,show FZ v (el p.2 i.i).t=[((el p.2 i.i).t.1*((Qf (el p.2 i.i).t.2 v:Int):Rat),(el p.2 i.i).t.2.set v (Qf (el p.2 i.i).t.2 v - 1))] from if_pos hkp]
    exact i.hI.add (hp1.1.set hkp) h40
   refine Q3<|Qm<|QD<|QB<|QA (Qw rfl rfl (by omega))<|QA (QC rfl)<|QF ?_
   exact Qo (⟨i.i+1,addN i.ts n40,hlt,hI2⟩) (by show p.2.length - (i.i+1)<p.2.length - i.i;omega) ⟨rfl,rfl,rfl,rfl,rfl,trivial⟩ (.cons_cons _ (.cons _ .slnil)) (fun F h=>⟨h.1.1.1.1.1.1,h.2.1⟩)
  ·
   have hkp:=of_decide_eq_false hc
   refine QN<|Qm<|QD<|QB<|QA (Qw rfl rfl (by omega))<|QA (QC rfl)<|QF ?_
   exact Qo (⟨i.i+1,i.ts,hlt,by rw [RQ hlt,show FZ v (el p.2 i.i).t=[] from if_neg hkp,List.append_nil];exact i.hI⟩) (by show p.2.length - (i.i+1)<p.2.length - i.i;omega) ⟨rfl,rfl,rfl,rfl,rfl,trivial⟩ (.cons _ (List.Sublist.refl _)) (fun F h=>⟨h.1,h.2⟩)
 ·
  have hge:i.i=p.2.length:=by have:=of_decide_eq_false hc;omega
  refine Q6 ?_
  repeat (first | refine Qc ?_ | refine QX (by rfl) ?_)
  refine Qd<|QD<|QG<|QB<|QA (QC rfl) ?_
  have hI:=i.hI
  rw [hge,List.take_length] at hI
  refine XN rfl (List.Perm.refl _) (Gd hI (by have h1:=hI.ln;have h2:=Nv v (JL p.2);rw [KI] at h2;omega) (fun F h=>h.2)) (fun c43=>?_)
  refine QA (QE rfl)<|QF<|QD<|QS ?_
  exact QQ (c43) rfl (.tmp rfl .nil) (rfl) (fun F h=>h.2)
end
end Go.Proofs.YtknegjaeoffnbaaGreatDoor
