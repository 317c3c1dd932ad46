/-
  An evaluator of programs on given arguments, and that it is right.
-/
import Derived.Shelf.Bits.Mul64
import Derived.Test.YtfdgciidfohhgaaGreatDoorProg
import Derived.Test.YtfdgciidfohhgaaGreatDoorE3
set_option linter.all false



namespace Go.Proofs
open Go.Shelf
def Tryz.evMul_ren : Go.Shelf.Ren := ⟨fun | 264 => 185 | n => n, fun | 53 => 231 | 46 => 193 | n => n, fun | n => n⟩
theorem Tryz.evMul : Go.Proofs.Lays.n264 Tryz.prog Tryz.evMul_ren := {
  mixed := by kernel_rfl
  f264 := Tryz.func185.trans (congrArg some (by kernel_rfl))
  t46 := Tryz.underlying193
  a46 := Tryz.isAgg193
  z46 := Tryz.sizeOf193
  v46 := Tryz.zeroValue193
  t53 := Tryz.underlying231
  a53 := Tryz.isAgg231
  z53 := Tryz.sizeOf231
  v53 := Tryz.zeroValue231 }
open Go.RowKit Go.Lib in
theorem Tryz.ev_Mul64 (x y : Nat) (hx : x < 18446744073709551616) (hy : y < 18446744073709551616) (w : World) :
    Calls Tryz.prog 185 #[.int .u64 x, .int .u64 y] w fun e w' => e = .returned (.tuple #[.int .u64 ((x * y / 18446744073709551616 : Nat) : Int), .int .u64 ((x * y % 18446744073709551616 : Nat) : Int)]) ∧ w' = w := Any.bits_Mul64 Tryz.evMul x y hx hy w
end Go.Proofs
namespace Go.Ev
open Go.RowKit
noncomputable section
def imp (f : Nat) : Bool := [125,79,33,136,80,228,40,163,97,288,210,44,96,164,48,49,51,98].contains f
def ora0 : Ora := fun f =>
  bif Nat.beq f 185 then some orMul
  else bif Nat.beq f 296 then some orIdx
  else bif Nat.beq f 234 then some orCnt
  else bif Nat.beq f 252 then some orAdd
  else bif Nat.beq f 254 then some orSub
  else bif Nat.beq f 230 then some orEsc
  else bif Nat.beq f 231 then some (orMnz 5)
  else none
end
theorem stB : StB Proofs.Tryz.prog = true := by kernel_rfl
theorem ora0_ok : OraS Proofs.Tryz.prog ora0 := by
  intro f o ho lv args h n r hr
  unfold ora0 at ho
  simp only [cond_eq_ite] at ho
  split at ho
  · rename_i e
    have e := Nat.eq_of_beq_eq_true e; subst e; cases Option.some.inj ho
    exact orMul_ok (enters_of Proofs.Tryz.func185 (by kernel_rfl) (by kernel_rfl)) (fun x y hx hy w => Proofs.Tryz.ev_Mul64 x y hx hy w) hr
  split at ho
  · rename_i e
    have e := Nat.eq_of_beq_eq_true e; subst e; cases Option.some.inj ho
    exact orIdx_ok Proofs.Tryz.func296 (by kernel_rfl) (by kernel_rfl) (by kernel_rfl) (by kernel_rfl) hr
  split at ho
  · rename_i e
    have e := Nat.eq_of_beq_eq_true e; subst e; cases Option.some.inj ho
    exact orCnt_ok Proofs.Tryz.func234 (by kernel_rfl) (by kernel_rfl) (by kernel_rfl) (by kernel_rfl) hr
  split at ho
  · rename_i e
    have e := Nat.eq_of_beq_eq_true e; subst e; cases Option.some.inj ho
    exact orAdd_ok Proofs.Tryz.func252 (by kernel_rfl) (by kernel_rfl) (by kernel_rfl) (by kernel_rfl) hr
  split at ho
  · rename_i e
    have e := Nat.eq_of_beq_eq_true e; subst e; cases Option.some.inj ho
    exact orSub_ok Proofs.Tryz.func254 (by kernel_rfl) (by kernel_rfl) (by kernel_rfl) (by kernel_rfl) hr
  split at ho
  · rename_i e
    have e := Nat.eq_of_beq_eq_true e; subst e; cases Option.some.inj ho
    exact orEsc_ok Proofs.Tryz.func230 (by kernel_rfl) (by kernel_rfl) (by kernel_rfl) (by kernel_rfl) hr
  split at ho
  · rename_i e
    have e := Nat.eq_of_beq_eq_true e; subst e; cases Option.some.inj ho
    exact orMnz_ok (ps := #[3]) (t := 168) Proofs.Tryz.func231 (by kernel_rfl) (by kernel_rfl) (by kernel_rfl) (by kernel_rfl) Proofs.Tryz.underlying168 hr
  cases ho
def kG : Nat := 3
noncomputable def gB (lv : Nat) (h : Tr B) : Tr B := bG kG lv h
end Go.Ev
