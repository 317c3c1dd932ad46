/- Steps of the proof of the theorem in the last file. -/
import Derived.Test.YtphlgddkpboamaaGreatDoorV1
import Derived.Shelf.Bits.Mul64
import Derived.Test.YtphlgddkpboamaaGreatDoorProg
set_option linter.all false
set_option maxHeartbeats 4000000
open Nat renaming eq_of_beq_eq_true -> aa,beq -> af
open Option.some renaming inj -> ae
open Go.Proofs.Lays renaming n264 -> ah
namespace Go.Proofs
open Go.Shelf
def Tryz.cw:Go.Shelf.Ren:=⟨fun | 264=>239 | n=>n,fun | 53=>283 | 46=>251 | n=>n,fun | n=>n⟩
theorem Tryz.QJU:ah Tryz.prog Tryz.cw:={
 mixed:=by kernel_rfl
 f264:=Tryz.func239.trans (congrArg some (by kernel_rfl))
 t46:=Tryz.underlying251
 a46:=Tryz.isAgg251
 z46:=Tryz.sizeOf251
 v46:=Tryz.zeroValue251
 t53:=Tryz.underlying283
 a53:=Tryz.isAgg283
 z53:=Tryz.sizeOf283
 v53:=Tryz.zeroValue283 }
open Go.RowKit Go.Lib in
theorem Tryz.QCA(x y:Nat)(hx:x<18446744073709551616)(hy:y<18446744073709551616)(w:World):
  Calls Tryz.prog 239 #[.int .u64 x,.int .u64 y] w fun e w'=>e = .returned (.tuple #[.int .u64 ((x*y/18446744073709551616:Nat):Int),.int .u64 ((x*y%18446744073709551616:Nat):Int)])/\w'=w:=Any.bits_Mul64 Tryz.QJU x y hx hy w
end Go.Proofs
namespace Go.Ev
open Go.RowKit
noncomputable section
def imp(f:Nat):Bool:=[191,125,52,199,126,314,61,225,140,375,141,296,65,139,226,69,70,72].contains f
def QGD:Ora:=fun f =>
 bif af f 239 then some QBG
 else bif af f 383 then some QBK
 else bif af f 320 then some QBO
 else bif af f 329 then some QBS
 else bif af f 344 then some QBD
 else bif af f 316 then some QBM
 else bif af f 317 then some (QBI 5)
 else none
def met:TypeId->String->Option FuncId:=fun T nm =>
 none
end
theorem ke:StB Proofs.Tryz.prog=true:=by kernel_rfl
theorem QDq:xp Proofs.Tryz.prog QGD:=by
 intro f o ho lv args h n r hr;unfold QGD at ho;simp only[cond_eq_ite]at ho;split at ho
 ·rename_i e;have e:=aa e;subst e;cases ae ho;exact QBF (enters_of Proofs.Tryz.func239 (by kernel_rfl) (by kernel_rfl)) (fun x y hx hy w=>Proofs.Tryz.QCA x y hx hy w) hr
 split at ho
 ·rename_i e;have e:=aa e;subst e;cases ae ho;exact QBJ Proofs.Tryz.func383 (by kernel_rfl) (by kernel_rfl) (by kernel_rfl) (by kernel_rfl) hr
 split at ho
 ·rename_i e;have e:=aa e;subst e;cases ae ho;exact QBN Proofs.Tryz.func320 (by kernel_rfl) (by kernel_rfl) (by kernel_rfl) (by kernel_rfl) hr
 split at ho
 ·rename_i e;have e:=aa e;subst e;cases ae ho;exact QBR Proofs.Tryz.func329 (by kernel_rfl) (by kernel_rfl) (by kernel_rfl) (by kernel_rfl) hr
 split at ho
 ·rename_i e;have e:=aa e;subst e;cases ae ho;exact QBC Proofs.Tryz.func344 (by kernel_rfl) (by kernel_rfl) (by kernel_rfl) (by kernel_rfl) hr
 split at ho
 ·rename_i e;have e:=aa e;subst e;cases ae ho;exact QBL Proofs.Tryz.func316 (by kernel_rfl) (by kernel_rfl) (by kernel_rfl) (by kernel_rfl) hr
 split at ho
 ·rename_i e;have e:=aa e;subst e;cases ae ho;exact QBH (ps:=#[3]) (t:=193) Proofs.Tryz.func317 (by kernel_rfl) (by kernel_rfl) (by kernel_rfl) (by kernel_rfl) Proofs.Tryz.underlying193 hr
 cases ho
theorem GP:QHn Proofs.Tryz.prog met:=by
 intro T nm g hg;unfold met at hg;cases hg
def kG:Nat:=3
end Go.Ev
