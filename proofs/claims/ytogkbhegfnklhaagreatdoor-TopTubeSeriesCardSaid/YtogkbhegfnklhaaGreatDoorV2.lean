/- Steps of the proof of the theorem in the last file. -/
import Derived.Test.YtogkbhegfnklhaaGreatDoorV1
import Derived.Shelf.Bits.Mul64
import Derived.Test.YtogkbhegfnklhaaGreatDoorProg
set_option linter.all false
set_option maxHeartbeats 4000000
open Nat renaming eq_of_beq_eq_true -> aa,beq -> af
open Option.some renaming inj -> ae
open Go.Proofs.Lays renaming n264 -> ah
namespace Go.Proofs
open Go.Shelf
def Tryz.QEO:Go.Shelf.Ren:=⟨fun | 264=>215 | n=>n,fun | 53=>264 | 46=>239 | n=>n,fun | n=>n⟩
theorem Tryz.QMc:ah Tryz.prog Tryz.QEO:={
 mixed:=by kernel_rfl
 f264:=Tryz.func215.trans (congrArg some (by kernel_rfl))
 t46:=Tryz.underlying239
 a46:=Tryz.isAgg239
 z46:=Tryz.sizeOf239
 v46:=Tryz.zeroValue239
 t53:=Tryz.underlying264
 a53:=Tryz.isAgg264
 z53:=Tryz.sizeOf264
 v53:=Tryz.zeroValue264 }
open Go.RowKit Go.Lib in
theorem Tryz.QGX(x y:Nat)(hx:x<18446744073709551616)(E:y<18446744073709551616)(w:World):
  Calls Tryz.prog 215 #[.int .u64 x,.int .u64 y] w fun e w'=>e = .returned (.tuple #[.int .u64 ((x*y/18446744073709551616:Nat):Int),.int .u64 ((x*y%18446744073709551616:Nat):Int)])/\w'=w:=Any.bits_Mul64 Tryz.QMc x y hx E w
end Go.Proofs
namespace Go.Ev
open Go.RowKit
noncomputable section
def imp(f:Nat):Bool:=[274,241,243,244,134,121,230,175,123,276,245,188,131,168,316].contains f
def QJ7:kg:=fun f =>
 bif af f 215 then some QFm
 else bif af f 309 then some QFq
 else bif af f 260 then some QFw
 else bif af f 294 then some QFj
 else bif af f 304 then some QFs
 else bif af f 327 then some (QFo 5)
 else none
def met:TypeId->String->Option FuncId:=fun T nm =>
 bif af T 89&&nm == "integraph/enclose.add" then some 155 else
 none
end
theorem jH:StB Proofs.Tryz.prog=true:=by kernel_rfl
theorem QH2:UK Proofs.Tryz.prog QJ7:=by
 intro f o a lv args h n r b;unfold QJ7 at a;simp only[cond_eq_ite]at a;split at a
 ·rename_i e;have e:=aa e;subst e;cases ae a;exact QFl (enters_of Proofs.Tryz.func215 (by kernel_rfl) (by kernel_rfl)) (fun x y hx c w=>Proofs.Tryz.QGX x y hx c w) b
 split at a
 ·rename_i e;have e:=aa e;subst e;cases ae a;exact QFp Proofs.Tryz.func309 (by kernel_rfl) (by kernel_rfl) (by kernel_rfl) (by kernel_rfl) b
 split at a
 ·rename_i e;have e:=aa e;subst e;cases ae a;exact QFv Proofs.Tryz.func260 (by kernel_rfl) (by kernel_rfl) (by kernel_rfl) (by kernel_rfl) b
 split at a
 ·rename_i e;have e:=aa e;subst e;cases ae a;exact QFi Proofs.Tryz.func294 (by kernel_rfl) (by kernel_rfl) (by kernel_rfl) (by kernel_rfl) b
 split at a
 ·rename_i e;have e:=aa e;subst e;cases ae a;exact QFr Proofs.Tryz.func304 (by kernel_rfl) (by kernel_rfl) (by kernel_rfl) (by kernel_rfl) b
 split at a
 ·rename_i e;have e:=aa e;subst e;cases ae a;exact QFn (ps:=#[3]) (t:=291) Proofs.Tryz.func327 (by kernel_rfl) (by kernel_rfl) (by kernel_rfl) (by kernel_rfl) Proofs.Tryz.underlying291 b
 cases a
theorem Kz:QIy Proofs.Tryz.prog met:=by
 intro T nm g hg;unfold met at hg;simp only[cond_eq_ite]at hg;split at hg
 ·rename_i e;rw[Bool.and_eq_true]at e;have e1:=aa e.1;have e2:=beq_iff_eq.1 e.2;subst e1;subst e2;cases ae hg;refine⟨by kernel_rfl,fun v vs w=>?_⟩;have h:(callMethod (.iface 89 v) "integraph/enclose.add" vs.toArray).run Proofs.Tryz.prog w = .ok (.enter 155 (#[v]++vs.toArray)) w:=by kernel_rfl
  rw[h];simp
 cases hg
def kG:Nat:=5
end Go.Ev
