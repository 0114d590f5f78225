/- FnExactSend: functions as plain Lean, in the machine of values. -/
import Derived.Test.YtpheniajdbbphaaVFnExactSend4
namespace Go.Proofs.Ytpheniajdbbphaa.DI
open Go
set_option linter.unusedVariables false
/-! impl.Send -/
noncomputable def impl_Send.c : Code := bodyOf Try.f28
def impl_Send.h : Nat → Hint := look ⟨[], [], []⟩ [(0, ⟨[1, 2, 4, 6, 7, 27, 28], [32, 64, 96], [(.b 64 3, 1776, 9, .str), (.b 64 4, 1777, 92, (.two (.int .i64) (.two .str (.two (.int .i64) (.int .i64))))), (.b 64 6, 1778, 87, (.two (.int .i64) .str)), (.b 64 7, 1779, 3, (.int .i64)), (.b 64 8, 1780, 9, .str), (.b 96 3, 1781, 9, .str), (.b 96 4, 1782, 92, (.two (.int .i64) (.two .str (.two (.int .i64) (.int .i64))))), (.b 96 6, 1783, 87, (.two (.int .i64) .str)), (.b 96 7, 1784, 3, (.int .i64)), (.b 96 8, 1785, 9, .str), (.t 7, 1786, 28, (.two (.int .i64) (.two (.int .i64) (.two (.int .i64) (.two (.int .i64) (.two (.int .i64) (.two (.sl 3 (.int .i64)) .str)))))))]⟩)]
def impl_Send.ps : List PK := [.agg 9, .one]
def impl_Send.rs : List RK := [.agg 9 true, .one true]
def impl_Send.vs : List ResultVar := [.cell 4 36, .tmp 5]
def impl_Send.x : Cx := ⟨tt, look none [(76, some impl_copyChan.K), (24, some impl_ChanOk.K), (73, some impl_within.K), (78, some impl_Chan_fill.K), (79, some impl_copyInts.K)]⟩
def impl_Send.s0 (k : Nat) (rec0 : (Int × Int × Int × (List (ByteArray)) × (List (Int × ByteArray × Int × Int)) × (List (Int × ByteArray)) × (List (Int)) × (List (ByteArray)) × Int × Int × Int × Int × Int × Int × Int × Int × Int × Int × Int × Int × (List (ByteArray)) × (List (Int × ByteArray × Int × Int)) × (List (Int × ByteArray)) × (List (Int)) × (List (ByteArray)) × (List (ByteArray)) × (List (Int × ByteArray × Int × Int)) × (List (Int × ByteArray)) × (List (Int)) × (List (ByteArray)) × (List (Int × Int × Int × Int × Int × (List (Int)) × ByteArray))) → Option (Int × Int × Int × (List (ByteArray)) × (List (Int × ByteArray × Int × Int)) × Int × (List (Int × ByteArray)) × (List (Int)) × (List (ByteArray)) × (List (Int × Int × Int × Int × Int × (List (Int)) × ByteArray)))) (p : (Int × Int × Int × (List (ByteArray)) × (List (Int × ByteArray × Int × Int)) × (List (Int × ByteArray)) × (List (Int)) × (List (ByteArray)) × Int × Int × Int × Int × Int × Int × Int × Int × Int × Int × Int × Int × (List (ByteArray)) × (List (Int × ByteArray × Int × Int)) × (List (Int × ByteArray)) × (List (Int)) × (List (ByteArray)) × (List (ByteArray)) × (List (Int × ByteArray × Int × Int)) × (List (Int × ByteArray)) × (List (Int)) × (List (ByteArray)) × (List (Int × Int × Int × Int × Int × (List (Int)) × ByteArray)))) : Option (Int × Int × Int × (List (ByteArray)) × (List (Int × ByteArray × Int × Int)) × Int × (List (Int × ByteArray)) × (List (Int)) × (List (ByteArray)) × (List (Int × Int × Int × Int × Int × (List (Int)) × ByteArray))) :=
  (bif (decide (p.2.2.1 < p.2.1)) then (bif ((decide ((0 : Int) ≤ p.2.2.1)) && (decide (p.2.2.1 < (p.2.2.2.2.2.2.2.2.2.2.2.2.2.2.2.2.2.2.2.2.2.2.2.2.2.2.1.length : Int)))) then (p.2.2.2.2.2.2.2.2.2.2.2.2.2.2.2.2.2.2.2.2.2.2.2.2.2.2.1[p.2.2.1.toNat]?).bind fun x5 => (bif (decide (x5.2.2.1 > p.1)) then rec0 (p.1, p.2.1, (IntKind.i64.wrap (p.2.2.1 + (1 : Int))), p.2.2.2.1, p.2.2.2.2.1, p.2.2.2.2.2.1, p.2.2.2.2.2.2.1, p.2.2.2.2.2.2.2.1, p.2.2.2.2.2.2.2.2.1, p.2.2.2.2.2.2.2.2.2.1, p.2.2.2.2.2.2.2.2.2.2.1, p.2.2.2.2.2.2.2.2.2.2.2.1, p.2.2.2.2.2.2.2.2.2.2.2.2.1, p.2.2.2.2.2.2.2.2.2.2.2.2.2.1, p.2.2.2.2.2.2.2.2.2.2.2.2.2.2.1, p.2.2.2.2.2.2.2.2.2.2.2.2.2.2.2.1, p.2.2.2.2.2.2.2.2.2.2.2.2.2.2.2.2.1, p.2.2.2.2.2.2.2.2.2.2.2.2.2.2.2.2.2.1, p.2.2.2.2.2.2.2.2.2.2.2.2.2.2.2.2.2.2.1, p.2.2.2.2.2.2.2.2.2.2.2.2.2.2.2.2.2.2.2.1, p.2.2.2.2.2.2.2.2.2.2.2.2.2.2.2.2.2.2.2.2.1, p.2.2.2.2.2.2.2.2.2.2.2.2.2.2.2.2.2.2.2.2.2.1, p.2.2.2.2.2.2.2.2.2.2.2.2.2.2.2.2.2.2.2.2.2.2.1, p.2.2.2.2.2.2.2.2.2.2.2.2.2.2.2.2.2.2.2.2.2.2.2.1, p.2.2.2.2.2.2.2.2.2.2.2.2.2.2.2.2.2.2.2.2.2.2.2.2.1, p.2.2.2.2.2.2.2.2.2.2.2.2.2.2.2.2.2.2.2.2.2.2.2.2.2.1, p.2.2.2.2.2.2.2.2.2.2.2.2.2.2.2.2.2.2.2.2.2.2.2.2.2.2.1, p.2.2.2.2.2.2.2.2.2.2.2.2.2.2.2.2.2.2.2.2.2.2.2.2.2.2.2.1, p.2.2.2.2.2.2.2.2.2.2.2.2.2.2.2.2.2.2.2.2.2.2.2.2.2.2.2.2.1, p.2.2.2.2.2.2.2.2.2.2.2.2.2.2.2.2.2.2.2.2.2.2.2.2.2.2.2.2.2.1, p.2.2.2.2.2.2.2.2.2.2.2.2.2.2.2.2.2.2.2.2.2.2.2.2.2.2.2.2.2.2) else (p.2.2.2.2.2.2.2.2.2.2.2.2.2.2.2.2.2.2.2.2.2.2.2.2.2.2.1[p.2.2.1.toNat]?).bind fun x6 => (bif (decide (x6.2.2.2 ≥ (8 : Int))) then rec0 (p.1, p.2.1, (IntKind.i64.wrap (p.2.2.1 + (1 : Int))), p.2.2.2.1, p.2.2.2.2.1, p.2.2.2.2.2.1, p.2.2.2.2.2.2.1, p.2.2.2.2.2.2.2.1, p.2.2.2.2.2.2.2.2.1, p.2.2.2.2.2.2.2.2.2.1, p.2.2.2.2.2.2.2.2.2.2.1, p.2.2.2.2.2.2.2.2.2.2.2.1, p.2.2.2.2.2.2.2.2.2.2.2.2.1, p.2.2.2.2.2.2.2.2.2.2.2.2.2.1, p.2.2.2.2.2.2.2.2.2.2.2.2.2.2.1, p.2.2.2.2.2.2.2.2.2.2.2.2.2.2.2.1, p.2.2.2.2.2.2.2.2.2.2.2.2.2.2.2.2.1, p.2.2.2.2.2.2.2.2.2.2.2.2.2.2.2.2.2.1, p.2.2.2.2.2.2.2.2.2.2.2.2.2.2.2.2.2.2.1, p.2.2.2.2.2.2.2.2.2.2.2.2.2.2.2.2.2.2.2.1, p.2.2.2.2.2.2.2.2.2.2.2.2.2.2.2.2.2.2.2.2.1, p.2.2.2.2.2.2.2.2.2.2.2.2.2.2.2.2.2.2.2.2.2.1, p.2.2.2.2.2.2.2.2.2.2.2.2.2.2.2.2.2.2.2.2.2.2.1, p.2.2.2.2.2.2.2.2.2.2.2.2.2.2.2.2.2.2.2.2.2.2.2.1, p.2.2.2.2.2.2.2.2.2.2.2.2.2.2.2.2.2.2.2.2.2.2.2.2.1, p.2.2.2.2.2.2.2.2.2.2.2.2.2.2.2.2.2.2.2.2.2.2.2.2.2.1, p.2.2.2.2.2.2.2.2.2.2.2.2.2.2.2.2.2.2.2.2.2.2.2.2.2.2.1, p.2.2.2.2.2.2.2.2.2.2.2.2.2.2.2.2.2.2.2.2.2.2.2.2.2.2.2.1, p.2.2.2.2.2.2.2.2.2.2.2.2.2.2.2.2.2.2.2.2.2.2.2.2.2.2.2.2.1, p.2.2.2.2.2.2.2.2.2.2.2.2.2.2.2.2.2.2.2.2.2.2.2.2.2.2.2.2.2.1, p.2.2.2.2.2.2.2.2.2.2.2.2.2.2.2.2.2.2.2.2.2.2.2.2.2.2.2.2.2.2) else (p.2.2.2.2.2.2.2.2.2.2.2.2.2.2.2.2.2.2.2.2.2.2.2.2.2.2.1[p.2.2.1.toNat]?).bind fun x7 => (p.2.2.2.2.2.2.2.2.2.2.2.2.2.2.2.2.2.2.2.2.2.2.2.2.2.2.1[p.2.2.1.toNat]?).bind fun x8 => ((p.2.2.2.2.2.2.2.2.2.2.2.2.2.2.2.2.2.2.2.2.2.2.2.2.2.2.1.set p.2.2.1.toNat (x8.1, x8.2.1, x8.2.2.1, (IntKind.i64.wrap (x7.2.2.2 + (1 : Int)))))[p.2.2.1.toNat]?).bind fun x9 => (bif (decide (x9.2.2.2 < (0 : Int))) then none else ((p.2.2.2.2.2.2.2.2.2.2.2.2.2.2.2.2.2.2.2.2.2.2.2.2.2.2.1.set p.2.2.1.toNat (x8.1, x8.2.1, x8.2.2.1, (IntKind.i64.wrap (x7.2.2.2 + (1 : Int)))))[p.2.2.1.toNat]?).bind fun x10 => (((p.2.2.2.2.2.2.2.2.2.2.2.2.2.2.2.2.2.2.2.2.2.2.2.2.2.2.1.set p.2.2.1.toNat (x8.1, x8.2.1, x8.2.2.1, (IntKind.i64.wrap (x7.2.2.2 + (1 : Int))))).set p.2.2.1.toNat (x10.1, x10.2.1, (IntKind.i64.wrap (p.1 + (IntKind.i64.wrap ((1 : Int) * 2 ^ (min x9.2.2.2.toNat IntKind.i64.bits))))), x10.2.2.2))[p.2.2.1.toNat]?).bind fun x11 => (((p.2.2.2.2.2.2.2.2.2.2.2.2.2.2.2.2.2.2.2.2.2.2.2.2.2.2.1.set p.2.2.1.toNat (x8.1, x8.2.1, x8.2.2.1, (IntKind.i64.wrap (x7.2.2.2 + (1 : Int))))).set p.2.2.1.toNat (x10.1, x10.2.1, (IntKind.i64.wrap (p.1 + (IntKind.i64.wrap ((1 : Int) * 2 ^ (min x9.2.2.2.toNat IntKind.i64.bits))))), x10.2.2.2))[p.2.2.1.toNat]?).bind fun x12 => (bif decide ((p.2.2.2.2.2.2.2.2.2.2.2.2.2.2.2.2.2.2.2.2.2.2.2.2.2.2.2.2.2.2 ++ [((1 : Int), (0 : Int), p.2.2.2.2.2.2.2.2.1, p.2.2.2.2.2.2.2.2.2.1, x11.1, ([] : List (Int)), x12.2.1)]).length * 80 ≤ 140737488355328) then rec0 (p.1, p.2.1, (IntKind.i64.wrap (p.2.2.1 + (1 : Int))), p.2.2.2.1, p.2.2.2.2.1, p.2.2.2.2.2.1, p.2.2.2.2.2.2.1, p.2.2.2.2.2.2.2.1, p.2.2.2.2.2.2.2.2.1, p.2.2.2.2.2.2.2.2.2.1, p.2.2.2.2.2.2.2.2.2.2.1, p.2.2.2.2.2.2.2.2.2.2.2.1, p.2.2.2.2.2.2.2.2.2.2.2.2.1, p.2.2.2.2.2.2.2.2.2.2.2.2.2.1, p.2.2.2.2.2.2.2.2.2.2.2.2.2.2.1, p.2.2.2.2.2.2.2.2.2.2.2.2.2.2.2.1, p.2.2.2.2.2.2.2.2.2.2.2.2.2.2.2.2.1, p.2.2.2.2.2.2.2.2.2.2.2.2.2.2.2.2.2.1, p.2.2.2.2.2.2.2.2.2.2.2.2.2.2.2.2.2.2.1, p.2.2.2.2.2.2.2.2.2.2.2.2.2.2.2.2.2.2.2.1, p.2.2.2.2.2.2.2.2.2.2.2.2.2.2.2.2.2.2.2.2.1, p.2.2.2.2.2.2.2.2.2.2.2.2.2.2.2.2.2.2.2.2.2.1, p.2.2.2.2.2.2.2.2.2.2.2.2.2.2.2.2.2.2.2.2.2.2.1, p.2.2.2.2.2.2.2.2.2.2.2.2.2.2.2.2.2.2.2.2.2.2.2.1, p.2.2.2.2.2.2.2.2.2.2.2.2.2.2.2.2.2.2.2.2.2.2.2.2.1, p.2.2.2.2.2.2.2.2.2.2.2.2.2.2.2.2.2.2.2.2.2.2.2.2.2.1, ((p.2.2.2.2.2.2.2.2.2.2.2.2.2.2.2.2.2.2.2.2.2.2.2.2.2.2.1.set p.2.2.1.toNat (x8.1, x8.2.1, x8.2.2.1, (IntKind.i64.wrap (x7.2.2.2 + (1 : Int))))).set p.2.2.1.toNat (x10.1, x10.2.1, (IntKind.i64.wrap (p.1 + (IntKind.i64.wrap ((1 : Int) * 2 ^ (min x9.2.2.2.toNat IntKind.i64.bits))))), x10.2.2.2)), p.2.2.2.2.2.2.2.2.2.2.2.2.2.2.2.2.2.2.2.2.2.2.2.2.2.2.2.1, p.2.2.2.2.2.2.2.2.2.2.2.2.2.2.2.2.2.2.2.2.2.2.2.2.2.2.2.2.1, p.2.2.2.2.2.2.2.2.2.2.2.2.2.2.2.2.2.2.2.2.2.2.2.2.2.2.2.2.2.1, (p.2.2.2.2.2.2.2.2.2.2.2.2.2.2.2.2.2.2.2.2.2.2.2.2.2.2.2.2.2.2 ++ [((1 : Int), (0 : Int), p.2.2.2.2.2.2.2.2.1, p.2.2.2.2.2.2.2.2.2.1, x11.1, ([] : List (Int)), x12.2.1)])) else none)))) else none) else (bif ((p.2.2.2.2.2.2.2.2.2.2.2.2.2.2.2.2.2.2.2.2.2.2.2.2.2.2.2.2.2.2.length : Int) == (0 : Int)) then (bif (decide ((p.2.2.2.2.2.2.1.length : Int) > (0 : Int))) then (bif decide ((p.2.2.2.2.2.2.2.2.2.2.2.2.2.2.2.2.2.2.2.2.2.2.2.2.2.2.2.2.2.2 ++ [((2 : Int), (0 : Int), p.2.2.2.2.2.2.2.2.1, p.2.2.2.2.2.2.2.2.2.1, (0 : Int), ([] : List (Int)), ByteArray.empty)]).length * 80 ≤ 140737488355328) then (bif (decide (((p.2.2.2.2.2.2.2.2.2.2.2.2.2.2.2.2.2.2.2.2.2.2.2.2.2.2.2.2.2.2 ++ [((2 : Int), (0 : Int), p.2.2.2.2.2.2.2.2.1, p.2.2.2.2.2.2.2.2.2.1, (0 : Int), ([] : List (Int)), ByteArray.empty)]).length : Int) > (0 : Int))) then (impl_copyInts.f k p.2.2.2.2.2.2.1).bind fun r13 => (bif (true && (decide ((0 : Int) < ((p.2.2.2.2.2.2.2.2.2.2.2.2.2.2.2.2.2.2.2.2.2.2.2.2.2.2.2.2.2.2 ++ [((2 : Int), (0 : Int), p.2.2.2.2.2.2.2.2.1, p.2.2.2.2.2.2.2.2.2.1, (0 : Int), ([] : List (Int)), ByteArray.empty)]).length : Int)))) then ((p.2.2.2.2.2.2.2.2.2.2.2.2.2.2.2.2.2.2.2.2.2.2.2.2.2.2.2.2.2.2 ++ [((2 : Int), (0 : Int), p.2.2.2.2.2.2.2.2.1, p.2.2.2.2.2.2.2.2.2.1, (0 : Int), ([] : List (Int)), ByteArray.empty)])[0]?).bind fun x14 => some (p.2.2.2.2.2.2.2.2.2.2.2.2.2.2.2.2.1, p.2.2.2.2.2.2.2.2.2.2.2.2.2.2.2.2.2.1, p.2.2.2.2.2.2.2.2.2.2.2.2.2.2.2.2.2.2.1, p.2.2.2.2.2.2.2.2.2.2.2.2.2.2.2.2.2.2.2.2.2.2.2.2.2.1, p.2.2.2.2.2.2.2.2.2.2.2.2.2.2.2.2.2.2.2.2.2.2.2.2.2.2.1, p.2.2.2.2.2.2.2.2.2.2.2.2.2.2.2.2.2.2.2.1, p.2.2.2.2.2.2.2.2.2.2.2.2.2.2.2.2.2.2.2.2.2.2.2.2.2.2.2.1, ([] : List (Int)), p.2.2.2.2.2.2.2.2.2.2.2.2.2.2.2.2.2.2.2.2.2.2.2.2.2.2.2.2.2.1, ((p.2.2.2.2.2.2.2.2.2.2.2.2.2.2.2.2.2.2.2.2.2.2.2.2.2.2.2.2.2.2 ++ [((2 : Int), (0 : Int), p.2.2.2.2.2.2.2.2.1, p.2.2.2.2.2.2.2.2.2.1, (0 : Int), ([] : List (Int)), ByteArray.empty)]).set 0 (x14.1, x14.2.1, x14.2.2.1, x14.2.2.2.1, x14.2.2.2.2.1, r13, x14.2.2.2.2.2.2))) else none) else some (p.2.2.2.2.2.2.2.2.2.2.2.2.2.2.2.2.1, p.2.2.2.2.2.2.2.2.2.2.2.2.2.2.2.2.2.1, p.2.2.2.2.2.2.2.2.2.2.2.2.2.2.2.2.2.2.1, p.2.2.2.2.2.2.2.2.2.2.2.2.2.2.2.2.2.2.2.2.2.2.2.2.2.1, p.2.2.2.2.2.2.2.2.2.2.2.2.2.2.2.2.2.2.2.2.2.2.2.2.2.2.1, p.2.2.2.2.2.2.2.2.2.2.2.2.2.2.2.2.2.2.2.1, p.2.2.2.2.2.2.2.2.2.2.2.2.2.2.2.2.2.2.2.2.2.2.2.2.2.2.2.1, p.2.2.2.2.2.2.2.2.2.2.2.2.2.2.2.2.2.2.2.2.2.2.2.2.2.2.2.2.1, p.2.2.2.2.2.2.2.2.2.2.2.2.2.2.2.2.2.2.2.2.2.2.2.2.2.2.2.2.2.1, (p.2.2.2.2.2.2.2.2.2.2.2.2.2.2.2.2.2.2.2.2.2.2.2.2.2.2.2.2.2.2 ++ [((2 : Int), (0 : Int), p.2.2.2.2.2.2.2.2.1, p.2.2.2.2.2.2.2.2.2.1, (0 : Int), ([] : List (Int)), ByteArray.empty)]))) else none) else (bif (decide ((p.2.2.2.2.2.2.2.2.2.2.2.2.2.2.2.2.2.2.2.2.2.2.2.2.2.2.2.2.2.2.length : Int) > (0 : Int))) then (impl_copyInts.f k p.2.2.2.2.2.2.1).bind fun r15 => (bif (true && (decide ((0 : Int) < (p.2.2.2.2.2.2.2.2.2.2.2.2.2.2.2.2.2.2.2.2.2.2.2.2.2.2.2.2.2.2.length : Int)))) then (p.2.2.2.2.2.2.2.2.2.2.2.2.2.2.2.2.2.2.2.2.2.2.2.2.2.2.2.2.2.2[0]?).bind fun x16 => some (p.2.2.2.2.2.2.2.2.2.2.2.2.2.2.2.2.1, p.2.2.2.2.2.2.2.2.2.2.2.2.2.2.2.2.2.1, p.2.2.2.2.2.2.2.2.2.2.2.2.2.2.2.2.2.2.1, p.2.2.2.2.2.2.2.2.2.2.2.2.2.2.2.2.2.2.2.2.2.2.2.2.2.1, p.2.2.2.2.2.2.2.2.2.2.2.2.2.2.2.2.2.2.2.2.2.2.2.2.2.2.1, p.2.2.2.2.2.2.2.2.2.2.2.2.2.2.2.2.2.2.2.1, p.2.2.2.2.2.2.2.2.2.2.2.2.2.2.2.2.2.2.2.2.2.2.2.2.2.2.2.1, ([] : List (Int)), p.2.2.2.2.2.2.2.2.2.2.2.2.2.2.2.2.2.2.2.2.2.2.2.2.2.2.2.2.2.1, (p.2.2.2.2.2.2.2.2.2.2.2.2.2.2.2.2.2.2.2.2.2.2.2.2.2.2.2.2.2.2.set 0 (x16.1, x16.2.1, x16.2.2.1, x16.2.2.2.1, x16.2.2.2.2.1, r15, x16.2.2.2.2.2.2))) else none) else some (p.2.2.2.2.2.2.2.2.2.2.2.2.2.2.2.2.1, p.2.2.2.2.2.2.2.2.2.2.2.2.2.2.2.2.2.1, p.2.2.2.2.2.2.2.2.2.2.2.2.2.2.2.2.2.2.1, p.2.2.2.2.2.2.2.2.2.2.2.2.2.2.2.2.2.2.2.2.2.2.2.2.2.1, p.2.2.2.2.2.2.2.2.2.2.2.2.2.2.2.2.2.2.2.2.2.2.2.2.2.2.1, p.2.2.2.2.2.2.2.2.2.2.2.2.2.2.2.2.2.2.2.1, p.2.2.2.2.2.2.2.2.2.2.2.2.2.2.2.2.2.2.2.2.2.2.2.2.2.2.2.1, p.2.2.2.2.2.2.2.2.2.2.2.2.2.2.2.2.2.2.2.2.2.2.2.2.2.2.2.2.1, p.2.2.2.2.2.2.2.2.2.2.2.2.2.2.2.2.2.2.2.2.2.2.2.2.2.2.2.2.2.1, p.2.2.2.2.2.2.2.2.2.2.2.2.2.2.2.2.2.2.2.2.2.2.2.2.2.2.2.2.2.2))) else (bif (decide ((p.2.2.2.2.2.2.2.2.2.2.2.2.2.2.2.2.2.2.2.2.2.2.2.2.2.2.2.2.2.2.length : Int) > (0 : Int))) then (impl_copyInts.f k p.2.2.2.2.2.2.1).bind fun r17 => (bif (true && (decide ((0 : Int) < (p.2.2.2.2.2.2.2.2.2.2.2.2.2.2.2.2.2.2.2.2.2.2.2.2.2.2.2.2.2.2.length : Int)))) then (p.2.2.2.2.2.2.2.2.2.2.2.2.2.2.2.2.2.2.2.2.2.2.2.2.2.2.2.2.2.2[0]?).bind fun x18 => some (p.2.2.2.2.2.2.2.2.2.2.2.2.2.2.2.2.1, p.2.2.2.2.2.2.2.2.2.2.2.2.2.2.2.2.2.1, p.2.2.2.2.2.2.2.2.2.2.2.2.2.2.2.2.2.2.1, p.2.2.2.2.2.2.2.2.2.2.2.2.2.2.2.2.2.2.2.2.2.2.2.2.2.1, p.2.2.2.2.2.2.2.2.2.2.2.2.2.2.2.2.2.2.2.2.2.2.2.2.2.2.1, p.2.2.2.2.2.2.2.2.2.2.2.2.2.2.2.2.2.2.2.1, p.2.2.2.2.2.2.2.2.2.2.2.2.2.2.2.2.2.2.2.2.2.2.2.2.2.2.2.1, ([] : List (Int)), p.2.2.2.2.2.2.2.2.2.2.2.2.2.2.2.2.2.2.2.2.2.2.2.2.2.2.2.2.2.1, (p.2.2.2.2.2.2.2.2.2.2.2.2.2.2.2.2.2.2.2.2.2.2.2.2.2.2.2.2.2.2.set 0 (x18.1, x18.2.1, x18.2.2.1, x18.2.2.2.1, x18.2.2.2.2.1, r17, x18.2.2.2.2.2.2))) else none) else some (p.2.2.2.2.2.2.2.2.2.2.2.2.2.2.2.2.1, p.2.2.2.2.2.2.2.2.2.2.2.2.2.2.2.2.2.1, p.2.2.2.2.2.2.2.2.2.2.2.2.2.2.2.2.2.2.1, p.2.2.2.2.2.2.2.2.2.2.2.2.2.2.2.2.2.2.2.2.2.2.2.2.2.1, p.2.2.2.2.2.2.2.2.2.2.2.2.2.2.2.2.2.2.2.2.2.2.2.2.2.2.1, p.2.2.2.2.2.2.2.2.2.2.2.2.2.2.2.2.2.2.2.1, p.2.2.2.2.2.2.2.2.2.2.2.2.2.2.2.2.2.2.2.2.2.2.2.2.2.2.2.1, p.2.2.2.2.2.2.2.2.2.2.2.2.2.2.2.2.2.2.2.2.2.2.2.2.2.2.2.2.1, p.2.2.2.2.2.2.2.2.2.2.2.2.2.2.2.2.2.2.2.2.2.2.2.2.2.2.2.2.2.1, p.2.2.2.2.2.2.2.2.2.2.2.2.2.2.2.2.2.2.2.2.2.2.2.2.2.2.2.2.2.2))))
def impl_Send.l0 (k : Nat) : Nat → (Int × Int × Int × (List (ByteArray)) × (List (Int × ByteArray × Int × Int)) × (List (Int × ByteArray)) × (List (Int)) × (List (ByteArray)) × Int × Int × Int × Int × Int × Int × Int × Int × Int × Int × Int × Int × (List (ByteArray)) × (List (Int × ByteArray × Int × Int)) × (List (Int × ByteArray)) × (List (Int)) × (List (ByteArray)) × (List (ByteArray)) × (List (Int × ByteArray × Int × Int)) × (List (Int × ByteArray)) × (List (Int)) × (List (ByteArray)) × (List (Int × Int × Int × Int × Int × (List (Int)) × ByteArray))) → Option (Int × Int × Int × (List (ByteArray)) × (List (Int × ByteArray × Int × Int)) × Int × (List (Int × ByteArray)) × (List (Int)) × (List (ByteArray)) × (List (Int × Int × Int × Int × Int × (List (Int)) × ByteArray)))
  | 0 => fun _ => none
  | j + 1 => impl_Send.s0 k (impl_Send.l0 k j)
def impl_Send.S0 (p : (Int × Int × Int × (List (ByteArray)) × (List (Int × ByteArray × Int × Int)) × (List (Int × ByteArray)) × (List (Int)) × (List (ByteArray)) × Int × Int × Int × Int × Int × Int × Int × Int × Int × Int × Int × Int × (List (ByteArray)) × (List (Int × ByteArray × Int × Int)) × (List (Int × ByteArray)) × (List (Int)) × (List (ByteArray)) × (List (ByteArray)) × (List (Int × ByteArray × Int × Int)) × (List (Int × ByteArray)) × (List (Int)) × (List (ByteArray)) × (List (Int × Int × Int × Int × Int × (List (Int)) × ByteArray)))) : DS := ⟨tl [(1, .at (.int .i64 p.1)), (2, .at (.bptr 32 0)), (4, .at (.bptr 64 0)), (6, .at (.bptr 96 0)), (7, .at (.whole 1786)), (27, .at (.int .i64 p.2.1)), (28, .at (.int .i64 p.2.2.1))], lookO [(3, .row 9 .str false p.2.2.2.1), (4, .row 92 (.two (.int .i64) (.two .str (.two (.int .i64) (.int .i64)))) false p.2.2.2.2.1), (6, .row 87 (.two (.int .i64) .str) false p.2.2.2.2.2.1), (7, .row 3 (.int .i64) false p.2.2.2.2.2.2.1), (8, .row 9 .str false p.2.2.2.2.2.2.2.1), (32, .box 36 [.int .i64 p.2.2.2.2.2.2.2.2.1, .int .i64 p.2.2.2.2.2.2.2.2.2.1, .int .i64 p.2.2.2.2.2.2.2.2.2.2.1, .whole 3, .whole 4, .int .i64 p.2.2.2.2.2.2.2.2.2.2.2.1, .whole 6, .whole 7, .whole 8]), (64, .box 36 [.int .i64 p.2.2.2.2.2.2.2.2.2.2.2.2.1, .int .i64 p.2.2.2.2.2.2.2.2.2.2.2.2.2.1, .int .i64 p.2.2.2.2.2.2.2.2.2.2.2.2.2.2.1, .whole 1776, .whole 1777, .int .i64 p.2.2.2.2.2.2.2.2.2.2.2.2.2.2.2.1, .whole 1778, .whole 1779, .whole 1780]), (96, .box 36 [.int .i64 p.2.2.2.2.2.2.2.2.2.2.2.2.2.2.2.2.1, .int .i64 p.2.2.2.2.2.2.2.2.2.2.2.2.2.2.2.2.2.1, .int .i64 p.2.2.2.2.2.2.2.2.2.2.2.2.2.2.2.2.2.2.1, .whole 1781, .whole 1782, .int .i64 p.2.2.2.2.2.2.2.2.2.2.2.2.2.2.2.2.2.2.2.1, .whole 1783, .whole 1784, .whole 1785]), (1776, .row 9 .str true p.2.2.2.2.2.2.2.2.2.2.2.2.2.2.2.2.2.2.2.2.1), (1777, .row 92 (.two (.int .i64) (.two .str (.two (.int .i64) (.int .i64)))) true p.2.2.2.2.2.2.2.2.2.2.2.2.2.2.2.2.2.2.2.2.2.1), (1778, .row 87 (.two (.int .i64) .str) true p.2.2.2.2.2.2.2.2.2.2.2.2.2.2.2.2.2.2.2.2.2.2.1), (1779, .row 3 (.int .i64) true p.2.2.2.2.2.2.2.2.2.2.2.2.2.2.2.2.2.2.2.2.2.2.2.1), (1780, .row 9 .str true p.2.2.2.2.2.2.2.2.2.2.2.2.2.2.2.2.2.2.2.2.2.2.2.2.1), (1781, .row 9 .str true p.2.2.2.2.2.2.2.2.2.2.2.2.2.2.2.2.2.2.2.2.2.2.2.2.2.1), (1782, .row 92 (.two (.int .i64) (.two .str (.two (.int .i64) (.int .i64)))) true p.2.2.2.2.2.2.2.2.2.2.2.2.2.2.2.2.2.2.2.2.2.2.2.2.2.2.1), (1783, .row 87 (.two (.int .i64) .str) true p.2.2.2.2.2.2.2.2.2.2.2.2.2.2.2.2.2.2.2.2.2.2.2.2.2.2.2.1), (1784, .row 3 (.int .i64) true p.2.2.2.2.2.2.2.2.2.2.2.2.2.2.2.2.2.2.2.2.2.2.2.2.2.2.2.2.1), (1785, .row 9 .str true p.2.2.2.2.2.2.2.2.2.2.2.2.2.2.2.2.2.2.2.2.2.2.2.2.2.2.2.2.2.1), (1786, .deep 28 (.two (.int .i64) (.two (.int .i64) (.two (.int .i64) (.two (.int .i64) (.two (.int .i64) (.two (.sl 3 (.int .i64)) .str)))))) p.2.2.2.2.2.2.2.2.2.2.2.2.2.2.2.2.2.2.2.2.2.2.2.2.2.2.2.2.2.2 none)]⟩
noncomputable def impl_Send.D0 (k : Nat) (j : Nat) (p : (Int × Int × Int × (List (ByteArray)) × (List (Int × ByteArray × Int × Int)) × (List (Int × ByteArray)) × (List (Int)) × (List (ByteArray)) × Int × Int × Int × Int × Int × Int × Int × Int × Int × Int × Int × Int × (List (ByteArray)) × (List (Int × ByteArray × Int × Int)) × (List (Int × ByteArray)) × (List (Int)) × (List (ByteArray)) × (List (ByteArray)) × (List (Int × ByteArray × Int × Int)) × (List (Int × ByteArray)) × (List (Int)) × (List (ByteArray)) × (List (Int × Int × Int × Int × Int × (List (Int)) × ByteArray)))) : Option (Int × Int × Int × (List (ByteArray)) × (List (Int × ByteArray × Int × Int)) × Int × (List (Int × ByteArray)) × (List (Int)) × (List (ByteArray)) × (List (Int × Int × Int × Int × Int × (List (Int)) × ByteArray))) := loopK (normK [3, 4, 6, 7, 8] (impl_Send.h 0)) (runK impl_Send.x k 0 [3, 4, 6, 7, 8] impl_Send.h 0 (sub impl_Send.c [1, 1, 1, 1, 1, 0, 1, 0, 0])) j (impl_Send.S0 p) (kBlk 0 (kSeq (runK impl_Send.x k 0 [3, 4, 6, 7, 8] impl_Send.h 0 (sub impl_Send.c [1, 1, 1, 1, 1, 1])) (fin tt impl_Send.ps impl_Send.rs impl_Send.vs (.two (.int .i64) (.two (.int .i64) (.two (.int .i64) (.two (.sl 9 .str) (.two (.sl 92 (.two (.int .i64) (.two .str (.two (.int .i64) (.int .i64))))) (.two (.int .i64) (.two (.sl 87 (.two (.int .i64) .str)) (.two (.sl 3 (.int .i64)) (.two (.sl 9 .str) (.sl 28 (.two (.int .i64) (.two (.int .i64) (.two (.int .i64) (.two (.int .i64) (.two (.int .i64) (.two (.sl 3 (.int .i64)) .str)))))))))))))))))))
theorem impl_Send.D0_eq (k : Nat) : ∀ j, impl_Send.D0 k j = impl_Send.l0 k j := by
  intro j
  induction j with
  | zero => rfl
  | succ j ih =>
    show _ = impl_Send.s0 k (impl_Send.l0 k j)
    rw [← ih]
    funext p
    kernel_rfl
def impl_Send.f (k : Nat) (a0_0 : Int) (a0_1 : Int) (a0_2 : Int) (a0_3 : List (ByteArray)) (a0_4 : List (Int × ByteArray × Int × Int)) (a0_5 : Int) (a0_6 : List (Int × ByteArray)) (a0_7 : List (Int)) (a0_8 : List (ByteArray)) (a1 : Int) : Option (Int × Int × Int × (List (ByteArray)) × (List (Int × ByteArray × Int × Int)) × Int × (List (Int × ByteArray)) × (List (Int)) × (List (ByteArray)) × (List (Int × Int × Int × Int × Int × (List (Int)) × ByteArray))) :=
  (impl_copyChan.f k a0_0 a0_1 a0_2 a0_3 a0_4 a0_5 a0_6 a0_7 a0_8).bind fun r1 => (impl_ChanOk.f k a0_0 a0_1 a0_2 a0_3 a0_4 a0_5 a0_6 a0_7 a0_8).bind fun r2 => (bif (!r2) then some (r1.1, r1.2.1, r1.2.2.1, r1.2.2.2.1, r1.2.2.2.2.1, r1.2.2.2.2.2.1, r1.2.2.2.2.2.2.1, r1.2.2.2.2.2.2.2.1, r1.2.2.2.2.2.2.2.2, ([] : List (Int × Int × Int × Int × Int × (List (Int)) × ByteArray))) else (impl_within.f k a1 (0 : Int) (999999000 : Int)).bind fun r3 => (bif (!r3) then some (r1.1, r1.2.1, r1.2.2.1, r1.2.2.2.1, r1.2.2.2.2.1, r1.2.2.2.2.2.1, r1.2.2.2.2.2.2.1, r1.2.2.2.2.2.2.2.1, r1.2.2.2.2.2.2.2.2, ([] : List (Int × Int × Int × Int × Int × (List (Int)) × ByteArray))) else (impl_Chan_fill.f k r1.1 r1.2.1 r1.2.2.1 r1.2.2.2.1 r1.2.2.2.2.1 r1.2.2.2.2.2.1 r1.2.2.2.2.2.2.1 r1.2.2.2.2.2.2.2.1 r1.2.2.2.2.2.2.2.2 a1).bind fun r4 => impl_Send.l0 k k (a1, (r4.2.2.2.2.1.length : Int), (0 : Int), a0_3, a0_4, a0_6, a0_7, a0_8, a0_0, a0_1, a0_2, a0_5, (0 : Int), (0 : Int), (0 : Int), (0 : Int), r4.1, r4.2.1, r4.2.2.1, r4.2.2.2.2.2.1, ([] : List (ByteArray)), ([] : List (Int × ByteArray × Int × Int)), ([] : List (Int × ByteArray)), ([] : List (Int)), ([] : List (ByteArray)), r4.2.2.2.1, r4.2.2.2.2.1, r4.2.2.2.2.2.2.1, r4.2.2.2.2.2.2.2.1, r4.2.2.2.2.2.2.2.2, ([] : List (Int × Int × Int × Int × Int × (List (Int)) × ByteArray)))))
def impl_Send.K : Ctr := ⟨impl_Send.ps, impl_Send.rs, false, (.two (.int .i64) (.two (.int .i64) (.two (.int .i64) (.two (.sl 9 .str) (.two (.sl 92 (.two (.int .i64) (.two .str (.two (.int .i64) (.int .i64))))) (.two (.int .i64) (.two (.sl 87 (.two (.int .i64) .str)) (.two (.sl 3 (.int .i64)) (.two (.sl 9 .str) (.int .i64)))))))))), (.two (.int .i64) (.two (.int .i64) (.two (.int .i64) (.two (.sl 9 .str) (.two (.sl 92 (.two (.int .i64) (.two .str (.two (.int .i64) (.int .i64))))) (.two (.int .i64) (.two (.sl 87 (.two (.int .i64) .str)) (.two (.sl 3 (.int .i64)) (.two (.sl 9 .str) (.sl 28 (.two (.int .i64) (.two (.int .i64) (.two (.int .i64) (.two (.int .i64) (.two (.int .i64) (.two (.sl 3 (.int .i64)) .str)))))))))))))))), fun k x => impl_Send.f k x.1 x.2.1 x.2.2.1 x.2.2.2.1 x.2.2.2.2.1 x.2.2.2.2.2.1 x.2.2.2.2.2.2.1 x.2.2.2.2.2.2.2.1 x.2.2.2.2.2.2.2.2.1 x.2.2.2.2.2.2.2.2.2⟩
theorem impl_Send.eq (k : Nat) (x : (impl_Send.K.I).den) : func impl_Send.x impl_Send.h impl_Send.ps impl_Send.rs impl_Send.vs impl_Send.K.I impl_Send.K.O impl_Send.c k x = impl_Send.K.run k x := by
  show _ = impl_Send.f k x.1 x.2.1 x.2.2.1 x.2.2.2.1 x.2.2.2.2.1 x.2.2.2.2.2.1 x.2.2.2.2.2.2.1 x.2.2.2.2.2.2.2.1 x.2.2.2.2.2.2.2.2.1 x.2.2.2.2.2.2.2.2.2
  unfold impl_Send.f
  rw [← impl_Send.D0_eq k k]
  kernel_rfl
theorem impl_Send.ok : CtrOk Try.prog 28 impl_Send.K :=
  CtrOk.of (fn := Try.f28) (cd := impl_Send.c) (cx := impl_Send.x) (hs := impl_Send.h) (by kernel_rfl) (by kernel_rfl) (by kernel_rfl) (by kernel_rfl) tt_ok (envOk_cons impl_copyChan.ok (envOk_cons impl_ChanOk.ok (envOk_cons impl_within.ok (envOk_cons impl_Chan_fill.ok (envOk_cons impl_copyInts.ok (envOk_nil)))))) (by kernel_rfl) (by kernel_rfl) (by kernel_rfl) (by kernel_rfl) fun k x r h => (impl_Send.eq k x).trans h
/-! laws.eqStringS -/
noncomputable def laws_eqStringS.c : Code := bodyOf Try.f54
def laws_eqStringS.h : Nat → Hint := look ⟨[], [], []⟩ [(0, ⟨[0, 1, 5], [], []⟩)]
def laws_eqStringS.ps : List PK := [.one, .one]
def laws_eqStringS.rs : List RK := [.one true]
def laws_eqStringS.vs : List ResultVar := [.tmp 4]
def laws_eqStringS.x : Cx := ⟨tt, look none []⟩
def laws_eqStringS.s0 (_k : Nat) (rec0 : (Int × (List (ByteArray)) × (List (ByteArray))) → Option (Bool)) (p : (Int × (List (ByteArray)) × (List (ByteArray)))) : Option (Bool) :=
  (bif (decide (p.1 < (p.2.1.length : Int))) then (bif ((decide ((0 : Int) ≤ p.1)) && (decide (p.1 < (p.2.1.length : Int)))) then (p.2.1[p.1.toNat]?).bind fun x1 => (bif ((decide ((0 : Int) ≤ p.1)) && (decide (p.1 < (p.2.2.length : Int)))) then (p.2.2[p.1.toNat]?).bind fun x2 => (bif (!(x1.toList == x2.toList)) then some false else rec0 ((IntKind.i64.wrap (p.1 + (1 : Int))), p.2.1, p.2.2)) else none) else none) else some true)
def laws_eqStringS.l0 (k : Nat) : Nat → (Int × (List (ByteArray)) × (List (ByteArray))) → Option (Bool)
  | 0 => fun _ => none
  | j + 1 => laws_eqStringS.s0 k (laws_eqStringS.l0 k j)
def laws_eqStringS.S0 (p : (Int × (List (ByteArray)) × (List (ByteArray)))) : DS := ⟨tl [(0, .at (.whole 0)), (1, .at (.whole 16)), (5, .at (.int .i64 p.1))], lookO [(0, .row 9 .str false p.2.1), (16, .row 9 .str false p.2.2)]⟩
noncomputable def laws_eqStringS.D0 (k : Nat) (j : Nat) (p : (Int × (List (ByteArray)) × (List (ByteArray)))) : Option (Bool) := loopK (normK [0, 16] (laws_eqStringS.h 0)) (runK laws_eqStringS.x k 0 [0, 16] laws_eqStringS.h 0 (sub laws_eqStringS.c [1, 1, 0, 1, 0, 0])) j (laws_eqStringS.S0 p) (kBlk 0 (kSeq (runK laws_eqStringS.x k 0 [0, 16] laws_eqStringS.h 0 (sub laws_eqStringS.c [1, 1, 1])) (fin tt laws_eqStringS.ps laws_eqStringS.rs laws_eqStringS.vs .bool)))
theorem laws_eqStringS.D0_eq (k : Nat) : ∀ j, laws_eqStringS.D0 k j = laws_eqStringS.l0 k j := by
  intro j
  induction j with
  | zero => rfl
  | succ j ih =>
    show _ = laws_eqStringS.s0 k (laws_eqStringS.l0 k j)
    rw [← ih]
    funext p
    kernel_rfl
def laws_eqStringS.f (k : Nat) (a0 : List (ByteArray)) (a1 : List (ByteArray)) : Option (Bool) :=
  (bif ((a0.length : Int) != (a1.length : Int)) then some false else laws_eqStringS.l0 k k ((0 : Int), a0, a1))
def laws_eqStringS.K : Ctr := ⟨laws_eqStringS.ps, laws_eqStringS.rs, false, (.two (.sl 9 .str) (.sl 9 .str)), .bool, fun k x => laws_eqStringS.f k x.1 x.2⟩
theorem laws_eqStringS.eq (k : Nat) (x : (laws_eqStringS.K.I).den) : func laws_eqStringS.x laws_eqStringS.h laws_eqStringS.ps laws_eqStringS.rs laws_eqStringS.vs laws_eqStringS.K.I laws_eqStringS.K.O laws_eqStringS.c k x = laws_eqStringS.K.run k x := by
  show _ = laws_eqStringS.f k x.1 x.2
  unfold laws_eqStringS.f
  rw [← laws_eqStringS.D0_eq k k]
  kernel_rfl
theorem laws_eqStringS.ok : CtrOk Try.prog 54 laws_eqStringS.K :=
  CtrOk.of (fn := Try.f54) (cd := laws_eqStringS.c) (cx := laws_eqStringS.x) (hs := laws_eqStringS.h) (by kernel_rfl) (by kernel_rfl) (by kernel_rfl) (by kernel_rfl) tt_ok (envOk_nil) (by kernel_rfl) (by kernel_rfl) (by kernel_rfl) (by kernel_rfl) fun k x r h => (laws_eqStringS.eq k x).trans h
/-! laws.eqPending -/
noncomputable def laws_eqPending.c : Code := bodyOf Try.f100
def laws_eqPending.h : Nat → Hint := look ⟨[], [], []⟩ []
def laws_eqPending.ps : List PK := [.agg 4, .agg 4]
def laws_eqPending.rs : List RK := [.one true]
def laws_eqPending.vs : List ResultVar := [.tmp 4]
def laws_eqPending.x : Cx := ⟨tt, look none []⟩
def laws_eqPending.f (_k : Nat) (a0_0 : Int) (a0_1 : ByteArray) (a0_2 : Int) (a0_3 : Int) (a1_0 : Int) (a1_1 : ByteArray) (a1_2 : Int) (a1_3 : Int) : Option (Bool) :=
  (bif (a0_0 != a1_0) then some false else (bif (!(a0_1.toList == a1_1.toList)) then some false else (bif (a0_2 != a1_2) then some false else (bif (a0_3 != a1_3) then some false else some true))))
def laws_eqPending.K : Ctr := ⟨laws_eqPending.ps, laws_eqPending.rs, false, (.two (.int .i64) (.two .str (.two (.int .i64) (.two (.int .i64) (.two (.int .i64) (.two .str (.two (.int .i64) (.int .i64)))))))), .bool, fun k x => laws_eqPending.f k x.1 x.2.1 x.2.2.1 x.2.2.2.1 x.2.2.2.2.1 x.2.2.2.2.2.1 x.2.2.2.2.2.2.1 x.2.2.2.2.2.2.2⟩
theorem laws_eqPending.eq (k : Nat) (x : (laws_eqPending.K.I).den) : func laws_eqPending.x laws_eqPending.h laws_eqPending.ps laws_eqPending.rs laws_eqPending.vs laws_eqPending.K.I laws_eqPending.K.O laws_eqPending.c k x = laws_eqPending.K.run k x := by
  show _ = laws_eqPending.f k x.1 x.2.1 x.2.2.1 x.2.2.2.1 x.2.2.2.2.1 x.2.2.2.2.2.1 x.2.2.2.2.2.2.1 x.2.2.2.2.2.2.2
  kernel_rfl
theorem laws_eqPending.ok : CtrOk Try.prog 100 laws_eqPending.K :=
  CtrOk.of (fn := Try.f100) (cd := laws_eqPending.c) (cx := laws_eqPending.x) (hs := laws_eqPending.h) (by kernel_rfl) (by kernel_rfl) (by kernel_rfl) (by kernel_rfl) tt_ok (envOk_nil) (by kernel_rfl) (by kernel_rfl) (by kernel_rfl) (by kernel_rfl) fun k x r h => (laws_eqPending.eq k x).trans h
/-! laws.eqPendingS -/
noncomputable def laws_eqPendingS.c : Code := bodyOf Try.f55
def laws_eqPendingS.h : Nat → Hint := look ⟨[], [], []⟩ [(0, ⟨[0, 1, 5], [], []⟩)]
def laws_eqPendingS.ps : List PK := [.one, .one]
def laws_eqPendingS.rs : List RK := [.one true]
def laws_eqPendingS.vs : List ResultVar := [.tmp 4]
def laws_eqPendingS.x : Cx := ⟨tt, look none [(100, some laws_eqPending.K)]⟩
def laws_eqPendingS.s0 (k : Nat) (rec0 : (Int × (List (Int × ByteArray × Int × Int)) × (List (Int × ByteArray × Int × Int))) → Option (Bool)) (p : (Int × (List (Int × ByteArray × Int × Int)) × (List (Int × ByteArray × Int × Int)))) : Option (Bool) :=
  (bif (decide (p.1 < (p.2.1.length : Int))) then (bif ((decide ((0 : Int) ≤ p.1)) && (decide (p.1 < (p.2.1.length : Int)))) then (p.2.1[p.1.toNat]?).bind fun x1 => (bif ((decide ((0 : Int) ≤ p.1)) && (decide (p.1 < (p.2.2.length : Int)))) then (p.2.2[p.1.toNat]?).bind fun x2 => (laws_eqPending.f k x1.1 x1.2.1 x1.2.2.1 x1.2.2.2 x2.1 x2.2.1 x2.2.2.1 x2.2.2.2).bind fun r3 => (bif (!r3) then some false else rec0 ((IntKind.i64.wrap (p.1 + (1 : Int))), p.2.1, p.2.2)) else none) else none) else some true)
def laws_eqPendingS.l0 (k : Nat) : Nat → (Int × (List (Int × ByteArray × Int × Int)) × (List (Int × ByteArray × Int × Int))) → Option (Bool)
  | 0 => fun _ => none
  | j + 1 => laws_eqPendingS.s0 k (laws_eqPendingS.l0 k j)
def laws_eqPendingS.S0 (p : (Int × (List (Int × ByteArray × Int × Int)) × (List (Int × ByteArray × Int × Int)))) : DS := ⟨tl [(0, .at (.whole 0)), (1, .at (.whole 16)), (5, .at (.int .i64 p.1))], lookO [(0, .row 92 (.two (.int .i64) (.two .str (.two (.int .i64) (.int .i64)))) false p.2.1), (16, .row 92 (.two (.int .i64) (.two .str (.two (.int .i64) (.int .i64)))) false p.2.2)]⟩
noncomputable def laws_eqPendingS.D0 (k : Nat) (j : Nat) (p : (Int × (List (Int × ByteArray × Int × Int)) × (List (Int × ByteArray × Int × Int)))) : Option (Bool) := loopK (normK [0, 16] (laws_eqPendingS.h 0)) (runK laws_eqPendingS.x k 0 [0, 16] laws_eqPendingS.h 0 (sub laws_eqPendingS.c [1, 1, 0, 1, 0, 0])) j (laws_eqPendingS.S0 p) (kBlk 0 (kSeq (runK laws_eqPendingS.x k 0 [0, 16] laws_eqPendingS.h 0 (sub laws_eqPendingS.c [1, 1, 1])) (fin tt laws_eqPendingS.ps laws_eqPendingS.rs laws_eqPendingS.vs .bool)))
theorem laws_eqPendingS.D0_eq (k : Nat) : ∀ j, laws_eqPendingS.D0 k j = laws_eqPendingS.l0 k j := by
  intro j
  induction j with
  | zero => rfl
  | succ j ih =>
    show _ = laws_eqPendingS.s0 k (laws_eqPendingS.l0 k j)
    rw [← ih]
    funext p
    kernel_rfl
def laws_eqPendingS.f (k : Nat) (a0 : List (Int × ByteArray × Int × Int)) (a1 : List (Int × ByteArray × Int × Int)) : Option (Bool) :=
  (bif ((a0.length : Int) != (a1.length : Int)) then some false else laws_eqPendingS.l0 k k ((0 : Int), a0, a1))
def laws_eqPendingS.K : Ctr := ⟨laws_eqPendingS.ps, laws_eqPendingS.rs, false, (.two (.sl 92 (.two (.int .i64) (.two .str (.two (.int .i64) (.int .i64))))) (.sl 92 (.two (.int .i64) (.two .str (.two (.int .i64) (.int .i64)))))), .bool, fun k x => laws_eqPendingS.f k x.1 x.2⟩
theorem laws_eqPendingS.eq (k : Nat) (x : (laws_eqPendingS.K.I).den) : func laws_eqPendingS.x laws_eqPendingS.h laws_eqPendingS.ps laws_eqPendingS.rs laws_eqPendingS.vs laws_eqPendingS.K.I laws_eqPendingS.K.O laws_eqPendingS.c k x = laws_eqPendingS.K.run k x := by
  show _ = laws_eqPendingS.f k x.1 x.2
  unfold laws_eqPendingS.f
  rw [← laws_eqPendingS.D0_eq k k]
  kernel_rfl
theorem laws_eqPendingS.ok : CtrOk Try.prog 55 laws_eqPendingS.K :=
  CtrOk.of (fn := Try.f55) (cd := laws_eqPendingS.c) (cx := laws_eqPendingS.x) (hs := laws_eqPendingS.h) (by kernel_rfl) (by kernel_rfl) (by kernel_rfl) (by kernel_rfl) tt_ok (envOk_cons laws_eqPending.ok (envOk_nil)) (by kernel_rfl) (by kernel_rfl) (by kernel_rfl) (by kernel_rfl) fun k x r h => (laws_eqPendingS.eq k x).trans h
/-! laws.eqEarly -/
noncomputable def laws_eqEarly.c : Code := bodyOf Try.f101
def laws_eqEarly.h : Nat → Hint := look ⟨[], [], []⟩ []
def laws_eqEarly.ps : List PK := [.agg 2, .agg 2]
def laws_eqEarly.rs : List RK := [.one true]
def laws_eqEarly.vs : List ResultVar := [.tmp 4]
def laws_eqEarly.x : Cx := ⟨tt, look none []⟩
def laws_eqEarly.f (_k : Nat) (a0_0 : Int) (a0_1 : ByteArray) (a1_0 : Int) (a1_1 : ByteArray) : Option (Bool) :=
  (bif (a0_0 != a1_0) then some false else (bif (!(a0_1.toList == a1_1.toList)) then some false else some true))
def laws_eqEarly.K : Ctr := ⟨laws_eqEarly.ps, laws_eqEarly.rs, false, (.two (.int .i64) (.two .str (.two (.int .i64) .str))), .bool, fun k x => laws_eqEarly.f k x.1 x.2.1 x.2.2.1 x.2.2.2⟩
theorem laws_eqEarly.eq (k : Nat) (x : (laws_eqEarly.K.I).den) : func laws_eqEarly.x laws_eqEarly.h laws_eqEarly.ps laws_eqEarly.rs laws_eqEarly.vs laws_eqEarly.K.I laws_eqEarly.K.O laws_eqEarly.c k x = laws_eqEarly.K.run k x := by
  show _ = laws_eqEarly.f k x.1 x.2.1 x.2.2.1 x.2.2.2
  kernel_rfl
theorem laws_eqEarly.ok : CtrOk Try.prog 101 laws_eqEarly.K :=
  CtrOk.of (fn := Try.f101) (cd := laws_eqEarly.c) (cx := laws_eqEarly.x) (hs := laws_eqEarly.h) (by kernel_rfl) (by kernel_rfl) (by kernel_rfl) (by kernel_rfl) tt_ok (envOk_nil) (by kernel_rfl) (by kernel_rfl) (by kernel_rfl) (by kernel_rfl) fun k x r h => (laws_eqEarly.eq k x).trans h
/-! laws.eqEarlyS -/
noncomputable def laws_eqEarlyS.c : Code := bodyOf Try.f56
def laws_eqEarlyS.h : Nat → Hint := look ⟨[], [], []⟩ [(0, ⟨[0, 1, 5], [], []⟩)]
def laws_eqEarlyS.ps : List PK := [.one, .one]
def laws_eqEarlyS.rs : List RK := [.one true]
def laws_eqEarlyS.vs : List ResultVar := [.tmp 4]
def laws_eqEarlyS.x : Cx := ⟨tt, look none [(101, some laws_eqEarly.K)]⟩
def laws_eqEarlyS.s0 (k : Nat) (rec0 : (Int × (List (Int × ByteArray)) × (List (Int × ByteArray))) → Option (Bool)) (p : (Int × (List (Int × ByteArray)) × (List (Int × ByteArray)))) : Option (Bool) :=
  (bif (decide (p.1 < (p.2.1.length : Int))) then (bif ((decide ((0 : Int) ≤ p.1)) && (decide (p.1 < (p.2.1.length : Int)))) then (p.2.1[p.1.toNat]?).bind fun x1 => (bif ((decide ((0 : Int) ≤ p.1)) && (decide (p.1 < (p.2.2.length : Int)))) then (p.2.2[p.1.toNat]?).bind fun x2 => (laws_eqEarly.f k x1.1 x1.2 x2.1 x2.2).bind fun r3 => (bif (!r3) then some false else rec0 ((IntKind.i64.wrap (p.1 + (1 : Int))), p.2.1, p.2.2)) else none) else none) else some true)
def laws_eqEarlyS.l0 (k : Nat) : Nat → (Int × (List (Int × ByteArray)) × (List (Int × ByteArray))) → Option (Bool)
  | 0 => fun _ => none
  | j + 1 => laws_eqEarlyS.s0 k (laws_eqEarlyS.l0 k j)
def laws_eqEarlyS.S0 (p : (Int × (List (Int × ByteArray)) × (List (Int × ByteArray)))) : DS := ⟨tl [(0, .at (.whole 0)), (1, .at (.whole 16)), (5, .at (.int .i64 p.1))], lookO [(0, .row 87 (.two (.int .i64) .str) false p.2.1), (16, .row 87 (.two (.int .i64) .str) false p.2.2)]⟩
noncomputable def laws_eqEarlyS.D0 (k : Nat) (j : Nat) (p : (Int × (List (Int × ByteArray)) × (List (Int × ByteArray)))) : Option (Bool) := loopK (normK [0, 16] (laws_eqEarlyS.h 0)) (runK laws_eqEarlyS.x k 0 [0, 16] laws_eqEarlyS.h 0 (sub laws_eqEarlyS.c [1, 1, 0, 1, 0, 0])) j (laws_eqEarlyS.S0 p) (kBlk 0 (kSeq (runK laws_eqEarlyS.x k 0 [0, 16] laws_eqEarlyS.h 0 (sub laws_eqEarlyS.c [1, 1, 1])) (fin tt laws_eqEarlyS.ps laws_eqEarlyS.rs laws_eqEarlyS.vs .bool)))
theorem laws_eqEarlyS.D0_eq (k : Nat) : ∀ j, laws_eqEarlyS.D0 k j = laws_eqEarlyS.l0 k j := by
  intro j
  induction j with
  | zero => rfl
  | succ j ih =>
    show _ = laws_eqEarlyS.s0 k (laws_eqEarlyS.l0 k j)
    rw [← ih]
    funext p
    kernel_rfl
def laws_eqEarlyS.f (k : Nat) (a0 : List (Int × ByteArray)) (a1 : List (Int × ByteArray)) : Option (Bool) :=
  (bif ((a0.length : Int) != (a1.length : Int)) then some false else laws_eqEarlyS.l0 k k ((0 : Int), a0, a1))
def laws_eqEarlyS.K : Ctr := ⟨laws_eqEarlyS.ps, laws_eqEarlyS.rs, false, (.two (.sl 87 (.two (.int .i64) .str)) (.sl 87 (.two (.int .i64) .str))), .bool, fun k x => laws_eqEarlyS.f k x.1 x.2⟩
theorem laws_eqEarlyS.eq (k : Nat) (x : (laws_eqEarlyS.K.I).den) : func laws_eqEarlyS.x laws_eqEarlyS.h laws_eqEarlyS.ps laws_eqEarlyS.rs laws_eqEarlyS.vs laws_eqEarlyS.K.I laws_eqEarlyS.K.O laws_eqEarlyS.c k x = laws_eqEarlyS.K.run k x := by
  show _ = laws_eqEarlyS.f k x.1 x.2
  unfold laws_eqEarlyS.f
  rw [← laws_eqEarlyS.D0_eq k k]
  kernel_rfl
theorem laws_eqEarlyS.ok : CtrOk Try.prog 56 laws_eqEarlyS.K :=
  CtrOk.of (fn := Try.f56) (cd := laws_eqEarlyS.c) (cx := laws_eqEarlyS.x) (hs := laws_eqEarlyS.h) (by kernel_rfl) (by kernel_rfl) (by kernel_rfl) (by kernel_rfl) tt_ok (envOk_cons laws_eqEarly.ok (envOk_nil)) (by kernel_rfl) (by kernel_rfl) (by kernel_rfl) (by kernel_rfl) fun k x r h => (laws_eqEarlyS.eq k x).trans h
/-! laws.eqIntS -/
noncomputable def laws_eqIntS.c : Code := bodyOf Try.f51
def laws_eqIntS.h : Nat → Hint := look ⟨[], [], []⟩ [(0, ⟨[0, 1, 5], [], []⟩)]
def laws_eqIntS.ps : List PK := [.one, .one]
def laws_eqIntS.rs : List RK := [.one true]
def laws_eqIntS.vs : List ResultVar := [.tmp 4]
def laws_eqIntS.x : Cx := ⟨tt, look none []⟩
def laws_eqIntS.s0 (_k : Nat) (rec0 : (Int × (List (Int)) × (List (Int))) → Option (Bool)) (p : (Int × (List (Int)) × (List (Int)))) : Option (Bool) :=
  (bif (decide (p.1 < (p.2.1.length : Int))) then (bif ((decide ((0 : Int) ≤ p.1)) && (decide (p.1 < (p.2.1.length : Int)))) then (p.2.1[p.1.toNat]?).bind fun x1 => (bif ((decide ((0 : Int) ≤ p.1)) && (decide (p.1 < (p.2.2.length : Int)))) then (p.2.2[p.1.toNat]?).bind fun x2 => (bif (x1 != x2) then some false else rec0 ((IntKind.i64.wrap (p.1 + (1 : Int))), p.2.1, p.2.2)) else none) else none) else some true)
def laws_eqIntS.l0 (k : Nat) : Nat → (Int × (List (Int)) × (List (Int))) → Option (Bool)
  | 0 => fun _ => none
  | j + 1 => laws_eqIntS.s0 k (laws_eqIntS.l0 k j)
def laws_eqIntS.S0 (p : (Int × (List (Int)) × (List (Int)))) : DS := ⟨tl [(0, .at (.whole 0)), (1, .at (.whole 16)), (5, .at (.int .i64 p.1))], lookO [(0, .row 3 (.int .i64) false p.2.1), (16, .row 3 (.int .i64) false p.2.2)]⟩
noncomputable def laws_eqIntS.D0 (k : Nat) (j : Nat) (p : (Int × (List (Int)) × (List (Int)))) : Option (Bool) := loopK (normK [0, 16] (laws_eqIntS.h 0)) (runK laws_eqIntS.x k 0 [0, 16] laws_eqIntS.h 0 (sub laws_eqIntS.c [1, 1, 0, 1, 0, 0])) j (laws_eqIntS.S0 p) (kBlk 0 (kSeq (runK laws_eqIntS.x k 0 [0, 16] laws_eqIntS.h 0 (sub laws_eqIntS.c [1, 1, 1])) (fin tt laws_eqIntS.ps laws_eqIntS.rs laws_eqIntS.vs .bool)))
theorem laws_eqIntS.D0_eq (k : Nat) : ∀ j, laws_eqIntS.D0 k j = laws_eqIntS.l0 k j := by
  intro j
  induction j with
  | zero => rfl
  | succ j ih =>
    show _ = laws_eqIntS.s0 k (laws_eqIntS.l0 k j)
    rw [← ih]
    funext p
    kernel_rfl
def laws_eqIntS.f (k : Nat) (a0 : List (Int)) (a1 : List (Int)) : Option (Bool) :=
  (bif ((a0.length : Int) != (a1.length : Int)) then some false else laws_eqIntS.l0 k k ((0 : Int), a0, a1))
def laws_eqIntS.K : Ctr := ⟨laws_eqIntS.ps, laws_eqIntS.rs, false, (.two (.sl 3 (.int .i64)) (.sl 3 (.int .i64))), .bool, fun k x => laws_eqIntS.f k x.1 x.2⟩
theorem laws_eqIntS.eq (k : Nat) (x : (laws_eqIntS.K.I).den) : func laws_eqIntS.x laws_eqIntS.h laws_eqIntS.ps laws_eqIntS.rs laws_eqIntS.vs laws_eqIntS.K.I laws_eqIntS.K.O laws_eqIntS.c k x = laws_eqIntS.K.run k x := by
  show _ = laws_eqIntS.f k x.1 x.2
  unfold laws_eqIntS.f
  rw [← laws_eqIntS.D0_eq k k]
  kernel_rfl
theorem laws_eqIntS.ok : CtrOk Try.prog 51 laws_eqIntS.K :=
  CtrOk.of (fn := Try.f51) (cd := laws_eqIntS.c) (cx := laws_eqIntS.x) (hs := laws_eqIntS.h) (by kernel_rfl) (by kernel_rfl) (by kernel_rfl) (by kernel_rfl) tt_ok (envOk_nil) (by kernel_rfl) (by kernel_rfl) (by kernel_rfl) (by kernel_rfl) fun k x r h => (laws_eqIntS.eq k x).trans h
end Go.Proofs.Ytpheniajdbbphaa.DI
