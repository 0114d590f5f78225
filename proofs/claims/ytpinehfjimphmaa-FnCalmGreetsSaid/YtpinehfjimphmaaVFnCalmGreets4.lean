/- FnCalmGreets: functions as plain Lean, in the machine of values. -/
import Derived.Test.YtpinehfjimphmaaVFnCalmGreets3
namespace Go.Proofs.Ytpinehfjimphmaa.DI
open Go
set_option linter.unusedVariables false
/-! impl.Greeting -/
noncomputable def impl_Greeting.c : Code := bodyOf Try.f24
def impl_Greeting.h : Nat → Hint := look ⟨[], [], []⟩ [(0, ⟨[0, 1, 27, 28, 29], [], []⟩), (2, ⟨[0, 1, 8, 9, 38], [], [(.t 8, 2224, 25, (.two (.int .i64) (.two (.int .i64) (.two (.int .i64) (.two (.int .i64) (.two (.int .i64) (.two .str .str))))))), (.t 9, 2225, 41, (.sl 9 .str))]⟩), (4, ⟨[8, 9, 78, 79, 80], [], [(.t 8, 2224, 25, (.two (.int .i64) (.two (.int .i64) (.two (.int .i64) (.two (.int .i64) (.two (.int .i64) (.two .str .str))))))), (.t 9, 2225, 41, (.sl 9 .str))]⟩)]
def impl_Greeting.ps : List PK := [.one, .one]
def impl_Greeting.rs : List RK := [.one true, .one true]
def impl_Greeting.vs : List ResultVar := [.tmp 4, .tmp 5]
def impl_Greeting.x : Cx := ⟨tt, look none [(36, some impl_SecretOf.K), (30, some impl_PublicOf.K), (15, some impl_GreeterNew.K), (12, some impl_Hello.K), (21, some impl_HearGreet.K)]⟩
def impl_Greeting.s4 (k : Nat) (rec4 : (Int × Int × (List (ByteArray)) × (List (Int)) × (List (Int × Int × Int × Int × Int × ByteArray × ByteArray)) × (List ((List (ByteArray))))) → Option ((List (Int × Int × Int × Int × Int × ByteArray × ByteArray)) × Bool)) (p : (Int × Int × (List (ByteArray)) × (List (Int)) × (List (Int × Int × Int × Int × Int × ByteArray × ByteArray)) × (List ((List (ByteArray)))))) : Option ((List (Int × Int × Int × Int × Int × ByteArray × ByteArray)) × Bool) :=
  (bif (decide (p.2.1 < p.1)) then (bif ((decide ((0 : Int) ≤ p.2.1)) && (decide (p.2.1 < (p.2.2.2.1.length : Int)))) then (p.2.2.2.1[p.2.1.toNat]?).bind fun x9 => (bif ((decide ((0 : Int) ≤ (x9.tmod (2 : Int)))) && (decide ((x9.tmod (2 : Int)) < (p.2.2.2.2.2.length : Int)))) then (p.2.2.2.2.2[(x9.tmod (2 : Int)).toNat]?).bind fun x10 => (bif ((x10.length : Int) == (0 : Int)) then ((p.2.2.2.2.2.set (x9.tmod (2 : Int)).toNat ([] : List (ByteArray)))[(x9.tmod (2 : Int)).toNat]?).bind fun y11 => rec4 (p.1, (IntKind.i64.wrap (p.2.1 + (1 : Int))), p.2.2.1, p.2.2.2.1, p.2.2.2.2.1, ((p.2.2.2.2.2.set (x9.tmod (2 : Int)).toNat ([] : List (ByteArray))).set (x9.tmod (2 : Int)).toNat x10)) else (bif ((decide ((0 : Int) ≤ (IntKind.i64.wrap ((1 : Int) - (x9.tmod (2 : Int)))))) && (decide ((IntKind.i64.wrap ((1 : Int) - (x9.tmod (2 : Int)))) < (p.2.2.2.2.1.length : Int)))) then (p.2.2.2.2.1[(IntKind.i64.wrap ((1 : Int) - (x9.tmod (2 : Int)))).toNat]?).bind fun x12 => (bif ((decide ((0 : Int) ≤ (x9.tmod (2 : Int)))) && (decide ((x9.tmod (2 : Int)) < ((p.2.2.2.2.2.set (x9.tmod (2 : Int)).toNat ([] : List (ByteArray))).length : Int)))) then ((p.2.2.2.2.2.set (x9.tmod (2 : Int)).toNat ([] : List (ByteArray)))[(x9.tmod (2 : Int)).toNat]?).bind fun y13 => (((p.2.2.2.2.2.set (x9.tmod (2 : Int)).toNat ([] : List (ByteArray))).set (x9.tmod (2 : Int)).toNat x10)[(x9.tmod (2 : Int)).toNat]?).bind fun x14 => (bif (true && (decide ((0 : Int) < (x14.length : Int)))) then (x14[0]?).bind fun x15 => (impl_HearGreet.f k x12.1 x12.2.1 x12.2.2.1 x12.2.2.2.1 x12.2.2.2.2.1 x12.2.2.2.2.2.1 x12.2.2.2.2.2.2 x15).bind fun r16 => (bif ((decide ((0 : Int) ≤ (IntKind.i64.wrap ((1 : Int) - (x9.tmod (2 : Int)))))) && (decide ((IntKind.i64.wrap ((1 : Int) - (x9.tmod (2 : Int)))) < (p.2.2.2.2.1.length : Int)))) then (p.2.2.2.2.1[(IntKind.i64.wrap ((1 : Int) - (x9.tmod (2 : Int)))).toNat]?).bind fun x17 => (bif (decide ((x9.tmod (4 : Int)) < (2 : Int))) then (bif ((decide ((0 : Int) ≤ (x9.tmod (2 : Int)))) && (decide ((x9.tmod (2 : Int)) < ((((p.2.2.2.2.2.set (x9.tmod (2 : Int)).toNat ([] : List (ByteArray))).set (x9.tmod (2 : Int)).toNat x10).set (x9.tmod (2 : Int)).toNat ([] : List (ByteArray))).length : Int)))) then ((((p.2.2.2.2.2.set (x9.tmod (2 : Int)).toNat ([] : List (ByteArray))).set (x9.tmod (2 : Int)).toNat x10).set (x9.tmod (2 : Int)).toNat ([] : List (ByteArray)))[(x9.tmod (2 : Int)).toNat]?).bind fun y18 => (((((p.2.2.2.2.2.set (x9.tmod (2 : Int)).toNat ([] : List (ByteArray))).set (x9.tmod (2 : Int)).toNat x10).set (x9.tmod (2 : Int)).toNat ([] : List (ByteArray))).set (x9.tmod (2 : Int)).toNat x14)[(x9.tmod (2 : Int)).toNat]?).bind fun x19 => (bif (true && (decide ((1 : Int) ≤ (x19.length : Int)))) then (bif ((decide ((0 : Int) ≤ (x9.tmod (2 : Int)))) && (decide ((x9.tmod (2 : Int)) < ((((((p.2.2.2.2.2.set (x9.tmod (2 : Int)).toNat ([] : List (ByteArray))).set (x9.tmod (2 : Int)).toNat x10).set (x9.tmod (2 : Int)).toNat ([] : List (ByteArray))).set (x9.tmod (2 : Int)).toNat x14).set (x9.tmod (2 : Int)).toNat ([] : List (ByteArray))).length : Int)))) then (bif Nat.beq (x9.tmod (2 : Int)).toNat (x9.tmod (2 : Int)).toNat then ((((((p.2.2.2.2.2.set (x9.tmod (2 : Int)).toNat ([] : List (ByteArray))).set (x9.tmod (2 : Int)).toNat x10).set (x9.tmod (2 : Int)).toNat ([] : List (ByteArray))).set (x9.tmod (2 : Int)).toNat x14).set (x9.tmod (2 : Int)).toNat ([] : List (ByteArray)))[(x9.tmod (2 : Int)).toNat]?).bind fun x20 => (bif (!(r16.2.2.2.2.2.2.2.toList == ByteArray.empty.toList)) then (bif ((decide ((0 : Int) ≤ (IntKind.i64.wrap ((1 : Int) - (x9.tmod (2 : Int)))))) && (decide ((IntKind.i64.wrap ((1 : Int) - (x9.tmod (2 : Int)))) < (((((((p.2.2.2.2.2.set (x9.tmod (2 : Int)).toNat ([] : List (ByteArray))).set (x9.tmod (2 : Int)).toNat x10).set (x9.tmod (2 : Int)).toNat ([] : List (ByteArray))).set (x9.tmod (2 : Int)).toNat x14).set (x9.tmod (2 : Int)).toNat ([] : List (ByteArray))).set (x9.tmod (2 : Int)).toNat ((x19.drop 1).take (x19.length - 1))).length : Int)))) then (((((((p.2.2.2.2.2.set (x9.tmod (2 : Int)).toNat ([] : List (ByteArray))).set (x9.tmod (2 : Int)).toNat x10).set (x9.tmod (2 : Int)).toNat ([] : List (ByteArray))).set (x9.tmod (2 : Int)).toNat x14).set (x9.tmod (2 : Int)).toNat ([] : List (ByteArray))).set (x9.tmod (2 : Int)).toNat ((x19.drop 1).take (x19.length - 1)))[(IntKind.i64.wrap ((1 : Int) - (x9.tmod (2 : Int)))).toNat]?).bind fun x21 => (bif decide ((x21.length + [r16.2.2.2.2.2.2.2].length) * 16 ≤ 140737488355328) then (bif ((decide ((0 : Int) ≤ (IntKind.i64.wrap ((1 : Int) - (x9.tmod (2 : Int)))))) && (decide ((IntKind.i64.wrap ((1 : Int) - (x9.tmod (2 : Int)))) < ((((((((p.2.2.2.2.2.set (x9.tmod (2 : Int)).toNat ([] : List (ByteArray))).set (x9.tmod (2 : Int)).toNat x10).set (x9.tmod (2 : Int)).toNat ([] : List (ByteArray))).set (x9.tmod (2 : Int)).toNat x14).set (x9.tmod (2 : Int)).toNat ([] : List (ByteArray))).set (x9.tmod (2 : Int)).toNat ((x19.drop 1).take (x19.length - 1))).set (IntKind.i64.wrap ((1 : Int) - (x9.tmod (2 : Int)))).toNat ([] : List (ByteArray))).length : Int)))) then (bif Nat.beq (IntKind.i64.wrap ((1 : Int) - (x9.tmod (2 : Int)))).toNat (IntKind.i64.wrap ((1 : Int) - (x9.tmod (2 : Int)))).toNat then ((((((((p.2.2.2.2.2.set (x9.tmod (2 : Int)).toNat ([] : List (ByteArray))).set (x9.tmod (2 : Int)).toNat x10).set (x9.tmod (2 : Int)).toNat ([] : List (ByteArray))).set (x9.tmod (2 : Int)).toNat x14).set (x9.tmod (2 : Int)).toNat ([] : List (ByteArray))).set (x9.tmod (2 : Int)).toNat ((x19.drop 1).take (x19.length - 1))).set (IntKind.i64.wrap ((1 : Int) - (x9.tmod (2 : Int)))).toNat ([] : List (ByteArray)))[(IntKind.i64.wrap ((1 : Int) - (x9.tmod (2 : Int)))).toNat]?).bind fun x22 => rec4 (p.1, (IntKind.i64.wrap (p.2.1 + (1 : Int))), p.2.2.1, p.2.2.2.1, (p.2.2.2.2.1.set (IntKind.i64.wrap ((1 : Int) - (x9.tmod (2 : Int)))).toNat (r16.1, r16.2.1, r16.2.2.1, r16.2.2.2.1, r16.2.2.2.2.1, r16.2.2.2.2.2.1, r16.2.2.2.2.2.2.1)), ((((((((p.2.2.2.2.2.set (x9.tmod (2 : Int)).toNat ([] : List (ByteArray))).set (x9.tmod (2 : Int)).toNat x10).set (x9.tmod (2 : Int)).toNat ([] : List (ByteArray))).set (x9.tmod (2 : Int)).toNat x14).set (x9.tmod (2 : Int)).toNat ([] : List (ByteArray))).set (x9.tmod (2 : Int)).toNat ((x19.drop 1).take (x19.length - 1))).set (IntKind.i64.wrap ((1 : Int) - (x9.tmod (2 : Int)))).toNat ([] : List (ByteArray))).set (IntKind.i64.wrap ((1 : Int) - (x9.tmod (2 : Int)))).toNat (x21 ++ [r16.2.2.2.2.2.2.2]))) else ((((((((p.2.2.2.2.2.set (x9.tmod (2 : Int)).toNat ([] : List (ByteArray))).set (x9.tmod (2 : Int)).toNat x10).set (x9.tmod (2 : Int)).toNat ([] : List (ByteArray))).set (x9.tmod (2 : Int)).toNat x14).set (x9.tmod (2 : Int)).toNat ([] : List (ByteArray))).set (x9.tmod (2 : Int)).toNat ((x19.drop 1).take (x19.length - 1))).set (IntKind.i64.wrap ((1 : Int) - (x9.tmod (2 : Int)))).toNat ([] : List (ByteArray)))[(IntKind.i64.wrap ((1 : Int) - (x9.tmod (2 : Int)))).toNat]?).bind fun _y23 => none) else none) else none) else none) else rec4 (p.1, (IntKind.i64.wrap (p.2.1 + (1 : Int))), p.2.2.1, p.2.2.2.1, (p.2.2.2.2.1.set (IntKind.i64.wrap ((1 : Int) - (x9.tmod (2 : Int)))).toNat (r16.1, r16.2.1, r16.2.2.1, r16.2.2.2.1, r16.2.2.2.2.1, r16.2.2.2.2.2.1, r16.2.2.2.2.2.2.1)), ((((((p.2.2.2.2.2.set (x9.tmod (2 : Int)).toNat ([] : List (ByteArray))).set (x9.tmod (2 : Int)).toNat x10).set (x9.tmod (2 : Int)).toNat ([] : List (ByteArray))).set (x9.tmod (2 : Int)).toNat x14).set (x9.tmod (2 : Int)).toNat ([] : List (ByteArray))).set (x9.tmod (2 : Int)).toNat ((x19.drop 1).take (x19.length - 1))))) else ((((((p.2.2.2.2.2.set (x9.tmod (2 : Int)).toNat ([] : List (ByteArray))).set (x9.tmod (2 : Int)).toNat x10).set (x9.tmod (2 : Int)).toNat ([] : List (ByteArray))).set (x9.tmod (2 : Int)).toNat x14).set (x9.tmod (2 : Int)).toNat ([] : List (ByteArray)))[(x9.tmod (2 : Int)).toNat]?).bind fun y24 => (((((((p.2.2.2.2.2.set (x9.tmod (2 : Int)).toNat ([] : List (ByteArray))).set (x9.tmod (2 : Int)).toNat x10).set (x9.tmod (2 : Int)).toNat ([] : List (ByteArray))).set (x9.tmod (2 : Int)).toNat x14).set (x9.tmod (2 : Int)).toNat ([] : List (ByteArray))).set (x9.tmod (2 : Int)).toNat x19)[(x9.tmod (2 : Int)).toNat]?).bind fun _x25 => none) else none) else none) else none) else (bif (!(r16.2.2.2.2.2.2.2.toList == ByteArray.empty.toList)) then (bif ((decide ((0 : Int) ≤ (IntKind.i64.wrap ((1 : Int) - (x9.tmod (2 : Int)))))) && (decide ((IntKind.i64.wrap ((1 : Int) - (x9.tmod (2 : Int)))) < ((((p.2.2.2.2.2.set (x9.tmod (2 : Int)).toNat ([] : List (ByteArray))).set (x9.tmod (2 : Int)).toNat x10).set (x9.tmod (2 : Int)).toNat ([] : List (ByteArray))).length : Int)))) then ((((p.2.2.2.2.2.set (x9.tmod (2 : Int)).toNat ([] : List (ByteArray))).set (x9.tmod (2 : Int)).toNat x10).set (x9.tmod (2 : Int)).toNat ([] : List (ByteArray)))[(x9.tmod (2 : Int)).toNat]?).bind fun y26 => (((((p.2.2.2.2.2.set (x9.tmod (2 : Int)).toNat ([] : List (ByteArray))).set (x9.tmod (2 : Int)).toNat x10).set (x9.tmod (2 : Int)).toNat ([] : List (ByteArray))).set (x9.tmod (2 : Int)).toNat x14)[(IntKind.i64.wrap ((1 : Int) - (x9.tmod (2 : Int)))).toNat]?).bind fun x27 => (bif decide ((x27.length + [r16.2.2.2.2.2.2.2].length) * 16 ≤ 140737488355328) then (bif ((decide ((0 : Int) ≤ (IntKind.i64.wrap ((1 : Int) - (x9.tmod (2 : Int)))))) && (decide ((IntKind.i64.wrap ((1 : Int) - (x9.tmod (2 : Int)))) < ((((((p.2.2.2.2.2.set (x9.tmod (2 : Int)).toNat ([] : List (ByteArray))).set (x9.tmod (2 : Int)).toNat x10).set (x9.tmod (2 : Int)).toNat ([] : List (ByteArray))).set (x9.tmod (2 : Int)).toNat x14).set (IntKind.i64.wrap ((1 : Int) - (x9.tmod (2 : Int)))).toNat ([] : List (ByteArray))).length : Int)))) then (bif Nat.beq (IntKind.i64.wrap ((1 : Int) - (x9.tmod (2 : Int)))).toNat (IntKind.i64.wrap ((1 : Int) - (x9.tmod (2 : Int)))).toNat then ((((((p.2.2.2.2.2.set (x9.tmod (2 : Int)).toNat ([] : List (ByteArray))).set (x9.tmod (2 : Int)).toNat x10).set (x9.tmod (2 : Int)).toNat ([] : List (ByteArray))).set (x9.tmod (2 : Int)).toNat x14).set (IntKind.i64.wrap ((1 : Int) - (x9.tmod (2 : Int)))).toNat ([] : List (ByteArray)))[(IntKind.i64.wrap ((1 : Int) - (x9.tmod (2 : Int)))).toNat]?).bind fun x28 => rec4 (p.1, (IntKind.i64.wrap (p.2.1 + (1 : Int))), p.2.2.1, p.2.2.2.1, (p.2.2.2.2.1.set (IntKind.i64.wrap ((1 : Int) - (x9.tmod (2 : Int)))).toNat (r16.1, r16.2.1, r16.2.2.1, r16.2.2.2.1, r16.2.2.2.2.1, r16.2.2.2.2.2.1, r16.2.2.2.2.2.2.1)), ((((((p.2.2.2.2.2.set (x9.tmod (2 : Int)).toNat ([] : List (ByteArray))).set (x9.tmod (2 : Int)).toNat x10).set (x9.tmod (2 : Int)).toNat ([] : List (ByteArray))).set (x9.tmod (2 : Int)).toNat x14).set (IntKind.i64.wrap ((1 : Int) - (x9.tmod (2 : Int)))).toNat ([] : List (ByteArray))).set (IntKind.i64.wrap ((1 : Int) - (x9.tmod (2 : Int)))).toNat (x27 ++ [r16.2.2.2.2.2.2.2]))) else ((((((p.2.2.2.2.2.set (x9.tmod (2 : Int)).toNat ([] : List (ByteArray))).set (x9.tmod (2 : Int)).toNat x10).set (x9.tmod (2 : Int)).toNat ([] : List (ByteArray))).set (x9.tmod (2 : Int)).toNat x14).set (IntKind.i64.wrap ((1 : Int) - (x9.tmod (2 : Int)))).toNat ([] : List (ByteArray)))[(IntKind.i64.wrap ((1 : Int) - (x9.tmod (2 : Int)))).toNat]?).bind fun _y29 => none) else none) else none) else none) else ((((p.2.2.2.2.2.set (x9.tmod (2 : Int)).toNat ([] : List (ByteArray))).set (x9.tmod (2 : Int)).toNat x10).set (x9.tmod (2 : Int)).toNat ([] : List (ByteArray)))[(x9.tmod (2 : Int)).toNat]?).bind fun y30 => rec4 (p.1, (IntKind.i64.wrap (p.2.1 + (1 : Int))), p.2.2.1, p.2.2.2.1, (p.2.2.2.2.1.set (IntKind.i64.wrap ((1 : Int) - (x9.tmod (2 : Int)))).toNat (r16.1, r16.2.1, r16.2.2.1, r16.2.2.2.1, r16.2.2.2.2.1, r16.2.2.2.2.2.1, r16.2.2.2.2.2.2.1)), ((((p.2.2.2.2.2.set (x9.tmod (2 : Int)).toNat ([] : List (ByteArray))).set (x9.tmod (2 : Int)).toNat x10).set (x9.tmod (2 : Int)).toNat ([] : List (ByteArray))).set (x9.tmod (2 : Int)).toNat x14)))) else none) else none) else none) else none)) else none) else none) else some (p.2.2.2.2.1, true))
def impl_Greeting.l4 (k : Nat) : Nat → (Int × Int × (List (ByteArray)) × (List (Int)) × (List (Int × Int × Int × Int × Int × ByteArray × ByteArray)) × (List ((List (ByteArray))))) → Option ((List (Int × Int × Int × Int × Int × ByteArray × ByteArray)) × Bool)
  | 0 => fun _ => none
  | j + 1 => impl_Greeting.s4 k (impl_Greeting.l4 k j)
def impl_Greeting.s2 (k : Nat) (rec2 : (Int × (List (ByteArray)) × (List (Int)) × (List (Int × Int × Int × Int × Int × ByteArray × ByteArray)) × (List ((List (ByteArray))))) → Option ((List (Int × Int × Int × Int × Int × ByteArray × ByteArray)) × Bool)) (i4 : (Int × Int × (List (ByteArray)) × (List (Int)) × (List (Int × Int × Int × Int × Int × ByteArray × ByteArray)) × (List ((List (ByteArray))))) → Option ((List (Int × Int × Int × Int × Int × ByteArray × ByteArray)) × Bool)) (p : (Int × (List (ByteArray)) × (List (Int)) × (List (Int × Int × Int × Int × Int × ByteArray × ByteArray)) × (List ((List (ByteArray)))))) : Option ((List (Int × Int × Int × Int × Int × ByteArray × ByteArray)) × Bool) :=
  (bif (decide (p.1 < (2 : Int))) then (bif ((decide ((0 : Int) ≤ p.1)) && (decide (p.1 < (p.2.1.length : Int)))) then (p.2.1[p.1.toNat]?).bind fun x2 => (bif ((decide ((0 : Int) ≤ (IntKind.i64.wrap ((2 : Int) + p.1)))) && (decide ((IntKind.i64.wrap ((2 : Int) + p.1)) < (p.2.1.length : Int)))) then (p.2.1[(IntKind.i64.wrap ((2 : Int) + p.1)).toNat]?).bind fun x3 => (bif ((decide ((0 : Int) ≤ (IntKind.i64.wrap ((1 : Int) - p.1)))) && (decide ((IntKind.i64.wrap ((1 : Int) - p.1)) < (p.2.1.length : Int)))) then (p.2.1[(IntKind.i64.wrap ((1 : Int) - p.1)).toNat]?).bind fun x4 => (impl_SecretOf.f k x4).bind fun r5 => (impl_PublicOf.f k r5).bind fun r6 => (impl_GreeterNew.f k (IntKind.i64.wrap ((1 : Int) + p.1)) x2 x3 r6).bind fun r7 => (impl_Hello.f k r7.1 r7.2.1 r7.2.2.1 r7.2.2.2.1 r7.2.2.2.2.1 r7.2.2.2.2.2.1 r7.2.2.2.2.2.2.1).bind fun r8 => (bif decide ((p.2.2.2.1.length + [(r8.1, r8.2.1, r8.2.2.1, r8.2.2.2.1, r8.2.2.2.2.1, r8.2.2.2.2.2.1, r8.2.2.2.2.2.2.1)].length) * 72 ≤ 140737488355328) then (bif decide ((p.2.2.2.2 ++ [[r8.2.2.2.2.2.2.2]]).length * 24 ≤ 140737488355328) then rec2 ((IntKind.i64.wrap (p.1 + (1 : Int))), p.2.1, p.2.2.1, (p.2.2.2.1 ++ [(r8.1, r8.2.1, r8.2.2.1, r8.2.2.2.1, r8.2.2.2.2.1, r8.2.2.2.2.2.1, r8.2.2.2.2.2.2.1)]), (p.2.2.2.2 ++ [[r8.2.2.2.2.2.2.2]])) else none) else none) else none) else none) else none) else i4 ((p.2.2.1.length : Int), (0 : Int), p.2.1, p.2.2.1, p.2.2.2.1, p.2.2.2.2))
def impl_Greeting.l2 (k : Nat) : Nat → (Int × (List (ByteArray)) × (List (Int)) × (List (Int × Int × Int × Int × Int × ByteArray × ByteArray)) × (List ((List (ByteArray))))) → Option ((List (Int × Int × Int × Int × Int × ByteArray × ByteArray)) × Bool)
  | 0 => fun _ => none
  | j + 1 => impl_Greeting.s2 k (impl_Greeting.l2 k j) (impl_Greeting.l4 k k)
def impl_Greeting.s0 (_k : Nat) (rec0 : (Int × Int × (List (ByteArray)) × (List (Int))) → Option ((List (Int × Int × Int × Int × Int × ByteArray × ByteArray)) × Bool)) (i2 : (Int × (List (ByteArray)) × (List (Int)) × (List (Int × Int × Int × Int × Int × ByteArray × ByteArray)) × (List ((List (ByteArray))))) → Option ((List (Int × Int × Int × Int × Int × ByteArray × ByteArray)) × Bool)) (p : (Int × Int × (List (ByteArray)) × (List (Int)))) : Option ((List (Int × Int × Int × Int × Int × ByteArray × ByteArray)) × Bool) :=
  (bif (decide (p.2.1 < p.1)) then (bif ((decide ((0 : Int) ≤ p.2.1)) && (decide (p.2.1 < (p.2.2.2.length : Int)))) then (p.2.2.2[p.2.1.toNat]?).bind fun x1 => (bif (decide (x1 < (0 : Int))) then some (([] : List (Int × Int × Int × Int × Int × ByteArray × ByteArray)), false) else rec0 (p.1, (IntKind.i64.wrap (p.2.1 + (1 : Int))), p.2.2.1, p.2.2.2)) else none) else i2 ((0 : Int), p.2.2.1, p.2.2.2, ([] : List (Int × Int × Int × Int × Int × ByteArray × ByteArray)), ([] : List ((List (ByteArray))))))
def impl_Greeting.l0 (k : Nat) : Nat → (Int × Int × (List (ByteArray)) × (List (Int))) → Option ((List (Int × Int × Int × Int × Int × ByteArray × ByteArray)) × Bool)
  | 0 => fun _ => none
  | j + 1 => impl_Greeting.s0 k (impl_Greeting.l0 k j) (impl_Greeting.l2 k k)
def impl_Greeting.S4 (p : (Int × Int × (List (ByteArray)) × (List (Int)) × (List (Int × Int × Int × Int × Int × ByteArray × ByteArray)) × (List ((List (ByteArray)))))) : DS := ⟨tl [(8, .at (.whole 2224)), (9, .at (.whole 2225)), (78, .at (.whole 16)), (79, .at (.int .i64 p.1)), (80, .at (.int .i64 p.2.1))], lookO [(0, .row 9 .str false p.2.2.1), (16, .row 3 (.int .i64) false p.2.2.2.1), (2224, .row 25 (.two (.int .i64) (.two (.int .i64) (.two (.int .i64) (.two (.int .i64) (.two (.int .i64) (.two .str .str)))))) true p.2.2.2.2.1), (2225, .deep 41 (.sl 9 .str) p.2.2.2.2.2 none)]⟩
def impl_Greeting.S2 (p : (Int × (List (ByteArray)) × (List (Int)) × (List (Int × Int × Int × Int × Int × ByteArray × ByteArray)) × (List ((List (ByteArray)))))) : DS := ⟨tl [(0, .at (.whole 0)), (1, .at (.whole 16)), (8, .at (.whole 2224)), (9, .at (.whole 2225)), (38, .at (.int .i64 p.1))], lookO [(0, .row 9 .str false p.2.1), (16, .row 3 (.int .i64) false p.2.2.1), (2224, .row 25 (.two (.int .i64) (.two (.int .i64) (.two (.int .i64) (.two (.int .i64) (.two (.int .i64) (.two .str .str)))))) true p.2.2.2.1), (2225, .deep 41 (.sl 9 .str) p.2.2.2.2 none)]⟩
def impl_Greeting.S0 (p : (Int × Int × (List (ByteArray)) × (List (Int)))) : DS := ⟨tl [(0, .at (.whole 0)), (1, .at (.whole 16)), (27, .at (.whole 16)), (28, .at (.int .i64 p.1)), (29, .at (.int .i64 p.2.1))], lookO [(0, .row 9 .str false p.2.2.1), (16, .row 3 (.int .i64) false p.2.2.2)]⟩
noncomputable def impl_Greeting.D4 (k : Nat) (j : Nat) (p : (Int × Int × (List (ByteArray)) × (List (Int)) × (List (Int × Int × Int × Int × Int × ByteArray × ByteArray)) × (List ((List (ByteArray)))))) : Option ((List (Int × Int × Int × Int × Int × ByteArray × ByteArray)) × Bool) := loopK (normK [0, 16] (impl_Greeting.h 4)) (runK impl_Greeting.x k 0 [0, 16] impl_Greeting.h 4 (sub impl_Greeting.c [1, 1, 1, 1, 1, 1, 0, 1, 0, 0])) j (impl_Greeting.S4 p) (kBlk 4 (kSeq (runK impl_Greeting.x k 0 [0, 16] impl_Greeting.h 0 (sub impl_Greeting.c [1, 1, 1, 1, 1, 1, 1])) (fin tt impl_Greeting.ps impl_Greeting.rs impl_Greeting.vs (.two (.sl 25 (.two (.int .i64) (.two (.int .i64) (.two (.int .i64) (.two (.int .i64) (.two (.int .i64) (.two .str .str))))))) .bool))))
noncomputable def impl_Greeting.D2 (k : Nat) (j : Nat) (p : (Int × (List (ByteArray)) × (List (Int)) × (List (Int × Int × Int × Int × Int × ByteArray × ByteArray)) × (List ((List (ByteArray)))))) : Option ((List (Int × Int × Int × Int × Int × ByteArray × ByteArray)) × Bool) := loopK (normK [0, 16] (impl_Greeting.h 2)) (runK impl_Greeting.x k 0 [0, 16] impl_Greeting.h 2 (sub impl_Greeting.c [1, 1, 1, 1, 1, 0, 1, 0, 0])) j (impl_Greeting.S2 p) (kBlk 2 (kSeq (runK impl_Greeting.x k 0 [0, 16] impl_Greeting.h 0 (sub impl_Greeting.c [1, 1, 1, 1, 1, 1])) (fin tt impl_Greeting.ps impl_Greeting.rs impl_Greeting.vs (.two (.sl 25 (.two (.int .i64) (.two (.int .i64) (.two (.int .i64) (.two (.int .i64) (.two (.int .i64) (.two .str .str))))))) .bool))))
noncomputable def impl_Greeting.D0 (k : Nat) (j : Nat) (p : (Int × Int × (List (ByteArray)) × (List (Int)))) : Option ((List (Int × Int × Int × Int × Int × ByteArray × ByteArray)) × Bool) := loopK (normK [0, 16] (impl_Greeting.h 0)) (runK impl_Greeting.x k 0 [0, 16] impl_Greeting.h 0 (sub impl_Greeting.c [1, 1, 0, 1, 0, 0])) j (impl_Greeting.S0 p) (kBlk 0 (kSeq (runK impl_Greeting.x k 0 [0, 16] impl_Greeting.h 0 (sub impl_Greeting.c [1, 1, 1])) (fin tt impl_Greeting.ps impl_Greeting.rs impl_Greeting.vs (.two (.sl 25 (.two (.int .i64) (.two (.int .i64) (.two (.int .i64) (.two (.int .i64) (.two (.int .i64) (.two .str .str))))))) .bool))))
theorem impl_Greeting.D4_eq (k : Nat) : ∀ j, impl_Greeting.D4 k j = impl_Greeting.l4 k j := by
  intro j
  induction j with
  | zero => rfl
  | succ j ih =>
    show _ = impl_Greeting.s4 k (impl_Greeting.l4 k j)
    rw [← ih]
    funext p
    kernel_rfl
theorem impl_Greeting.D2_eq (k : Nat) : ∀ j, impl_Greeting.D2 k j = impl_Greeting.l2 k j := by
  intro j
  induction j with
  | zero => rfl
  | succ j ih =>
    show _ = impl_Greeting.s2 k (impl_Greeting.l2 k j) (impl_Greeting.l4 k k)
    rw [← ih, ← impl_Greeting.D4_eq k k]
    funext p
    kernel_rfl
theorem impl_Greeting.D0_eq (k : Nat) : ∀ j, impl_Greeting.D0 k j = impl_Greeting.l0 k j := by
  intro j
  induction j with
  | zero => rfl
  | succ j ih =>
    show _ = impl_Greeting.s0 k (impl_Greeting.l0 k j) (impl_Greeting.l2 k k)
    rw [← ih, ← impl_Greeting.D2_eq k k]
    funext p
    kernel_rfl
def impl_Greeting.f (k : Nat) (a0 : List (ByteArray)) (a1 : List (Int)) : Option ((List (Int × Int × Int × Int × Int × ByteArray × ByteArray)) × Bool) :=
  (bif ((a0.length : Int) != (4 : Int)) then some (([] : List (Int × Int × Int × Int × Int × ByteArray × ByteArray)), false) else (bif (decide ((a1.length : Int) > (60 : Int))) then some (([] : List (Int × Int × Int × Int × Int × ByteArray × ByteArray)), false) else impl_Greeting.l0 k k ((a1.length : Int), (0 : Int), a0, a1)))
def impl_Greeting.K : Ctr := ⟨impl_Greeting.ps, impl_Greeting.rs, false, (.two (.sl 9 .str) (.sl 3 (.int .i64))), (.two (.sl 25 (.two (.int .i64) (.two (.int .i64) (.two (.int .i64) (.two (.int .i64) (.two (.int .i64) (.two .str .str))))))) .bool), fun k x => impl_Greeting.f k x.1 x.2⟩
theorem impl_Greeting.eq (k : Nat) (x : (impl_Greeting.K.I).den) : func impl_Greeting.x impl_Greeting.h impl_Greeting.ps impl_Greeting.rs impl_Greeting.vs impl_Greeting.K.I impl_Greeting.K.O impl_Greeting.c k x = impl_Greeting.K.run k x := by
  show _ = impl_Greeting.f k x.1 x.2
  unfold impl_Greeting.f
  rw [← impl_Greeting.D0_eq k k]
  kernel_rfl
theorem impl_Greeting.ok : CtrOk Try.prog 24 impl_Greeting.K :=
  CtrOk.of (fn := Try.f24) (cd := impl_Greeting.c) (cx := impl_Greeting.x) (hs := impl_Greeting.h) (by kernel_rfl) (by kernel_rfl) (by kernel_rfl) (by kernel_rfl) tt_ok (envOk_cons impl_SecretOf.ok (envOk_cons impl_PublicOf.ok (envOk_cons impl_GreeterNew.ok (envOk_cons impl_Hello.ok (envOk_cons impl_HearGreet.ok (envOk_nil)))))) (by kernel_rfl) (by kernel_rfl) (by kernel_rfl) (by kernel_rfl) fun k x r h => (impl_Greeting.eq k x).trans h
/-! spec.l01In -/
noncomputable def spec_l01In.c : Code := bodyOf Try.f31
def spec_l01In.h : Nat → Hint := look ⟨[], [], []⟩ []
def spec_l01In.ps : List PK := [.one, .one, .one]
def spec_l01In.rs : List RK := [.one true]
def spec_l01In.vs : List ResultVar := [.tmp 6]
def spec_l01In.x : Cx := ⟨tt, look none []⟩
def spec_l01In.f (_k : Nat) (a0 : Int) (a1 : Int) (a2 : Int) : Option (Bool) :=
  (bif (decide (a0 ≥ a1)) then some (decide (a0 ≤ a2)) else some false)
def spec_l01In.K : Ctr := ⟨spec_l01In.ps, spec_l01In.rs, false, (.two (.int .i64) (.two (.int .i64) (.int .i64))), .bool, fun k x => spec_l01In.f k x.1 x.2.1 x.2.2⟩
theorem spec_l01In.eq (k : Nat) (x : (spec_l01In.K.I).den) : func spec_l01In.x spec_l01In.h spec_l01In.ps spec_l01In.rs spec_l01In.vs spec_l01In.K.I spec_l01In.K.O spec_l01In.c k x = spec_l01In.K.run k x := by
  show _ = spec_l01In.f k x.1 x.2.1 x.2.2
  kernel_rfl
theorem spec_l01In.ok : CtrOk Try.prog 31 spec_l01In.K :=
  CtrOk.of (fn := Try.f31) (cd := spec_l01In.c) (cx := spec_l01In.x) (hs := spec_l01In.h) (by kernel_rfl) (by kernel_rfl) (by kernel_rfl) (by kernel_rfl) tt_ok (envOk_nil) (by kernel_rfl) (by kernel_rfl) (by kernel_rfl) (by kernel_rfl) fun k x r h => (spec_l01In.eq k x).trans h
/-! spec.l03Mod -/
noncomputable def spec_l03Mod.c : Code := bodyOf Try.f75
def spec_l03Mod.h : Nat → Hint := look ⟨[], [], []⟩ []
def spec_l03Mod.ps : List PK := [.one]
def spec_l03Mod.rs : List RK := [.one true]
def spec_l03Mod.vs : List ResultVar := [.tmp 2]
def spec_l03Mod.x : Cx := ⟨tt, look none []⟩
def spec_l03Mod.f (_k : Nat) (a0 : Int) : Option (Int) :=
  (bif (decide ((a0.tmod (2147483579 : Int)) < (0 : Int))) then some (IntKind.i64.wrap ((a0.tmod (2147483579 : Int)) + (2147483579 : Int))) else some (a0.tmod (2147483579 : Int)))
def spec_l03Mod.K : Ctr := ⟨spec_l03Mod.ps, spec_l03Mod.rs, false, (.int .i64), (.int .i64), fun k x => spec_l03Mod.f k x⟩
theorem spec_l03Mod.eq (k : Nat) (x : (spec_l03Mod.K.I).den) : func spec_l03Mod.x spec_l03Mod.h spec_l03Mod.ps spec_l03Mod.rs spec_l03Mod.vs spec_l03Mod.K.I spec_l03Mod.K.O spec_l03Mod.c k x = spec_l03Mod.K.run k x := by
  show _ = spec_l03Mod.f k x
  kernel_rfl
theorem spec_l03Mod.ok : CtrOk Try.prog 75 spec_l03Mod.K :=
  CtrOk.of (fn := Try.f75) (cd := spec_l03Mod.c) (cx := spec_l03Mod.x) (hs := spec_l03Mod.h) (by kernel_rfl) (by kernel_rfl) (by kernel_rfl) (by kernel_rfl) tt_ok (envOk_nil) (by kernel_rfl) (by kernel_rfl) (by kernel_rfl) (by kernel_rfl) fun k x r h => (spec_l03Mod.eq k x).trans h
/-! spec.PowP -/
noncomputable def spec_PowP.c : Code := bodyOf Try.f57
def spec_PowP.h : Nat → Hint := look ⟨[], [], []⟩ [(0, ⟨[0, 1, 5], [], []⟩)]
def spec_PowP.ps : List PK := [.one, .one]
def spec_PowP.rs : List RK := [.one true]
def spec_PowP.vs : List ResultVar := [.tmp 4]
def spec_PowP.x : Cx := ⟨tt, look none [(31, some spec_l01In.K), (75, some spec_l03Mod.K)]⟩
def spec_PowP.s0 (_k : Nat) (rec0 : (Int × Int × Int) → Option (Int)) (p : (Int × Int × Int)) : Option (Int) :=
  (bif (decide (p.2.1 > (0 : Int))) then (bif ((p.2.1.tmod (2 : Int)) == (1 : Int)) then rec0 (((IntKind.i64.wrap (p.1 * p.1)).tmod (2147483579 : Int)), (IntKind.i64.wrap (p.2.1.tdiv (2 : Int))), ((IntKind.i64.wrap (p.2.2 * p.1)).tmod (2147483579 : Int))) else rec0 (((IntKind.i64.wrap (p.1 * p.1)).tmod (2147483579 : Int)), (IntKind.i64.wrap (p.2.1.tdiv (2 : Int))), p.2.2)) else some p.2.2)
def spec_PowP.l0 (k : Nat) : Nat → (Int × Int × Int) → Option (Int)
  | 0 => fun _ => none
  | j + 1 => spec_PowP.s0 k (spec_PowP.l0 k j)
def spec_PowP.S0 (p : (Int × Int × Int)) : DS := ⟨tl [(0, .at (.int .i64 p.1)), (1, .at (.int .i64 p.2.1)), (5, .at (.int .i64 p.2.2))], lookO []⟩
noncomputable def spec_PowP.D0 (k : Nat) (j : Nat) (p : (Int × Int × Int)) : Option (Int) := loopK (normK [] (spec_PowP.h 0)) (runK spec_PowP.x k 0 [] spec_PowP.h 0 (sub spec_PowP.c [1, 1, 1, 1, 0, 0, 0])) j (spec_PowP.S0 p) (kBlk 0 (kSeq (runK spec_PowP.x k 0 [] spec_PowP.h 0 (sub spec_PowP.c [1, 1, 1, 1, 1])) (fin tt spec_PowP.ps spec_PowP.rs spec_PowP.vs (.int .i64))))
theorem spec_PowP.D0_eq (k : Nat) : ∀ j, spec_PowP.D0 k j = spec_PowP.l0 k j := by
  intro j
  induction j with
  | zero => rfl
  | succ j ih =>
    show _ = spec_PowP.s0 k (spec_PowP.l0 k j)
    rw [← ih]
    funext p
    kernel_rfl
def spec_PowP.f (k : Nat) (a0 : Int) (a1 : Int) : Option (Int) :=
  (spec_l01In.f k a1 (0 : Int) (2147483579 : Int)).bind fun r1 => (bif (!r1) then some (0 : Int) else (spec_l03Mod.f k a0).bind fun r2 => spec_PowP.l0 k k (r2, a1, (1 : Int)))
def spec_PowP.K : Ctr := ⟨spec_PowP.ps, spec_PowP.rs, false, (.two (.int .i64) (.int .i64)), (.int .i64), fun k x => spec_PowP.f k x.1 x.2⟩
theorem spec_PowP.eq (k : Nat) (x : (spec_PowP.K.I).den) : func spec_PowP.x spec_PowP.h spec_PowP.ps spec_PowP.rs spec_PowP.vs spec_PowP.K.I spec_PowP.K.O spec_PowP.c k x = spec_PowP.K.run k x := by
  show _ = spec_PowP.f k x.1 x.2
  unfold spec_PowP.f
  rw [← spec_PowP.D0_eq k k]
  kernel_rfl
theorem spec_PowP.ok : CtrOk Try.prog 57 spec_PowP.K :=
  CtrOk.of (fn := Try.f57) (cd := spec_PowP.c) (cx := spec_PowP.x) (hs := spec_PowP.h) (by kernel_rfl) (by kernel_rfl) (by kernel_rfl) (by kernel_rfl) tt_ok (envOk_cons spec_l01In.ok (envOk_cons spec_l03Mod.ok (envOk_nil))) (by kernel_rfl) (by kernel_rfl) (by kernel_rfl) (by kernel_rfl) fun k x r h => (spec_PowP.eq k x).trans h
/-! spec.PublicOf -/
noncomputable def spec_PublicOf.c : Code := bodyOf Try.f25
def spec_PublicOf.h : Nat → Hint := look ⟨[], [], []⟩ []
def spec_PublicOf.ps : List PK := [.one]
def spec_PublicOf.rs : List RK := [.one true]
def spec_PublicOf.vs : List ResultVar := [.tmp 2]
def spec_PublicOf.x : Cx := ⟨tt, look none [(31, some spec_l01In.K), (57, some spec_PowP.K)]⟩
def spec_PublicOf.f (k : Nat) (a0 : Int) : Option (Int) :=
  (spec_l01In.f k a0 (1 : Int) (1073741788 : Int)).bind fun r1 => (bif (!r1) then some (0 : Int) else (spec_PowP.f k (4 : Int) a0).bind fun r2 => some r2)
def spec_PublicOf.K : Ctr := ⟨spec_PublicOf.ps, spec_PublicOf.rs, false, (.int .i64), (.int .i64), fun k x => spec_PublicOf.f k x⟩
theorem spec_PublicOf.eq (k : Nat) (x : (spec_PublicOf.K.I).den) : func spec_PublicOf.x spec_PublicOf.h spec_PublicOf.ps spec_PublicOf.rs spec_PublicOf.vs spec_PublicOf.K.I spec_PublicOf.K.O spec_PublicOf.c k x = spec_PublicOf.K.run k x := by
  show _ = spec_PublicOf.f k x
  kernel_rfl
theorem spec_PublicOf.ok : CtrOk Try.prog 25 spec_PublicOf.K :=
  CtrOk.of (fn := Try.f25) (cd := spec_PublicOf.c) (cx := spec_PublicOf.x) (hs := spec_PublicOf.h) (by kernel_rfl) (by kernel_rfl) (by kernel_rfl) (by kernel_rfl) tt_ok (envOk_cons spec_l01In.ok (envOk_cons spec_PowP.ok (envOk_nil))) (by kernel_rfl) (by kernel_rfl) (by kernel_rfl) (by kernel_rfl) fun k x r h => (spec_PublicOf.eq k x).trans h
/-! spec.Transcript -/
noncomputable def spec_Transcript.c : Code := bodyOf Try.f38
def spec_Transcript.h : Nat → Hint := look ⟨[], [], []⟩ []
def spec_Transcript.ps : List PK := [.agg 7]
def spec_Transcript.rs : List RK := [.one true]
def spec_Transcript.vs : List ResultVar := [.tmp 2]
def spec_Transcript.x : Cx := ⟨tt, look none []⟩
def spec_Transcript.f (_k : Nat) (a0_0 : Int) (_a0_1 : Int) (_a0_2 : Int) (_a0_3 : Int) (_a0_4 : Int) (a0_5 : ByteArray) (a0_6 : ByteArray) : Option (ByteArray) :=
  (bif (a0_0 == (1 : Int)) then (bif decide (a0_5.size + a0_6.size ≤ 140737488351232) then some (a0_5 ++ a0_6) else none) else (bif decide (a0_6.size + a0_5.size ≤ 140737488351232) then some (a0_6 ++ a0_5) else none))
def spec_Transcript.K : Ctr := ⟨spec_Transcript.ps, spec_Transcript.rs, false, (.two (.int .i64) (.two (.int .i64) (.two (.int .i64) (.two (.int .i64) (.two (.int .i64) (.two .str .str)))))), .str, fun k x => spec_Transcript.f k x.1 x.2.1 x.2.2.1 x.2.2.2.1 x.2.2.2.2.1 x.2.2.2.2.2.1 x.2.2.2.2.2.2⟩
theorem spec_Transcript.eq (k : Nat) (x : (spec_Transcript.K.I).den) : func spec_Transcript.x spec_Transcript.h spec_Transcript.ps spec_Transcript.rs spec_Transcript.vs spec_Transcript.K.I spec_Transcript.K.O spec_Transcript.c k x = spec_Transcript.K.run k x := by
  show _ = spec_Transcript.f k x.1 x.2.1 x.2.2.1 x.2.2.2.1 x.2.2.2.2.1 x.2.2.2.2.2.1 x.2.2.2.2.2.2
  kernel_rfl
theorem spec_Transcript.ok : CtrOk Try.prog 38 spec_Transcript.K :=
  CtrOk.of (fn := Try.f38) (cd := spec_Transcript.c) (cx := spec_Transcript.x) (hs := spec_Transcript.h) (by kernel_rfl) (by kernel_rfl) (by kernel_rfl) (by kernel_rfl) tt_ok (envOk_nil) (by kernel_rfl) (by kernel_rfl) (by kernel_rfl) (by kernel_rfl) fun k x r h => (spec_Transcript.eq k x).trans h
/-! spec.l05Byte -/
noncomputable def spec_l05Byte.c : Code := bodyOf Try.f26
def spec_l05Byte.h : Nat → Hint := look ⟨[], [], []⟩ []
def spec_l05Byte.ps : List PK := [.one]
def spec_l05Byte.rs : List RK := [.one true]
def spec_l05Byte.vs : List ResultVar := [.tmp 2]
def spec_l05Byte.x : Cx := ⟨tt, look none []⟩
def spec_l05Byte.f (_k : Nat) (a0 : Int) : Option (ByteArray) :=
  (bif (decide ((a0.tmod (256 : Int)) < (0 : Int))) then some (strOfNums [(IntKind.u8.wrap (IntKind.i64.wrap ((a0.tmod (256 : Int)) + (256 : Int))))]) else some (strOfNums [(IntKind.u8.wrap (a0.tmod (256 : Int)))]))
def spec_l05Byte.K : Ctr := ⟨spec_l05Byte.ps, spec_l05Byte.rs, false, (.int .i64), .str, fun k x => spec_l05Byte.f k x⟩
theorem spec_l05Byte.eq (k : Nat) (x : (spec_l05Byte.K.I).den) : func spec_l05Byte.x spec_l05Byte.h spec_l05Byte.ps spec_l05Byte.rs spec_l05Byte.vs spec_l05Byte.K.I spec_l05Byte.K.O spec_l05Byte.c k x = spec_l05Byte.K.run k x := by
  show _ = spec_l05Byte.f k x
  kernel_rfl
theorem spec_l05Byte.ok : CtrOk Try.prog 26 spec_l05Byte.K :=
  CtrOk.of (fn := Try.f26) (cd := spec_l05Byte.c) (cx := spec_l05Byte.x) (hs := spec_l05Byte.h) (by kernel_rfl) (by kernel_rfl) (by kernel_rfl) (by kernel_rfl) tt_ok (envOk_nil) (by kernel_rfl) (by kernel_rfl) (by kernel_rfl) (by kernel_rfl) fun k x r h => (spec_l05Byte.eq k x).trans h
/-! spec.NumberText -/
noncomputable def spec_NumberText.c : Code := bodyOf Try.f27
def spec_NumberText.h : Nat → Hint := look ⟨[], [], []⟩ []
def spec_NumberText.ps : List PK := [.one]
def spec_NumberText.rs : List RK := [.one true]
def spec_NumberText.vs : List ResultVar := [.tmp 2]
def spec_NumberText.x : Cx := ⟨tt, look none [(31, some spec_l01In.K)]⟩
def spec_NumberText.f (k : Nat) (a0 : Int) : Option (ByteArray) :=
  (spec_l01In.f k a0 (0 : Int) (4294967295 : Int)).bind fun r1 => (bif (!r1) then some ByteArray.empty else some (strOfNums [(IntKind.u8.wrap (IntKind.i64.wrap (a0.tdiv (16777216 : Int)))), (IntKind.u8.wrap ((IntKind.i64.wrap (a0.tdiv (65536 : Int))).tmod (256 : Int))), (IntKind.u8.wrap ((IntKind.i64.wrap (a0.tdiv (256 : Int))).tmod (256 : Int))), (IntKind.u8.wrap (a0.tmod (256 : Int)))]))
def spec_NumberText.K : Ctr := ⟨spec_NumberText.ps, spec_NumberText.rs, false, (.int .i64), .str, fun k x => spec_NumberText.f k x⟩
theorem spec_NumberText.eq (k : Nat) (x : (spec_NumberText.K.I).den) : func spec_NumberText.x spec_NumberText.h spec_NumberText.ps spec_NumberText.rs spec_NumberText.vs spec_NumberText.K.I spec_NumberText.K.O spec_NumberText.c k x = spec_NumberText.K.run k x := by
  show _ = spec_NumberText.f k x
  kernel_rfl
theorem spec_NumberText.ok : CtrOk Try.prog 27 spec_NumberText.K :=
  CtrOk.of (fn := Try.f27) (cd := spec_NumberText.c) (cx := spec_NumberText.x) (hs := spec_NumberText.h) (by kernel_rfl) (by kernel_rfl) (by kernel_rfl) (by kernel_rfl) tt_ok (envOk_cons spec_l01In.ok (envOk_nil)) (by kernel_rfl) (by kernel_rfl) (by kernel_rfl) (by kernel_rfl) fun k x r h => (spec_NumberText.eq k x).trans h
/-! spec.l04First -/
noncomputable def spec_l04First.c : Code := bodyOf Try.f90
def spec_l04First.h : Nat → Hint := look ⟨[], [], []⟩ []
def spec_l04First.ps : List PK := []
def spec_l04First.rs : List RK := [.one true]
def spec_l04First.vs : List ResultVar := [.tmp 0]
def spec_l04First.x : Cx := ⟨tt, look none []⟩
def spec_l04First.f (_k : Nat) : Option ((List (Int))) :=
  some [(1779033703 : Int), (3144134277 : Int), (1013904242 : Int), (2773480762 : Int), (1359893119 : Int), (2600822924 : Int), (528734635 : Int), (1541459225 : Int)]
def spec_l04First.K : Ctr := ⟨spec_l04First.ps, spec_l04First.rs, false, .unit, (.sl 113 (.int .u32)), fun k _ => spec_l04First.f k⟩
theorem spec_l04First.eq (k : Nat) (x : (spec_l04First.K.I).den) : func spec_l04First.x spec_l04First.h spec_l04First.ps spec_l04First.rs spec_l04First.vs spec_l04First.K.I spec_l04First.K.O spec_l04First.c k x = spec_l04First.K.run k x := by
  show _ = spec_l04First.f k
  kernel_rfl
theorem spec_l04First.ok : CtrOk Try.prog 90 spec_l04First.K :=
  CtrOk.of (fn := Try.f90) (cd := spec_l04First.c) (cx := spec_l04First.x) (hs := spec_l04First.h) (by kernel_rfl) (by kernel_rfl) (by kernel_rfl) (by kernel_rfl) tt_ok (envOk_nil) (by kernel_rfl) (by kernel_rfl) (by kernel_rfl) (by kernel_rfl) fun k x r h => (spec_l04First.eq k x).trans h
/-! spec.l04Bytes -/
noncomputable def spec_l04Bytes.c : Code := bodyOf Try.f89
def spec_l04Bytes.h : Nat → Hint := look ⟨[], [], []⟩ [(0, ⟨[0, 3, 4], [], [(.t 3, 576, 5, (.int .u8))]⟩)]
def spec_l04Bytes.ps : List PK := [.one]
def spec_l04Bytes.rs : List RK := [.one true]
def spec_l04Bytes.vs : List ResultVar := [.tmp 2]
def spec_l04Bytes.x : Cx := ⟨tt, look none []⟩
def spec_l04Bytes.s0 (_k : Nat) (rec0 : (Int × (List (Int)) × (List (Int))) → Option (ByteArray)) (p : (Int × (List (Int)) × (List (Int)))) : Option (ByteArray) :=
  (bif (decide (p.1 < (p.2.1.length : Int))) then (bif ((decide ((0 : Int) ≤ p.1)) && (decide (p.1 < (p.2.1.length : Int)))) then (p.2.1[p.1.toNat]?).bind fun x1 => (bif decide ((p.2.2.length + [(IntKind.u8.wrap (IntKind.u32.wrap (x1.tdiv (16777216 : Int)))), (IntKind.u8.wrap ((IntKind.u32.wrap (x1.tdiv (65536 : Int))).tmod (256 : Int))), (IntKind.u8.wrap ((IntKind.u32.wrap (x1.tdiv (256 : Int))).tmod (256 : Int))), (IntKind.u8.wrap (x1.tmod (256 : Int)))].length) * 1 ≤ 140737488355328) then rec0 ((IntKind.i64.wrap (p.1 + (1 : Int))), p.2.1, (p.2.2 ++ [(IntKind.u8.wrap (IntKind.u32.wrap (x1.tdiv (16777216 : Int)))), (IntKind.u8.wrap ((IntKind.u32.wrap (x1.tdiv (65536 : Int))).tmod (256 : Int))), (IntKind.u8.wrap ((IntKind.u32.wrap (x1.tdiv (256 : Int))).tmod (256 : Int))), (IntKind.u8.wrap (x1.tmod (256 : Int)))])) else none) else none) else some (strOfNums p.2.2))
def spec_l04Bytes.l0 (k : Nat) : Nat → (Int × (List (Int)) × (List (Int))) → Option (ByteArray)
  | 0 => fun _ => none
  | j + 1 => spec_l04Bytes.s0 k (spec_l04Bytes.l0 k j)
def spec_l04Bytes.S0 (p : (Int × (List (Int)) × (List (Int)))) : DS := ⟨tl [(0, .at (.whole 0)), (3, .at (.whole 576)), (4, .at (.int .i64 p.1))], lookO [(0, .row 113 (.int .u32) false p.2.1), (576, .row 5 (.int .u8) true p.2.2)]⟩
noncomputable def spec_l04Bytes.D0 (k : Nat) (j : Nat) (p : (Int × (List (Int)) × (List (Int)))) : Option (ByteArray) := loopK (normK [0] (spec_l04Bytes.h 0)) (runK spec_l04Bytes.x k 0 [0] spec_l04Bytes.h 0 (sub spec_l04Bytes.c [1, 1, 0, 1, 0, 0])) j (spec_l04Bytes.S0 p) (kBlk 0 (kSeq (runK spec_l04Bytes.x k 0 [0] spec_l04Bytes.h 0 (sub spec_l04Bytes.c [1, 1, 1])) (fin tt spec_l04Bytes.ps spec_l04Bytes.rs spec_l04Bytes.vs .str)))
theorem spec_l04Bytes.D0_eq (k : Nat) : ∀ j, spec_l04Bytes.D0 k j = spec_l04Bytes.l0 k j := by
  intro j
  induction j with
  | zero => rfl
  | succ j ih =>
    show _ = spec_l04Bytes.s0 k (spec_l04Bytes.l0 k j)
    rw [← ih]
    funext p
    kernel_rfl
def spec_l04Bytes.f (k : Nat) (a0 : List (Int)) : Option (ByteArray) :=
  spec_l04Bytes.l0 k k ((0 : Int), a0, ([] : List (Int)))
def spec_l04Bytes.K : Ctr := ⟨spec_l04Bytes.ps, spec_l04Bytes.rs, false, (.sl 113 (.int .u32)), .str, fun k x => spec_l04Bytes.f k x⟩
theorem spec_l04Bytes.eq (k : Nat) (x : (spec_l04Bytes.K.I).den) : func spec_l04Bytes.x spec_l04Bytes.h spec_l04Bytes.ps spec_l04Bytes.rs spec_l04Bytes.vs spec_l04Bytes.K.I spec_l04Bytes.K.O spec_l04Bytes.c k x = spec_l04Bytes.K.run k x := by
  show _ = spec_l04Bytes.f k x
  unfold spec_l04Bytes.f
  rw [← spec_l04Bytes.D0_eq k k]
  kernel_rfl
theorem spec_l04Bytes.ok : CtrOk Try.prog 89 spec_l04Bytes.K :=
  CtrOk.of (fn := Try.f89) (cd := spec_l04Bytes.c) (cx := spec_l04Bytes.x) (hs := spec_l04Bytes.h) (by kernel_rfl) (by kernel_rfl) (by kernel_rfl) (by kernel_rfl) tt_ok (envOk_nil) (by kernel_rfl) (by kernel_rfl) (by kernel_rfl) (by kernel_rfl) fun k x r h => (spec_l04Bytes.eq k x).trans h
end Go.Proofs.Ytpinehfjimphmaa.DI
