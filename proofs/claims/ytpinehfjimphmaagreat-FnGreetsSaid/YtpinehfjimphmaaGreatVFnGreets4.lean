/- FnGreets: functions as plain Lean, in the machine of values. -/
import Derived.Test.YtpinehfjimphmaaGreatVFnGreets3
namespace Go.Proofs.YtpinehfjimphmaaGreat.DI
open Go
set_option linter.unusedVariables false
/-! impl.Greeting -/
noncomputable def impl_Greeting.c : Code := bodyOf Tryz.f7
def impl_Greeting.h : Nat → Hint := look ⟨[], [], []⟩ [(0, ⟨[0, 1, 27, 28, 29], [], []⟩), (2, ⟨[0, 1, 8, 9, 38], [], [(.t 8, 2224, 32, (.two (.int .i64) (.two (.int .i64) (.two (.int .i64) (.two (.int .i64) (.two (.int .i64) (.two .str .str))))))), (.t 9, 2225, 24, (.sl 9 .str))]⟩), (4, ⟨[8, 9, 78, 79, 80], [], [(.t 8, 2224, 32, (.two (.int .i64) (.two (.int .i64) (.two (.int .i64) (.two (.int .i64) (.two (.int .i64) (.two .str .str))))))), (.t 9, 2225, 24, (.sl 9 .str))]⟩)]
def impl_Greeting.ps : List PK := [.one, .one]
def impl_Greeting.rs : List RK := [.one true, .one true]
def impl_Greeting.vs : List ResultVar := [.tmp 4, .tmp 5]
def impl_Greeting.x : Cx := ⟨tt, look none [(27, some impl_SecretOf.K), (26, some impl_PublicOf.K), (25, some impl_GreeterNew.K), (28, some impl_Hello.K), (29, some impl_HearGreet.K)]⟩
def impl_Greeting.s4 (k : Nat) (rec4 : (Int × Int × (List (ByteArray)) × (List (Int)) × (List (Int × Int × Int × Int × Int × ByteArray × ByteArray)) × (List ((List (ByteArray))))) → Option ((List (Int × Int × Int × Int × Int × ByteArray × ByteArray)) × Bool)) (p : (Int × Int × (List (ByteArray)) × (List (Int)) × (List (Int × Int × Int × Int × Int × ByteArray × ByteArray)) × (List ((List (ByteArray)))))) : Option ((List (Int × Int × Int × Int × Int × ByteArray × ByteArray)) × Bool) :=
  (bif (decide (p.2.1 < p.1)) then (bif ((decide ((0 : Int) ≤ p.2.1)) && (decide (p.2.1 < (p.2.2.2.1.length : Int)))) then (p.2.2.2.1[p.2.1.toNat]?).bind fun x9 => (bif ((decide ((0 : Int) ≤ (x9.tmod (2 : Int)))) && (decide ((x9.tmod (2 : Int)) < (p.2.2.2.2.2.length : Int)))) then (p.2.2.2.2.2[(x9.tmod (2 : Int)).toNat]?).bind fun x10 => (bif ((x10.length : Int) == (0 : Int)) then ((p.2.2.2.2.2.set (x9.tmod (2 : Int)).toNat ([] : List (ByteArray)))[(x9.tmod (2 : Int)).toNat]?).bind fun y11 => rec4 (p.1, (IntKind.i64.wrap (p.2.1 + (1 : Int))), p.2.2.1, p.2.2.2.1, p.2.2.2.2.1, ((p.2.2.2.2.2.set (x9.tmod (2 : Int)).toNat ([] : List (ByteArray))).set (x9.tmod (2 : Int)).toNat x10)) else (bif ((decide ((0 : Int) ≤ (IntKind.i64.wrap ((1 : Int) - (x9.tmod (2 : Int)))))) && (decide ((IntKind.i64.wrap ((1 : Int) - (x9.tmod (2 : Int)))) < (p.2.2.2.2.1.length : Int)))) then (p.2.2.2.2.1[(IntKind.i64.wrap ((1 : Int) - (x9.tmod (2 : Int)))).toNat]?).bind fun x12 => (bif ((decide ((0 : Int) ≤ (x9.tmod (2 : Int)))) && (decide ((x9.tmod (2 : Int)) < ((p.2.2.2.2.2.set (x9.tmod (2 : Int)).toNat ([] : List (ByteArray))).length : Int)))) then ((p.2.2.2.2.2.set (x9.tmod (2 : Int)).toNat ([] : List (ByteArray)))[(x9.tmod (2 : Int)).toNat]?).bind fun y13 => (((p.2.2.2.2.2.set (x9.tmod (2 : Int)).toNat ([] : List (ByteArray))).set (x9.tmod (2 : Int)).toNat x10)[(x9.tmod (2 : Int)).toNat]?).bind fun x14 => (bif (true && (decide ((0 : Int) < (x14.length : Int)))) then (x14[0]?).bind fun x15 => (impl_HearGreet.f k x12.1 x12.2.1 x12.2.2.1 x12.2.2.2.1 x12.2.2.2.2.1 x12.2.2.2.2.2.1 x12.2.2.2.2.2.2 x15).bind fun r16 => (bif ((decide ((0 : Int) ≤ (IntKind.i64.wrap ((1 : Int) - (x9.tmod (2 : Int)))))) && (decide ((IntKind.i64.wrap ((1 : Int) - (x9.tmod (2 : Int)))) < (p.2.2.2.2.1.length : Int)))) then (p.2.2.2.2.1[(IntKind.i64.wrap ((1 : Int) - (x9.tmod (2 : Int)))).toNat]?).bind fun x17 => (bif (decide ((x9.tmod (4 : Int)) < (2 : Int))) then (bif ((decide ((0 : Int) ≤ (x9.tmod (2 : Int)))) && (decide ((x9.tmod (2 : Int)) < ((((p.2.2.2.2.2.set (x9.tmod (2 : Int)).toNat ([] : List (ByteArray))).set (x9.tmod (2 : Int)).toNat x10).set (x9.tmod (2 : Int)).toNat ([] : List (ByteArray))).length : Int)))) then ((((p.2.2.2.2.2.set (x9.tmod (2 : Int)).toNat ([] : List (ByteArray))).set (x9.tmod (2 : Int)).toNat x10).set (x9.tmod (2 : Int)).toNat ([] : List (ByteArray)))[(x9.tmod (2 : Int)).toNat]?).bind fun y18 => (((((p.2.2.2.2.2.set (x9.tmod (2 : Int)).toNat ([] : List (ByteArray))).set (x9.tmod (2 : Int)).toNat x10).set (x9.tmod (2 : Int)).toNat ([] : List (ByteArray))).set (x9.tmod (2 : Int)).toNat x14)[(x9.tmod (2 : Int)).toNat]?).bind fun x19 => (bif (true && (decide ((1 : Int) ≤ (x19.length : Int)))) then (bif ((decide ((0 : Int) ≤ (x9.tmod (2 : Int)))) && (decide ((x9.tmod (2 : Int)) < ((((((p.2.2.2.2.2.set (x9.tmod (2 : Int)).toNat ([] : List (ByteArray))).set (x9.tmod (2 : Int)).toNat x10).set (x9.tmod (2 : Int)).toNat ([] : List (ByteArray))).set (x9.tmod (2 : Int)).toNat x14).set (x9.tmod (2 : Int)).toNat ([] : List (ByteArray))).length : Int)))) then (bif Nat.beq (x9.tmod (2 : Int)).toNat (x9.tmod (2 : Int)).toNat then ((((((p.2.2.2.2.2.set (x9.tmod (2 : Int)).toNat ([] : List (ByteArray))).set (x9.tmod (2 : Int)).toNat x10).set (x9.tmod (2 : Int)).toNat ([] : List (ByteArray))).set (x9.tmod (2 : Int)).toNat x14).set (x9.tmod (2 : Int)).toNat ([] : List (ByteArray)))[(x9.tmod (2 : Int)).toNat]?).bind fun x20 => (bif (!(r16.2.2.2.2.2.2.2.toList == ByteArray.empty.toList)) then (bif ((decide ((0 : Int) ≤ (IntKind.i64.wrap ((1 : Int) - (x9.tmod (2 : Int)))))) && (decide ((IntKind.i64.wrap ((1 : Int) - (x9.tmod (2 : Int)))) < (((((((p.2.2.2.2.2.set (x9.tmod (2 : Int)).toNat ([] : List (ByteArray))).set (x9.tmod (2 : Int)).toNat x10).set (x9.tmod (2 : Int)).toNat ([] : List (ByteArray))).set (x9.tmod (2 : Int)).toNat x14).set (x9.tmod (2 : Int)).toNat ([] : List (ByteArray))).set (x9.tmod (2 : Int)).toNat ((x19.drop 1).take (x19.length - 1))).length : Int)))) then (((((((p.2.2.2.2.2.set (x9.tmod (2 : Int)).toNat ([] : List (ByteArray))).set (x9.tmod (2 : Int)).toNat x10).set (x9.tmod (2 : Int)).toNat ([] : List (ByteArray))).set (x9.tmod (2 : Int)).toNat x14).set (x9.tmod (2 : Int)).toNat ([] : List (ByteArray))).set (x9.tmod (2 : Int)).toNat ((x19.drop 1).take (x19.length - 1)))[(IntKind.i64.wrap ((1 : Int) - (x9.tmod (2 : Int)))).toNat]?).bind fun x21 => (bif decide ((x21.length + [r16.2.2.2.2.2.2.2].length) * 16 ≤ 140737488355328) then (bif ((decide ((0 : Int) ≤ (IntKind.i64.wrap ((1 : Int) - (x9.tmod (2 : Int)))))) && (decide ((IntKind.i64.wrap ((1 : Int) - (x9.tmod (2 : Int)))) < ((((((((p.2.2.2.2.2.set (x9.tmod (2 : Int)).toNat ([] : List (ByteArray))).set (x9.tmod (2 : Int)).toNat x10).set (x9.tmod (2 : Int)).toNat ([] : List (ByteArray))).set (x9.tmod (2 : Int)).toNat x14).set (x9.tmod (2 : Int)).toNat ([] : List (ByteArray))).set (x9.tmod (2 : Int)).toNat ((x19.drop 1).take (x19.length - 1))).set (IntKind.i64.wrap ((1 : Int) - (x9.tmod (2 : Int)))).toNat ([] : List (ByteArray))).length : Int)))) then (bif Nat.beq (IntKind.i64.wrap ((1 : Int) - (x9.tmod (2 : Int)))).toNat (IntKind.i64.wrap ((1 : Int) - (x9.tmod (2 : Int)))).toNat then ((((((((p.2.2.2.2.2.set (x9.tmod (2 : Int)).toNat ([] : List (ByteArray))).set (x9.tmod (2 : Int)).toNat x10).set (x9.tmod (2 : Int)).toNat ([] : List (ByteArray))).set (x9.tmod (2 : Int)).toNat x14).set (x9.tmod (2 : Int)).toNat ([] : List (ByteArray))).set (x9.tmod (2 : Int)).toNat ((x19.drop 1).take (x19.length - 1))).set (IntKind.i64.wrap ((1 : Int) - (x9.tmod (2 : Int)))).toNat ([] : List (ByteArray)))[(IntKind.i64.wrap ((1 : Int) - (x9.tmod (2 : Int)))).toNat]?).bind fun x22 => rec4 (p.1, (IntKind.i64.wrap (p.2.1 + (1 : Int))), p.2.2.1, p.2.2.2.1, (p.2.2.2.2.1.set (IntKind.i64.wrap ((1 : Int) - (x9.tmod (2 : Int)))).toNat (r16.1, r16.2.1, r16.2.2.1, r16.2.2.2.1, r16.2.2.2.2.1, r16.2.2.2.2.2.1, r16.2.2.2.2.2.2.1)), ((((((((p.2.2.2.2.2.set (x9.tmod (2 : Int)).toNat ([] : List (ByteArray))).set (x9.tmod (2 : Int)).toNat x10).set (x9.tmod (2 : Int)).toNat ([] : List (ByteArray))).set (x9.tmod (2 : Int)).toNat x14).set (x9.tmod (2 : Int)).toNat ([] : List (ByteArray))).set (x9.tmod (2 : Int)).toNat ((x19.drop 1).take (x19.length - 1))).set (IntKind.i64.wrap ((1 : Int) - (x9.tmod (2 : Int)))).toNat ([] : List (ByteArray))).set (IntKind.i64.wrap ((1 : Int) - (x9.tmod (2 : Int)))).toNat (x21 ++ [r16.2.2.2.2.2.2.2]))) else ((((((((p.2.2.2.2.2.set (x9.tmod (2 : Int)).toNat ([] : List (ByteArray))).set (x9.tmod (2 : Int)).toNat x10).set (x9.tmod (2 : Int)).toNat ([] : List (ByteArray))).set (x9.tmod (2 : Int)).toNat x14).set (x9.tmod (2 : Int)).toNat ([] : List (ByteArray))).set (x9.tmod (2 : Int)).toNat ((x19.drop 1).take (x19.length - 1))).set (IntKind.i64.wrap ((1 : Int) - (x9.tmod (2 : Int)))).toNat ([] : List (ByteArray)))[(IntKind.i64.wrap ((1 : Int) - (x9.tmod (2 : Int)))).toNat]?).bind fun _y23 => none) else none) else none) else none) else rec4 (p.1, (IntKind.i64.wrap (p.2.1 + (1 : Int))), p.2.2.1, p.2.2.2.1, (p.2.2.2.2.1.set (IntKind.i64.wrap ((1 : Int) - (x9.tmod (2 : Int)))).toNat (r16.1, r16.2.1, r16.2.2.1, r16.2.2.2.1, r16.2.2.2.2.1, r16.2.2.2.2.2.1, r16.2.2.2.2.2.2.1)), ((((((p.2.2.2.2.2.set (x9.tmod (2 : Int)).toNat ([] : List (ByteArray))).set (x9.tmod (2 : Int)).toNat x10).set (x9.tmod (2 : Int)).toNat ([] : List (ByteArray))).set (x9.tmod (2 : Int)).toNat x14).set (x9.tmod (2 : Int)).toNat ([] : List (ByteArray))).set (x9.tmod (2 : Int)).toNat ((x19.drop 1).take (x19.length - 1))))) else ((((((p.2.2.2.2.2.set (x9.tmod (2 : Int)).toNat ([] : List (ByteArray))).set (x9.tmod (2 : Int)).toNat x10).set (x9.tmod (2 : Int)).toNat ([] : List (ByteArray))).set (x9.tmod (2 : Int)).toNat x14).set (x9.tmod (2 : Int)).toNat ([] : List (ByteArray)))[(x9.tmod (2 : Int)).toNat]?).bind fun y24 => (((((((p.2.2.2.2.2.set (x9.tmod (2 : Int)).toNat ([] : List (ByteArray))).set (x9.tmod (2 : Int)).toNat x10).set (x9.tmod (2 : Int)).toNat ([] : List (ByteArray))).set (x9.tmod (2 : Int)).toNat x14).set (x9.tmod (2 : Int)).toNat ([] : List (ByteArray))).set (x9.tmod (2 : Int)).toNat x19)[(x9.tmod (2 : Int)).toNat]?).bind fun _x25 => none) else none) else none) else none) else (bif (!(r16.2.2.2.2.2.2.2.toList == ByteArray.empty.toList)) then (bif ((decide ((0 : Int) ≤ (IntKind.i64.wrap ((1 : Int) - (x9.tmod (2 : Int)))))) && (decide ((IntKind.i64.wrap ((1 : Int) - (x9.tmod (2 : Int)))) < ((((p.2.2.2.2.2.set (x9.tmod (2 : Int)).toNat ([] : List (ByteArray))).set (x9.tmod (2 : Int)).toNat x10).set (x9.tmod (2 : Int)).toNat ([] : List (ByteArray))).length : Int)))) then ((((p.2.2.2.2.2.set (x9.tmod (2 : Int)).toNat ([] : List (ByteArray))).set (x9.tmod (2 : Int)).toNat x10).set (x9.tmod (2 : Int)).toNat ([] : List (ByteArray)))[(x9.tmod (2 : Int)).toNat]?).bind fun y26 => (((((p.2.2.2.2.2.set (x9.tmod (2 : Int)).toNat ([] : List (ByteArray))).set (x9.tmod (2 : Int)).toNat x10).set (x9.tmod (2 : Int)).toNat ([] : List (ByteArray))).set (x9.tmod (2 : Int)).toNat x14)[(IntKind.i64.wrap ((1 : Int) - (x9.tmod (2 : Int)))).toNat]?).bind fun x27 => (bif decide ((x27.length + [r16.2.2.2.2.2.2.2].length) * 16 ≤ 140737488355328) then (bif ((decide ((0 : Int) ≤ (IntKind.i64.wrap ((1 : Int) - (x9.tmod (2 : Int)))))) && (decide ((IntKind.i64.wrap ((1 : Int) - (x9.tmod (2 : Int)))) < ((((((p.2.2.2.2.2.set (x9.tmod (2 : Int)).toNat ([] : List (ByteArray))).set (x9.tmod (2 : Int)).toNat x10).set (x9.tmod (2 : Int)).toNat ([] : List (ByteArray))).set (x9.tmod (2 : Int)).toNat x14).set (IntKind.i64.wrap ((1 : Int) - (x9.tmod (2 : Int)))).toNat ([] : List (ByteArray))).length : Int)))) then (bif Nat.beq (IntKind.i64.wrap ((1 : Int) - (x9.tmod (2 : Int)))).toNat (IntKind.i64.wrap ((1 : Int) - (x9.tmod (2 : Int)))).toNat then ((((((p.2.2.2.2.2.set (x9.tmod (2 : Int)).toNat ([] : List (ByteArray))).set (x9.tmod (2 : Int)).toNat x10).set (x9.tmod (2 : Int)).toNat ([] : List (ByteArray))).set (x9.tmod (2 : Int)).toNat x14).set (IntKind.i64.wrap ((1 : Int) - (x9.tmod (2 : Int)))).toNat ([] : List (ByteArray)))[(IntKind.i64.wrap ((1 : Int) - (x9.tmod (2 : Int)))).toNat]?).bind fun x28 => rec4 (p.1, (IntKind.i64.wrap (p.2.1 + (1 : Int))), p.2.2.1, p.2.2.2.1, (p.2.2.2.2.1.set (IntKind.i64.wrap ((1 : Int) - (x9.tmod (2 : Int)))).toNat (r16.1, r16.2.1, r16.2.2.1, r16.2.2.2.1, r16.2.2.2.2.1, r16.2.2.2.2.2.1, r16.2.2.2.2.2.2.1)), ((((((p.2.2.2.2.2.set (x9.tmod (2 : Int)).toNat ([] : List (ByteArray))).set (x9.tmod (2 : Int)).toNat x10).set (x9.tmod (2 : Int)).toNat ([] : List (ByteArray))).set (x9.tmod (2 : Int)).toNat x14).set (IntKind.i64.wrap ((1 : Int) - (x9.tmod (2 : Int)))).toNat ([] : List (ByteArray))).set (IntKind.i64.wrap ((1 : Int) - (x9.tmod (2 : Int)))).toNat (x27 ++ [r16.2.2.2.2.2.2.2]))) else ((((((p.2.2.2.2.2.set (x9.tmod (2 : Int)).toNat ([] : List (ByteArray))).set (x9.tmod (2 : Int)).toNat x10).set (x9.tmod (2 : Int)).toNat ([] : List (ByteArray))).set (x9.tmod (2 : Int)).toNat x14).set (IntKind.i64.wrap ((1 : Int) - (x9.tmod (2 : Int)))).toNat ([] : List (ByteArray)))[(IntKind.i64.wrap ((1 : Int) - (x9.tmod (2 : Int)))).toNat]?).bind fun _y29 => none) else none) else none) else none) else ((((p.2.2.2.2.2.set (x9.tmod (2 : Int)).toNat ([] : List (ByteArray))).set (x9.tmod (2 : Int)).toNat x10).set (x9.tmod (2 : Int)).toNat ([] : List (ByteArray)))[(x9.tmod (2 : Int)).toNat]?).bind fun y30 => rec4 (p.1, (IntKind.i64.wrap (p.2.1 + (1 : Int))), p.2.2.1, p.2.2.2.1, (p.2.2.2.2.1.set (IntKind.i64.wrap ((1 : Int) - (x9.tmod (2 : Int)))).toNat (r16.1, r16.2.1, r16.2.2.1, r16.2.2.2.1, r16.2.2.2.2.1, r16.2.2.2.2.2.1, r16.2.2.2.2.2.2.1)), ((((p.2.2.2.2.2.set (x9.tmod (2 : Int)).toNat ([] : List (ByteArray))).set (x9.tmod (2 : Int)).toNat x10).set (x9.tmod (2 : Int)).toNat ([] : List (ByteArray))).set (x9.tmod (2 : Int)).toNat x14)))) else none) else none) else none) else none)) else none) else none) else some (p.2.2.2.2.1, true))
def impl_Greeting.l4 (k : Nat) : Nat → (Int × Int × (List (ByteArray)) × (List (Int)) × (List (Int × Int × Int × Int × Int × ByteArray × ByteArray)) × (List ((List (ByteArray))))) → Option ((List (Int × Int × Int × Int × Int × ByteArray × ByteArray)) × Bool)
  | 0 => fun _ => none
  | j + 1 => impl_Greeting.s4 k (impl_Greeting.l4 k j)
def impl_Greeting.s2 (k : Nat) (rec2 : (Int × (List (ByteArray)) × (List (Int)) × (List (Int × Int × Int × Int × Int × ByteArray × ByteArray)) × (List ((List (ByteArray))))) → Option ((List (Int × Int × Int × Int × Int × ByteArray × ByteArray)) × Bool)) (i4 : (Int × Int × (List (ByteArray)) × (List (Int)) × (List (Int × Int × Int × Int × Int × ByteArray × ByteArray)) × (List ((List (ByteArray))))) → Option ((List (Int × Int × Int × Int × Int × ByteArray × ByteArray)) × Bool)) (p : (Int × (List (ByteArray)) × (List (Int)) × (List (Int × Int × Int × Int × Int × ByteArray × ByteArray)) × (List ((List (ByteArray)))))) : Option ((List (Int × Int × Int × Int × Int × ByteArray × ByteArray)) × Bool) :=
  (bif (decide (p.1 < (2 : Int))) then (bif ((decide ((0 : Int) ≤ p.1)) && (decide (p.1 < (p.2.1.length : Int)))) then (p.2.1[p.1.toNat]?).bind fun x2 => (bif ((decide ((0 : Int) ≤ (IntKind.i64.wrap ((2 : Int) + p.1)))) && (decide ((IntKind.i64.wrap ((2 : Int) + p.1)) < (p.2.1.length : Int)))) then (p.2.1[(IntKind.i64.wrap ((2 : Int) + p.1)).toNat]?).bind fun x3 => (bif ((decide ((0 : Int) ≤ (IntKind.i64.wrap ((1 : Int) - p.1)))) && (decide ((IntKind.i64.wrap ((1 : Int) - p.1)) < (p.2.1.length : Int)))) then (p.2.1[(IntKind.i64.wrap ((1 : Int) - p.1)).toNat]?).bind fun x4 => (impl_SecretOf.f k x4).bind fun r5 => (impl_PublicOf.f k r5).bind fun r6 => (impl_GreeterNew.f k (IntKind.i64.wrap ((1 : Int) + p.1)) x2 x3 r6).bind fun r7 => (impl_Hello.f k r7.1 r7.2.1 r7.2.2.1 r7.2.2.2.1 r7.2.2.2.2.1 r7.2.2.2.2.2.1 r7.2.2.2.2.2.2.1).bind fun r8 => (bif decide ((p.2.2.2.1.length + [(r8.1, r8.2.1, r8.2.2.1, r8.2.2.2.1, r8.2.2.2.2.1, r8.2.2.2.2.2.1, r8.2.2.2.2.2.2.1)].length) * 72 ≤ 140737488355328) then (bif decide ((p.2.2.2.2 ++ [[r8.2.2.2.2.2.2.2]]).length * 24 ≤ 140737488355328) then rec2 ((IntKind.i64.wrap (p.1 + (1 : Int))), p.2.1, p.2.2.1, (p.2.2.2.1 ++ [(r8.1, r8.2.1, r8.2.2.1, r8.2.2.2.1, r8.2.2.2.2.1, r8.2.2.2.2.2.1, r8.2.2.2.2.2.2.1)]), (p.2.2.2.2 ++ [[r8.2.2.2.2.2.2.2]])) else none) else none) else none) else none) else none) else i4 ((p.2.2.1.length : Int), (0 : Int), p.2.1, p.2.2.1, p.2.2.2.1, p.2.2.2.2))
def impl_Greeting.l2 (k : Nat) : Nat → (Int × (List (ByteArray)) × (List (Int)) × (List (Int × Int × Int × Int × Int × ByteArray × ByteArray)) × (List ((List (ByteArray))))) → Option ((List (Int × Int × Int × Int × Int × ByteArray × ByteArray)) × Bool)
  | 0 => fun _ => none
  | j + 1 => impl_Greeting.s2 k (impl_Greeting.l2 k j) (impl_Greeting.l4 k k)
def impl_Greeting.s0 (_k : Nat) (rec0 : (Int × Int × (List (ByteArray)) × (List (Int))) → Option ((List (Int × Int × Int × Int × Int × ByteArray × ByteArray)) × Bool)) (i2 : (Int × (List (ByteArray)) × (List (Int)) × (List (Int × Int × Int × Int × Int × ByteArray × ByteArray)) × (List ((List (ByteArray))))) → Option ((List (Int × Int × Int × Int × Int × ByteArray × ByteArray)) × Bool)) (p : (Int × Int × (List (ByteArray)) × (List (Int)))) : Option ((List (Int × Int × Int × Int × Int × ByteArray × ByteArray)) × Bool) :=
  (bif (decide (p.2.1 < p.1)) then (bif ((decide ((0 : Int) ≤ p.2.1)) && (decide (p.2.1 < (p.2.2.2.length : Int)))) then (p.2.2.2[p.2.1.toNat]?).bind fun x1 => (bif (decide (x1 < (0 : Int))) then some (([] : List (Int × Int × Int × Int × Int × ByteArray × ByteArray)), false) else rec0 (p.1, (IntKind.i64.wrap (p.2.1 + (1 : Int))), p.2.2.1, p.2.2.2)) else none) else i2 ((0 : Int), p.2.2.1, p.2.2.2, ([] : List (Int × Int × Int × Int × Int × ByteArray × ByteArray)), ([] : List ((List (ByteArray))))))
def impl_Greeting.l0 (k : Nat) : Nat → (Int × Int × (List (ByteArray)) × (List (Int))) → Option ((List (Int × Int × Int × Int × Int × ByteArray × ByteArray)) × Bool)
  | 0 => fun _ => none
  | j + 1 => impl_Greeting.s0 k (impl_Greeting.l0 k j) (impl_Greeting.l2 k k)
def impl_Greeting.S4 (p : (Int × Int × (List (ByteArray)) × (List (Int)) × (List (Int × Int × Int × Int × Int × ByteArray × ByteArray)) × (List ((List (ByteArray)))))) : DS := ⟨tl [(8, .at (.whole 2224)), (9, .at (.whole 2225)), (78, .at (.whole 16)), (79, .at (.int .i64 p.1)), (80, .at (.int .i64 p.2.1))], lookO [(0, .row 9 .str false p.2.2.1), (16, .row 3 (.int .i64) false p.2.2.2.1), (2224, .row 32 (.two (.int .i64) (.two (.int .i64) (.two (.int .i64) (.two (.int .i64) (.two (.int .i64) (.two .str .str)))))) true p.2.2.2.2.1), (2225, .deep 24 (.sl 9 .str) p.2.2.2.2.2 none)]⟩
def impl_Greeting.S2 (p : (Int × (List (ByteArray)) × (List (Int)) × (List (Int × Int × Int × Int × Int × ByteArray × ByteArray)) × (List ((List (ByteArray)))))) : DS := ⟨tl [(0, .at (.whole 0)), (1, .at (.whole 16)), (8, .at (.whole 2224)), (9, .at (.whole 2225)), (38, .at (.int .i64 p.1))], lookO [(0, .row 9 .str false p.2.1), (16, .row 3 (.int .i64) false p.2.2.1), (2224, .row 32 (.two (.int .i64) (.two (.int .i64) (.two (.int .i64) (.two (.int .i64) (.two (.int .i64) (.two .str .str)))))) true p.2.2.2.1), (2225, .deep 24 (.sl 9 .str) p.2.2.2.2 none)]⟩
def impl_Greeting.S0 (p : (Int × Int × (List (ByteArray)) × (List (Int)))) : DS := ⟨tl [(0, .at (.whole 0)), (1, .at (.whole 16)), (27, .at (.whole 16)), (28, .at (.int .i64 p.1)), (29, .at (.int .i64 p.2.1))], lookO [(0, .row 9 .str false p.2.2.1), (16, .row 3 (.int .i64) false p.2.2.2)]⟩
noncomputable def impl_Greeting.D4 (k : Nat) (j : Nat) (p : (Int × Int × (List (ByteArray)) × (List (Int)) × (List (Int × Int × Int × Int × Int × ByteArray × ByteArray)) × (List ((List (ByteArray)))))) : Option ((List (Int × Int × Int × Int × Int × ByteArray × ByteArray)) × Bool) := loopK (normK [0, 16] (impl_Greeting.h 4)) (runK impl_Greeting.x k 0 [0, 16] impl_Greeting.h 4 (sub impl_Greeting.c [1, 1, 1, 1, 1, 1, 0, 1, 0, 0])) j (impl_Greeting.S4 p) (kBlk 4 (kSeq (runK impl_Greeting.x k 0 [0, 16] impl_Greeting.h 0 (sub impl_Greeting.c [1, 1, 1, 1, 1, 1, 1])) (fin tt impl_Greeting.ps impl_Greeting.rs impl_Greeting.vs (.two (.sl 32 (.two (.int .i64) (.two (.int .i64) (.two (.int .i64) (.two (.int .i64) (.two (.int .i64) (.two .str .str))))))) .bool))))
noncomputable def impl_Greeting.D2 (k : Nat) (j : Nat) (p : (Int × (List (ByteArray)) × (List (Int)) × (List (Int × Int × Int × Int × Int × ByteArray × ByteArray)) × (List ((List (ByteArray)))))) : Option ((List (Int × Int × Int × Int × Int × ByteArray × ByteArray)) × Bool) := loopK (normK [0, 16] (impl_Greeting.h 2)) (runK impl_Greeting.x k 0 [0, 16] impl_Greeting.h 2 (sub impl_Greeting.c [1, 1, 1, 1, 1, 0, 1, 0, 0])) j (impl_Greeting.S2 p) (kBlk 2 (kSeq (runK impl_Greeting.x k 0 [0, 16] impl_Greeting.h 0 (sub impl_Greeting.c [1, 1, 1, 1, 1, 1])) (fin tt impl_Greeting.ps impl_Greeting.rs impl_Greeting.vs (.two (.sl 32 (.two (.int .i64) (.two (.int .i64) (.two (.int .i64) (.two (.int .i64) (.two (.int .i64) (.two .str .str))))))) .bool))))
noncomputable def impl_Greeting.D0 (k : Nat) (j : Nat) (p : (Int × Int × (List (ByteArray)) × (List (Int)))) : Option ((List (Int × Int × Int × Int × Int × ByteArray × ByteArray)) × Bool) := loopK (normK [0, 16] (impl_Greeting.h 0)) (runK impl_Greeting.x k 0 [0, 16] impl_Greeting.h 0 (sub impl_Greeting.c [1, 1, 0, 1, 0, 0])) j (impl_Greeting.S0 p) (kBlk 0 (kSeq (runK impl_Greeting.x k 0 [0, 16] impl_Greeting.h 0 (sub impl_Greeting.c [1, 1, 1])) (fin tt impl_Greeting.ps impl_Greeting.rs impl_Greeting.vs (.two (.sl 32 (.two (.int .i64) (.two (.int .i64) (.two (.int .i64) (.two (.int .i64) (.two (.int .i64) (.two .str .str))))))) .bool))))
theorem impl_Greeting.D4_eq (k : Nat) : ∀ j, impl_Greeting.D4 k j = impl_Greeting.l4 k j := by
  intro j
  induction j with
  | zero => rfl
  | succ j ih =>
    show _ = impl_Greeting.s4 k (impl_Greeting.l4 k j)
    rw [← ih]
    funext p
    kernel_rfl
theorem impl_Greeting.D2_eq (k : Nat) : ∀ j, impl_Greeting.D2 k j = impl_Greeting.l2 k j := by
  intro j
  induction j with
  | zero => rfl
  | succ j ih =>
    show _ = impl_Greeting.s2 k (impl_Greeting.l2 k j) (impl_Greeting.l4 k k)
    rw [← ih, ← impl_Greeting.D4_eq k k]
    funext p
    kernel_rfl
theorem impl_Greeting.D0_eq (k : Nat) : ∀ j, impl_Greeting.D0 k j = impl_Greeting.l0 k j := by
  intro j
  induction j with
  | zero => rfl
  | succ j ih =>
    show _ = impl_Greeting.s0 k (impl_Greeting.l0 k j) (impl_Greeting.l2 k k)
    rw [← ih, ← impl_Greeting.D2_eq k k]
    funext p
    kernel_rfl
def impl_Greeting.f (k : Nat) (a0 : List (ByteArray)) (a1 : List (Int)) : Option ((List (Int × Int × Int × Int × Int × ByteArray × ByteArray)) × Bool) :=
  (bif ((a0.length : Int) != (4 : Int)) then some (([] : List (Int × Int × Int × Int × Int × ByteArray × ByteArray)), false) else (bif (decide ((a1.length : Int) > (60 : Int))) then some (([] : List (Int × Int × Int × Int × Int × ByteArray × ByteArray)), false) else impl_Greeting.l0 k k ((a1.length : Int), (0 : Int), a0, a1)))
def impl_Greeting.K : Ctr := ⟨impl_Greeting.ps, impl_Greeting.rs, false, (.two (.sl 9 .str) (.sl 3 (.int .i64))), (.two (.sl 32 (.two (.int .i64) (.two (.int .i64) (.two (.int .i64) (.two (.int .i64) (.two (.int .i64) (.two .str .str))))))) .bool), fun k x => impl_Greeting.f k x.1 x.2⟩
theorem impl_Greeting.eq (k : Nat) (x : (impl_Greeting.K.I).den) : func impl_Greeting.x impl_Greeting.h impl_Greeting.ps impl_Greeting.rs impl_Greeting.vs impl_Greeting.K.I impl_Greeting.K.O impl_Greeting.c k x = impl_Greeting.K.run k x := by
  show _ = impl_Greeting.f k x.1 x.2
  unfold impl_Greeting.f
  rw [← impl_Greeting.D0_eq k k]
  kernel_rfl
theorem impl_Greeting.ok : CtrOk Tryz.prog 7 impl_Greeting.K :=
  CtrOk.of (fn := Tryz.f7) (cd := impl_Greeting.c) (cx := impl_Greeting.x) (hs := impl_Greeting.h) (by kernel_rfl) (by kernel_rfl) (by kernel_rfl) (by kernel_rfl) tt_ok (envOk_cons impl_SecretOf.ok (envOk_cons impl_PublicOf.ok (envOk_cons impl_GreeterNew.ok (envOk_cons impl_Hello.ok (envOk_cons impl_HearGreet.ok (envOk_nil)))))) (by kernel_rfl) (by kernel_rfl) (by kernel_rfl) (by kernel_rfl) fun k x r h => (impl_Greeting.eq k x).trans h
/-! spec.l04First -/
noncomputable def spec_l04First.c : Code := bodyOf Tryz.f91
def spec_l04First.h : Nat → Hint := look ⟨[], [], []⟩ []
def spec_l04First.ps : List PK := []
def spec_l04First.rs : List RK := [.one true]
def spec_l04First.vs : List ResultVar := [.tmp 0]
def spec_l04First.x : Cx := ⟨tt, look none []⟩
def spec_l04First.f (_k : Nat) : Option ((List (Int))) :=
  some [(1779033703 : Int), (3144134277 : Int), (1013904242 : Int), (2773480762 : Int), (1359893119 : Int), (2600822924 : Int), (528734635 : Int), (1541459225 : Int)]
def spec_l04First.K : Ctr := ⟨spec_l04First.ps, spec_l04First.rs, false, .unit, (.sl 121 (.int .u32)), fun k _ => spec_l04First.f k⟩
theorem spec_l04First.eq (k : Nat) (x : (spec_l04First.K.I).den) : func spec_l04First.x spec_l04First.h spec_l04First.ps spec_l04First.rs spec_l04First.vs spec_l04First.K.I spec_l04First.K.O spec_l04First.c k x = spec_l04First.K.run k x := by
  show _ = spec_l04First.f k
  kernel_rfl
theorem spec_l04First.ok : CtrOk Tryz.prog 91 spec_l04First.K :=
  CtrOk.of (fn := Tryz.f91) (cd := spec_l04First.c) (cx := spec_l04First.x) (hs := spec_l04First.h) (by kernel_rfl) (by kernel_rfl) (by kernel_rfl) (by kernel_rfl) tt_ok (envOk_nil) (by kernel_rfl) (by kernel_rfl) (by kernel_rfl) (by kernel_rfl) fun k x r h => (spec_l04First.eq k x).trans h
/-! spec.l04Bytes -/
noncomputable def spec_l04Bytes.c : Code := bodyOf Tryz.f90
def spec_l04Bytes.h : Nat → Hint := look ⟨[], [], []⟩ [(0, ⟨[0, 3, 4], [], [(.t 3, 576, 5, (.int .u8))]⟩)]
def spec_l04Bytes.ps : List PK := [.one]
def spec_l04Bytes.rs : List RK := [.one true]
def spec_l04Bytes.vs : List ResultVar := [.tmp 2]
def spec_l04Bytes.x : Cx := ⟨tt, look none []⟩
def spec_l04Bytes.s0 (_k : Nat) (rec0 : (Int × (List (Int)) × (List (Int))) → Option (ByteArray)) (p : (Int × (List (Int)) × (List (Int)))) : Option (ByteArray) :=
  (bif (decide (p.1 < (p.2.1.length : Int))) then (bif ((decide ((0 : Int) ≤ p.1)) && (decide (p.1 < (p.2.1.length : Int)))) then (p.2.1[p.1.toNat]?).bind fun x1 => (bif decide ((p.2.2.length + [(IntKind.u8.wrap (IntKind.u32.wrap (x1.tdiv (16777216 : Int)))), (IntKind.u8.wrap ((IntKind.u32.wrap (x1.tdiv (65536 : Int))).tmod (256 : Int))), (IntKind.u8.wrap ((IntKind.u32.wrap (x1.tdiv (256 : Int))).tmod (256 : Int))), (IntKind.u8.wrap (x1.tmod (256 : Int)))].length) * 1 ≤ 140737488355328) then rec0 ((IntKind.i64.wrap (p.1 + (1 : Int))), p.2.1, (p.2.2 ++ [(IntKind.u8.wrap (IntKind.u32.wrap (x1.tdiv (16777216 : Int)))), (IntKind.u8.wrap ((IntKind.u32.wrap (x1.tdiv (65536 : Int))).tmod (256 : Int))), (IntKind.u8.wrap ((IntKind.u32.wrap (x1.tdiv (256 : Int))).tmod (256 : Int))), (IntKind.u8.wrap (x1.tmod (256 : Int)))])) else none) else none) else some (strOfNums p.2.2))
def spec_l04Bytes.l0 (k : Nat) : Nat → (Int × (List (Int)) × (List (Int))) → Option (ByteArray)
  | 0 => fun _ => none
  | j + 1 => spec_l04Bytes.s0 k (spec_l04Bytes.l0 k j)
def spec_l04Bytes.S0 (p : (Int × (List (Int)) × (List (Int)))) : DS := ⟨tl [(0, .at (.whole 0)), (3, .at (.whole 576)), (4, .at (.int .i64 p.1))], lookO [(0, .row 121 (.int .u32) false p.2.1), (576, .row 5 (.int .u8) true p.2.2)]⟩
noncomputable def spec_l04Bytes.D0 (k : Nat) (j : Nat) (p : (Int × (List (Int)) × (List (Int)))) : Option (ByteArray) := loopK (normK [0] (spec_l04Bytes.h 0)) (runK spec_l04Bytes.x k 0 [0] spec_l04Bytes.h 0 (sub spec_l04Bytes.c [1, 1, 0, 1, 0, 0])) j (spec_l04Bytes.S0 p) (kBlk 0 (kSeq (runK spec_l04Bytes.x k 0 [0] spec_l04Bytes.h 0 (sub spec_l04Bytes.c [1, 1, 1])) (fin tt spec_l04Bytes.ps spec_l04Bytes.rs spec_l04Bytes.vs .str)))
theorem spec_l04Bytes.D0_eq (k : Nat) : ∀ j, spec_l04Bytes.D0 k j = spec_l04Bytes.l0 k j := by
  intro j
  induction j with
  | zero => rfl
  | succ j ih =>
    show _ = spec_l04Bytes.s0 k (spec_l04Bytes.l0 k j)
    rw [← ih]
    funext p
    kernel_rfl
def spec_l04Bytes.f (k : Nat) (a0 : List (Int)) : Option (ByteArray) :=
  spec_l04Bytes.l0 k k ((0 : Int), a0, ([] : List (Int)))
def spec_l04Bytes.K : Ctr := ⟨spec_l04Bytes.ps, spec_l04Bytes.rs, false, (.sl 121 (.int .u32)), .str, fun k x => spec_l04Bytes.f k x⟩
theorem spec_l04Bytes.eq (k : Nat) (x : (spec_l04Bytes.K.I).den) : func spec_l04Bytes.x spec_l04Bytes.h spec_l04Bytes.ps spec_l04Bytes.rs spec_l04Bytes.vs spec_l04Bytes.K.I spec_l04Bytes.K.O spec_l04Bytes.c k x = spec_l04Bytes.K.run k x := by
  show _ = spec_l04Bytes.f k x
  unfold spec_l04Bytes.f
  rw [← spec_l04Bytes.D0_eq k k]
  kernel_rfl
theorem spec_l04Bytes.ok : CtrOk Tryz.prog 90 spec_l04Bytes.K :=
  CtrOk.of (fn := Tryz.f90) (cd := spec_l04Bytes.c) (cx := spec_l04Bytes.x) (hs := spec_l04Bytes.h) (by kernel_rfl) (by kernel_rfl) (by kernel_rfl) (by kernel_rfl) tt_ok (envOk_nil) (by kernel_rfl) (by kernel_rfl) (by kernel_rfl) (by kernel_rfl) fun k x r h => (spec_l04Bytes.eq k x).trans h
/-! spec.HasherNew -/
noncomputable def spec_HasherNew.c : Code := bodyOf Tryz.f72
def spec_HasherNew.h : Nat → Hint := look ⟨[], [], []⟩ []
def spec_HasherNew.ps : List PK := []
def spec_HasherNew.rs : List RK := [.agg 3 true]
def spec_HasherNew.vs : List ResultVar := [.cell 0 91]
def spec_HasherNew.x : Cx := ⟨tt, look none [(91, some spec_l04First.K), (90, some spec_l04Bytes.K)]⟩
def spec_HasherNew.f (k : Nat) : Option (ByteArray × ByteArray × Int) :=
  (spec_l04First.f k).bind fun r1 => (spec_l04Bytes.f k r1).bind fun r2 => some (r2, ByteArray.empty, (0 : Int))
def spec_HasherNew.K : Ctr := ⟨spec_HasherNew.ps, spec_HasherNew.rs, false, .unit, (.two .str (.two .str (.int .i64))), fun k _ => spec_HasherNew.f k⟩
theorem spec_HasherNew.eq (k : Nat) (x : (spec_HasherNew.K.I).den) : func spec_HasherNew.x spec_HasherNew.h spec_HasherNew.ps spec_HasherNew.rs spec_HasherNew.vs spec_HasherNew.K.I spec_HasherNew.K.O spec_HasherNew.c k x = spec_HasherNew.K.run k x := by
  show _ = spec_HasherNew.f k
  kernel_rfl
theorem spec_HasherNew.ok : CtrOk Tryz.prog 72 spec_HasherNew.K :=
  CtrOk.of (fn := Tryz.f72) (cd := spec_HasherNew.c) (cx := spec_HasherNew.x) (hs := spec_HasherNew.h) (by kernel_rfl) (by kernel_rfl) (by kernel_rfl) (by kernel_rfl) tt_ok (envOk_cons spec_l04First.ok (envOk_cons spec_l04Bytes.ok (envOk_nil))) (by kernel_rfl) (by kernel_rfl) (by kernel_rfl) (by kernel_rfl) fun k x r h => (spec_HasherNew.eq k x).trans h
/-! spec.l01In -/
noncomputable def spec_l01In.c : Code := bodyOf Tryz.f52
def spec_l01In.h : Nat → Hint := look ⟨[], [], []⟩ []
def spec_l01In.ps : List PK := [.one, .one, .one]
def spec_l01In.rs : List RK := [.one true]
def spec_l01In.vs : List ResultVar := [.tmp 6]
def spec_l01In.x : Cx := ⟨tt, look none []⟩
def spec_l01In.f (_k : Nat) (a0 : Int) (a1 : Int) (a2 : Int) : Option (Bool) :=
  (bif (decide (a0 ≥ a1)) then some (decide (a0 ≤ a2)) else some false)
def spec_l01In.K : Ctr := ⟨spec_l01In.ps, spec_l01In.rs, false, (.two (.int .i64) (.two (.int .i64) (.int .i64))), .bool, fun k x => spec_l01In.f k x.1 x.2.1 x.2.2⟩
theorem spec_l01In.eq (k : Nat) (x : (spec_l01In.K.I).den) : func spec_l01In.x spec_l01In.h spec_l01In.ps spec_l01In.rs spec_l01In.vs spec_l01In.K.I spec_l01In.K.O spec_l01In.c k x = spec_l01In.K.run k x := by
  show _ = spec_l01In.f k x.1 x.2.1 x.2.2
  kernel_rfl
theorem spec_l01In.ok : CtrOk Tryz.prog 52 spec_l01In.K :=
  CtrOk.of (fn := Tryz.f52) (cd := spec_l01In.c) (cx := spec_l01In.x) (hs := spec_l01In.h) (by kernel_rfl) (by kernel_rfl) (by kernel_rfl) (by kernel_rfl) tt_ok (envOk_nil) (by kernel_rfl) (by kernel_rfl) (by kernel_rfl) (by kernel_rfl) fun k x r h => (spec_l01In.eq k x).trans h
/-! spec.HasherOk -/
noncomputable def spec_HasherOk.c : Code := bodyOf Tryz.f86
def spec_HasherOk.h : Nat → Hint := look ⟨[], [], []⟩ []
def spec_HasherOk.ps : List PK := [.agg 3]
def spec_HasherOk.rs : List RK := [.one true]
def spec_HasherOk.vs : List ResultVar := [.tmp 2]
def spec_HasherOk.x : Cx := ⟨tt, look none [(52, some spec_l01In.K)]⟩
def spec_HasherOk.f (k : Nat) (a0_0 : ByteArray) (a0_1 : ByteArray) (a0_2 : Int) : Option (Bool) :=
  (bif ((a0_0.size : Int) == (32 : Int)) then (bif (decide ((a0_1.size : Int) < (64 : Int))) then (spec_l01In.f k a0_2 (0 : Int) (1000000000 : Int)).bind fun r1 => (bif r1 then some ((a0_2.tmod (64 : Int)) == (a0_1.size : Int)) else some false) else some false) else some false)
def spec_HasherOk.K : Ctr := ⟨spec_HasherOk.ps, spec_HasherOk.rs, false, (.two .str (.two .str (.int .i64))), .bool, fun k x => spec_HasherOk.f k x.1 x.2.1 x.2.2⟩
theorem spec_HasherOk.eq (k : Nat) (x : (spec_HasherOk.K.I).den) : func spec_HasherOk.x spec_HasherOk.h spec_HasherOk.ps spec_HasherOk.rs spec_HasherOk.vs spec_HasherOk.K.I spec_HasherOk.K.O spec_HasherOk.c k x = spec_HasherOk.K.run k x := by
  show _ = spec_HasherOk.f k x.1 x.2.1 x.2.2
  kernel_rfl
theorem spec_HasherOk.ok : CtrOk Tryz.prog 86 spec_HasherOk.K :=
  CtrOk.of (fn := Tryz.f86) (cd := spec_HasherOk.c) (cx := spec_HasherOk.x) (hs := spec_HasherOk.h) (by kernel_rfl) (by kernel_rfl) (by kernel_rfl) (by kernel_rfl) tt_ok (envOk_cons spec_l01In.ok (envOk_nil)) (by kernel_rfl) (by kernel_rfl) (by kernel_rfl) (by kernel_rfl) fun k x r h => (spec_HasherOk.eq k x).trans h
/-! spec.l04Word -/
noncomputable def spec_l04Word.c : Code := bodyOf Tryz.f104
def spec_l04Word.h : Nat → Hint := look ⟨[], [], []⟩ []
def spec_l04Word.ps : List PK := [.one, .one]
def spec_l04Word.rs : List RK := [.one true]
def spec_l04Word.vs : List ResultVar := [.tmp 4]
def spec_l04Word.x : Cx := ⟨tt, look none []⟩
def spec_l04Word.f (_k : Nat) (a0 : ByteArray) (a1 : Int) : Option (Int) :=
  (bif (decide ((0 : Int) ≤ a1)) then (a0[a1.toNat]?).bind fun c1 => (bif (decide ((0 : Int) ≤ (IntKind.i64.wrap (a1 + (1 : Int))))) then (a0[(IntKind.i64.wrap (a1 + (1 : Int))).toNat]?).bind fun c2 => (bif (decide ((0 : Int) ≤ (IntKind.i64.wrap (a1 + (2 : Int))))) then (a0[(IntKind.i64.wrap (a1 + (2 : Int))).toNat]?).bind fun c3 => (bif (decide ((0 : Int) ≤ (IntKind.i64.wrap (a1 + (3 : Int))))) then (a0[(IntKind.i64.wrap (a1 + (3 : Int))).toNat]?).bind fun c4 => some (IntKind.u32.wrap ((IntKind.u32.wrap ((IntKind.u32.wrap ((IntKind.u32.wrap ((IntKind.u32.wrap (c1.toNat : Int)) * (16777216 : Int))) + (IntKind.u32.wrap ((IntKind.u32.wrap (c2.toNat : Int)) * (65536 : Int))))) + (IntKind.u32.wrap ((IntKind.u32.wrap (c3.toNat : Int)) * (256 : Int))))) + (IntKind.u32.wrap (c4.toNat : Int)))) else none) else none) else none) else none)
def spec_l04Word.K : Ctr := ⟨spec_l04Word.ps, spec_l04Word.rs, false, (.two .str (.int .i64)), (.int .u32), fun k x => spec_l04Word.f k x.1 x.2⟩
theorem spec_l04Word.eq (k : Nat) (x : (spec_l04Word.K.I).den) : func spec_l04Word.x spec_l04Word.h spec_l04Word.ps spec_l04Word.rs spec_l04Word.vs spec_l04Word.K.I spec_l04Word.K.O spec_l04Word.c k x = spec_l04Word.K.run k x := by
  show _ = spec_l04Word.f k x.1 x.2
  kernel_rfl
theorem spec_l04Word.ok : CtrOk Tryz.prog 104 spec_l04Word.K :=
  CtrOk.of (fn := Tryz.f104) (cd := spec_l04Word.c) (cx := spec_l04Word.x) (hs := spec_l04Word.h) (by kernel_rfl) (by kernel_rfl) (by kernel_rfl) (by kernel_rfl) tt_ok (envOk_nil) (by kernel_rfl) (by kernel_rfl) (by kernel_rfl) (by kernel_rfl) fun k x r h => (spec_l04Word.eq k x).trans h
/-! spec.l04Words -/
noncomputable def spec_l04Words.c : Code := bodyOf Tryz.f87
def spec_l04Words.h : Nat → Hint := look ⟨[], [], []⟩ [(0, ⟨[0, 3, 4], [], [(.t 3, 320, 121, (.int .u32))]⟩)]
def spec_l04Words.ps : List PK := [.one]
def spec_l04Words.rs : List RK := [.one true]
def spec_l04Words.vs : List ResultVar := [.tmp 2]
def spec_l04Words.x : Cx := ⟨tt, look none [(104, some spec_l04Word.K)]⟩
def spec_l04Words.s0 (k : Nat) (rec0 : (ByteArray × Int × (List (Int))) → Option ((List (Int)))) (p : (ByteArray × Int × (List (Int)))) : Option ((List (Int))) :=
  (bif (decide ((IntKind.i64.wrap (p.2.1 + (4 : Int))) ≤ (p.1.size : Int))) then (spec_l04Word.f k p.1 p.2.1).bind fun r1 => (bif decide ((p.2.2.length + [r1].length) * 4 ≤ 140737488355328) then rec0 (p.1, (IntKind.i64.wrap (p.2.1 + (4 : Int))), (p.2.2 ++ [r1])) else none) else some p.2.2)
def spec_l04Words.l0 (k : Nat) : Nat → (ByteArray × Int × (List (Int))) → Option ((List (Int)))
  | 0 => fun _ => none
  | j + 1 => spec_l04Words.s0 k (spec_l04Words.l0 k j)
def spec_l04Words.S0 (p : (ByteArray × Int × (List (Int)))) : DS := ⟨tl [(0, .at (.str p.1)), (3, .at (.whole 320)), (4, .at (.int .i64 p.2.1))], lookO [(320, .row 121 (.int .u32) true p.2.2)]⟩
noncomputable def spec_l04Words.D0 (k : Nat) (j : Nat) (p : (ByteArray × Int × (List (Int)))) : Option ((List (Int))) := loopK (normK [] (spec_l04Words.h 0)) (runK spec_l04Words.x k 0 [] spec_l04Words.h 0 (sub spec_l04Words.c [1, 1, 0, 1, 0, 0])) j (spec_l04Words.S0 p) (kBlk 0 (kSeq (runK spec_l04Words.x k 0 [] spec_l04Words.h 0 (sub spec_l04Words.c [1, 1, 1])) (fin tt spec_l04Words.ps spec_l04Words.rs spec_l04Words.vs (.sl 121 (.int .u32)))))
theorem spec_l04Words.D0_eq (k : Nat) : ∀ j, spec_l04Words.D0 k j = spec_l04Words.l0 k j := by
  intro j
  induction j with
  | zero => rfl
  | succ j ih =>
    show _ = spec_l04Words.s0 k (spec_l04Words.l0 k j)
    rw [← ih]
    funext p
    kernel_rfl
def spec_l04Words.f (k : Nat) (a0 : ByteArray) : Option ((List (Int))) :=
  spec_l04Words.l0 k k (a0, (0 : Int), ([] : List (Int)))
def spec_l04Words.K : Ctr := ⟨spec_l04Words.ps, spec_l04Words.rs, false, .str, (.sl 121 (.int .u32)), fun k x => spec_l04Words.f k x⟩
theorem spec_l04Words.eq (k : Nat) (x : (spec_l04Words.K.I).den) : func spec_l04Words.x spec_l04Words.h spec_l04Words.ps spec_l04Words.rs spec_l04Words.vs spec_l04Words.K.I spec_l04Words.K.O spec_l04Words.c k x = spec_l04Words.K.run k x := by
  show _ = spec_l04Words.f k x
  unfold spec_l04Words.f
  rw [← spec_l04Words.D0_eq k k]
  kernel_rfl
theorem spec_l04Words.ok : CtrOk Tryz.prog 87 spec_l04Words.K :=
  CtrOk.of (fn := Tryz.f87) (cd := spec_l04Words.c) (cx := spec_l04Words.x) (hs := spec_l04Words.h) (by kernel_rfl) (by kernel_rfl) (by kernel_rfl) (by kernel_rfl) tt_ok (envOk_cons spec_l04Word.ok (envOk_nil)) (by kernel_rfl) (by kernel_rfl) (by kernel_rfl) (by kernel_rfl) fun k x r h => (spec_l04Words.eq k x).trans h
/-! spec.l04K -/
noncomputable def spec_l04K.c : Code := bodyOf Tryz.f88
def spec_l04K.h : Nat → Hint := look ⟨[], [], []⟩ []
def spec_l04K.ps : List PK := []
def spec_l04K.rs : List RK := [.one true]
def spec_l04K.vs : List ResultVar := [.tmp 0]
def spec_l04K.x : Cx := ⟨tt, look none []⟩
def spec_l04K.f (_k : Nat) : Option ((List (Int))) :=
  some [(1116352408 : Int), (1899447441 : Int), (3049323471 : Int), (3921009573 : Int), (961987163 : Int), (1508970993 : Int), (2453635748 : Int), (2870763221 : Int), (3624381080 : Int), (310598401 : Int), (607225278 : Int), (1426881987 : Int), (1925078388 : Int), (2162078206 : Int), (2614888103 : Int), (3248222580 : Int), (3835390401 : Int), (4022224774 : Int), (264347078 : Int), (604807628 : Int), (770255983 : Int), (1249150122 : Int), (1555081692 : Int), (1996064986 : Int), (2554220882 : Int), (2821834349 : Int), (2952996808 : Int), (3210313671 : Int), (3336571891 : Int), (3584528711 : Int), (113926993 : Int), (338241895 : Int), (666307205 : Int), (773529912 : Int), (1294757372 : Int), (1396182291 : Int), (1695183700 : Int), (1986661051 : Int), (2177026350 : Int), (2456956037 : Int), (2730485921 : Int), (2820302411 : Int), (3259730800 : Int), (3345764771 : Int), (3516065817 : Int), (3600352804 : Int), (4094571909 : Int), (275423344 : Int), (430227734 : Int), (506948616 : Int), (659060556 : Int), (883997877 : Int), (958139571 : Int), (1322822218 : Int), (1537002063 : Int), (1747873779 : Int), (1955562222 : Int), (2024104815 : Int), (2227730452 : Int), (2361852424 : Int), (2428436474 : Int), (2756734187 : Int), (3204031479 : Int), (3329325298 : Int)]
def spec_l04K.K : Ctr := ⟨spec_l04K.ps, spec_l04K.rs, false, .unit, (.sl 121 (.int .u32)), fun k _ => spec_l04K.f k⟩
theorem spec_l04K.eq (k : Nat) (x : (spec_l04K.K.I).den) : func spec_l04K.x spec_l04K.h spec_l04K.ps spec_l04K.rs spec_l04K.vs spec_l04K.K.I spec_l04K.K.O spec_l04K.c k x = spec_l04K.K.run k x := by
  show _ = spec_l04K.f k
  kernel_rfl
theorem spec_l04K.ok : CtrOk Tryz.prog 88 spec_l04K.K :=
  CtrOk.of (fn := Tryz.f88) (cd := spec_l04K.c) (cx := spec_l04K.x) (hs := spec_l04K.h) (by kernel_rfl) (by kernel_rfl) (by kernel_rfl) (by kernel_rfl) tt_ok (envOk_nil) (by kernel_rfl) (by kernel_rfl) (by kernel_rfl) (by kernel_rfl) fun k x r h => (spec_l04K.eq k x).trans h
end Go.Proofs.YtpinehfjimphmaaGreat.DI
