/- FnExactGreeting: functions as plain Lean, in the machine of values. -/
import Derived.Test.YtpinehfjimphmaaGreatVFnExactGreeting6
namespace Go.Proofs.YtpinehfjimphmaaGreat.DI
open Go
set_option linter.unusedVariables false
/-! impl.Greeting -/
noncomputable def impl_Greeting.c : Code := bodyOf Tryz.f7
def impl_Greeting.h : Nat → Hint := look ⟨[], [], []⟩ [(0, ⟨[0, 1, 27, 28, 29], [], []⟩), (2, ⟨[0, 1, 8, 9, 38], [], [(.t 8, 2224, 32, (.two (.int .i64) (.two (.int .i64) (.two (.int .i64) (.two (.int .i64) (.two (.int .i64) (.two .str .str))))))), (.t 9, 2225, 24, (.sl 9 .str))]⟩), (4, ⟨[8, 9, 78, 79, 80], [], [(.t 8, 2224, 32, (.two (.int .i64) (.two (.int .i64) (.two (.int .i64) (.two (.int .i64) (.two (.int .i64) (.two .str .str))))))), (.t 9, 2225, 24, (.sl 9 .str))]⟩)]
def impl_Greeting.ps : List PK := [.one, .one]
def impl_Greeting.rs : List RK := [.one true, .one true]
def impl_Greeting.vs : List ResultVar := [.tmp 4, .tmp 5]
def impl_Greeting.x : Cx := ⟨tt, look none [(27, some impl_SecretOf.K), (26, some impl_PublicOf.K), (25, some impl_GreeterNew.K), (28, some impl_Hello.K), (29, some impl_HearGreet.K)]⟩
def impl_Greeting.s4 (k : Nat) (rec4 : (Int × Int × (List (ByteArray)) × (List (Int)) × (List (Int × Int × Int × Int × Int × ByteArray × ByteArray)) × (List ((List (ByteArray))))) → Option ((List (Int × Int × Int × Int × Int × ByteArray × ByteArray)) × Bool)) (p : (Int × Int × (List (ByteArray)) × (List (Int)) × (List (Int × Int × Int × Int × Int × ByteArray × ByteArray)) × (List ((List (ByteArray)))))) : Option ((List (Int × Int × Int × Int × Int × ByteArray × ByteArray)) × Bool) :=
  (bif (decide (p.2.1 < p.1)) then (bif ((decide ((0 : Int) ≤ p.2.1)) && (decide (p.2.1 < (p.2.2.2.1.length : Int)))) then (p.2.2.2.1[p.2.1.toNat]?).bind fun x9 => (bif ((decide ((0 : Int) ≤ (x9.tmod (2 : Int)))) && (decide ((x9.tmod (2 : Int)) < (p.2.2.2.2.2.length : Int)))) then (p.2.2.2.2.2[(x9.tmod (2 : Int)).toNat]?).bind fun x10 => (bif ((x10.length : Int) == (0 : Int)) then ((p.2.2.2.2.2.set (x9.tmod (2 : Int)).toNat ([] : List (ByteArray)))[(x9.tmod (2 : Int)).toNat]?).bind fun y11 => rec4 (p.1, (IntKind.i64.wrap (p.2.1 + (1 : Int))), p.2.2.1, p.2.2.2.1, p.2.2.2.2.1, ((p.2.2.2.2.2.set (x9.tmod (2 : Int)).toNat ([] : List (ByteArray))).set (x9.tmod (2 : Int)).toNat x10)) else (bif ((decide ((0 : Int) ≤ (IntKind.i64.wrap ((1 : Int) - (x9.tmod (2 : Int)))))) && (decide ((IntKind.i64.wrap ((1 : Int) - (x9.tmod (2 : Int)))) < (p.2.2.2.2.1.length : Int)))) then (p.2.2.2.2.1[(IntKind.i64.wrap ((1 : Int) - (x9.tmod (2 : Int)))).toNat]?).bind fun x12 => (bif ((decide ((0 : Int) ≤ (x9.tmod (2 : Int)))) && (decide ((x9.tmod (2 : Int)) < ((p.2.2.2.2.2.set (x9.tmod (2 : Int)).toNat ([] : List (ByteArray))).length : Int)))) then ((p.2.2.2.2.2.set (x9.tmod (2 : Int)).toNat ([] : List (ByteArray)))[(x9.tmod (2 : Int)).toNat]?).bind fun y13 => (((p.2.2.2.2.2.set (x9.tmod (2 : Int)).toNat ([] : List (ByteArray))).set (x9.tmod (2 : Int)).toNat x10)[(x9.tmod (2 : Int)).toNat]?).bind fun x14 => (bif (true && (decide ((0 : Int) < (x14.length : Int)))) then (x14[0]?).bind fun x15 => (impl_HearGreet.f k x12.1 x12.2.1 x12.2.2.1 x12.2.2.2.1 x12.2.2.2.2.1 x12.2.2.2.2.2.1 x12.2.2.2.2.2.2 x15).bind fun r16 => (bif ((decide ((0 : Int) ≤ (IntKind.i64.wrap ((1 : Int) - (x9.tmod (2 : Int)))))) && (decide ((IntKind.i64.wrap ((1 : Int) - (x9.tmod (2 : Int)))) < (p.2.2.2.2.1.length : Int)))) then (p.2.2.2.2.1[(IntKind.i64.wrap ((1 : Int) - (x9.tmod (2 : Int)))).toNat]?).bind fun x17 => (bif (decide ((x9.tmod (4 : Int)) < (2 : Int))) then (bif ((decide ((0 : Int) ≤ (x9.tmod (2 : Int)))) && (decide ((x9.tmod (2 : Int)) < ((((p.2.2.2.2.2.set (x9.tmod (2 : Int)).toNat ([] : List (ByteArray))).set (x9.tmod (2 : Int)).toNat x10).set (x9.tmod (2 : Int)).toNat ([] : List (ByteArray))).length : Int)))) then ((((p.2.2.2.2.2.set (x9.tmod (2 : Int)).toNat ([] : List (ByteArray))).set (x9.tmod (2 : Int)).toNat x10).set (x9.tmod (2 : Int)).toNat ([] : List (ByteArray)))[(x9.tmod (2 : Int)).toNat]?).bind fun y18 => (((((p.2.2.2.2.2.set (x9.tmod (2 : Int)).toNat ([] : List (ByteArray))).set (x9.tmod (2 : Int)).toNat x10).set (x9.tmod (2 : Int)).toNat ([] : List (ByteArray))).set (x9.tmod (2 : Int)).toNat x14)[(x9.tmod (2 : Int)).toNat]?).bind fun x19 => (bif (true && (decide ((1 : Int) ≤ (x19.length : Int)))) then (bif ((decide ((0 : Int) ≤ (x9.tmod (2 : Int)))) && (decide ((x9.tmod (2 : Int)) < ((((((p.2.2.2.2.2.set (x9.tmod (2 : Int)).toNat ([] : List (ByteArray))).set (x9.tmod (2 : Int)).toNat x10).set (x9.tmod (2 : Int)).toNat ([] : List (ByteArray))).set (x9.tmod (2 : Int)).toNat x14).set (x9.tmod (2 : Int)).toNat ([] : List (ByteArray))).length : Int)))) then (bif Nat.beq (x9.tmod (2 : Int)).toNat (x9.tmod (2 : Int)).toNat then ((((((p.2.2.2.2.2.set (x9.tmod (2 : Int)).toNat ([] : List (ByteArray))).set (x9.tmod (2 : Int)).toNat x10).set (x9.tmod (2 : Int)).toNat ([] : List (ByteArray))).set (x9.tmod (2 : Int)).toNat x14).set (x9.tmod (2 : Int)).toNat ([] : List (ByteArray)))[(x9.tmod (2 : Int)).toNat]?).bind fun x20 => (bif (!(r16.2.2.2.2.2.2.2.toList == ByteArray.empty.toList)) then (bif ((decide ((0 : Int) ≤ (IntKind.i64.wrap ((1 : Int) - (x9.tmod (2 : Int)))))) && (decide ((IntKind.i64.wrap ((1 : Int) - (x9.tmod (2 : Int)))) < (((((((p.2.2.2.2.2.set (x9.tmod (2 : Int)).toNat ([] : List (ByteArray))).set (x9.tmod (2 : Int)).toNat x10).set (x9.tmod (2 : Int)).toNat ([] : List (ByteArray))).set (x9.tmod (2 : Int)).toNat x14).set (x9.tmod (2 : Int)).toNat ([] : List (ByteArray))).set (x9.tmod (2 : Int)).toNat ((x19.drop 1).take (x19.length - 1))).length : Int)))) then (((((((p.2.2.2.2.2.set (x9.tmod (2 : Int)).toNat ([] : List (ByteArray))).set (x9.tmod (2 : Int)).toNat x10).set (x9.tmod (2 : Int)).toNat ([] : List (ByteArray))).set (x9.tmod (2 : Int)).toNat x14).set (x9.tmod (2 : Int)).toNat ([] : List (ByteArray))).set (x9.tmod (2 : Int)).toNat ((x19.drop 1).take (x19.length - 1)))[(IntKind.i64.wrap ((1 : Int) - (x9.tmod (2 : Int)))).toNat]?).bind fun x21 => (bif decide ((x21.length + [r16.2.2.2.2.2.2.2].length) * 16 ≤ 140737488355328) then (bif ((decide ((0 : Int) ≤ (IntKind.i64.wrap ((1 : Int) - (x9.tmod (2 : Int)))))) && (decide ((IntKind.i64.wrap ((1 : Int) - (x9.tmod (2 : Int)))) < ((((((((p.2.2.2.2.2.set (x9.tmod (2 : Int)).toNat ([] : List (ByteArray))).set (x9.tmod (2 : Int)).toNat x10).set (x9.tmod (2 : Int)).toNat ([] : List (ByteArray))).set (x9.tmod (2 : Int)).toNat x14).set (x9.tmod (2 : Int)).toNat ([] : List (ByteArray))).set (x9.tmod (2 : Int)).toNat ((x19.drop 1).take (x19.length - 1))).set (IntKind.i64.wrap ((1 : Int) - (x9.tmod (2 : Int)))).toNat ([] : List (ByteArray))).length : Int)))) then (bif Nat.beq (IntKind.i64.wrap ((1 : Int) - (x9.tmod (2 : Int)))).toNat (IntKind.i64.wrap ((1 : Int) - (x9.tmod (2 : Int)))).toNat then ((((((((p.2.2.2.2.2.set (x9.tmod (2 : Int)).toNat ([] : List (ByteArray))).set (x9.tmod (2 : Int)).toNat x10).set (x9.tmod (2 : Int)).toNat ([] : List (ByteArray))).set (x9.tmod (2 : Int)).toNat x14).set (x9.tmod (2 : Int)).toNat ([] : List (ByteArray))).set (x9.tmod (2 : Int)).toNat ((x19.drop 1).take (x19.length - 1))).set (IntKind.i64.wrap ((1 : Int) - (x9.tmod (2 : Int)))).toNat ([] : List (ByteArray)))[(IntKind.i64.wrap ((1 : Int) - (x9.tmod (2 : Int)))).toNat]?).bind fun x22 => rec4 (p.1, (IntKind.i64.wrap (p.2.1 + (1 : Int))), p.2.2.1, p.2.2.2.1, (p.2.2.2.2.1.set (IntKind.i64.wrap ((1 : Int) - (x9.tmod (2 : Int)))).toNat (r16.1, r16.2.1, r16.2.2.1, r16.2.2.2.1, r16.2.2.2.2.1, r16.2.2.2.2.2.1, r16.2.2.2.2.2.2.1)), ((((((((p.2.2.2.2.2.set (x9.tmod (2 : Int)).toNat ([] : List (ByteArray))).set (x9.tmod (2 : Int)).toNat x10).set (x9.tmod (2 : Int)).toNat ([] : List (ByteArray))).set (x9.tmod (2 : Int)).toNat x14).set (x9.tmod (2 : Int)).toNat ([] : List (ByteArray))).set (x9.tmod (2 : Int)).toNat ((x19.drop 1).take (x19.length - 1))).set (IntKind.i64.wrap ((1 : Int) - (x9.tmod (2 : Int)))).toNat ([] : List (ByteArray))).set (IntKind.i64.wrap ((1 : Int) - (x9.tmod (2 : Int)))).toNat (x21 ++ [r16.2.2.2.2.2.2.2]))) else ((((((((p.2.2.2.2.2.set (x9.tmod (2 : Int)).toNat ([] : List (ByteArray))).set (x9.tmod (2 : Int)).toNat x10).set (x9.tmod (2 : Int)).toNat ([] : List (ByteArray))).set (x9.tmod (2 : Int)).toNat x14).set (x9.tmod (2 : Int)).toNat ([] : List (ByteArray))).set (x9.tmod (2 : Int)).toNat ((x19.drop 1).take (x19.length - 1))).set (IntKind.i64.wrap ((1 : Int) - (x9.tmod (2 : Int)))).toNat ([] : List (ByteArray)))[(IntKind.i64.wrap ((1 : Int) - (x9.tmod (2 : Int)))).toNat]?).bind fun _y23 => none) else none) else none) else none) else rec4 (p.1, (IntKind.i64.wrap (p.2.1 + (1 : Int))), p.2.2.1, p.2.2.2.1, (p.2.2.2.2.1.set (IntKind.i64.wrap ((1 : Int) - (x9.tmod (2 : Int)))).toNat (r16.1, r16.2.1, r16.2.2.1, r16.2.2.2.1, r16.2.2.2.2.1, r16.2.2.2.2.2.1, r16.2.2.2.2.2.2.1)), ((((((p.2.2.2.2.2.set (x9.tmod (2 : Int)).toNat ([] : List (ByteArray))).set (x9.tmod (2 : Int)).toNat x10).set (x9.tmod (2 : Int)).toNat ([] : List (ByteArray))).set (x9.tmod (2 : Int)).toNat x14).set (x9.tmod (2 : Int)).toNat ([] : List (ByteArray))).set (x9.tmod (2 : Int)).toNat ((x19.drop 1).take (x19.length - 1))))) else ((((((p.2.2.2.2.2.set (x9.tmod (2 : Int)).toNat ([] : List (ByteArray))).set (x9.tmod (2 : Int)).toNat x10).set (x9.tmod (2 : Int)).toNat ([] : List (ByteArray))).set (x9.tmod (2 : Int)).toNat x14).set (x9.tmod (2 : Int)).toNat ([] : List (ByteArray)))[(x9.tmod (2 : Int)).toNat]?).bind fun y24 => (((((((p.2.2.2.2.2.set (x9.tmod (2 : Int)).toNat ([] : List (ByteArray))).set (x9.tmod (2 : Int)).toNat x10).set (x9.tmod (2 : Int)).toNat ([] : List (ByteArray))).set (x9.tmod (2 : Int)).toNat x14).set (x9.tmod (2 : Int)).toNat ([] : List (ByteArray))).set (x9.tmod (2 : Int)).toNat x19)[(x9.tmod (2 : Int)).toNat]?).bind fun _x25 => none) else none) else none) else none) else (bif (!(r16.2.2.2.2.2.2.2.toList == ByteArray.empty.toList)) then (bif ((decide ((0 : Int) ≤ (IntKind.i64.wrap ((1 : Int) - (x9.tmod (2 : Int)))))) && (decide ((IntKind.i64.wrap ((1 : Int) - (x9.tmod (2 : Int)))) < ((((p.2.2.2.2.2.set (x9.tmod (2 : Int)).toNat ([] : List (ByteArray))).set (x9.tmod (2 : Int)).toNat x10).set (x9.tmod (2 : Int)).toNat ([] : List (ByteArray))).length : Int)))) then ((((p.2.2.2.2.2.set (x9.tmod (2 : Int)).toNat ([] : List (ByteArray))).set (x9.tmod (2 : Int)).toNat x10).set (x9.tmod (2 : Int)).toNat ([] : List (ByteArray)))[(x9.tmod (2 : Int)).toNat]?).bind fun y26 => (((((p.2.2.2.2.2.set (x9.tmod (2 : Int)).toNat ([] : List (ByteArray))).set (x9.tmod (2 : Int)).toNat x10).set (x9.tmod (2 : Int)).toNat ([] : List (ByteArray))).set (x9.tmod (2 : Int)).toNat x14)[(IntKind.i64.wrap ((1 : Int) - (x9.tmod (2 : Int)))).toNat]?).bind fun x27 => (bif decide ((x27.length + [r16.2.2.2.2.2.2.2].length) * 16 ≤ 140737488355328) then (bif ((decide ((0 : Int) ≤ (IntKind.i64.wrap ((1 : Int) - (x9.tmod (2 : Int)))))) && (decide ((IntKind.i64.wrap ((1 : Int) - (x9.tmod (2 : Int)))) < ((((((p.2.2.2.2.2.set (x9.tmod (2 : Int)).toNat ([] : List (ByteArray))).set (x9.tmod (2 : Int)).toNat x10).set (x9.tmod (2 : Int)).toNat ([] : List (ByteArray))).set (x9.tmod (2 : Int)).toNat x14).set (IntKind.i64.wrap ((1 : Int) - (x9.tmod (2 : Int)))).toNat ([] : List (ByteArray))).length : Int)))) then (bif Nat.beq (IntKind.i64.wrap ((1 : Int) - (x9.tmod (2 : Int)))).toNat (IntKind.i64.wrap ((1 : Int) - (x9.tmod (2 : Int)))).toNat then ((((((p.2.2.2.2.2.set (x9.tmod (2 : Int)).toNat ([] : List (ByteArray))).set (x9.tmod (2 : Int)).toNat x10).set (x9.tmod (2 : Int)).toNat ([] : List (ByteArray))).set (x9.tmod (2 : Int)).toNat x14).set (IntKind.i64.wrap ((1 : Int) - (x9.tmod (2 : Int)))).toNat ([] : List (ByteArray)))[(IntKind.i64.wrap ((1 : Int) - (x9.tmod (2 : Int)))).toNat]?).bind fun x28 => rec4 (p.1, (IntKind.i64.wrap (p.2.1 + (1 : Int))), p.2.2.1, p.2.2.2.1, (p.2.2.2.2.1.set (IntKind.i64.wrap ((1 : Int) - (x9.tmod (2 : Int)))).toNat (r16.1, r16.2.1, r16.2.2.1, r16.2.2.2.1, r16.2.2.2.2.1, r16.2.2.2.2.2.1, r16.2.2.2.2.2.2.1)), ((((((p.2.2.2.2.2.set (x9.tmod (2 : Int)).toNat ([] : List (ByteArray))).set (x9.tmod (2 : Int)).toNat x10).set (x9.tmod (2 : Int)).toNat ([] : List (ByteArray))).set (x9.tmod (2 : Int)).toNat x14).set (IntKind.i64.wrap ((1 : Int) - (x9.tmod (2 : Int)))).toNat ([] : List (ByteArray))).set (IntKind.i64.wrap ((1 : Int) - (x9.tmod (2 : Int)))).toNat (x27 ++ [r16.2.2.2.2.2.2.2]))) else ((((((p.2.2.2.2.2.set (x9.tmod (2 : Int)).toNat ([] : List (ByteArray))).set (x9.tmod (2 : Int)).toNat x10).set (x9.tmod (2 : Int)).toNat ([] : List (ByteArray))).set (x9.tmod (2 : Int)).toNat x14).set (IntKind.i64.wrap ((1 : Int) - (x9.tmod (2 : Int)))).toNat ([] : List (ByteArray)))[(IntKind.i64.wrap ((1 : Int) - (x9.tmod (2 : Int)))).toNat]?).bind fun _y29 => none) else none) else none) else none) else ((((p.2.2.2.2.2.set (x9.tmod (2 : Int)).toNat ([] : List (ByteArray))).set (x9.tmod (2 : Int)).toNat x10).set (x9.tmod (2 : Int)).toNat ([] : List (ByteArray)))[(x9.tmod (2 : Int)).toNat]?).bind fun y30 => rec4 (p.1, (IntKind.i64.wrap (p.2.1 + (1 : Int))), p.2.2.1, p.2.2.2.1, (p.2.2.2.2.1.set (IntKind.i64.wrap ((1 : Int) - (x9.tmod (2 : Int)))).toNat (r16.1, r16.2.1, r16.2.2.1, r16.2.2.2.1, r16.2.2.2.2.1, r16.2.2.2.2.2.1, r16.2.2.2.2.2.2.1)), ((((p.2.2.2.2.2.set (x9.tmod (2 : Int)).toNat ([] : List (ByteArray))).set (x9.tmod (2 : Int)).toNat x10).set (x9.tmod (2 : Int)).toNat ([] : List (ByteArray))).set (x9.tmod (2 : Int)).toNat x14)))) else none) else none) else none) else none)) else none) else none) else some (p.2.2.2.2.1, true))
def impl_Greeting.l4 (k : Nat) : Nat → (Int × Int × (List (ByteArray)) × (List (Int)) × (List (Int × Int × Int × Int × Int × ByteArray × ByteArray)) × (List ((List (ByteArray))))) → Option ((List (Int × Int × Int × Int × Int × ByteArray × ByteArray)) × Bool)
  | 0 => fun _ => none
  | j + 1 => impl_Greeting.s4 k (impl_Greeting.l4 k j)
def impl_Greeting.s2 (k : Nat) (rec2 : (Int × (List (ByteArray)) × (List (Int)) × (List (Int × Int × Int × Int × Int × ByteArray × ByteArray)) × (List ((List (ByteArray))))) → Option ((List (Int × Int × Int × Int × Int × ByteArray × ByteArray)) × Bool)) (i4 : (Int × Int × (List (ByteArray)) × (List (Int)) × (List (Int × Int × Int × Int × Int × ByteArray × ByteArray)) × (List ((List (ByteArray))))) → Option ((List (Int × Int × Int × Int × Int × ByteArray × ByteArray)) × Bool)) (p : (Int × (List (ByteArray)) × (List (Int)) × (List (Int × Int × Int × Int × Int × ByteArray × ByteArray)) × (List ((List (ByteArray)))))) : Option ((List (Int × Int × Int × Int × Int × ByteArray × ByteArray)) × Bool) :=
  (bif (decide (p.1 < (2 : Int))) then (bif ((decide ((0 : Int) ≤ p.1)) && (decide (p.1 < (p.2.1.length : Int)))) then (p.2.1[p.1.toNat]?).bind fun x2 => (bif ((decide ((0 : Int) ≤ (IntKind.i64.wrap ((2 : Int) + p.1)))) && (decide ((IntKind.i64.wrap ((2 : Int) + p.1)) < (p.2.1.length : Int)))) then (p.2.1[(IntKind.i64.wrap ((2 : Int) + p.1)).toNat]?).bind fun x3 => (bif ((decide ((0 : Int) ≤ (IntKind.i64.wrap ((1 : Int) - p.1)))) && (decide ((IntKind.i64.wrap ((1 : Int) - p.1)) < (p.2.1.length : Int)))) then (p.2.1[(IntKind.i64.wrap ((1 : Int) - p.1)).toNat]?).bind fun x4 => (impl_SecretOf.f k x4).bind fun r5 => (impl_PublicOf.f k r5).bind fun r6 => (impl_GreeterNew.f k (IntKind.i64.wrap ((1 : Int) + p.1)) x2 x3 r6).bind fun r7 => (impl_Hello.f k r7.1 r7.2.1 r7.2.2.1 r7.2.2.2.1 r7.2.2.2.2.1 r7.2.2.2.2.2.1 r7.2.2.2.2.2.2.1).bind fun r8 => (bif decide ((p.2.2.2.1.length + [(r8.1, r8.2.1, r8.2.2.1, r8.2.2.2.1, r8.2.2.2.2.1, r8.2.2.2.2.2.1, r8.2.2.2.2.2.2.1)].length) * 72 ≤ 140737488355328) then (bif decide ((p.2.2.2.2 ++ [[r8.2.2.2.2.2.2.2]]).length * 24 ≤ 140737488355328) then rec2 ((IntKind.i64.wrap (p.1 + (1 : Int))), p.2.1, p.2.2.1, (p.2.2.2.1 ++ [(r8.1, r8.2.1, r8.2.2.1, r8.2.2.2.1, r8.2.2.2.2.1, r8.2.2.2.2.2.1, r8.2.2.2.2.2.2.1)]), (p.2.2.2.2 ++ [[r8.2.2.2.2.2.2.2]])) else none) else none) else none) else none) else none) else i4 ((p.2.2.1.length : Int), (0 : Int), p.2.1, p.2.2.1, p.2.2.2.1, p.2.2.2.2))
def impl_Greeting.l2 (k : Nat) : Nat → (Int × (List (ByteArray)) × (List (Int)) × (List (Int × Int × Int × Int × Int × ByteArray × ByteArray)) × (List ((List (ByteArray))))) → Option ((List (Int × Int × Int × Int × Int × ByteArray × ByteArray)) × Bool)
  | 0 => fun _ => none
  | j + 1 => impl_Greeting.s2 k (impl_Greeting.l2 k j) (impl_Greeting.l4 k k)
def impl_Greeting.s0 (_k : Nat) (rec0 : (Int × Int × (List (ByteArray)) × (List (Int))) → Option ((List (Int × Int × Int × Int × Int × ByteArray × ByteArray)) × Bool)) (i2 : (Int × (List (ByteArray)) × (List (Int)) × (List (Int × Int × Int × Int × Int × ByteArray × ByteArray)) × (List ((List (ByteArray))))) → Option ((List (Int × Int × Int × Int × Int × ByteArray × ByteArray)) × Bool)) (p : (Int × Int × (List (ByteArray)) × (List (Int)))) : Option ((List (Int × Int × Int × Int × Int × ByteArray × ByteArray)) × Bool) :=
  (bif (decide (p.2.1 < p.1)) then (bif ((decide ((0 : Int) ≤ p.2.1)) && (decide (p.2.1 < (p.2.2.2.length : Int)))) then (p.2.2.2[p.2.1.toNat]?).bind fun x1 => (bif (decide (x1 < (0 : Int))) then some (([] : List (Int × Int × Int × Int × Int × ByteArray × ByteArray)), false) else rec0 (p.1, (IntKind.i64.wrap (p.2.1 + (1 : Int))), p.2.2.1, p.2.2.2)) else none) else i2 ((0 : Int), p.2.2.1, p.2.2.2, ([] : List (Int × Int × Int × Int × Int × ByteArray × ByteArray)), ([] : List ((List (ByteArray))))))
def impl_Greeting.l0 (k : Nat) : Nat → (Int × Int × (List (ByteArray)) × (List (Int))) → Option ((List (Int × Int × Int × Int × Int × ByteArray × ByteArray)) × Bool)
  | 0 => fun _ => none
  | j + 1 => impl_Greeting.s0 k (impl_Greeting.l0 k j) (impl_Greeting.l2 k k)
def impl_Greeting.S4 (p : (Int × Int × (List (ByteArray)) × (List (Int)) × (List (Int × Int × Int × Int × Int × ByteArray × ByteArray)) × (List ((List (ByteArray)))))) : DS := ⟨tl [(8, .at (.whole 2224)), (9, .at (.whole 2225)), (78, .at (.whole 16)), (79, .at (.int .i64 p.1)), (80, .at (.int .i64 p.2.1))], lookO [(0, .row 9 .str false p.2.2.1), (16, .row 3 (.int .i64) false p.2.2.2.1), (2224, .row 32 (.two (.int .i64) (.two (.int .i64) (.two (.int .i64) (.two (.int .i64) (.two (.int .i64) (.two .str .str)))))) true p.2.2.2.2.1), (2225, .deep 24 (.sl 9 .str) p.2.2.2.2.2 none)]⟩
def impl_Greeting.S2 (p : (Int × (List (ByteArray)) × (List (Int)) × (List (Int × Int × Int × Int × Int × ByteArray × ByteArray)) × (List ((List (ByteArray)))))) : DS := ⟨tl [(0, .at (.whole 0)), (1, .at (.whole 16)), (8, .at (.whole 2224)), (9, .at (.whole 2225)), (38, .at (.int .i64 p.1))], lookO [(0, .row 9 .str false p.2.1), (16, .row 3 (.int .i64) false p.2.2.1), (2224, .row 32 (.two (.int .i64) (.two (.int .i64) (.two (.int .i64) (.two (.int .i64) (.two (.int .i64) (.two .str .str)))))) true p.2.2.2.1), (2225, .deep 24 (.sl 9 .str) p.2.2.2.2 none)]⟩
def impl_Greeting.S0 (p : (Int × Int × (List (ByteArray)) × (List (Int)))) : DS := ⟨tl [(0, .at (.whole 0)), (1, .at (.whole 16)), (27, .at (.whole 16)), (28, .at (.int .i64 p.1)), (29, .at (.int .i64 p.2.1))], lookO [(0, .row 9 .str false p.2.2.1), (16, .row 3 (.int .i64) false p.2.2.2)]⟩
noncomputable def impl_Greeting.D4 (k : Nat) (j : Nat) (p : (Int × Int × (List (ByteArray)) × (List (Int)) × (List (Int × Int × Int × Int × Int × ByteArray × ByteArray)) × (List ((List (ByteArray)))))) : Option ((List (Int × Int × Int × Int × Int × ByteArray × ByteArray)) × Bool) := loopK (normK [0, 16] (impl_Greeting.h 4)) (runK impl_Greeting.x k 0 [0, 16] impl_Greeting.h 4 (sub impl_Greeting.c [1, 1, 1, 1, 1, 1, 0, 1, 0, 0])) j (impl_Greeting.S4 p) (kBlk 4 (kSeq (runK impl_Greeting.x k 0 [0, 16] impl_Greeting.h 0 (sub impl_Greeting.c [1, 1, 1, 1, 1, 1, 1])) (fin tt impl_Greeting.ps impl_Greeting.rs impl_Greeting.vs (.two (.sl 32 (.two (.int .i64) (.two (.int .i64) (.two (.int .i64) (.two (.int .i64) (.two (.int .i64) (.two .str .str))))))) .bool))))
noncomputable def impl_Greeting.D2 (k : Nat) (j : Nat) (p : (Int × (List (ByteArray)) × (List (Int)) × (List (Int × Int × Int × Int × Int × ByteArray × ByteArray)) × (List ((List (ByteArray)))))) : Option ((List (Int × Int × Int × Int × Int × ByteArray × ByteArray)) × Bool) := loopK (normK [0, 16] (impl_Greeting.h 2)) (runK impl_Greeting.x k 0 [0, 16] impl_Greeting.h 2 (sub impl_Greeting.c [1, 1, 1, 1, 1, 0, 1, 0, 0])) j (impl_Greeting.S2 p) (kBlk 2 (kSeq (runK impl_Greeting.x k 0 [0, 16] impl_Greeting.h 0 (sub impl_Greeting.c [1, 1, 1, 1, 1, 1])) (fin tt impl_Greeting.ps impl_Greeting.rs impl_Greeting.vs (.two (.sl 32 (.two (.int .i64) (.two (.int .i64) (.two (.int .i64) (.two (.int .i64) (.two (.int .i64) (.two .str .str))))))) .bool))))
noncomputable def impl_Greeting.D0 (k : Nat) (j : Nat) (p : (Int × Int × (List (ByteArray)) × (List (Int)))) : Option ((List (Int × Int × Int × Int × Int × ByteArray × ByteArray)) × Bool) := loopK (normK [0, 16] (impl_Greeting.h 0)) (runK impl_Greeting.x k 0 [0, 16] impl_Greeting.h 0 (sub impl_Greeting.c [1, 1, 0, 1, 0, 0])) j (impl_Greeting.S0 p) (kBlk 0 (kSeq (runK impl_Greeting.x k 0 [0, 16] impl_Greeting.h 0 (sub impl_Greeting.c [1, 1, 1])) (fin tt impl_Greeting.ps impl_Greeting.rs impl_Greeting.vs (.two (.sl 32 (.two (.int .i64) (.two (.int .i64) (.two (.int .i64) (.two (.int .i64) (.two (.int .i64) (.two .str .str))))))) .bool))))
theorem impl_Greeting.D4_eq (k : Nat) : ∀ j, impl_Greeting.D4 k j = impl_Greeting.l4 k j := by
  intro j
  induction j with
  | zero => rfl
  | succ j ih =>
    show _ = impl_Greeting.s4 k (impl_Greeting.l4 k j)
    rw [← ih]
    funext p
    kernel_rfl
theorem impl_Greeting.D2_eq (k : Nat) : ∀ j, impl_Greeting.D2 k j = impl_Greeting.l2 k j := by
  intro j
  induction j with
  | zero => rfl
  | succ j ih =>
    show _ = impl_Greeting.s2 k (impl_Greeting.l2 k j) (impl_Greeting.l4 k k)
    rw [← ih, ← impl_Greeting.D4_eq k k]
    funext p
    kernel_rfl
theorem impl_Greeting.D0_eq (k : Nat) : ∀ j, impl_Greeting.D0 k j = impl_Greeting.l0 k j := by
  intro j
  induction j with
  | zero => rfl
  | succ j ih =>
    show _ = impl_Greeting.s0 k (impl_Greeting.l0 k j) (impl_Greeting.l2 k k)
    rw [← ih, ← impl_Greeting.D2_eq k k]
    funext p
    kernel_rfl
def impl_Greeting.f (k : Nat) (a0 : List (ByteArray)) (a1 : List (Int)) : Option ((List (Int × Int × Int × Int × Int × ByteArray × ByteArray)) × Bool) :=
  (bif ((a0.length : Int) != (4 : Int)) then some (([] : List (Int × Int × Int × Int × Int × ByteArray × ByteArray)), false) else (bif (decide ((a1.length : Int) > (60 : Int))) then some (([] : List (Int × Int × Int × Int × Int × ByteArray × ByteArray)), false) else impl_Greeting.l0 k k ((a1.length : Int), (0 : Int), a0, a1)))
def impl_Greeting.K : Ctr := ⟨impl_Greeting.ps, impl_Greeting.rs, false, (.two (.sl 9 .str) (.sl 3 (.int .i64))), (.two (.sl 32 (.two (.int .i64) (.two (.int .i64) (.two (.int .i64) (.two (.int .i64) (.two (.int .i64) (.two .str .str))))))) .bool), fun k x => impl_Greeting.f k x.1 x.2⟩
theorem impl_Greeting.eq (k : Nat) (x : (impl_Greeting.K.I).den) : func impl_Greeting.x impl_Greeting.h impl_Greeting.ps impl_Greeting.rs impl_Greeting.vs impl_Greeting.K.I impl_Greeting.K.O impl_Greeting.c k x = impl_Greeting.K.run k x := by
  show _ = impl_Greeting.f k x.1 x.2
  unfold impl_Greeting.f
  rw [← impl_Greeting.D0_eq k k]
  kernel_rfl
theorem impl_Greeting.ok : CtrOk Tryz.prog 7 impl_Greeting.K :=
  CtrOk.of (fn := Tryz.f7) (cd := impl_Greeting.c) (cx := impl_Greeting.x) (hs := impl_Greeting.h) (by kernel_rfl) (by kernel_rfl) (by kernel_rfl) (by kernel_rfl) tt_ok (envOk_cons impl_SecretOf.ok (envOk_cons impl_PublicOf.ok (envOk_cons impl_GreeterNew.ok (envOk_cons impl_Hello.ok (envOk_cons impl_HearGreet.ok (envOk_nil)))))) (by kernel_rfl) (by kernel_rfl) (by kernel_rfl) (by kernel_rfl) fun k x r h => (impl_Greeting.eq k x).trans h
/-! laws.eqGreeter -/
noncomputable def laws_eqGreeter.c : Code := bodyOf Tryz.f40
def laws_eqGreeter.h : Nat → Hint := look ⟨[], [], []⟩ []
def laws_eqGreeter.ps : List PK := [.agg 7, .agg 7]
def laws_eqGreeter.rs : List RK := [.one true]
def laws_eqGreeter.vs : List ResultVar := [.tmp 4]
def laws_eqGreeter.x : Cx := ⟨tt, look none []⟩
def laws_eqGreeter.f (_k : Nat) (a0_0 : Int) (a0_1 : Int) (a0_2 : Int) (a0_3 : Int) (a0_4 : Int) (a0_5 : ByteArray) (a0_6 : ByteArray) (a1_0 : Int) (a1_1 : Int) (a1_2 : Int) (a1_3 : Int) (a1_4 : Int) (a1_5 : ByteArray) (a1_6 : ByteArray) : Option (Bool) :=
  (bif (a0_0 != a1_0) then some false else (bif (a0_1 != a1_1) then some false else (bif (a0_2 != a1_2) then some false else (bif (a0_3 != a1_3) then some false else (bif (a0_4 != a1_4) then some false else (bif (!(a0_5.toList == a1_5.toList)) then some false else (bif (!(a0_6.toList == a1_6.toList)) then some false else some true)))))))
def laws_eqGreeter.K : Ctr := ⟨laws_eqGreeter.ps, laws_eqGreeter.rs, false, (.two (.int .i64) (.two (.int .i64) (.two (.int .i64) (.two (.int .i64) (.two (.int .i64) (.two .str (.two .str (.two (.int .i64) (.two (.int .i64) (.two (.int .i64) (.two (.int .i64) (.two (.int .i64) (.two .str .str))))))))))))), .bool, fun k x => laws_eqGreeter.f k x.1 x.2.1 x.2.2.1 x.2.2.2.1 x.2.2.2.2.1 x.2.2.2.2.2.1 x.2.2.2.2.2.2.1 x.2.2.2.2.2.2.2.1 x.2.2.2.2.2.2.2.2.1 x.2.2.2.2.2.2.2.2.2.1 x.2.2.2.2.2.2.2.2.2.2.1 x.2.2.2.2.2.2.2.2.2.2.2.1 x.2.2.2.2.2.2.2.2.2.2.2.2.1 x.2.2.2.2.2.2.2.2.2.2.2.2.2⟩
theorem laws_eqGreeter.eq (k : Nat) (x : (laws_eqGreeter.K.I).den) : func laws_eqGreeter.x laws_eqGreeter.h laws_eqGreeter.ps laws_eqGreeter.rs laws_eqGreeter.vs laws_eqGreeter.K.I laws_eqGreeter.K.O laws_eqGreeter.c k x = laws_eqGreeter.K.run k x := by
  show _ = laws_eqGreeter.f k x.1 x.2.1 x.2.2.1 x.2.2.2.1 x.2.2.2.2.1 x.2.2.2.2.2.1 x.2.2.2.2.2.2.1 x.2.2.2.2.2.2.2.1 x.2.2.2.2.2.2.2.2.1 x.2.2.2.2.2.2.2.2.2.1 x.2.2.2.2.2.2.2.2.2.2.1 x.2.2.2.2.2.2.2.2.2.2.2.1 x.2.2.2.2.2.2.2.2.2.2.2.2.1 x.2.2.2.2.2.2.2.2.2.2.2.2.2
  kernel_rfl
theorem laws_eqGreeter.ok : CtrOk Tryz.prog 40 laws_eqGreeter.K :=
  CtrOk.of (fn := Tryz.f40) (cd := laws_eqGreeter.c) (cx := laws_eqGreeter.x) (hs := laws_eqGreeter.h) (by kernel_rfl) (by kernel_rfl) (by kernel_rfl) (by kernel_rfl) tt_ok (envOk_nil) (by kernel_rfl) (by kernel_rfl) (by kernel_rfl) (by kernel_rfl) fun k x r h => (laws_eqGreeter.eq k x).trans h
/-! laws.eqGreeterS -/
noncomputable def laws_eqGreeterS.c : Code := bodyOf Tryz.f14
def laws_eqGreeterS.h : Nat → Hint := look ⟨[], [], []⟩ [(0, ⟨[0, 1, 5], [], []⟩)]
def laws_eqGreeterS.ps : List PK := [.one, .one]
def laws_eqGreeterS.rs : List RK := [.one true]
def laws_eqGreeterS.vs : List ResultVar := [.tmp 4]
def laws_eqGreeterS.x : Cx := ⟨tt, look none [(40, some laws_eqGreeter.K)]⟩
def laws_eqGreeterS.s0 (k : Nat) (rec0 : (Int × (List (Int × Int × Int × Int × Int × ByteArray × ByteArray)) × (List (Int × Int × Int × Int × Int × ByteArray × ByteArray))) → Option (Bool)) (p : (Int × (List (Int × Int × Int × Int × Int × ByteArray × ByteArray)) × (List (Int × Int × Int × Int × Int × ByteArray × ByteArray)))) : Option (Bool) :=
  (bif (decide (p.1 < (p.2.1.length : Int))) then (bif ((decide ((0 : Int) ≤ p.1)) && (decide (p.1 < (p.2.1.length : Int)))) then (p.2.1[p.1.toNat]?).bind fun x1 => (bif ((decide ((0 : Int) ≤ p.1)) && (decide (p.1 < (p.2.2.length : Int)))) then (p.2.2[p.1.toNat]?).bind fun x2 => (laws_eqGreeter.f k x1.1 x1.2.1 x1.2.2.1 x1.2.2.2.1 x1.2.2.2.2.1 x1.2.2.2.2.2.1 x1.2.2.2.2.2.2 x2.1 x2.2.1 x2.2.2.1 x2.2.2.2.1 x2.2.2.2.2.1 x2.2.2.2.2.2.1 x2.2.2.2.2.2.2).bind fun r3 => (bif (!r3) then some false else rec0 ((IntKind.i64.wrap (p.1 + (1 : Int))), p.2.1, p.2.2)) else none) else none) else some true)
def laws_eqGreeterS.l0 (k : Nat) : Nat → (Int × (List (Int × Int × Int × Int × Int × ByteArray × ByteArray)) × (List (Int × Int × Int × Int × Int × ByteArray × ByteArray))) → Option (Bool)
  | 0 => fun _ => none
  | j + 1 => laws_eqGreeterS.s0 k (laws_eqGreeterS.l0 k j)
def laws_eqGreeterS.S0 (p : (Int × (List (Int × Int × Int × Int × Int × ByteArray × ByteArray)) × (List (Int × Int × Int × Int × Int × ByteArray × ByteArray)))) : DS := ⟨tl [(0, .at (.whole 0)), (1, .at (.whole 16)), (5, .at (.int .i64 p.1))], lookO [(0, .row 32 (.two (.int .i64) (.two (.int .i64) (.two (.int .i64) (.two (.int .i64) (.two (.int .i64) (.two .str .str)))))) false p.2.1), (16, .row 32 (.two (.int .i64) (.two (.int .i64) (.two (.int .i64) (.two (.int .i64) (.two (.int .i64) (.two .str .str)))))) false p.2.2)]⟩
noncomputable def laws_eqGreeterS.D0 (k : Nat) (j : Nat) (p : (Int × (List (Int × Int × Int × Int × Int × ByteArray × ByteArray)) × (List (Int × Int × Int × Int × Int × ByteArray × ByteArray)))) : Option (Bool) := loopK (normK [0, 16] (laws_eqGreeterS.h 0)) (runK laws_eqGreeterS.x k 0 [0, 16] laws_eqGreeterS.h 0 (sub laws_eqGreeterS.c [1, 1, 0, 1, 0, 0])) j (laws_eqGreeterS.S0 p) (kBlk 0 (kSeq (runK laws_eqGreeterS.x k 0 [0, 16] laws_eqGreeterS.h 0 (sub laws_eqGreeterS.c [1, 1, 1])) (fin tt laws_eqGreeterS.ps laws_eqGreeterS.rs laws_eqGreeterS.vs .bool)))
theorem laws_eqGreeterS.D0_eq (k : Nat) : ∀ j, laws_eqGreeterS.D0 k j = laws_eqGreeterS.l0 k j := by
  intro j
  induction j with
  | zero => rfl
  | succ j ih =>
    show _ = laws_eqGreeterS.s0 k (laws_eqGreeterS.l0 k j)
    rw [← ih]
    funext p
    kernel_rfl
def laws_eqGreeterS.f (k : Nat) (a0 : List (Int × Int × Int × Int × Int × ByteArray × ByteArray)) (a1 : List (Int × Int × Int × Int × Int × ByteArray × ByteArray)) : Option (Bool) :=
  (bif ((a0.length : Int) != (a1.length : Int)) then some false else laws_eqGreeterS.l0 k k ((0 : Int), a0, a1))
def laws_eqGreeterS.K : Ctr := ⟨laws_eqGreeterS.ps, laws_eqGreeterS.rs, false, (.two (.sl 32 (.two (.int .i64) (.two (.int .i64) (.two (.int .i64) (.two (.int .i64) (.two (.int .i64) (.two .str .str))))))) (.sl 32 (.two (.int .i64) (.two (.int .i64) (.two (.int .i64) (.two (.int .i64) (.two (.int .i64) (.two .str .str)))))))), .bool, fun k x => laws_eqGreeterS.f k x.1 x.2⟩
theorem laws_eqGreeterS.eq (k : Nat) (x : (laws_eqGreeterS.K.I).den) : func laws_eqGreeterS.x laws_eqGreeterS.h laws_eqGreeterS.ps laws_eqGreeterS.rs laws_eqGreeterS.vs laws_eqGreeterS.K.I laws_eqGreeterS.K.O laws_eqGreeterS.c k x = laws_eqGreeterS.K.run k x := by
  show _ = laws_eqGreeterS.f k x.1 x.2
  unfold laws_eqGreeterS.f
  rw [← laws_eqGreeterS.D0_eq k k]
  kernel_rfl
theorem laws_eqGreeterS.ok : CtrOk Tryz.prog 14 laws_eqGreeterS.K :=
  CtrOk.of (fn := Tryz.f14) (cd := laws_eqGreeterS.c) (cx := laws_eqGreeterS.x) (hs := laws_eqGreeterS.h) (by kernel_rfl) (by kernel_rfl) (by kernel_rfl) (by kernel_rfl) tt_ok (envOk_cons laws_eqGreeter.ok (envOk_nil)) (by kernel_rfl) (by kernel_rfl) (by kernel_rfl) (by kernel_rfl) fun k x r h => (laws_eqGreeterS.eq k x).trans h
/-! laws.eqStringS -/
noncomputable def laws_eqStringS.c : Code := bodyOf Tryz.f15
def laws_eqStringS.h : Nat → Hint := look ⟨[], [], []⟩ [(0, ⟨[0, 1, 5], [], []⟩)]
def laws_eqStringS.ps : List PK := [.one, .one]
def laws_eqStringS.rs : List RK := [.one true]
def laws_eqStringS.vs : List ResultVar := [.tmp 4]
def laws_eqStringS.x : Cx := ⟨tt, look none []⟩
def laws_eqStringS.s0 (_k : Nat) (rec0 : (Int × (List (ByteArray)) × (List (ByteArray))) → Option (Bool)) (p : (Int × (List (ByteArray)) × (List (ByteArray)))) : Option (Bool) :=
  (bif (decide (p.1 < (p.2.1.length : Int))) then (bif ((decide ((0 : Int) ≤ p.1)) && (decide (p.1 < (p.2.1.length : Int)))) then (p.2.1[p.1.toNat]?).bind fun x1 => (bif ((decide ((0 : Int) ≤ p.1)) && (decide (p.1 < (p.2.2.length : Int)))) then (p.2.2[p.1.toNat]?).bind fun x2 => (bif (!(x1.toList == x2.toList)) then some false else rec0 ((IntKind.i64.wrap (p.1 + (1 : Int))), p.2.1, p.2.2)) else none) else none) else some true)
def laws_eqStringS.l0 (k : Nat) : Nat → (Int × (List (ByteArray)) × (List (ByteArray))) → Option (Bool)
  | 0 => fun _ => none
  | j + 1 => laws_eqStringS.s0 k (laws_eqStringS.l0 k j)
def laws_eqStringS.S0 (p : (Int × (List (ByteArray)) × (List (ByteArray)))) : DS := ⟨tl [(0, .at (.whole 0)), (1, .at (.whole 16)), (5, .at (.int .i64 p.1))], lookO [(0, .row 9 .str false p.2.1), (16, .row 9 .str false p.2.2)]⟩
noncomputable def laws_eqStringS.D0 (k : Nat) (j : Nat) (p : (Int × (List (ByteArray)) × (List (ByteArray)))) : Option (Bool) := loopK (normK [0, 16] (laws_eqStringS.h 0)) (runK laws_eqStringS.x k 0 [0, 16] laws_eqStringS.h 0 (sub laws_eqStringS.c [1, 1, 0, 1, 0, 0])) j (laws_eqStringS.S0 p) (kBlk 0 (kSeq (runK laws_eqStringS.x k 0 [0, 16] laws_eqStringS.h 0 (sub laws_eqStringS.c [1, 1, 1])) (fin tt laws_eqStringS.ps laws_eqStringS.rs laws_eqStringS.vs .bool)))
theorem laws_eqStringS.D0_eq (k : Nat) : ∀ j, laws_eqStringS.D0 k j = laws_eqStringS.l0 k j := by
  intro j
  induction j with
  | zero => rfl
  | succ j ih =>
    show _ = laws_eqStringS.s0 k (laws_eqStringS.l0 k j)
    rw [← ih]
    funext p
    kernel_rfl
def laws_eqStringS.f (k : Nat) (a0 : List (ByteArray)) (a1 : List (ByteArray)) : Option (Bool) :=
  (bif ((a0.length : Int) != (a1.length : Int)) then some false else laws_eqStringS.l0 k k ((0 : Int), a0, a1))
def laws_eqStringS.K : Ctr := ⟨laws_eqStringS.ps, laws_eqStringS.rs, false, (.two (.sl 9 .str) (.sl 9 .str)), .bool, fun k x => laws_eqStringS.f k x.1 x.2⟩
theorem laws_eqStringS.eq (k : Nat) (x : (laws_eqStringS.K.I).den) : func laws_eqStringS.x laws_eqStringS.h laws_eqStringS.ps laws_eqStringS.rs laws_eqStringS.vs laws_eqStringS.K.I laws_eqStringS.K.O laws_eqStringS.c k x = laws_eqStringS.K.run k x := by
  show _ = laws_eqStringS.f k x.1 x.2
  unfold laws_eqStringS.f
  rw [← laws_eqStringS.D0_eq k k]
  kernel_rfl
theorem laws_eqStringS.ok : CtrOk Tryz.prog 15 laws_eqStringS.K :=
  CtrOk.of (fn := Tryz.f15) (cd := laws_eqStringS.c) (cx := laws_eqStringS.x) (hs := laws_eqStringS.h) (by kernel_rfl) (by kernel_rfl) (by kernel_rfl) (by kernel_rfl) tt_ok (envOk_nil) (by kernel_rfl) (by kernel_rfl) (by kernel_rfl) (by kernel_rfl) fun k x r h => (laws_eqStringS.eq k x).trans h
/-! laws.eqIntS -/
noncomputable def laws_eqIntS.c : Code := bodyOf Tryz.f16
def laws_eqIntS.h : Nat → Hint := look ⟨[], [], []⟩ [(0, ⟨[0, 1, 5], [], []⟩)]
def laws_eqIntS.ps : List PK := [.one, .one]
def laws_eqIntS.rs : List RK := [.one true]
def laws_eqIntS.vs : List ResultVar := [.tmp 4]
def laws_eqIntS.x : Cx := ⟨tt, look none []⟩
def laws_eqIntS.s0 (_k : Nat) (rec0 : (Int × (List (Int)) × (List (Int))) → Option (Bool)) (p : (Int × (List (Int)) × (List (Int)))) : Option (Bool) :=
  (bif (decide (p.1 < (p.2.1.length : Int))) then (bif ((decide ((0 : Int) ≤ p.1)) && (decide (p.1 < (p.2.1.length : Int)))) then (p.2.1[p.1.toNat]?).bind fun x1 => (bif ((decide ((0 : Int) ≤ p.1)) && (decide (p.1 < (p.2.2.length : Int)))) then (p.2.2[p.1.toNat]?).bind fun x2 => (bif (x1 != x2) then some false else rec0 ((IntKind.i64.wrap (p.1 + (1 : Int))), p.2.1, p.2.2)) else none) else none) else some true)
def laws_eqIntS.l0 (k : Nat) : Nat → (Int × (List (Int)) × (List (Int))) → Option (Bool)
  | 0 => fun _ => none
  | j + 1 => laws_eqIntS.s0 k (laws_eqIntS.l0 k j)
def laws_eqIntS.S0 (p : (Int × (List (Int)) × (List (Int)))) : DS := ⟨tl [(0, .at (.whole 0)), (1, .at (.whole 16)), (5, .at (.int .i64 p.1))], lookO [(0, .row 3 (.int .i64) false p.2.1), (16, .row 3 (.int .i64) false p.2.2)]⟩
noncomputable def laws_eqIntS.D0 (k : Nat) (j : Nat) (p : (Int × (List (Int)) × (List (Int)))) : Option (Bool) := loopK (normK [0, 16] (laws_eqIntS.h 0)) (runK laws_eqIntS.x k 0 [0, 16] laws_eqIntS.h 0 (sub laws_eqIntS.c [1, 1, 0, 1, 0, 0])) j (laws_eqIntS.S0 p) (kBlk 0 (kSeq (runK laws_eqIntS.x k 0 [0, 16] laws_eqIntS.h 0 (sub laws_eqIntS.c [1, 1, 1])) (fin tt laws_eqIntS.ps laws_eqIntS.rs laws_eqIntS.vs .bool)))
theorem laws_eqIntS.D0_eq (k : Nat) : ∀ j, laws_eqIntS.D0 k j = laws_eqIntS.l0 k j := by
  intro j
  induction j with
  | zero => rfl
  | succ j ih =>
    show _ = laws_eqIntS.s0 k (laws_eqIntS.l0 k j)
    rw [← ih]
    funext p
    kernel_rfl
def laws_eqIntS.f (k : Nat) (a0 : List (Int)) (a1 : List (Int)) : Option (Bool) :=
  (bif ((a0.length : Int) != (a1.length : Int)) then some false else laws_eqIntS.l0 k k ((0 : Int), a0, a1))
def laws_eqIntS.K : Ctr := ⟨laws_eqIntS.ps, laws_eqIntS.rs, false, (.two (.sl 3 (.int .i64)) (.sl 3 (.int .i64))), .bool, fun k x => laws_eqIntS.f k x.1 x.2⟩
theorem laws_eqIntS.eq (k : Nat) (x : (laws_eqIntS.K.I).den) : func laws_eqIntS.x laws_eqIntS.h laws_eqIntS.ps laws_eqIntS.rs laws_eqIntS.vs laws_eqIntS.K.I laws_eqIntS.K.O laws_eqIntS.c k x = laws_eqIntS.K.run k x := by
  show _ = laws_eqIntS.f k x.1 x.2
  unfold laws_eqIntS.f
  rw [← laws_eqIntS.D0_eq k k]
  kernel_rfl
theorem laws_eqIntS.ok : CtrOk Tryz.prog 16 laws_eqIntS.K :=
  CtrOk.of (fn := Tryz.f16) (cd := laws_eqIntS.c) (cx := laws_eqIntS.x) (hs := laws_eqIntS.h) (by kernel_rfl) (by kernel_rfl) (by kernel_rfl) (by kernel_rfl) tt_ok (envOk_nil) (by kernel_rfl) (by kernel_rfl) (by kernel_rfl) (by kernel_rfl) fun k x r h => (laws_eqIntS.eq k x).trans h
/-! laws.markText -/
noncomputable def laws_markText.c : Code := bodyOf Tryz.f41
def laws_markText.h : Nat → Hint := look ⟨[], [], []⟩ [(0, ⟨[0, 3], [], []⟩)]
def laws_markText.ps : List PK := [.one]
def laws_markText.rs : List RK := [.one true]
def laws_markText.vs : List ResultVar := [.tmp 2]
def laws_markText.x : Cx := ⟨tt, look none []⟩
def laws_markText.s0 (_k : Nat) (rec0 : (Int × ByteArray) → Option (ByteArray)) (p : (Int × ByteArray)) : Option (ByteArray) :=
  (bif (decide (p.1 > (0 : Int))) then (bif decide ((strOfNums [(IntKind.u8.wrap (IntKind.i64.wrap ((48 : Int) + (p.1.tmod (10 : Int)))))]).size + p.2.size ≤ 140737488351232) then rec0 ((IntKind.i64.wrap (p.1.tdiv (10 : Int))), ((strOfNums [(IntKind.u8.wrap (IntKind.i64.wrap ((48 : Int) + (p.1.tmod (10 : Int)))))]) ++ p.2)) else none) else (bif decide ((⟨#[109]⟩ : ByteArray).size + p.2.size ≤ 140737488351232) then some ((⟨#[109]⟩ : ByteArray) ++ p.2) else none))
def laws_markText.l0 (k : Nat) : Nat → (Int × ByteArray) → Option (ByteArray)
  | 0 => fun _ => none
  | j + 1 => laws_markText.s0 k (laws_markText.l0 k j)
def laws_markText.S0 (p : (Int × ByteArray)) : DS := ⟨tl [(0, .at (.int .i64 p.1)), (3, .at (.str p.2))], lookO []⟩
noncomputable def laws_markText.D0 (k : Nat) (j : Nat) (p : (Int × ByteArray)) : Option (ByteArray) := loopK (normK [] (laws_markText.h 0)) (runK laws_markText.x k 0 [] laws_markText.h 0 (sub laws_markText.c [1, 1, 1, 0, 0, 0])) j (laws_markText.S0 p) (kBlk 0 (kSeq (runK laws_markText.x k 0 [] laws_markText.h 0 (sub laws_markText.c [1, 1, 1, 1])) (fin tt laws_markText.ps laws_markText.rs laws_markText.vs .str)))
theorem laws_markText.D0_eq (k : Nat) : ∀ j, laws_markText.D0 k j = laws_markText.l0 k j := by
  intro j
  induction j with
  | zero => rfl
  | succ j ih =>
    show _ = laws_markText.s0 k (laws_markText.l0 k j)
    rw [← ih]
    funext p
    kernel_rfl
def laws_markText.f (k : Nat) (a0 : Int) : Option (ByteArray) :=
  (bif (decide (a0 ≤ (0 : Int))) then some (⟨#[109, 48]⟩ : ByteArray) else laws_markText.l0 k k (a0, ByteArray.empty))
def laws_markText.K : Ctr := ⟨laws_markText.ps, laws_markText.rs, false, (.int .i64), .str, fun k x => laws_markText.f k x⟩
theorem laws_markText.eq (k : Nat) (x : (laws_markText.K.I).den) : func laws_markText.x laws_markText.h laws_markText.ps laws_markText.rs laws_markText.vs laws_markText.K.I laws_markText.K.O laws_markText.c k x = laws_markText.K.run k x := by
  show _ = laws_markText.f k x
  unfold laws_markText.f
  rw [← laws_markText.D0_eq k k]
  kernel_rfl
theorem laws_markText.ok : CtrOk Tryz.prog 41 laws_markText.K :=
  CtrOk.of (fn := Tryz.f41) (cd := laws_markText.c) (cx := laws_markText.x) (hs := laws_markText.h) (by kernel_rfl) (by kernel_rfl) (by kernel_rfl) (by kernel_rfl) tt_ok (envOk_nil) (by kernel_rfl) (by kernel_rfl) (by kernel_rfl) (by kernel_rfl) fun k x r h => (laws_markText.eq k x).trans h
end Go.Proofs.YtpinehfjimphmaaGreat.DI
