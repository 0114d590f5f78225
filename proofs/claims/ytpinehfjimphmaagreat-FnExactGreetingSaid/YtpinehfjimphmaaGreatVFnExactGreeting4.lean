/- FnExactGreeting: functions as plain Lean, in the machine of values. -/
import Derived.Test.YtpinehfjimphmaaGreatVFnExactGreeting3
namespace Go.Proofs.YtpinehfjimphmaaGreat.DI
open Go
set_option linter.unusedVariables false
/-! spec.l16Do -/
noncomputable def spec_l16Do.c : Code := bodyOf Tryz.f34
def spec_l16Do.h : Nat → Hint := look ⟨[], [], []⟩ []
def spec_l16Do.ps : List PK := [.boxg 59 3, .one, .one]
def spec_l16Do.rs : List RK := []
def spec_l16Do.vs : List ResultVar := []
def spec_l16Do.x : Cx := ⟨tt, look none [(59, some spec_HearGreet.K)]⟩
def spec_l16Do.f (k : Nat) (a0_0 : List (Int × Int × Int × Int × Int × ByteArray × ByteArray)) (a0_1 : List ((List (ByteArray)))) (a0_2 : List (Int)) (a1 : Int) (a2 : Bool) : Option ((List (Int × Int × Int × Int × Int × ByteArray × ByteArray)) × (List ((List (ByteArray)))) × (List (Int))) :=
  (bif ((decide ((0 : Int) ≤ a1)) && (decide (a1 < (a0_2.length : Int)))) then (a0_2[a1.toNat]?).bind fun x1 => (bif ((decide ((0 : Int) ≤ a1)) && (decide (a1 < (a0_1.length : Int)))) then (a0_1[a1.toNat]?).bind fun x2 => (bif (decide (x1 ≥ (x2.length : Int))) then ((a0_1.set a1.toNat ([] : List (ByteArray)))[a1.toNat]?).bind fun y3 => some (a0_0, ((a0_1.set a1.toNat ([] : List (ByteArray))).set a1.toNat x2), a0_2) else (bif ((decide ((0 : Int) ≤ a1)) && (decide (a1 < ((a0_1.set a1.toNat ([] : List (ByteArray))).length : Int)))) then ((a0_1.set a1.toNat ([] : List (ByteArray)))[a1.toNat]?).bind fun y4 => (((a0_1.set a1.toNat ([] : List (ByteArray))).set a1.toNat x2)[a1.toNat]?).bind fun x5 => (bif ((decide ((0 : Int) ≤ a1)) && (decide (a1 < (a0_2.length : Int)))) then (a0_2[a1.toNat]?).bind fun x6 => (bif ((decide ((0 : Int) ≤ x6)) && (decide (x6 < (x5.length : Int)))) then (x5[x6.toNat]?).bind fun x7 => (bif (!a2) then (bif ((decide ((0 : Int) ≤ a1)) && (decide (a1 < (a0_2.length : Int)))) then (a0_2[a1.toNat]?).bind fun x8 => (bif ((decide ((0 : Int) ≤ a1)) && (decide (a1 < (a0_2.length : Int)))) then (a0_2[a1.toNat]?).bind fun x9 => (bif ((decide ((0 : Int) ≤ (IntKind.i64.wrap ((1 : Int) - a1)))) && (decide ((IntKind.i64.wrap ((1 : Int) - a1)) < (a0_0.length : Int)))) then (a0_0[(IntKind.i64.wrap ((1 : Int) - a1)).toNat]?).bind fun x10 => (spec_HearGreet.f k x10.1 x10.2.1 x10.2.2.1 x10.2.2.2.1 x10.2.2.2.2.1 x10.2.2.2.2.2.1 x10.2.2.2.2.2.2 x7).bind fun r11 => (bif ((decide ((0 : Int) ≤ (IntKind.i64.wrap ((1 : Int) - a1)))) && (decide ((IntKind.i64.wrap ((1 : Int) - a1)) < (a0_0.length : Int)))) then (a0_0[(IntKind.i64.wrap ((1 : Int) - a1)).toNat]?).bind fun x12 => (bif (!(r11.2.2.2.2.2.2.2.toList == ByteArray.empty.toList)) then (bif ((decide ((0 : Int) ≤ (IntKind.i64.wrap ((1 : Int) - a1)))) && (decide ((IntKind.i64.wrap ((1 : Int) - a1)) < ((((a0_1.set a1.toNat ([] : List (ByteArray))).set a1.toNat x2).set a1.toNat ([] : List (ByteArray))).length : Int)))) then ((((a0_1.set a1.toNat ([] : List (ByteArray))).set a1.toNat x2).set a1.toNat ([] : List (ByteArray)))[a1.toNat]?).bind fun y13 => (((((a0_1.set a1.toNat ([] : List (ByteArray))).set a1.toNat x2).set a1.toNat ([] : List (ByteArray))).set a1.toNat x5)[(IntKind.i64.wrap ((1 : Int) - a1)).toNat]?).bind fun x14 => (bif decide ((x14.length + [r11.2.2.2.2.2.2.2].length) * 16 ≤ 140737488355328) then (bif ((decide ((0 : Int) ≤ (IntKind.i64.wrap ((1 : Int) - a1)))) && (decide ((IntKind.i64.wrap ((1 : Int) - a1)) < ((((((a0_1.set a1.toNat ([] : List (ByteArray))).set a1.toNat x2).set a1.toNat ([] : List (ByteArray))).set a1.toNat x5).set (IntKind.i64.wrap ((1 : Int) - a1)).toNat ([] : List (ByteArray))).length : Int)))) then (bif Nat.beq (IntKind.i64.wrap ((1 : Int) - a1)).toNat (IntKind.i64.wrap ((1 : Int) - a1)).toNat then ((((((a0_1.set a1.toNat ([] : List (ByteArray))).set a1.toNat x2).set a1.toNat ([] : List (ByteArray))).set a1.toNat x5).set (IntKind.i64.wrap ((1 : Int) - a1)).toNat ([] : List (ByteArray)))[(IntKind.i64.wrap ((1 : Int) - a1)).toNat]?).bind fun x15 => some ((a0_0.set (IntKind.i64.wrap ((1 : Int) - a1)).toNat (r11.1, r11.2.1, r11.2.2.1, r11.2.2.2.1, r11.2.2.2.2.1, r11.2.2.2.2.2.1, r11.2.2.2.2.2.2.1)), ((((((a0_1.set a1.toNat ([] : List (ByteArray))).set a1.toNat x2).set a1.toNat ([] : List (ByteArray))).set a1.toNat x5).set (IntKind.i64.wrap ((1 : Int) - a1)).toNat ([] : List (ByteArray))).set (IntKind.i64.wrap ((1 : Int) - a1)).toNat (x14 ++ [r11.2.2.2.2.2.2.2])), (a0_2.set a1.toNat (IntKind.i64.wrap (x8 + (1 : Int))))) else ((((((a0_1.set a1.toNat ([] : List (ByteArray))).set a1.toNat x2).set a1.toNat ([] : List (ByteArray))).set a1.toNat x5).set (IntKind.i64.wrap ((1 : Int) - a1)).toNat ([] : List (ByteArray)))[(IntKind.i64.wrap ((1 : Int) - a1)).toNat]?).bind fun _y16 => none) else none) else none) else none) else ((((a0_1.set a1.toNat ([] : List (ByteArray))).set a1.toNat x2).set a1.toNat ([] : List (ByteArray)))[a1.toNat]?).bind fun y17 => some ((a0_0.set (IntKind.i64.wrap ((1 : Int) - a1)).toNat (r11.1, r11.2.1, r11.2.2.1, r11.2.2.2.1, r11.2.2.2.2.1, r11.2.2.2.2.2.1, r11.2.2.2.2.2.2.1)), ((((a0_1.set a1.toNat ([] : List (ByteArray))).set a1.toNat x2).set a1.toNat ([] : List (ByteArray))).set a1.toNat x5), (a0_2.set a1.toNat (IntKind.i64.wrap (x8 + (1 : Int)))))) else none) else none) else none) else none) else (bif ((decide ((0 : Int) ≤ (IntKind.i64.wrap ((1 : Int) - a1)))) && (decide ((IntKind.i64.wrap ((1 : Int) - a1)) < (a0_0.length : Int)))) then (a0_0[(IntKind.i64.wrap ((1 : Int) - a1)).toNat]?).bind fun x18 => (spec_HearGreet.f k x18.1 x18.2.1 x18.2.2.1 x18.2.2.2.1 x18.2.2.2.2.1 x18.2.2.2.2.2.1 x18.2.2.2.2.2.2 x7).bind fun r19 => (bif ((decide ((0 : Int) ≤ (IntKind.i64.wrap ((1 : Int) - a1)))) && (decide ((IntKind.i64.wrap ((1 : Int) - a1)) < (a0_0.length : Int)))) then (a0_0[(IntKind.i64.wrap ((1 : Int) - a1)).toNat]?).bind fun x20 => (bif (!(r19.2.2.2.2.2.2.2.toList == ByteArray.empty.toList)) then (bif ((decide ((0 : Int) ≤ (IntKind.i64.wrap ((1 : Int) - a1)))) && (decide ((IntKind.i64.wrap ((1 : Int) - a1)) < ((((a0_1.set a1.toNat ([] : List (ByteArray))).set a1.toNat x2).set a1.toNat ([] : List (ByteArray))).length : Int)))) then ((((a0_1.set a1.toNat ([] : List (ByteArray))).set a1.toNat x2).set a1.toNat ([] : List (ByteArray)))[a1.toNat]?).bind fun y21 => (((((a0_1.set a1.toNat ([] : List (ByteArray))).set a1.toNat x2).set a1.toNat ([] : List (ByteArray))).set a1.toNat x5)[(IntKind.i64.wrap ((1 : Int) - a1)).toNat]?).bind fun x22 => (bif decide ((x22.length + [r19.2.2.2.2.2.2.2].length) * 16 ≤ 140737488355328) then (bif ((decide ((0 : Int) ≤ (IntKind.i64.wrap ((1 : Int) - a1)))) && (decide ((IntKind.i64.wrap ((1 : Int) - a1)) < ((((((a0_1.set a1.toNat ([] : List (ByteArray))).set a1.toNat x2).set a1.toNat ([] : List (ByteArray))).set a1.toNat x5).set (IntKind.i64.wrap ((1 : Int) - a1)).toNat ([] : List (ByteArray))).length : Int)))) then (bif Nat.beq (IntKind.i64.wrap ((1 : Int) - a1)).toNat (IntKind.i64.wrap ((1 : Int) - a1)).toNat then ((((((a0_1.set a1.toNat ([] : List (ByteArray))).set a1.toNat x2).set a1.toNat ([] : List (ByteArray))).set a1.toNat x5).set (IntKind.i64.wrap ((1 : Int) - a1)).toNat ([] : List (ByteArray)))[(IntKind.i64.wrap ((1 : Int) - a1)).toNat]?).bind fun x23 => some ((a0_0.set (IntKind.i64.wrap ((1 : Int) - a1)).toNat (r19.1, r19.2.1, r19.2.2.1, r19.2.2.2.1, r19.2.2.2.2.1, r19.2.2.2.2.2.1, r19.2.2.2.2.2.2.1)), ((((((a0_1.set a1.toNat ([] : List (ByteArray))).set a1.toNat x2).set a1.toNat ([] : List (ByteArray))).set a1.toNat x5).set (IntKind.i64.wrap ((1 : Int) - a1)).toNat ([] : List (ByteArray))).set (IntKind.i64.wrap ((1 : Int) - a1)).toNat (x22 ++ [r19.2.2.2.2.2.2.2])), a0_2) else ((((((a0_1.set a1.toNat ([] : List (ByteArray))).set a1.toNat x2).set a1.toNat ([] : List (ByteArray))).set a1.toNat x5).set (IntKind.i64.wrap ((1 : Int) - a1)).toNat ([] : List (ByteArray)))[(IntKind.i64.wrap ((1 : Int) - a1)).toNat]?).bind fun _y24 => none) else none) else none) else none) else ((((a0_1.set a1.toNat ([] : List (ByteArray))).set a1.toNat x2).set a1.toNat ([] : List (ByteArray)))[a1.toNat]?).bind fun y25 => some ((a0_0.set (IntKind.i64.wrap ((1 : Int) - a1)).toNat (r19.1, r19.2.1, r19.2.2.1, r19.2.2.2.1, r19.2.2.2.2.1, r19.2.2.2.2.2.1, r19.2.2.2.2.2.2.1)), ((((a0_1.set a1.toNat ([] : List (ByteArray))).set a1.toNat x2).set a1.toNat ([] : List (ByteArray))).set a1.toNat x5), a0_2)) else none) else none)) else none) else none) else none)) else none) else none)
def spec_l16Do.K : Ctr := ⟨spec_l16Do.ps, spec_l16Do.rs, false, (.two (.sl 32 (.two (.int .i64) (.two (.int .i64) (.two (.int .i64) (.two (.int .i64) (.two (.int .i64) (.two .str .str))))))) (.two (.sl 24 (.sl 9 .str)) (.two (.sl 3 (.int .i64)) (.two (.int .i64) .bool)))), (.two (.sl 32 (.two (.int .i64) (.two (.int .i64) (.two (.int .i64) (.two (.int .i64) (.two (.int .i64) (.two .str .str))))))) (.two (.sl 24 (.sl 9 .str)) (.sl 3 (.int .i64)))), fun k x => spec_l16Do.f k x.1 x.2.1 x.2.2.1 x.2.2.2.1 x.2.2.2.2⟩
theorem spec_l16Do.eq (k : Nat) (x : (spec_l16Do.K.I).den) : func spec_l16Do.x spec_l16Do.h spec_l16Do.ps spec_l16Do.rs spec_l16Do.vs spec_l16Do.K.I spec_l16Do.K.O spec_l16Do.c k x = spec_l16Do.K.run k x := by
  show _ = spec_l16Do.f k x.1 x.2.1 x.2.2.1 x.2.2.2.1 x.2.2.2.2
  kernel_rfl
theorem spec_l16Do.ok : CtrOk Tryz.prog 34 spec_l16Do.K :=
  CtrOk.of (fn := Tryz.f34) (cd := spec_l16Do.c) (cx := spec_l16Do.x) (hs := spec_l16Do.h) (by kernel_rfl) (by kernel_rfl) (by kernel_rfl) (by kernel_rfl) tt_ok (envOk_cons spec_HearGreet.ok (envOk_nil)) (by kernel_rfl) (by kernel_rfl) (by kernel_rfl) (by kernel_rfl) fun k x r h => (spec_l16Do.eq k x).trans h
/-! spec.Greeting -/
noncomputable def spec_Greeting.c : Code := bodyOf Tryz.f8
def spec_Greeting.h : Nat → Hint := look ⟨[], [], []⟩ [(0, ⟨[0, 1, 6, 7], [], []⟩), (2, ⟨[1, 16, 17], [256], [(.b 256 0, 1808, 32, (.two (.int .i64) (.two (.int .i64) (.two (.int .i64) (.two (.int .i64) (.two (.int .i64) (.two .str .str))))))), (.b 256 1, 1809, 24, (.sl 9 .str)), (.b 256 2, 1810, 3, (.int .i64))]⟩)]
def spec_Greeting.ps : List PK := [.one, .one]
def spec_Greeting.rs : List RK := [.one true, .one true]
def spec_Greeting.vs : List ResultVar := [.tmp 4, .tmp 5]
def spec_Greeting.x : Cx := ⟨tt, look none [(32, some spec_SecretOf.K), (31, some spec_PublicOf.K), (30, some spec_GreeterNew.K), (33, some spec_Hello.K), (34, some spec_l16Do.K)]⟩
def spec_Greeting.s2 (k : Nat) (rec2 : (Int × (List (ByteArray)) × (List (Int)) × (List (Int × Int × Int × Int × Int × ByteArray × ByteArray)) × (List ((List (ByteArray)))) × (List (Int))) → Option ((List (Int × Int × Int × Int × Int × ByteArray × ByteArray)) × Bool)) (p : (Int × (List (ByteArray)) × (List (Int)) × (List (Int × Int × Int × Int × Int × ByteArray × ByteArray)) × (List ((List (ByteArray)))) × (List (Int)))) : Option ((List (Int × Int × Int × Int × Int × ByteArray × ByteArray)) × Bool) :=
  (bif (decide (p.1 < (p.2.2.1.length : Int))) then (bif ((decide ((0 : Int) ≤ p.1)) && (decide (p.1 < (p.2.2.1.length : Int)))) then (p.2.2.1[p.1.toNat]?).bind fun x16 => (bif ((decide ((0 : Int) ≤ p.1)) && (decide (p.1 < (p.2.2.1.length : Int)))) then (p.2.2.1[p.1.toNat]?).bind fun x17 => (spec_l16Do.f k p.2.2.2.1 p.2.2.2.2.1 p.2.2.2.2.2 (x16.tmod (2 : Int)) (decide ((x17.tmod (4 : Int)) > (1 : Int)))).bind fun r18 => rec2 ((IntKind.i64.wrap (p.1 + (1 : Int))), p.2.1, p.2.2.1, r18.1, r18.2.1, r18.2.2) else none) else none) else some (p.2.2.2.1, true))
def spec_Greeting.l2 (k : Nat) : Nat → (Int × (List (ByteArray)) × (List (Int)) × (List (Int × Int × Int × Int × Int × ByteArray × ByteArray)) × (List ((List (ByteArray)))) × (List (Int))) → Option ((List (Int × Int × Int × Int × Int × ByteArray × ByteArray)) × Bool)
  | 0 => fun _ => none
  | j + 1 => spec_Greeting.s2 k (spec_Greeting.l2 k j)
def spec_Greeting.s0 (k : Nat) (rec0 : (Bool × Int × (List (ByteArray)) × (List (Int))) → Option ((List (Int × Int × Int × Int × Int × ByteArray × ByteArray)) × Bool)) (i2 : (Int × (List (ByteArray)) × (List (Int)) × (List (Int × Int × Int × Int × Int × ByteArray × ByteArray)) × (List ((List (ByteArray)))) × (List (Int))) → Option ((List (Int × Int × Int × Int × Int × ByteArray × ByteArray)) × Bool)) (p : (Bool × Int × (List (ByteArray)) × (List (Int)))) : Option ((List (Int × Int × Int × Int × Int × ByteArray × ByteArray)) × Bool) :=
  (bif (decide (p.2.1 < (p.2.2.2.length : Int))) then (bif p.1 then (bif ((decide ((0 : Int) ≤ p.2.1)) && (decide (p.2.1 < (p.2.2.2.length : Int)))) then (p.2.2.2[p.2.1.toNat]?).bind fun x1 => rec0 ((decide (x1 ≥ (0 : Int))), (IntKind.i64.wrap (p.2.1 + (1 : Int))), p.2.2.1, p.2.2.2) else none) else (bif (!p.1) then some (([] : List (Int × Int × Int × Int × Int × ByteArray × ByteArray)), false) else (bif (true && (decide ((0 : Int) < (p.2.2.1.length : Int)))) then (p.2.2.1[0]?).bind fun x2 => (bif (true && (decide ((2 : Int) < (p.2.2.1.length : Int)))) then (p.2.2.1[2]?).bind fun x3 => (bif (true && (decide ((1 : Int) < (p.2.2.1.length : Int)))) then (p.2.2.1[1]?).bind fun x4 => (spec_SecretOf.f k x4).bind fun r5 => (spec_PublicOf.f k r5).bind fun r6 => (spec_GreeterNew.f k (1 : Int) x2 x3 r6).bind fun r7 => (bif (true && (decide ((1 : Int) < (p.2.2.1.length : Int)))) then (p.2.2.1[1]?).bind fun x8 => (bif (true && (decide ((3 : Int) < (p.2.2.1.length : Int)))) then (p.2.2.1[3]?).bind fun x9 => (bif (true && (decide ((0 : Int) < (p.2.2.1.length : Int)))) then (p.2.2.1[0]?).bind fun x10 => (spec_SecretOf.f k x10).bind fun r11 => (spec_PublicOf.f k r11).bind fun r12 => (spec_GreeterNew.f k (2 : Int) x8 x9 r12).bind fun r13 => (spec_Hello.f k r7.1 r7.2.1 r7.2.2.1 r7.2.2.2.1 r7.2.2.2.2.1 r7.2.2.2.2.2.1 r7.2.2.2.2.2.2.1).bind fun r14 => (spec_Hello.f k r13.1 r13.2.1 r13.2.2.1 r13.2.2.2.1 r13.2.2.2.2.1 r13.2.2.2.2.2.1 r13.2.2.2.2.2.2.1).bind fun r15 => i2 ((0 : Int), p.2.2.1, p.2.2.2, [(r14.1, r14.2.1, r14.2.2.1, r14.2.2.2.1, r14.2.2.2.2.1, r14.2.2.2.2.2.1, r14.2.2.2.2.2.2.1), (r15.1, r15.2.1, r15.2.2.1, r15.2.2.2.1, r15.2.2.2.2.1, r15.2.2.2.2.2.1, r15.2.2.2.2.2.2.1)], [[r14.2.2.2.2.2.2.2], [r15.2.2.2.2.2.2.2]], [(0 : Int), (0 : Int)]) else none) else none) else none) else none) else none) else none))) else (bif (!p.1) then some (([] : List (Int × Int × Int × Int × Int × ByteArray × ByteArray)), false) else (bif (true && (decide ((0 : Int) < (p.2.2.1.length : Int)))) then (p.2.2.1[0]?).bind fun x19 => (bif (true && (decide ((2 : Int) < (p.2.2.1.length : Int)))) then (p.2.2.1[2]?).bind fun x20 => (bif (true && (decide ((1 : Int) < (p.2.2.1.length : Int)))) then (p.2.2.1[1]?).bind fun x21 => (spec_SecretOf.f k x21).bind fun r22 => (spec_PublicOf.f k r22).bind fun r23 => (spec_GreeterNew.f k (1 : Int) x19 x20 r23).bind fun r24 => (bif (true && (decide ((1 : Int) < (p.2.2.1.length : Int)))) then (p.2.2.1[1]?).bind fun x25 => (bif (true && (decide ((3 : Int) < (p.2.2.1.length : Int)))) then (p.2.2.1[3]?).bind fun x26 => (bif (true && (decide ((0 : Int) < (p.2.2.1.length : Int)))) then (p.2.2.1[0]?).bind fun x27 => (spec_SecretOf.f k x27).bind fun r28 => (spec_PublicOf.f k r28).bind fun r29 => (spec_GreeterNew.f k (2 : Int) x25 x26 r29).bind fun r30 => (spec_Hello.f k r24.1 r24.2.1 r24.2.2.1 r24.2.2.2.1 r24.2.2.2.2.1 r24.2.2.2.2.2.1 r24.2.2.2.2.2.2.1).bind fun r31 => (spec_Hello.f k r30.1 r30.2.1 r30.2.2.1 r30.2.2.2.1 r30.2.2.2.2.1 r30.2.2.2.2.2.1 r30.2.2.2.2.2.2.1).bind fun r32 => i2 ((0 : Int), p.2.2.1, p.2.2.2, [(r31.1, r31.2.1, r31.2.2.1, r31.2.2.2.1, r31.2.2.2.2.1, r31.2.2.2.2.2.1, r31.2.2.2.2.2.2.1), (r32.1, r32.2.1, r32.2.2.1, r32.2.2.2.1, r32.2.2.2.2.1, r32.2.2.2.2.2.1, r32.2.2.2.2.2.2.1)], [[r31.2.2.2.2.2.2.2], [r32.2.2.2.2.2.2.2]], [(0 : Int), (0 : Int)]) else none) else none) else none) else none) else none) else none)))
def spec_Greeting.l0 (k : Nat) : Nat → (Bool × Int × (List (ByteArray)) × (List (Int))) → Option ((List (Int × Int × Int × Int × Int × ByteArray × ByteArray)) × Bool)
  | 0 => fun _ => none
  | j + 1 => spec_Greeting.s0 k (spec_Greeting.l0 k j) (spec_Greeting.l2 k k)
def spec_Greeting.S2 (p : (Int × (List (ByteArray)) × (List (Int)) × (List (Int × Int × Int × Int × Int × ByteArray × ByteArray)) × (List ((List (ByteArray)))) × (List (Int)))) : DS := ⟨tl [(1, .at (.whole 16)), (16, .at (.bptr 256 0)), (17, .at (.int .i64 p.1))], lookO [(0, .row 9 .str false p.2.1), (16, .row 3 (.int .i64) false p.2.2.1), (256, .box 59 [.whole 1808, .whole 1809, .whole 1810]), (1808, .row 32 (.two (.int .i64) (.two (.int .i64) (.two (.int .i64) (.two (.int .i64) (.two (.int .i64) (.two .str .str)))))) true p.2.2.2.1), (1809, .deep 24 (.sl 9 .str) p.2.2.2.2.1 none), (1810, .row 3 (.int .i64) true p.2.2.2.2.2)]⟩
def spec_Greeting.S0 (p : (Bool × Int × (List (ByteArray)) × (List (Int)))) : DS := ⟨tl [(0, .at (.whole 0)), (1, .at (.whole 16)), (6, .at (.bool p.1)), (7, .at (.int .i64 p.2.1))], lookO [(0, .row 9 .str false p.2.2.1), (16, .row 3 (.int .i64) false p.2.2.2)]⟩
noncomputable def spec_Greeting.D2 (k : Nat) (j : Nat) (p : (Int × (List (ByteArray)) × (List (Int)) × (List (Int × Int × Int × Int × Int × ByteArray × ByteArray)) × (List ((List (ByteArray)))) × (List (Int)))) : Option ((List (Int × Int × Int × Int × Int × ByteArray × ByteArray)) × Bool) := loopK (normK [0, 16] (spec_Greeting.h 2)) (runK spec_Greeting.x k 0 [0, 16] spec_Greeting.h 2 (sub spec_Greeting.c [1, 1, 1, 1, 1, 1, 1, 1, 1, 0, 1, 0, 0])) j (spec_Greeting.S2 p) (kBlk 2 (kSeq (runK spec_Greeting.x k 0 [0, 16] spec_Greeting.h 0 (sub spec_Greeting.c [1, 1, 1, 1, 1, 1, 1, 1, 1, 1])) (fin tt spec_Greeting.ps spec_Greeting.rs spec_Greeting.vs (.two (.sl 32 (.two (.int .i64) (.two (.int .i64) (.two (.int .i64) (.two (.int .i64) (.two (.int .i64) (.two .str .str))))))) .bool))))
noncomputable def spec_Greeting.D0 (k : Nat) (j : Nat) (p : (Bool × Int × (List (ByteArray)) × (List (Int)))) : Option ((List (Int × Int × Int × Int × Int × ByteArray × ByteArray)) × Bool) := loopK (normK [0, 16] (spec_Greeting.h 0)) (runK spec_Greeting.x k 0 [0, 16] spec_Greeting.h 0 (sub spec_Greeting.c [1, 1, 0, 1, 0, 0])) j (spec_Greeting.S0 p) (kBlk 0 (kSeq (runK spec_Greeting.x k 0 [0, 16] spec_Greeting.h 0 (sub spec_Greeting.c [1, 1, 1])) (fin tt spec_Greeting.ps spec_Greeting.rs spec_Greeting.vs (.two (.sl 32 (.two (.int .i64) (.two (.int .i64) (.two (.int .i64) (.two (.int .i64) (.two (.int .i64) (.two .str .str))))))) .bool))))
theorem spec_Greeting.D2_eq (k : Nat) : ∀ j, spec_Greeting.D2 k j = spec_Greeting.l2 k j := by
  intro j
  induction j with
  | zero => rfl
  | succ j ih =>
    show _ = spec_Greeting.s2 k (spec_Greeting.l2 k j)
    rw [← ih]
    funext p
    kernel_rfl
theorem spec_Greeting.D0_eq (k : Nat) : ∀ j, spec_Greeting.D0 k j = spec_Greeting.l0 k j := by
  intro j
  induction j with
  | zero => rfl
  | succ j ih =>
    show _ = spec_Greeting.s0 k (spec_Greeting.l0 k j) (spec_Greeting.l2 k k)
    rw [← ih, ← spec_Greeting.D2_eq k k]
    funext p
    kernel_rfl
def spec_Greeting.f (k : Nat) (a0 : List (ByteArray)) (a1 : List (Int)) : Option ((List (Int × Int × Int × Int × Int × ByteArray × ByteArray)) × Bool) :=
  (bif ((a0.length : Int) == (4 : Int)) then spec_Greeting.l0 k k ((decide ((a1.length : Int) ≤ (60 : Int))), (0 : Int), a0, a1) else spec_Greeting.l0 k k (false, (0 : Int), a0, a1))
def spec_Greeting.K : Ctr := ⟨spec_Greeting.ps, spec_Greeting.rs, false, (.two (.sl 9 .str) (.sl 3 (.int .i64))), (.two (.sl 32 (.two (.int .i64) (.two (.int .i64) (.two (.int .i64) (.two (.int .i64) (.two (.int .i64) (.two .str .str))))))) .bool), fun k x => spec_Greeting.f k x.1 x.2⟩
theorem spec_Greeting.eq (k : Nat) (x : (spec_Greeting.K.I).den) : func spec_Greeting.x spec_Greeting.h spec_Greeting.ps spec_Greeting.rs spec_Greeting.vs spec_Greeting.K.I spec_Greeting.K.O spec_Greeting.c k x = spec_Greeting.K.run k x := by
  show _ = spec_Greeting.f k x.1 x.2
  unfold spec_Greeting.f
  rw [← spec_Greeting.D0_eq k k]
  kernel_rfl
theorem spec_Greeting.ok : CtrOk Tryz.prog 8 spec_Greeting.K :=
  CtrOk.of (fn := Tryz.f8) (cd := spec_Greeting.c) (cx := spec_Greeting.x) (hs := spec_Greeting.h) (by kernel_rfl) (by kernel_rfl) (by kernel_rfl) (by kernel_rfl) tt_ok (envOk_cons spec_SecretOf.ok (envOk_cons spec_PublicOf.ok (envOk_cons spec_GreeterNew.ok (envOk_cons spec_Hello.ok (envOk_cons spec_l16Do.ok (envOk_nil)))))) (by kernel_rfl) (by kernel_rfl) (by kernel_rfl) (by kernel_rfl) fun k x r h => (spec_Greeting.eq k x).trans h
/-! impl.within -/
noncomputable def impl_within.c : Code := bodyOf Tryz.f44
def impl_within.h : Nat → Hint := look ⟨[], [], []⟩ []
def impl_within.ps : List PK := [.one, .one, .one]
def impl_within.rs : List RK := [.one true]
def impl_within.vs : List ResultVar := [.tmp 6]
def impl_within.x : Cx := ⟨tt, look none []⟩
def impl_within.f (_k : Nat) (a0 : Int) (a1 : Int) (a2 : Int) : Option (Bool) :=
  (bif (decide (a0 ≥ a1)) then some (decide (a0 ≤ a2)) else some false)
def impl_within.K : Ctr := ⟨impl_within.ps, impl_within.rs, false, (.two (.int .i64) (.two (.int .i64) (.int .i64))), .bool, fun k x => impl_within.f k x.1 x.2.1 x.2.2⟩
theorem impl_within.eq (k : Nat) (x : (impl_within.K.I).den) : func impl_within.x impl_within.h impl_within.ps impl_within.rs impl_within.vs impl_within.K.I impl_within.K.O impl_within.c k x = impl_within.K.run k x := by
  show _ = impl_within.f k x.1 x.2.1 x.2.2
  kernel_rfl
theorem impl_within.ok : CtrOk Tryz.prog 44 impl_within.K :=
  CtrOk.of (fn := Tryz.f44) (cd := impl_within.c) (cx := impl_within.x) (hs := impl_within.h) (by kernel_rfl) (by kernel_rfl) (by kernel_rfl) (by kernel_rfl) tt_ok (envOk_nil) (by kernel_rfl) (by kernel_rfl) (by kernel_rfl) (by kernel_rfl) fun k x r h => (impl_within.eq k x).trans h
/-! impl.NumberText -/
noncomputable def impl_NumberText.c : Code := bodyOf Tryz.f39
def impl_NumberText.h : Nat → Hint := look ⟨[], [], []⟩ []
def impl_NumberText.ps : List PK := [.one]
def impl_NumberText.rs : List RK := [.one true]
def impl_NumberText.vs : List ResultVar := [.tmp 2]
def impl_NumberText.x : Cx := ⟨tt, look none [(44, some impl_within.K)]⟩
def impl_NumberText.f (k : Nat) (a0 : Int) : Option (ByteArray) :=
  (impl_within.f k a0 (0 : Int) (4294967295 : Int)).bind fun r1 => (bif (!r1) then some ByteArray.empty else some (strOfNums [(IntKind.u8.wrap (IntKind.i64.wrap (((BitVec.ofInt IntKind.i64.bits (a0.fdiv (2 ^ 24))) &&& (BitVec.ofInt IntKind.i64.bits (255 : Int))).toNat : Int))), (IntKind.u8.wrap (IntKind.i64.wrap (((BitVec.ofInt IntKind.i64.bits (a0.fdiv (2 ^ 16))) &&& (BitVec.ofInt IntKind.i64.bits (255 : Int))).toNat : Int))), (IntKind.u8.wrap (IntKind.i64.wrap (((BitVec.ofInt IntKind.i64.bits (a0.fdiv (2 ^ 8))) &&& (BitVec.ofInt IntKind.i64.bits (255 : Int))).toNat : Int))), (IntKind.u8.wrap (IntKind.i64.wrap (((BitVec.ofInt IntKind.i64.bits a0) &&& (BitVec.ofInt IntKind.i64.bits (255 : Int))).toNat : Int)))]))
def impl_NumberText.K : Ctr := ⟨impl_NumberText.ps, impl_NumberText.rs, false, (.int .i64), .str, fun k x => impl_NumberText.f k x⟩
theorem impl_NumberText.eq (k : Nat) (x : (impl_NumberText.K.I).den) : func impl_NumberText.x impl_NumberText.h impl_NumberText.ps impl_NumberText.rs impl_NumberText.vs impl_NumberText.K.I impl_NumberText.K.O impl_NumberText.c k x = impl_NumberText.K.run k x := by
  show _ = impl_NumberText.f k x
  kernel_rfl
theorem impl_NumberText.ok : CtrOk Tryz.prog 39 impl_NumberText.K :=
  CtrOk.of (fn := Tryz.f39) (cd := impl_NumberText.c) (cx := impl_NumberText.x) (hs := impl_NumberText.h) (by kernel_rfl) (by kernel_rfl) (by kernel_rfl) (by kernel_rfl) tt_ok (envOk_cons impl_within.ok (envOk_nil)) (by kernel_rfl) (by kernel_rfl) (by kernel_rfl) (by kernel_rfl) fun k x r h => (impl_NumberText.eq k x).trans h
/-! impl.wordsText -/
noncomputable def impl_wordsText.c : Code := bodyOf Tryz.f103
def impl_wordsText.h : Nat → Hint := look ⟨[], [], []⟩ [(0, ⟨[3, 6, 7, 8], [], []⟩)]
def impl_wordsText.ps : List PK := [.one]
def impl_wordsText.rs : List RK := [.one true]
def impl_wordsText.vs : List ResultVar := [.tmp 2]
def impl_wordsText.x : Cx := ⟨tt, look none [(39, some impl_NumberText.K)]⟩
def impl_wordsText.s0 (k : Nat) (rec0 : (ByteArray × Int × Int × (List (Int))) → Option (ByteArray)) (p : (ByteArray × Int × Int × (List (Int)))) : Option (ByteArray) :=
  (bif (decide (p.2.2.1 < p.2.1)) then (bif ((decide ((0 : Int) ≤ p.2.2.1)) && (decide (p.2.2.1 < (p.2.2.2.length : Int)))) then (p.2.2.2[p.2.2.1.toNat]?).bind fun x1 => (impl_NumberText.f k x1).bind fun r2 => (bif decide (p.1.size + r2.size ≤ 140737488351232) then rec0 ((p.1 ++ r2), p.2.1, (IntKind.i64.wrap (p.2.2.1 + (1 : Int))), p.2.2.2) else none) else none) else some p.1)
def impl_wordsText.l0 (k : Nat) : Nat → (ByteArray × Int × Int × (List (Int))) → Option (ByteArray)
  | 0 => fun _ => none
  | j + 1 => impl_wordsText.s0 k (impl_wordsText.l0 k j)
def impl_wordsText.S0 (p : (ByteArray × Int × Int × (List (Int)))) : DS := ⟨tl [(3, .at (.str p.1)), (6, .at (.whole 0)), (7, .at (.int .i64 p.2.1)), (8, .at (.int .i64 p.2.2.1))], lookO [(0, .row 3 (.int .i64) false p.2.2.2)]⟩
noncomputable def impl_wordsText.D0 (k : Nat) (j : Nat) (p : (ByteArray × Int × Int × (List (Int)))) : Option (ByteArray) := loopK (normK [0] (impl_wordsText.h 0)) (runK impl_wordsText.x k 0 [0] impl_wordsText.h 0 (sub impl_wordsText.c [1, 1, 0, 1, 0, 0])) j (impl_wordsText.S0 p) (kBlk 0 (kSeq (runK impl_wordsText.x k 0 [0] impl_wordsText.h 0 (sub impl_wordsText.c [1, 1, 1])) (fin tt impl_wordsText.ps impl_wordsText.rs impl_wordsText.vs .str)))
theorem impl_wordsText.D0_eq (k : Nat) : ∀ j, impl_wordsText.D0 k j = impl_wordsText.l0 k j := by
  intro j
  induction j with
  | zero => rfl
  | succ j ih =>
    show _ = impl_wordsText.s0 k (impl_wordsText.l0 k j)
    rw [← ih]
    funext p
    kernel_rfl
def impl_wordsText.f (k : Nat) (a0 : List (Int)) : Option (ByteArray) :=
  impl_wordsText.l0 k k (ByteArray.empty, (a0.length : Int), (0 : Int), a0)
def impl_wordsText.K : Ctr := ⟨impl_wordsText.ps, impl_wordsText.rs, false, (.sl 3 (.int .i64)), .str, fun k x => impl_wordsText.f k x⟩
theorem impl_wordsText.eq (k : Nat) (x : (impl_wordsText.K.I).den) : func impl_wordsText.x impl_wordsText.h impl_wordsText.ps impl_wordsText.rs impl_wordsText.vs impl_wordsText.K.I impl_wordsText.K.O impl_wordsText.c k x = impl_wordsText.K.run k x := by
  show _ = impl_wordsText.f k x
  unfold impl_wordsText.f
  rw [← impl_wordsText.D0_eq k k]
  kernel_rfl
theorem impl_wordsText.ok : CtrOk Tryz.prog 103 impl_wordsText.K :=
  CtrOk.of (fn := Tryz.f103) (cd := impl_wordsText.c) (cx := impl_wordsText.x) (hs := impl_wordsText.h) (by kernel_rfl) (by kernel_rfl) (by kernel_rfl) (by kernel_rfl) tt_ok (envOk_cons impl_NumberText.ok (envOk_nil)) (by kernel_rfl) (by kernel_rfl) (by kernel_rfl) (by kernel_rfl) fun k x r h => (impl_wordsText.eq k x).trans h
/-! impl.firstState -/
noncomputable def impl_firstState.c : Code := bodyOf Tryz.f81
def impl_firstState.h : Nat → Hint := look ⟨[], [], []⟩ []
def impl_firstState.ps : List PK := []
def impl_firstState.rs : List RK := [.one true]
def impl_firstState.vs : List ResultVar := [.tmp 0]
def impl_firstState.x : Cx := ⟨tt, look none [(103, some impl_wordsText.K)]⟩
def impl_firstState.f (k : Nat) : Option (ByteArray) :=
  (impl_wordsText.f k [(1779033703 : Int), (3144134277 : Int), (1013904242 : Int), (2773480762 : Int), (1359893119 : Int), (2600822924 : Int), (528734635 : Int), (1541459225 : Int)]).bind fun r1 => some r1
def impl_firstState.K : Ctr := ⟨impl_firstState.ps, impl_firstState.rs, false, .unit, .str, fun k _ => impl_firstState.f k⟩
theorem impl_firstState.eq (k : Nat) (x : (impl_firstState.K.I).den) : func impl_firstState.x impl_firstState.h impl_firstState.ps impl_firstState.rs impl_firstState.vs impl_firstState.K.I impl_firstState.K.O impl_firstState.c k x = impl_firstState.K.run k x := by
  show _ = impl_firstState.f k
  kernel_rfl
theorem impl_firstState.ok : CtrOk Tryz.prog 81 impl_firstState.K :=
  CtrOk.of (fn := Tryz.f81) (cd := impl_firstState.c) (cx := impl_firstState.x) (hs := impl_firstState.h) (by kernel_rfl) (by kernel_rfl) (by kernel_rfl) (by kernel_rfl) tt_ok (envOk_cons impl_wordsText.ok (envOk_nil)) (by kernel_rfl) (by kernel_rfl) (by kernel_rfl) (by kernel_rfl) fun k x r h => (impl_firstState.eq k x).trans h
/-! strings.Repeat -/
def strings_Repeat.f (_k : Nat) (a0 : ByteArray) (a1 : Int) : Option ByteArray := repRun a0 a1
def strings_Repeat.K : Ctr := repCtr
theorem strings_Repeat.ok : CtrOk Tryz.prog 78 strings_Repeat.K := rep78
/-! impl.padding -/
noncomputable def impl_padding.c : Code := bodyOf Tryz.f82
def impl_padding.h : Nat → Hint := look ⟨[], [], []⟩ []
def impl_padding.ps : List PK := [.one]
def impl_padding.rs : List RK := [.one true]
def impl_padding.vs : List ResultVar := [.tmp 2]
def impl_padding.x : Cx := ⟨tt, look none [(78, some strings_Repeat.K), (39, some impl_NumberText.K)]⟩
def impl_padding.f (k : Nat) (a0 : Int) : Option (ByteArray) :=
  (strings_Repeat.f k (⟨#[0]⟩ : ByteArray) ((IntKind.i64.wrap ((119 : Int) - (a0.tmod (64 : Int)))).tmod (64 : Int))).bind fun r1 => (bif decide ((⟨#[128]⟩ : ByteArray).size + r1.size ≤ 140737488351232) then (impl_NumberText.f k ((IntKind.i64.wrap ((8 : Int) * a0)).fdiv (2 ^ 32))).bind fun r2 => (bif decide (((⟨#[128]⟩ : ByteArray) ++ r1).size + r2.size ≤ 140737488351232) then (impl_NumberText.f k (IntKind.i64.wrap (((BitVec.ofInt IntKind.i64.bits (IntKind.i64.wrap ((8 : Int) * a0))) &&& (BitVec.ofInt IntKind.i64.bits (4294967295 : Int))).toNat : Int))).bind fun r3 => (bif decide ((((⟨#[128]⟩ : ByteArray) ++ r1) ++ r2).size + r3.size ≤ 140737488351232) then some ((((⟨#[128]⟩ : ByteArray) ++ r1) ++ r2) ++ r3) else none) else none) else none)
def impl_padding.K : Ctr := ⟨impl_padding.ps, impl_padding.rs, false, (.int .i64), .str, fun k x => impl_padding.f k x⟩
theorem impl_padding.eq (k : Nat) (x : (impl_padding.K.I).den) : func impl_padding.x impl_padding.h impl_padding.ps impl_padding.rs impl_padding.vs impl_padding.K.I impl_padding.K.O impl_padding.c k x = impl_padding.K.run k x := by
  show _ = impl_padding.f k x
  kernel_rfl
theorem impl_padding.ok : CtrOk Tryz.prog 82 impl_padding.K :=
  CtrOk.of (fn := Tryz.f82) (cd := impl_padding.c) (cx := impl_padding.x) (hs := impl_padding.h) (by kernel_rfl) (by kernel_rfl) (by kernel_rfl) (by kernel_rfl) tt_ok (envOk_cons strings_Repeat.ok (envOk_cons impl_NumberText.ok (envOk_nil))) (by kernel_rfl) (by kernel_rfl) (by kernel_rfl) (by kernel_rfl) fun k x r h => (impl_padding.eq k x).trans h
/-! impl.constants -/
noncomputable def impl_constants.c : Code := bodyOf Tryz.f111
def impl_constants.h : Nat → Hint := look ⟨[], [], []⟩ []
def impl_constants.ps : List PK := []
def impl_constants.rs : List RK := [.agg 64 true]
def impl_constants.vs : List ResultVar := [.cell 0 130]
def impl_constants.x : Cx := ⟨tt, look none []⟩
def impl_constants.f (_k : Nat) : Option (Int × Int × Int × Int × Int × Int × Int × Int × Int × Int × Int × Int × Int × Int × Int × Int × Int × Int × Int × Int × Int × Int × Int × Int × Int × Int × Int × Int × Int × Int × Int × Int × Int × Int × Int × Int × Int × Int × Int × Int × Int × Int × Int × Int × Int × Int × Int × Int × Int × Int × Int × Int × Int × Int × Int × Int × Int × Int × Int × Int × Int × Int × Int × Int) :=
  some ((1116352408 : Int), (1899447441 : Int), (3049323471 : Int), (3921009573 : Int), (961987163 : Int), (1508970993 : Int), (2453635748 : Int), (2870763221 : Int), (3624381080 : Int), (310598401 : Int), (607225278 : Int), (1426881987 : Int), (1925078388 : Int), (2162078206 : Int), (2614888103 : Int), (3248222580 : Int), (3835390401 : Int), (4022224774 : Int), (264347078 : Int), (604807628 : Int), (770255983 : Int), (1249150122 : Int), (1555081692 : Int), (1996064986 : Int), (2554220882 : Int), (2821834349 : Int), (2952996808 : Int), (3210313671 : Int), (3336571891 : Int), (3584528711 : Int), (113926993 : Int), (338241895 : Int), (666307205 : Int), (773529912 : Int), (1294757372 : Int), (1396182291 : Int), (1695183700 : Int), (1986661051 : Int), (2177026350 : Int), (2456956037 : Int), (2730485921 : Int), (2820302411 : Int), (3259730800 : Int), (3345764771 : Int), (3516065817 : Int), (3600352804 : Int), (4094571909 : Int), (275423344 : Int), (430227734 : Int), (506948616 : Int), (659060556 : Int), (883997877 : Int), (958139571 : Int), (1322822218 : Int), (1537002063 : Int), (1747873779 : Int), (1955562222 : Int), (2024104815 : Int), (2227730452 : Int), (2361852424 : Int), (2428436474 : Int), (2756734187 : Int), (3204031479 : Int), (3329325298 : Int))
def impl_constants.K : Ctr := ⟨impl_constants.ps, impl_constants.rs, false, .unit, (.two (.int .i64) (.two (.int .i64) (.two (.int .i64) (.two (.int .i64) (.two (.int .i64) (.two (.int .i64) (.two (.int .i64) (.two (.int .i64) (.two (.int .i64) (.two (.int .i64) (.two (.int .i64) (.two (.int .i64) (.two (.int .i64) (.two (.int .i64) (.two (.int .i64) (.two (.int .i64) (.two (.int .i64) (.two (.int .i64) (.two (.int .i64) (.two (.int .i64) (.two (.int .i64) (.two (.int .i64) (.two (.int .i64) (.two (.int .i64) (.two (.int .i64) (.two (.int .i64) (.two (.int .i64) (.two (.int .i64) (.two (.int .i64) (.two (.int .i64) (.two (.int .i64) (.two (.int .i64) (.two (.int .i64) (.two (.int .i64) (.two (.int .i64) (.two (.int .i64) (.two (.int .i64) (.two (.int .i64) (.two (.int .i64) (.two (.int .i64) (.two (.int .i64) (.two (.int .i64) (.two (.int .i64) (.two (.int .i64) (.two (.int .i64) (.two (.int .i64) (.two (.int .i64) (.two (.int .i64) (.two (.int .i64) (.two (.int .i64) (.two (.int .i64) (.two (.int .i64) (.two (.int .i64) (.two (.int .i64) (.two (.int .i64) (.two (.int .i64) (.two (.int .i64) (.two (.int .i64) (.two (.int .i64) (.two (.int .i64) (.two (.int .i64) (.two (.int .i64) (.two (.int .i64) (.int .i64)))))))))))))))))))))))))))))))))))))))))))))))))))))))))))))))), fun k _ => impl_constants.f k⟩
theorem impl_constants.eq (k : Nat) (x : (impl_constants.K.I).den) : func impl_constants.x impl_constants.h impl_constants.ps impl_constants.rs impl_constants.vs impl_constants.K.I impl_constants.K.O impl_constants.c k x = impl_constants.K.run k x := by
  show _ = impl_constants.f k
  kernel_rfl
theorem impl_constants.ok : CtrOk Tryz.prog 111 impl_constants.K :=
  CtrOk.of (fn := Tryz.f111) (cd := impl_constants.c) (cx := impl_constants.x) (hs := impl_constants.h) (by kernel_rfl) (by kernel_rfl) (by kernel_rfl) (by kernel_rfl) tt_ok (envOk_nil) (by kernel_rfl) (by kernel_rfl) (by kernel_rfl) (by kernel_rfl) fun k x r h => (impl_constants.eq k x).trans h
/-! impl.ReadNumber -/
noncomputable def impl_ReadNumber.c : Code := bodyOf Tryz.f60
def impl_ReadNumber.h : Nat → Hint := look ⟨[], [], []⟩ []
def impl_ReadNumber.ps : List PK := [.one]
def impl_ReadNumber.rs : List RK := [.one true, .one true]
def impl_ReadNumber.vs : List ResultVar := [.tmp 2, .tmp 3]
def impl_ReadNumber.x : Cx := ⟨tt, look none []⟩
def impl_ReadNumber.f (_k : Nat) (a0 : ByteArray) : Option (Int × Bool) :=
  (bif ((a0.size : Int) != (4 : Int)) then some ((0 : Int), false) else (a0[0]?).bind fun c1 => (a0[1]?).bind fun c2 => (a0[2]?).bind fun c3 => (a0[3]?).bind fun c4 => some ((IntKind.i64.wrap (((BitVec.ofInt IntKind.i64.bits (IntKind.i64.wrap (((BitVec.ofInt IntKind.i64.bits (IntKind.i64.wrap (((BitVec.ofInt IntKind.i64.bits (IntKind.i64.wrap ((IntKind.i64.wrap (c1.toNat : Int)) * 2 ^ 24))) ||| (BitVec.ofInt IntKind.i64.bits (IntKind.i64.wrap ((IntKind.i64.wrap (c2.toNat : Int)) * 2 ^ 16)))).toNat : Int))) ||| (BitVec.ofInt IntKind.i64.bits (IntKind.i64.wrap ((IntKind.i64.wrap (c3.toNat : Int)) * 2 ^ 8)))).toNat : Int))) ||| (BitVec.ofInt IntKind.i64.bits (IntKind.i64.wrap (c4.toNat : Int)))).toNat : Int)), true))
def impl_ReadNumber.K : Ctr := ⟨impl_ReadNumber.ps, impl_ReadNumber.rs, false, .str, (.two (.int .i64) .bool), fun k x => impl_ReadNumber.f k x⟩
theorem impl_ReadNumber.eq (k : Nat) (x : (impl_ReadNumber.K.I).den) : func impl_ReadNumber.x impl_ReadNumber.h impl_ReadNumber.ps impl_ReadNumber.rs impl_ReadNumber.vs impl_ReadNumber.K.I impl_ReadNumber.K.O impl_ReadNumber.c k x = impl_ReadNumber.K.run k x := by
  show _ = impl_ReadNumber.f k x
  kernel_rfl
theorem impl_ReadNumber.ok : CtrOk Tryz.prog 60 impl_ReadNumber.K :=
  CtrOk.of (fn := Tryz.f60) (cd := impl_ReadNumber.c) (cx := impl_ReadNumber.x) (hs := impl_ReadNumber.h) (by kernel_rfl) (by kernel_rfl) (by kernel_rfl) (by kernel_rfl) tt_ok (envOk_nil) (by kernel_rfl) (by kernel_rfl) (by kernel_rfl) (by kernel_rfl) fun k x r h => (impl_ReadNumber.eq k x).trans h
/-! impl.wordsOf -/
noncomputable def impl_wordsOf.c : Code := bodyOf Tryz.f113
def impl_wordsOf.h : Nat → Hint := look ⟨[], [], []⟩ [(0, ⟨[0, 3, 4], [], [(.t 3, 464, 3, (.int .i64))]⟩)]
def impl_wordsOf.ps : List PK := [.one]
def impl_wordsOf.rs : List RK := [.one true]
def impl_wordsOf.vs : List ResultVar := [.tmp 2]
def impl_wordsOf.x : Cx := ⟨tt, look none [(60, some impl_ReadNumber.K)]⟩
def impl_wordsOf.s0 (k : Nat) (rec0 : (ByteArray × Int × (List (Int))) → Option ((List (Int)))) (p : (ByteArray × Int × (List (Int)))) : Option ((List (Int))) :=
  (bif (decide ((IntKind.i64.wrap (p.2.1 + (4 : Int))) ≤ (p.1.size : Int))) then (bif ((decide ((0 : Int) ≤ p.2.1)) && ((decide (p.2.1 ≤ (IntKind.i64.wrap (p.2.1 + (4 : Int))))) && (decide ((IntKind.i64.wrap (p.2.1 + (4 : Int))) ≤ (p.1.size : Int))))) then (impl_ReadNumber.f k (p.1.extract p.2.1.toNat (IntKind.i64.wrap (p.2.1 + (4 : Int))).toNat)).bind fun r1 => (bif decide ((p.2.2.length + [r1.1].length) * 8 ≤ 140737488355328) then rec0 (p.1, (IntKind.i64.wrap (p.2.1 + (4 : Int))), (p.2.2 ++ [r1.1])) else none) else none) else some p.2.2)
def impl_wordsOf.l0 (k : Nat) : Nat → (ByteArray × Int × (List (Int))) → Option ((List (Int)))
  | 0 => fun _ => none
  | j + 1 => impl_wordsOf.s0 k (impl_wordsOf.l0 k j)
def impl_wordsOf.S0 (p : (ByteArray × Int × (List (Int)))) : DS := ⟨tl [(0, .at (.str p.1)), (3, .at (.whole 464)), (4, .at (.int .i64 p.2.1))], lookO [(464, .row 3 (.int .i64) true p.2.2)]⟩
noncomputable def impl_wordsOf.D0 (k : Nat) (j : Nat) (p : (ByteArray × Int × (List (Int)))) : Option ((List (Int))) := loopK (normK [] (impl_wordsOf.h 0)) (runK impl_wordsOf.x k 0 [] impl_wordsOf.h 0 (sub impl_wordsOf.c [1, 1, 0, 1, 0, 0])) j (impl_wordsOf.S0 p) (kBlk 0 (kSeq (runK impl_wordsOf.x k 0 [] impl_wordsOf.h 0 (sub impl_wordsOf.c [1, 1, 1])) (fin tt impl_wordsOf.ps impl_wordsOf.rs impl_wordsOf.vs (.sl 3 (.int .i64)))))
theorem impl_wordsOf.D0_eq (k : Nat) : ∀ j, impl_wordsOf.D0 k j = impl_wordsOf.l0 k j := by
  intro j
  induction j with
  | zero => rfl
  | succ j ih =>
    show _ = impl_wordsOf.s0 k (impl_wordsOf.l0 k j)
    rw [← ih]
    funext p
    kernel_rfl
def impl_wordsOf.f (k : Nat) (a0 : ByteArray) : Option ((List (Int))) :=
  impl_wordsOf.l0 k k (a0, (0 : Int), ([] : List (Int)))
def impl_wordsOf.K : Ctr := ⟨impl_wordsOf.ps, impl_wordsOf.rs, false, .str, (.sl 3 (.int .i64)), fun k x => impl_wordsOf.f k x⟩
theorem impl_wordsOf.eq (k : Nat) (x : (impl_wordsOf.K.I).den) : func impl_wordsOf.x impl_wordsOf.h impl_wordsOf.ps impl_wordsOf.rs impl_wordsOf.vs impl_wordsOf.K.I impl_wordsOf.K.O impl_wordsOf.c k x = impl_wordsOf.K.run k x := by
  show _ = impl_wordsOf.f k x
  unfold impl_wordsOf.f
  rw [← impl_wordsOf.D0_eq k k]
  kernel_rfl
theorem impl_wordsOf.ok : CtrOk Tryz.prog 113 impl_wordsOf.K :=
  CtrOk.of (fn := Tryz.f113) (cd := impl_wordsOf.c) (cx := impl_wordsOf.x) (hs := impl_wordsOf.h) (by kernel_rfl) (by kernel_rfl) (by kernel_rfl) (by kernel_rfl) tt_ok (envOk_cons impl_ReadNumber.ok (envOk_nil)) (by kernel_rfl) (by kernel_rfl) (by kernel_rfl) (by kernel_rfl) fun k x r h => (impl_wordsOf.eq k x).trans h
end Go.Proofs.YtpinehfjimphmaaGreat.DI
