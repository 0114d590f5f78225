/- FnGreets: functions as plain Lean, in the machine of values. -/
import Derived.Test.YtpinehfjimphmaaGreatVFnGreets6
namespace Go.Proofs.YtpinehfjimphmaaGreat.DI
open Go
set_option linter.unusedVariables false
/-! spec.l16Do -/
noncomputable def spec_l16Do.c : Code := bodyOf Tryz.f34
def spec_l16Do.h : Nat → Hint := look ⟨[], [], []⟩ []
def spec_l16Do.ps : List PK := [.boxg 59 3, .one, .one]
def spec_l16Do.rs : List RK := []
def spec_l16Do.vs : List ResultVar := []
def spec_l16Do.x : Cx := ⟨tt, look none [(59, some spec_HearGreet.K)]⟩
def spec_l16Do.f (k : Nat) (a0_0 : List (Int × Int × Int × Int × Int × ByteArray × ByteArray)) (a0_1 : List ((List (ByteArray)))) (a0_2 : List (Int)) (a1 : Int) (a2 : Bool) : Option ((List (Int × Int × Int × Int × Int × ByteArray × ByteArray)) × (List ((List (ByteArray)))) × (List (Int))) :=
  (bif ((decide ((0 : Int) ≤ a1)) && (decide (a1 < (a0_2.length : Int)))) then (a0_2[a1.toNat]?).bind fun x1 => (bif ((decide ((0 : Int) ≤ a1)) && (decide (a1 < (a0_1.length : Int)))) then (a0_1[a1.toNat]?).bind fun x2 => (bif (decide (x1 ≥ (x2.length : Int))) then ((a0_1.set a1.toNat ([] : List (ByteArray)))[a1.toNat]?).bind fun y3 => some (a0_0, ((a0_1.set a1.toNat ([] : List (ByteArray))).set a1.toNat x2), a0_2) else (bif ((decide ((0 : Int) ≤ a1)) && (decide (a1 < ((a0_1.set a1.toNat ([] : List (ByteArray))).length : Int)))) then ((a0_1.set a1.toNat ([] : List (ByteArray)))[a1.toNat]?).bind fun y4 => (((a0_1.set a1.toNat ([] : List (ByteArray))).set a1.toNat x2)[a1.toNat]?).bind fun x5 => (bif ((decide ((0 : Int) ≤ a1)) && (decide (a1 < (a0_2.length : Int)))) then (a0_2[a1.toNat]?).bind fun x6 => (bif ((decide ((0 : Int) ≤ x6)) && (decide (x6 < (x5.length : Int)))) then (x5[x6.toNat]?).bind fun x7 => (bif (!a2) then (bif ((decide ((0 : Int) ≤ a1)) && (decide (a1 < (a0_2.length : Int)))) then (a0_2[a1.toNat]?).bind fun x8 => (bif ((decide ((0 : Int) ≤ a1)) && (decide (a1 < (a0_2.length : Int)))) then (a0_2[a1.toNat]?).bind fun x9 => (bif ((decide ((0 : Int) ≤ (IntKind.i64.wrap ((1 : Int) - a1)))) && (decide ((IntKind.i64.wrap ((1 : Int) - a1)) < (a0_0.length : Int)))) then (a0_0[(IntKind.i64.wrap ((1 : Int) - a1)).toNat]?).bind fun x10 => (spec_HearGreet.f k x10.1 x10.2.1 x10.2.2.1 x10.2.2.2.1 x10.2.2.2.2.1 x10.2.2.2.2.2.1 x10.2.2.2.2.2.2 x7).bind fun r11 => (bif ((decide ((0 : Int) ≤ (IntKind.i64.wrap ((1 : Int) - a1)))) && (decide ((IntKind.i64.wrap ((1 : Int) - a1)) < (a0_0.length : Int)))) then (a0_0[(IntKind.i64.wrap ((1 : Int) - a1)).toNat]?).bind fun x12 => (bif (!(r11.2.2.2.2.2.2.2.toList == ByteArray.empty.toList)) then (bif ((decide ((0 : Int) ≤ (IntKind.i64.wrap ((1 : Int) - a1)))) && (decide ((IntKind.i64.wrap ((1 : Int) - a1)) < ((((a0_1.set a1.toNat ([] : List (ByteArray))).set a1.toNat x2).set a1.toNat ([] : List (ByteArray))).length : Int)))) then ((((a0_1.set a1.toNat ([] : List (ByteArray))).set a1.toNat x2).set a1.toNat ([] : List (ByteArray)))[a1.toNat]?).bind fun y13 => (((((a0_1.set a1.toNat ([] : List (ByteArray))).set a1.toNat x2).set a1.toNat ([] : List (ByteArray))).set a1.toNat x5)[(IntKind.i64.wrap ((1 : Int) - a1)).toNat]?).bind fun x14 => (bif decide ((x14.length + [r11.2.2.2.2.2.2.2].length) * 16 ≤ 140737488355328) then (bif ((decide ((0 : Int) ≤ (IntKind.i64.wrap ((1 : Int) - a1)))) && (decide ((IntKind.i64.wrap ((1 : Int) - a1)) < ((((((a0_1.set a1.toNat ([] : List (ByteArray))).set a1.toNat x2).set a1.toNat ([] : List (ByteArray))).set a1.toNat x5).set (IntKind.i64.wrap ((1 : Int) - a1)).toNat ([] : List (ByteArray))).length : Int)))) then (bif Nat.beq (IntKind.i64.wrap ((1 : Int) - a1)).toNat (IntKind.i64.wrap ((1 : Int) - a1)).toNat then ((((((a0_1.set a1.toNat ([] : List (ByteArray))).set a1.toNat x2).set a1.toNat ([] : List (ByteArray))).set a1.toNat x5).set (IntKind.i64.wrap ((1 : Int) - a1)).toNat ([] : List (ByteArray)))[(IntKind.i64.wrap ((1 : Int) - a1)).toNat]?).bind fun x15 => some ((a0_0.set (IntKind.i64.wrap ((1 : Int) - a1)).toNat (r11.1, r11.2.1, r11.2.2.1, r11.2.2.2.1, r11.2.2.2.2.1, r11.2.2.2.2.2.1, r11.2.2.2.2.2.2.1)), ((((((a0_1.set a1.toNat ([] : List (ByteArray))).set a1.toNat x2).set a1.toNat ([] : List (ByteArray))).set a1.toNat x5).set (IntKind.i64.wrap ((1 : Int) - a1)).toNat ([] : List (ByteArray))).set (IntKind.i64.wrap ((1 : Int) - a1)).toNat (x14 ++ [r11.2.2.2.2.2.2.2])), (a0_2.set a1.toNat (IntKind.i64.wrap (x8 + (1 : Int))))) else ((((((a0_1.set a1.toNat ([] : List (ByteArray))).set a1.toNat x2).set a1.toNat ([] : List (ByteArray))).set a1.toNat x5).set (IntKind.i64.wrap ((1 : Int) - a1)).toNat ([] : List (ByteArray)))[(IntKind.i64.wrap ((1 : Int) - a1)).toNat]?).bind fun _y16 => none) else none) else none) else none) else ((((a0_1.set a1.toNat ([] : List (ByteArray))).set a1.toNat x2).set a1.toNat ([] : List (ByteArray)))[a1.toNat]?).bind fun y17 => some ((a0_0.set (IntKind.i64.wrap ((1 : Int) - a1)).toNat (r11.1, r11.2.1, r11.2.2.1, r11.2.2.2.1, r11.2.2.2.2.1, r11.2.2.2.2.2.1, r11.2.2.2.2.2.2.1)), ((((a0_1.set a1.toNat ([] : List (ByteArray))).set a1.toNat x2).set a1.toNat ([] : List (ByteArray))).set a1.toNat x5), (a0_2.set a1.toNat (IntKind.i64.wrap (x8 + (1 : Int)))))) else none) else none) else none) else none) else (bif ((decide ((0 : Int) ≤ (IntKind.i64.wrap ((1 : Int) - a1)))) && (decide ((IntKind.i64.wrap ((1 : Int) - a1)) < (a0_0.length : Int)))) then (a0_0[(IntKind.i64.wrap ((1 : Int) - a1)).toNat]?).bind fun x18 => (spec_HearGreet.f k x18.1 x18.2.1 x18.2.2.1 x18.2.2.2.1 x18.2.2.2.2.1 x18.2.2.2.2.2.1 x18.2.2.2.2.2.2 x7).bind fun r19 => (bif ((decide ((0 : Int) ≤ (IntKind.i64.wrap ((1 : Int) - a1)))) && (decide ((IntKind.i64.wrap ((1 : Int) - a1)) < (a0_0.length : Int)))) then (a0_0[(IntKind.i64.wrap ((1 : Int) - a1)).toNat]?).bind fun x20 => (bif (!(r19.2.2.2.2.2.2.2.toList == ByteArray.empty.toList)) then (bif ((decide ((0 : Int) ≤ (IntKind.i64.wrap ((1 : Int) - a1)))) && (decide ((IntKind.i64.wrap ((1 : Int) - a1)) < ((((a0_1.set a1.toNat ([] : List (ByteArray))).set a1.toNat x2).set a1.toNat ([] : List (ByteArray))).length : Int)))) then ((((a0_1.set a1.toNat ([] : List (ByteArray))).set a1.toNat x2).set a1.toNat ([] : List (ByteArray)))[a1.toNat]?).bind fun y21 => (((((a0_1.set a1.toNat ([] : List (ByteArray))).set a1.toNat x2).set a1.toNat ([] : List (ByteArray))).set a1.toNat x5)[(IntKind.i64.wrap ((1 : Int) - a1)).toNat]?).bind fun x22 => (bif decide ((x22.length + [r19.2.2.2.2.2.2.2].length) * 16 ≤ 140737488355328) then (bif ((decide ((0 : Int) ≤ (IntKind.i64.wrap ((1 : Int) - a1)))) && (decide ((IntKind.i64.wrap ((1 : Int) - a1)) < ((((((a0_1.set a1.toNat ([] : List (ByteArray))).set a1.toNat x2).set a1.toNat ([] : List (ByteArray))).set a1.toNat x5).set (IntKind.i64.wrap ((1 : Int) - a1)).toNat ([] : List (ByteArray))).length : Int)))) then (bif Nat.beq (IntKind.i64.wrap ((1 : Int) - a1)).toNat (IntKind.i64.wrap ((1 : Int) - a1)).toNat then ((((((a0_1.set a1.toNat ([] : List (ByteArray))).set a1.toNat x2).set a1.toNat ([] : List (ByteArray))).set a1.toNat x5).set (IntKind.i64.wrap ((1 : Int) - a1)).toNat ([] : List (ByteArray)))[(IntKind.i64.wrap ((1 : Int) - a1)).toNat]?).bind fun x23 => some ((a0_0.set (IntKind.i64.wrap ((1 : Int) - a1)).toNat (r19.1, r19.2.1, r19.2.2.1, r19.2.2.2.1, r19.2.2.2.2.1, r19.2.2.2.2.2.1, r19.2.2.2.2.2.2.1)), ((((((a0_1.set a1.toNat ([] : List (ByteArray))).set a1.toNat x2).set a1.toNat ([] : List (ByteArray))).set a1.toNat x5).set (IntKind.i64.wrap ((1 : Int) - a1)).toNat ([] : List (ByteArray))).set (IntKind.i64.wrap ((1 : Int) - a1)).toNat (x22 ++ [r19.2.2.2.2.2.2.2])), a0_2) else ((((((a0_1.set a1.toNat ([] : List (ByteArray))).set a1.toNat x2).set a1.toNat ([] : List (ByteArray))).set a1.toNat x5).set (IntKind.i64.wrap ((1 : Int) - a1)).toNat ([] : List (ByteArray)))[(IntKind.i64.wrap ((1 : Int) - a1)).toNat]?).bind fun _y24 => none) else none) else none) else none) else ((((a0_1.set a1.toNat ([] : List (ByteArray))).set a1.toNat x2).set a1.toNat ([] : List (ByteArray)))[a1.toNat]?).bind fun y25 => some ((a0_0.set (IntKind.i64.wrap ((1 : Int) - a1)).toNat (r19.1, r19.2.1, r19.2.2.1, r19.2.2.2.1, r19.2.2.2.2.1, r19.2.2.2.2.2.1, r19.2.2.2.2.2.2.1)), ((((a0_1.set a1.toNat ([] : List (ByteArray))).set a1.toNat x2).set a1.toNat ([] : List (ByteArray))).set a1.toNat x5), a0_2)) else none) else none)) else none) else none) else none)) else none) else none)
def spec_l16Do.K : Ctr := ⟨spec_l16Do.ps, spec_l16Do.rs, false, (.two (.sl 32 (.two (.int .i64) (.two (.int .i64) (.two (.int .i64) (.two (.int .i64) (.two (.int .i64) (.two .str .str))))))) (.two (.sl 24 (.sl 9 .str)) (.two (.sl 3 (.int .i64)) (.two (.int .i64) .bool)))), (.two (.sl 32 (.two (.int .i64) (.two (.int .i64) (.two (.int .i64) (.two (.int .i64) (.two (.int .i64) (.two .str .str))))))) (.two (.sl 24 (.sl 9 .str)) (.sl 3 (.int .i64)))), fun k x => spec_l16Do.f k x.1 x.2.1 x.2.2.1 x.2.2.2.1 x.2.2.2.2⟩
theorem spec_l16Do.eq (k : Nat) (x : (spec_l16Do.K.I).den) : func spec_l16Do.x spec_l16Do.h spec_l16Do.ps spec_l16Do.rs spec_l16Do.vs spec_l16Do.K.I spec_l16Do.K.O spec_l16Do.c k x = spec_l16Do.K.run k x := by
  show _ = spec_l16Do.f k x.1 x.2.1 x.2.2.1 x.2.2.2.1 x.2.2.2.2
  kernel_rfl
theorem spec_l16Do.ok : CtrOk Tryz.prog 34 spec_l16Do.K :=
  CtrOk.of (fn := Tryz.f34) (cd := spec_l16Do.c) (cx := spec_l16Do.x) (hs := spec_l16Do.h) (by kernel_rfl) (by kernel_rfl) (by kernel_rfl) (by kernel_rfl) tt_ok (envOk_cons spec_HearGreet.ok (envOk_nil)) (by kernel_rfl) (by kernel_rfl) (by kernel_rfl) (by kernel_rfl) fun k x r h => (spec_l16Do.eq k x).trans h
/-! spec.Greeting -/
noncomputable def spec_Greeting.c : Code := bodyOf Tryz.f8
def spec_Greeting.h : Nat → Hint := look ⟨[], [], []⟩ [(0, ⟨[0, 1, 6, 7], [], []⟩), (2, ⟨[1, 16, 17], [256], [(.b 256 0, 1808, 32, (.two (.int .i64) (.two (.int .i64) (.two (.int .i64) (.two (.int .i64) (.two (.int .i64) (.two .str .str))))))), (.b 256 1, 1809, 24, (.sl 9 .str)), (.b 256 2, 1810, 3, (.int .i64))]⟩)]
def spec_Greeting.ps : List PK := [.one, .one]
def spec_Greeting.rs : List RK := [.one true, .one true]
def spec_Greeting.vs : List ResultVar := [.tmp 4, .tmp 5]
def spec_Greeting.x : Cx := ⟨tt, look none [(32, some spec_SecretOf.K), (31, some spec_PublicOf.K), (30, some spec_GreeterNew.K), (33, some spec_Hello.K), (34, some spec_l16Do.K)]⟩
def spec_Greeting.s2 (k : Nat) (rec2 : (Int × (List (ByteArray)) × (List (Int)) × (List (Int × Int × Int × Int × Int × ByteArray × ByteArray)) × (List ((List (ByteArray)))) × (List (Int))) → Option ((List (Int × Int × Int × Int × Int × ByteArray × ByteArray)) × Bool)) (p : (Int × (List (ByteArray)) × (List (Int)) × (List (Int × Int × Int × Int × Int × ByteArray × ByteArray)) × (List ((List (ByteArray)))) × (List (Int)))) : Option ((List (Int × Int × Int × Int × Int × ByteArray × ByteArray)) × Bool) :=
  (bif (decide (p.1 < (p.2.2.1.length : Int))) then (bif ((decide ((0 : Int) ≤ p.1)) && (decide (p.1 < (p.2.2.1.length : Int)))) then (p.2.2.1[p.1.toNat]?).bind fun x16 => (bif ((decide ((0 : Int) ≤ p.1)) && (decide (p.1 < (p.2.2.1.length : Int)))) then (p.2.2.1[p.1.toNat]?).bind fun x17 => (spec_l16Do.f k p.2.2.2.1 p.2.2.2.2.1 p.2.2.2.2.2 (x16.tmod (2 : Int)) (decide ((x17.tmod (4 : Int)) > (1 : Int)))).bind fun r18 => rec2 ((IntKind.i64.wrap (p.1 + (1 : Int))), p.2.1, p.2.2.1, r18.1, r18.2.1, r18.2.2) else none) else none) else some (p.2.2.2.1, true))
def spec_Greeting.l2 (k : Nat) : Nat → (Int × (List (ByteArray)) × (List (Int)) × (List (Int × Int × Int × Int × Int × ByteArray × ByteArray)) × (List ((List (ByteArray)))) × (List (Int))) → Option ((List (Int × Int × Int × Int × Int × ByteArray × ByteArray)) × Bool)
  | 0 => fun _ => none
  | j + 1 => spec_Greeting.s2 k (spec_Greeting.l2 k j)
def spec_Greeting.s0 (k : Nat) (rec0 : (Bool × Int × (List (ByteArray)) × (List (Int))) → Option ((List (Int × Int × Int × Int × Int × ByteArray × ByteArray)) × Bool)) (i2 : (Int × (List (ByteArray)) × (List (Int)) × (List (Int × Int × Int × Int × Int × ByteArray × ByteArray)) × (List ((List (ByteArray)))) × (List (Int))) → Option ((List (Int × Int × Int × Int × Int × ByteArray × ByteArray)) × Bool)) (p : (Bool × Int × (List (ByteArray)) × (List (Int)))) : Option ((List (Int × Int × Int × Int × Int × ByteArray × ByteArray)) × Bool) :=
  (bif (decide (p.2.1 < (p.2.2.2.length : Int))) then (bif p.1 then (bif ((decide ((0 : Int) ≤ p.2.1)) && (decide (p.2.1 < (p.2.2.2.length : Int)))) then (p.2.2.2[p.2.1.toNat]?).bind fun x1 => rec0 ((decide (x1 ≥ (0 : Int))), (IntKind.i64.wrap (p.2.1 + (1 : Int))), p.2.2.1, p.2.2.2) else none) else (bif (!p.1) then some (([] : List (Int × Int × Int × Int × Int × ByteArray × ByteArray)), false) else (bif (true && (decide ((0 : Int) < (p.2.2.1.length : Int)))) then (p.2.2.1[0]?).bind fun x2 => (bif (true && (decide ((2 : Int) < (p.2.2.1.length : Int)))) then (p.2.2.1[2]?).bind fun x3 => (bif (true && (decide ((1 : Int) < (p.2.2.1.length : Int)))) then (p.2.2.1[1]?).bind fun x4 => (spec_SecretOf.f k x4).bind fun r5 => (spec_PublicOf.f k r5).bind fun r6 => (spec_GreeterNew.f k (1 : Int) x2 x3 r6).bind fun r7 => (bif (true && (decide ((1 : Int) < (p.2.2.1.length : Int)))) then (p.2.2.1[1]?).bind fun x8 => (bif (true && (decide ((3 : Int) < (p.2.2.1.length : Int)))) then (p.2.2.1[3]?).bind fun x9 => (bif (true && (decide ((0 : Int) < (p.2.2.1.length : Int)))) then (p.2.2.1[0]?).bind fun x10 => (spec_SecretOf.f k x10).bind fun r11 => (spec_PublicOf.f k r11).bind fun r12 => (spec_GreeterNew.f k (2 : Int) x8 x9 r12).bind fun r13 => (spec_Hello.f k r7.1 r7.2.1 r7.2.2.1 r7.2.2.2.1 r7.2.2.2.2.1 r7.2.2.2.2.2.1 r7.2.2.2.2.2.2.1).bind fun r14 => (spec_Hello.f k r13.1 r13.2.1 r13.2.2.1 r13.2.2.2.1 r13.2.2.2.2.1 r13.2.2.2.2.2.1 r13.2.2.2.2.2.2.1).bind fun r15 => i2 ((0 : Int), p.2.2.1, p.2.2.2, [(r14.1, r14.2.1, r14.2.2.1, r14.2.2.2.1, r14.2.2.2.2.1, r14.2.2.2.2.2.1, r14.2.2.2.2.2.2.1), (r15.1, r15.2.1, r15.2.2.1, r15.2.2.2.1, r15.2.2.2.2.1, r15.2.2.2.2.2.1, r15.2.2.2.2.2.2.1)], [[r14.2.2.2.2.2.2.2], [r15.2.2.2.2.2.2.2]], [(0 : Int), (0 : Int)]) else none) else none) else none) else none) else none) else none))) else (bif (!p.1) then some (([] : List (Int × Int × Int × Int × Int × ByteArray × ByteArray)), false) else (bif (true && (decide ((0 : Int) < (p.2.2.1.length : Int)))) then (p.2.2.1[0]?).bind fun x19 => (bif (true && (decide ((2 : Int) < (p.2.2.1.length : Int)))) then (p.2.2.1[2]?).bind fun x20 => (bif (true && (decide ((1 : Int) < (p.2.2.1.length : Int)))) then (p.2.2.1[1]?).bind fun x21 => (spec_SecretOf.f k x21).bind fun r22 => (spec_PublicOf.f k r22).bind fun r23 => (spec_GreeterNew.f k (1 : Int) x19 x20 r23).bind fun r24 => (bif (true && (decide ((1 : Int) < (p.2.2.1.length : Int)))) then (p.2.2.1[1]?).bind fun x25 => (bif (true && (decide ((3 : Int) < (p.2.2.1.length : Int)))) then (p.2.2.1[3]?).bind fun x26 => (bif (true && (decide ((0 : Int) < (p.2.2.1.length : Int)))) then (p.2.2.1[0]?).bind fun x27 => (spec_SecretOf.f k x27).bind fun r28 => (spec_PublicOf.f k r28).bind fun r29 => (spec_GreeterNew.f k (2 : Int) x25 x26 r29).bind fun r30 => (spec_Hello.f k r24.1 r24.2.1 r24.2.2.1 r24.2.2.2.1 r24.2.2.2.2.1 r24.2.2.2.2.2.1 r24.2.2.2.2.2.2.1).bind fun r31 => (spec_Hello.f k r30.1 r30.2.1 r30.2.2.1 r30.2.2.2.1 r30.2.2.2.2.1 r30.2.2.2.2.2.1 r30.2.2.2.2.2.2.1).bind fun r32 => i2 ((0 : Int), p.2.2.1, p.2.2.2, [(r31.1, r31.2.1, r31.2.2.1, r31.2.2.2.1, r31.2.2.2.2.1, r31.2.2.2.2.2.1, r31.2.2.2.2.2.2.1), (r32.1, r32.2.1, r32.2.2.1, r32.2.2.2.1, r32.2.2.2.2.1, r32.2.2.2.2.2.1, r32.2.2.2.2.2.2.1)], [[r31.2.2.2.2.2.2.2], [r32.2.2.2.2.2.2.2]], [(0 : Int), (0 : Int)]) else none) else none) else none) else none) else none) else none)))
def spec_Greeting.l0 (k : Nat) : Nat → (Bool × Int × (List (ByteArray)) × (List (Int))) → Option ((List (Int × Int × Int × Int × Int × ByteArray × ByteArray)) × Bool)
  | 0 => fun _ => none
  | j + 1 => spec_Greeting.s0 k (spec_Greeting.l0 k j) (spec_Greeting.l2 k k)
def spec_Greeting.S2 (p : (Int × (List (ByteArray)) × (List (Int)) × (List (Int × Int × Int × Int × Int × ByteArray × ByteArray)) × (List ((List (ByteArray)))) × (List (Int)))) : DS := ⟨tl [(1, .at (.whole 16)), (16, .at (.bptr 256 0)), (17, .at (.int .i64 p.1))], lookO [(0, .row 9 .str false p.2.1), (16, .row 3 (.int .i64) false p.2.2.1), (256, .box 59 [.whole 1808, .whole 1809, .whole 1810]), (1808, .row 32 (.two (.int .i64) (.two (.int .i64) (.two (.int .i64) (.two (.int .i64) (.two (.int .i64) (.two .str .str)))))) true p.2.2.2.1), (1809, .deep 24 (.sl 9 .str) p.2.2.2.2.1 none), (1810, .row 3 (.int .i64) true p.2.2.2.2.2)]⟩
def spec_Greeting.S0 (p : (Bool × Int × (List (ByteArray)) × (List (Int)))) : DS := ⟨tl [(0, .at (.whole 0)), (1, .at (.whole 16)), (6, .at (.bool p.1)), (7, .at (.int .i64 p.2.1))], lookO [(0, .row 9 .str false p.2.2.1), (16, .row 3 (.int .i64) false p.2.2.2)]⟩
noncomputable def spec_Greeting.D2 (k : Nat) (j : Nat) (p : (Int × (List (ByteArray)) × (List (Int)) × (List (Int × Int × Int × Int × Int × ByteArray × ByteArray)) × (List ((List (ByteArray)))) × (List (Int)))) : Option ((List (Int × Int × Int × Int × Int × ByteArray × ByteArray)) × Bool) := loopK (normK [0, 16] (spec_Greeting.h 2)) (runK spec_Greeting.x k 0 [0, 16] spec_Greeting.h 2 (sub spec_Greeting.c [1, 1, 1, 1, 1, 1, 1, 1, 1, 0, 1, 0, 0])) j (spec_Greeting.S2 p) (kBlk 2 (kSeq (runK spec_Greeting.x k 0 [0, 16] spec_Greeting.h 0 (sub spec_Greeting.c [1, 1, 1, 1, 1, 1, 1, 1, 1, 1])) (fin tt spec_Greeting.ps spec_Greeting.rs spec_Greeting.vs (.two (.sl 32 (.two (.int .i64) (.two (.int .i64) (.two (.int .i64) (.two (.int .i64) (.two (.int .i64) (.two .str .str))))))) .bool))))
noncomputable def spec_Greeting.D0 (k : Nat) (j : Nat) (p : (Bool × Int × (List (ByteArray)) × (List (Int)))) : Option ((List (Int × Int × Int × Int × Int × ByteArray × ByteArray)) × Bool) := loopK (normK [0, 16] (spec_Greeting.h 0)) (runK spec_Greeting.x k 0 [0, 16] spec_Greeting.h 0 (sub spec_Greeting.c [1, 1, 0, 1, 0, 0])) j (spec_Greeting.S0 p) (kBlk 0 (kSeq (runK spec_Greeting.x k 0 [0, 16] spec_Greeting.h 0 (sub spec_Greeting.c [1, 1, 1])) (fin tt spec_Greeting.ps spec_Greeting.rs spec_Greeting.vs (.two (.sl 32 (.two (.int .i64) (.two (.int .i64) (.two (.int .i64) (.two (.int .i64) (.two (.int .i64) (.two .str .str))))))) .bool))))
theorem spec_Greeting.D2_eq (k : Nat) : ∀ j, spec_Greeting.D2 k j = spec_Greeting.l2 k j := by
  intro j
  induction j with
  | zero => rfl
  | succ j ih =>
    show _ = spec_Greeting.s2 k (spec_Greeting.l2 k j)
    rw [← ih]
    funext p
    kernel_rfl
theorem spec_Greeting.D0_eq (k : Nat) : ∀ j, spec_Greeting.D0 k j = spec_Greeting.l0 k j := by
  intro j
  induction j with
  | zero => rfl
  | succ j ih =>
    show _ = spec_Greeting.s0 k (spec_Greeting.l0 k j) (spec_Greeting.l2 k k)
    rw [← ih, ← spec_Greeting.D2_eq k k]
    funext p
    kernel_rfl
def spec_Greeting.f (k : Nat) (a0 : List (ByteArray)) (a1 : List (Int)) : Option ((List (Int × Int × Int × Int × Int × ByteArray × ByteArray)) × Bool) :=
  (bif ((a0.length : Int) == (4 : Int)) then spec_Greeting.l0 k k ((decide ((a1.length : Int) ≤ (60 : Int))), (0 : Int), a0, a1) else spec_Greeting.l0 k k (false, (0 : Int), a0, a1))
def spec_Greeting.K : Ctr := ⟨spec_Greeting.ps, spec_Greeting.rs, false, (.two (.sl 9 .str) (.sl 3 (.int .i64))), (.two (.sl 32 (.two (.int .i64) (.two (.int .i64) (.two (.int .i64) (.two (.int .i64) (.two (.int .i64) (.two .str .str))))))) .bool), fun k x => spec_Greeting.f k x.1 x.2⟩
theorem spec_Greeting.eq (k : Nat) (x : (spec_Greeting.K.I).den) : func spec_Greeting.x spec_Greeting.h spec_Greeting.ps spec_Greeting.rs spec_Greeting.vs spec_Greeting.K.I spec_Greeting.K.O spec_Greeting.c k x = spec_Greeting.K.run k x := by
  show _ = spec_Greeting.f k x.1 x.2
  unfold spec_Greeting.f
  rw [← spec_Greeting.D0_eq k k]
  kernel_rfl
theorem spec_Greeting.ok : CtrOk Tryz.prog 8 spec_Greeting.K :=
  CtrOk.of (fn := Tryz.f8) (cd := spec_Greeting.c) (cx := spec_Greeting.x) (hs := spec_Greeting.h) (by kernel_rfl) (by kernel_rfl) (by kernel_rfl) (by kernel_rfl) tt_ok (envOk_cons spec_SecretOf.ok (envOk_cons spec_PublicOf.ok (envOk_cons spec_GreeterNew.ok (envOk_cons spec_Hello.ok (envOk_cons spec_l16Do.ok (envOk_nil)))))) (by kernel_rfl) (by kernel_rfl) (by kernel_rfl) (by kernel_rfl) fun k x r h => (spec_Greeting.eq k x).trans h
/-! impl.SharedOf -/
noncomputable def impl_SharedOf.c : Code := bodyOf Tryz.f37
def impl_SharedOf.h : Nat → Hint := look ⟨[], [], []⟩ []
def impl_SharedOf.ps : List PK := [.one, .one]
def impl_SharedOf.rs : List RK := [.one true, .one true]
def impl_SharedOf.vs : List ResultVar := [.tmp 4, .tmp 5]
def impl_SharedOf.x : Cx := ⟨tt, look none [(45, some impl_InGroup.K), (46, some impl_secretOk.K), (47, some impl_PowP.K)]⟩
def impl_SharedOf.f (k : Nat) (a0 : Int) (a1 : Int) : Option (Int × Bool) :=
  (impl_InGroup.f k a1).bind fun r1 => (bif (!r1) then some ((0 : Int), false) else (impl_secretOk.f k a0).bind fun r2 => (bif (!r2) then some ((0 : Int), false) else (impl_PowP.f k a1 a0).bind fun r3 => some (r3, true)))
def impl_SharedOf.K : Ctr := ⟨impl_SharedOf.ps, impl_SharedOf.rs, false, (.two (.int .i64) (.int .i64)), (.two (.int .i64) .bool), fun k x => impl_SharedOf.f k x.1 x.2⟩
theorem impl_SharedOf.eq (k : Nat) (x : (impl_SharedOf.K.I).den) : func impl_SharedOf.x impl_SharedOf.h impl_SharedOf.ps impl_SharedOf.rs impl_SharedOf.vs impl_SharedOf.K.I impl_SharedOf.K.O impl_SharedOf.c k x = impl_SharedOf.K.run k x := by
  show _ = impl_SharedOf.f k x.1 x.2
  kernel_rfl
theorem impl_SharedOf.ok : CtrOk Tryz.prog 37 impl_SharedOf.K :=
  CtrOk.of (fn := Tryz.f37) (cd := impl_SharedOf.c) (cx := impl_SharedOf.x) (hs := impl_SharedOf.h) (by kernel_rfl) (by kernel_rfl) (by kernel_rfl) (by kernel_rfl) tt_ok (envOk_cons impl_InGroup.ok (envOk_cons impl_secretOk.ok (envOk_cons impl_PowP.ok (envOk_nil)))) (by kernel_rfl) (by kernel_rfl) (by kernel_rfl) (by kernel_rfl) fun k x r h => (impl_SharedOf.eq k x).trans h
/-! impl.masked -/
noncomputable def impl_masked.c : Code := bodyOf Tryz.f79
def impl_masked.h : Nat → Hint := look ⟨[], [], []⟩ [(0, ⟨[1, 5, 10, 11], [], [(.t 5, 384, 5, (.int .u8))]⟩)]
def impl_masked.ps : List PK := [.one, .one]
def impl_masked.rs : List RK := [.one true]
def impl_masked.vs : List ResultVar := [.tmp 4]
def impl_masked.x : Cx := ⟨tt, look none []⟩
def impl_masked.s0 (_k : Nat) (rec0 : (Int × Int × Int × (List (Int))) → Option (ByteArray)) (p : (Int × Int × Int × (List (Int)))) : Option (ByteArray) :=
  (bif (decide (p.2.2.1 < p.2.1)) then (bif ((decide ((0 : Int) ≤ p.2.2.1)) && (decide (p.2.2.1 < (p.2.2.2.length : Int)))) then (p.2.2.2[p.2.2.1.toNat]?).bind fun x1 => (bif ((decide ((0 : Int) ≤ p.2.2.1)) && (decide (p.2.2.1 < (p.2.2.2.length : Int)))) then (p.2.2.2[p.2.2.1.toNat]?).bind fun x2 => rec0 (p.1, p.2.1, (IntKind.i64.wrap (p.2.2.1 + (1 : Int))), (p.2.2.2.set p.2.2.1.toNat (IntKind.u8.wrap (((BitVec.ofInt IntKind.u8.bits x1) ^^^ (BitVec.ofInt IntKind.u8.bits p.1)).toNat : Int)))) else none) else none) else some (strOfNums p.2.2.2))
def impl_masked.l0 (k : Nat) : Nat → (Int × Int × Int × (List (Int))) → Option (ByteArray)
  | 0 => fun _ => none
  | j + 1 => impl_masked.s0 k (impl_masked.l0 k j)
def impl_masked.S0 (p : (Int × Int × Int × (List (Int)))) : DS := ⟨tl [(1, .at (.int .u8 p.1)), (5, .at (.whole 384)), (10, .at (.int .i64 p.2.1)), (11, .at (.int .i64 p.2.2.1))], lookO [(384, .row 5 (.int .u8) true p.2.2.2)]⟩
noncomputable def impl_masked.D0 (k : Nat) (j : Nat) (p : (Int × Int × Int × (List (Int)))) : Option (ByteArray) := loopK (normK [] (impl_masked.h 0)) (runK impl_masked.x k 0 [] impl_masked.h 0 (sub impl_masked.c [1, 1, 0, 1, 0, 0])) j (impl_masked.S0 p) (kBlk 0 (kSeq (runK impl_masked.x k 0 [] impl_masked.h 0 (sub impl_masked.c [1, 1, 1])) (fin tt impl_masked.ps impl_masked.rs impl_masked.vs .str)))
theorem impl_masked.D0_eq (k : Nat) : ∀ j, impl_masked.D0 k j = impl_masked.l0 k j := by
  intro j
  induction j with
  | zero => rfl
  | succ j ih =>
    show _ = impl_masked.s0 k (impl_masked.l0 k j)
    rw [← ih]
    funext p
    kernel_rfl
def impl_masked.f (k : Nat) (a0 : ByteArray) (a1 : Int) : Option (ByteArray) :=
  impl_masked.l0 k k (a1, ((numsOf a0).length : Int), (0 : Int), (numsOf a0))
def impl_masked.K : Ctr := ⟨impl_masked.ps, impl_masked.rs, false, (.two .str (.int .u8)), .str, fun k x => impl_masked.f k x.1 x.2⟩
theorem impl_masked.eq (k : Nat) (x : (impl_masked.K.I).den) : func impl_masked.x impl_masked.h impl_masked.ps impl_masked.rs impl_masked.vs impl_masked.K.I impl_masked.K.O impl_masked.c k x = impl_masked.K.run k x := by
  show _ = impl_masked.f k x.1 x.2
  unfold impl_masked.f
  rw [← impl_masked.D0_eq k k]
  kernel_rfl
theorem impl_masked.ok : CtrOk Tryz.prog 79 impl_masked.K :=
  CtrOk.of (fn := Tryz.f79) (cd := impl_masked.c) (cx := impl_masked.x) (hs := impl_masked.h) (by kernel_rfl) (by kernel_rfl) (by kernel_rfl) (by kernel_rfl) tt_ok (envOk_nil) (by kernel_rfl) (by kernel_rfl) (by kernel_rfl) (by kernel_rfl) fun k x r h => (impl_masked.eq k x).trans h
/-! impl.MacOf -/
noncomputable def impl_MacOf.c : Code := bodyOf Tryz.f61
def impl_MacOf.h : Nat → Hint := look ⟨[], [], []⟩ []
def impl_MacOf.ps : List PK := [.one, .one]
def impl_MacOf.rs : List RK := [.one true]
def impl_MacOf.vs : List ResultVar := [.tmp 4]
def impl_MacOf.x : Cx := ⟨tt, look none [(63, some impl_DigestOf.K), (78, some strings_Repeat.K), (79, some impl_masked.K)]⟩
def impl_MacOf.f (k : Nat) (a0 : ByteArray) (a1 : ByteArray) : Option (ByteArray) :=
  (bif (decide ((a0.size : Int) > (64 : Int))) then (impl_DigestOf.f k a0).bind fun r1 => (strings_Repeat.f k (⟨#[0]⟩ : ByteArray) (IntKind.i64.wrap ((64 : Int) - (r1.size : Int)))).bind fun r2 => (bif decide (r1.size + r2.size ≤ 140737488351232) then (impl_masked.f k (r1 ++ r2) (92 : Int)).bind fun r3 => (impl_masked.f k (r1 ++ r2) (54 : Int)).bind fun r4 => (bif decide (r4.size + a1.size ≤ 140737488351232) then (impl_DigestOf.f k (r4 ++ a1)).bind fun r5 => (bif decide (r3.size + r5.size ≤ 140737488351232) then (impl_DigestOf.f k (r3 ++ r5)).bind fun r6 => some r6 else none) else none) else none) else (strings_Repeat.f k (⟨#[0]⟩ : ByteArray) (IntKind.i64.wrap ((64 : Int) - (a0.size : Int)))).bind fun r7 => (bif decide (a0.size + r7.size ≤ 140737488351232) then (impl_masked.f k (a0 ++ r7) (92 : Int)).bind fun r8 => (impl_masked.f k (a0 ++ r7) (54 : Int)).bind fun r9 => (bif decide (r9.size + a1.size ≤ 140737488351232) then (impl_DigestOf.f k (r9 ++ a1)).bind fun r10 => (bif decide (r8.size + r10.size ≤ 140737488351232) then (impl_DigestOf.f k (r8 ++ r10)).bind fun r11 => some r11 else none) else none) else none))
def impl_MacOf.K : Ctr := ⟨impl_MacOf.ps, impl_MacOf.rs, false, (.two .str .str), .str, fun k x => impl_MacOf.f k x.1 x.2⟩
theorem impl_MacOf.eq (k : Nat) (x : (impl_MacOf.K.I).den) : func impl_MacOf.x impl_MacOf.h impl_MacOf.ps impl_MacOf.rs impl_MacOf.vs impl_MacOf.K.I impl_MacOf.K.O impl_MacOf.c k x = impl_MacOf.K.run k x := by
  show _ = impl_MacOf.f k x.1 x.2
  kernel_rfl
theorem impl_MacOf.ok : CtrOk Tryz.prog 61 impl_MacOf.K :=
  CtrOk.of (fn := Tryz.f61) (cd := impl_MacOf.c) (cx := impl_MacOf.x) (hs := impl_MacOf.h) (by kernel_rfl) (by kernel_rfl) (by kernel_rfl) (by kernel_rfl) tt_ok (envOk_cons impl_DigestOf.ok (envOk_cons strings_Repeat.ok (envOk_cons impl_masked.ok (envOk_nil)))) (by kernel_rfl) (by kernel_rfl) (by kernel_rfl) (by kernel_rfl) fun k x r h => (impl_MacOf.eq k x).trans h
/-! impl.Expand -/
noncomputable def impl_Expand.c : Code := bodyOf Tryz.f38
def impl_Expand.h : Nat → Hint := look ⟨[], [], []⟩ [(0, ⟨[0, 1, 2, 8, 9, 10], [], []⟩)]
def impl_Expand.ps : List PK := [.one, .one, .one]
def impl_Expand.rs : List RK := [.one true, .one true]
def impl_Expand.vs : List ResultVar := [.tmp 6, .tmp 7]
def impl_Expand.x : Cx := ⟨tt, look none [(44, some impl_within.K), (49, some impl_byteText.K), (61, some impl_MacOf.K)]⟩
def impl_Expand.s0 (k : Nat) (rec0 : (ByteArray × ByteArray × Int × ByteArray × ByteArray × Int) → Option (ByteArray × Bool)) (p : (ByteArray × ByteArray × Int × ByteArray × ByteArray × Int)) : Option (ByteArray × Bool) :=
  (bif (decide ((p.2.2.2.1.size : Int) < p.2.2.1)) then (bif decide (p.2.2.2.2.1.size + p.2.1.size ≤ 140737488351232) then (impl_byteText.f k p.2.2.2.2.2).bind fun r2 => (bif decide ((p.2.2.2.2.1 ++ p.2.1).size + r2.size ≤ 140737488351232) then (impl_MacOf.f k p.1 ((p.2.2.2.2.1 ++ p.2.1) ++ r2)).bind fun r3 => (bif decide (p.2.2.2.1.size + r3.size ≤ 140737488351232) then rec0 (p.1, p.2.1, p.2.2.1, (p.2.2.2.1 ++ r3), r3, (IntKind.i64.wrap (p.2.2.2.2.2 + (1 : Int)))) else none) else none) else none) else (bif ((decide ((0 : Int) ≤ p.2.2.1)) && (decide (p.2.2.1 ≤ (p.2.2.2.1.size : Int)))) then some ((p.2.2.2.1.extract 0 p.2.2.1.toNat), true) else none))
def impl_Expand.l0 (k : Nat) : Nat → (ByteArray × ByteArray × Int × ByteArray × ByteArray × Int) → Option (ByteArray × Bool)
  | 0 => fun _ => none
  | j + 1 => impl_Expand.s0 k (impl_Expand.l0 k j)
def impl_Expand.S0 (p : (ByteArray × ByteArray × Int × ByteArray × ByteArray × Int)) : DS := ⟨tl [(0, .at (.str p.1)), (1, .at (.str p.2.1)), (2, .at (.int .i64 p.2.2.1)), (8, .at (.str p.2.2.2.1)), (9, .at (.str p.2.2.2.2.1)), (10, .at (.int .i64 p.2.2.2.2.2))], lookO []⟩
noncomputable def impl_Expand.D0 (k : Nat) (j : Nat) (p : (ByteArray × ByteArray × Int × ByteArray × ByteArray × Int)) : Option (ByteArray × Bool) := loopK (normK [] (impl_Expand.h 0)) (runK impl_Expand.x k 0 [] impl_Expand.h 0 (sub impl_Expand.c [1, 1, 1, 0, 1, 0, 0])) j (impl_Expand.S0 p) (kBlk 0 (kSeq (runK impl_Expand.x k 0 [] impl_Expand.h 0 (sub impl_Expand.c [1, 1, 1, 1])) (fin tt impl_Expand.ps impl_Expand.rs impl_Expand.vs (.two .str .bool))))
theorem impl_Expand.D0_eq (k : Nat) : ∀ j, impl_Expand.D0 k j = impl_Expand.l0 k j := by
  intro j
  induction j with
  | zero => rfl
  | succ j ih =>
    show _ = impl_Expand.s0 k (impl_Expand.l0 k j)
    rw [← ih]
    funext p
    kernel_rfl
def impl_Expand.f (k : Nat) (a0 : ByteArray) (a1 : ByteArray) (a2 : Int) : Option (ByteArray × Bool) :=
  (impl_within.f k a2 (0 : Int) (8160 : Int)).bind fun r1 => (bif (!r1) then some (ByteArray.empty, false) else impl_Expand.l0 k k (a0, a1, a2, ByteArray.empty, ByteArray.empty, (1 : Int)))
def impl_Expand.K : Ctr := ⟨impl_Expand.ps, impl_Expand.rs, false, (.two .str (.two .str (.int .i64))), (.two .str .bool), fun k x => impl_Expand.f k x.1 x.2.1 x.2.2⟩
theorem impl_Expand.eq (k : Nat) (x : (impl_Expand.K.I).den) : func impl_Expand.x impl_Expand.h impl_Expand.ps impl_Expand.rs impl_Expand.vs impl_Expand.K.I impl_Expand.K.O impl_Expand.c k x = impl_Expand.K.run k x := by
  show _ = impl_Expand.f k x.1 x.2.1 x.2.2
  unfold impl_Expand.f
  rw [← impl_Expand.D0_eq k k]
  kernel_rfl
theorem impl_Expand.ok : CtrOk Tryz.prog 38 impl_Expand.K :=
  CtrOk.of (fn := Tryz.f38) (cd := impl_Expand.c) (cx := impl_Expand.x) (hs := impl_Expand.h) (by kernel_rfl) (by kernel_rfl) (by kernel_rfl) (by kernel_rfl) tt_ok (envOk_cons impl_within.ok (envOk_cons impl_byteText.ok (envOk_cons impl_MacOf.ok (envOk_nil)))) (by kernel_rfl) (by kernel_rfl) (by kernel_rfl) (by kernel_rfl) fun k x r h => (impl_Expand.eq k x).trans h
/-! impl.KeysOf -/
noncomputable def impl_KeysOf.c : Code := bodyOf Tryz.f9
def impl_KeysOf.h : Nat → Hint := look ⟨[], [], []⟩ []
def impl_KeysOf.ps : List PK := [.agg 7]
def impl_KeysOf.rs : List RK := [.one true, .one true, .one true]
def impl_KeysOf.vs : List ResultVar := [.tmp 2, .tmp 3, .tmp 4]
def impl_KeysOf.x : Cx := ⟨tt, look none [(36, some impl_otherRole.K), (35, some impl_greeted.K), (37, some impl_SharedOf.K), (39, some impl_NumberText.K), (10, some impl_Transcript.K), (38, some impl_Expand.K)]⟩
def impl_KeysOf.f (k : Nat) (a0_0 : Int) (a0_1 : Int) (a0_2 : Int) (a0_3 : Int) (a0_4 : Int) (a0_5 : ByteArray) (a0_6 : ByteArray) : Option (ByteArray × ByteArray × Bool) :=
  (impl_otherRole.f k a0_0 a0_1 a0_2 a0_3 a0_4 a0_5 a0_6).bind fun r1 => (impl_greeted.f k a0_6 r1).bind fun r2 => (impl_SharedOf.f k a0_3 r2.1).bind fun r3 => (bif (a0_4 != (3 : Int)) then some (ByteArray.empty, ByteArray.empty, false) else (bif (!r2.2) then some (ByteArray.empty, ByteArray.empty, false) else (bif (!r3.2) then some (ByteArray.empty, ByteArray.empty, false) else (impl_NumberText.f k r3.1).bind fun r4 => (impl_Transcript.f k a0_0 a0_1 a0_2 a0_3 a0_4 a0_5 a0_6).bind fun r5 => (impl_Expand.f k r4 r5 (64 : Int)).bind fun r6 => (bif (a0_0 == (1 : Int)) then (bif (true && (decide ((32 : Int) ≤ (r6.1.size : Int)))) then (bif (true && (decide ((32 : Int) ≤ (r6.1.size : Int)))) then some ((r6.1.extract 0 32), (r6.1.extract 32 r6.1.size), true) else none) else none) else (bif (true && (decide ((32 : Int) ≤ (r6.1.size : Int)))) then (bif (true && (decide ((32 : Int) ≤ (r6.1.size : Int)))) then some ((r6.1.extract 32 r6.1.size), (r6.1.extract 0 32), true) else none) else none)))))
def impl_KeysOf.K : Ctr := ⟨impl_KeysOf.ps, impl_KeysOf.rs, false, (.two (.int .i64) (.two (.int .i64) (.two (.int .i64) (.two (.int .i64) (.two (.int .i64) (.two .str .str)))))), (.two .str (.two .str .bool)), fun k x => impl_KeysOf.f k x.1 x.2.1 x.2.2.1 x.2.2.2.1 x.2.2.2.2.1 x.2.2.2.2.2.1 x.2.2.2.2.2.2⟩
theorem impl_KeysOf.eq (k : Nat) (x : (impl_KeysOf.K.I).den) : func impl_KeysOf.x impl_KeysOf.h impl_KeysOf.ps impl_KeysOf.rs impl_KeysOf.vs impl_KeysOf.K.I impl_KeysOf.K.O impl_KeysOf.c k x = impl_KeysOf.K.run k x := by
  show _ = impl_KeysOf.f k x.1 x.2.1 x.2.2.1 x.2.2.2.1 x.2.2.2.2.1 x.2.2.2.2.2.1 x.2.2.2.2.2.2
  kernel_rfl
theorem impl_KeysOf.ok : CtrOk Tryz.prog 9 impl_KeysOf.K :=
  CtrOk.of (fn := Tryz.f9) (cd := impl_KeysOf.c) (cx := impl_KeysOf.x) (hs := impl_KeysOf.h) (by kernel_rfl) (by kernel_rfl) (by kernel_rfl) (by kernel_rfl) tt_ok (envOk_cons impl_otherRole.ok (envOk_cons impl_greeted.ok (envOk_cons impl_SharedOf.ok (envOk_cons impl_NumberText.ok (envOk_cons impl_Transcript.ok (envOk_cons impl_Expand.ok (envOk_nil))))))) (by kernel_rfl) (by kernel_rfl) (by kernel_rfl) (by kernel_rfl) fun k x r h => (impl_KeysOf.eq k x).trans h
/-! laws.FnGreets -/
noncomputable def laws_FnGreets.c : Code := bodyOf Tryz.f3
def laws_FnGreets.h : Nat → Hint := look ⟨[], [], []⟩ []
def laws_FnGreets.ps : List PK := [.one]
def laws_FnGreets.rs : List RK := [.one true]
def laws_FnGreets.vs : List ResultVar := [.tmp 2]
def laws_FnGreets.x : Cx := ⟨tt, look none [(5, some laws_big.K), (6, some spec_DrawSeeds.K), (7, some impl_Greeting.K), (8, some spec_Greeting.K), (9, some impl_KeysOf.K), (10, some impl_Transcript.K)]⟩
def laws_FnGreets.f (k : Nat) (a0 : List (Int)) : Option (Bool) :=
  (laws_big.f k a0).bind fun r1 => (bif r1 then some true else (spec_DrawSeeds.f k a0).bind fun r2 => (impl_Greeting.f k r2.1 r2.2).bind fun r3 => (spec_Greeting.f k r2.1 r2.2).bind fun r4 => (bif (!r3.2) then some false else (bif ((r3.1.length : Int) != (2 : Int)) then some false else (bif (true && (decide ((0 : Int) < (r3.1.length : Int)))) then (r3.1[0]?).bind fun x5 => (bif (true && (decide ((0 : Int) < (r4.1.length : Int)))) then (r4.1[0]?).bind fun x6 => (bif (!((x5.1 == x6.1) && ((x5.2.1 == x6.2.1) && ((x5.2.2.1 == x6.2.2.1) && ((x5.2.2.2.1 == x6.2.2.2.1) && ((x5.2.2.2.2.1 == x6.2.2.2.2.1) && ((x5.2.2.2.2.2.1 == x6.2.2.2.2.2.1) && (x5.2.2.2.2.2.2 == x6.2.2.2.2.2.2)))))))) then some false else (bif (true && (decide ((1 : Int) < (r3.1.length : Int)))) then (r3.1[1]?).bind fun x7 => (bif (true && (decide ((1 : Int) < (r4.1.length : Int)))) then (r4.1[1]?).bind fun x8 => (bif (!((x7.1 == x8.1) && ((x7.2.1 == x8.2.1) && ((x7.2.2.1 == x8.2.2.1) && ((x7.2.2.2.1 == x8.2.2.2.1) && ((x7.2.2.2.2.1 == x8.2.2.2.2.1) && ((x7.2.2.2.2.2.1 == x8.2.2.2.2.2.1) && (x7.2.2.2.2.2.2 == x8.2.2.2.2.2.2)))))))) then some false else (bif (true && (decide ((0 : Int) < (r3.1.length : Int)))) then (r3.1[0]?).bind fun x9 => (bif (true && (decide ((1 : Int) < (r3.1.length : Int)))) then (r3.1[1]?).bind fun x10 => (impl_KeysOf.f k x9.1 x9.2.1 x9.2.2.1 x9.2.2.2.1 x9.2.2.2.2.1 x9.2.2.2.2.2.1 x9.2.2.2.2.2.2).bind fun r11 => (impl_KeysOf.f k x10.1 x10.2.1 x10.2.2.1 x10.2.2.2.1 x10.2.2.2.2.1 x10.2.2.2.2.2.1 x10.2.2.2.2.2.2).bind fun r12 => (bif (!(r11.2.2 == (x9.2.2.2.2.1 == (3 : Int)))) then some false else (bif (!(r12.2.2 == (x10.2.2.2.2.1 == (3 : Int)))) then some false else (bif (!r11.2.2) then some true else (bif (!r12.2.2) then some true else (impl_Transcript.f k x9.1 x9.2.1 x9.2.2.1 x9.2.2.2.1 x9.2.2.2.2.1 x9.2.2.2.2.2.1 x9.2.2.2.2.2.2).bind fun r13 => (impl_Transcript.f k x10.1 x10.2.1 x10.2.2.1 x10.2.2.2.1 x10.2.2.2.2.1 x10.2.2.2.2.2.1 x10.2.2.2.2.2.2).bind fun r14 => (bif (r13.toList == r14.toList) then (bif (x9.2.2.2.2.2.2.toList == x10.2.2.2.2.2.1.toList) then (bif (x10.2.2.2.2.2.2.toList == x9.2.2.2.2.2.1.toList) then (bif (r11.1.toList == r12.2.1.toList) then (bif (r11.2.1.toList == r12.1.toList) then some ((r11.1.size : Int) == (32 : Int)) else some false) else some false) else some false) else some false) else some false))))) else none) else none)) else none) else none)) else none) else none))))
def laws_FnGreets.K : Ctr := ⟨laws_FnGreets.ps, laws_FnGreets.rs, false, (.sl 5 (.int .u8)), .bool, fun k x => laws_FnGreets.f k x⟩
theorem laws_FnGreets.eq (k : Nat) (x : (laws_FnGreets.K.I).den) : func laws_FnGreets.x laws_FnGreets.h laws_FnGreets.ps laws_FnGreets.rs laws_FnGreets.vs laws_FnGreets.K.I laws_FnGreets.K.O laws_FnGreets.c k x = laws_FnGreets.K.run k x := by
  show _ = laws_FnGreets.f k x
  kernel_rfl
theorem laws_FnGreets.ok : CtrOk Tryz.prog 3 laws_FnGreets.K :=
  CtrOk.of (fn := Tryz.f3) (cd := laws_FnGreets.c) (cx := laws_FnGreets.x) (hs := laws_FnGreets.h) (by kernel_rfl) (by kernel_rfl) (by kernel_rfl) (by kernel_rfl) tt_ok (envOk_cons laws_big.ok (envOk_cons spec_DrawSeeds.ok (envOk_cons impl_Greeting.ok (envOk_cons spec_Greeting.ok (envOk_cons impl_KeysOf.ok (envOk_cons impl_Transcript.ok (envOk_nil))))))) (by kernel_rfl) (by kernel_rfl) (by kernel_rfl) (by kernel_rfl) fun k x r h => (laws_FnGreets.eq k x).trans h
end Go.Proofs.YtpinehfjimphmaaGreat.DI
