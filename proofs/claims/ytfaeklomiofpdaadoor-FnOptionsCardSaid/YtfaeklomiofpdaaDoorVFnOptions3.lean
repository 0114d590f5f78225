/- FnOptions: functions as plain Lean, in the machine of values. -/
import Derived.Test.YtfaeklomiofpdaaDoorVFnOptions2
namespace Go.Proofs.YtfaeklomiofpdaaDoor.DI
open Go
set_option linter.unusedVariables false
/-! spec.OptionText -/
noncomputable def spec_OptionText.c : Code := bodyOf Tryd.f7
def spec_OptionText.h : Nat → Hint := look ⟨[], [], []⟩ [(0, ⟨[1, 4, 5], [16], []⟩)]
def spec_OptionText.ps : List PK := [.agg 3]
def spec_OptionText.rs : List RK := [.one true, .one true]
def spec_OptionText.vs : List ResultVar := [.tmp 2, .tmp 3]
def spec_OptionText.x : Cx := ⟨tt, look none [(23, some spec_OptionsOk.K), (24, some spec_Decimal.K)]⟩
def spec_OptionText.s0 (_k : Nat) (rec0 : (ByteArray × Int × (List (ByteArray)) × Int × Bool) → Option (ByteArray × Bool)) (p : (ByteArray × Int × (List (ByteArray)) × Int × Bool)) : Option (ByteArray × Bool) :=
  (bif (decide (p.2.1 < (p.2.2.1.length : Int))) then (bif (decide (p.2.1 > (0 : Int))) then (bif decide (p.1.size + (⟨#[44]⟩ : ByteArray).size ≤ 140737488351232) then (bif ((decide ((0 : Int) ≤ p.2.1)) && (decide (p.2.1 < (p.2.2.1.length : Int)))) then (p.2.2.1[p.2.1.toNat]?).bind fun x3 => (bif decide ((p.1 ++ (⟨#[44]⟩ : ByteArray)).size + x3.size ≤ 140737488351232) then rec0 (((p.1 ++ (⟨#[44]⟩ : ByteArray)) ++ x3), (IntKind.i64.wrap (p.2.1 + (1 : Int))), p.2.2.1, p.2.2.2.1, p.2.2.2.2) else none) else none) else none) else (bif ((decide ((0 : Int) ≤ p.2.1)) && (decide (p.2.1 < (p.2.2.1.length : Int)))) then (p.2.2.1[p.2.1.toNat]?).bind fun x4 => (bif decide (p.1.size + x4.size ≤ 140737488351232) then rec0 ((p.1 ++ x4), (IntKind.i64.wrap (p.2.1 + (1 : Int))), p.2.2.1, p.2.2.2.1, p.2.2.2.2) else none) else none)) else (bif p.2.2.2.2 then (bif decide (p.1.size + (⟨#[59, 112, 105, 101, 99, 101, 115]⟩ : ByteArray).size ≤ 140737488351232) then some ((p.1 ++ (⟨#[59, 112, 105, 101, 99, 101, 115]⟩ : ByteArray)), true) else none) else some (p.1, true)))
def spec_OptionText.l0 (k : Nat) : Nat → (ByteArray × Int × (List (ByteArray)) × Int × Bool) → Option (ByteArray × Bool)
  | 0 => fun _ => none
  | j + 1 => spec_OptionText.s0 k (spec_OptionText.l0 k j)
def spec_OptionText.S0 (p : (ByteArray × Int × (List (ByteArray)) × Int × Bool)) : DS := ⟨tl [(1, .at (.bptr 16 0)), (4, .at (.str p.1)), (5, .at (.int .i64 p.2.1))], lookO [(1, .row 9 .str false p.2.2.1), (16, .box 28 [.int .i64 p.2.2.2.1, .whole 1, .bool p.2.2.2.2])]⟩
noncomputable def spec_OptionText.D0 (k : Nat) (j : Nat) (p : (ByteArray × Int × (List (ByteArray)) × Int × Bool)) : Option (ByteArray × Bool) := loopK (norm [1] (spec_OptionText.h 0)) (runK spec_OptionText.x k 0 [1] spec_OptionText.h 0 (sub spec_OptionText.c [1, 1, 1, 0, 1, 0, 0])) j (spec_OptionText.S0 p) (kBlk 0 (kSeq (runK spec_OptionText.x k 0 [1] spec_OptionText.h 0 (sub spec_OptionText.c [1, 1, 1, 1])) (fin tt spec_OptionText.ps spec_OptionText.rs spec_OptionText.vs (.two .str .bool))))
theorem spec_OptionText.D0_eq (k : Nat) : ∀ j, spec_OptionText.D0 k j = spec_OptionText.l0 k j := by
  intro j
  induction j with
  | zero => rfl
  | succ j ih =>
    show _ = spec_OptionText.s0 k (spec_OptionText.l0 k j)
    rw [← ih]
    funext p
    kernel_rfl
def spec_OptionText.f (k : Nat) (a0_0 : Int) (a0_1 : List (ByteArray)) (a0_2 : Bool) : Option (ByteArray × Bool) :=
  (spec_OptionsOk.f k a0_0 a0_1 a0_2).bind fun r1 => (bif (!r1) then some (ByteArray.empty, false) else (spec_Decimal.f k a0_0).bind fun r2 => (bif decide ((⟨#[115, 105, 122, 101, 32]⟩ : ByteArray).size + r2.size ≤ 140737488351232) then (bif decide (((⟨#[115, 105, 122, 101, 32]⟩ : ByteArray) ++ r2).size + (⟨#[59, 119, 97, 121, 115, 32]⟩ : ByteArray).size ≤ 140737488351232) then spec_OptionText.l0 k k ((((⟨#[115, 105, 122, 101, 32]⟩ : ByteArray) ++ r2) ++ (⟨#[59, 119, 97, 121, 115, 32]⟩ : ByteArray)), (0 : Int), a0_1, a0_0, a0_2) else none) else none))
def spec_OptionText.K : Ctr := ⟨spec_OptionText.ps, spec_OptionText.rs, false, (.two (.int .i64) (.two (.sl 9 .str) .bool)), (.two .str .bool), fun k x => spec_OptionText.f k x.1 x.2.1 x.2.2⟩
theorem spec_OptionText.eq (k : Nat) (x : (spec_OptionText.K.I).den) : func spec_OptionText.x spec_OptionText.h spec_OptionText.ps spec_OptionText.rs spec_OptionText.vs spec_OptionText.K.I spec_OptionText.K.O spec_OptionText.c k x = spec_OptionText.K.run k x := by
  show _ = spec_OptionText.f k x.1 x.2.1 x.2.2
  unfold spec_OptionText.f
  rw [← spec_OptionText.D0_eq k k]
  kernel_rfl
theorem spec_OptionText.ok : CtrOk Tryd.prog 7 spec_OptionText.K :=
  CtrOk.of (fn := Tryd.f7) (cd := spec_OptionText.c) (cx := spec_OptionText.x) (hs := spec_OptionText.h) (by kernel_rfl) (by kernel_rfl) (by kernel_rfl) (by kernel_rfl) tt_ok (envOk_cons spec_OptionsOk.ok (envOk_cons spec_Decimal.ok (envOk_nil))) (by kernel_rfl) (by kernel_rfl) (by kernel_rfl) (by kernel_rfl) fun k x r h => (spec_OptionText.eq k x).trans h
/-! spec.l01Text -/
noncomputable def spec_l01Text.c : Code := bodyOf Tryd.f65
def spec_l01Text.h : Nat → Hint := look ⟨[], [], []⟩ [(0, ⟨[0, 1, 5, 6], [], [(.b 0 0, 368, 5, (.int .u8)), (.t 5, 369, 5, (.int .u8))]⟩)]
def spec_l01Text.ps : List PK := [.box 76 3, .one]
def spec_l01Text.rs : List RK := [.one true]
def spec_l01Text.vs : List ResultVar := [.tmp 4]
def spec_l01Text.x : Cx := ⟨tt, look none [(64, some spec_l01Byte.K)]⟩
def spec_l01Text.s0 (k : Nat) (rec0 : (Int × Int × Int × Int × (List (Int)) × (List (Int)) × (List (Int))) → Option (ByteArray × (List (Int)) × Int × Int)) (p : (Int × Int × Int × Int × (List (Int)) × (List (Int)) × (List (Int)))) : Option (ByteArray × (List (Int)) × Int × Int) :=
  (bif (decide (p.2.1 < p.1)) then (spec_l01Byte.f k p.2.2.2.2.2.1 p.2.2.1 p.2.2.2.1).bind fun r1 => (bif decide ((p.2.2.2.2.2.2.length + [(IntKind.u8.wrap r1.1)].length) * 1 ≤ 140737488355328) then rec0 (p.1, (IntKind.i64.wrap (p.2.1 + (1 : Int))), r1.2.2.1, r1.2.2.2, p.2.2.2.2.1, r1.2.1, (p.2.2.2.2.2.2 ++ [(IntKind.u8.wrap r1.1)])) else none) else some ((strOfNums p.2.2.2.2.2.2), p.2.2.2.2.2.1, p.2.2.1, p.2.2.2.1))
def spec_l01Text.l0 (k : Nat) : Nat → (Int × Int × Int × Int × (List (Int)) × (List (Int)) × (List (Int))) → Option (ByteArray × (List (Int)) × Int × Int)
  | 0 => fun _ => none
  | j + 1 => spec_l01Text.s0 k (spec_l01Text.l0 k j)
def spec_l01Text.S0 (p : (Int × Int × Int × Int × (List (Int)) × (List (Int)) × (List (Int)))) : DS := ⟨tl [(0, .at (.bptr 0 0)), (1, .at (.int .i64 p.1)), (5, .at (.whole 369)), (6, .at (.int .i64 p.2.1))], lookO [(0, .box 76 [.whole 368, .int .i64 p.2.2.1, .int .i64 p.2.2.2.1]), (1, .row 5 (.int .u8) false p.2.2.2.2.1), (368, .row 5 (.int .u8) false p.2.2.2.2.2.1), (369, .row 5 (.int .u8) true p.2.2.2.2.2.2)]⟩
noncomputable def spec_l01Text.D0 (k : Nat) (j : Nat) (p : (Int × Int × Int × Int × (List (Int)) × (List (Int)) × (List (Int)))) : Option (ByteArray × (List (Int)) × Int × Int) := loopK (norm [0, 1] (spec_l01Text.h 0)) (runK spec_l01Text.x k 0 [0, 1] spec_l01Text.h 0 (sub spec_l01Text.c [1, 1, 1, 0, 1, 0, 0])) j (spec_l01Text.S0 p) (kBlk 0 (kSeq (runK spec_l01Text.x k 0 [0, 1] spec_l01Text.h 0 (sub spec_l01Text.c [1, 1, 1, 1])) (fin tt spec_l01Text.ps spec_l01Text.rs spec_l01Text.vs (.two .str (.two (.sl 5 (.int .u8)) (.two (.int .i64) (.int .i64)))))))
theorem spec_l01Text.D0_eq (k : Nat) : ∀ j, spec_l01Text.D0 k j = spec_l01Text.l0 k j := by
  intro j
  induction j with
  | zero => rfl
  | succ j ih =>
    show _ = spec_l01Text.s0 k (spec_l01Text.l0 k j)
    rw [← ih]
    funext p
    kernel_rfl
def spec_l01Text.f (k : Nat) (a0_0 : List (Int)) (a0_1 : Int) (a0_2 : Int) (a1 : Int) : Option (ByteArray × (List (Int)) × Int × Int) :=
  (bif (decide (a1 > (5000 : Int))) then spec_l01Text.l0 k k ((5000 : Int), (0 : Int), a0_1, a0_2, a0_0, a0_0, ([] : List (Int))) else spec_l01Text.l0 k k (a1, (0 : Int), a0_1, a0_2, a0_0, a0_0, ([] : List (Int))))
def spec_l01Text.K : Ctr := ⟨spec_l01Text.ps, spec_l01Text.rs, true, (.two (.sl 5 (.int .u8)) (.two (.int .i64) (.two (.int .i64) (.int .i64)))), (.two .str (.two (.sl 5 (.int .u8)) (.two (.int .i64) (.int .i64)))), fun k x => spec_l01Text.f k x.1 x.2.1 x.2.2.1 x.2.2.2⟩
theorem spec_l01Text.eq (k : Nat) (x : (spec_l01Text.K.I).den) : func spec_l01Text.x spec_l01Text.h spec_l01Text.ps spec_l01Text.rs spec_l01Text.vs spec_l01Text.K.I spec_l01Text.K.O spec_l01Text.c k x = spec_l01Text.K.run k x := by
  show _ = spec_l01Text.f k x.1 x.2.1 x.2.2.1 x.2.2.2
  unfold spec_l01Text.f
  rw [← spec_l01Text.D0_eq k k]
  kernel_rfl
theorem spec_l01Text.ok : CtrOk Tryd.prog 65 spec_l01Text.K :=
  CtrOk.of (fn := Tryd.f65) (cd := spec_l01Text.c) (cx := spec_l01Text.x) (hs := spec_l01Text.h) (by kernel_rfl) (by kernel_rfl) (by kernel_rfl) (by kernel_rfl) tt_ok (envOk_cons spec_l01Byte.ok (envOk_nil)) (by kernel_rfl) (by kernel_rfl) (by kernel_rfl) (by kernel_rfl) fun k x r h => (spec_l01Text.eq k x).trans h
/-! spec.l02Spoilt -/
noncomputable def spec_l02Spoilt.c : Code := bodyOf Tryd.f45
def spec_l02Spoilt.h : Nat → Hint := look ⟨[], [], []⟩ []
def spec_l02Spoilt.ps : List PK := [.box 76 3, .one]
def spec_l02Spoilt.rs : List RK := [.one true]
def spec_l02Spoilt.vs : List ResultVar := [.tmp 4]
def spec_l02Spoilt.x : Cx := ⟨tt, look none [(43, some spec_l01Below.K), (65, some spec_l01Text.K)]⟩
def spec_l02Spoilt.f (k : Nat) (a0_0 : List (Int)) (a0_1 : Int) (a0_2 : Int) (a1 : ByteArray) : Option (ByteArray × (List (Int)) × Int × Int) :=
  (spec_l01Below.f k a0_0 a0_1 a0_2 (12 : Int)).bind fun r1 => (bif (r1.1 == (0 : Int)) then (spec_l01Text.f k r1.2.1 r1.2.2.1 r1.2.2.2 (1 : Int)).bind fun r2 => (bif decide (a1.size + r2.1.size ≤ 140737488351232) then some ((a1 ++ r2.1), r2.2.1, r2.2.2.1, r2.2.2.2) else none) else (bif (r1.1 == (1 : Int)) then (spec_l01Below.f k r1.2.1 r1.2.2.1 r1.2.2.2 (IntKind.i64.wrap ((a1.size : Int) + (1 : Int)))).bind fun r3 => (bif ((decide ((0 : Int) ≤ r3.1)) && (decide (r3.1 ≤ (a1.size : Int)))) then some ((a1.extract 0 r3.1.toNat), r3.2.1, r3.2.2.1, r3.2.2.2) else none) else (bif (r1.1 == (2 : Int)) then (bif (r1.1 == (2 : Int)) then (bif (decide ((a1.size : Int) > (0 : Int))) then (spec_l01Below.f k r1.2.1 r1.2.2.1 r1.2.2.2 (a1.size : Int)).bind fun r4 => (bif ((decide ((0 : Int) ≤ r4.1)) && (decide (r4.1 ≤ (a1.size : Int)))) then (spec_l01Text.f k r4.2.1 r4.2.2.1 r4.2.2.2 (1 : Int)).bind fun r5 => (bif decide ((a1.extract 0 r4.1.toNat).size + r5.1.size ≤ 140737488351232) then (bif ((decide ((0 : Int) ≤ (IntKind.i64.wrap (r4.1 + (1 : Int))))) && (decide ((IntKind.i64.wrap (r4.1 + (1 : Int))) ≤ (a1.size : Int)))) then (bif decide (((a1.extract 0 r4.1.toNat) ++ r5.1).size + (a1.extract (IntKind.i64.wrap (r4.1 + (1 : Int))).toNat a1.size).size ≤ 140737488351232) then some ((((a1.extract 0 r4.1.toNat) ++ r5.1) ++ (a1.extract (IntKind.i64.wrap (r4.1 + (1 : Int))).toNat a1.size)), r5.2.1, r5.2.2.1, r5.2.2.2) else none) else none) else none) else none) else some (a1, r1.2.1, r1.2.2.1, r1.2.2.2)) else some (a1, r1.2.1, r1.2.2.1, r1.2.2.2)) else (bif (r1.1 == (3 : Int)) then (bif (decide ((a1.size : Int) > (0 : Int))) then (spec_l01Below.f k r1.2.1 r1.2.2.1 r1.2.2.2 (a1.size : Int)).bind fun r6 => (bif ((decide ((0 : Int) ≤ r6.1)) && (decide (r6.1 ≤ (a1.size : Int)))) then (spec_l01Text.f k r6.2.1 r6.2.2.1 r6.2.2.2 (1 : Int)).bind fun r7 => (bif decide ((a1.extract 0 r6.1.toNat).size + r7.1.size ≤ 140737488351232) then (bif ((decide ((0 : Int) ≤ (IntKind.i64.wrap (r6.1 + (1 : Int))))) && (decide ((IntKind.i64.wrap (r6.1 + (1 : Int))) ≤ (a1.size : Int)))) then (bif decide (((a1.extract 0 r6.1.toNat) ++ r7.1).size + (a1.extract (IntKind.i64.wrap (r6.1 + (1 : Int))).toNat a1.size).size ≤ 140737488351232) then some ((((a1.extract 0 r6.1.toNat) ++ r7.1) ++ (a1.extract (IntKind.i64.wrap (r6.1 + (1 : Int))).toNat a1.size)), r7.2.1, r7.2.2.1, r7.2.2.2) else none) else none) else none) else none) else some (a1, r1.2.1, r1.2.2.1, r1.2.2.2)) else some (a1, r1.2.1, r1.2.2.1, r1.2.2.2)))))
def spec_l02Spoilt.K : Ctr := ⟨spec_l02Spoilt.ps, spec_l02Spoilt.rs, true, (.two (.sl 5 (.int .u8)) (.two (.int .i64) (.two (.int .i64) .str))), (.two .str (.two (.sl 5 (.int .u8)) (.two (.int .i64) (.int .i64)))), fun k x => spec_l02Spoilt.f k x.1 x.2.1 x.2.2.1 x.2.2.2⟩
theorem spec_l02Spoilt.eq (k : Nat) (x : (spec_l02Spoilt.K.I).den) : func spec_l02Spoilt.x spec_l02Spoilt.h spec_l02Spoilt.ps spec_l02Spoilt.rs spec_l02Spoilt.vs spec_l02Spoilt.K.I spec_l02Spoilt.K.O spec_l02Spoilt.c k x = spec_l02Spoilt.K.run k x := by
  show _ = spec_l02Spoilt.f k x.1 x.2.1 x.2.2.1 x.2.2.2
  kernel_rfl
theorem spec_l02Spoilt.ok : CtrOk Tryd.prog 45 spec_l02Spoilt.K :=
  CtrOk.of (fn := Tryd.f45) (cd := spec_l02Spoilt.c) (cx := spec_l02Spoilt.x) (hs := spec_l02Spoilt.h) (by kernel_rfl) (by kernel_rfl) (by kernel_rfl) (by kernel_rfl) tt_ok (envOk_cons spec_l01Below.ok (envOk_cons spec_l01Text.ok (envOk_nil))) (by kernel_rfl) (by kernel_rfl) (by kernel_rfl) (by kernel_rfl) fun k x r h => (spec_l02Spoilt.eq k x).trans h
/-! spec.DrawReadOption -/
noncomputable def spec_DrawReadOption.c : Code := bodyOf Tryd.f20
def spec_DrawReadOption.h : Nat → Hint := look ⟨[], [], []⟩ []
def spec_DrawReadOption.ps : List PK := [.one]
def spec_DrawReadOption.rs : List RK := [.one true]
def spec_DrawReadOption.vs : List ResultVar := [.tmp 2]
def spec_DrawReadOption.x : Cx := ⟨tt, look none [(38, some spec_l01New.K), (42, some spec_l15Any.K), (7, some spec_OptionText.K), (43, some spec_l01Below.K), (44, some spec_l01Pick.K), (45, some spec_l02Spoilt.K)]⟩
def spec_DrawReadOption.f (k : Nat) (a0 : List (Int)) : Option (ByteArray) :=
  (spec_l01New.f k a0).bind fun r1 => (spec_l15Any.f k r1.1 r1.2.1 r1.2.2).bind fun r2 => (spec_OptionText.f k r2.1 r2.2.1 r2.2.2.1).bind fun r3 => (spec_l01Below.f k r2.2.2.2.1 r2.2.2.2.2.1 r2.2.2.2.2.2 (6 : Int)).bind fun r4 => (bif (r4.1 == (0 : Int)) then (spec_l01Pick.f k r4.2.1 r4.2.2.1 r4.2.2.2 [ByteArray.empty, (⟨#[115, 105, 122, 101, 32, 51, 48]⟩ : ByteArray), (⟨#[115, 105, 122, 101, 32, 51, 48, 59, 119, 97, 121, 115]⟩ : ByteArray), (⟨#[115, 105, 122, 101, 32, 51, 48, 59, 119, 97, 121, 115, 32, 97, 59, 112, 105, 101, 99, 101, 115, 59]⟩ : ByteArray), (⟨#[115, 105, 122, 101, 32, 48, 51, 48, 59, 119, 97, 121, 115, 32, 97]⟩ : ByteArray), (⟨#[119, 97, 121, 115, 32, 97, 59, 115, 105, 122, 101, 32, 51, 48]⟩ : ByteArray), (⟨#[115, 105, 122, 101, 32, 51, 48, 59, 119, 97, 121, 115, 32, 97, 59, 112, 105, 101, 99, 101, 115]⟩ : ByteArray)]).bind fun r5 => some r5.1 else (bif (r4.1 == (1 : Int)) then (spec_l02Spoilt.f k r4.2.1 r4.2.2.1 r4.2.2.2 r3.1).bind fun r6 => some r6.1 else some r3.1))
def spec_DrawReadOption.K : Ctr := ⟨spec_DrawReadOption.ps, spec_DrawReadOption.rs, false, (.sl 5 (.int .u8)), .str, fun k x => spec_DrawReadOption.f k x⟩
theorem spec_DrawReadOption.eq (k : Nat) (x : (spec_DrawReadOption.K.I).den) : func spec_DrawReadOption.x spec_DrawReadOption.h spec_DrawReadOption.ps spec_DrawReadOption.rs spec_DrawReadOption.vs spec_DrawReadOption.K.I spec_DrawReadOption.K.O spec_DrawReadOption.c k x = spec_DrawReadOption.K.run k x := by
  show _ = spec_DrawReadOption.f k x
  kernel_rfl
theorem spec_DrawReadOption.ok : CtrOk Tryd.prog 20 spec_DrawReadOption.K :=
  CtrOk.of (fn := Tryd.f20) (cd := spec_DrawReadOption.c) (cx := spec_DrawReadOption.x) (hs := spec_DrawReadOption.h) (by kernel_rfl) (by kernel_rfl) (by kernel_rfl) (by kernel_rfl) tt_ok (envOk_cons spec_l01New.ok (envOk_cons spec_l15Any.ok (envOk_cons spec_OptionText.ok (envOk_cons spec_l01Below.ok (envOk_cons spec_l01Pick.ok (envOk_cons spec_l02Spoilt.ok (envOk_nil))))))) (by kernel_rfl) (by kernel_rfl) (by kernel_rfl) (by kernel_rfl) fun k x r h => (spec_DrawReadOption.eq k x).trans h
/-! spec.l08Split -/
noncomputable def spec_l08Split.c : Code := bodyOf Tryd.f29
def spec_l08Split.h : Nat → Hint := look ⟨[], [], []⟩ [(0, ⟨[0, 1, 5, 6, 7], [], [(.t 5, 576, 9, .str)]⟩)]
def spec_l08Split.ps : List PK := [.one, .one]
def spec_l08Split.rs : List RK := [.one true]
def spec_l08Split.vs : List ResultVar := [.tmp 4]
def spec_l08Split.x : Cx := ⟨tt, look none []⟩
def spec_l08Split.s0 (_k : Nat) (rec0 : (ByteArray × Int × Int × Int × (List (ByteArray))) → Option ((List (ByteArray)))) (p : (ByteArray × Int × Int × Int × (List (ByteArray)))) : Option ((List (ByteArray))) :=
  (bif (decide (p.2.2.2.1 ≤ (p.1.size : Int))) then (bif (p.2.2.2.1 == (p.1.size : Int)) then (bif ((decide ((0 : Int) ≤ p.2.2.1)) && ((decide (p.2.2.1 ≤ p.2.2.2.1)) && (decide (p.2.2.2.1 ≤ (p.1.size : Int))))) then (bif decide ((p.2.2.2.2.length + [(p.1.extract p.2.2.1.toNat p.2.2.2.1.toNat)].length) * 16 ≤ 140737488355328) then rec0 (p.1, p.2.1, (IntKind.i64.wrap (p.2.2.2.1 + (1 : Int))), (IntKind.i64.wrap (p.2.2.2.1 + (1 : Int))), (p.2.2.2.2 ++ [(p.1.extract p.2.2.1.toNat p.2.2.2.1.toNat)])) else none) else none) else (bif (decide ((0 : Int) ≤ p.2.2.2.1)) then (p.1[p.2.2.2.1.toNat]?).bind fun c1 => (bif ((c1.toNat : Int) == p.2.1) then (bif ((decide ((0 : Int) ≤ p.2.2.1)) && ((decide (p.2.2.1 ≤ p.2.2.2.1)) && (decide (p.2.2.2.1 ≤ (p.1.size : Int))))) then (bif decide ((p.2.2.2.2.length + [(p.1.extract p.2.2.1.toNat p.2.2.2.1.toNat)].length) * 16 ≤ 140737488355328) then rec0 (p.1, p.2.1, (IntKind.i64.wrap (p.2.2.2.1 + (1 : Int))), (IntKind.i64.wrap (p.2.2.2.1 + (1 : Int))), (p.2.2.2.2 ++ [(p.1.extract p.2.2.1.toNat p.2.2.2.1.toNat)])) else none) else none) else rec0 (p.1, p.2.1, p.2.2.1, (IntKind.i64.wrap (p.2.2.2.1 + (1 : Int))), p.2.2.2.2)) else none)) else some p.2.2.2.2)
def spec_l08Split.l0 (k : Nat) : Nat → (ByteArray × Int × Int × Int × (List (ByteArray))) → Option ((List (ByteArray)))
  | 0 => fun _ => none
  | j + 1 => spec_l08Split.s0 k (spec_l08Split.l0 k j)
def spec_l08Split.S0 (p : (ByteArray × Int × Int × Int × (List (ByteArray)))) : DS := ⟨tl [(0, .at (.str p.1)), (1, .at (.int .u8 p.2.1)), (5, .at (.whole 576)), (6, .at (.int .i64 p.2.2.1)), (7, .at (.int .i64 p.2.2.2.1))], lookO [(576, .row 9 .str true p.2.2.2.2)]⟩
noncomputable def spec_l08Split.D0 (k : Nat) (j : Nat) (p : (ByteArray × Int × Int × Int × (List (ByteArray)))) : Option ((List (ByteArray))) := loopK (norm [] (spec_l08Split.h 0)) (runK spec_l08Split.x k 0 [] spec_l08Split.h 0 (sub spec_l08Split.c [1, 1, 1, 0, 1, 0, 0])) j (spec_l08Split.S0 p) (kBlk 0 (kSeq (runK spec_l08Split.x k 0 [] spec_l08Split.h 0 (sub spec_l08Split.c [1, 1, 1, 1])) (fin tt spec_l08Split.ps spec_l08Split.rs spec_l08Split.vs (.sl 9 .str))))
theorem spec_l08Split.D0_eq (k : Nat) : ∀ j, spec_l08Split.D0 k j = spec_l08Split.l0 k j := by
  intro j
  induction j with
  | zero => rfl
  | succ j ih =>
    show _ = spec_l08Split.s0 k (spec_l08Split.l0 k j)
    rw [← ih]
    funext p
    kernel_rfl
def spec_l08Split.f (k : Nat) (a0 : ByteArray) (a1 : Int) : Option ((List (ByteArray))) :=
  spec_l08Split.l0 k k (a0, a1, (0 : Int), (0 : Int), ([] : List (ByteArray)))
def spec_l08Split.K : Ctr := ⟨spec_l08Split.ps, spec_l08Split.rs, false, (.two .str (.int .u8)), (.sl 9 .str), fun k x => spec_l08Split.f k x.1 x.2⟩
theorem spec_l08Split.eq (k : Nat) (x : (spec_l08Split.K.I).den) : func spec_l08Split.x spec_l08Split.h spec_l08Split.ps spec_l08Split.rs spec_l08Split.vs spec_l08Split.K.I spec_l08Split.K.O spec_l08Split.c k x = spec_l08Split.K.run k x := by
  show _ = spec_l08Split.f k x.1 x.2
  unfold spec_l08Split.f
  rw [← spec_l08Split.D0_eq k k]
  kernel_rfl
theorem spec_l08Split.ok : CtrOk Tryd.prog 29 spec_l08Split.K :=
  CtrOk.of (fn := Tryd.f29) (cd := spec_l08Split.c) (cx := spec_l08Split.x) (hs := spec_l08Split.h) (by kernel_rfl) (by kernel_rfl) (by kernel_rfl) (by kernel_rfl) tt_ok (envOk_nil) (by kernel_rfl) (by kernel_rfl) (by kernel_rfl) (by kernel_rfl) fun k x r h => (spec_l08Split.eq k x).trans h
/-! spec.ReadDecimal -/
noncomputable def spec_ReadDecimal.c : Code := bodyOf Tryd.f30
def spec_ReadDecimal.h : Nat → Hint := look ⟨[], [], []⟩ [(0, ⟨[0, 4, 5], [], []⟩)]
def spec_ReadDecimal.ps : List PK := [.one]
def spec_ReadDecimal.rs : List RK := [.one true, .one true]
def spec_ReadDecimal.vs : List ResultVar := [.tmp 2, .tmp 3]
def spec_ReadDecimal.x : Cx := ⟨tt, look none [(24, some spec_Decimal.K)]⟩
def spec_ReadDecimal.s0 (k : Nat) (rec0 : (ByteArray × Int × Int) → Option (Int × Bool)) (p : (ByteArray × Int × Int)) : Option (Int × Bool) :=
  (bif (decide (p.2.2 < (p.1.size : Int))) then (bif (decide ((0 : Int) ≤ p.2.2)) then (p.1[p.2.2.toNat]?).bind fun c1 => (bif (decide ((c1.toNat : Int) < (48 : Int))) then some ((0 : Int), false) else (bif (decide ((0 : Int) ≤ p.2.2)) then (p.1[p.2.2.toNat]?).bind fun c2 => (bif (decide ((c2.toNat : Int) > (57 : Int))) then some ((0 : Int), false) else (bif (decide ((0 : Int) ≤ p.2.2)) then (p.1[p.2.2.toNat]?).bind fun c3 => rec0 (p.1, (IntKind.i64.wrap ((IntKind.i64.wrap ((IntKind.i64.wrap ((10 : Int) * p.2.1)) + (IntKind.i64.wrap (c3.toNat : Int)))) - (48 : Int))), (IntKind.i64.wrap (p.2.2 + (1 : Int)))) else none)) else none)) else none) else (bif (decide (p.2.1 > (1000000000 : Int))) then some ((0 : Int), false) else (spec_Decimal.f k p.2.1).bind fun r4 => (bif (!(r4.toList == p.1.toList)) then some ((0 : Int), false) else some (p.2.1, true))))
def spec_ReadDecimal.l0 (k : Nat) : Nat → (ByteArray × Int × Int) → Option (Int × Bool)
  | 0 => fun _ => none
  | j + 1 => spec_ReadDecimal.s0 k (spec_ReadDecimal.l0 k j)
def spec_ReadDecimal.S0 (p : (ByteArray × Int × Int)) : DS := ⟨tl [(0, .at (.str p.1)), (4, .at (.int .i64 p.2.1)), (5, .at (.int .i64 p.2.2))], lookO []⟩
noncomputable def spec_ReadDecimal.D0 (k : Nat) (j : Nat) (p : (ByteArray × Int × Int)) : Option (Int × Bool) := loopK (norm [] (spec_ReadDecimal.h 0)) (runK spec_ReadDecimal.x k 0 [] spec_ReadDecimal.h 0 (sub spec_ReadDecimal.c [1, 1, 1, 0, 1, 0, 0])) j (spec_ReadDecimal.S0 p) (kBlk 0 (kSeq (runK spec_ReadDecimal.x k 0 [] spec_ReadDecimal.h 0 (sub spec_ReadDecimal.c [1, 1, 1, 1])) (fin tt spec_ReadDecimal.ps spec_ReadDecimal.rs spec_ReadDecimal.vs (.two (.int .i64) .bool))))
theorem spec_ReadDecimal.D0_eq (k : Nat) : ∀ j, spec_ReadDecimal.D0 k j = spec_ReadDecimal.l0 k j := by
  intro j
  induction j with
  | zero => rfl
  | succ j ih =>
    show _ = spec_ReadDecimal.s0 k (spec_ReadDecimal.l0 k j)
    rw [← ih]
    funext p
    kernel_rfl
def spec_ReadDecimal.f (k : Nat) (a0 : ByteArray) : Option (Int × Bool) :=
  (bif (decide ((a0.size : Int) > (10 : Int))) then some ((0 : Int), false) else spec_ReadDecimal.l0 k k (a0, (0 : Int), (0 : Int)))
def spec_ReadDecimal.K : Ctr := ⟨spec_ReadDecimal.ps, spec_ReadDecimal.rs, false, .str, (.two (.int .i64) .bool), fun k x => spec_ReadDecimal.f k x⟩
theorem spec_ReadDecimal.eq (k : Nat) (x : (spec_ReadDecimal.K.I).den) : func spec_ReadDecimal.x spec_ReadDecimal.h spec_ReadDecimal.ps spec_ReadDecimal.rs spec_ReadDecimal.vs spec_ReadDecimal.K.I spec_ReadDecimal.K.O spec_ReadDecimal.c k x = spec_ReadDecimal.K.run k x := by
  show _ = spec_ReadDecimal.f k x
  unfold spec_ReadDecimal.f
  rw [← spec_ReadDecimal.D0_eq k k]
  kernel_rfl
theorem spec_ReadDecimal.ok : CtrOk Tryd.prog 30 spec_ReadDecimal.K :=
  CtrOk.of (fn := Tryd.f30) (cd := spec_ReadDecimal.c) (cx := spec_ReadDecimal.x) (hs := spec_ReadDecimal.h) (by kernel_rfl) (by kernel_rfl) (by kernel_rfl) (by kernel_rfl) tt_ok (envOk_cons spec_Decimal.ok (envOk_nil)) (by kernel_rfl) (by kernel_rfl) (by kernel_rfl) (by kernel_rfl) fun k x r h => (spec_ReadDecimal.eq k x).trans h
/-! spec.ReadOption -/
noncomputable def spec_ReadOption.c : Code := bodyOf Tryd.f11
def spec_ReadOption.h : Nat → Hint := look ⟨[], [], []⟩ []
def spec_ReadOption.ps : List PK := [.one]
def spec_ReadOption.rs : List RK := [.agg 3 true, .one true]
def spec_ReadOption.vs : List ResultVar := [.cell 2 28, .tmp 3]
def spec_ReadOption.x : Cx := ⟨tt, look none [(29, some spec_l08Split.K), (30, some spec_ReadDecimal.K), (7, some spec_OptionText.K)]⟩
def spec_ReadOption.f (k : Nat) (a0 : ByteArray) : Option (Int × (List (ByteArray)) × Bool × Bool) :=
  (spec_l08Split.f k a0 (59 : Int)).bind fun r1 => (bif (decide ((r1.length : Int) < (2 : Int))) then some ((0 : Int), ([] : List (ByteArray)), false, false) else (bif (decide ((r1.length : Int) > (3 : Int))) then some ((0 : Int), ([] : List (ByteArray)), false, false) else (bif (true && (decide ((0 : Int) < (r1.length : Int)))) then (r1[0]?).bind fun x2 => (bif (decide ((x2.size : Int) < (6 : Int))) then some ((0 : Int), ([] : List (ByteArray)), false, false) else (bif (true && (decide ((1 : Int) < (r1.length : Int)))) then (r1[1]?).bind fun x3 => (bif (decide ((x3.size : Int) < (6 : Int))) then some ((0 : Int), ([] : List (ByteArray)), false, false) else (bif (true && (decide ((0 : Int) < (r1.length : Int)))) then (r1[0]?).bind fun x4 => (bif (true && (decide ((5 : Int) ≤ (x4.size : Int)))) then (bif (!((x4.extract 0 5).toList == (⟨#[115, 105, 122, 101, 32]⟩ : ByteArray).toList)) then some ((0 : Int), ([] : List (ByteArray)), false, false) else (bif (true && (decide ((1 : Int) < (r1.length : Int)))) then (r1[1]?).bind fun x5 => (bif (true && (decide ((5 : Int) ≤ (x5.size : Int)))) then (bif (!((x5.extract 0 5).toList == (⟨#[119, 97, 121, 115, 32]⟩ : ByteArray).toList)) then some ((0 : Int), ([] : List (ByteArray)), false, false) else (bif (true && (decide ((0 : Int) < (r1.length : Int)))) then (r1[0]?).bind fun x6 => (bif (true && (decide ((5 : Int) ≤ (x6.size : Int)))) then (spec_ReadDecimal.f k (x6.extract 5 x6.size)).bind fun r7 => (bif (true && (decide ((1 : Int) < (r1.length : Int)))) then (r1[1]?).bind fun x8 => (bif (true && (decide ((5 : Int) ≤ (x8.size : Int)))) then (spec_l08Split.f k (x8.extract 5 x8.size) (44 : Int)).bind fun r9 => (spec_OptionText.f k r7.1 r9 ((r1.length : Int) == (3 : Int))).bind fun r10 => (bif (!r7.2) then some ((0 : Int), ([] : List (ByteArray)), false, false) else (bif (!r10.2) then some ((0 : Int), ([] : List (ByteArray)), false, false) else (bif (!(r10.1.toList == a0.toList)) then some ((0 : Int), ([] : List (ByteArray)), false, false) else some (r7.1, r9, ((r1.length : Int) == (3 : Int)), true)))) else none) else none) else none) else none)) else none) else none)) else none) else none)) else none)) else none)))
def spec_ReadOption.K : Ctr := ⟨spec_ReadOption.ps, spec_ReadOption.rs, false, .str, (.two (.int .i64) (.two (.sl 9 .str) (.two .bool .bool))), fun k x => spec_ReadOption.f k x⟩
theorem spec_ReadOption.eq (k : Nat) (x : (spec_ReadOption.K.I).den) : func spec_ReadOption.x spec_ReadOption.h spec_ReadOption.ps spec_ReadOption.rs spec_ReadOption.vs spec_ReadOption.K.I spec_ReadOption.K.O spec_ReadOption.c k x = spec_ReadOption.K.run k x := by
  show _ = spec_ReadOption.f k x
  kernel_rfl
theorem spec_ReadOption.ok : CtrOk Tryd.prog 11 spec_ReadOption.K :=
  CtrOk.of (fn := Tryd.f11) (cd := spec_ReadOption.c) (cx := spec_ReadOption.x) (hs := spec_ReadOption.h) (by kernel_rfl) (by kernel_rfl) (by kernel_rfl) (by kernel_rfl) tt_ok (envOk_cons spec_l08Split.ok (envOk_cons spec_ReadDecimal.ok (envOk_cons spec_OptionText.ok (envOk_nil)))) (by kernel_rfl) (by kernel_rfl) (by kernel_rfl) (by kernel_rfl) fun k x r h => (spec_ReadOption.eq k x).trans h
/-! laws.FnOptions -/
noncomputable def laws_FnOptions.c : Code := bodyOf Tryd.f5
def laws_FnOptions.h : Nat → Hint := look ⟨[], [], []⟩ [(0, ⟨[3, 4, 9, 11, 22, 23, 24], [48, 64, 144, 176], [(.b 48 1, 3520, 9, .str), (.b 64 1, 3521, 9, .str), (.b 144 1, 3522, 9, .str), (.b 176 1, 3523, 9, .str)]⟩), (2, ⟨[3, 4, 9, 11, 22, 23, 25], [48, 64, 144, 176], [(.b 48 1, 3520, 9, .str), (.b 64 1, 3521, 9, .str), (.b 144 1, 3522, 9, .str), (.b 176 1, 3523, 9, .str)]⟩)]
def laws_FnOptions.ps : List PK := [.one]
def laws_FnOptions.rs : List RK := [.one true]
def laws_FnOptions.vs : List ResultVar := [.tmp 2]
def laws_FnOptions.x : Cx := ⟨tt, look none [(15, some laws_big.K), (16, some spec_DrawOptions.K), (9, some impl_OptionText.K), (12, some impl_ReadOption.K), (17, some impl_Agree.K), (18, some spec_Agree.K), (19, some laws_sameTexts.K), (20, some spec_DrawReadOption.K), (11, some spec_ReadOption.K), (21, some impl_OptionsOk.K)]⟩
def laws_FnOptions.s2 (k : Nat) (rec2 : (Bool × Bool × Int × (List (Int)) × Int × Bool × Int × Bool × Int × Bool × Int × Bool × (List (ByteArray)) × (List (ByteArray)) × (List (ByteArray)) × (List (ByteArray))) → Option (Bool)) (p : (Bool × Bool × Int × (List (Int)) × Int × Bool × Int × Bool × Int × Bool × Int × Bool × (List (ByteArray)) × (List (ByteArray)) × (List (ByteArray)) × (List (ByteArray)))) : Option (Bool) :=
  (bif (decide (p.2.2.1 < (p.2.2.2.2.2.2.2.2.2.2.2.2.2.1.length : Int))) then (bif p.2.1 then rec2 (p.1, true, (IntKind.i64.wrap (p.2.2.1 + (1 : Int))), p.2.2.2.1, p.2.2.2.2.1, p.2.2.2.2.2.1, p.2.2.2.2.2.2.1, p.2.2.2.2.2.2.2.1, p.2.2.2.2.2.2.2.2.1, p.2.2.2.2.2.2.2.2.2.1, p.2.2.2.2.2.2.2.2.2.2.1, p.2.2.2.2.2.2.2.2.2.2.2.1, p.2.2.2.2.2.2.2.2.2.2.2.2.1, p.2.2.2.2.2.2.2.2.2.2.2.2.2.1, p.2.2.2.2.2.2.2.2.2.2.2.2.2.2.1, p.2.2.2.2.2.2.2.2.2.2.2.2.2.2.2) else (bif ((decide ((0 : Int) ≤ p.2.2.1)) && (decide (p.2.2.1 < (p.2.2.2.2.2.2.2.2.2.2.2.2.2.1.length : Int)))) then (p.2.2.2.2.2.2.2.2.2.2.2.2.2.1[p.2.2.1.toNat]?).bind fun x15 => (bif (true && (decide ((0 : Int) < (p.2.2.2.2.2.2.2.2.2.2.2.2.2.2.1.length : Int)))) then (p.2.2.2.2.2.2.2.2.2.2.2.2.2.2.1[0]?).bind fun x16 => rec2 (p.1, (x15.toList == x16.toList), (IntKind.i64.wrap (p.2.2.1 + (1 : Int))), p.2.2.2.1, p.2.2.2.2.1, p.2.2.2.2.2.1, p.2.2.2.2.2.2.1, p.2.2.2.2.2.2.2.1, p.2.2.2.2.2.2.2.2.1, p.2.2.2.2.2.2.2.2.2.1, p.2.2.2.2.2.2.2.2.2.2.1, p.2.2.2.2.2.2.2.2.2.2.2.1, p.2.2.2.2.2.2.2.2.2.2.2.2.1, p.2.2.2.2.2.2.2.2.2.2.2.2.2.1, p.2.2.2.2.2.2.2.2.2.2.2.2.2.2.1, p.2.2.2.2.2.2.2.2.2.2.2.2.2.2.2) else none) else none)) else (bif p.1 then (bif p.2.1 then (bif (decide (p.2.2.2.2.2.2.2.2.1 ≤ p.2.2.2.2.1)) then (bif (decide (p.2.2.2.2.2.2.2.2.1 ≤ p.2.2.2.2.2.2.1)) then (bif (p.2.2.2.2.2.2.2.2.1 == p.2.2.2.2.2.2.2.2.2.2.1) then (bif (p.2.2.2.2.2.2.2.2.2.1 == p.2.2.2.2.2.2.2.2.2.2.2.1) then (bif p.2.2.2.2.2.1 then (bif (p.2.2.2.2.2.2.2.2.2.1 == p.2.2.2.2.2.2.2.1) then (impl_OptionsOk.f k p.2.2.2.2.2.2.2.2.1 p.2.2.2.2.2.2.2.2.2.2.2.2.2.2.1 p.2.2.2.2.2.2.2.2.2.1).bind fun r17 => some r17 else some false) else (bif (p.2.2.2.2.2.2.2.2.2.1 == false) then (impl_OptionsOk.f k p.2.2.2.2.2.2.2.2.1 p.2.2.2.2.2.2.2.2.2.2.2.2.2.2.1 p.2.2.2.2.2.2.2.2.2.1).bind fun r18 => some r18 else some false)) else some false) else some false) else some false) else some false) else some false) else some false))
def laws_FnOptions.l2 (k : Nat) : Nat → (Bool × Bool × Int × (List (Int)) × Int × Bool × Int × Bool × Int × Bool × Int × Bool × (List (ByteArray)) × (List (ByteArray)) × (List (ByteArray)) × (List (ByteArray))) → Option (Bool)
  | 0 => fun _ => none
  | j + 1 => laws_FnOptions.s2 k (laws_FnOptions.l2 k j)
def laws_FnOptions.s0 (_k : Nat) (rec0 : (Bool × Bool × Int × (List (Int)) × Int × Bool × Int × Bool × Int × Bool × Int × Bool × (List (ByteArray)) × (List (ByteArray)) × (List (ByteArray)) × (List (ByteArray))) → Option (Bool)) (i2 : (Bool × Bool × Int × (List (Int)) × Int × Bool × Int × Bool × Int × Bool × Int × Bool × (List (ByteArray)) × (List (ByteArray)) × (List (ByteArray)) × (List (ByteArray))) → Option (Bool)) (p : (Bool × Bool × Int × (List (Int)) × Int × Bool × Int × Bool × Int × Bool × Int × Bool × (List (ByteArray)) × (List (ByteArray)) × (List (ByteArray)) × (List (ByteArray)))) : Option (Bool) :=
  (bif (decide (p.2.2.1 < (p.2.2.2.2.2.2.2.2.2.2.2.2.1.length : Int))) then (bif p.1 then rec0 (true, p.2.1, (IntKind.i64.wrap (p.2.2.1 + (1 : Int))), p.2.2.2.1, p.2.2.2.2.1, p.2.2.2.2.2.1, p.2.2.2.2.2.2.1, p.2.2.2.2.2.2.2.1, p.2.2.2.2.2.2.2.2.1, p.2.2.2.2.2.2.2.2.2.1, p.2.2.2.2.2.2.2.2.2.2.1, p.2.2.2.2.2.2.2.2.2.2.2.1, p.2.2.2.2.2.2.2.2.2.2.2.2.1, p.2.2.2.2.2.2.2.2.2.2.2.2.2.1, p.2.2.2.2.2.2.2.2.2.2.2.2.2.2.1, p.2.2.2.2.2.2.2.2.2.2.2.2.2.2.2) else (bif ((decide ((0 : Int) ≤ p.2.2.1)) && (decide (p.2.2.1 < (p.2.2.2.2.2.2.2.2.2.2.2.2.1.length : Int)))) then (p.2.2.2.2.2.2.2.2.2.2.2.2.1[p.2.2.1.toNat]?).bind fun x13 => (bif (true && (decide ((0 : Int) < (p.2.2.2.2.2.2.2.2.2.2.2.2.2.2.1.length : Int)))) then (p.2.2.2.2.2.2.2.2.2.2.2.2.2.2.1[0]?).bind fun x14 => rec0 ((x13.toList == x14.toList), p.2.1, (IntKind.i64.wrap (p.2.2.1 + (1 : Int))), p.2.2.2.1, p.2.2.2.2.1, p.2.2.2.2.2.1, p.2.2.2.2.2.2.1, p.2.2.2.2.2.2.2.1, p.2.2.2.2.2.2.2.2.1, p.2.2.2.2.2.2.2.2.2.1, p.2.2.2.2.2.2.2.2.2.2.1, p.2.2.2.2.2.2.2.2.2.2.2.1, p.2.2.2.2.2.2.2.2.2.2.2.2.1, p.2.2.2.2.2.2.2.2.2.2.2.2.2.1, p.2.2.2.2.2.2.2.2.2.2.2.2.2.2.1, p.2.2.2.2.2.2.2.2.2.2.2.2.2.2.2) else none) else none)) else i2 (p.1, p.2.1, (0 : Int), p.2.2.2.1, p.2.2.2.2.1, p.2.2.2.2.2.1, p.2.2.2.2.2.2.1, p.2.2.2.2.2.2.2.1, p.2.2.2.2.2.2.2.2.1, p.2.2.2.2.2.2.2.2.2.1, p.2.2.2.2.2.2.2.2.2.2.1, p.2.2.2.2.2.2.2.2.2.2.2.1, p.2.2.2.2.2.2.2.2.2.2.2.2.1, p.2.2.2.2.2.2.2.2.2.2.2.2.2.1, p.2.2.2.2.2.2.2.2.2.2.2.2.2.2.1, p.2.2.2.2.2.2.2.2.2.2.2.2.2.2.2))
def laws_FnOptions.l0 (k : Nat) : Nat → (Bool × Bool × Int × (List (Int)) × Int × Bool × Int × Bool × Int × Bool × Int × Bool × (List (ByteArray)) × (List (ByteArray)) × (List (ByteArray)) × (List (ByteArray))) → Option (Bool)
  | 0 => fun _ => none
  | j + 1 => laws_FnOptions.s0 k (laws_FnOptions.l0 k j) (laws_FnOptions.l2 k k)
def laws_FnOptions.S2 (p : (Bool × Bool × Int × (List (Int)) × Int × Bool × Int × Bool × Int × Bool × Int × Bool × (List (ByteArray)) × (List (ByteArray)) × (List (ByteArray)) × (List (ByteArray)))) : DS := ⟨tl [(3, .at (.bptr 48 0)), (4, .at (.bptr 64 0)), (9, .at (.bptr 144 0)), (11, .at (.bptr 176 0)), (22, .at (.bool p.1)), (23, .at (.bool p.2.1)), (25, .at (.int .i64 p.2.2.1))], lookO [(0, .row 5 (.int .u8) false p.2.2.2.1), (48, .box 28 [.int .i64 p.2.2.2.2.1, .whole 3520, .bool p.2.2.2.2.2.1]), (64, .box 28 [.int .i64 p.2.2.2.2.2.2.1, .whole 3521, .bool p.2.2.2.2.2.2.2.1]), (144, .box 28 [.int .i64 p.2.2.2.2.2.2.2.2.1, .whole 3522, .bool p.2.2.2.2.2.2.2.2.2.1]), (176, .box 28 [.int .i64 p.2.2.2.2.2.2.2.2.2.2.1, .whole 3523, .bool p.2.2.2.2.2.2.2.2.2.2.2.1]), (3520, .row 9 .str true p.2.2.2.2.2.2.2.2.2.2.2.2.1), (3521, .row 9 .str true p.2.2.2.2.2.2.2.2.2.2.2.2.2.1), (3522, .row 9 .str true p.2.2.2.2.2.2.2.2.2.2.2.2.2.2.1), (3523, .row 9 .str true p.2.2.2.2.2.2.2.2.2.2.2.2.2.2.2)]⟩
def laws_FnOptions.S0 (p : (Bool × Bool × Int × (List (Int)) × Int × Bool × Int × Bool × Int × Bool × Int × Bool × (List (ByteArray)) × (List (ByteArray)) × (List (ByteArray)) × (List (ByteArray)))) : DS := ⟨tl [(3, .at (.bptr 48 0)), (4, .at (.bptr 64 0)), (9, .at (.bptr 144 0)), (11, .at (.bptr 176 0)), (22, .at (.bool p.1)), (23, .at (.bool p.2.1)), (24, .at (.int .i64 p.2.2.1))], lookO [(0, .row 5 (.int .u8) false p.2.2.2.1), (48, .box 28 [.int .i64 p.2.2.2.2.1, .whole 3520, .bool p.2.2.2.2.2.1]), (64, .box 28 [.int .i64 p.2.2.2.2.2.2.1, .whole 3521, .bool p.2.2.2.2.2.2.2.1]), (144, .box 28 [.int .i64 p.2.2.2.2.2.2.2.2.1, .whole 3522, .bool p.2.2.2.2.2.2.2.2.2.1]), (176, .box 28 [.int .i64 p.2.2.2.2.2.2.2.2.2.2.1, .whole 3523, .bool p.2.2.2.2.2.2.2.2.2.2.2.1]), (3520, .row 9 .str true p.2.2.2.2.2.2.2.2.2.2.2.2.1), (3521, .row 9 .str true p.2.2.2.2.2.2.2.2.2.2.2.2.2.1), (3522, .row 9 .str true p.2.2.2.2.2.2.2.2.2.2.2.2.2.2.1), (3523, .row 9 .str true p.2.2.2.2.2.2.2.2.2.2.2.2.2.2.2)]⟩
noncomputable def laws_FnOptions.D2 (k : Nat) (j : Nat) (p : (Bool × Bool × Int × (List (Int)) × Int × Bool × Int × Bool × Int × Bool × Int × Bool × (List (ByteArray)) × (List (ByteArray)) × (List (ByteArray)) × (List (ByteArray)))) : Option (Bool) := loopK (norm [0] (laws_FnOptions.h 2)) (runK laws_FnOptions.x k 0 [0] laws_FnOptions.h 2 (sub laws_FnOptions.c [1, 1, 1, 1, 1, 1, 1, 1, 1, 1, 1, 1, 1, 1, 1, 1, 1, 1, 0, 1, 0, 0])) j (laws_FnOptions.S2 p) (kBlk 2 (kSeq (runK laws_FnOptions.x k 0 [0] laws_FnOptions.h 0 (sub laws_FnOptions.c [1, 1, 1, 1, 1, 1, 1, 1, 1, 1, 1, 1, 1, 1, 1, 1, 1, 1, 1])) (fin tt laws_FnOptions.ps laws_FnOptions.rs laws_FnOptions.vs .bool)))
noncomputable def laws_FnOptions.D0 (k : Nat) (j : Nat) (p : (Bool × Bool × Int × (List (Int)) × Int × Bool × Int × Bool × Int × Bool × Int × Bool × (List (ByteArray)) × (List (ByteArray)) × (List (ByteArray)) × (List (ByteArray)))) : Option (Bool) := loopK (norm [0] (laws_FnOptions.h 0)) (runK laws_FnOptions.x k 0 [0] laws_FnOptions.h 0 (sub laws_FnOptions.c [1, 1, 1, 1, 1, 1, 1, 1, 1, 1, 1, 1, 1, 1, 1, 1, 1, 0, 1, 0, 0])) j (laws_FnOptions.S0 p) (kBlk 0 (kSeq (runK laws_FnOptions.x k 0 [0] laws_FnOptions.h 0 (sub laws_FnOptions.c [1, 1, 1, 1, 1, 1, 1, 1, 1, 1, 1, 1, 1, 1, 1, 1, 1, 1])) (fin tt laws_FnOptions.ps laws_FnOptions.rs laws_FnOptions.vs .bool)))
theorem laws_FnOptions.D2_eq (k : Nat) : ∀ j, laws_FnOptions.D2 k j = laws_FnOptions.l2 k j := by
  intro j
  induction j with
  | zero => rfl
  | succ j ih =>
    show _ = laws_FnOptions.s2 k (laws_FnOptions.l2 k j)
    rw [← ih]
    funext p
    kernel_rfl
theorem laws_FnOptions.D0_eq (k : Nat) : ∀ j, laws_FnOptions.D0 k j = laws_FnOptions.l0 k j := by
  intro j
  induction j with
  | zero => rfl
  | succ j ih =>
    show _ = laws_FnOptions.s0 k (laws_FnOptions.l0 k j) (laws_FnOptions.l2 k k)
    rw [← ih, ← laws_FnOptions.D2_eq k k]
    funext p
    kernel_rfl
def laws_FnOptions.f (k : Nat) (a0 : List (Int)) : Option (Bool) :=
  (laws_big.f k a0).bind fun r1 => (bif r1 then some true else (spec_DrawOptions.f k a0).bind fun r2 => (impl_OptionText.f k r2.1 r2.2.1 r2.2.2.1).bind fun r3 => (impl_ReadOption.f k r3.1).bind fun r4 => (impl_Agree.f k r2.1 r2.2.1 r2.2.2.1 r2.2.2.2.1 r2.2.2.2.2.1 r2.2.2.2.2.2).bind fun r5 => (impl_Agree.f k r2.2.2.2.1 r2.2.2.2.2.1 r2.2.2.2.2.2 r2.1 r2.2.1 r2.2.2.1).bind fun r6 => (spec_Agree.f k r2.1 r2.2.1 r2.2.2.1 r2.2.2.2.1 r2.2.2.2.2.1 r2.2.2.2.2.2).bind fun r7 => (bif (!r3.2) then some false else (bif (!r4.2.2.2) then some false else (bif (r4.1 != r2.1) then some false else (bif (!(r4.2.2.1 == r2.2.2.1)) then some false else (laws_sameTexts.f k r4.2.1 r2.2.1).bind fun r8 => (bif (!r8) then some false else (bif (!(r5.2.2.2 == r7.2.2.2)) then some false else (bif (!(r6.2.2.2 == r5.2.2.2)) then some false else (spec_DrawReadOption.f k a0).bind fun r9 => (impl_ReadOption.f k r9).bind fun r10 => (spec_ReadOption.f k r9).bind fun r11 => (impl_OptionText.f k r10.1 r10.2.1 r10.2.2.1).bind fun r12 => (bif (!(r10.2.2.2 == r11.2.2.2)) then some false else (bif r10.2.2.2 then (bif (!(r12.1.toList == r9.toList)) then some false else (bif (!r5.2.2.2) then some ((r5.2.1.length : Int) == (0 : Int)) else laws_FnOptions.l0 k k (false, false, (0 : Int), a0, r2.1, r2.2.2.1, r2.2.2.2.1, r2.2.2.2.2.2, r5.1, r5.2.2.1, r6.1, r6.2.2.1, r2.2.1, r2.2.2.2.2.1, r5.2.1, r6.2.1))) else (bif (!r5.2.2.2) then some ((r5.2.1.length : Int) == (0 : Int)) else laws_FnOptions.l0 k k (false, false, (0 : Int), a0, r2.1, r2.2.2.1, r2.2.2.2.1, r2.2.2.2.2.2, r5.1, r5.2.2.1, r6.1, r6.2.2.1, r2.2.1, r2.2.2.2.2.1, r5.2.1, r6.2.1))))))))))))
def laws_FnOptions.K : Ctr := ⟨laws_FnOptions.ps, laws_FnOptions.rs, false, (.sl 5 (.int .u8)), .bool, fun k x => laws_FnOptions.f k x⟩
theorem laws_FnOptions.eq (k : Nat) (x : (laws_FnOptions.K.I).den) : func laws_FnOptions.x laws_FnOptions.h laws_FnOptions.ps laws_FnOptions.rs laws_FnOptions.vs laws_FnOptions.K.I laws_FnOptions.K.O laws_FnOptions.c k x = laws_FnOptions.K.run k x := by
  show _ = laws_FnOptions.f k x
  unfold laws_FnOptions.f
  rw [← laws_FnOptions.D0_eq k k]
  kernel_rfl
theorem laws_FnOptions.ok : CtrOk Tryd.prog 5 laws_FnOptions.K :=
  CtrOk.of (fn := Tryd.f5) (cd := laws_FnOptions.c) (cx := laws_FnOptions.x) (hs := laws_FnOptions.h) (by kernel_rfl) (by kernel_rfl) (by kernel_rfl) (by kernel_rfl) tt_ok (envOk_cons laws_big.ok (envOk_cons spec_DrawOptions.ok (envOk_cons impl_OptionText.ok (envOk_cons impl_ReadOption.ok (envOk_cons impl_Agree.ok (envOk_cons spec_Agree.ok (envOk_cons laws_sameTexts.ok (envOk_cons spec_DrawReadOption.ok (envOk_cons spec_ReadOption.ok (envOk_cons impl_OptionsOk.ok (envOk_nil))))))))))) (by kernel_rfl) (by kernel_rfl) (by kernel_rfl) (by kernel_rfl) fun k x r h => (laws_FnOptions.eq k x).trans h
end Go.Proofs.YtfaeklomiofpdaaDoor.DI
