/- FnExactReadOption: functions as plain Lean, in the machine of values. -/
import Derived.Test.YtfaeklomiofpdaaDoorVFnExactReadOption0
namespace Go.Proofs.YtfaeklomiofpdaaDoor.DI
open Go
set_option linter.unusedVariables false
/-! spec.l08Split -/
noncomputable def spec_l08Split.c : Code := bodyOf Tryd.f29
def spec_l08Split.h : Nat → Hint := look ⟨[], [], []⟩ [(0, ⟨[0, 1, 5, 6, 7], [], [(.t 5, 576, 9, .str)]⟩)]
def spec_l08Split.ps : List PK := [.one, .one]
def spec_l08Split.rs : List RK := [.one true]
def spec_l08Split.vs : List ResultVar := [.tmp 4]
def spec_l08Split.x : Cx := ⟨tt, look none []⟩
def spec_l08Split.s0 (_k : Nat) (rec0 : (ByteArray × Int × Int × Int × (List (ByteArray))) → Option ((List (ByteArray)))) (p : (ByteArray × Int × Int × Int × (List (ByteArray)))) : Option ((List (ByteArray))) :=
  (bif (decide (p.2.2.2.1 ≤ (p.1.size : Int))) then (bif (p.2.2.2.1 == (p.1.size : Int)) then (bif ((decide ((0 : Int) ≤ p.2.2.1)) && ((decide (p.2.2.1 ≤ p.2.2.2.1)) && (decide (p.2.2.2.1 ≤ (p.1.size : Int))))) then (bif decide ((p.2.2.2.2.length + [(p.1.extract p.2.2.1.toNat p.2.2.2.1.toNat)].length) * 16 ≤ 140737488355328) then rec0 (p.1, p.2.1, (IntKind.i64.wrap (p.2.2.2.1 + (1 : Int))), (IntKind.i64.wrap (p.2.2.2.1 + (1 : Int))), (p.2.2.2.2 ++ [(p.1.extract p.2.2.1.toNat p.2.2.2.1.toNat)])) else none) else none) else (bif (decide ((0 : Int) ≤ p.2.2.2.1)) then (p.1[p.2.2.2.1.toNat]?).bind fun c1 => (bif ((c1.toNat : Int) == p.2.1) then (bif ((decide ((0 : Int) ≤ p.2.2.1)) && ((decide (p.2.2.1 ≤ p.2.2.2.1)) && (decide (p.2.2.2.1 ≤ (p.1.size : Int))))) then (bif decide ((p.2.2.2.2.length + [(p.1.extract p.2.2.1.toNat p.2.2.2.1.toNat)].length) * 16 ≤ 140737488355328) then rec0 (p.1, p.2.1, (IntKind.i64.wrap (p.2.2.2.1 + (1 : Int))), (IntKind.i64.wrap (p.2.2.2.1 + (1 : Int))), (p.2.2.2.2 ++ [(p.1.extract p.2.2.1.toNat p.2.2.2.1.toNat)])) else none) else none) else rec0 (p.1, p.2.1, p.2.2.1, (IntKind.i64.wrap (p.2.2.2.1 + (1 : Int))), p.2.2.2.2)) else none)) else some p.2.2.2.2)
def spec_l08Split.l0 (k : Nat) : Nat → (ByteArray × Int × Int × Int × (List (ByteArray))) → Option ((List (ByteArray)))
  | 0 => fun _ => none
  | j + 1 => spec_l08Split.s0 k (spec_l08Split.l0 k j)
def spec_l08Split.S0 (p : (ByteArray × Int × Int × Int × (List (ByteArray)))) : DS := ⟨tl [(0, .at (.str p.1)), (1, .at (.int .u8 p.2.1)), (5, .at (.whole 576)), (6, .at (.int .i64 p.2.2.1)), (7, .at (.int .i64 p.2.2.2.1))], lookO [(576, .row 9 .str true p.2.2.2.2)]⟩
noncomputable def spec_l08Split.D0 (k : Nat) (j : Nat) (p : (ByteArray × Int × Int × Int × (List (ByteArray)))) : Option ((List (ByteArray))) := loopK (norm [] (spec_l08Split.h 0)) (runK spec_l08Split.x k 0 [] spec_l08Split.h 0 (sub spec_l08Split.c [1, 1, 1, 0, 1, 0, 0])) j (spec_l08Split.S0 p) (kBlk 0 (kSeq (runK spec_l08Split.x k 0 [] spec_l08Split.h 0 (sub spec_l08Split.c [1, 1, 1, 1])) (fin tt spec_l08Split.ps spec_l08Split.rs spec_l08Split.vs (.sl 9 .str))))
theorem spec_l08Split.D0_eq (k : Nat) : ∀ j, spec_l08Split.D0 k j = spec_l08Split.l0 k j := by
  intro j
  induction j with
  | zero => rfl
  | succ j ih =>
    show _ = spec_l08Split.s0 k (spec_l08Split.l0 k j)
    rw [← ih]
    funext p
    kernel_rfl
def spec_l08Split.f (k : Nat) (a0 : ByteArray) (a1 : Int) : Option ((List (ByteArray))) :=
  spec_l08Split.l0 k k (a0, a1, (0 : Int), (0 : Int), ([] : List (ByteArray)))
def spec_l08Split.K : Ctr := ⟨spec_l08Split.ps, spec_l08Split.rs, false, (.two .str (.int .u8)), (.sl 9 .str), fun k x => spec_l08Split.f k x.1 x.2⟩
theorem spec_l08Split.eq (k : Nat) (x : (spec_l08Split.K.I).den) : func spec_l08Split.x spec_l08Split.h spec_l08Split.ps spec_l08Split.rs spec_l08Split.vs spec_l08Split.K.I spec_l08Split.K.O spec_l08Split.c k x = spec_l08Split.K.run k x := by
  show _ = spec_l08Split.f k x.1 x.2
  unfold spec_l08Split.f
  rw [← spec_l08Split.D0_eq k k]
  kernel_rfl
theorem spec_l08Split.ok : CtrOk Tryd.prog 29 spec_l08Split.K :=
  CtrOk.of (fn := Tryd.f29) (cd := spec_l08Split.c) (cx := spec_l08Split.x) (hs := spec_l08Split.h) (by kernel_rfl) (by kernel_rfl) (by kernel_rfl) (by kernel_rfl) tt_ok (envOk_nil) (by kernel_rfl) (by kernel_rfl) (by kernel_rfl) (by kernel_rfl) fun k x r h => (spec_l08Split.eq k x).trans h
/-! spec.l01Figure -/
noncomputable def spec_l01Figure.c : Code := bodyOf Tryd.f50
def spec_l01Figure.h : Nat → Hint := look ⟨[], [], []⟩ []
def spec_l01Figure.ps : List PK := [.one]
def spec_l01Figure.rs : List RK := [.one true]
def spec_l01Figure.vs : List ResultVar := [.tmp 2]
def spec_l01Figure.x : Cx := ⟨tt, look none []⟩
def spec_l01Figure.f (_k : Nat) (a0 : Int) : Option (Int) :=
  (bif (decide (a0 < (10 : Int))) then some (IntKind.u8.wrap (IntKind.i64.wrap ((48 : Int) + a0))) else some (IntKind.u8.wrap (IntKind.i64.wrap ((IntKind.i64.wrap ((97 : Int) + a0)) - (10 : Int)))))
def spec_l01Figure.K : Ctr := ⟨spec_l01Figure.ps, spec_l01Figure.rs, false, (.int .i64), (.int .u8), fun k x => spec_l01Figure.f k x⟩
theorem spec_l01Figure.eq (k : Nat) (x : (spec_l01Figure.K.I).den) : func spec_l01Figure.x spec_l01Figure.h spec_l01Figure.ps spec_l01Figure.rs spec_l01Figure.vs spec_l01Figure.K.I spec_l01Figure.K.O spec_l01Figure.c k x = spec_l01Figure.K.run k x := by
  show _ = spec_l01Figure.f k x
  kernel_rfl
theorem spec_l01Figure.ok : CtrOk Tryd.prog 50 spec_l01Figure.K :=
  CtrOk.of (fn := Tryd.f50) (cd := spec_l01Figure.c) (cx := spec_l01Figure.x) (hs := spec_l01Figure.h) (by kernel_rfl) (by kernel_rfl) (by kernel_rfl) (by kernel_rfl) tt_ok (envOk_nil) (by kernel_rfl) (by kernel_rfl) (by kernel_rfl) (by kernel_rfl) fun k x r h => (spec_l01Figure.eq k x).trans h
/-! spec.Decimal -/
noncomputable def spec_Decimal.c : Code := bodyOf Tryd.f24
def spec_Decimal.h : Nat → Hint := look ⟨[], [], []⟩ [(0, ⟨[0, 3, 4], [], []⟩)]
def spec_Decimal.ps : List PK := [.one]
def spec_Decimal.rs : List RK := [.one true]
def spec_Decimal.vs : List ResultVar := [.tmp 2]
def spec_Decimal.x : Cx := ⟨tt, look none [(50, some spec_l01Figure.K)]⟩
def spec_Decimal.s0 (k : Nat) (rec0 : (Int × Bool × ByteArray) → Option (ByteArray)) (p : (Int × Bool × ByteArray)) : Option (ByteArray) :=
  (bif (p.1 != (0 : Int)) then (bif (decide ((p.1.tmod (10 : Int)) < (0 : Int))) then (spec_l01Figure.f k (IntKind.i64.wrap (0 - (p.1.tmod (10 : Int))))).bind fun r1 => (bif decide ((strOfNums [r1]).size + p.2.2.size ≤ 140737488351232) then rec0 ((IntKind.i64.wrap (p.1.tdiv (10 : Int))), p.2.1, ((strOfNums [r1]) ++ p.2.2)) else none) else (spec_l01Figure.f k (p.1.tmod (10 : Int))).bind fun r2 => (bif decide ((strOfNums [r2]).size + p.2.2.size ≤ 140737488351232) then rec0 ((IntKind.i64.wrap (p.1.tdiv (10 : Int))), p.2.1, ((strOfNums [r2]) ++ p.2.2)) else none)) else (bif p.2.1 then (bif decide ((⟨#[45]⟩ : ByteArray).size + p.2.2.size ≤ 140737488351232) then some ((⟨#[45]⟩ : ByteArray) ++ p.2.2) else none) else some p.2.2))
def spec_Decimal.l0 (k : Nat) : Nat → (Int × Bool × ByteArray) → Option (ByteArray)
  | 0 => fun _ => none
  | j + 1 => spec_Decimal.s0 k (spec_Decimal.l0 k j)
def spec_Decimal.S0 (p : (Int × Bool × ByteArray)) : DS := ⟨tl [(0, .at (.int .i64 p.1)), (3, .at (.bool p.2.1)), (4, .at (.str p.2.2))], lookO []⟩
noncomputable def spec_Decimal.D0 (k : Nat) (j : Nat) (p : (Int × Bool × ByteArray)) : Option (ByteArray) := loopK (norm [] (spec_Decimal.h 0)) (runK spec_Decimal.x k 0 [] spec_Decimal.h 0 (sub spec_Decimal.c [1, 1, 1, 1, 0, 0, 0])) j (spec_Decimal.S0 p) (kBlk 0 (kSeq (runK spec_Decimal.x k 0 [] spec_Decimal.h 0 (sub spec_Decimal.c [1, 1, 1, 1, 1])) (fin tt spec_Decimal.ps spec_Decimal.rs spec_Decimal.vs .str)))
theorem spec_Decimal.D0_eq (k : Nat) : ∀ j, spec_Decimal.D0 k j = spec_Decimal.l0 k j := by
  intro j
  induction j with
  | zero => rfl
  | succ j ih =>
    show _ = spec_Decimal.s0 k (spec_Decimal.l0 k j)
    rw [← ih]
    funext p
    kernel_rfl
def spec_Decimal.f (k : Nat) (a0 : Int) : Option (ByteArray) :=
  (bif (a0 == (0 : Int)) then some (⟨#[48]⟩ : ByteArray) else spec_Decimal.l0 k k (a0, (decide (a0 < (0 : Int))), ByteArray.empty))
def spec_Decimal.K : Ctr := ⟨spec_Decimal.ps, spec_Decimal.rs, false, (.int .i64), .str, fun k x => spec_Decimal.f k x⟩
theorem spec_Decimal.eq (k : Nat) (x : (spec_Decimal.K.I).den) : func spec_Decimal.x spec_Decimal.h spec_Decimal.ps spec_Decimal.rs spec_Decimal.vs spec_Decimal.K.I spec_Decimal.K.O spec_Decimal.c k x = spec_Decimal.K.run k x := by
  show _ = spec_Decimal.f k x
  unfold spec_Decimal.f
  rw [← spec_Decimal.D0_eq k k]
  kernel_rfl
theorem spec_Decimal.ok : CtrOk Tryd.prog 24 spec_Decimal.K :=
  CtrOk.of (fn := Tryd.f24) (cd := spec_Decimal.c) (cx := spec_Decimal.x) (hs := spec_Decimal.h) (by kernel_rfl) (by kernel_rfl) (by kernel_rfl) (by kernel_rfl) tt_ok (envOk_cons spec_l01Figure.ok (envOk_nil)) (by kernel_rfl) (by kernel_rfl) (by kernel_rfl) (by kernel_rfl) fun k x r h => (spec_Decimal.eq k x).trans h
/-! spec.ReadDecimal -/
noncomputable def spec_ReadDecimal.c : Code := bodyOf Tryd.f30
def spec_ReadDecimal.h : Nat → Hint := look ⟨[], [], []⟩ [(0, ⟨[0, 4, 5], [], []⟩)]
def spec_ReadDecimal.ps : List PK := [.one]
def spec_ReadDecimal.rs : List RK := [.one true, .one true]
def spec_ReadDecimal.vs : List ResultVar := [.tmp 2, .tmp 3]
def spec_ReadDecimal.x : Cx := ⟨tt, look none [(24, some spec_Decimal.K)]⟩
def spec_ReadDecimal.s0 (k : Nat) (rec0 : (ByteArray × Int × Int) → Option (Int × Bool)) (p : (ByteArray × Int × Int)) : Option (Int × Bool) :=
  (bif (decide (p.2.2 < (p.1.size : Int))) then (bif (decide ((0 : Int) ≤ p.2.2)) then (p.1[p.2.2.toNat]?).bind fun c1 => (bif (decide ((c1.toNat : Int) < (48 : Int))) then some ((0 : Int), false) else (bif (decide ((0 : Int) ≤ p.2.2)) then (p.1[p.2.2.toNat]?).bind fun c2 => (bif (decide ((c2.toNat : Int) > (57 : Int))) then some ((0 : Int), false) else (bif (decide ((0 : Int) ≤ p.2.2)) then (p.1[p.2.2.toNat]?).bind fun c3 => rec0 (p.1, (IntKind.i64.wrap ((IntKind.i64.wrap ((IntKind.i64.wrap ((10 : Int) * p.2.1)) + (IntKind.i64.wrap (c3.toNat : Int)))) - (48 : Int))), (IntKind.i64.wrap (p.2.2 + (1 : Int)))) else none)) else none)) else none) else (bif (decide (p.2.1 > (1000000000 : Int))) then some ((0 : Int), false) else (spec_Decimal.f k p.2.1).bind fun r4 => (bif (!(r4.toList == p.1.toList)) then some ((0 : Int), false) else some (p.2.1, true))))
def spec_ReadDecimal.l0 (k : Nat) : Nat → (ByteArray × Int × Int) → Option (Int × Bool)
  | 0 => fun _ => none
  | j + 1 => spec_ReadDecimal.s0 k (spec_ReadDecimal.l0 k j)
def spec_ReadDecimal.S0 (p : (ByteArray × Int × Int)) : DS := ⟨tl [(0, .at (.str p.1)), (4, .at (.int .i64 p.2.1)), (5, .at (.int .i64 p.2.2))], lookO []⟩
noncomputable def spec_ReadDecimal.D0 (k : Nat) (j : Nat) (p : (ByteArray × Int × Int)) : Option (Int × Bool) := loopK (norm [] (spec_ReadDecimal.h 0)) (runK spec_ReadDecimal.x k 0 [] spec_ReadDecimal.h 0 (sub spec_ReadDecimal.c [1, 1, 1, 0, 1, 0, 0])) j (spec_ReadDecimal.S0 p) (kBlk 0 (kSeq (runK spec_ReadDecimal.x k 0 [] spec_ReadDecimal.h 0 (sub spec_ReadDecimal.c [1, 1, 1, 1])) (fin tt spec_ReadDecimal.ps spec_ReadDecimal.rs spec_ReadDecimal.vs (.two (.int .i64) .bool))))
theorem spec_ReadDecimal.D0_eq (k : Nat) : ∀ j, spec_ReadDecimal.D0 k j = spec_ReadDecimal.l0 k j := by
  intro j
  induction j with
  | zero => rfl
  | succ j ih =>
    show _ = spec_ReadDecimal.s0 k (spec_ReadDecimal.l0 k j)
    rw [← ih]
    funext p
    kernel_rfl
def spec_ReadDecimal.f (k : Nat) (a0 : ByteArray) : Option (Int × Bool) :=
  (bif (decide ((a0.size : Int) > (10 : Int))) then some ((0 : Int), false) else spec_ReadDecimal.l0 k k (a0, (0 : Int), (0 : Int)))
def spec_ReadDecimal.K : Ctr := ⟨spec_ReadDecimal.ps, spec_ReadDecimal.rs, false, .str, (.two (.int .i64) .bool), fun k x => spec_ReadDecimal.f k x⟩
theorem spec_ReadDecimal.eq (k : Nat) (x : (spec_ReadDecimal.K.I).den) : func spec_ReadDecimal.x spec_ReadDecimal.h spec_ReadDecimal.ps spec_ReadDecimal.rs spec_ReadDecimal.vs spec_ReadDecimal.K.I spec_ReadDecimal.K.O spec_ReadDecimal.c k x = spec_ReadDecimal.K.run k x := by
  show _ = spec_ReadDecimal.f k x
  unfold spec_ReadDecimal.f
  rw [← spec_ReadDecimal.D0_eq k k]
  kernel_rfl
theorem spec_ReadDecimal.ok : CtrOk Tryd.prog 30 spec_ReadDecimal.K :=
  CtrOk.of (fn := Tryd.f30) (cd := spec_ReadDecimal.c) (cx := spec_ReadDecimal.x) (hs := spec_ReadDecimal.h) (by kernel_rfl) (by kernel_rfl) (by kernel_rfl) (by kernel_rfl) tt_ok (envOk_cons spec_Decimal.ok (envOk_nil)) (by kernel_rfl) (by kernel_rfl) (by kernel_rfl) (by kernel_rfl) fun k x r h => (spec_ReadDecimal.eq k x).trans h
/-! spec.l01In -/
noncomputable def spec_l01In.c : Code := bodyOf Tryd.f49
def spec_l01In.h : Nat → Hint := look ⟨[], [], []⟩ []
def spec_l01In.ps : List PK := [.one, .one, .one]
def spec_l01In.rs : List RK := [.one true]
def spec_l01In.vs : List ResultVar := [.tmp 6]
def spec_l01In.x : Cx := ⟨tt, look none []⟩
def spec_l01In.f (_k : Nat) (a0 : Int) (a1 : Int) (a2 : Int) : Option (Bool) :=
  (bif (decide (a0 ≥ a1)) then some (decide (a0 ≤ a2)) else some false)
def spec_l01In.K : Ctr := ⟨spec_l01In.ps, spec_l01In.rs, false, (.two (.int .i64) (.two (.int .i64) (.int .i64))), .bool, fun k x => spec_l01In.f k x.1 x.2.1 x.2.2⟩
theorem spec_l01In.eq (k : Nat) (x : (spec_l01In.K.I).den) : func spec_l01In.x spec_l01In.h spec_l01In.ps spec_l01In.rs spec_l01In.vs spec_l01In.K.I spec_l01In.K.O spec_l01In.c k x = spec_l01In.K.run k x := by
  show _ = spec_l01In.f k x.1 x.2.1 x.2.2
  kernel_rfl
theorem spec_l01In.ok : CtrOk Tryd.prog 49 spec_l01In.K :=
  CtrOk.of (fn := Tryd.f49) (cd := spec_l01In.c) (cx := spec_l01In.x) (hs := spec_l01In.h) (by kernel_rfl) (by kernel_rfl) (by kernel_rfl) (by kernel_rfl) tt_ok (envOk_nil) (by kernel_rfl) (by kernel_rfl) (by kernel_rfl) (by kernel_rfl) fun k x r h => (spec_l01In.eq k x).trans h
/-! spec.l15Way -/
noncomputable def spec_l15Way.c : Code := bodyOf Tryd.f48
def spec_l15Way.h : Nat → Hint := look ⟨[], [], []⟩ [(0, ⟨[0, 3], [], []⟩)]
def spec_l15Way.ps : List PK := [.one]
def spec_l15Way.rs : List RK := [.one true]
def spec_l15Way.vs : List ResultVar := [.tmp 2]
def spec_l15Way.x : Cx := ⟨tt, look none [(49, some spec_l01In.K)]⟩
def spec_l15Way.s0 (k : Nat) (rec0 : (ByteArray × Int) → Option (Bool)) (p : (ByteArray × Int)) : Option (Bool) :=
  (bif (decide (p.2 < (p.1.size : Int))) then (bif (decide ((0 : Int) ≤ p.2)) then (p.1[p.2.toNat]?).bind fun c1 => (bif (decide ((c1.toNat : Int) < (97 : Int))) then (bif (decide ((0 : Int) ≤ p.2)) then (p.1[p.2.toNat]?).bind fun c2 => (bif (decide ((c2.toNat : Int) < (48 : Int))) then some false else (bif (decide ((0 : Int) ≤ p.2)) then (p.1[p.2.toNat]?).bind fun c3 => (bif (decide ((c3.toNat : Int) > (57 : Int))) then some false else rec0 (p.1, (IntKind.i64.wrap (p.2 + (1 : Int))))) else none)) else none) else (bif (decide ((0 : Int) ≤ p.2)) then (p.1[p.2.toNat]?).bind fun c4 => (bif (decide ((c4.toNat : Int) > (122 : Int))) then (bif (decide ((0 : Int) ≤ p.2)) then (p.1[p.2.toNat]?).bind fun c5 => (bif (decide ((c5.toNat : Int) < (48 : Int))) then some false else (bif (decide ((0 : Int) ≤ p.2)) then (p.1[p.2.toNat]?).bind fun c6 => (bif (decide ((c6.toNat : Int) > (57 : Int))) then some false else rec0 (p.1, (IntKind.i64.wrap (p.2 + (1 : Int))))) else none)) else none) else rec0 (p.1, (IntKind.i64.wrap (p.2 + (1 : Int))))) else none)) else none) else (spec_l01In.f k (p.1.size : Int) (1 : Int) (8 : Int)).bind fun r7 => some r7)
def spec_l15Way.l0 (k : Nat) : Nat → (ByteArray × Int) → Option (Bool)
  | 0 => fun _ => none
  | j + 1 => spec_l15Way.s0 k (spec_l15Way.l0 k j)
def spec_l15Way.S0 (p : (ByteArray × Int)) : DS := ⟨tl [(0, .at (.str p.1)), (3, .at (.int .i64 p.2))], lookO []⟩
noncomputable def spec_l15Way.D0 (k : Nat) (j : Nat) (p : (ByteArray × Int)) : Option (Bool) := loopK (norm [] (spec_l15Way.h 0)) (runK spec_l15Way.x k 0 [] spec_l15Way.h 0 (sub spec_l15Way.c [1, 0, 1, 0, 0])) j (spec_l15Way.S0 p) (kBlk 0 (kSeq (runK spec_l15Way.x k 0 [] spec_l15Way.h 0 (sub spec_l15Way.c [1, 1])) (fin tt spec_l15Way.ps spec_l15Way.rs spec_l15Way.vs .bool)))
theorem spec_l15Way.D0_eq (k : Nat) : ∀ j, spec_l15Way.D0 k j = spec_l15Way.l0 k j := by
  intro j
  induction j with
  | zero => rfl
  | succ j ih =>
    show _ = spec_l15Way.s0 k (spec_l15Way.l0 k j)
    rw [← ih]
    funext p
    kernel_rfl
def spec_l15Way.f (k : Nat) (a0 : ByteArray) : Option (Bool) :=
  spec_l15Way.l0 k k (a0, (0 : Int))
def spec_l15Way.K : Ctr := ⟨spec_l15Way.ps, spec_l15Way.rs, false, .str, .bool, fun k x => spec_l15Way.f k x⟩
theorem spec_l15Way.eq (k : Nat) (x : (spec_l15Way.K.I).den) : func spec_l15Way.x spec_l15Way.h spec_l15Way.ps spec_l15Way.rs spec_l15Way.vs spec_l15Way.K.I spec_l15Way.K.O spec_l15Way.c k x = spec_l15Way.K.run k x := by
  show _ = spec_l15Way.f k x
  unfold spec_l15Way.f
  rw [← spec_l15Way.D0_eq k k]
  kernel_rfl
theorem spec_l15Way.ok : CtrOk Tryd.prog 48 spec_l15Way.K :=
  CtrOk.of (fn := Tryd.f48) (cd := spec_l15Way.c) (cx := spec_l15Way.x) (hs := spec_l15Way.h) (by kernel_rfl) (by kernel_rfl) (by kernel_rfl) (by kernel_rfl) tt_ok (envOk_cons spec_l01In.ok (envOk_nil)) (by kernel_rfl) (by kernel_rfl) (by kernel_rfl) (by kernel_rfl) fun k x r h => (spec_l15Way.eq k x).trans h
/-! spec.l15Has -/
noncomputable def spec_l15Has.c : Code := bodyOf Tryd.f41
def spec_l15Has.h : Nat → Hint := look ⟨[], [], []⟩ [(0, ⟨[0, 1, 5], [], []⟩)]
def spec_l15Has.ps : List PK := [.one, .one]
def spec_l15Has.rs : List RK := [.one true]
def spec_l15Has.vs : List ResultVar := [.tmp 4]
def spec_l15Has.x : Cx := ⟨tt, look none []⟩
def spec_l15Has.s0 (_k : Nat) (rec0 : (ByteArray × Int × (List (ByteArray))) → Option (Bool)) (p : (ByteArray × Int × (List (ByteArray)))) : Option (Bool) :=
  (bif (decide (p.2.1 < (p.2.2.length : Int))) then (bif ((decide ((0 : Int) ≤ p.2.1)) && (decide (p.2.1 < (p.2.2.length : Int)))) then (p.2.2[p.2.1.toNat]?).bind fun x1 => (bif (x1.toList == p.1.toList) then some true else rec0 (p.1, (IntKind.i64.wrap (p.2.1 + (1 : Int))), p.2.2)) else none) else some false)
def spec_l15Has.l0 (k : Nat) : Nat → (ByteArray × Int × (List (ByteArray))) → Option (Bool)
  | 0 => fun _ => none
  | j + 1 => spec_l15Has.s0 k (spec_l15Has.l0 k j)
def spec_l15Has.S0 (p : (ByteArray × Int × (List (ByteArray)))) : DS := ⟨tl [(0, .at (.whole 0)), (1, .at (.str p.1)), (5, .at (.int .i64 p.2.1))], lookO [(0, .row 9 .str false p.2.2)]⟩
noncomputable def spec_l15Has.D0 (k : Nat) (j : Nat) (p : (ByteArray × Int × (List (ByteArray)))) : Option (Bool) := loopK (norm [0] (spec_l15Has.h 0)) (runK spec_l15Has.x k 0 [0] spec_l15Has.h 0 (sub spec_l15Has.c [1, 0, 1, 0, 0])) j (spec_l15Has.S0 p) (kBlk 0 (kSeq (runK spec_l15Has.x k 0 [0] spec_l15Has.h 0 (sub spec_l15Has.c [1, 1])) (fin tt spec_l15Has.ps spec_l15Has.rs spec_l15Has.vs .bool)))
theorem spec_l15Has.D0_eq (k : Nat) : ∀ j, spec_l15Has.D0 k j = spec_l15Has.l0 k j := by
  intro j
  induction j with
  | zero => rfl
  | succ j ih =>
    show _ = spec_l15Has.s0 k (spec_l15Has.l0 k j)
    rw [← ih]
    funext p
    kernel_rfl
def spec_l15Has.f (k : Nat) (a0 : List (ByteArray)) (a1 : ByteArray) : Option (Bool) :=
  spec_l15Has.l0 k k (a1, (0 : Int), a0)
def spec_l15Has.K : Ctr := ⟨spec_l15Has.ps, spec_l15Has.rs, false, (.two (.sl 9 .str) .str), .bool, fun k x => spec_l15Has.f k x.1 x.2⟩
theorem spec_l15Has.eq (k : Nat) (x : (spec_l15Has.K.I).den) : func spec_l15Has.x spec_l15Has.h spec_l15Has.ps spec_l15Has.rs spec_l15Has.vs spec_l15Has.K.I spec_l15Has.K.O spec_l15Has.c k x = spec_l15Has.K.run k x := by
  show _ = spec_l15Has.f k x.1 x.2
  unfold spec_l15Has.f
  rw [← spec_l15Has.D0_eq k k]
  kernel_rfl
theorem spec_l15Has.ok : CtrOk Tryd.prog 41 spec_l15Has.K :=
  CtrOk.of (fn := Tryd.f41) (cd := spec_l15Has.c) (cx := spec_l15Has.x) (hs := spec_l15Has.h) (by kernel_rfl) (by kernel_rfl) (by kernel_rfl) (by kernel_rfl) tt_ok (envOk_nil) (by kernel_rfl) (by kernel_rfl) (by kernel_rfl) (by kernel_rfl) fun k x r h => (spec_l15Has.eq k x).trans h
/-! spec.OptionsOk -/
noncomputable def spec_OptionsOk.c : Code := bodyOf Tryd.f23
def spec_OptionsOk.h : Nat → Hint := look ⟨[], [], []⟩ [(0, ⟨[1, 3], [16], []⟩)]
def spec_OptionsOk.ps : List PK := [.agg 3]
def spec_OptionsOk.rs : List RK := [.one true]
def spec_OptionsOk.vs : List ResultVar := [.tmp 2]
def spec_OptionsOk.x : Cx := ⟨tt, look none [(48, some spec_l15Way.K), (41, some spec_l15Has.K), (49, some spec_l01In.K)]⟩
def spec_OptionsOk.s0 (k : Nat) (rec0 : (Int × (List (ByteArray)) × Int × Bool) → Option (Bool)) (p : (Int × (List (ByteArray)) × Int × Bool)) : Option (Bool) :=
  (bif (decide (p.1 < (p.2.1.length : Int))) then (bif ((decide ((0 : Int) ≤ p.1)) && (decide (p.1 < (p.2.1.length : Int)))) then (p.2.1[p.1.toNat]?).bind fun x1 => (spec_l15Way.f k x1).bind fun r2 => (bif (!r2) then some false else (bif ((decide ((0 : Int) ≤ p.1)) && (decide (p.1 ≤ (p.2.1.length : Int)))) then (bif ((decide ((0 : Int) ≤ p.1)) && (decide (p.1 < (p.2.1.length : Int)))) then (p.2.1[p.1.toNat]?).bind fun x3 => (spec_l15Has.f k (p.2.1.take p.1.toNat) x3).bind fun r4 => (bif r4 then some false else rec0 ((IntKind.i64.wrap (p.1 + (1 : Int))), p.2.1, p.2.2.1, p.2.2.2)) else none) else none)) else none) else (spec_l01In.f k p.2.2.1 (20 : Int) (60 : Int)).bind fun r5 => (bif r5 then (spec_l01In.f k (p.2.1.length : Int) (1 : Int) (4 : Int)).bind fun r6 => some r6 else some false))
def spec_OptionsOk.l0 (k : Nat) : Nat → (Int × (List (ByteArray)) × Int × Bool) → Option (Bool)
  | 0 => fun _ => none
  | j + 1 => spec_OptionsOk.s0 k (spec_OptionsOk.l0 k j)
def spec_OptionsOk.S0 (p : (Int × (List (ByteArray)) × Int × Bool)) : DS := ⟨tl [(1, .at (.bptr 16 0)), (3, .at (.int .i64 p.1))], lookO [(1, .row 9 .str false p.2.1), (16, .box 28 [.int .i64 p.2.2.1, .whole 1, .bool p.2.2.2])]⟩
noncomputable def spec_OptionsOk.D0 (k : Nat) (j : Nat) (p : (Int × (List (ByteArray)) × Int × Bool)) : Option (Bool) := loopK (norm [1] (spec_OptionsOk.h 0)) (runK spec_OptionsOk.x k 0 [1] spec_OptionsOk.h 0 (sub spec_OptionsOk.c [1, 0, 1, 0, 0])) j (spec_OptionsOk.S0 p) (kBlk 0 (kSeq (runK spec_OptionsOk.x k 0 [1] spec_OptionsOk.h 0 (sub spec_OptionsOk.c [1, 1])) (fin tt spec_OptionsOk.ps spec_OptionsOk.rs spec_OptionsOk.vs .bool)))
theorem spec_OptionsOk.D0_eq (k : Nat) : ∀ j, spec_OptionsOk.D0 k j = spec_OptionsOk.l0 k j := by
  intro j
  induction j with
  | zero => rfl
  | succ j ih =>
    show _ = spec_OptionsOk.s0 k (spec_OptionsOk.l0 k j)
    rw [← ih]
    funext p
    kernel_rfl
def spec_OptionsOk.f (k : Nat) (a0_0 : Int) (a0_1 : List (ByteArray)) (a0_2 : Bool) : Option (Bool) :=
  spec_OptionsOk.l0 k k ((0 : Int), a0_1, a0_0, a0_2)
def spec_OptionsOk.K : Ctr := ⟨spec_OptionsOk.ps, spec_OptionsOk.rs, false, (.two (.int .i64) (.two (.sl 9 .str) .bool)), .bool, fun k x => spec_OptionsOk.f k x.1 x.2.1 x.2.2⟩
theorem spec_OptionsOk.eq (k : Nat) (x : (spec_OptionsOk.K.I).den) : func spec_OptionsOk.x spec_OptionsOk.h spec_OptionsOk.ps spec_OptionsOk.rs spec_OptionsOk.vs spec_OptionsOk.K.I spec_OptionsOk.K.O spec_OptionsOk.c k x = spec_OptionsOk.K.run k x := by
  show _ = spec_OptionsOk.f k x.1 x.2.1 x.2.2
  unfold spec_OptionsOk.f
  rw [← spec_OptionsOk.D0_eq k k]
  kernel_rfl
theorem spec_OptionsOk.ok : CtrOk Tryd.prog 23 spec_OptionsOk.K :=
  CtrOk.of (fn := Tryd.f23) (cd := spec_OptionsOk.c) (cx := spec_OptionsOk.x) (hs := spec_OptionsOk.h) (by kernel_rfl) (by kernel_rfl) (by kernel_rfl) (by kernel_rfl) tt_ok (envOk_cons spec_l15Way.ok (envOk_cons spec_l15Has.ok (envOk_cons spec_l01In.ok (envOk_nil)))) (by kernel_rfl) (by kernel_rfl) (by kernel_rfl) (by kernel_rfl) fun k x r h => (spec_OptionsOk.eq k x).trans h
/-! spec.OptionText -/
noncomputable def spec_OptionText.c : Code := bodyOf Tryd.f7
def spec_OptionText.h : Nat → Hint := look ⟨[], [], []⟩ [(0, ⟨[1, 4, 5], [16], []⟩)]
def spec_OptionText.ps : List PK := [.agg 3]
def spec_OptionText.rs : List RK := [.one true, .one true]
def spec_OptionText.vs : List ResultVar := [.tmp 2, .tmp 3]
def spec_OptionText.x : Cx := ⟨tt, look none [(23, some spec_OptionsOk.K), (24, some spec_Decimal.K)]⟩
def spec_OptionText.s0 (_k : Nat) (rec0 : (ByteArray × Int × (List (ByteArray)) × Int × Bool) → Option (ByteArray × Bool)) (p : (ByteArray × Int × (List (ByteArray)) × Int × Bool)) : Option (ByteArray × Bool) :=
  (bif (decide (p.2.1 < (p.2.2.1.length : Int))) then (bif (decide (p.2.1 > (0 : Int))) then (bif decide (p.1.size + (⟨#[44]⟩ : ByteArray).size ≤ 140737488351232) then (bif ((decide ((0 : Int) ≤ p.2.1)) && (decide (p.2.1 < (p.2.2.1.length : Int)))) then (p.2.2.1[p.2.1.toNat]?).bind fun x3 => (bif decide ((p.1 ++ (⟨#[44]⟩ : ByteArray)).size + x3.size ≤ 140737488351232) then rec0 (((p.1 ++ (⟨#[44]⟩ : ByteArray)) ++ x3), (IntKind.i64.wrap (p.2.1 + (1 : Int))), p.2.2.1, p.2.2.2.1, p.2.2.2.2) else none) else none) else none) else (bif ((decide ((0 : Int) ≤ p.2.1)) && (decide (p.2.1 < (p.2.2.1.length : Int)))) then (p.2.2.1[p.2.1.toNat]?).bind fun x4 => (bif decide (p.1.size + x4.size ≤ 140737488351232) then rec0 ((p.1 ++ x4), (IntKind.i64.wrap (p.2.1 + (1 : Int))), p.2.2.1, p.2.2.2.1, p.2.2.2.2) else none) else none)) else (bif p.2.2.2.2 then (bif decide (p.1.size + (⟨#[59, 112, 105, 101, 99, 101, 115]⟩ : ByteArray).size ≤ 140737488351232) then some ((p.1 ++ (⟨#[59, 112, 105, 101, 99, 101, 115]⟩ : ByteArray)), true) else none) else some (p.1, true)))
def spec_OptionText.l0 (k : Nat) : Nat → (ByteArray × Int × (List (ByteArray)) × Int × Bool) → Option (ByteArray × Bool)
  | 0 => fun _ => none
  | j + 1 => spec_OptionText.s0 k (spec_OptionText.l0 k j)
def spec_OptionText.S0 (p : (ByteArray × Int × (List (ByteArray)) × Int × Bool)) : DS := ⟨tl [(1, .at (.bptr 16 0)), (4, .at (.str p.1)), (5, .at (.int .i64 p.2.1))], lookO [(1, .row 9 .str false p.2.2.1), (16, .box 28 [.int .i64 p.2.2.2.1, .whole 1, .bool p.2.2.2.2])]⟩
noncomputable def spec_OptionText.D0 (k : Nat) (j : Nat) (p : (ByteArray × Int × (List (ByteArray)) × Int × Bool)) : Option (ByteArray × Bool) := loopK (norm [1] (spec_OptionText.h 0)) (runK spec_OptionText.x k 0 [1] spec_OptionText.h 0 (sub spec_OptionText.c [1, 1, 1, 0, 1, 0, 0])) j (spec_OptionText.S0 p) (kBlk 0 (kSeq (runK spec_OptionText.x k 0 [1] spec_OptionText.h 0 (sub spec_OptionText.c [1, 1, 1, 1])) (fin tt spec_OptionText.ps spec_OptionText.rs spec_OptionText.vs (.two .str .bool))))
theorem spec_OptionText.D0_eq (k : Nat) : ∀ j, spec_OptionText.D0 k j = spec_OptionText.l0 k j := by
  intro j
  induction j with
  | zero => rfl
  | succ j ih =>
    show _ = spec_OptionText.s0 k (spec_OptionText.l0 k j)
    rw [← ih]
    funext p
    kernel_rfl
def spec_OptionText.f (k : Nat) (a0_0 : Int) (a0_1 : List (ByteArray)) (a0_2 : Bool) : Option (ByteArray × Bool) :=
  (spec_OptionsOk.f k a0_0 a0_1 a0_2).bind fun r1 => (bif (!r1) then some (ByteArray.empty, false) else (spec_Decimal.f k a0_0).bind fun r2 => (bif decide ((⟨#[115, 105, 122, 101, 32]⟩ : ByteArray).size + r2.size ≤ 140737488351232) then (bif decide (((⟨#[115, 105, 122, 101, 32]⟩ : ByteArray) ++ r2).size + (⟨#[59, 119, 97, 121, 115, 32]⟩ : ByteArray).size ≤ 140737488351232) then spec_OptionText.l0 k k ((((⟨#[115, 105, 122, 101, 32]⟩ : ByteArray) ++ r2) ++ (⟨#[59, 119, 97, 121, 115, 32]⟩ : ByteArray)), (0 : Int), a0_1, a0_0, a0_2) else none) else none))
def spec_OptionText.K : Ctr := ⟨spec_OptionText.ps, spec_OptionText.rs, false, (.two (.int .i64) (.two (.sl 9 .str) .bool)), (.two .str .bool), fun k x => spec_OptionText.f k x.1 x.2.1 x.2.2⟩
theorem spec_OptionText.eq (k : Nat) (x : (spec_OptionText.K.I).den) : func spec_OptionText.x spec_OptionText.h spec_OptionText.ps spec_OptionText.rs spec_OptionText.vs spec_OptionText.K.I spec_OptionText.K.O spec_OptionText.c k x = spec_OptionText.K.run k x := by
  show _ = spec_OptionText.f k x.1 x.2.1 x.2.2
  unfold spec_OptionText.f
  rw [← spec_OptionText.D0_eq k k]
  kernel_rfl
theorem spec_OptionText.ok : CtrOk Tryd.prog 7 spec_OptionText.K :=
  CtrOk.of (fn := Tryd.f7) (cd := spec_OptionText.c) (cx := spec_OptionText.x) (hs := spec_OptionText.h) (by kernel_rfl) (by kernel_rfl) (by kernel_rfl) (by kernel_rfl) tt_ok (envOk_cons spec_OptionsOk.ok (envOk_cons spec_Decimal.ok (envOk_nil))) (by kernel_rfl) (by kernel_rfl) (by kernel_rfl) (by kernel_rfl) fun k x r h => (spec_OptionText.eq k x).trans h
/-! spec.ReadOption -/
noncomputable def spec_ReadOption.c : Code := bodyOf Tryd.f11
def spec_ReadOption.h : Nat → Hint := look ⟨[], [], []⟩ []
def spec_ReadOption.ps : List PK := [.one]
def spec_ReadOption.rs : List RK := [.agg 3 true, .one true]
def spec_ReadOption.vs : List ResultVar := [.cell 2 28, .tmp 3]
def spec_ReadOption.x : Cx := ⟨tt, look none [(29, some spec_l08Split.K), (30, some spec_ReadDecimal.K), (7, some spec_OptionText.K)]⟩
def spec_ReadOption.f (k : Nat) (a0 : ByteArray) : Option (Int × (List (ByteArray)) × Bool × Bool) :=
  (spec_l08Split.f k a0 (59 : Int)).bind fun r1 => (bif (decide ((r1.length : Int) < (2 : Int))) then some ((0 : Int), ([] : List (ByteArray)), false, false) else (bif (decide ((r1.length : Int) > (3 : Int))) then some ((0 : Int), ([] : List (ByteArray)), false, false) else (bif (true && (decide ((0 : Int) < (r1.length : Int)))) then (r1[0]?).bind fun x2 => (bif (decide ((x2.size : Int) < (6 : Int))) then some ((0 : Int), ([] : List (ByteArray)), false, false) else (bif (true && (decide ((1 : Int) < (r1.length : Int)))) then (r1[1]?).bind fun x3 => (bif (decide ((x3.size : Int) < (6 : Int))) then some ((0 : Int), ([] : List (ByteArray)), false, false) else (bif (true && (decide ((0 : Int) < (r1.length : Int)))) then (r1[0]?).bind fun x4 => (bif (true && (decide ((5 : Int) ≤ (x4.size : Int)))) then (bif (!((x4.extract 0 5).toList == (⟨#[115, 105, 122, 101, 32]⟩ : ByteArray).toList)) then some ((0 : Int), ([] : List (ByteArray)), false, false) else (bif (true && (decide ((1 : Int) < (r1.length : Int)))) then (r1[1]?).bind fun x5 => (bif (true && (decide ((5 : Int) ≤ (x5.size : Int)))) then (bif (!((x5.extract 0 5).toList == (⟨#[119, 97, 121, 115, 32]⟩ : ByteArray).toList)) then some ((0 : Int), ([] : List (ByteArray)), false, false) else (bif (true && (decide ((0 : Int) < (r1.length : Int)))) then (r1[0]?).bind fun x6 => (bif (true && (decide ((5 : Int) ≤ (x6.size : Int)))) then (spec_ReadDecimal.f k (x6.extract 5 x6.size)).bind fun r7 => (bif (true && (decide ((1 : Int) < (r1.length : Int)))) then (r1[1]?).bind fun x8 => (bif (true && (decide ((5 : Int) ≤ (x8.size : Int)))) then (spec_l08Split.f k (x8.extract 5 x8.size) (44 : Int)).bind fun r9 => (spec_OptionText.f k r7.1 r9 ((r1.length : Int) == (3 : Int))).bind fun r10 => (bif (!r7.2) then some ((0 : Int), ([] : List (ByteArray)), false, false) else (bif (!r10.2) then some ((0 : Int), ([] : List (ByteArray)), false, false) else (bif (!(r10.1.toList == a0.toList)) then some ((0 : Int), ([] : List (ByteArray)), false, false) else some (r7.1, r9, ((r1.length : Int) == (3 : Int)), true)))) else none) else none) else none) else none)) else none) else none)) else none) else none)) else none)) else none)))
def spec_ReadOption.K : Ctr := ⟨spec_ReadOption.ps, spec_ReadOption.rs, false, .str, (.two (.int .i64) (.two (.sl 9 .str) (.two .bool .bool))), fun k x => spec_ReadOption.f k x⟩
theorem spec_ReadOption.eq (k : Nat) (x : (spec_ReadOption.K.I).den) : func spec_ReadOption.x spec_ReadOption.h spec_ReadOption.ps spec_ReadOption.rs spec_ReadOption.vs spec_ReadOption.K.I spec_ReadOption.K.O spec_ReadOption.c k x = spec_ReadOption.K.run k x := by
  show _ = spec_ReadOption.f k x
  kernel_rfl
theorem spec_ReadOption.ok : CtrOk Tryd.prog 11 spec_ReadOption.K :=
  CtrOk.of (fn := Tryd.f11) (cd := spec_ReadOption.c) (cx := spec_ReadOption.x) (hs := spec_ReadOption.h) (by kernel_rfl) (by kernel_rfl) (by kernel_rfl) (by kernel_rfl) tt_ok (envOk_cons spec_l08Split.ok (envOk_cons spec_ReadDecimal.ok (envOk_cons spec_OptionText.ok (envOk_nil)))) (by kernel_rfl) (by kernel_rfl) (by kernel_rfl) (by kernel_rfl) fun k x r h => (spec_ReadOption.eq k x).trans h
/-! strings.CutSuffix -/
def strings_CutSuffix.f (_k : Nat) (a0 : ByteArray) (a1 : ByteArray) : Option (ByteArray × Bool) := cutSRun a0 a1
def strings_CutSuffix.K : Ctr := cutSCtr
theorem strings_CutSuffix.ok : CtrOk Tryd.prog 31 strings_CutSuffix.K := lib31
/-! strings.Cut -/
def strings_Cut.f (_k : Nat) (a0 : ByteArray) (a1 : ByteArray) : Option (ByteArray × ByteArray × Bool) := cutRun a0 a1
def strings_Cut.K : Ctr := cutCtr
theorem strings_Cut.ok : CtrOk Tryd.prog 32 strings_Cut.K := lib32
/-! strings.TrimPrefix -/
def strings_TrimPrefix.f (_k : Nat) (a0 : ByteArray) (a1 : ByteArray) : Option (ByteArray) := trimPRun a0 a1
def strings_TrimPrefix.K : Ctr := trimPCtr
theorem strings_TrimPrefix.ok : CtrOk Tryd.prog 34 strings_TrimPrefix.K := lib34
/-! impl.ReadDecimal -/
def impl_ReadDecimal.f (_k : Nat) (a0 : ByteArray) : Option (Int × Bool) := readDRun a0
def impl_ReadDecimal.K : Ctr := readDCtr
theorem impl_ReadDecimal.ok : CtrOk Tryd.prog 33 impl_ReadDecimal.K := lib33
/-! strings.Split -/
def strings_Split.f (_k : Nat) (a0 : ByteArray) (a1 : ByteArray) : Option ((List (ByteArray))) := splitRun a0 a1
def strings_Split.K : Ctr := splitCtr 9
theorem strings_Split.ok : CtrOk Tryd.prog 35 strings_Split.K := lib35
/-! impl.within -/
noncomputable def impl_within.c : Code := bodyOf Tryd.f47
def impl_within.h : Nat → Hint := look ⟨[], [], []⟩ []
def impl_within.ps : List PK := [.one, .one, .one]
def impl_within.rs : List RK := [.one true]
def impl_within.vs : List ResultVar := [.tmp 6]
def impl_within.x : Cx := ⟨tt, look none []⟩
def impl_within.f (_k : Nat) (a0 : Int) (a1 : Int) (a2 : Int) : Option (Bool) :=
  (bif (decide (a0 ≥ a1)) then some (decide (a0 ≤ a2)) else some false)
def impl_within.K : Ctr := ⟨impl_within.ps, impl_within.rs, false, (.two (.int .i64) (.two (.int .i64) (.int .i64))), .bool, fun k x => impl_within.f k x.1 x.2.1 x.2.2⟩
theorem impl_within.eq (k : Nat) (x : (impl_within.K.I).den) : func impl_within.x impl_within.h impl_within.ps impl_within.rs impl_within.vs impl_within.K.I impl_within.K.O impl_within.c k x = impl_within.K.run k x := by
  show _ = impl_within.f k x.1 x.2.1 x.2.2
  kernel_rfl
theorem impl_within.ok : CtrOk Tryd.prog 47 impl_within.K :=
  CtrOk.of (fn := Tryd.f47) (cd := impl_within.c) (cx := impl_within.x) (hs := impl_within.h) (by kernel_rfl) (by kernel_rfl) (by kernel_rfl) (by kernel_rfl) tt_ok (envOk_nil) (by kernel_rfl) (by kernel_rfl) (by kernel_rfl) (by kernel_rfl) fun k x r h => (impl_within.eq k x).trans h
/-! impl.wayOk -/
noncomputable def impl_wayOk.c : Code := bodyOf Tryd.f46
def impl_wayOk.h : Nat → Hint := look ⟨[], [], []⟩ [(0, ⟨[0, 3], [], []⟩)]
def impl_wayOk.ps : List PK := [.one]
def impl_wayOk.rs : List RK := [.one true]
def impl_wayOk.vs : List ResultVar := [.tmp 2]
def impl_wayOk.x : Cx := ⟨tt, look none [(47, some impl_within.K)]⟩
def impl_wayOk.s0 (k : Nat) (rec0 : (ByteArray × Int) → Option (Bool)) (p : (ByteArray × Int)) : Option (Bool) :=
  (bif (decide (p.2 < (p.1.size : Int))) then (bif (decide ((0 : Int) ≤ p.2)) then (p.1[p.2.toNat]?).bind fun c1 => (impl_within.f k (IntKind.i64.wrap (c1.toNat : Int)) (97 : Int) (122 : Int)).bind fun r2 => (bif (!r2) then (bif (decide ((0 : Int) ≤ p.2)) then (p.1[p.2.toNat]?).bind fun c3 => (impl_within.f k (IntKind.i64.wrap (c3.toNat : Int)) (48 : Int) (57 : Int)).bind fun r4 => (bif (!r4) then some false else rec0 (p.1, (IntKind.i64.wrap (p.2 + (1 : Int))))) else none) else rec0 (p.1, (IntKind.i64.wrap (p.2 + (1 : Int))))) else none) else (impl_within.f k (p.1.size : Int) (1 : Int) (8 : Int)).bind fun r5 => some r5)
def impl_wayOk.l0 (k : Nat) : Nat → (ByteArray × Int) → Option (Bool)
  | 0 => fun _ => none
  | j + 1 => impl_wayOk.s0 k (impl_wayOk.l0 k j)
def impl_wayOk.S0 (p : (ByteArray × Int)) : DS := ⟨tl [(0, .at (.str p.1)), (3, .at (.int .i64 p.2))], lookO []⟩
noncomputable def impl_wayOk.D0 (k : Nat) (j : Nat) (p : (ByteArray × Int)) : Option (Bool) := loopK (norm [] (impl_wayOk.h 0)) (runK impl_wayOk.x k 0 [] impl_wayOk.h 0 (sub impl_wayOk.c [1, 0, 1, 0, 0])) j (impl_wayOk.S0 p) (kBlk 0 (kSeq (runK impl_wayOk.x k 0 [] impl_wayOk.h 0 (sub impl_wayOk.c [1, 1])) (fin tt impl_wayOk.ps impl_wayOk.rs impl_wayOk.vs .bool)))
theorem impl_wayOk.D0_eq (k : Nat) : ∀ j, impl_wayOk.D0 k j = impl_wayOk.l0 k j := by
  intro j
  induction j with
  | zero => rfl
  | succ j ih =>
    show _ = impl_wayOk.s0 k (impl_wayOk.l0 k j)
    rw [← ih]
    funext p
    kernel_rfl
def impl_wayOk.f (k : Nat) (a0 : ByteArray) : Option (Bool) :=
  impl_wayOk.l0 k k (a0, (0 : Int))
def impl_wayOk.K : Ctr := ⟨impl_wayOk.ps, impl_wayOk.rs, false, .str, .bool, fun k x => impl_wayOk.f k x⟩
theorem impl_wayOk.eq (k : Nat) (x : (impl_wayOk.K.I).den) : func impl_wayOk.x impl_wayOk.h impl_wayOk.ps impl_wayOk.rs impl_wayOk.vs impl_wayOk.K.I impl_wayOk.K.O impl_wayOk.c k x = impl_wayOk.K.run k x := by
  show _ = impl_wayOk.f k x
  unfold impl_wayOk.f
  rw [← impl_wayOk.D0_eq k k]
  kernel_rfl
theorem impl_wayOk.ok : CtrOk Tryd.prog 46 impl_wayOk.K :=
  CtrOk.of (fn := Tryd.f46) (cd := impl_wayOk.c) (cx := impl_wayOk.x) (hs := impl_wayOk.h) (by kernel_rfl) (by kernel_rfl) (by kernel_rfl) (by kernel_rfl) tt_ok (envOk_cons impl_within.ok (envOk_nil)) (by kernel_rfl) (by kernel_rfl) (by kernel_rfl) (by kernel_rfl) fun k x r h => (impl_wayOk.eq k x).trans h
end Go.Proofs.YtfaeklomiofpdaaDoor.DI
