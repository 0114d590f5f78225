/- FnAddrReads: functions as plain Lean, in the machine of values. -/
import Derived.Test.YtpheniajdbbphaaDoorVFnAddrReads1
namespace Go.Proofs.YtpheniajdbbphaaDoor.DI
open Go
set_option linter.unusedVariables false
/-! spec.l08Split -/
noncomputable def spec_l08Split.c : Code := bodyOf Tryd.f34
def spec_l08Split.h : Nat → Hint := look ⟨[], [], []⟩ [(0, ⟨[0, 1, 5, 6, 7], [], [(.t 5, 576, 9, .str)]⟩)]
def spec_l08Split.ps : List PK := [.one, .one]
def spec_l08Split.rs : List RK := [.one true]
def spec_l08Split.vs : List ResultVar := [.tmp 4]
def spec_l08Split.x : Cx := ⟨tt, look none []⟩
def spec_l08Split.s0 (_k : Nat) (rec0 : (ByteArray × Int × Int × Int × (List (ByteArray))) → Option ((List (ByteArray)))) (p : (ByteArray × Int × Int × Int × (List (ByteArray)))) : Option ((List (ByteArray))) :=
  (bif (decide (p.2.2.2.1 ≤ (p.1.size : Int))) then (bif (p.2.2.2.1 == (p.1.size : Int)) then (bif ((decide ((0 : Int) ≤ p.2.2.1)) && ((decide (p.2.2.1 ≤ p.2.2.2.1)) && (decide (p.2.2.2.1 ≤ (p.1.size : Int))))) then (bif decide ((p.2.2.2.2.length + [(p.1.extract p.2.2.1.toNat p.2.2.2.1.toNat)].length) * 16 ≤ 140737488355328) then rec0 (p.1, p.2.1, (IntKind.i64.wrap (p.2.2.2.1 + (1 : Int))), (IntKind.i64.wrap (p.2.2.2.1 + (1 : Int))), (p.2.2.2.2 ++ [(p.1.extract p.2.2.1.toNat p.2.2.2.1.toNat)])) else none) else none) else (bif (decide ((0 : Int) ≤ p.2.2.2.1)) then (p.1[p.2.2.2.1.toNat]?).bind fun c1 => (bif ((c1.toNat : Int) == p.2.1) then (bif ((decide ((0 : Int) ≤ p.2.2.1)) && ((decide (p.2.2.1 ≤ p.2.2.2.1)) && (decide (p.2.2.2.1 ≤ (p.1.size : Int))))) then (bif decide ((p.2.2.2.2.length + [(p.1.extract p.2.2.1.toNat p.2.2.2.1.toNat)].length) * 16 ≤ 140737488355328) then rec0 (p.1, p.2.1, (IntKind.i64.wrap (p.2.2.2.1 + (1 : Int))), (IntKind.i64.wrap (p.2.2.2.1 + (1 : Int))), (p.2.2.2.2 ++ [(p.1.extract p.2.2.1.toNat p.2.2.2.1.toNat)])) else none) else none) else rec0 (p.1, p.2.1, p.2.2.1, (IntKind.i64.wrap (p.2.2.2.1 + (1 : Int))), p.2.2.2.2)) else none)) else some p.2.2.2.2)
def spec_l08Split.l0 (k : Nat) : Nat → (ByteArray × Int × Int × Int × (List (ByteArray))) → Option ((List (ByteArray)))
  | 0 => fun _ => none
  | j + 1 => spec_l08Split.s0 k (spec_l08Split.l0 k j)
def spec_l08Split.S0 (p : (ByteArray × Int × Int × Int × (List (ByteArray)))) : DS := ⟨tl [(0, .at (.str p.1)), (1, .at (.int .u8 p.2.1)), (5, .at (.whole 576)), (6, .at (.int .i64 p.2.2.1)), (7, .at (.int .i64 p.2.2.2.1))], lookO [(576, .row 9 .str true p.2.2.2.2)]⟩
noncomputable def spec_l08Split.D0 (k : Nat) (j : Nat) (p : (ByteArray × Int × Int × Int × (List (ByteArray)))) : Option ((List (ByteArray))) := loopK (norm [] (spec_l08Split.h 0)) (runK spec_l08Split.x k 0 [] spec_l08Split.h 0 (sub spec_l08Split.c [1, 1, 1, 0, 1, 0, 0])) j (spec_l08Split.S0 p) (kBlk 0 (kSeq (runK spec_l08Split.x k 0 [] spec_l08Split.h 0 (sub spec_l08Split.c [1, 1, 1, 1])) (fin tt spec_l08Split.ps spec_l08Split.rs spec_l08Split.vs (.sl 9 .str))))
theorem spec_l08Split.D0_eq (k : Nat) : ∀ j, spec_l08Split.D0 k j = spec_l08Split.l0 k j := by
  intro j
  induction j with
  | zero => rfl
  | succ j ih =>
    show _ = spec_l08Split.s0 k (spec_l08Split.l0 k j)
    rw [← ih]
    funext p
    kernel_rfl
def spec_l08Split.f (k : Nat) (a0 : ByteArray) (a1 : Int) : Option ((List (ByteArray))) :=
  spec_l08Split.l0 k k (a0, a1, (0 : Int), (0 : Int), ([] : List (ByteArray)))
def spec_l08Split.K : Ctr := ⟨spec_l08Split.ps, spec_l08Split.rs, false, (.two .str (.int .u8)), (.sl 9 .str), fun k x => spec_l08Split.f k x.1 x.2⟩
theorem spec_l08Split.eq (k : Nat) (x : (spec_l08Split.K.I).den) : func spec_l08Split.x spec_l08Split.h spec_l08Split.ps spec_l08Split.rs spec_l08Split.vs spec_l08Split.K.I spec_l08Split.K.O spec_l08Split.c k x = spec_l08Split.K.run k x := by
  show _ = spec_l08Split.f k x.1 x.2
  unfold spec_l08Split.f
  rw [← spec_l08Split.D0_eq k k]
  kernel_rfl
theorem spec_l08Split.ok : CtrOk Tryd.prog 34 spec_l08Split.K :=
  CtrOk.of (fn := Tryd.f34) (cd := spec_l08Split.c) (cx := spec_l08Split.x) (hs := spec_l08Split.h) (by kernel_rfl) (by kernel_rfl) (by kernel_rfl) (by kernel_rfl) tt_ok (envOk_nil) (by kernel_rfl) (by kernel_rfl) (by kernel_rfl) (by kernel_rfl) fun k x r h => (spec_l08Split.eq k x).trans h
/-! spec.ReadDecimal -/
noncomputable def spec_ReadDecimal.c : Code := bodyOf Tryd.f35
def spec_ReadDecimal.h : Nat → Hint := look ⟨[], [], []⟩ [(0, ⟨[0, 4, 5], [], []⟩)]
def spec_ReadDecimal.ps : List PK := [.one]
def spec_ReadDecimal.rs : List RK := [.one true, .one true]
def spec_ReadDecimal.vs : List ResultVar := [.tmp 2, .tmp 3]
def spec_ReadDecimal.x : Cx := ⟨tt, look none [(50, some spec_Decimal.K)]⟩
def spec_ReadDecimal.s0 (k : Nat) (rec0 : (ByteArray × Int × Int) → Option (Int × Bool)) (p : (ByteArray × Int × Int)) : Option (Int × Bool) :=
  (bif (decide (p.2.2 < (p.1.size : Int))) then (bif (decide ((0 : Int) ≤ p.2.2)) then (p.1[p.2.2.toNat]?).bind fun c1 => (bif (decide ((c1.toNat : Int) < (48 : Int))) then some ((0 : Int), false) else (bif (decide ((0 : Int) ≤ p.2.2)) then (p.1[p.2.2.toNat]?).bind fun c2 => (bif (decide ((c2.toNat : Int) > (57 : Int))) then some ((0 : Int), false) else (bif (decide ((0 : Int) ≤ p.2.2)) then (p.1[p.2.2.toNat]?).bind fun c3 => rec0 (p.1, (IntKind.i64.wrap ((IntKind.i64.wrap ((IntKind.i64.wrap ((10 : Int) * p.2.1)) + (IntKind.i64.wrap (c3.toNat : Int)))) - (48 : Int))), (IntKind.i64.wrap (p.2.2 + (1 : Int)))) else none)) else none)) else none) else (bif (decide (p.2.1 > (1000000000 : Int))) then some ((0 : Int), false) else (spec_Decimal.f k p.2.1).bind fun r4 => (bif (!(r4.toList == p.1.toList)) then some ((0 : Int), false) else some (p.2.1, true))))
def spec_ReadDecimal.l0 (k : Nat) : Nat → (ByteArray × Int × Int) → Option (Int × Bool)
  | 0 => fun _ => none
  | j + 1 => spec_ReadDecimal.s0 k (spec_ReadDecimal.l0 k j)
def spec_ReadDecimal.S0 (p : (ByteArray × Int × Int)) : DS := ⟨tl [(0, .at (.str p.1)), (4, .at (.int .i64 p.2.1)), (5, .at (.int .i64 p.2.2))], lookO []⟩
noncomputable def spec_ReadDecimal.D0 (k : Nat) (j : Nat) (p : (ByteArray × Int × Int)) : Option (Int × Bool) := loopK (norm [] (spec_ReadDecimal.h 0)) (runK spec_ReadDecimal.x k 0 [] spec_ReadDecimal.h 0 (sub spec_ReadDecimal.c [1, 1, 1, 0, 1, 0, 0])) j (spec_ReadDecimal.S0 p) (kBlk 0 (kSeq (runK spec_ReadDecimal.x k 0 [] spec_ReadDecimal.h 0 (sub spec_ReadDecimal.c [1, 1, 1, 1])) (fin tt spec_ReadDecimal.ps spec_ReadDecimal.rs spec_ReadDecimal.vs (.two (.int .i64) .bool))))
theorem spec_ReadDecimal.D0_eq (k : Nat) : ∀ j, spec_ReadDecimal.D0 k j = spec_ReadDecimal.l0 k j := by
  intro j
  induction j with
  | zero => rfl
  | succ j ih =>
    show _ = spec_ReadDecimal.s0 k (spec_ReadDecimal.l0 k j)
    rw [← ih]
    funext p
    kernel_rfl
def spec_ReadDecimal.f (k : Nat) (a0 : ByteArray) : Option (Int × Bool) :=
  (bif (decide ((a0.size : Int) > (10 : Int))) then some ((0 : Int), false) else spec_ReadDecimal.l0 k k (a0, (0 : Int), (0 : Int)))
def spec_ReadDecimal.K : Ctr := ⟨spec_ReadDecimal.ps, spec_ReadDecimal.rs, false, .str, (.two (.int .i64) .bool), fun k x => spec_ReadDecimal.f k x⟩
theorem spec_ReadDecimal.eq (k : Nat) (x : (spec_ReadDecimal.K.I).den) : func spec_ReadDecimal.x spec_ReadDecimal.h spec_ReadDecimal.ps spec_ReadDecimal.rs spec_ReadDecimal.vs spec_ReadDecimal.K.I spec_ReadDecimal.K.O spec_ReadDecimal.c k x = spec_ReadDecimal.K.run k x := by
  show _ = spec_ReadDecimal.f k x
  unfold spec_ReadDecimal.f
  rw [← spec_ReadDecimal.D0_eq k k]
  kernel_rfl
theorem spec_ReadDecimal.ok : CtrOk Tryd.prog 35 spec_ReadDecimal.K :=
  CtrOk.of (fn := Tryd.f35) (cd := spec_ReadDecimal.c) (cx := spec_ReadDecimal.x) (hs := spec_ReadDecimal.h) (by kernel_rfl) (by kernel_rfl) (by kernel_rfl) (by kernel_rfl) tt_ok (envOk_cons spec_Decimal.ok (envOk_nil)) (by kernel_rfl) (by kernel_rfl) (by kernel_rfl) (by kernel_rfl) fun k x r h => (spec_ReadDecimal.eq k x).trans h
/-! spec.ReadAddr -/
noncomputable def spec_ReadAddr.c : Code := bodyOf Tryd.f20
def spec_ReadAddr.h : Nat → Hint := look ⟨[], [], []⟩ [(0, ⟨[4, 5, 6], [], [(.t 4, 592, 9, .str)]⟩)]
def spec_ReadAddr.ps : List PK := [.one]
def spec_ReadAddr.rs : List RK := [.one true, .one true]
def spec_ReadAddr.vs : List ResultVar := [.tmp 2, .tmp 3]
def spec_ReadAddr.x : Cx := ⟨tt, look none [(34, some spec_l08Split.K), (35, some spec_ReadDecimal.K)]⟩
def spec_ReadAddr.s0 (k : Nat) (rec0 : (Int × Int × (List (ByteArray))) → Option (Int × Bool)) (p : (Int × Int × (List (ByteArray)))) : Option (Int × Bool) :=
  (bif (decide (p.2.1 < (4 : Int))) then (bif ((decide ((0 : Int) ≤ p.2.1)) && (decide (p.2.1 < (p.2.2.length : Int)))) then (p.2.2[p.2.1.toNat]?).bind fun x2 => (spec_ReadDecimal.f k x2).bind fun r3 => (bif (!r3.2) then some ((0 : Int), false) else (bif (decide (r3.1 > (255 : Int))) then some ((0 : Int), false) else rec0 ((IntKind.i64.wrap ((IntKind.i64.wrap ((256 : Int) * p.1)) + r3.1)), (IntKind.i64.wrap (p.2.1 + (1 : Int))), p.2.2))) else none) else some (p.1, true))
def spec_ReadAddr.l0 (k : Nat) : Nat → (Int × Int × (List (ByteArray))) → Option (Int × Bool)
  | 0 => fun _ => none
  | j + 1 => spec_ReadAddr.s0 k (spec_ReadAddr.l0 k j)
def spec_ReadAddr.S0 (p : (Int × Int × (List (ByteArray)))) : DS := ⟨tl [(4, .at (.whole 592)), (5, .at (.int .i64 p.1)), (6, .at (.int .i64 p.2.1))], lookO [(592, .row 9 .str true p.2.2)]⟩
noncomputable def spec_ReadAddr.D0 (k : Nat) (j : Nat) (p : (Int × Int × (List (ByteArray)))) : Option (Int × Bool) := loopK (norm [] (spec_ReadAddr.h 0)) (runK spec_ReadAddr.x k 0 [] spec_ReadAddr.h 0 (sub spec_ReadAddr.c [1, 1, 1, 1, 0, 1, 0, 0])) j (spec_ReadAddr.S0 p) (kBlk 0 (kSeq (runK spec_ReadAddr.x k 0 [] spec_ReadAddr.h 0 (sub spec_ReadAddr.c [1, 1, 1, 1, 1])) (fin tt spec_ReadAddr.ps spec_ReadAddr.rs spec_ReadAddr.vs (.two (.int .i64) .bool))))
theorem spec_ReadAddr.D0_eq (k : Nat) : ∀ j, spec_ReadAddr.D0 k j = spec_ReadAddr.l0 k j := by
  intro j
  induction j with
  | zero => rfl
  | succ j ih =>
    show _ = spec_ReadAddr.s0 k (spec_ReadAddr.l0 k j)
    rw [← ih]
    funext p
    kernel_rfl
def spec_ReadAddr.f (k : Nat) (a0 : ByteArray) : Option (Int × Bool) :=
  (spec_l08Split.f k a0 (46 : Int)).bind fun r1 => (bif ((r1.length : Int) != (4 : Int)) then some ((0 : Int), false) else spec_ReadAddr.l0 k k ((0 : Int), (0 : Int), r1))
def spec_ReadAddr.K : Ctr := ⟨spec_ReadAddr.ps, spec_ReadAddr.rs, false, .str, (.two (.int .i64) .bool), fun k x => spec_ReadAddr.f k x⟩
theorem spec_ReadAddr.eq (k : Nat) (x : (spec_ReadAddr.K.I).den) : func spec_ReadAddr.x spec_ReadAddr.h spec_ReadAddr.ps spec_ReadAddr.rs spec_ReadAddr.vs spec_ReadAddr.K.I spec_ReadAddr.K.O spec_ReadAddr.c k x = spec_ReadAddr.K.run k x := by
  show _ = spec_ReadAddr.f k x
  unfold spec_ReadAddr.f
  rw [← spec_ReadAddr.D0_eq k k]
  kernel_rfl
theorem spec_ReadAddr.ok : CtrOk Tryd.prog 20 spec_ReadAddr.K :=
  CtrOk.of (fn := Tryd.f20) (cd := spec_ReadAddr.c) (cx := spec_ReadAddr.x) (hs := spec_ReadAddr.h) (by kernel_rfl) (by kernel_rfl) (by kernel_rfl) (by kernel_rfl) tt_ok (envOk_cons spec_l08Split.ok (envOk_cons spec_ReadDecimal.ok (envOk_nil))) (by kernel_rfl) (by kernel_rfl) (by kernel_rfl) (by kernel_rfl) fun k x r h => (spec_ReadAddr.eq k x).trans h
/-! spec.l08Size -/
noncomputable def spec_l08Size.c : Code := bodyOf Tryd.f33
def spec_l08Size.h : Nat → Hint := look ⟨[], [], []⟩ [(0, ⟨[3, 4], [], []⟩)]
def spec_l08Size.ps : List PK := [.one]
def spec_l08Size.rs : List RK := [.one true]
def spec_l08Size.vs : List ResultVar := [.tmp 2]
def spec_l08Size.x : Cx := ⟨tt, look none []⟩
def spec_l08Size.s0 (_k : Nat) (rec0 : (Int × Int) → Option (Int)) (p : (Int × Int)) : Option (Int) :=
  (bif (decide (p.2 < (32 : Int))) then rec0 ((IntKind.i64.wrap ((2 : Int) * p.1)), (IntKind.i64.wrap (p.2 + (1 : Int)))) else some p.1)
def spec_l08Size.l0 (k : Nat) : Nat → (Int × Int) → Option (Int)
  | 0 => fun _ => none
  | j + 1 => spec_l08Size.s0 k (spec_l08Size.l0 k j)
def spec_l08Size.S0 (p : (Int × Int)) : DS := ⟨tl [(3, .at (.int .i64 p.1)), (4, .at (.int .i64 p.2))], lookO []⟩
noncomputable def spec_l08Size.D0 (k : Nat) (j : Nat) (p : (Int × Int)) : Option (Int) := loopK (norm [] (spec_l08Size.h 0)) (runK spec_l08Size.x k 0 [] spec_l08Size.h 0 (sub spec_l08Size.c [1, 1, 0, 1, 0, 0])) j (spec_l08Size.S0 p) (kBlk 0 (kSeq (runK spec_l08Size.x k 0 [] spec_l08Size.h 0 (sub spec_l08Size.c [1, 1, 1])) (fin tt spec_l08Size.ps spec_l08Size.rs spec_l08Size.vs (.int .i64))))
theorem spec_l08Size.D0_eq (k : Nat) : ∀ j, spec_l08Size.D0 k j = spec_l08Size.l0 k j := by
  intro j
  induction j with
  | zero => rfl
  | succ j ih =>
    show _ = spec_l08Size.s0 k (spec_l08Size.l0 k j)
    rw [← ih]
    funext p
    kernel_rfl
def spec_l08Size.f (k : Nat) (a0 : Int) : Option (Int) :=
  spec_l08Size.l0 k k ((1 : Int), a0)
def spec_l08Size.K : Ctr := ⟨spec_l08Size.ps, spec_l08Size.rs, false, (.int .i64), (.int .i64), fun k x => spec_l08Size.f k x⟩
theorem spec_l08Size.eq (k : Nat) (x : (spec_l08Size.K.I).den) : func spec_l08Size.x spec_l08Size.h spec_l08Size.ps spec_l08Size.rs spec_l08Size.vs spec_l08Size.K.I spec_l08Size.K.O spec_l08Size.c k x = spec_l08Size.K.run k x := by
  show _ = spec_l08Size.f k x
  unfold spec_l08Size.f
  rw [← spec_l08Size.D0_eq k k]
  kernel_rfl
theorem spec_l08Size.ok : CtrOk Tryd.prog 33 spec_l08Size.K :=
  CtrOk.of (fn := Tryd.f33) (cd := spec_l08Size.c) (cx := spec_l08Size.x) (hs := spec_l08Size.h) (by kernel_rfl) (by kernel_rfl) (by kernel_rfl) (by kernel_rfl) tt_ok (envOk_nil) (by kernel_rfl) (by kernel_rfl) (by kernel_rfl) (by kernel_rfl) fun k x r h => (spec_l08Size.eq k x).trans h
/-! spec.PrefixOf -/
noncomputable def spec_PrefixOf.c : Code := bodyOf Tryd.f44
def spec_PrefixOf.h : Nat → Hint := look ⟨[], [], []⟩ []
def spec_PrefixOf.ps : List PK := [.one, .one]
def spec_PrefixOf.rs : List RK := [.agg 2 true, .one true]
def spec_PrefixOf.vs : List ResultVar := [.cell 4 26, .tmp 5]
def spec_PrefixOf.x : Cx := ⟨tt, look none [(32, some spec_AddrOk.K), (42, some spec_l01In.K), (33, some spec_l08Size.K)]⟩
def spec_PrefixOf.f (k : Nat) (a0 : Int) (a1 : Int) : Option (Int × Int × Bool) :=
  (spec_AddrOk.f k a0).bind fun r1 => (bif (!r1) then some ((0 : Int), (0 : Int), false) else (spec_l01In.f k a1 (0 : Int) (32 : Int)).bind fun r2 => (bif (!r2) then some ((0 : Int), (0 : Int), false) else (spec_l08Size.f k a1).bind fun r3 => (bif (r3 == 0) then none else some ((IntKind.i64.wrap (a0 - (a0.tmod r3))), a1, true))))
def spec_PrefixOf.K : Ctr := ⟨spec_PrefixOf.ps, spec_PrefixOf.rs, false, (.two (.int .i64) (.int .i64)), (.two (.int .i64) (.two (.int .i64) .bool)), fun k x => spec_PrefixOf.f k x.1 x.2⟩
theorem spec_PrefixOf.eq (k : Nat) (x : (spec_PrefixOf.K.I).den) : func spec_PrefixOf.x spec_PrefixOf.h spec_PrefixOf.ps spec_PrefixOf.rs spec_PrefixOf.vs spec_PrefixOf.K.I spec_PrefixOf.K.O spec_PrefixOf.c k x = spec_PrefixOf.K.run k x := by
  show _ = spec_PrefixOf.f k x.1 x.2
  kernel_rfl
theorem spec_PrefixOf.ok : CtrOk Tryd.prog 44 spec_PrefixOf.K :=
  CtrOk.of (fn := Tryd.f44) (cd := spec_PrefixOf.c) (cx := spec_PrefixOf.x) (hs := spec_PrefixOf.h) (by kernel_rfl) (by kernel_rfl) (by kernel_rfl) (by kernel_rfl) tt_ok (envOk_cons spec_AddrOk.ok (envOk_cons spec_l01In.ok (envOk_cons spec_l08Size.ok (envOk_nil)))) (by kernel_rfl) (by kernel_rfl) (by kernel_rfl) (by kernel_rfl) fun k x r h => (spec_PrefixOf.eq k x).trans h
/-! spec.l08Prefix -/
noncomputable def spec_l08Prefix.c : Code := bodyOf Tryd.f25
def spec_l08Prefix.h : Nat → Hint := look ⟨[], [], []⟩ []
def spec_l08Prefix.ps : List PK := [.box 59 3]
def spec_l08Prefix.rs : List RK := [.agg 2 true]
def spec_l08Prefix.vs : List ResultVar := [.cell 2 26]
def spec_l08Prefix.x : Cx := ⟨tt, look none [(24, some spec_l01Below.K), (45, some spec_l01PickInt.K), (44, some spec_PrefixOf.K)]⟩
def spec_l08Prefix.f (k : Nat) (a0_0 : List (Int)) (a0_1 : Int) (a0_2 : Int) : Option (Int × Int × (List (Int)) × Int × Int) :=
  (spec_l01Below.f k a0_0 a0_1 a0_2 (1024 : Int)).bind fun r1 => (spec_l01PickInt.f k r1.2.1 r1.2.2.1 r1.2.2.2 [(0 : Int), (8 : Int), (22 : Int), (24 : Int), (25 : Int), (26 : Int), (28 : Int), (29 : Int), (30 : Int), (31 : Int), (32 : Int)]).bind fun r2 => (spec_PrefixOf.f k (IntKind.i64.wrap ((167772160 : Int) + r1.1)) r2.1).bind fun r3 => some (r3.1, r3.2.1, r2.2.1, r2.2.2.1, r2.2.2.2)
def spec_l08Prefix.K : Ctr := ⟨spec_l08Prefix.ps, spec_l08Prefix.rs, true, (.two (.sl 5 (.int .u8)) (.two (.int .i64) (.int .i64))), (.two (.int .i64) (.two (.int .i64) (.two (.sl 5 (.int .u8)) (.two (.int .i64) (.int .i64))))), fun k x => spec_l08Prefix.f k x.1 x.2.1 x.2.2⟩
theorem spec_l08Prefix.eq (k : Nat) (x : (spec_l08Prefix.K.I).den) : func spec_l08Prefix.x spec_l08Prefix.h spec_l08Prefix.ps spec_l08Prefix.rs spec_l08Prefix.vs spec_l08Prefix.K.I spec_l08Prefix.K.O spec_l08Prefix.c k x = spec_l08Prefix.K.run k x := by
  show _ = spec_l08Prefix.f k x.1 x.2.1 x.2.2
  kernel_rfl
theorem spec_l08Prefix.ok : CtrOk Tryd.prog 25 spec_l08Prefix.K :=
  CtrOk.of (fn := Tryd.f25) (cd := spec_l08Prefix.c) (cx := spec_l08Prefix.x) (hs := spec_l08Prefix.h) (by kernel_rfl) (by kernel_rfl) (by kernel_rfl) (by kernel_rfl) tt_ok (envOk_cons spec_l01Below.ok (envOk_cons spec_l01PickInt.ok (envOk_cons spec_PrefixOf.ok (envOk_nil)))) (by kernel_rfl) (by kernel_rfl) (by kernel_rfl) (by kernel_rfl) fun k x r h => (spec_l08Prefix.eq k x).trans h
/-! spec.l08Any -/
noncomputable def spec_l08Any.c : Code := bodyOf Tryd.f41
def spec_l08Any.h : Nat → Hint := look ⟨[], [], []⟩ []
def spec_l08Any.ps : List PK := [.box 59 3]
def spec_l08Any.rs : List RK := [.agg 2 true]
def spec_l08Any.vs : List ResultVar := [.cell 2 26]
def spec_l08Any.x : Cx := ⟨tt, look none [(25, some spec_l08Prefix.K), (24, some spec_l01Below.K), (45, some spec_l01PickInt.K)]⟩
def spec_l08Any.f (k : Nat) (a0_0 : List (Int)) (a0_1 : Int) (a0_2 : Int) : Option (Int × Int × (List (Int)) × Int × Int) :=
  (spec_l08Prefix.f k a0_0 a0_1 a0_2).bind fun r1 => (spec_l01Below.f k r1.2.2.1 r1.2.2.2.1 r1.2.2.2.2 (12 : Int)).bind fun r2 => (bif (r2.1 == (0 : Int)) then (spec_l01PickInt.f k r2.2.1 r2.2.2.1 r2.2.2.2 [(1 : Int), (-1 : Int), (4294967296 : Int)]).bind fun r3 => some ((IntKind.i64.wrap (r1.1 + r3.1)), r1.2.1, r3.2.1, r3.2.2.1, r3.2.2.2) else (bif (r2.1 == (1 : Int)) then (spec_l01PickInt.f k r2.2.1 r2.2.2.1 r2.2.2.2 [(-1 : Int), (0 : Int), (32 : Int), (33 : Int)]).bind fun r4 => some (r1.1, r4.1, r4.2.1, r4.2.2.1, r4.2.2.2) else some (r1.1, r1.2.1, r2.2.1, r2.2.2.1, r2.2.2.2)))
def spec_l08Any.K : Ctr := ⟨spec_l08Any.ps, spec_l08Any.rs, true, (.two (.sl 5 (.int .u8)) (.two (.int .i64) (.int .i64))), (.two (.int .i64) (.two (.int .i64) (.two (.sl 5 (.int .u8)) (.two (.int .i64) (.int .i64))))), fun k x => spec_l08Any.f k x.1 x.2.1 x.2.2⟩
theorem spec_l08Any.eq (k : Nat) (x : (spec_l08Any.K.I).den) : func spec_l08Any.x spec_l08Any.h spec_l08Any.ps spec_l08Any.rs spec_l08Any.vs spec_l08Any.K.I spec_l08Any.K.O spec_l08Any.c k x = spec_l08Any.K.run k x := by
  show _ = spec_l08Any.f k x.1 x.2.1 x.2.2
  kernel_rfl
theorem spec_l08Any.ok : CtrOk Tryd.prog 41 spec_l08Any.K :=
  CtrOk.of (fn := Tryd.f41) (cd := spec_l08Any.c) (cx := spec_l08Any.x) (hs := spec_l08Any.h) (by kernel_rfl) (by kernel_rfl) (by kernel_rfl) (by kernel_rfl) tt_ok (envOk_cons spec_l08Prefix.ok (envOk_cons spec_l01Below.ok (envOk_cons spec_l01PickInt.ok (envOk_nil)))) (by kernel_rfl) (by kernel_rfl) (by kernel_rfl) (by kernel_rfl) fun k x r h => (spec_l08Any.eq k x).trans h
/-! spec.PrefixOk -/
noncomputable def spec_PrefixOk.c : Code := bodyOf Tryd.f22
def spec_PrefixOk.h : Nat → Hint := look ⟨[], [], []⟩ []
def spec_PrefixOk.ps : List PK := [.agg 2]
def spec_PrefixOk.rs : List RK := [.one true]
def spec_PrefixOk.vs : List ResultVar := [.tmp 2]
def spec_PrefixOk.x : Cx := ⟨tt, look none [(32, some spec_AddrOk.K), (42, some spec_l01In.K), (33, some spec_l08Size.K)]⟩
def spec_PrefixOk.f (k : Nat) (a0_0 : Int) (a0_1 : Int) : Option (Bool) :=
  (spec_AddrOk.f k a0_0).bind fun r1 => (bif r1 then (spec_l01In.f k a0_1 (0 : Int) (32 : Int)).bind fun r2 => (bif r2 then (spec_l08Size.f k a0_1).bind fun r3 => (bif (r3 == 0) then none else some ((a0_0.tmod r3) == (0 : Int))) else some false) else some false)
def spec_PrefixOk.K : Ctr := ⟨spec_PrefixOk.ps, spec_PrefixOk.rs, false, (.two (.int .i64) (.int .i64)), .bool, fun k x => spec_PrefixOk.f k x.1 x.2⟩
theorem spec_PrefixOk.eq (k : Nat) (x : (spec_PrefixOk.K.I).den) : func spec_PrefixOk.x spec_PrefixOk.h spec_PrefixOk.ps spec_PrefixOk.rs spec_PrefixOk.vs spec_PrefixOk.K.I spec_PrefixOk.K.O spec_PrefixOk.c k x = spec_PrefixOk.K.run k x := by
  show _ = spec_PrefixOk.f k x.1 x.2
  kernel_rfl
theorem spec_PrefixOk.ok : CtrOk Tryd.prog 22 spec_PrefixOk.K :=
  CtrOk.of (fn := Tryd.f22) (cd := spec_PrefixOk.c) (cx := spec_PrefixOk.x) (hs := spec_PrefixOk.h) (by kernel_rfl) (by kernel_rfl) (by kernel_rfl) (by kernel_rfl) tt_ok (envOk_cons spec_AddrOk.ok (envOk_cons spec_l01In.ok (envOk_cons spec_l08Size.ok (envOk_nil)))) (by kernel_rfl) (by kernel_rfl) (by kernel_rfl) (by kernel_rfl) fun k x r h => (spec_PrefixOk.eq k x).trans h
/-! spec.PrefixText -/
noncomputable def spec_PrefixText.c : Code := bodyOf Tryd.f40
def spec_PrefixText.h : Nat → Hint := look ⟨[], [], []⟩ []
def spec_PrefixText.ps : List PK := [.agg 2]
def spec_PrefixText.rs : List RK := [.one true, .one true]
def spec_PrefixText.vs : List ResultVar := [.tmp 2, .tmp 3]
def spec_PrefixText.x : Cx := ⟨tt, look none [(22, some spec_PrefixOk.K), (36, some spec_AddrText.K), (50, some spec_Decimal.K)]⟩
def spec_PrefixText.f (k : Nat) (a0_0 : Int) (a0_1 : Int) : Option (ByteArray × Bool) :=
  (spec_PrefixOk.f k a0_0 a0_1).bind fun r1 => (bif (!r1) then some (ByteArray.empty, false) else (spec_AddrText.f k a0_0).bind fun r2 => (bif decide (r2.size + (⟨#[47]⟩ : ByteArray).size ≤ 140737488351232) then (spec_Decimal.f k a0_1).bind fun r3 => (bif decide ((r2 ++ (⟨#[47]⟩ : ByteArray)).size + r3.size ≤ 140737488351232) then some (((r2 ++ (⟨#[47]⟩ : ByteArray)) ++ r3), true) else none) else none))
def spec_PrefixText.K : Ctr := ⟨spec_PrefixText.ps, spec_PrefixText.rs, false, (.two (.int .i64) (.int .i64)), (.two .str .bool), fun k x => spec_PrefixText.f k x.1 x.2⟩
theorem spec_PrefixText.eq (k : Nat) (x : (spec_PrefixText.K.I).den) : func spec_PrefixText.x spec_PrefixText.h spec_PrefixText.ps spec_PrefixText.rs spec_PrefixText.vs spec_PrefixText.K.I spec_PrefixText.K.O spec_PrefixText.c k x = spec_PrefixText.K.run k x := by
  show _ = spec_PrefixText.f k x.1 x.2
  kernel_rfl
theorem spec_PrefixText.ok : CtrOk Tryd.prog 40 spec_PrefixText.K :=
  CtrOk.of (fn := Tryd.f40) (cd := spec_PrefixText.c) (cx := spec_PrefixText.x) (hs := spec_PrefixText.h) (by kernel_rfl) (by kernel_rfl) (by kernel_rfl) (by kernel_rfl) tt_ok (envOk_cons spec_PrefixOk.ok (envOk_cons spec_AddrText.ok (envOk_cons spec_Decimal.ok (envOk_nil)))) (by kernel_rfl) (by kernel_rfl) (by kernel_rfl) (by kernel_rfl) fun k x r h => (spec_PrefixText.eq k x).trans h
/-! spec.DrawReadPrefix -/
noncomputable def spec_DrawReadPrefix.c : Code := bodyOf Tryd.f21
def spec_DrawReadPrefix.h : Nat → Hint := look ⟨[], [], []⟩ []
def spec_DrawReadPrefix.ps : List PK := [.one]
def spec_DrawReadPrefix.rs : List RK := [.one true]
def spec_DrawReadPrefix.vs : List ResultVar := [.tmp 2]
def spec_DrawReadPrefix.x : Cx := ⟨tt, look none [(23, some spec_l01New.K), (41, some spec_l08Any.K), (40, some spec_PrefixText.K), (24, some spec_l01Below.K), (38, some spec_l01Pick.K), (39, some spec_l02Spoilt.K)]⟩
def spec_DrawReadPrefix.f (k : Nat) (a0 : List (Int)) : Option (ByteArray) :=
  (spec_l01New.f k a0).bind fun r1 => (spec_l08Any.f k r1.1 r1.2.1 r1.2.2).bind fun r2 => (spec_PrefixText.f k r2.1 r2.2.1).bind fun r3 => (spec_l01Below.f k r2.2.2.1 r2.2.2.2.1 r2.2.2.2.2 (6 : Int)).bind fun r4 => (bif (r4.1 == (0 : Int)) then (spec_l01Pick.f k r4.2.1 r4.2.2.1 r4.2.2.2 [ByteArray.empty, (⟨#[49, 46, 50, 46, 51, 46, 52]⟩ : ByteArray), (⟨#[49, 46, 50, 46, 51, 46, 52, 47, 51, 51]⟩ : ByteArray), (⟨#[49, 46, 50, 46, 51, 46, 52, 47, 56]⟩ : ByteArray), (⟨#[48, 46, 48, 46, 48, 46, 48, 47, 48]⟩ : ByteArray), (⟨#[49, 46, 50, 46, 51, 46, 52, 47, 51, 50, 47]⟩ : ByteArray), (⟨#[49, 46, 50, 46, 51, 46, 52, 47, 48, 51, 50]⟩ : ByteArray)]).bind fun r5 => some r5.1 else (bif (r4.1 == (1 : Int)) then (spec_l02Spoilt.f k r4.2.1 r4.2.2.1 r4.2.2.2 r3.1).bind fun r6 => some r6.1 else some r3.1))
def spec_DrawReadPrefix.K : Ctr := ⟨spec_DrawReadPrefix.ps, spec_DrawReadPrefix.rs, false, (.sl 5 (.int .u8)), .str, fun k x => spec_DrawReadPrefix.f k x⟩
theorem spec_DrawReadPrefix.eq (k : Nat) (x : (spec_DrawReadPrefix.K.I).den) : func spec_DrawReadPrefix.x spec_DrawReadPrefix.h spec_DrawReadPrefix.ps spec_DrawReadPrefix.rs spec_DrawReadPrefix.vs spec_DrawReadPrefix.K.I spec_DrawReadPrefix.K.O spec_DrawReadPrefix.c k x = spec_DrawReadPrefix.K.run k x := by
  show _ = spec_DrawReadPrefix.f k x
  kernel_rfl
theorem spec_DrawReadPrefix.ok : CtrOk Tryd.prog 21 spec_DrawReadPrefix.K :=
  CtrOk.of (fn := Tryd.f21) (cd := spec_DrawReadPrefix.c) (cx := spec_DrawReadPrefix.x) (hs := spec_DrawReadPrefix.h) (by kernel_rfl) (by kernel_rfl) (by kernel_rfl) (by kernel_rfl) tt_ok (envOk_cons spec_l01New.ok (envOk_cons spec_l08Any.ok (envOk_cons spec_PrefixText.ok (envOk_cons spec_l01Below.ok (envOk_cons spec_l01Pick.ok (envOk_cons spec_l02Spoilt.ok (envOk_nil))))))) (by kernel_rfl) (by kernel_rfl) (by kernel_rfl) (by kernel_rfl) fun k x r h => (spec_DrawReadPrefix.eq k x).trans h
/-! strings.Cut -/
def strings_Cut.f (_k : Nat) (a0 : ByteArray) (a1 : ByteArray) : Option (ByteArray × ByteArray × Bool) := cutRun a0 a1
def strings_Cut.K : Ctr := cutCtr
theorem strings_Cut.ok : CtrOk Tryd.prog 27 strings_Cut.K := lib27
/-! impl.within -/
noncomputable def impl_within.c : Code := bodyOf Tryd.f29
def impl_within.h : Nat → Hint := look ⟨[], [], []⟩ []
def impl_within.ps : List PK := [.one, .one, .one]
def impl_within.rs : List RK := [.one true]
def impl_within.vs : List ResultVar := [.tmp 6]
def impl_within.x : Cx := ⟨tt, look none []⟩
def impl_within.f (_k : Nat) (a0 : Int) (a1 : Int) (a2 : Int) : Option (Bool) :=
  (bif (decide (a0 ≥ a1)) then some (decide (a0 ≤ a2)) else some false)
def impl_within.K : Ctr := ⟨impl_within.ps, impl_within.rs, false, (.two (.int .i64) (.two (.int .i64) (.int .i64))), .bool, fun k x => impl_within.f k x.1 x.2.1 x.2.2⟩
theorem impl_within.eq (k : Nat) (x : (impl_within.K.I).den) : func impl_within.x impl_within.h impl_within.ps impl_within.rs impl_within.vs impl_within.K.I impl_within.K.O impl_within.c k x = impl_within.K.run k x := by
  show _ = impl_within.f k x.1 x.2.1 x.2.2
  kernel_rfl
theorem impl_within.ok : CtrOk Tryd.prog 29 impl_within.K :=
  CtrOk.of (fn := Tryd.f29) (cd := impl_within.c) (cx := impl_within.x) (hs := impl_within.h) (by kernel_rfl) (by kernel_rfl) (by kernel_rfl) (by kernel_rfl) tt_ok (envOk_nil) (by kernel_rfl) (by kernel_rfl) (by kernel_rfl) (by kernel_rfl) fun k x r h => (impl_within.eq k x).trans h
/-! impl.AddrOk -/
noncomputable def impl_AddrOk.c : Code := bodyOf Tryd.f16
def impl_AddrOk.h : Nat → Hint := look ⟨[], [], []⟩ []
def impl_AddrOk.ps : List PK := [.one]
def impl_AddrOk.rs : List RK := [.one true]
def impl_AddrOk.vs : List ResultVar := [.tmp 2]
def impl_AddrOk.x : Cx := ⟨tt, look none [(29, some impl_within.K)]⟩
def impl_AddrOk.f (k : Nat) (a0 : Int) : Option (Bool) :=
  (impl_within.f k a0 (0 : Int) (4294967295 : Int)).bind fun r1 => some r1
def impl_AddrOk.K : Ctr := ⟨impl_AddrOk.ps, impl_AddrOk.rs, false, (.int .i64), .bool, fun k x => impl_AddrOk.f k x⟩
theorem impl_AddrOk.eq (k : Nat) (x : (impl_AddrOk.K.I).den) : func impl_AddrOk.x impl_AddrOk.h impl_AddrOk.ps impl_AddrOk.rs impl_AddrOk.vs impl_AddrOk.K.I impl_AddrOk.K.O impl_AddrOk.c k x = impl_AddrOk.K.run k x := by
  show _ = impl_AddrOk.f k x
  kernel_rfl
theorem impl_AddrOk.ok : CtrOk Tryd.prog 16 impl_AddrOk.K :=
  CtrOk.of (fn := Tryd.f16) (cd := impl_AddrOk.c) (cx := impl_AddrOk.x) (hs := impl_AddrOk.h) (by kernel_rfl) (by kernel_rfl) (by kernel_rfl) (by kernel_rfl) tt_ok (envOk_cons impl_within.ok (envOk_nil)) (by kernel_rfl) (by kernel_rfl) (by kernel_rfl) (by kernel_rfl) fun k x r h => (impl_AddrOk.eq k x).trans h
/-! impl.lastBits -/
noncomputable def impl_lastBits.c : Code := bodyOf Tryd.f30
def impl_lastBits.h : Nat → Hint := look ⟨[], [], []⟩ []
def impl_lastBits.ps : List PK := [.one]
def impl_lastBits.rs : List RK := [.one true]
def impl_lastBits.vs : List ResultVar := [.tmp 2]
def impl_lastBits.x : Cx := ⟨tt, look none []⟩
def impl_lastBits.f (_k : Nat) (a0 : Int) : Option (Int) :=
  (bif (decide ((IntKind.i64.wrap ((32 : Int) - a0)) < (0 : Int))) then none else some (IntKind.i64.wrap ((IntKind.i64.wrap ((1 : Int) * 2 ^ (min (IntKind.i64.wrap ((32 : Int) - a0)).toNat IntKind.i64.bits))) - (1 : Int))))
def impl_lastBits.K : Ctr := ⟨impl_lastBits.ps, impl_lastBits.rs, false, (.int .i64), (.int .i64), fun k x => impl_lastBits.f k x⟩
theorem impl_lastBits.eq (k : Nat) (x : (impl_lastBits.K.I).den) : func impl_lastBits.x impl_lastBits.h impl_lastBits.ps impl_lastBits.rs impl_lastBits.vs impl_lastBits.K.I impl_lastBits.K.O impl_lastBits.c k x = impl_lastBits.K.run k x := by
  show _ = impl_lastBits.f k x
  kernel_rfl
theorem impl_lastBits.ok : CtrOk Tryd.prog 30 impl_lastBits.K :=
  CtrOk.of (fn := Tryd.f30) (cd := impl_lastBits.c) (cx := impl_lastBits.x) (hs := impl_lastBits.h) (by kernel_rfl) (by kernel_rfl) (by kernel_rfl) (by kernel_rfl) tt_ok (envOk_nil) (by kernel_rfl) (by kernel_rfl) (by kernel_rfl) (by kernel_rfl) fun k x r h => (impl_lastBits.eq k x).trans h
/-! impl.PrefixOk -/
noncomputable def impl_PrefixOk.c : Code := bodyOf Tryd.f10
def impl_PrefixOk.h : Nat → Hint := look ⟨[], [], []⟩ []
def impl_PrefixOk.ps : List PK := [.agg 2]
def impl_PrefixOk.rs : List RK := [.one true]
def impl_PrefixOk.vs : List ResultVar := [.tmp 2]
def impl_PrefixOk.x : Cx := ⟨tt, look none [(16, some impl_AddrOk.K), (29, some impl_within.K), (30, some impl_lastBits.K)]⟩
def impl_PrefixOk.f (k : Nat) (a0_0 : Int) (a0_1 : Int) : Option (Bool) :=
  (impl_AddrOk.f k a0_0).bind fun r1 => (bif r1 then (impl_within.f k a0_1 (0 : Int) (32 : Int)).bind fun r2 => (bif r2 then (impl_lastBits.f k a0_1).bind fun r3 => some ((IntKind.i64.wrap (((BitVec.ofInt IntKind.i64.bits a0_0) &&& (BitVec.ofInt IntKind.i64.bits r3)).toNat : Int)) == (0 : Int)) else some false) else some false)
def impl_PrefixOk.K : Ctr := ⟨impl_PrefixOk.ps, impl_PrefixOk.rs, false, (.two (.int .i64) (.int .i64)), .bool, fun k x => impl_PrefixOk.f k x.1 x.2⟩
theorem impl_PrefixOk.eq (k : Nat) (x : (impl_PrefixOk.K.I).den) : func impl_PrefixOk.x impl_PrefixOk.h impl_PrefixOk.ps impl_PrefixOk.rs impl_PrefixOk.vs impl_PrefixOk.K.I impl_PrefixOk.K.O impl_PrefixOk.c k x = impl_PrefixOk.K.run k x := by
  show _ = impl_PrefixOk.f k x.1 x.2
  kernel_rfl
theorem impl_PrefixOk.ok : CtrOk Tryd.prog 10 impl_PrefixOk.K :=
  CtrOk.of (fn := Tryd.f10) (cd := impl_PrefixOk.c) (cx := impl_PrefixOk.x) (hs := impl_PrefixOk.h) (by kernel_rfl) (by kernel_rfl) (by kernel_rfl) (by kernel_rfl) tt_ok (envOk_cons impl_AddrOk.ok (envOk_cons impl_within.ok (envOk_cons impl_lastBits.ok (envOk_nil)))) (by kernel_rfl) (by kernel_rfl) (by kernel_rfl) (by kernel_rfl) fun k x r h => (impl_PrefixOk.eq k x).trans h
/-! impl.ReadPrefix -/
noncomputable def impl_ReadPrefix.c : Code := bodyOf Tryd.f9
def impl_ReadPrefix.h : Nat → Hint := look ⟨[], [], []⟩ []
def impl_ReadPrefix.ps : List PK := [.one]
def impl_ReadPrefix.rs : List RK := [.agg 2 true, .one true]
def impl_ReadPrefix.vs : List ResultVar := [.cell 2 26, .tmp 3]
def impl_ReadPrefix.x : Cx := ⟨tt, look none [(27, some strings_Cut.K), (11, some impl_ReadAddr.K), (28, some impl_ReadDecimal.K), (10, some impl_PrefixOk.K)]⟩
def impl_ReadPrefix.f (k : Nat) (a0 : ByteArray) : Option (Int × Int × Bool) :=
  (strings_Cut.f k a0 (⟨#[47]⟩ : ByteArray)).bind fun r1 => (impl_ReadAddr.f k r1.1).bind fun r2 => (impl_ReadDecimal.f k r1.2.1).bind fun r3 => (bif (!r2.2) then some ((0 : Int), (0 : Int), false) else (bif (!r3.2) then some ((0 : Int), (0 : Int), false) else (impl_PrefixOk.f k r2.1 r3.1).bind fun r4 => (bif (!r4) then some ((0 : Int), (0 : Int), false) else some (r2.1, r3.1, true))))
def impl_ReadPrefix.K : Ctr := ⟨impl_ReadPrefix.ps, impl_ReadPrefix.rs, false, .str, (.two (.int .i64) (.two (.int .i64) .bool)), fun k x => impl_ReadPrefix.f k x⟩
theorem impl_ReadPrefix.eq (k : Nat) (x : (impl_ReadPrefix.K.I).den) : func impl_ReadPrefix.x impl_ReadPrefix.h impl_ReadPrefix.ps impl_ReadPrefix.rs impl_ReadPrefix.vs impl_ReadPrefix.K.I impl_ReadPrefix.K.O impl_ReadPrefix.c k x = impl_ReadPrefix.K.run k x := by
  show _ = impl_ReadPrefix.f k x
  kernel_rfl
theorem impl_ReadPrefix.ok : CtrOk Tryd.prog 9 impl_ReadPrefix.K :=
  CtrOk.of (fn := Tryd.f9) (cd := impl_ReadPrefix.c) (cx := impl_ReadPrefix.x) (hs := impl_ReadPrefix.h) (by kernel_rfl) (by kernel_rfl) (by kernel_rfl) (by kernel_rfl) tt_ok (envOk_cons strings_Cut.ok (envOk_cons impl_ReadAddr.ok (envOk_cons impl_ReadDecimal.ok (envOk_cons impl_PrefixOk.ok (envOk_nil))))) (by kernel_rfl) (by kernel_rfl) (by kernel_rfl) (by kernel_rfl) fun k x r h => (impl_ReadPrefix.eq k x).trans h
/-! spec.ReadPrefix -/
noncomputable def spec_ReadPrefix.c : Code := bodyOf Tryd.f17
def spec_ReadPrefix.h : Nat → Hint := look ⟨[], [], []⟩ []
def spec_ReadPrefix.ps : List PK := [.one]
def spec_ReadPrefix.rs : List RK := [.agg 2 true, .one true]
def spec_ReadPrefix.vs : List ResultVar := [.cell 2 26, .tmp 3]
def spec_ReadPrefix.x : Cx := ⟨tt, look none [(34, some spec_l08Split.K), (20, some spec_ReadAddr.K), (35, some spec_ReadDecimal.K), (22, some spec_PrefixOk.K)]⟩
def spec_ReadPrefix.f (k : Nat) (a0 : ByteArray) : Option (Int × Int × Bool) :=
  (spec_l08Split.f k a0 (47 : Int)).bind fun r1 => (bif ((r1.length : Int) != (2 : Int)) then some ((0 : Int), (0 : Int), false) else (bif (true && (decide ((0 : Int) < (r1.length : Int)))) then (r1[0]?).bind fun x2 => (spec_ReadAddr.f k x2).bind fun r3 => (bif (true && (decide ((1 : Int) < (r1.length : Int)))) then (r1[1]?).bind fun x4 => (spec_ReadDecimal.f k x4).bind fun r5 => (bif (!r3.2) then some ((0 : Int), (0 : Int), false) else (bif (!r5.2) then some ((0 : Int), (0 : Int), false) else (spec_PrefixOk.f k r3.1 r5.1).bind fun r6 => (bif (!r6) then some ((0 : Int), (0 : Int), false) else some (r3.1, r5.1, true)))) else none) else none))
def spec_ReadPrefix.K : Ctr := ⟨spec_ReadPrefix.ps, spec_ReadPrefix.rs, false, .str, (.two (.int .i64) (.two (.int .i64) .bool)), fun k x => spec_ReadPrefix.f k x⟩
theorem spec_ReadPrefix.eq (k : Nat) (x : (spec_ReadPrefix.K.I).den) : func spec_ReadPrefix.x spec_ReadPrefix.h spec_ReadPrefix.ps spec_ReadPrefix.rs spec_ReadPrefix.vs spec_ReadPrefix.K.I spec_ReadPrefix.K.O spec_ReadPrefix.c k x = spec_ReadPrefix.K.run k x := by
  show _ = spec_ReadPrefix.f k x
  kernel_rfl
theorem spec_ReadPrefix.ok : CtrOk Tryd.prog 17 spec_ReadPrefix.K :=
  CtrOk.of (fn := Tryd.f17) (cd := spec_ReadPrefix.c) (cx := spec_ReadPrefix.x) (hs := spec_ReadPrefix.h) (by kernel_rfl) (by kernel_rfl) (by kernel_rfl) (by kernel_rfl) tt_ok (envOk_cons spec_l08Split.ok (envOk_cons spec_ReadAddr.ok (envOk_cons spec_ReadDecimal.ok (envOk_cons spec_PrefixOk.ok (envOk_nil))))) (by kernel_rfl) (by kernel_rfl) (by kernel_rfl) (by kernel_rfl) fun k x r h => (spec_ReadPrefix.eq k x).trans h
/-! strconv.Itoa -/
def strconv_Itoa.f (_k : Nat) (a0 : Int) : Option (ByteArray) := itoaRun a0
def strconv_Itoa.K : Ctr := itoaCtr
theorem strconv_Itoa.ok : CtrOk Tryd.prog 46 strconv_Itoa.K := lib46
/-! impl.Decimal -/
noncomputable def impl_Decimal.c : Code := bodyOf Tryd.f26
def impl_Decimal.h : Nat → Hint := look ⟨[], [], []⟩ []
def impl_Decimal.ps : List PK := [.one]
def impl_Decimal.rs : List RK := [.one true]
def impl_Decimal.vs : List ResultVar := [.tmp 2]
def impl_Decimal.x : Cx := ⟨tt, look none [(46, some strconv_Itoa.K)]⟩
def impl_Decimal.f (k : Nat) (a0 : Int) : Option (ByteArray) :=
  (strconv_Itoa.f k a0).bind fun r1 => some r1
def impl_Decimal.K : Ctr := ⟨impl_Decimal.ps, impl_Decimal.rs, false, (.int .i64), .str, fun k x => impl_Decimal.f k x⟩
theorem impl_Decimal.eq (k : Nat) (x : (impl_Decimal.K.I).den) : func impl_Decimal.x impl_Decimal.h impl_Decimal.ps impl_Decimal.rs impl_Decimal.vs impl_Decimal.K.I impl_Decimal.K.O impl_Decimal.c k x = impl_Decimal.K.run k x := by
  show _ = impl_Decimal.f k x
  kernel_rfl
theorem impl_Decimal.ok : CtrOk Tryd.prog 26 impl_Decimal.K :=
  CtrOk.of (fn := Tryd.f26) (cd := impl_Decimal.c) (cx := impl_Decimal.x) (hs := impl_Decimal.h) (by kernel_rfl) (by kernel_rfl) (by kernel_rfl) (by kernel_rfl) tt_ok (envOk_cons strconv_Itoa.ok (envOk_nil)) (by kernel_rfl) (by kernel_rfl) (by kernel_rfl) (by kernel_rfl) fun k x r h => (impl_Decimal.eq k x).trans h
/-! impl.AddrText -/
noncomputable def impl_AddrText.c : Code := bodyOf Tryd.f12
def impl_AddrText.h : Nat → Hint := look ⟨[], [], []⟩ []
def impl_AddrText.ps : List PK := [.one]
def impl_AddrText.rs : List RK := [.one true]
def impl_AddrText.vs : List ResultVar := [.tmp 2]
def impl_AddrText.x : Cx := ⟨tt, look none [(16, some impl_AddrOk.K), (26, some impl_Decimal.K)]⟩
def impl_AddrText.f (k : Nat) (a0 : Int) : Option (ByteArray) :=
  (impl_AddrOk.f k a0).bind fun r1 => (bif (!r1) then some ByteArray.empty else (impl_Decimal.f k (a0.fdiv (2 ^ 24))).bind fun r2 => (bif decide (r2.size + (⟨#[46]⟩ : ByteArray).size ≤ 140737488351232) then (impl_Decimal.f k (IntKind.i64.wrap (((BitVec.ofInt IntKind.i64.bits (a0.fdiv (2 ^ 16))) &&& (BitVec.ofInt IntKind.i64.bits (255 : Int))).toNat : Int))).bind fun r3 => (bif decide ((r2 ++ (⟨#[46]⟩ : ByteArray)).size + r3.size ≤ 140737488351232) then (bif decide (((r2 ++ (⟨#[46]⟩ : ByteArray)) ++ r3).size + (⟨#[46]⟩ : ByteArray).size ≤ 140737488351232) then (impl_Decimal.f k (IntKind.i64.wrap (((BitVec.ofInt IntKind.i64.bits (a0.fdiv (2 ^ 8))) &&& (BitVec.ofInt IntKind.i64.bits (255 : Int))).toNat : Int))).bind fun r4 => (bif decide ((((r2 ++ (⟨#[46]⟩ : ByteArray)) ++ r3) ++ (⟨#[46]⟩ : ByteArray)).size + r4.size ≤ 140737488351232) then (bif decide (((((r2 ++ (⟨#[46]⟩ : ByteArray)) ++ r3) ++ (⟨#[46]⟩ : ByteArray)) ++ r4).size + (⟨#[46]⟩ : ByteArray).size ≤ 140737488351232) then (impl_Decimal.f k (IntKind.i64.wrap (((BitVec.ofInt IntKind.i64.bits a0) &&& (BitVec.ofInt IntKind.i64.bits (255 : Int))).toNat : Int))).bind fun r5 => (bif decide ((((((r2 ++ (⟨#[46]⟩ : ByteArray)) ++ r3) ++ (⟨#[46]⟩ : ByteArray)) ++ r4) ++ (⟨#[46]⟩ : ByteArray)).size + r5.size ≤ 140737488351232) then some ((((((r2 ++ (⟨#[46]⟩ : ByteArray)) ++ r3) ++ (⟨#[46]⟩ : ByteArray)) ++ r4) ++ (⟨#[46]⟩ : ByteArray)) ++ r5) else none) else none) else none) else none) else none) else none))
def impl_AddrText.K : Ctr := ⟨impl_AddrText.ps, impl_AddrText.rs, false, (.int .i64), .str, fun k x => impl_AddrText.f k x⟩
theorem impl_AddrText.eq (k : Nat) (x : (impl_AddrText.K.I).den) : func impl_AddrText.x impl_AddrText.h impl_AddrText.ps impl_AddrText.rs impl_AddrText.vs impl_AddrText.K.I impl_AddrText.K.O impl_AddrText.c k x = impl_AddrText.K.run k x := by
  show _ = impl_AddrText.f k x
  kernel_rfl
theorem impl_AddrText.ok : CtrOk Tryd.prog 12 impl_AddrText.K :=
  CtrOk.of (fn := Tryd.f12) (cd := impl_AddrText.c) (cx := impl_AddrText.x) (hs := impl_AddrText.h) (by kernel_rfl) (by kernel_rfl) (by kernel_rfl) (by kernel_rfl) tt_ok (envOk_cons impl_AddrOk.ok (envOk_cons impl_Decimal.ok (envOk_nil))) (by kernel_rfl) (by kernel_rfl) (by kernel_rfl) (by kernel_rfl) fun k x r h => (impl_AddrText.eq k x).trans h
end Go.Proofs.YtpheniajdbbphaaDoor.DI
