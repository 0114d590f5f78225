/- FnExactOptionText: functions as plain Lean, in the machine of values. -/
import Derived.Test.YtfaeklomiofpdaaDoorVFnExactOptionText0
namespace Go.Proofs.YtfaeklomiofpdaaDoor.DI
open Go
set_option linter.unusedVariables false
/-! laws.szStringS -/
noncomputable def laws_szStringS.c : Code := bodyOf Tryd.f22
def laws_szStringS.h : Nat → Hint := look ⟨[], [], []⟩ [(0, ⟨[0, 1, 5], [], []⟩)]
def laws_szStringS.ps : List PK := [.one, .one]
def laws_szStringS.rs : List RK := [.one true]
def laws_szStringS.vs : List ResultVar := [.tmp 4]
def laws_szStringS.x : Cx := ⟨tt, look none []⟩
def laws_szStringS.s0 (_k : Nat) (rec0 : (Int × Int × (List (ByteArray))) → Option (Int)) (p : (Int × Int × (List (ByteArray)))) : Option (Int) :=
  (bif (decide (p.2.1 < (p.2.2.length : Int))) then (bif ((decide ((0 : Int) ≤ p.2.1)) && (decide (p.2.1 < (p.2.2.length : Int)))) then (p.2.2[p.2.1.toNat]?).bind fun x1 => (bif (decide ((IntKind.i64.wrap (p.1 - (x1.size : Int))) < (0 : Int))) then some (-1 : Int) else rec0 ((IntKind.i64.wrap (p.1 - (x1.size : Int))), (IntKind.i64.wrap (p.2.1 + (1 : Int))), p.2.2)) else none) else some p.1)
def laws_szStringS.l0 (k : Nat) : Nat → (Int × Int × (List (ByteArray))) → Option (Int)
  | 0 => fun _ => none
  | j + 1 => laws_szStringS.s0 k (laws_szStringS.l0 k j)
def laws_szStringS.S0 (p : (Int × Int × (List (ByteArray)))) : DS := ⟨tl [(0, .at (.whole 0)), (1, .at (.int .i64 p.1)), (5, .at (.int .i64 p.2.1))], lookO [(0, .row 9 .str false p.2.2)]⟩
noncomputable def laws_szStringS.D0 (k : Nat) (j : Nat) (p : (Int × Int × (List (ByteArray)))) : Option (Int) := loopK (norm [0] (laws_szStringS.h 0)) (runK laws_szStringS.x k 0 [0] laws_szStringS.h 0 (sub laws_szStringS.c [1, 1, 1, 0, 1, 0, 0])) j (laws_szStringS.S0 p) (kBlk 0 (kSeq (runK laws_szStringS.x k 0 [0] laws_szStringS.h 0 (sub laws_szStringS.c [1, 1, 1, 1])) (fin tt laws_szStringS.ps laws_szStringS.rs laws_szStringS.vs (.int .i64))))
theorem laws_szStringS.D0_eq (k : Nat) : ∀ j, laws_szStringS.D0 k j = laws_szStringS.l0 k j := by
  intro j
  induction j with
  | zero => rfl
  | succ j ih =>
    show _ = laws_szStringS.s0 k (laws_szStringS.l0 k j)
    rw [← ih]
    funext p
    kernel_rfl
def laws_szStringS.f (k : Nat) (a0 : List (ByteArray)) (a1 : Int) : Option (Int) :=
  (bif (decide ((IntKind.i64.wrap (a1 - (a0.length : Int))) < (0 : Int))) then some (-1 : Int) else laws_szStringS.l0 k k ((IntKind.i64.wrap (a1 - (a0.length : Int))), (0 : Int), a0))
def laws_szStringS.K : Ctr := ⟨laws_szStringS.ps, laws_szStringS.rs, false, (.two (.sl 9 .str) (.int .i64)), (.int .i64), fun k x => laws_szStringS.f k x.1 x.2⟩
theorem laws_szStringS.eq (k : Nat) (x : (laws_szStringS.K.I).den) : func laws_szStringS.x laws_szStringS.h laws_szStringS.ps laws_szStringS.rs laws_szStringS.vs laws_szStringS.K.I laws_szStringS.K.O laws_szStringS.c k x = laws_szStringS.K.run k x := by
  show _ = laws_szStringS.f k x.1 x.2
  unfold laws_szStringS.f
  rw [← laws_szStringS.D0_eq k k]
  kernel_rfl
theorem laws_szStringS.ok : CtrOk Tryd.prog 22 laws_szStringS.K :=
  CtrOk.of (fn := Tryd.f22) (cd := laws_szStringS.c) (cx := laws_szStringS.x) (hs := laws_szStringS.h) (by kernel_rfl) (by kernel_rfl) (by kernel_rfl) (by kernel_rfl) tt_ok (envOk_nil) (by kernel_rfl) (by kernel_rfl) (by kernel_rfl) (by kernel_rfl) fun k x r h => (laws_szStringS.eq k x).trans h
/-! laws.szOptions -/
noncomputable def laws_szOptions.c : Code := bodyOf Tryd.f6
def laws_szOptions.h : Nat → Hint := look ⟨[], [], []⟩ []
def laws_szOptions.ps : List PK := [.agg 3, .one]
def laws_szOptions.rs : List RK := [.one true]
def laws_szOptions.vs : List ResultVar := [.tmp 4]
def laws_szOptions.x : Cx := ⟨tt, look none [(22, some laws_szStringS.K)]⟩
def laws_szOptions.f (k : Nat) (_a0_0 : Int) (a0_1 : List (ByteArray)) (_a0_2 : Bool) (a1 : Int) : Option (Int) :=
  (laws_szStringS.f k a0_1 a1).bind fun r1 => (bif (decide (r1 < (0 : Int))) then some (-1 : Int) else some r1)
def laws_szOptions.K : Ctr := ⟨laws_szOptions.ps, laws_szOptions.rs, false, (.two (.int .i64) (.two (.sl 9 .str) (.two .bool (.int .i64)))), (.int .i64), fun k x => laws_szOptions.f k x.1 x.2.1 x.2.2.1 x.2.2.2⟩
theorem laws_szOptions.eq (k : Nat) (x : (laws_szOptions.K.I).den) : func laws_szOptions.x laws_szOptions.h laws_szOptions.ps laws_szOptions.rs laws_szOptions.vs laws_szOptions.K.I laws_szOptions.K.O laws_szOptions.c k x = laws_szOptions.K.run k x := by
  show _ = laws_szOptions.f k x.1 x.2.1 x.2.2.1 x.2.2.2
  kernel_rfl
theorem laws_szOptions.ok : CtrOk Tryd.prog 6 laws_szOptions.K :=
  CtrOk.of (fn := Tryd.f6) (cd := laws_szOptions.c) (cx := laws_szOptions.x) (hs := laws_szOptions.h) (by kernel_rfl) (by kernel_rfl) (by kernel_rfl) (by kernel_rfl) tt_ok (envOk_cons laws_szStringS.ok (envOk_nil)) (by kernel_rfl) (by kernel_rfl) (by kernel_rfl) (by kernel_rfl) fun k x r h => (laws_szOptions.eq k x).trans h
/-! laws.toStringS -/
noncomputable def laws_toStringS.c : Code := bodyOf Tryd.f25
def laws_toStringS.h : Nat → Hint := look ⟨[], [], []⟩ [(0, ⟨[0, 3, 4], [], [(.t 3, 352, 9, .str)]⟩)]
def laws_toStringS.ps : List PK := [.one]
def laws_toStringS.rs : List RK := [.one true]
def laws_toStringS.vs : List ResultVar := [.tmp 2]
def laws_toStringS.x : Cx := ⟨tt, look none []⟩
def laws_toStringS.s0 (_k : Nat) (rec0 : (Int × (List (ByteArray)) × (List (ByteArray))) → Option ((List (ByteArray)))) (p : (Int × (List (ByteArray)) × (List (ByteArray)))) : Option ((List (ByteArray))) :=
  (bif (decide (p.1 < (p.2.1.length : Int))) then (bif ((decide ((0 : Int) ≤ p.1)) && (decide (p.1 < (p.2.1.length : Int)))) then (p.2.1[p.1.toNat]?).bind fun x1 => (bif ((decide ((0 : Int) ≤ p.1)) && (decide (p.1 < (p.2.2.length : Int)))) then (p.2.2[p.1.toNat]?).bind fun x2 => rec0 ((IntKind.i64.wrap (p.1 + (1 : Int))), p.2.1, (p.2.2.set p.1.toNat x1)) else none) else none) else some p.2.2)
def laws_toStringS.l0 (k : Nat) : Nat → (Int × (List (ByteArray)) × (List (ByteArray))) → Option ((List (ByteArray)))
  | 0 => fun _ => none
  | j + 1 => laws_toStringS.s0 k (laws_toStringS.l0 k j)
def laws_toStringS.S0 (p : (Int × (List (ByteArray)) × (List (ByteArray)))) : DS := ⟨tl [(0, .at (.whole 0)), (3, .at (.whole 352)), (4, .at (.int .i64 p.1))], lookO [(0, .row 9 .str false p.2.1), (352, .row 9 .str true p.2.2)]⟩
noncomputable def laws_toStringS.D0 (k : Nat) (j : Nat) (p : (Int × (List (ByteArray)) × (List (ByteArray)))) : Option ((List (ByteArray))) := loopK (norm [0] (laws_toStringS.h 0)) (runK laws_toStringS.x k 0 [0] laws_toStringS.h 0 (sub laws_toStringS.c [1, 1, 0, 1, 0, 0])) j (laws_toStringS.S0 p) (kBlk 0 (kSeq (runK laws_toStringS.x k 0 [0] laws_toStringS.h 0 (sub laws_toStringS.c [1, 1, 1])) (fin tt laws_toStringS.ps laws_toStringS.rs laws_toStringS.vs (.sl 9 .str))))
theorem laws_toStringS.D0_eq (k : Nat) : ∀ j, laws_toStringS.D0 k j = laws_toStringS.l0 k j := by
  intro j
  induction j with
  | zero => rfl
  | succ j ih =>
    show _ = laws_toStringS.s0 k (laws_toStringS.l0 k j)
    rw [← ih]
    funext p
    kernel_rfl
def laws_toStringS.f (k : Nat) (a0 : List (ByteArray)) : Option ((List (ByteArray))) :=
  (bif ((decide ((0 : Int) ≤ (a0.length : Int))) && decide ((a0.length : Int) * 16 ≤ 140737488355328)) then laws_toStringS.l0 k k ((0 : Int), a0, (List.replicate (a0.length : Int).toNat ByteArray.empty)) else none)
def laws_toStringS.K : Ctr := ⟨laws_toStringS.ps, laws_toStringS.rs, false, (.sl 9 .str), (.sl 9 .str), fun k x => laws_toStringS.f k x⟩
theorem laws_toStringS.eq (k : Nat) (x : (laws_toStringS.K.I).den) : func laws_toStringS.x laws_toStringS.h laws_toStringS.ps laws_toStringS.rs laws_toStringS.vs laws_toStringS.K.I laws_toStringS.K.O laws_toStringS.c k x = laws_toStringS.K.run k x := by
  show _ = laws_toStringS.f k x
  unfold laws_toStringS.f
  rw [← laws_toStringS.D0_eq k k]
  kernel_rfl
theorem laws_toStringS.ok : CtrOk Tryd.prog 25 laws_toStringS.K :=
  CtrOk.of (fn := Tryd.f25) (cd := laws_toStringS.c) (cx := laws_toStringS.x) (hs := laws_toStringS.h) (by kernel_rfl) (by kernel_rfl) (by kernel_rfl) (by kernel_rfl) tt_ok (envOk_nil) (by kernel_rfl) (by kernel_rfl) (by kernel_rfl) (by kernel_rfl) fun k x r h => (laws_toStringS.eq k x).trans h
/-! laws.toOptions -/
noncomputable def laws_toOptions.c : Code := bodyOf Tryd.f8
def laws_toOptions.h : Nat → Hint := look ⟨[], [], []⟩ []
def laws_toOptions.ps : List PK := [.agg 3]
def laws_toOptions.rs : List RK := [.agg 3 true]
def laws_toOptions.vs : List ResultVar := [.cell 2 28]
def laws_toOptions.x : Cx := ⟨tt, look none [(25, some laws_toStringS.K)]⟩
def laws_toOptions.f (k : Nat) (a0_0 : Int) (a0_1 : List (ByteArray)) (a0_2 : Bool) : Option (Int × (List (ByteArray)) × Bool) :=
  (laws_toStringS.f k a0_1).bind fun r1 => some (a0_0, r1, a0_2)
def laws_toOptions.K : Ctr := ⟨laws_toOptions.ps, laws_toOptions.rs, false, (.two (.int .i64) (.two (.sl 9 .str) .bool)), (.two (.int .i64) (.two (.sl 9 .str) .bool)), fun k x => laws_toOptions.f k x.1 x.2.1 x.2.2⟩
theorem laws_toOptions.eq (k : Nat) (x : (laws_toOptions.K.I).den) : func laws_toOptions.x laws_toOptions.h laws_toOptions.ps laws_toOptions.rs laws_toOptions.vs laws_toOptions.K.I laws_toOptions.K.O laws_toOptions.c k x = laws_toOptions.K.run k x := by
  show _ = laws_toOptions.f k x.1 x.2.1 x.2.2
  kernel_rfl
theorem laws_toOptions.ok : CtrOk Tryd.prog 8 laws_toOptions.K :=
  CtrOk.of (fn := Tryd.f8) (cd := laws_toOptions.c) (cx := laws_toOptions.x) (hs := laws_toOptions.h) (by kernel_rfl) (by kernel_rfl) (by kernel_rfl) (by kernel_rfl) tt_ok (envOk_cons laws_toStringS.ok (envOk_nil)) (by kernel_rfl) (by kernel_rfl) (by kernel_rfl) (by kernel_rfl) fun k x r h => (laws_toOptions.eq k x).trans h
/-! spec.l01In -/
noncomputable def spec_l01In.c : Code := bodyOf Tryd.f49
def spec_l01In.h : Nat → Hint := look ⟨[], [], []⟩ []
def spec_l01In.ps : List PK := [.one, .one, .one]
def spec_l01In.rs : List RK := [.one true]
def spec_l01In.vs : List ResultVar := [.tmp 6]
def spec_l01In.x : Cx := ⟨tt, look none []⟩
def spec_l01In.f (_k : Nat) (a0 : Int) (a1 : Int) (a2 : Int) : Option (Bool) :=
  (bif (decide (a0 ≥ a1)) then some (decide (a0 ≤ a2)) else some false)
def spec_l01In.K : Ctr := ⟨spec_l01In.ps, spec_l01In.rs, false, (.two (.int .i64) (.two (.int .i64) (.int .i64))), .bool, fun k x => spec_l01In.f k x.1 x.2.1 x.2.2⟩
theorem spec_l01In.eq (k : Nat) (x : (spec_l01In.K.I).den) : func spec_l01In.x spec_l01In.h spec_l01In.ps spec_l01In.rs spec_l01In.vs spec_l01In.K.I spec_l01In.K.O spec_l01In.c k x = spec_l01In.K.run k x := by
  show _ = spec_l01In.f k x.1 x.2.1 x.2.2
  kernel_rfl
theorem spec_l01In.ok : CtrOk Tryd.prog 49 spec_l01In.K :=
  CtrOk.of (fn := Tryd.f49) (cd := spec_l01In.c) (cx := spec_l01In.x) (hs := spec_l01In.h) (by kernel_rfl) (by kernel_rfl) (by kernel_rfl) (by kernel_rfl) tt_ok (envOk_nil) (by kernel_rfl) (by kernel_rfl) (by kernel_rfl) (by kernel_rfl) fun k x r h => (spec_l01In.eq k x).trans h
/-! spec.l15Way -/
noncomputable def spec_l15Way.c : Code := bodyOf Tryd.f48
def spec_l15Way.h : Nat → Hint := look ⟨[], [], []⟩ [(0, ⟨[0, 3], [], []⟩)]
def spec_l15Way.ps : List PK := [.one]
def spec_l15Way.rs : List RK := [.one true]
def spec_l15Way.vs : List ResultVar := [.tmp 2]
def spec_l15Way.x : Cx := ⟨tt, look none [(49, some spec_l01In.K)]⟩
def spec_l15Way.s0 (k : Nat) (rec0 : (ByteArray × Int) → Option (Bool)) (p : (ByteArray × Int)) : Option (Bool) :=
  (bif (decide (p.2 < (p.1.size : Int))) then (bif (decide ((0 : Int) ≤ p.2)) then (p.1[p.2.toNat]?).bind fun c1 => (bif (decide ((c1.toNat : Int) < (97 : Int))) then (bif (decide ((0 : Int) ≤ p.2)) then (p.1[p.2.toNat]?).bind fun c2 => (bif (decide ((c2.toNat : Int) < (48 : Int))) then some false else (bif (decide ((0 : Int) ≤ p.2)) then (p.1[p.2.toNat]?).bind fun c3 => (bif (decide ((c3.toNat : Int) > (57 : Int))) then some false else rec0 (p.1, (IntKind.i64.wrap (p.2 + (1 : Int))))) else none)) else none) else (bif (decide ((0 : Int) ≤ p.2)) then (p.1[p.2.toNat]?).bind fun c4 => (bif (decide ((c4.toNat : Int) > (122 : Int))) then (bif (decide ((0 : Int) ≤ p.2)) then (p.1[p.2.toNat]?).bind fun c5 => (bif (decide ((c5.toNat : Int) < (48 : Int))) then some false else (bif (decide ((0 : Int) ≤ p.2)) then (p.1[p.2.toNat]?).bind fun c6 => (bif (decide ((c6.toNat : Int) > (57 : Int))) then some false else rec0 (p.1, (IntKind.i64.wrap (p.2 + (1 : Int))))) else none)) else none) else rec0 (p.1, (IntKind.i64.wrap (p.2 + (1 : Int))))) else none)) else none) else (spec_l01In.f k (p.1.size : Int) (1 : Int) (8 : Int)).bind fun r7 => some r7)
def spec_l15Way.l0 (k : Nat) : Nat → (ByteArray × Int) → Option (Bool)
  | 0 => fun _ => none
  | j + 1 => spec_l15Way.s0 k (spec_l15Way.l0 k j)
def spec_l15Way.S0 (p : (ByteArray × Int)) : DS := ⟨tl [(0, .at (.str p.1)), (3, .at (.int .i64 p.2))], lookO []⟩
noncomputable def spec_l15Way.D0 (k : Nat) (j : Nat) (p : (ByteArray × Int)) : Option (Bool) := loopK (norm [] (spec_l15Way.h 0)) (runK spec_l15Way.x k 0 [] spec_l15Way.h 0 (sub spec_l15Way.c [1, 0, 1, 0, 0])) j (spec_l15Way.S0 p) (kBlk 0 (kSeq (runK spec_l15Way.x k 0 [] spec_l15Way.h 0 (sub spec_l15Way.c [1, 1])) (fin tt spec_l15Way.ps spec_l15Way.rs spec_l15Way.vs .bool)))
theorem spec_l15Way.D0_eq (k : Nat) : ∀ j, spec_l15Way.D0 k j = spec_l15Way.l0 k j := by
  intro j
  induction j with
  | zero => rfl
  | succ j ih =>
    show _ = spec_l15Way.s0 k (spec_l15Way.l0 k j)
    rw [← ih]
    funext p
    kernel_rfl
def spec_l15Way.f (k : Nat) (a0 : ByteArray) : Option (Bool) :=
  spec_l15Way.l0 k k (a0, (0 : Int))
def spec_l15Way.K : Ctr := ⟨spec_l15Way.ps, spec_l15Way.rs, false, .str, .bool, fun k x => spec_l15Way.f k x⟩
theorem spec_l15Way.eq (k : Nat) (x : (spec_l15Way.K.I).den) : func spec_l15Way.x spec_l15Way.h spec_l15Way.ps spec_l15Way.rs spec_l15Way.vs spec_l15Way.K.I spec_l15Way.K.O spec_l15Way.c k x = spec_l15Way.K.run k x := by
  show _ = spec_l15Way.f k x
  unfold spec_l15Way.f
  rw [← spec_l15Way.D0_eq k k]
  kernel_rfl
theorem spec_l15Way.ok : CtrOk Tryd.prog 48 spec_l15Way.K :=
  CtrOk.of (fn := Tryd.f48) (cd := spec_l15Way.c) (cx := spec_l15Way.x) (hs := spec_l15Way.h) (by kernel_rfl) (by kernel_rfl) (by kernel_rfl) (by kernel_rfl) tt_ok (envOk_cons spec_l01In.ok (envOk_nil)) (by kernel_rfl) (by kernel_rfl) (by kernel_rfl) (by kernel_rfl) fun k x r h => (spec_l15Way.eq k x).trans h
/-! spec.l15Has -/
noncomputable def spec_l15Has.c : Code := bodyOf Tryd.f41
def spec_l15Has.h : Nat → Hint := look ⟨[], [], []⟩ [(0, ⟨[0, 1, 5], [], []⟩)]
def spec_l15Has.ps : List PK := [.one, .one]
def spec_l15Has.rs : List RK := [.one true]
def spec_l15Has.vs : List ResultVar := [.tmp 4]
def spec_l15Has.x : Cx := ⟨tt, look none []⟩
def spec_l15Has.s0 (_k : Nat) (rec0 : (ByteArray × Int × (List (ByteArray))) → Option (Bool)) (p : (ByteArray × Int × (List (ByteArray)))) : Option (Bool) :=
  (bif (decide (p.2.1 < (p.2.2.length : Int))) then (bif ((decide ((0 : Int) ≤ p.2.1)) && (decide (p.2.1 < (p.2.2.length : Int)))) then (p.2.2[p.2.1.toNat]?).bind fun x1 => (bif (x1.toList == p.1.toList) then some true else rec0 (p.1, (IntKind.i64.wrap (p.2.1 + (1 : Int))), p.2.2)) else none) else some false)
def spec_l15Has.l0 (k : Nat) : Nat → (ByteArray × Int × (List (ByteArray))) → Option (Bool)
  | 0 => fun _ => none
  | j + 1 => spec_l15Has.s0 k (spec_l15Has.l0 k j)
def spec_l15Has.S0 (p : (ByteArray × Int × (List (ByteArray)))) : DS := ⟨tl [(0, .at (.whole 0)), (1, .at (.str p.1)), (5, .at (.int .i64 p.2.1))], lookO [(0, .row 9 .str false p.2.2)]⟩
noncomputable def spec_l15Has.D0 (k : Nat) (j : Nat) (p : (ByteArray × Int × (List (ByteArray)))) : Option (Bool) := loopK (norm [0] (spec_l15Has.h 0)) (runK spec_l15Has.x k 0 [0] spec_l15Has.h 0 (sub spec_l15Has.c [1, 0, 1, 0, 0])) j (spec_l15Has.S0 p) (kBlk 0 (kSeq (runK spec_l15Has.x k 0 [0] spec_l15Has.h 0 (sub spec_l15Has.c [1, 1])) (fin tt spec_l15Has.ps spec_l15Has.rs spec_l15Has.vs .bool)))
theorem spec_l15Has.D0_eq (k : Nat) : ∀ j, spec_l15Has.D0 k j = spec_l15Has.l0 k j := by
  intro j
  induction j with
  | zero => rfl
  | succ j ih =>
    show _ = spec_l15Has.s0 k (spec_l15Has.l0 k j)
    rw [← ih]
    funext p
    kernel_rfl
def spec_l15Has.f (k : Nat) (a0 : List (ByteArray)) (a1 : ByteArray) : Option (Bool) :=
  spec_l15Has.l0 k k (a1, (0 : Int), a0)
def spec_l15Has.K : Ctr := ⟨spec_l15Has.ps, spec_l15Has.rs, false, (.two (.sl 9 .str) .str), .bool, fun k x => spec_l15Has.f k x.1 x.2⟩
theorem spec_l15Has.eq (k : Nat) (x : (spec_l15Has.K.I).den) : func spec_l15Has.x spec_l15Has.h spec_l15Has.ps spec_l15Has.rs spec_l15Has.vs spec_l15Has.K.I spec_l15Has.K.O spec_l15Has.c k x = spec_l15Has.K.run k x := by
  show _ = spec_l15Has.f k x.1 x.2
  unfold spec_l15Has.f
  rw [← spec_l15Has.D0_eq k k]
  kernel_rfl
theorem spec_l15Has.ok : CtrOk Tryd.prog 41 spec_l15Has.K :=
  CtrOk.of (fn := Tryd.f41) (cd := spec_l15Has.c) (cx := spec_l15Has.x) (hs := spec_l15Has.h) (by kernel_rfl) (by kernel_rfl) (by kernel_rfl) (by kernel_rfl) tt_ok (envOk_nil) (by kernel_rfl) (by kernel_rfl) (by kernel_rfl) (by kernel_rfl) fun k x r h => (spec_l15Has.eq k x).trans h
/-! spec.OptionsOk -/
noncomputable def spec_OptionsOk.c : Code := bodyOf Tryd.f23
def spec_OptionsOk.h : Nat → Hint := look ⟨[], [], []⟩ [(0, ⟨[1, 3], [16], []⟩)]
def spec_OptionsOk.ps : List PK := [.agg 3]
def spec_OptionsOk.rs : List RK := [.one true]
def spec_OptionsOk.vs : List ResultVar := [.tmp 2]
def spec_OptionsOk.x : Cx := ⟨tt, look none [(48, some spec_l15Way.K), (41, some spec_l15Has.K), (49, some spec_l01In.K)]⟩
def spec_OptionsOk.s0 (k : Nat) (rec0 : (Int × (List (ByteArray)) × Int × Bool) → Option (Bool)) (p : (Int × (List (ByteArray)) × Int × Bool)) : Option (Bool) :=
  (bif (decide (p.1 < (p.2.1.length : Int))) then (bif ((decide ((0 : Int) ≤ p.1)) && (decide (p.1 < (p.2.1.length : Int)))) then (p.2.1[p.1.toNat]?).bind fun x1 => (spec_l15Way.f k x1).bind fun r2 => (bif (!r2) then some false else (bif ((decide ((0 : Int) ≤ p.1)) && (decide (p.1 ≤ (p.2.1.length : Int)))) then (bif ((decide ((0 : Int) ≤ p.1)) && (decide (p.1 < (p.2.1.length : Int)))) then (p.2.1[p.1.toNat]?).bind fun x3 => (spec_l15Has.f k (p.2.1.take p.1.toNat) x3).bind fun r4 => (bif r4 then some false else rec0 ((IntKind.i64.wrap (p.1 + (1 : Int))), p.2.1, p.2.2.1, p.2.2.2)) else none) else none)) else none) else (spec_l01In.f k p.2.2.1 (20 : Int) (60 : Int)).bind fun r5 => (bif r5 then (spec_l01In.f k (p.2.1.length : Int) (1 : Int) (4 : Int)).bind fun r6 => some r6 else some false))
def spec_OptionsOk.l0 (k : Nat) : Nat → (Int × (List (ByteArray)) × Int × Bool) → Option (Bool)
  | 0 => fun _ => none
  | j + 1 => spec_OptionsOk.s0 k (spec_OptionsOk.l0 k j)
def spec_OptionsOk.S0 (p : (Int × (List (ByteArray)) × Int × Bool)) : DS := ⟨tl [(1, .at (.bptr 16 0)), (3, .at (.int .i64 p.1))], lookO [(1, .row 9 .str false p.2.1), (16, .box 28 [.int .i64 p.2.2.1, .whole 1, .bool p.2.2.2])]⟩
noncomputable def spec_OptionsOk.D0 (k : Nat) (j : Nat) (p : (Int × (List (ByteArray)) × Int × Bool)) : Option (Bool) := loopK (norm [1] (spec_OptionsOk.h 0)) (runK spec_OptionsOk.x k 0 [1] spec_OptionsOk.h 0 (sub spec_OptionsOk.c [1, 0, 1, 0, 0])) j (spec_OptionsOk.S0 p) (kBlk 0 (kSeq (runK spec_OptionsOk.x k 0 [1] spec_OptionsOk.h 0 (sub spec_OptionsOk.c [1, 1])) (fin tt spec_OptionsOk.ps spec_OptionsOk.rs spec_OptionsOk.vs .bool)))
theorem spec_OptionsOk.D0_eq (k : Nat) : ∀ j, spec_OptionsOk.D0 k j = spec_OptionsOk.l0 k j := by
  intro j
  induction j with
  | zero => rfl
  | succ j ih =>
    show _ = spec_OptionsOk.s0 k (spec_OptionsOk.l0 k j)
    rw [← ih]
    funext p
    kernel_rfl
def spec_OptionsOk.f (k : Nat) (a0_0 : Int) (a0_1 : List (ByteArray)) (a0_2 : Bool) : Option (Bool) :=
  spec_OptionsOk.l0 k k ((0 : Int), a0_1, a0_0, a0_2)
def spec_OptionsOk.K : Ctr := ⟨spec_OptionsOk.ps, spec_OptionsOk.rs, false, (.two (.int .i64) (.two (.sl 9 .str) .bool)), .bool, fun k x => spec_OptionsOk.f k x.1 x.2.1 x.2.2⟩
theorem spec_OptionsOk.eq (k : Nat) (x : (spec_OptionsOk.K.I).den) : func spec_OptionsOk.x spec_OptionsOk.h spec_OptionsOk.ps spec_OptionsOk.rs spec_OptionsOk.vs spec_OptionsOk.K.I spec_OptionsOk.K.O spec_OptionsOk.c k x = spec_OptionsOk.K.run k x := by
  show _ = spec_OptionsOk.f k x.1 x.2.1 x.2.2
  unfold spec_OptionsOk.f
  rw [← spec_OptionsOk.D0_eq k k]
  kernel_rfl
theorem spec_OptionsOk.ok : CtrOk Tryd.prog 23 spec_OptionsOk.K :=
  CtrOk.of (fn := Tryd.f23) (cd := spec_OptionsOk.c) (cx := spec_OptionsOk.x) (hs := spec_OptionsOk.h) (by kernel_rfl) (by kernel_rfl) (by kernel_rfl) (by kernel_rfl) tt_ok (envOk_cons spec_l15Way.ok (envOk_cons spec_l15Has.ok (envOk_cons spec_l01In.ok (envOk_nil)))) (by kernel_rfl) (by kernel_rfl) (by kernel_rfl) (by kernel_rfl) fun k x r h => (spec_OptionsOk.eq k x).trans h
/-! spec.l01Figure -/
noncomputable def spec_l01Figure.c : Code := bodyOf Tryd.f50
def spec_l01Figure.h : Nat → Hint := look ⟨[], [], []⟩ []
def spec_l01Figure.ps : List PK := [.one]
def spec_l01Figure.rs : List RK := [.one true]
def spec_l01Figure.vs : List ResultVar := [.tmp 2]
def spec_l01Figure.x : Cx := ⟨tt, look none []⟩
def spec_l01Figure.f (_k : Nat) (a0 : Int) : Option (Int) :=
  (bif (decide (a0 < (10 : Int))) then some (IntKind.u8.wrap (IntKind.i64.wrap ((48 : Int) + a0))) else some (IntKind.u8.wrap (IntKind.i64.wrap ((IntKind.i64.wrap ((97 : Int) + a0)) - (10 : Int)))))
def spec_l01Figure.K : Ctr := ⟨spec_l01Figure.ps, spec_l01Figure.rs, false, (.int .i64), (.int .u8), fun k x => spec_l01Figure.f k x⟩
theorem spec_l01Figure.eq (k : Nat) (x : (spec_l01Figure.K.I).den) : func spec_l01Figure.x spec_l01Figure.h spec_l01Figure.ps spec_l01Figure.rs spec_l01Figure.vs spec_l01Figure.K.I spec_l01Figure.K.O spec_l01Figure.c k x = spec_l01Figure.K.run k x := by
  show _ = spec_l01Figure.f k x
  kernel_rfl
theorem spec_l01Figure.ok : CtrOk Tryd.prog 50 spec_l01Figure.K :=
  CtrOk.of (fn := Tryd.f50) (cd := spec_l01Figure.c) (cx := spec_l01Figure.x) (hs := spec_l01Figure.h) (by kernel_rfl) (by kernel_rfl) (by kernel_rfl) (by kernel_rfl) tt_ok (envOk_nil) (by kernel_rfl) (by kernel_rfl) (by kernel_rfl) (by kernel_rfl) fun k x r h => (spec_l01Figure.eq k x).trans h
/-! spec.Decimal -/
noncomputable def spec_Decimal.c : Code := bodyOf Tryd.f24
def spec_Decimal.h : Nat → Hint := look ⟨[], [], []⟩ [(0, ⟨[0, 3, 4], [], []⟩)]
def spec_Decimal.ps : List PK := [.one]
def spec_Decimal.rs : List RK := [.one true]
def spec_Decimal.vs : List ResultVar := [.tmp 2]
def spec_Decimal.x : Cx := ⟨tt, look none [(50, some spec_l01Figure.K)]⟩
def spec_Decimal.s0 (k : Nat) (rec0 : (Int × Bool × ByteArray) → Option (ByteArray)) (p : (Int × Bool × ByteArray)) : Option (ByteArray) :=
  (bif (p.1 != (0 : Int)) then (bif (decide ((p.1.tmod (10 : Int)) < (0 : Int))) then (spec_l01Figure.f k (IntKind.i64.wrap (0 - (p.1.tmod (10 : Int))))).bind fun r1 => (bif decide ((strOfNums [r1]).size + p.2.2.size ≤ 140737488351232) then rec0 ((IntKind.i64.wrap (p.1.tdiv (10 : Int))), p.2.1, ((strOfNums [r1]) ++ p.2.2)) else none) else (spec_l01Figure.f k (p.1.tmod (10 : Int))).bind fun r2 => (bif decide ((strOfNums [r2]).size + p.2.2.size ≤ 140737488351232) then rec0 ((IntKind.i64.wrap (p.1.tdiv (10 : Int))), p.2.1, ((strOfNums [r2]) ++ p.2.2)) else none)) else (bif p.2.1 then (bif decide ((⟨#[45]⟩ : ByteArray).size + p.2.2.size ≤ 140737488351232) then some ((⟨#[45]⟩ : ByteArray) ++ p.2.2) else none) else some p.2.2))
def spec_Decimal.l0 (k : Nat) : Nat → (Int × Bool × ByteArray) → Option (ByteArray)
  | 0 => fun _ => none
  | j + 1 => spec_Decimal.s0 k (spec_Decimal.l0 k j)
def spec_Decimal.S0 (p : (Int × Bool × ByteArray)) : DS := ⟨tl [(0, .at (.int .i64 p.1)), (3, .at (.bool p.2.1)), (4, .at (.str p.2.2))], lookO []⟩
noncomputable def spec_Decimal.D0 (k : Nat) (j : Nat) (p : (Int × Bool × ByteArray)) : Option (ByteArray) := loopK (norm [] (spec_Decimal.h 0)) (runK spec_Decimal.x k 0 [] spec_Decimal.h 0 (sub spec_Decimal.c [1, 1, 1, 1, 0, 0, 0])) j (spec_Decimal.S0 p) (kBlk 0 (kSeq (runK spec_Decimal.x k 0 [] spec_Decimal.h 0 (sub spec_Decimal.c [1, 1, 1, 1, 1])) (fin tt spec_Decimal.ps spec_Decimal.rs spec_Decimal.vs .str)))
theorem spec_Decimal.D0_eq (k : Nat) : ∀ j, spec_Decimal.D0 k j = spec_Decimal.l0 k j := by
  intro j
  induction j with
  | zero => rfl
  | succ j ih =>
    show _ = spec_Decimal.s0 k (spec_Decimal.l0 k j)
    rw [← ih]
    funext p
    kernel_rfl
def spec_Decimal.f (k : Nat) (a0 : Int) : Option (ByteArray) :=
  (bif (a0 == (0 : Int)) then some (⟨#[48]⟩ : ByteArray) else spec_Decimal.l0 k k (a0, (decide (a0 < (0 : Int))), ByteArray.empty))
def spec_Decimal.K : Ctr := ⟨spec_Decimal.ps, spec_Decimal.rs, false, (.int .i64), .str, fun k x => spec_Decimal.f k x⟩
theorem spec_Decimal.eq (k : Nat) (x : (spec_Decimal.K.I).den) : func spec_Decimal.x spec_Decimal.h spec_Decimal.ps spec_Decimal.rs spec_Decimal.vs spec_Decimal.K.I spec_Decimal.K.O spec_Decimal.c k x = spec_Decimal.K.run k x := by
  show _ = spec_Decimal.f k x
  unfold spec_Decimal.f
  rw [← spec_Decimal.D0_eq k k]
  kernel_rfl
theorem spec_Decimal.ok : CtrOk Tryd.prog 24 spec_Decimal.K :=
  CtrOk.of (fn := Tryd.f24) (cd := spec_Decimal.c) (cx := spec_Decimal.x) (hs := spec_Decimal.h) (by kernel_rfl) (by kernel_rfl) (by kernel_rfl) (by kernel_rfl) tt_ok (envOk_cons spec_l01Figure.ok (envOk_nil)) (by kernel_rfl) (by kernel_rfl) (by kernel_rfl) (by kernel_rfl) fun k x r h => (spec_Decimal.eq k x).trans h
/-! spec.OptionText -/
noncomputable def spec_OptionText.c : Code := bodyOf Tryd.f7
def spec_OptionText.h : Nat → Hint := look ⟨[], [], []⟩ [(0, ⟨[1, 4, 5], [16], []⟩)]
def spec_OptionText.ps : List PK := [.agg 3]
def spec_OptionText.rs : List RK := [.one true, .one true]
def spec_OptionText.vs : List ResultVar := [.tmp 2, .tmp 3]
def spec_OptionText.x : Cx := ⟨tt, look none [(23, some spec_OptionsOk.K), (24, some spec_Decimal.K)]⟩
def spec_OptionText.s0 (_k : Nat) (rec0 : (ByteArray × Int × (List (ByteArray)) × Int × Bool) → Option (ByteArray × Bool)) (p : (ByteArray × Int × (List (ByteArray)) × Int × Bool)) : Option (ByteArray × Bool) :=
  (bif (decide (p.2.1 < (p.2.2.1.length : Int))) then (bif (decide (p.2.1 > (0 : Int))) then (bif decide (p.1.size + (⟨#[44]⟩ : ByteArray).size ≤ 140737488351232) then (bif ((decide ((0 : Int) ≤ p.2.1)) && (decide (p.2.1 < (p.2.2.1.length : Int)))) then (p.2.2.1[p.2.1.toNat]?).bind fun x3 => (bif decide ((p.1 ++ (⟨#[44]⟩ : ByteArray)).size + x3.size ≤ 140737488351232) then rec0 (((p.1 ++ (⟨#[44]⟩ : ByteArray)) ++ x3), (IntKind.i64.wrap (p.2.1 + (1 : Int))), p.2.2.1, p.2.2.2.1, p.2.2.2.2) else none) else none) else none) else (bif ((decide ((0 : Int) ≤ p.2.1)) && (decide (p.2.1 < (p.2.2.1.length : Int)))) then (p.2.2.1[p.2.1.toNat]?).bind fun x4 => (bif decide (p.1.size + x4.size ≤ 140737488351232) then rec0 ((p.1 ++ x4), (IntKind.i64.wrap (p.2.1 + (1 : Int))), p.2.2.1, p.2.2.2.1, p.2.2.2.2) else none) else none)) else (bif p.2.2.2.2 then (bif decide (p.1.size + (⟨#[59, 112, 105, 101, 99, 101, 115]⟩ : ByteArray).size ≤ 140737488351232) then some ((p.1 ++ (⟨#[59, 112, 105, 101, 99, 101, 115]⟩ : ByteArray)), true) else none) else some (p.1, true)))
def spec_OptionText.l0 (k : Nat) : Nat → (ByteArray × Int × (List (ByteArray)) × Int × Bool) → Option (ByteArray × Bool)
  | 0 => fun _ => none
  | j + 1 => spec_OptionText.s0 k (spec_OptionText.l0 k j)
def spec_OptionText.S0 (p : (ByteArray × Int × (List (ByteArray)) × Int × Bool)) : DS := ⟨tl [(1, .at (.bptr 16 0)), (4, .at (.str p.1)), (5, .at (.int .i64 p.2.1))], lookO [(1, .row 9 .str false p.2.2.1), (16, .box 28 [.int .i64 p.2.2.2.1, .whole 1, .bool p.2.2.2.2])]⟩
noncomputable def spec_OptionText.D0 (k : Nat) (j : Nat) (p : (ByteArray × Int × (List (ByteArray)) × Int × Bool)) : Option (ByteArray × Bool) := loopK (norm [1] (spec_OptionText.h 0)) (runK spec_OptionText.x k 0 [1] spec_OptionText.h 0 (sub spec_OptionText.c [1, 1, 1, 0, 1, 0, 0])) j (spec_OptionText.S0 p) (kBlk 0 (kSeq (runK spec_OptionText.x k 0 [1] spec_OptionText.h 0 (sub spec_OptionText.c [1, 1, 1, 1])) (fin tt spec_OptionText.ps spec_OptionText.rs spec_OptionText.vs (.two .str .bool))))
theorem spec_OptionText.D0_eq (k : Nat) : ∀ j, spec_OptionText.D0 k j = spec_OptionText.l0 k j := by
  intro j
  induction j with
  | zero => rfl
  | succ j ih =>
    show _ = spec_OptionText.s0 k (spec_OptionText.l0 k j)
    rw [← ih]
    funext p
    kernel_rfl
def spec_OptionText.f (k : Nat) (a0_0 : Int) (a0_1 : List (ByteArray)) (a0_2 : Bool) : Option (ByteArray × Bool) :=
  (spec_OptionsOk.f k a0_0 a0_1 a0_2).bind fun r1 => (bif (!r1) then some (ByteArray.empty, false) else (spec_Decimal.f k a0_0).bind fun r2 => (bif decide ((⟨#[115, 105, 122, 101, 32]⟩ : ByteArray).size + r2.size ≤ 140737488351232) then (bif decide (((⟨#[115, 105, 122, 101, 32]⟩ : ByteArray) ++ r2).size + (⟨#[59, 119, 97, 121, 115, 32]⟩ : ByteArray).size ≤ 140737488351232) then spec_OptionText.l0 k k ((((⟨#[115, 105, 122, 101, 32]⟩ : ByteArray) ++ r2) ++ (⟨#[59, 119, 97, 121, 115, 32]⟩ : ByteArray)), (0 : Int), a0_1, a0_0, a0_2) else none) else none))
def spec_OptionText.K : Ctr := ⟨spec_OptionText.ps, spec_OptionText.rs, false, (.two (.int .i64) (.two (.sl 9 .str) .bool)), (.two .str .bool), fun k x => spec_OptionText.f k x.1 x.2.1 x.2.2⟩
theorem spec_OptionText.eq (k : Nat) (x : (spec_OptionText.K.I).den) : func spec_OptionText.x spec_OptionText.h spec_OptionText.ps spec_OptionText.rs spec_OptionText.vs spec_OptionText.K.I spec_OptionText.K.O spec_OptionText.c k x = spec_OptionText.K.run k x := by
  show _ = spec_OptionText.f k x.1 x.2.1 x.2.2
  unfold spec_OptionText.f
  rw [← spec_OptionText.D0_eq k k]
  kernel_rfl
theorem spec_OptionText.ok : CtrOk Tryd.prog 7 spec_OptionText.K :=
  CtrOk.of (fn := Tryd.f7) (cd := spec_OptionText.c) (cx := spec_OptionText.x) (hs := spec_OptionText.h) (by kernel_rfl) (by kernel_rfl) (by kernel_rfl) (by kernel_rfl) tt_ok (envOk_cons spec_OptionsOk.ok (envOk_cons spec_Decimal.ok (envOk_nil))) (by kernel_rfl) (by kernel_rfl) (by kernel_rfl) (by kernel_rfl) fun k x r h => (spec_OptionText.eq k x).trans h
/-! impl.within -/
noncomputable def impl_within.c : Code := bodyOf Tryd.f47
def impl_within.h : Nat → Hint := look ⟨[], [], []⟩ []
def impl_within.ps : List PK := [.one, .one, .one]
def impl_within.rs : List RK := [.one true]
def impl_within.vs : List ResultVar := [.tmp 6]
def impl_within.x : Cx := ⟨tt, look none []⟩
def impl_within.f (_k : Nat) (a0 : Int) (a1 : Int) (a2 : Int) : Option (Bool) :=
  (bif (decide (a0 ≥ a1)) then some (decide (a0 ≤ a2)) else some false)
def impl_within.K : Ctr := ⟨impl_within.ps, impl_within.rs, false, (.two (.int .i64) (.two (.int .i64) (.int .i64))), .bool, fun k x => impl_within.f k x.1 x.2.1 x.2.2⟩
theorem impl_within.eq (k : Nat) (x : (impl_within.K.I).den) : func impl_within.x impl_within.h impl_within.ps impl_within.rs impl_within.vs impl_within.K.I impl_within.K.O impl_within.c k x = impl_within.K.run k x := by
  show _ = impl_within.f k x.1 x.2.1 x.2.2
  kernel_rfl
theorem impl_within.ok : CtrOk Tryd.prog 47 impl_within.K :=
  CtrOk.of (fn := Tryd.f47) (cd := impl_within.c) (cx := impl_within.x) (hs := impl_within.h) (by kernel_rfl) (by kernel_rfl) (by kernel_rfl) (by kernel_rfl) tt_ok (envOk_nil) (by kernel_rfl) (by kernel_rfl) (by kernel_rfl) (by kernel_rfl) fun k x r h => (impl_within.eq k x).trans h
/-! impl.wayOk -/
noncomputable def impl_wayOk.c : Code := bodyOf Tryd.f46
def impl_wayOk.h : Nat → Hint := look ⟨[], [], []⟩ [(0, ⟨[0, 3], [], []⟩)]
def impl_wayOk.ps : List PK := [.one]
def impl_wayOk.rs : List RK := [.one true]
def impl_wayOk.vs : List ResultVar := [.tmp 2]
def impl_wayOk.x : Cx := ⟨tt, look none [(47, some impl_within.K)]⟩
def impl_wayOk.s0 (k : Nat) (rec0 : (ByteArray × Int) → Option (Bool)) (p : (ByteArray × Int)) : Option (Bool) :=
  (bif (decide (p.2 < (p.1.size : Int))) then (bif (decide ((0 : Int) ≤ p.2)) then (p.1[p.2.toNat]?).bind fun c1 => (impl_within.f k (IntKind.i64.wrap (c1.toNat : Int)) (97 : Int) (122 : Int)).bind fun r2 => (bif (!r2) then (bif (decide ((0 : Int) ≤ p.2)) then (p.1[p.2.toNat]?).bind fun c3 => (impl_within.f k (IntKind.i64.wrap (c3.toNat : Int)) (48 : Int) (57 : Int)).bind fun r4 => (bif (!r4) then some false else rec0 (p.1, (IntKind.i64.wrap (p.2 + (1 : Int))))) else none) else rec0 (p.1, (IntKind.i64.wrap (p.2 + (1 : Int))))) else none) else (impl_within.f k (p.1.size : Int) (1 : Int) (8 : Int)).bind fun r5 => some r5)
def impl_wayOk.l0 (k : Nat) : Nat → (ByteArray × Int) → Option (Bool)
  | 0 => fun _ => none
  | j + 1 => impl_wayOk.s0 k (impl_wayOk.l0 k j)
def impl_wayOk.S0 (p : (ByteArray × Int)) : DS := ⟨tl [(0, .at (.str p.1)), (3, .at (.int .i64 p.2))], lookO []⟩
noncomputable def impl_wayOk.D0 (k : Nat) (j : Nat) (p : (ByteArray × Int)) : Option (Bool) := loopK (norm [] (impl_wayOk.h 0)) (runK impl_wayOk.x k 0 [] impl_wayOk.h 0 (sub impl_wayOk.c [1, 0, 1, 0, 0])) j (impl_wayOk.S0 p) (kBlk 0 (kSeq (runK impl_wayOk.x k 0 [] impl_wayOk.h 0 (sub impl_wayOk.c [1, 1])) (fin tt impl_wayOk.ps impl_wayOk.rs impl_wayOk.vs .bool)))
theorem impl_wayOk.D0_eq (k : Nat) : ∀ j, impl_wayOk.D0 k j = impl_wayOk.l0 k j := by
  intro j
  induction j with
  | zero => rfl
  | succ j ih =>
    show _ = impl_wayOk.s0 k (impl_wayOk.l0 k j)
    rw [← ih]
    funext p
    kernel_rfl
def impl_wayOk.f (k : Nat) (a0 : ByteArray) : Option (Bool) :=
  impl_wayOk.l0 k k (a0, (0 : Int))
def impl_wayOk.K : Ctr := ⟨impl_wayOk.ps, impl_wayOk.rs, false, .str, .bool, fun k x => impl_wayOk.f k x⟩
theorem impl_wayOk.eq (k : Nat) (x : (impl_wayOk.K.I).den) : func impl_wayOk.x impl_wayOk.h impl_wayOk.ps impl_wayOk.rs impl_wayOk.vs impl_wayOk.K.I impl_wayOk.K.O impl_wayOk.c k x = impl_wayOk.K.run k x := by
  show _ = impl_wayOk.f k x
  unfold impl_wayOk.f
  rw [← impl_wayOk.D0_eq k k]
  kernel_rfl
theorem impl_wayOk.ok : CtrOk Tryd.prog 46 impl_wayOk.K :=
  CtrOk.of (fn := Tryd.f46) (cd := impl_wayOk.c) (cx := impl_wayOk.x) (hs := impl_wayOk.h) (by kernel_rfl) (by kernel_rfl) (by kernel_rfl) (by kernel_rfl) tt_ok (envOk_cons impl_within.ok (envOk_nil)) (by kernel_rfl) (by kernel_rfl) (by kernel_rfl) (by kernel_rfl) fun k x r h => (impl_wayOk.eq k x).trans h
/-! slices.Index[[]string,string] -/
noncomputable def slices_Index_string_string.c : Code := bodyOf Tryd.f62
def slices_Index_string_string.h : Nat → Hint := look ⟨[], [], []⟩ [(0, ⟨[0, 1, 7, 8], [], []⟩)]
def slices_Index_string_string.ps : List PK := [.one, .one]
def slices_Index_string_string.rs : List RK := [.one true]
def slices_Index_string_string.vs : List ResultVar := [.tmp 4]
def slices_Index_string_string.x : Cx := ⟨tt, look none []⟩
def slices_Index_string_string.s0 (_k : Nat) (rec0 : (ByteArray × Int × Int × (List (ByteArray))) → Option (Int)) (p : (ByteArray × Int × Int × (List (ByteArray)))) : Option (Int) :=
  (bif (decide (p.2.2.1 < p.2.1)) then (bif ((decide ((0 : Int) ≤ p.2.2.1)) && (decide (p.2.2.1 < (p.2.2.2.length : Int)))) then (p.2.2.2[p.2.2.1.toNat]?).bind fun x1 => (bif (p.1.toList == x1.toList) then some p.2.2.1 else rec0 (p.1, p.2.1, (IntKind.i64.wrap (p.2.2.1 + (1 : Int))), p.2.2.2)) else none) else some (-1 : Int))
def slices_Index_string_string.l0 (k : Nat) : Nat → (ByteArray × Int × Int × (List (ByteArray))) → Option (Int)
  | 0 => fun _ => none
  | j + 1 => slices_Index_string_string.s0 k (slices_Index_string_string.l0 k j)
def slices_Index_string_string.S0 (p : (ByteArray × Int × Int × (List (ByteArray)))) : DS := ⟨tl [(0, .at (.whole 0)), (1, .at (.str p.1)), (7, .at (.int .i64 p.2.1)), (8, .at (.int .i64 p.2.2.1))], lookO [(0, .row 9 .str false p.2.2.2)]⟩
noncomputable def slices_Index_string_string.D0 (k : Nat) (j : Nat) (p : (ByteArray × Int × Int × (List (ByteArray)))) : Option (Int) := loopK (norm [0] (slices_Index_string_string.h 0)) (runK slices_Index_string_string.x k 0 [0] slices_Index_string_string.h 0 (sub slices_Index_string_string.c [1, 0, 1, 0, 0])) j (slices_Index_string_string.S0 p) (kBlk 0 (kSeq (runK slices_Index_string_string.x k 0 [0] slices_Index_string_string.h 0 (sub slices_Index_string_string.c [1, 1])) (fin tt slices_Index_string_string.ps slices_Index_string_string.rs slices_Index_string_string.vs (.int .i64))))
theorem slices_Index_string_string.D0_eq (k : Nat) : ∀ j, slices_Index_string_string.D0 k j = slices_Index_string_string.l0 k j := by
  intro j
  induction j with
  | zero => rfl
  | succ j ih =>
    show _ = slices_Index_string_string.s0 k (slices_Index_string_string.l0 k j)
    rw [← ih]
    funext p
    kernel_rfl
def slices_Index_string_string.f (k : Nat) (a0 : List (ByteArray)) (a1 : ByteArray) : Option (Int) :=
  slices_Index_string_string.l0 k k (a1, (a0.length : Int), (0 : Int), a0)
def slices_Index_string_string.K : Ctr := ⟨slices_Index_string_string.ps, slices_Index_string_string.rs, false, (.two (.sl 9 .str) .str), (.int .i64), fun k x => slices_Index_string_string.f k x.1 x.2⟩
theorem slices_Index_string_string.eq (k : Nat) (x : (slices_Index_string_string.K.I).den) : func slices_Index_string_string.x slices_Index_string_string.h slices_Index_string_string.ps slices_Index_string_string.rs slices_Index_string_string.vs slices_Index_string_string.K.I slices_Index_string_string.K.O slices_Index_string_string.c k x = slices_Index_string_string.K.run k x := by
  show _ = slices_Index_string_string.f k x.1 x.2
  unfold slices_Index_string_string.f
  rw [← slices_Index_string_string.D0_eq k k]
  kernel_rfl
theorem slices_Index_string_string.ok : CtrOk Tryd.prog 62 slices_Index_string_string.K :=
  CtrOk.of (fn := Tryd.f62) (cd := slices_Index_string_string.c) (cx := slices_Index_string_string.x) (hs := slices_Index_string_string.h) (by kernel_rfl) (by kernel_rfl) (by kernel_rfl) (by kernel_rfl) tt_ok (envOk_nil) (by kernel_rfl) (by kernel_rfl) (by kernel_rfl) (by kernel_rfl) fun k x r h => (slices_Index_string_string.eq k x).trans h
/-! slices.Contains[[]string,string] -/
noncomputable def slices_Contains_string_string.c : Code := bodyOf Tryd.f40
def slices_Contains_string_string.h : Nat → Hint := look ⟨[], [], []⟩ []
def slices_Contains_string_string.ps : List PK := [.one, .one]
def slices_Contains_string_string.rs : List RK := [.one true]
def slices_Contains_string_string.vs : List ResultVar := [.tmp 4]
def slices_Contains_string_string.x : Cx := ⟨tt, look none [(62, some slices_Index_string_string.K)]⟩
def slices_Contains_string_string.f (k : Nat) (a0 : List (ByteArray)) (a1 : ByteArray) : Option (Bool) :=
  (slices_Index_string_string.f k a0 a1).bind fun r1 => some (decide (r1 ≥ (0 : Int)))
def slices_Contains_string_string.K : Ctr := ⟨slices_Contains_string_string.ps, slices_Contains_string_string.rs, false, (.two (.sl 9 .str) .str), .bool, fun k x => slices_Contains_string_string.f k x.1 x.2⟩
theorem slices_Contains_string_string.eq (k : Nat) (x : (slices_Contains_string_string.K.I).den) : func slices_Contains_string_string.x slices_Contains_string_string.h slices_Contains_string_string.ps slices_Contains_string_string.rs slices_Contains_string_string.vs slices_Contains_string_string.K.I slices_Contains_string_string.K.O slices_Contains_string_string.c k x = slices_Contains_string_string.K.run k x := by
  show _ = slices_Contains_string_string.f k x.1 x.2
  kernel_rfl
theorem slices_Contains_string_string.ok : CtrOk Tryd.prog 40 slices_Contains_string_string.K :=
  CtrOk.of (fn := Tryd.f40) (cd := slices_Contains_string_string.c) (cx := slices_Contains_string_string.x) (hs := slices_Contains_string_string.h) (by kernel_rfl) (by kernel_rfl) (by kernel_rfl) (by kernel_rfl) tt_ok (envOk_cons slices_Index_string_string.ok (envOk_nil)) (by kernel_rfl) (by kernel_rfl) (by kernel_rfl) (by kernel_rfl) fun k x r h => (slices_Contains_string_string.eq k x).trans h
end Go.Proofs.YtfaeklomiofpdaaDoor.DI
