/- FnExactGreeting: functions as plain Lean, in the machine of values. -/
import Derived.Test.YtpinehfjimphmaaGreatVFnExactGreeting0
namespace Go.Proofs.YtpinehfjimphmaaGreat.DI
open Go
set_option linter.unusedVariables false
/-! laws.szStringS -/
noncomputable def laws_szStringS.c : Code := bodyOf Tryz.f11
def laws_szStringS.h : Nat → Hint := look ⟨[], [], []⟩ [(0, ⟨[0, 1, 5], [], []⟩)]
def laws_szStringS.ps : List PK := [.one, .one]
def laws_szStringS.rs : List RK := [.one true]
def laws_szStringS.vs : List ResultVar := [.tmp 4]
def laws_szStringS.x : Cx := ⟨tt, look none []⟩
def laws_szStringS.s0 (_k : Nat) (rec0 : (Int × Int × (List (ByteArray))) → Option (Int)) (p : (Int × Int × (List (ByteArray)))) : Option (Int) :=
  (bif (decide (p.2.1 < (p.2.2.length : Int))) then (bif ((decide ((0 : Int) ≤ p.2.1)) && (decide (p.2.1 < (p.2.2.length : Int)))) then (p.2.2[p.2.1.toNat]?).bind fun x1 => (bif (decide ((IntKind.i64.wrap (p.1 - (x1.size : Int))) < (0 : Int))) then some (-1 : Int) else rec0 ((IntKind.i64.wrap (p.1 - (x1.size : Int))), (IntKind.i64.wrap (p.2.1 + (1 : Int))), p.2.2)) else none) else some p.1)
def laws_szStringS.l0 (k : Nat) : Nat → (Int × Int × (List (ByteArray))) → Option (Int)
  | 0 => fun _ => none
  | j + 1 => laws_szStringS.s0 k (laws_szStringS.l0 k j)
def laws_szStringS.S0 (p : (Int × Int × (List (ByteArray)))) : DS := ⟨tl [(0, .at (.whole 0)), (1, .at (.int .i64 p.1)), (5, .at (.int .i64 p.2.1))], lookO [(0, .row 9 .str false p.2.2)]⟩
noncomputable def laws_szStringS.D0 (k : Nat) (j : Nat) (p : (Int × Int × (List (ByteArray)))) : Option (Int) := loopK (normK [0] (laws_szStringS.h 0)) (runK laws_szStringS.x k 0 [0] laws_szStringS.h 0 (sub laws_szStringS.c [1, 1, 1, 0, 1, 0, 0])) j (laws_szStringS.S0 p) (kBlk 0 (kSeq (runK laws_szStringS.x k 0 [0] laws_szStringS.h 0 (sub laws_szStringS.c [1, 1, 1, 1])) (fin tt laws_szStringS.ps laws_szStringS.rs laws_szStringS.vs (.int .i64))))
theorem laws_szStringS.D0_eq (k : Nat) : ∀ j, laws_szStringS.D0 k j = laws_szStringS.l0 k j := by
  intro j
  induction j with
  | zero => rfl
  | succ j ih =>
    show _ = laws_szStringS.s0 k (laws_szStringS.l0 k j)
    rw [← ih]
    funext p
    kernel_rfl
def laws_szStringS.f (k : Nat) (a0 : List (ByteArray)) (a1 : Int) : Option (Int) :=
  (bif (decide ((IntKind.i64.wrap (a1 - (a0.length : Int))) < (0 : Int))) then some (-1 : Int) else laws_szStringS.l0 k k ((IntKind.i64.wrap (a1 - (a0.length : Int))), (0 : Int), a0))
def laws_szStringS.K : Ctr := ⟨laws_szStringS.ps, laws_szStringS.rs, false, (.two (.sl 9 .str) (.int .i64)), (.int .i64), fun k x => laws_szStringS.f k x.1 x.2⟩
theorem laws_szStringS.eq (k : Nat) (x : (laws_szStringS.K.I).den) : func laws_szStringS.x laws_szStringS.h laws_szStringS.ps laws_szStringS.rs laws_szStringS.vs laws_szStringS.K.I laws_szStringS.K.O laws_szStringS.c k x = laws_szStringS.K.run k x := by
  show _ = laws_szStringS.f k x.1 x.2
  unfold laws_szStringS.f
  rw [← laws_szStringS.D0_eq k k]
  kernel_rfl
theorem laws_szStringS.ok : CtrOk Tryz.prog 11 laws_szStringS.K :=
  CtrOk.of (fn := Tryz.f11) (cd := laws_szStringS.c) (cx := laws_szStringS.x) (hs := laws_szStringS.h) (by kernel_rfl) (by kernel_rfl) (by kernel_rfl) (by kernel_rfl) tt_ok (envOk_nil) (by kernel_rfl) (by kernel_rfl) (by kernel_rfl) (by kernel_rfl) fun k x r h => (laws_szStringS.eq k x).trans h
/-! laws.toStringS -/
noncomputable def laws_toStringS.c : Code := bodyOf Tryz.f12
def laws_toStringS.h : Nat → Hint := look ⟨[], [], []⟩ [(0, ⟨[0, 3, 4], [], [(.t 3, 352, 9, .str)]⟩)]
def laws_toStringS.ps : List PK := [.one]
def laws_toStringS.rs : List RK := [.one true]
def laws_toStringS.vs : List ResultVar := [.tmp 2]
def laws_toStringS.x : Cx := ⟨tt, look none []⟩
def laws_toStringS.s0 (_k : Nat) (rec0 : (Int × (List (ByteArray)) × (List (ByteArray))) → Option ((List (ByteArray)))) (p : (Int × (List (ByteArray)) × (List (ByteArray)))) : Option ((List (ByteArray))) :=
  (bif (decide (p.1 < (p.2.1.length : Int))) then (bif ((decide ((0 : Int) ≤ p.1)) && (decide (p.1 < (p.2.1.length : Int)))) then (p.2.1[p.1.toNat]?).bind fun x1 => (bif ((decide ((0 : Int) ≤ p.1)) && (decide (p.1 < (p.2.2.length : Int)))) then (p.2.2[p.1.toNat]?).bind fun x2 => rec0 ((IntKind.i64.wrap (p.1 + (1 : Int))), p.2.1, (p.2.2.set p.1.toNat x1)) else none) else none) else some p.2.2)
def laws_toStringS.l0 (k : Nat) : Nat → (Int × (List (ByteArray)) × (List (ByteArray))) → Option ((List (ByteArray)))
  | 0 => fun _ => none
  | j + 1 => laws_toStringS.s0 k (laws_toStringS.l0 k j)
def laws_toStringS.S0 (p : (Int × (List (ByteArray)) × (List (ByteArray)))) : DS := ⟨tl [(0, .at (.whole 0)), (3, .at (.whole 352)), (4, .at (.int .i64 p.1))], lookO [(0, .row 9 .str false p.2.1), (352, .row 9 .str true p.2.2)]⟩
noncomputable def laws_toStringS.D0 (k : Nat) (j : Nat) (p : (Int × (List (ByteArray)) × (List (ByteArray)))) : Option ((List (ByteArray))) := loopK (normK [0] (laws_toStringS.h 0)) (runK laws_toStringS.x k 0 [0] laws_toStringS.h 0 (sub laws_toStringS.c [1, 1, 0, 1, 0, 0])) j (laws_toStringS.S0 p) (kBlk 0 (kSeq (runK laws_toStringS.x k 0 [0] laws_toStringS.h 0 (sub laws_toStringS.c [1, 1, 1])) (fin tt laws_toStringS.ps laws_toStringS.rs laws_toStringS.vs (.sl 9 .str))))
theorem laws_toStringS.D0_eq (k : Nat) : ∀ j, laws_toStringS.D0 k j = laws_toStringS.l0 k j := by
  intro j
  induction j with
  | zero => rfl
  | succ j ih =>
    show _ = laws_toStringS.s0 k (laws_toStringS.l0 k j)
    rw [← ih]
    funext p
    kernel_rfl
def laws_toStringS.f (k : Nat) (a0 : List (ByteArray)) : Option ((List (ByteArray))) :=
  (bif ((decide ((0 : Int) ≤ (a0.length : Int))) && decide ((a0.length : Int) * 16 ≤ 140737488355328)) then laws_toStringS.l0 k k ((0 : Int), a0, (List.replicate (a0.length : Int).toNat ByteArray.empty)) else none)
def laws_toStringS.K : Ctr := ⟨laws_toStringS.ps, laws_toStringS.rs, false, (.sl 9 .str), (.sl 9 .str), fun k x => laws_toStringS.f k x⟩
theorem laws_toStringS.eq (k : Nat) (x : (laws_toStringS.K.I).den) : func laws_toStringS.x laws_toStringS.h laws_toStringS.ps laws_toStringS.rs laws_toStringS.vs laws_toStringS.K.I laws_toStringS.K.O laws_toStringS.c k x = laws_toStringS.K.run k x := by
  show _ = laws_toStringS.f k x
  unfold laws_toStringS.f
  rw [← laws_toStringS.D0_eq k k]
  kernel_rfl
theorem laws_toStringS.ok : CtrOk Tryz.prog 12 laws_toStringS.K :=
  CtrOk.of (fn := Tryz.f12) (cd := laws_toStringS.c) (cx := laws_toStringS.x) (hs := laws_toStringS.h) (by kernel_rfl) (by kernel_rfl) (by kernel_rfl) (by kernel_rfl) tt_ok (envOk_nil) (by kernel_rfl) (by kernel_rfl) (by kernel_rfl) (by kernel_rfl) fun k x r h => (laws_toStringS.eq k x).trans h
/-! laws.toIntS -/
noncomputable def laws_toIntS.c : Code := bodyOf Tryz.f13
def laws_toIntS.h : Nat → Hint := look ⟨[], [], []⟩ [(0, ⟨[0, 3, 4], [], [(.t 3, 352, 3, (.int .i64))]⟩)]
def laws_toIntS.ps : List PK := [.one]
def laws_toIntS.rs : List RK := [.one true]
def laws_toIntS.vs : List ResultVar := [.tmp 2]
def laws_toIntS.x : Cx := ⟨tt, look none []⟩
def laws_toIntS.s0 (_k : Nat) (rec0 : (Int × (List (Int)) × (List (Int))) → Option ((List (Int)))) (p : (Int × (List (Int)) × (List (Int)))) : Option ((List (Int))) :=
  (bif (decide (p.1 < (p.2.1.length : Int))) then (bif ((decide ((0 : Int) ≤ p.1)) && (decide (p.1 < (p.2.1.length : Int)))) then (p.2.1[p.1.toNat]?).bind fun x1 => (bif ((decide ((0 : Int) ≤ p.1)) && (decide (p.1 < (p.2.2.length : Int)))) then (p.2.2[p.1.toNat]?).bind fun x2 => rec0 ((IntKind.i64.wrap (p.1 + (1 : Int))), p.2.1, (p.2.2.set p.1.toNat x1)) else none) else none) else some p.2.2)
def laws_toIntS.l0 (k : Nat) : Nat → (Int × (List (Int)) × (List (Int))) → Option ((List (Int)))
  | 0 => fun _ => none
  | j + 1 => laws_toIntS.s0 k (laws_toIntS.l0 k j)
def laws_toIntS.S0 (p : (Int × (List (Int)) × (List (Int)))) : DS := ⟨tl [(0, .at (.whole 0)), (3, .at (.whole 352)), (4, .at (.int .i64 p.1))], lookO [(0, .row 3 (.int .i64) false p.2.1), (352, .row 3 (.int .i64) true p.2.2)]⟩
noncomputable def laws_toIntS.D0 (k : Nat) (j : Nat) (p : (Int × (List (Int)) × (List (Int)))) : Option ((List (Int))) := loopK (normK [0] (laws_toIntS.h 0)) (runK laws_toIntS.x k 0 [0] laws_toIntS.h 0 (sub laws_toIntS.c [1, 1, 0, 1, 0, 0])) j (laws_toIntS.S0 p) (kBlk 0 (kSeq (runK laws_toIntS.x k 0 [0] laws_toIntS.h 0 (sub laws_toIntS.c [1, 1, 1])) (fin tt laws_toIntS.ps laws_toIntS.rs laws_toIntS.vs (.sl 3 (.int .i64)))))
theorem laws_toIntS.D0_eq (k : Nat) : ∀ j, laws_toIntS.D0 k j = laws_toIntS.l0 k j := by
  intro j
  induction j with
  | zero => rfl
  | succ j ih =>
    show _ = laws_toIntS.s0 k (laws_toIntS.l0 k j)
    rw [← ih]
    funext p
    kernel_rfl
def laws_toIntS.f (k : Nat) (a0 : List (Int)) : Option ((List (Int))) :=
  (bif ((decide ((0 : Int) ≤ (a0.length : Int))) && decide ((a0.length : Int) * 8 ≤ 140737488355328)) then laws_toIntS.l0 k k ((0 : Int), a0, (List.replicate (a0.length : Int).toNat (0 : Int))) else none)
def laws_toIntS.K : Ctr := ⟨laws_toIntS.ps, laws_toIntS.rs, false, (.sl 3 (.int .i64)), (.sl 3 (.int .i64)), fun k x => laws_toIntS.f k x⟩
theorem laws_toIntS.eq (k : Nat) (x : (laws_toIntS.K.I).den) : func laws_toIntS.x laws_toIntS.h laws_toIntS.ps laws_toIntS.rs laws_toIntS.vs laws_toIntS.K.I laws_toIntS.K.O laws_toIntS.c k x = laws_toIntS.K.run k x := by
  show _ = laws_toIntS.f k x
  unfold laws_toIntS.f
  rw [← laws_toIntS.D0_eq k k]
  kernel_rfl
theorem laws_toIntS.ok : CtrOk Tryz.prog 13 laws_toIntS.K :=
  CtrOk.of (fn := Tryz.f13) (cd := laws_toIntS.c) (cx := laws_toIntS.x) (hs := laws_toIntS.h) (by kernel_rfl) (by kernel_rfl) (by kernel_rfl) (by kernel_rfl) tt_ok (envOk_nil) (by kernel_rfl) (by kernel_rfl) (by kernel_rfl) (by kernel_rfl) fun k x r h => (laws_toIntS.eq k x).trans h
/-! spec.l04First -/
noncomputable def spec_l04First.c : Code := bodyOf Tryz.f91
def spec_l04First.h : Nat → Hint := look ⟨[], [], []⟩ []
def spec_l04First.ps : List PK := []
def spec_l04First.rs : List RK := [.one true]
def spec_l04First.vs : List ResultVar := [.tmp 0]
def spec_l04First.x : Cx := ⟨tt, look none []⟩
def spec_l04First.f (_k : Nat) : Option ((List (Int))) :=
  some [(1779033703 : Int), (3144134277 : Int), (1013904242 : Int), (2773480762 : Int), (1359893119 : Int), (2600822924 : Int), (528734635 : Int), (1541459225 : Int)]
def spec_l04First.K : Ctr := ⟨spec_l04First.ps, spec_l04First.rs, false, .unit, (.sl 121 (.int .u32)), fun k _ => spec_l04First.f k⟩
theorem spec_l04First.eq (k : Nat) (x : (spec_l04First.K.I).den) : func spec_l04First.x spec_l04First.h spec_l04First.ps spec_l04First.rs spec_l04First.vs spec_l04First.K.I spec_l04First.K.O spec_l04First.c k x = spec_l04First.K.run k x := by
  show _ = spec_l04First.f k
  kernel_rfl
theorem spec_l04First.ok : CtrOk Tryz.prog 91 spec_l04First.K :=
  CtrOk.of (fn := Tryz.f91) (cd := spec_l04First.c) (cx := spec_l04First.x) (hs := spec_l04First.h) (by kernel_rfl) (by kernel_rfl) (by kernel_rfl) (by kernel_rfl) tt_ok (envOk_nil) (by kernel_rfl) (by kernel_rfl) (by kernel_rfl) (by kernel_rfl) fun k x r h => (spec_l04First.eq k x).trans h
/-! spec.l04Bytes -/
noncomputable def spec_l04Bytes.c : Code := bodyOf Tryz.f90
def spec_l04Bytes.h : Nat → Hint := look ⟨[], [], []⟩ [(0, ⟨[0, 3, 4], [], [(.t 3, 576, 5, (.int .u8))]⟩)]
def spec_l04Bytes.ps : List PK := [.one]
def spec_l04Bytes.rs : List RK := [.one true]
def spec_l04Bytes.vs : List ResultVar := [.tmp 2]
def spec_l04Bytes.x : Cx := ⟨tt, look none []⟩
def spec_l04Bytes.s0 (_k : Nat) (rec0 : (Int × (List (Int)) × (List (Int))) → Option (ByteArray)) (p : (Int × (List (Int)) × (List (Int)))) : Option (ByteArray) :=
  (bif (decide (p.1 < (p.2.1.length : Int))) then (bif ((decide ((0 : Int) ≤ p.1)) && (decide (p.1 < (p.2.1.length : Int)))) then (p.2.1[p.1.toNat]?).bind fun x1 => (bif decide ((p.2.2.length + [(IntKind.u8.wrap (IntKind.u32.wrap (x1.tdiv (16777216 : Int)))), (IntKind.u8.wrap ((IntKind.u32.wrap (x1.tdiv (65536 : Int))).tmod (256 : Int))), (IntKind.u8.wrap ((IntKind.u32.wrap (x1.tdiv (256 : Int))).tmod (256 : Int))), (IntKind.u8.wrap (x1.tmod (256 : Int)))].length) * 1 ≤ 140737488355328) then rec0 ((IntKind.i64.wrap (p.1 + (1 : Int))), p.2.1, (p.2.2 ++ [(IntKind.u8.wrap (IntKind.u32.wrap (x1.tdiv (16777216 : Int)))), (IntKind.u8.wrap ((IntKind.u32.wrap (x1.tdiv (65536 : Int))).tmod (256 : Int))), (IntKind.u8.wrap ((IntKind.u32.wrap (x1.tdiv (256 : Int))).tmod (256 : Int))), (IntKind.u8.wrap (x1.tmod (256 : Int)))])) else none) else none) else some (strOfNums p.2.2))
def spec_l04Bytes.l0 (k : Nat) : Nat → (Int × (List (Int)) × (List (Int))) → Option (ByteArray)
  | 0 => fun _ => none
  | j + 1 => spec_l04Bytes.s0 k (spec_l04Bytes.l0 k j)
def spec_l04Bytes.S0 (p : (Int × (List (Int)) × (List (Int)))) : DS := ⟨tl [(0, .at (.whole 0)), (3, .at (.whole 576)), (4, .at (.int .i64 p.1))], lookO [(0, .row 121 (.int .u32) false p.2.1), (576, .row 5 (.int .u8) true p.2.2)]⟩
noncomputable def spec_l04Bytes.D0 (k : Nat) (j : Nat) (p : (Int × (List (Int)) × (List (Int)))) : Option (ByteArray) := loopK (normK [0] (spec_l04Bytes.h 0)) (runK spec_l04Bytes.x k 0 [0] spec_l04Bytes.h 0 (sub spec_l04Bytes.c [1, 1, 0, 1, 0, 0])) j (spec_l04Bytes.S0 p) (kBlk 0 (kSeq (runK spec_l04Bytes.x k 0 [0] spec_l04Bytes.h 0 (sub spec_l04Bytes.c [1, 1, 1])) (fin tt spec_l04Bytes.ps spec_l04Bytes.rs spec_l04Bytes.vs .str)))
theorem spec_l04Bytes.D0_eq (k : Nat) : ∀ j, spec_l04Bytes.D0 k j = spec_l04Bytes.l0 k j := by
  intro j
  induction j with
  | zero => rfl
  | succ j ih =>
    show _ = spec_l04Bytes.s0 k (spec_l04Bytes.l0 k j)
    rw [← ih]
    funext p
    kernel_rfl
def spec_l04Bytes.f (k : Nat) (a0 : List (Int)) : Option (ByteArray) :=
  spec_l04Bytes.l0 k k ((0 : Int), a0, ([] : List (Int)))
def spec_l04Bytes.K : Ctr := ⟨spec_l04Bytes.ps, spec_l04Bytes.rs, false, (.sl 121 (.int .u32)), .str, fun k x => spec_l04Bytes.f k x⟩
theorem spec_l04Bytes.eq (k : Nat) (x : (spec_l04Bytes.K.I).den) : func spec_l04Bytes.x spec_l04Bytes.h spec_l04Bytes.ps spec_l04Bytes.rs spec_l04Bytes.vs spec_l04Bytes.K.I spec_l04Bytes.K.O spec_l04Bytes.c k x = spec_l04Bytes.K.run k x := by
  show _ = spec_l04Bytes.f k x
  unfold spec_l04Bytes.f
  rw [← spec_l04Bytes.D0_eq k k]
  kernel_rfl
theorem spec_l04Bytes.ok : CtrOk Tryz.prog 90 spec_l04Bytes.K :=
  CtrOk.of (fn := Tryz.f90) (cd := spec_l04Bytes.c) (cx := spec_l04Bytes.x) (hs := spec_l04Bytes.h) (by kernel_rfl) (by kernel_rfl) (by kernel_rfl) (by kernel_rfl) tt_ok (envOk_nil) (by kernel_rfl) (by kernel_rfl) (by kernel_rfl) (by kernel_rfl) fun k x r h => (spec_l04Bytes.eq k x).trans h
/-! spec.HasherNew -/
noncomputable def spec_HasherNew.c : Code := bodyOf Tryz.f72
def spec_HasherNew.h : Nat → Hint := look ⟨[], [], []⟩ []
def spec_HasherNew.ps : List PK := []
def spec_HasherNew.rs : List RK := [.agg 3 true]
def spec_HasherNew.vs : List ResultVar := [.cell 0 91]
def spec_HasherNew.x : Cx := ⟨tt, look none [(91, some spec_l04First.K), (90, some spec_l04Bytes.K)]⟩
def spec_HasherNew.f (k : Nat) : Option (ByteArray × ByteArray × Int) :=
  (spec_l04First.f k).bind fun r1 => (spec_l04Bytes.f k r1).bind fun r2 => some (r2, ByteArray.empty, (0 : Int))
def spec_HasherNew.K : Ctr := ⟨spec_HasherNew.ps, spec_HasherNew.rs, false, .unit, (.two .str (.two .str (.int .i64))), fun k _ => spec_HasherNew.f k⟩
theorem spec_HasherNew.eq (k : Nat) (x : (spec_HasherNew.K.I).den) : func spec_HasherNew.x spec_HasherNew.h spec_HasherNew.ps spec_HasherNew.rs spec_HasherNew.vs spec_HasherNew.K.I spec_HasherNew.K.O spec_HasherNew.c k x = spec_HasherNew.K.run k x := by
  show _ = spec_HasherNew.f k
  kernel_rfl
theorem spec_HasherNew.ok : CtrOk Tryz.prog 72 spec_HasherNew.K :=
  CtrOk.of (fn := Tryz.f72) (cd := spec_HasherNew.c) (cx := spec_HasherNew.x) (hs := spec_HasherNew.h) (by kernel_rfl) (by kernel_rfl) (by kernel_rfl) (by kernel_rfl) tt_ok (envOk_cons spec_l04First.ok (envOk_cons spec_l04Bytes.ok (envOk_nil))) (by kernel_rfl) (by kernel_rfl) (by kernel_rfl) (by kernel_rfl) fun k x r h => (spec_HasherNew.eq k x).trans h
/-! spec.l01In -/
noncomputable def spec_l01In.c : Code := bodyOf Tryz.f52
def spec_l01In.h : Nat → Hint := look ⟨[], [], []⟩ []
def spec_l01In.ps : List PK := [.one, .one, .one]
def spec_l01In.rs : List RK := [.one true]
def spec_l01In.vs : List ResultVar := [.tmp 6]
def spec_l01In.x : Cx := ⟨tt, look none []⟩
def spec_l01In.f (_k : Nat) (a0 : Int) (a1 : Int) (a2 : Int) : Option (Bool) :=
  (bif (decide (a0 ≥ a1)) then some (decide (a0 ≤ a2)) else some false)
def spec_l01In.K : Ctr := ⟨spec_l01In.ps, spec_l01In.rs, false, (.two (.int .i64) (.two (.int .i64) (.int .i64))), .bool, fun k x => spec_l01In.f k x.1 x.2.1 x.2.2⟩
theorem spec_l01In.eq (k : Nat) (x : (spec_l01In.K.I).den) : func spec_l01In.x spec_l01In.h spec_l01In.ps spec_l01In.rs spec_l01In.vs spec_l01In.K.I spec_l01In.K.O spec_l01In.c k x = spec_l01In.K.run k x := by
  show _ = spec_l01In.f k x.1 x.2.1 x.2.2
  kernel_rfl
theorem spec_l01In.ok : CtrOk Tryz.prog 52 spec_l01In.K :=
  CtrOk.of (fn := Tryz.f52) (cd := spec_l01In.c) (cx := spec_l01In.x) (hs := spec_l01In.h) (by kernel_rfl) (by kernel_rfl) (by kernel_rfl) (by kernel_rfl) tt_ok (envOk_nil) (by kernel_rfl) (by kernel_rfl) (by kernel_rfl) (by kernel_rfl) fun k x r h => (spec_l01In.eq k x).trans h
/-! spec.HasherOk -/
noncomputable def spec_HasherOk.c : Code := bodyOf Tryz.f86
def spec_HasherOk.h : Nat → Hint := look ⟨[], [], []⟩ []
def spec_HasherOk.ps : List PK := [.agg 3]
def spec_HasherOk.rs : List RK := [.one true]
def spec_HasherOk.vs : List ResultVar := [.tmp 2]
def spec_HasherOk.x : Cx := ⟨tt, look none [(52, some spec_l01In.K)]⟩
def spec_HasherOk.f (k : Nat) (a0_0 : ByteArray) (a0_1 : ByteArray) (a0_2 : Int) : Option (Bool) :=
  (bif ((a0_0.size : Int) == (32 : Int)) then (bif (decide ((a0_1.size : Int) < (64 : Int))) then (spec_l01In.f k a0_2 (0 : Int) (1000000000 : Int)).bind fun r1 => (bif r1 then some ((a0_2.tmod (64 : Int)) == (a0_1.size : Int)) else some false) else some false) else some false)
def spec_HasherOk.K : Ctr := ⟨spec_HasherOk.ps, spec_HasherOk.rs, false, (.two .str (.two .str (.int .i64))), .bool, fun k x => spec_HasherOk.f k x.1 x.2.1 x.2.2⟩
theorem spec_HasherOk.eq (k : Nat) (x : (spec_HasherOk.K.I).den) : func spec_HasherOk.x spec_HasherOk.h spec_HasherOk.ps spec_HasherOk.rs spec_HasherOk.vs spec_HasherOk.K.I spec_HasherOk.K.O spec_HasherOk.c k x = spec_HasherOk.K.run k x := by
  show _ = spec_HasherOk.f k x.1 x.2.1 x.2.2
  kernel_rfl
theorem spec_HasherOk.ok : CtrOk Tryz.prog 86 spec_HasherOk.K :=
  CtrOk.of (fn := Tryz.f86) (cd := spec_HasherOk.c) (cx := spec_HasherOk.x) (hs := spec_HasherOk.h) (by kernel_rfl) (by kernel_rfl) (by kernel_rfl) (by kernel_rfl) tt_ok (envOk_cons spec_l01In.ok (envOk_nil)) (by kernel_rfl) (by kernel_rfl) (by kernel_rfl) (by kernel_rfl) fun k x r h => (spec_HasherOk.eq k x).trans h
/-! spec.l04Word -/
noncomputable def spec_l04Word.c : Code := bodyOf Tryz.f104
def spec_l04Word.h : Nat → Hint := look ⟨[], [], []⟩ []
def spec_l04Word.ps : List PK := [.one, .one]
def spec_l04Word.rs : List RK := [.one true]
def spec_l04Word.vs : List ResultVar := [.tmp 4]
def spec_l04Word.x : Cx := ⟨tt, look none []⟩
def spec_l04Word.f (_k : Nat) (a0 : ByteArray) (a1 : Int) : Option (Int) :=
  (bif (decide ((0 : Int) ≤ a1)) then (a0[a1.toNat]?).bind fun c1 => (bif (decide ((0 : Int) ≤ (IntKind.i64.wrap (a1 + (1 : Int))))) then (a0[(IntKind.i64.wrap (a1 + (1 : Int))).toNat]?).bind fun c2 => (bif (decide ((0 : Int) ≤ (IntKind.i64.wrap (a1 + (2 : Int))))) then (a0[(IntKind.i64.wrap (a1 + (2 : Int))).toNat]?).bind fun c3 => (bif (decide ((0 : Int) ≤ (IntKind.i64.wrap (a1 + (3 : Int))))) then (a0[(IntKind.i64.wrap (a1 + (3 : Int))).toNat]?).bind fun c4 => some (IntKind.u32.wrap ((IntKind.u32.wrap ((IntKind.u32.wrap ((IntKind.u32.wrap ((IntKind.u32.wrap (c1.toNat : Int)) * (16777216 : Int))) + (IntKind.u32.wrap ((IntKind.u32.wrap (c2.toNat : Int)) * (65536 : Int))))) + (IntKind.u32.wrap ((IntKind.u32.wrap (c3.toNat : Int)) * (256 : Int))))) + (IntKind.u32.wrap (c4.toNat : Int)))) else none) else none) else none) else none)
def spec_l04Word.K : Ctr := ⟨spec_l04Word.ps, spec_l04Word.rs, false, (.two .str (.int .i64)), (.int .u32), fun k x => spec_l04Word.f k x.1 x.2⟩
theorem spec_l04Word.eq (k : Nat) (x : (spec_l04Word.K.I).den) : func spec_l04Word.x spec_l04Word.h spec_l04Word.ps spec_l04Word.rs spec_l04Word.vs spec_l04Word.K.I spec_l04Word.K.O spec_l04Word.c k x = spec_l04Word.K.run k x := by
  show _ = spec_l04Word.f k x.1 x.2
  kernel_rfl
theorem spec_l04Word.ok : CtrOk Tryz.prog 104 spec_l04Word.K :=
  CtrOk.of (fn := Tryz.f104) (cd := spec_l04Word.c) (cx := spec_l04Word.x) (hs := spec_l04Word.h) (by kernel_rfl) (by kernel_rfl) (by kernel_rfl) (by kernel_rfl) tt_ok (envOk_nil) (by kernel_rfl) (by kernel_rfl) (by kernel_rfl) (by kernel_rfl) fun k x r h => (spec_l04Word.eq k x).trans h
/-! spec.l04Words -/
noncomputable def spec_l04Words.c : Code := bodyOf Tryz.f87
def spec_l04Words.h : Nat → Hint := look ⟨[], [], []⟩ [(0, ⟨[0, 3, 4], [], [(.t 3, 320, 121, (.int .u32))]⟩)]
def spec_l04Words.ps : List PK := [.one]
def spec_l04Words.rs : List RK := [.one true]
def spec_l04Words.vs : List ResultVar := [.tmp 2]
def spec_l04Words.x : Cx := ⟨tt, look none [(104, some spec_l04Word.K)]⟩
def spec_l04Words.s0 (k : Nat) (rec0 : (ByteArray × Int × (List (Int))) → Option ((List (Int)))) (p : (ByteArray × Int × (List (Int)))) : Option ((List (Int))) :=
  (bif (decide ((IntKind.i64.wrap (p.2.1 + (4 : Int))) ≤ (p.1.size : Int))) then (spec_l04Word.f k p.1 p.2.1).bind fun r1 => (bif decide ((p.2.2.length + [r1].length) * 4 ≤ 140737488355328) then rec0 (p.1, (IntKind.i64.wrap (p.2.1 + (4 : Int))), (p.2.2 ++ [r1])) else none) else some p.2.2)
def spec_l04Words.l0 (k : Nat) : Nat → (ByteArray × Int × (List (Int))) → Option ((List (Int)))
  | 0 => fun _ => none
  | j + 1 => spec_l04Words.s0 k (spec_l04Words.l0 k j)
def spec_l04Words.S0 (p : (ByteArray × Int × (List (Int)))) : DS := ⟨tl [(0, .at (.str p.1)), (3, .at (.whole 320)), (4, .at (.int .i64 p.2.1))], lookO [(320, .row 121 (.int .u32) true p.2.2)]⟩
noncomputable def spec_l04Words.D0 (k : Nat) (j : Nat) (p : (ByteArray × Int × (List (Int)))) : Option ((List (Int))) := loopK (normK [] (spec_l04Words.h 0)) (runK spec_l04Words.x k 0 [] spec_l04Words.h 0 (sub spec_l04Words.c [1, 1, 0, 1, 0, 0])) j (spec_l04Words.S0 p) (kBlk 0 (kSeq (runK spec_l04Words.x k 0 [] spec_l04Words.h 0 (sub spec_l04Words.c [1, 1, 1])) (fin tt spec_l04Words.ps spec_l04Words.rs spec_l04Words.vs (.sl 121 (.int .u32)))))
theorem spec_l04Words.D0_eq (k : Nat) : ∀ j, spec_l04Words.D0 k j = spec_l04Words.l0 k j := by
  intro j
  induction j with
  | zero => rfl
  | succ j ih =>
    show _ = spec_l04Words.s0 k (spec_l04Words.l0 k j)
    rw [← ih]
    funext p
    kernel_rfl
def spec_l04Words.f (k : Nat) (a0 : ByteArray) : Option ((List (Int))) :=
  spec_l04Words.l0 k k (a0, (0 : Int), ([] : List (Int)))
def spec_l04Words.K : Ctr := ⟨spec_l04Words.ps, spec_l04Words.rs, false, .str, (.sl 121 (.int .u32)), fun k x => spec_l04Words.f k x⟩
theorem spec_l04Words.eq (k : Nat) (x : (spec_l04Words.K.I).den) : func spec_l04Words.x spec_l04Words.h spec_l04Words.ps spec_l04Words.rs spec_l04Words.vs spec_l04Words.K.I spec_l04Words.K.O spec_l04Words.c k x = spec_l04Words.K.run k x := by
  show _ = spec_l04Words.f k x
  unfold spec_l04Words.f
  rw [← spec_l04Words.D0_eq k k]
  kernel_rfl
theorem spec_l04Words.ok : CtrOk Tryz.prog 87 spec_l04Words.K :=
  CtrOk.of (fn := Tryz.f87) (cd := spec_l04Words.c) (cx := spec_l04Words.x) (hs := spec_l04Words.h) (by kernel_rfl) (by kernel_rfl) (by kernel_rfl) (by kernel_rfl) tt_ok (envOk_cons spec_l04Word.ok (envOk_nil)) (by kernel_rfl) (by kernel_rfl) (by kernel_rfl) (by kernel_rfl) fun k x r h => (spec_l04Words.eq k x).trans h
/-! spec.l04K -/
noncomputable def spec_l04K.c : Code := bodyOf Tryz.f88
def spec_l04K.h : Nat → Hint := look ⟨[], [], []⟩ []
def spec_l04K.ps : List PK := []
def spec_l04K.rs : List RK := [.one true]
def spec_l04K.vs : List ResultVar := [.tmp 0]
def spec_l04K.x : Cx := ⟨tt, look none []⟩
def spec_l04K.f (_k : Nat) : Option ((List (Int))) :=
  some [(1116352408 : Int), (1899447441 : Int), (3049323471 : Int), (3921009573 : Int), (961987163 : Int), (1508970993 : Int), (2453635748 : Int), (2870763221 : Int), (3624381080 : Int), (310598401 : Int), (607225278 : Int), (1426881987 : Int), (1925078388 : Int), (2162078206 : Int), (2614888103 : Int), (3248222580 : Int), (3835390401 : Int), (4022224774 : Int), (264347078 : Int), (604807628 : Int), (770255983 : Int), (1249150122 : Int), (1555081692 : Int), (1996064986 : Int), (2554220882 : Int), (2821834349 : Int), (2952996808 : Int), (3210313671 : Int), (3336571891 : Int), (3584528711 : Int), (113926993 : Int), (338241895 : Int), (666307205 : Int), (773529912 : Int), (1294757372 : Int), (1396182291 : Int), (1695183700 : Int), (1986661051 : Int), (2177026350 : Int), (2456956037 : Int), (2730485921 : Int), (2820302411 : Int), (3259730800 : Int), (3345764771 : Int), (3516065817 : Int), (3600352804 : Int), (4094571909 : Int), (275423344 : Int), (430227734 : Int), (506948616 : Int), (659060556 : Int), (883997877 : Int), (958139571 : Int), (1322822218 : Int), (1537002063 : Int), (1747873779 : Int), (1955562222 : Int), (2024104815 : Int), (2227730452 : Int), (2361852424 : Int), (2428436474 : Int), (2756734187 : Int), (3204031479 : Int), (3329325298 : Int)]
def spec_l04K.K : Ctr := ⟨spec_l04K.ps, spec_l04K.rs, false, .unit, (.sl 121 (.int .u32)), fun k _ => spec_l04K.f k⟩
theorem spec_l04K.eq (k : Nat) (x : (spec_l04K.K.I).den) : func spec_l04K.x spec_l04K.h spec_l04K.ps spec_l04K.rs spec_l04K.vs spec_l04K.K.I spec_l04K.K.O spec_l04K.c k x = spec_l04K.K.run k x := by
  show _ = spec_l04K.f k
  kernel_rfl
theorem spec_l04K.ok : CtrOk Tryz.prog 88 spec_l04K.K :=
  CtrOk.of (fn := Tryz.f88) (cd := spec_l04K.c) (cx := spec_l04K.x) (hs := spec_l04K.h) (by kernel_rfl) (by kernel_rfl) (by kernel_rfl) (by kernel_rfl) tt_ok (envOk_nil) (by kernel_rfl) (by kernel_rfl) (by kernel_rfl) (by kernel_rfl) fun k x r h => (spec_l04K.eq k x).trans h
/-! spec.l04Right -/
noncomputable def spec_l04Right.c : Code := bodyOf Tryz.f115
def spec_l04Right.h : Nat → Hint := look ⟨[], [], []⟩ []
def spec_l04Right.ps : List PK := [.one, .one, .one]
def spec_l04Right.rs : List RK := [.one true]
def spec_l04Right.vs : List ResultVar := [.tmp 6]
def spec_l04Right.x : Cx := ⟨tt, look none []⟩
def spec_l04Right.f (_k : Nat) (a0 : Int) (a1 : Int) (a2 : Int) : Option (Int) :=
  (bif (a1 == 0) then none else (bif (a1 == 0) then none else some (IntKind.u32.wrap ((IntKind.u32.wrap (a0.tdiv a1)) + (IntKind.u32.wrap ((a0.tmod a1) * a2))))))
def spec_l04Right.K : Ctr := ⟨spec_l04Right.ps, spec_l04Right.rs, false, (.two (.int .u32) (.two (.int .u32) (.int .u32))), (.int .u32), fun k x => spec_l04Right.f k x.1 x.2.1 x.2.2⟩
theorem spec_l04Right.eq (k : Nat) (x : (spec_l04Right.K.I).den) : func spec_l04Right.x spec_l04Right.h spec_l04Right.ps spec_l04Right.rs spec_l04Right.vs spec_l04Right.K.I spec_l04Right.K.O spec_l04Right.c k x = spec_l04Right.K.run k x := by
  show _ = spec_l04Right.f k x.1 x.2.1 x.2.2
  kernel_rfl
theorem spec_l04Right.ok : CtrOk Tryz.prog 115 spec_l04Right.K :=
  CtrOk.of (fn := Tryz.f115) (cd := spec_l04Right.c) (cx := spec_l04Right.x) (hs := spec_l04Right.h) (by kernel_rfl) (by kernel_rfl) (by kernel_rfl) (by kernel_rfl) tt_ok (envOk_nil) (by kernel_rfl) (by kernel_rfl) (by kernel_rfl) (by kernel_rfl) fun k x r h => (spec_l04Right.eq k x).trans h
/-! spec.l04S -/
noncomputable def spec_l04S.c : Code := bodyOf Tryz.f105
def spec_l04S.h : Nat → Hint := look ⟨[], [], []⟩ []
def spec_l04S.ps : List PK := [.one, .one, .one, .one, .one]
def spec_l04S.rs : List RK := [.one true]
def spec_l04S.vs : List ResultVar := [.tmp 10]
def spec_l04S.x : Cx := ⟨tt, look none [(115, some spec_l04Right.K)]⟩
def spec_l04S.f (k : Nat) (a0 : Int) (a1 : Int) (a2 : Int) (a3 : Int) (a4 : Bool) : Option (Int) :=
  (bif (a1 == 0) then none else (spec_l04Right.f k a0 a1 (IntKind.u32.wrap ((IntKind.u32.wrap ((2147483648 : Int).tdiv a1)) * (2 : Int)))).bind fun r1 => (bif (a2 == 0) then none else (spec_l04Right.f k a0 a2 (IntKind.u32.wrap ((IntKind.u32.wrap ((2147483648 : Int).tdiv a2)) * (2 : Int)))).bind fun r2 => (bif (a3 == 0) then none else (bif (!a4) then (bif (a3 == 0) then none else (spec_l04Right.f k a0 a3 (IntKind.u32.wrap ((IntKind.u32.wrap ((2147483648 : Int).tdiv a3)) * (2 : Int)))).bind fun r3 => some (IntKind.u32.wrap (((BitVec.ofInt IntKind.u32.bits (IntKind.u32.wrap (((BitVec.ofInt IntKind.u32.bits r1) ^^^ (BitVec.ofInt IntKind.u32.bits r2)).toNat : Int))) ^^^ (BitVec.ofInt IntKind.u32.bits r3)).toNat : Int))) else some (IntKind.u32.wrap (((BitVec.ofInt IntKind.u32.bits (IntKind.u32.wrap (((BitVec.ofInt IntKind.u32.bits r1) ^^^ (BitVec.ofInt IntKind.u32.bits r2)).toNat : Int))) ^^^ (BitVec.ofInt IntKind.u32.bits (IntKind.u32.wrap (a0.tdiv a3)))).toNat : Int))))))
def spec_l04S.K : Ctr := ⟨spec_l04S.ps, spec_l04S.rs, false, (.two (.int .u32) (.two (.int .u32) (.two (.int .u32) (.two (.int .u32) .bool)))), (.int .u32), fun k x => spec_l04S.f k x.1 x.2.1 x.2.2.1 x.2.2.2.1 x.2.2.2.2⟩
theorem spec_l04S.eq (k : Nat) (x : (spec_l04S.K.I).den) : func spec_l04S.x spec_l04S.h spec_l04S.ps spec_l04S.rs spec_l04S.vs spec_l04S.K.I spec_l04S.K.O spec_l04S.c k x = spec_l04S.K.run k x := by
  show _ = spec_l04S.f k x.1 x.2.1 x.2.2.1 x.2.2.2.1 x.2.2.2.2
  kernel_rfl
theorem spec_l04S.ok : CtrOk Tryz.prog 105 spec_l04S.K :=
  CtrOk.of (fn := Tryz.f105) (cd := spec_l04S.c) (cx := spec_l04S.x) (hs := spec_l04S.h) (by kernel_rfl) (by kernel_rfl) (by kernel_rfl) (by kernel_rfl) tt_ok (envOk_cons spec_l04Right.ok (envOk_nil)) (by kernel_rfl) (by kernel_rfl) (by kernel_rfl) (by kernel_rfl) fun k x r h => (spec_l04S.eq k x).trans h
end Go.Proofs.YtpinehfjimphmaaGreat.DI
