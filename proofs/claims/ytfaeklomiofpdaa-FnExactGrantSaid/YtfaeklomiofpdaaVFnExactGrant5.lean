/- FnExactGrant: functions as plain Lean, in the machine of values. -/
import Derived.Test.YtfaeklomiofpdaaVFnExactGrant4
namespace Go.Proofs.Ytfaeklomiofpdaa.DI
open Go
set_option linter.unusedVariables false
/-! laws.eqFixed -/
noncomputable def laws_eqFixed.c : Code := bodyOf Try.f135
def laws_eqFixed.h : Nat → Hint := look ⟨[], [], []⟩ []
def laws_eqFixed.ps : List PK := [.agg 2, .agg 2]
def laws_eqFixed.rs : List RK := [.one true]
def laws_eqFixed.vs : List ResultVar := [.tmp 4]
def laws_eqFixed.x : Cx := ⟨tt, look none []⟩
def laws_eqFixed.f (_k : Nat) (a0_0 : Int) (a0_1 : Int) (a1_0 : Int) (a1_1 : Int) : Option (Bool) :=
  (bif (a0_0 != a1_0) then some false else (bif (a0_1 != a1_1) then some false else some true))
def laws_eqFixed.K : Ctr := ⟨laws_eqFixed.ps, laws_eqFixed.rs, false, (.two (.int .i64) (.two (.int .i64) (.two (.int .i64) (.int .i64)))), .bool, fun k x => laws_eqFixed.f k x.1 x.2.1 x.2.2.1 x.2.2.2⟩
theorem laws_eqFixed.eq (k : Nat) (x : (laws_eqFixed.K.I).den) : func laws_eqFixed.x laws_eqFixed.h laws_eqFixed.ps laws_eqFixed.rs laws_eqFixed.vs laws_eqFixed.K.I laws_eqFixed.K.O laws_eqFixed.c k x = laws_eqFixed.K.run k x := by
  show _ = laws_eqFixed.f k x.1 x.2.1 x.2.2.1 x.2.2.2
  kernel_rfl
theorem laws_eqFixed.ok : CtrOk Try.prog 135 laws_eqFixed.K :=
  CtrOk.of (fn := Try.f135) (cd := laws_eqFixed.c) (cx := laws_eqFixed.x) (hs := laws_eqFixed.h) (by kernel_rfl) (by kernel_rfl) (by kernel_rfl) (by kernel_rfl) tt_ok (envOk_nil) (by kernel_rfl) (by kernel_rfl) (by kernel_rfl) (by kernel_rfl) fun k x r h => (laws_eqFixed.eq k x).trans h
/-! laws.eqFixedS -/
noncomputable def laws_eqFixedS.c : Code := bodyOf Try.f82
def laws_eqFixedS.h : Nat → Hint := look ⟨[], [], []⟩ [(0, ⟨[0, 1, 5], [], []⟩)]
def laws_eqFixedS.ps : List PK := [.one, .one]
def laws_eqFixedS.rs : List RK := [.one true]
def laws_eqFixedS.vs : List ResultVar := [.tmp 4]
def laws_eqFixedS.x : Cx := ⟨tt, look none [(135, some laws_eqFixed.K)]⟩
def laws_eqFixedS.s0 (k : Nat) (rec0 : (Int × (List (Int × Int)) × (List (Int × Int))) → Option (Bool)) (p : (Int × (List (Int × Int)) × (List (Int × Int)))) : Option (Bool) :=
  (bif (decide (p.1 < (p.2.1.length : Int))) then (bif ((decide ((0 : Int) ≤ p.1)) && (decide (p.1 < (p.2.1.length : Int)))) then (p.2.1[p.1.toNat]?).bind fun x1 => (bif ((decide ((0 : Int) ≤ p.1)) && (decide (p.1 < (p.2.2.length : Int)))) then (p.2.2[p.1.toNat]?).bind fun x2 => (laws_eqFixed.f k x1.1 x1.2 x2.1 x2.2).bind fun r3 => (bif (!r3) then some false else rec0 ((IntKind.i64.wrap (p.1 + (1 : Int))), p.2.1, p.2.2)) else none) else none) else some true)
def laws_eqFixedS.l0 (k : Nat) : Nat → (Int × (List (Int × Int)) × (List (Int × Int))) → Option (Bool)
  | 0 => fun _ => none
  | j + 1 => laws_eqFixedS.s0 k (laws_eqFixedS.l0 k j)
def laws_eqFixedS.S0 (p : (Int × (List (Int × Int)) × (List (Int × Int)))) : DS := ⟨tl [(0, .at (.whole 0)), (1, .at (.whole 16)), (5, .at (.int .i64 p.1))], lookO [(0, .row 150 (.two (.int .i64) (.int .i64)) false p.2.1), (16, .row 150 (.two (.int .i64) (.int .i64)) false p.2.2)]⟩
noncomputable def laws_eqFixedS.D0 (k : Nat) (j : Nat) (p : (Int × (List (Int × Int)) × (List (Int × Int)))) : Option (Bool) := loopK (norm [0, 16] (laws_eqFixedS.h 0)) (runK laws_eqFixedS.x k 0 [0, 16] laws_eqFixedS.h 0 (sub laws_eqFixedS.c [1, 1, 0, 1, 0, 0])) j (laws_eqFixedS.S0 p) (kBlk 0 (kSeq (runK laws_eqFixedS.x k 0 [0, 16] laws_eqFixedS.h 0 (sub laws_eqFixedS.c [1, 1, 1])) (fin tt laws_eqFixedS.ps laws_eqFixedS.rs laws_eqFixedS.vs .bool)))
theorem laws_eqFixedS.D0_eq (k : Nat) : ∀ j, laws_eqFixedS.D0 k j = laws_eqFixedS.l0 k j := by
  intro j
  induction j with
  | zero => rfl
  | succ j ih =>
    show _ = laws_eqFixedS.s0 k (laws_eqFixedS.l0 k j)
    rw [← ih]
    funext p
    kernel_rfl
def laws_eqFixedS.f (k : Nat) (a0 : List (Int × Int)) (a1 : List (Int × Int)) : Option (Bool) :=
  (bif ((a0.length : Int) != (a1.length : Int)) then some false else laws_eqFixedS.l0 k k ((0 : Int), a0, a1))
def laws_eqFixedS.K : Ctr := ⟨laws_eqFixedS.ps, laws_eqFixedS.rs, false, (.two (.sl 150 (.two (.int .i64) (.int .i64))) (.sl 150 (.two (.int .i64) (.int .i64)))), .bool, fun k x => laws_eqFixedS.f k x.1 x.2⟩
theorem laws_eqFixedS.eq (k : Nat) (x : (laws_eqFixedS.K.I).den) : func laws_eqFixedS.x laws_eqFixedS.h laws_eqFixedS.ps laws_eqFixedS.rs laws_eqFixedS.vs laws_eqFixedS.K.I laws_eqFixedS.K.O laws_eqFixedS.c k x = laws_eqFixedS.K.run k x := by
  show _ = laws_eqFixedS.f k x.1 x.2
  unfold laws_eqFixedS.f
  rw [← laws_eqFixedS.D0_eq k k]
  kernel_rfl
theorem laws_eqFixedS.ok : CtrOk Try.prog 82 laws_eqFixedS.K :=
  CtrOk.of (fn := Try.f82) (cd := laws_eqFixedS.c) (cx := laws_eqFixedS.x) (hs := laws_eqFixedS.h) (by kernel_rfl) (by kernel_rfl) (by kernel_rfl) (by kernel_rfl) tt_ok (envOk_cons laws_eqFixed.ok (envOk_nil)) (by kernel_rfl) (by kernel_rfl) (by kernel_rfl) (by kernel_rfl) fun k x r h => (laws_eqFixedS.eq k x).trans h
/-! laws.eqPool -/
noncomputable def laws_eqPool.c : Code := bodyOf Try.f26
def laws_eqPool.h : Nat → Hint := look ⟨[], [], []⟩ []
def laws_eqPool.ps : List PK := [.agg 4, .agg 4]
def laws_eqPool.rs : List RK := [.one true]
def laws_eqPool.vs : List ResultVar := [.tmp 4]
def laws_eqPool.x : Cx := ⟨tt, look none [(80, some laws_eqPrefix.K), (81, some laws_eqLeaseS.K), (82, some laws_eqFixedS.K)]⟩
def laws_eqPool.f (k : Nat) (a0_0 : Int) (a0_1 : Int) (a0_2 : List (Int × Int × Int)) (a0_3 : List (Int × Int)) (a1_0 : Int) (a1_1 : Int) (a1_2 : List (Int × Int × Int)) (a1_3 : List (Int × Int)) : Option (Bool) :=
  (laws_eqPrefix.f k a0_0 a0_1 a1_0 a1_1).bind fun r1 => (bif (!r1) then some false else (laws_eqLeaseS.f k a0_2 a1_2).bind fun r2 => (bif (!r2) then some false else (laws_eqFixedS.f k a0_3 a1_3).bind fun r3 => (bif (!r3) then some false else some true)))
def laws_eqPool.K : Ctr := ⟨laws_eqPool.ps, laws_eqPool.rs, false, (.two (.int .i64) (.two (.int .i64) (.two (.sl 63 (.two (.int .i64) (.two (.int .i64) (.int .i64)))) (.two (.sl 150 (.two (.int .i64) (.int .i64))) (.two (.int .i64) (.two (.int .i64) (.two (.sl 63 (.two (.int .i64) (.two (.int .i64) (.int .i64)))) (.sl 150 (.two (.int .i64) (.int .i64)))))))))), .bool, fun k x => laws_eqPool.f k x.1 x.2.1 x.2.2.1 x.2.2.2.1 x.2.2.2.2.1 x.2.2.2.2.2.1 x.2.2.2.2.2.2.1 x.2.2.2.2.2.2.2⟩
theorem laws_eqPool.eq (k : Nat) (x : (laws_eqPool.K.I).den) : func laws_eqPool.x laws_eqPool.h laws_eqPool.ps laws_eqPool.rs laws_eqPool.vs laws_eqPool.K.I laws_eqPool.K.O laws_eqPool.c k x = laws_eqPool.K.run k x := by
  show _ = laws_eqPool.f k x.1 x.2.1 x.2.2.1 x.2.2.2.1 x.2.2.2.2.1 x.2.2.2.2.2.1 x.2.2.2.2.2.2.1 x.2.2.2.2.2.2.2
  kernel_rfl
theorem laws_eqPool.ok : CtrOk Try.prog 26 laws_eqPool.K :=
  CtrOk.of (fn := Try.f26) (cd := laws_eqPool.c) (cx := laws_eqPool.x) (hs := laws_eqPool.h) (by kernel_rfl) (by kernel_rfl) (by kernel_rfl) (by kernel_rfl) tt_ok (envOk_cons laws_eqPrefix.ok (envOk_cons laws_eqLeaseS.ok (envOk_cons laws_eqFixedS.ok (envOk_nil)))) (by kernel_rfl) (by kernel_rfl) (by kernel_rfl) (by kernel_rfl) fun k x r h => (laws_eqPool.eq k x).trans h
/-! laws.markLeaseS -/
noncomputable def laws_markLeaseS.c : Code := bodyOf Try.f83
def laws_markLeaseS.h : Nat → Hint := look ⟨[], [], []⟩ [(0, ⟨[0, 1, 5], [], []⟩)]
def laws_markLeaseS.ps : List PK := [.row, .one]
def laws_markLeaseS.rs : List RK := [.one true]
def laws_markLeaseS.vs : List ResultVar := [.tmp 4]
def laws_markLeaseS.x : Cx := ⟨tt, look none []⟩
def laws_markLeaseS.s0 (_k : Nat) (rec0 : (Int × Int × (List (Int × Int × Int))) → Option (Int × (List (Int × Int × Int)))) (p : (Int × Int × (List (Int × Int × Int)))) : Option (Int × (List (Int × Int × Int))) :=
  (bif (decide (p.2.1 < (p.2.2.length : Int))) then (bif ((decide ((0 : Int) ≤ p.2.1)) && (decide (p.2.1 < (p.2.2.length : Int)))) then (p.2.2[p.2.1.toNat]?).bind fun x1 => (bif ((decide ((0 : Int) ≤ p.2.1)) && (decide (p.2.1 < ((p.2.2.set p.2.1.toNat (p.1, x1.2)).length : Int)))) then ((p.2.2.set p.2.1.toNat (p.1, x1.2))[p.2.1.toNat]?).bind fun x2 => (bif ((decide ((0 : Int) ≤ p.2.1)) && (decide (p.2.1 < (((p.2.2.set p.2.1.toNat (p.1, x1.2)).set p.2.1.toNat (x2.1, (IntKind.i64.wrap (p.1 + (1 : Int))), x2.2.2)).length : Int)))) then (((p.2.2.set p.2.1.toNat (p.1, x1.2)).set p.2.1.toNat (x2.1, (IntKind.i64.wrap (p.1 + (1 : Int))), x2.2.2))[p.2.1.toNat]?).bind fun x3 => rec0 ((IntKind.i64.wrap ((IntKind.i64.wrap ((IntKind.i64.wrap (p.1 + (1 : Int))) + (1 : Int))) + (1 : Int))), (IntKind.i64.wrap (p.2.1 + (1 : Int))), (((p.2.2.set p.2.1.toNat (p.1, x1.2)).set p.2.1.toNat (x2.1, (IntKind.i64.wrap (p.1 + (1 : Int))), x2.2.2)).set p.2.1.toNat (x3.1, x3.2.1, (IntKind.i64.wrap ((IntKind.i64.wrap (p.1 + (1 : Int))) + (1 : Int)))))) else none) else none) else none) else some (p.1, p.2.2))
def laws_markLeaseS.l0 (k : Nat) : Nat → (Int × Int × (List (Int × Int × Int))) → Option (Int × (List (Int × Int × Int)))
  | 0 => fun _ => none
  | j + 1 => laws_markLeaseS.s0 k (laws_markLeaseS.l0 k j)
def laws_markLeaseS.S0 (p : (Int × Int × (List (Int × Int × Int)))) : DS := ⟨tl [(0, .at (.whole 0)), (1, .at (.int .i64 p.1)), (5, .at (.int .i64 p.2.1))], lookO [(0, .row 63 (.two (.int .i64) (.two (.int .i64) (.int .i64))) true p.2.2)]⟩
noncomputable def laws_markLeaseS.D0 (k : Nat) (j : Nat) (p : (Int × Int × (List (Int × Int × Int)))) : Option (Int × (List (Int × Int × Int))) := loopK (norm [0] (laws_markLeaseS.h 0)) (runK laws_markLeaseS.x k 0 [0] laws_markLeaseS.h 0 (sub laws_markLeaseS.c [1, 0, 1, 0, 0])) j (laws_markLeaseS.S0 p) (kBlk 0 (kSeq (runK laws_markLeaseS.x k 0 [0] laws_markLeaseS.h 0 (sub laws_markLeaseS.c [1, 1])) (fin tt laws_markLeaseS.ps laws_markLeaseS.rs laws_markLeaseS.vs (.two (.int .i64) (.sl 63 (.two (.int .i64) (.two (.int .i64) (.int .i64))))))))
theorem laws_markLeaseS.D0_eq (k : Nat) : ∀ j, laws_markLeaseS.D0 k j = laws_markLeaseS.l0 k j := by
  intro j
  induction j with
  | zero => rfl
  | succ j ih =>
    show _ = laws_markLeaseS.s0 k (laws_markLeaseS.l0 k j)
    rw [← ih]
    funext p
    kernel_rfl
def laws_markLeaseS.f (k : Nat) (a0 : List (Int × Int × Int)) (a1 : Int) : Option (Int × (List (Int × Int × Int))) :=
  laws_markLeaseS.l0 k k (a1, (0 : Int), a0)
def laws_markLeaseS.K : Ctr := ⟨laws_markLeaseS.ps, laws_markLeaseS.rs, false, (.two (.sl 63 (.two (.int .i64) (.two (.int .i64) (.int .i64)))) (.int .i64)), (.two (.int .i64) (.sl 63 (.two (.int .i64) (.two (.int .i64) (.int .i64))))), fun k x => laws_markLeaseS.f k x.1 x.2⟩
theorem laws_markLeaseS.eq (k : Nat) (x : (laws_markLeaseS.K.I).den) : func laws_markLeaseS.x laws_markLeaseS.h laws_markLeaseS.ps laws_markLeaseS.rs laws_markLeaseS.vs laws_markLeaseS.K.I laws_markLeaseS.K.O laws_markLeaseS.c k x = laws_markLeaseS.K.run k x := by
  show _ = laws_markLeaseS.f k x.1 x.2
  unfold laws_markLeaseS.f
  rw [← laws_markLeaseS.D0_eq k k]
  kernel_rfl
theorem laws_markLeaseS.ok : CtrOk Try.prog 83 laws_markLeaseS.K :=
  CtrOk.of (fn := Try.f83) (cd := laws_markLeaseS.c) (cx := laws_markLeaseS.x) (hs := laws_markLeaseS.h) (by kernel_rfl) (by kernel_rfl) (by kernel_rfl) (by kernel_rfl) tt_ok (envOk_nil) (by kernel_rfl) (by kernel_rfl) (by kernel_rfl) (by kernel_rfl) fun k x r h => (laws_markLeaseS.eq k x).trans h
/-! laws.markFixedS -/
noncomputable def laws_markFixedS.c : Code := bodyOf Try.f84
def laws_markFixedS.h : Nat → Hint := look ⟨[], [], []⟩ [(0, ⟨[0, 1, 5], [], []⟩)]
def laws_markFixedS.ps : List PK := [.row, .one]
def laws_markFixedS.rs : List RK := [.one true]
def laws_markFixedS.vs : List ResultVar := [.tmp 4]
def laws_markFixedS.x : Cx := ⟨tt, look none []⟩
def laws_markFixedS.s0 (_k : Nat) (rec0 : (Int × Int × (List (Int × Int))) → Option (Int × (List (Int × Int)))) (p : (Int × Int × (List (Int × Int)))) : Option (Int × (List (Int × Int))) :=
  (bif (decide (p.2.1 < (p.2.2.length : Int))) then (bif ((decide ((0 : Int) ≤ p.2.1)) && (decide (p.2.1 < (p.2.2.length : Int)))) then (p.2.2[p.2.1.toNat]?).bind fun x1 => (bif ((decide ((0 : Int) ≤ p.2.1)) && (decide (p.2.1 < ((p.2.2.set p.2.1.toNat (p.1, x1.2)).length : Int)))) then ((p.2.2.set p.2.1.toNat (p.1, x1.2))[p.2.1.toNat]?).bind fun x2 => rec0 ((IntKind.i64.wrap ((IntKind.i64.wrap (p.1 + (1 : Int))) + (1 : Int))), (IntKind.i64.wrap (p.2.1 + (1 : Int))), ((p.2.2.set p.2.1.toNat (p.1, x1.2)).set p.2.1.toNat (x2.1, (IntKind.i64.wrap (p.1 + (1 : Int)))))) else none) else none) else some (p.1, p.2.2))
def laws_markFixedS.l0 (k : Nat) : Nat → (Int × Int × (List (Int × Int))) → Option (Int × (List (Int × Int)))
  | 0 => fun _ => none
  | j + 1 => laws_markFixedS.s0 k (laws_markFixedS.l0 k j)
def laws_markFixedS.S0 (p : (Int × Int × (List (Int × Int)))) : DS := ⟨tl [(0, .at (.whole 0)), (1, .at (.int .i64 p.1)), (5, .at (.int .i64 p.2.1))], lookO [(0, .row 150 (.two (.int .i64) (.int .i64)) true p.2.2)]⟩
noncomputable def laws_markFixedS.D0 (k : Nat) (j : Nat) (p : (Int × Int × (List (Int × Int)))) : Option (Int × (List (Int × Int))) := loopK (norm [0] (laws_markFixedS.h 0)) (runK laws_markFixedS.x k 0 [0] laws_markFixedS.h 0 (sub laws_markFixedS.c [1, 0, 1, 0, 0])) j (laws_markFixedS.S0 p) (kBlk 0 (kSeq (runK laws_markFixedS.x k 0 [0] laws_markFixedS.h 0 (sub laws_markFixedS.c [1, 1])) (fin tt laws_markFixedS.ps laws_markFixedS.rs laws_markFixedS.vs (.two (.int .i64) (.sl 150 (.two (.int .i64) (.int .i64)))))))
theorem laws_markFixedS.D0_eq (k : Nat) : ∀ j, laws_markFixedS.D0 k j = laws_markFixedS.l0 k j := by
  intro j
  induction j with
  | zero => rfl
  | succ j ih =>
    show _ = laws_markFixedS.s0 k (laws_markFixedS.l0 k j)
    rw [← ih]
    funext p
    kernel_rfl
def laws_markFixedS.f (k : Nat) (a0 : List (Int × Int)) (a1 : Int) : Option (Int × (List (Int × Int))) :=
  laws_markFixedS.l0 k k (a1, (0 : Int), a0)
def laws_markFixedS.K : Ctr := ⟨laws_markFixedS.ps, laws_markFixedS.rs, false, (.two (.sl 150 (.two (.int .i64) (.int .i64))) (.int .i64)), (.two (.int .i64) (.sl 150 (.two (.int .i64) (.int .i64)))), fun k x => laws_markFixedS.f k x.1 x.2⟩
theorem laws_markFixedS.eq (k : Nat) (x : (laws_markFixedS.K.I).den) : func laws_markFixedS.x laws_markFixedS.h laws_markFixedS.ps laws_markFixedS.rs laws_markFixedS.vs laws_markFixedS.K.I laws_markFixedS.K.O laws_markFixedS.c k x = laws_markFixedS.K.run k x := by
  show _ = laws_markFixedS.f k x.1 x.2
  unfold laws_markFixedS.f
  rw [← laws_markFixedS.D0_eq k k]
  kernel_rfl
theorem laws_markFixedS.ok : CtrOk Try.prog 84 laws_markFixedS.K :=
  CtrOk.of (fn := Try.f84) (cd := laws_markFixedS.c) (cx := laws_markFixedS.x) (hs := laws_markFixedS.h) (by kernel_rfl) (by kernel_rfl) (by kernel_rfl) (by kernel_rfl) tt_ok (envOk_nil) (by kernel_rfl) (by kernel_rfl) (by kernel_rfl) (by kernel_rfl) fun k x r h => (laws_markFixedS.eq k x).trans h
/-! laws.markPool -/
noncomputable def laws_markPool.c : Code := bodyOf Try.f28
def laws_markPool.h : Nat → Hint := look ⟨[], [], []⟩ []
def laws_markPool.ps : List PK := [.aggw 4 [2, 3], .one]
def laws_markPool.rs : List RK := [.one true]
def laws_markPool.vs : List ResultVar := [.tmp 4]
def laws_markPool.x : Cx := ⟨tt, look none [(83, some laws_markLeaseS.K), (84, some laws_markFixedS.K)]⟩
def laws_markPool.f (k : Nat) (_a0_0 : Int) (_a0_1 : Int) (a0_2 : List (Int × Int × Int)) (a0_3 : List (Int × Int)) (a1 : Int) : Option (Int × (List (Int × Int × Int)) × (List (Int × Int))) :=
  (laws_markLeaseS.f k a0_2 a1).bind fun r1 => (laws_markFixedS.f k a0_3 r1.1).bind fun r2 => some (r2.1, r1.2, r2.2)
def laws_markPool.K : Ctr := ⟨laws_markPool.ps, laws_markPool.rs, false, (.two (.int .i64) (.two (.int .i64) (.two (.sl 63 (.two (.int .i64) (.two (.int .i64) (.int .i64)))) (.two (.sl 150 (.two (.int .i64) (.int .i64))) (.int .i64))))), (.two (.int .i64) (.two (.sl 63 (.two (.int .i64) (.two (.int .i64) (.int .i64)))) (.sl 150 (.two (.int .i64) (.int .i64))))), fun k x => laws_markPool.f k x.1 x.2.1 x.2.2.1 x.2.2.2.1 x.2.2.2.2⟩
theorem laws_markPool.eq (k : Nat) (x : (laws_markPool.K.I).den) : func laws_markPool.x laws_markPool.h laws_markPool.ps laws_markPool.rs laws_markPool.vs laws_markPool.K.I laws_markPool.K.O laws_markPool.c k x = laws_markPool.K.run k x := by
  show _ = laws_markPool.f k x.1 x.2.1 x.2.2.1 x.2.2.2.1 x.2.2.2.2
  kernel_rfl
theorem laws_markPool.ok : CtrOk Try.prog 28 laws_markPool.K :=
  CtrOk.of (fn := Try.f28) (cd := laws_markPool.c) (cx := laws_markPool.x) (hs := laws_markPool.h) (by kernel_rfl) (by kernel_rfl) (by kernel_rfl) (by kernel_rfl) tt_ok (envOk_cons laws_markLeaseS.ok (envOk_cons laws_markFixedS.ok (envOk_nil))) (by kernel_rfl) (by kernel_rfl) (by kernel_rfl) (by kernel_rfl) fun k x r h => (laws_markPool.eq k x).trans h
/-! laws.heldLeaseS -/
noncomputable def laws_heldLeaseS.c : Code := bodyOf Try.f85
def laws_heldLeaseS.h : Nat → Hint := look ⟨[], [], []⟩ [(0, ⟨[0, 1, 5], [], []⟩)]
def laws_heldLeaseS.ps : List PK := [.one, .one]
def laws_heldLeaseS.rs : List RK := [.one true]
def laws_heldLeaseS.vs : List ResultVar := [.tmp 4]
def laws_heldLeaseS.x : Cx := ⟨tt, look none []⟩
def laws_heldLeaseS.s0 (_k : Nat) (rec0 : (Int × Int × (List (Int × Int × Int))) → Option (Int)) (p : (Int × Int × (List (Int × Int × Int)))) : Option (Int) :=
  (bif (decide (p.2.1 < (p.2.2.length : Int))) then (bif ((decide ((0 : Int) ≤ p.2.1)) && (decide (p.2.1 < (p.2.2.length : Int)))) then (p.2.2[p.2.1.toNat]?).bind fun x1 => (bif (x1.1 != p.1) then some (-1 : Int) else (bif ((decide ((0 : Int) ≤ p.2.1)) && (decide (p.2.1 < (p.2.2.length : Int)))) then (p.2.2[p.2.1.toNat]?).bind fun x2 => (bif (x2.2.1 != (IntKind.i64.wrap (p.1 + (1 : Int)))) then some (-1 : Int) else (bif ((decide ((0 : Int) ≤ p.2.1)) && (decide (p.2.1 < (p.2.2.length : Int)))) then (p.2.2[p.2.1.toNat]?).bind fun x3 => (bif (x3.2.2 != (IntKind.i64.wrap ((IntKind.i64.wrap (p.1 + (1 : Int))) + (1 : Int)))) then some (-1 : Int) else rec0 ((IntKind.i64.wrap ((IntKind.i64.wrap ((IntKind.i64.wrap (p.1 + (1 : Int))) + (1 : Int))) + (1 : Int))), (IntKind.i64.wrap (p.2.1 + (1 : Int))), p.2.2)) else none)) else none)) else none) else some p.1)
def laws_heldLeaseS.l0 (k : Nat) : Nat → (Int × Int × (List (Int × Int × Int))) → Option (Int)
  | 0 => fun _ => none
  | j + 1 => laws_heldLeaseS.s0 k (laws_heldLeaseS.l0 k j)
def laws_heldLeaseS.S0 (p : (Int × Int × (List (Int × Int × Int)))) : DS := ⟨tl [(0, .at (.whole 0)), (1, .at (.int .i64 p.1)), (5, .at (.int .i64 p.2.1))], lookO [(0, .row 63 (.two (.int .i64) (.two (.int .i64) (.int .i64))) false p.2.2)]⟩
noncomputable def laws_heldLeaseS.D0 (k : Nat) (j : Nat) (p : (Int × Int × (List (Int × Int × Int)))) : Option (Int) := loopK (norm [0] (laws_heldLeaseS.h 0)) (runK laws_heldLeaseS.x k 0 [0] laws_heldLeaseS.h 0 (sub laws_heldLeaseS.c [1, 0, 1, 0, 0])) j (laws_heldLeaseS.S0 p) (kBlk 0 (kSeq (runK laws_heldLeaseS.x k 0 [0] laws_heldLeaseS.h 0 (sub laws_heldLeaseS.c [1, 1])) (fin tt laws_heldLeaseS.ps laws_heldLeaseS.rs laws_heldLeaseS.vs (.int .i64))))
theorem laws_heldLeaseS.D0_eq (k : Nat) : ∀ j, laws_heldLeaseS.D0 k j = laws_heldLeaseS.l0 k j := by
  intro j
  induction j with
  | zero => rfl
  | succ j ih =>
    show _ = laws_heldLeaseS.s0 k (laws_heldLeaseS.l0 k j)
    rw [← ih]
    funext p
    kernel_rfl
def laws_heldLeaseS.f (k : Nat) (a0 : List (Int × Int × Int)) (a1 : Int) : Option (Int) :=
  laws_heldLeaseS.l0 k k (a1, (0 : Int), a0)
def laws_heldLeaseS.K : Ctr := ⟨laws_heldLeaseS.ps, laws_heldLeaseS.rs, false, (.two (.sl 63 (.two (.int .i64) (.two (.int .i64) (.int .i64)))) (.int .i64)), (.int .i64), fun k x => laws_heldLeaseS.f k x.1 x.2⟩
theorem laws_heldLeaseS.eq (k : Nat) (x : (laws_heldLeaseS.K.I).den) : func laws_heldLeaseS.x laws_heldLeaseS.h laws_heldLeaseS.ps laws_heldLeaseS.rs laws_heldLeaseS.vs laws_heldLeaseS.K.I laws_heldLeaseS.K.O laws_heldLeaseS.c k x = laws_heldLeaseS.K.run k x := by
  show _ = laws_heldLeaseS.f k x.1 x.2
  unfold laws_heldLeaseS.f
  rw [← laws_heldLeaseS.D0_eq k k]
  kernel_rfl
theorem laws_heldLeaseS.ok : CtrOk Try.prog 85 laws_heldLeaseS.K :=
  CtrOk.of (fn := Try.f85) (cd := laws_heldLeaseS.c) (cx := laws_heldLeaseS.x) (hs := laws_heldLeaseS.h) (by kernel_rfl) (by kernel_rfl) (by kernel_rfl) (by kernel_rfl) tt_ok (envOk_nil) (by kernel_rfl) (by kernel_rfl) (by kernel_rfl) (by kernel_rfl) fun k x r h => (laws_heldLeaseS.eq k x).trans h
/-! laws.heldFixedS -/
noncomputable def laws_heldFixedS.c : Code := bodyOf Try.f86
def laws_heldFixedS.h : Nat → Hint := look ⟨[], [], []⟩ [(0, ⟨[0, 1, 5], [], []⟩)]
def laws_heldFixedS.ps : List PK := [.one, .one]
def laws_heldFixedS.rs : List RK := [.one true]
def laws_heldFixedS.vs : List ResultVar := [.tmp 4]
def laws_heldFixedS.x : Cx := ⟨tt, look none []⟩
def laws_heldFixedS.s0 (_k : Nat) (rec0 : (Int × Int × (List (Int × Int))) → Option (Int)) (p : (Int × Int × (List (Int × Int)))) : Option (Int) :=
  (bif (decide (p.2.1 < (p.2.2.length : Int))) then (bif ((decide ((0 : Int) ≤ p.2.1)) && (decide (p.2.1 < (p.2.2.length : Int)))) then (p.2.2[p.2.1.toNat]?).bind fun x1 => (bif (x1.1 != p.1) then some (-1 : Int) else (bif ((decide ((0 : Int) ≤ p.2.1)) && (decide (p.2.1 < (p.2.2.length : Int)))) then (p.2.2[p.2.1.toNat]?).bind fun x2 => (bif (x2.2 != (IntKind.i64.wrap (p.1 + (1 : Int)))) then some (-1 : Int) else rec0 ((IntKind.i64.wrap ((IntKind.i64.wrap (p.1 + (1 : Int))) + (1 : Int))), (IntKind.i64.wrap (p.2.1 + (1 : Int))), p.2.2)) else none)) else none) else some p.1)
def laws_heldFixedS.l0 (k : Nat) : Nat → (Int × Int × (List (Int × Int))) → Option (Int)
  | 0 => fun _ => none
  | j + 1 => laws_heldFixedS.s0 k (laws_heldFixedS.l0 k j)
def laws_heldFixedS.S0 (p : (Int × Int × (List (Int × Int)))) : DS := ⟨tl [(0, .at (.whole 0)), (1, .at (.int .i64 p.1)), (5, .at (.int .i64 p.2.1))], lookO [(0, .row 150 (.two (.int .i64) (.int .i64)) false p.2.2)]⟩
noncomputable def laws_heldFixedS.D0 (k : Nat) (j : Nat) (p : (Int × Int × (List (Int × Int)))) : Option (Int) := loopK (norm [0] (laws_heldFixedS.h 0)) (runK laws_heldFixedS.x k 0 [0] laws_heldFixedS.h 0 (sub laws_heldFixedS.c [1, 0, 1, 0, 0])) j (laws_heldFixedS.S0 p) (kBlk 0 (kSeq (runK laws_heldFixedS.x k 0 [0] laws_heldFixedS.h 0 (sub laws_heldFixedS.c [1, 1])) (fin tt laws_heldFixedS.ps laws_heldFixedS.rs laws_heldFixedS.vs (.int .i64))))
theorem laws_heldFixedS.D0_eq (k : Nat) : ∀ j, laws_heldFixedS.D0 k j = laws_heldFixedS.l0 k j := by
  intro j
  induction j with
  | zero => rfl
  | succ j ih =>
    show _ = laws_heldFixedS.s0 k (laws_heldFixedS.l0 k j)
    rw [← ih]
    funext p
    kernel_rfl
def laws_heldFixedS.f (k : Nat) (a0 : List (Int × Int)) (a1 : Int) : Option (Int) :=
  laws_heldFixedS.l0 k k (a1, (0 : Int), a0)
def laws_heldFixedS.K : Ctr := ⟨laws_heldFixedS.ps, laws_heldFixedS.rs, false, (.two (.sl 150 (.two (.int .i64) (.int .i64))) (.int .i64)), (.int .i64), fun k x => laws_heldFixedS.f k x.1 x.2⟩
theorem laws_heldFixedS.eq (k : Nat) (x : (laws_heldFixedS.K.I).den) : func laws_heldFixedS.x laws_heldFixedS.h laws_heldFixedS.ps laws_heldFixedS.rs laws_heldFixedS.vs laws_heldFixedS.K.I laws_heldFixedS.K.O laws_heldFixedS.c k x = laws_heldFixedS.K.run k x := by
  show _ = laws_heldFixedS.f k x.1 x.2
  unfold laws_heldFixedS.f
  rw [← laws_heldFixedS.D0_eq k k]
  kernel_rfl
theorem laws_heldFixedS.ok : CtrOk Try.prog 86 laws_heldFixedS.K :=
  CtrOk.of (fn := Try.f86) (cd := laws_heldFixedS.c) (cx := laws_heldFixedS.x) (hs := laws_heldFixedS.h) (by kernel_rfl) (by kernel_rfl) (by kernel_rfl) (by kernel_rfl) tt_ok (envOk_nil) (by kernel_rfl) (by kernel_rfl) (by kernel_rfl) (by kernel_rfl) fun k x r h => (laws_heldFixedS.eq k x).trans h
/-! laws.heldPool -/
noncomputable def laws_heldPool.c : Code := bodyOf Try.f30
def laws_heldPool.h : Nat → Hint := look ⟨[], [], []⟩ []
def laws_heldPool.ps : List PK := [.agg 4, .one]
def laws_heldPool.rs : List RK := [.one true]
def laws_heldPool.vs : List ResultVar := [.tmp 4]
def laws_heldPool.x : Cx := ⟨tt, look none [(85, some laws_heldLeaseS.K), (86, some laws_heldFixedS.K)]⟩
def laws_heldPool.f (k : Nat) (_a0_0 : Int) (_a0_1 : Int) (a0_2 : List (Int × Int × Int)) (a0_3 : List (Int × Int)) (a1 : Int) : Option (Int) :=
  (laws_heldLeaseS.f k a0_2 a1).bind fun r1 => (bif (decide (r1 < (0 : Int))) then some (-1 : Int) else (laws_heldFixedS.f k a0_3 r1).bind fun r2 => (bif (decide (r2 < (0 : Int))) then some (-1 : Int) else some r2))
def laws_heldPool.K : Ctr := ⟨laws_heldPool.ps, laws_heldPool.rs, false, (.two (.int .i64) (.two (.int .i64) (.two (.sl 63 (.two (.int .i64) (.two (.int .i64) (.int .i64)))) (.two (.sl 150 (.two (.int .i64) (.int .i64))) (.int .i64))))), (.int .i64), fun k x => laws_heldPool.f k x.1 x.2.1 x.2.2.1 x.2.2.2.1 x.2.2.2.2⟩
theorem laws_heldPool.eq (k : Nat) (x : (laws_heldPool.K.I).den) : func laws_heldPool.x laws_heldPool.h laws_heldPool.ps laws_heldPool.rs laws_heldPool.vs laws_heldPool.K.I laws_heldPool.K.O laws_heldPool.c k x = laws_heldPool.K.run k x := by
  show _ = laws_heldPool.f k x.1 x.2.1 x.2.2.1 x.2.2.2.1 x.2.2.2.2
  kernel_rfl
theorem laws_heldPool.ok : CtrOk Try.prog 30 laws_heldPool.K :=
  CtrOk.of (fn := Try.f30) (cd := laws_heldPool.c) (cx := laws_heldPool.x) (hs := laws_heldPool.h) (by kernel_rfl) (by kernel_rfl) (by kernel_rfl) (by kernel_rfl) tt_ok (envOk_cons laws_heldLeaseS.ok (envOk_cons laws_heldFixedS.ok (envOk_nil))) (by kernel_rfl) (by kernel_rfl) (by kernel_rfl) (by kernel_rfl) fun k x r h => (laws_heldPool.eq k x).trans h
/-! laws.FnExactGrant -/
noncomputable def laws_FnExactGrant.c : Code := bodyOf Try.f8
def laws_FnExactGrant.h : Nat → Hint := look ⟨[], [], []⟩ []
def laws_FnExactGrant.ps : List PK := [.agg 4, .one, .one]
def laws_FnExactGrant.rs : List RK := [.one true]
def laws_FnExactGrant.vs : List ResultVar := [.tmp 6]
def laws_FnExactGrant.x : Cx := ⟨tt, look none [(22, some laws_szPool.K), (24, some laws_toPool.K), (41, some spec_Grant.K), (40, some impl_Grant.K), (26, some laws_eqPool.K), (28, some laws_markPool.K), (30, some laws_heldPool.K)]⟩
def laws_FnExactGrant.f (k : Nat) (a0_0 : Int) (a0_1 : Int) (a0_2 : List (Int × Int × Int)) (a0_3 : List (Int × Int)) (a1 : Int) (a2 : Int) : Option (Bool) :=
  (laws_szPool.f k a0_0 a0_1 a0_2 a0_3 (1048576 : Int)).bind fun r1 => (bif (decide (r1 < (0 : Int))) then some true else (laws_toPool.f k a0_0 a0_1 a0_2 a0_3).bind fun r2 => (spec_Grant.f k r2.1 r2.2.1 r2.2.2.1 r2.2.2.2 a1 a2).bind fun r3 => (laws_toPool.f k a0_0 a0_1 a0_2 a0_3).bind fun r4 => (impl_Grant.f k r4.1 r4.2.1 r4.2.2.1 r4.2.2.2 a1 a2).bind fun r5 => (laws_eqPool.f k r5.1 r5.2.1 r5.2.2.1 r5.2.2.2.1 r3.1 r3.2.1 r3.2.2.1 r3.2.2.2.1).bind fun r6 => (bif (!r6) then some false else (bif (r5.2.2.2.2.1 != r3.2.2.2.2.1) then some false else (bif (!(r5.2.2.2.2.2 == r3.2.2.2.2.2)) then some false else (laws_toPool.f k a0_0 a0_1 a0_2 a0_3).bind fun r7 => (laws_eqPool.f k r4.1 r4.2.1 r4.2.2.1 r4.2.2.2 r7.1 r7.2.1 r7.2.2.1 r7.2.2.2).bind fun r8 => (bif (!r8) then some false else (laws_markPool.f k r4.1 r4.2.1 r4.2.2.1 r4.2.2.2 (1 : Int)).bind fun r9 => (bif (decide (r9.1 < (0 : Int))) then some false else (laws_eqPool.f k r5.1 r5.2.1 r5.2.2.1 r5.2.2.2.1 r3.1 r3.2.1 r3.2.2.1 r3.2.2.2.1).bind fun r10 => (bif (!r10) then some false else (bif (r5.2.2.2.2.1 != r3.2.2.2.2.1) then some false else (bif (!(r5.2.2.2.2.2 == r3.2.2.2.2.2)) then some false else (laws_markPool.f k r5.1 r5.2.1 r5.2.2.1 r5.2.2.2.1 (1 : Int)).bind fun r11 => (laws_heldPool.f k r5.1 r5.2.1 r11.2.1 r11.2.2 (1 : Int)).bind fun r12 => (bif (decide (r12 < (0 : Int))) then some false else (bif (r12 != r11.1) then some false else (laws_toPool.f k a0_0 a0_1 a0_2 a0_3).bind fun r13 => (impl_Grant.f k r13.1 r13.2.1 r13.2.2.1 r13.2.2.2 a1 a2).bind fun r14 => (laws_eqPool.f k r14.1 r14.2.1 r14.2.2.1 r14.2.2.2.1 r3.1 r3.2.1 r3.2.2.1 r3.2.2.2.1).bind fun r15 => (bif (!r15) then some false else (bif (r14.2.2.2.2.1 != r3.2.2.2.2.1) then some false else (bif (!(r14.2.2.2.2.2 == r3.2.2.2.2.2)) then some false else (laws_heldPool.f k r5.1 r5.2.1 r11.2.1 r11.2.2 (1 : Int)).bind fun r16 => (bif (decide (r16 < (0 : Int))) then some false else (bif (r16 != r11.1) then some false else some true))))))))))))))))
def laws_FnExactGrant.K : Ctr := ⟨laws_FnExactGrant.ps, laws_FnExactGrant.rs, false, (.two (.int .i64) (.two (.int .i64) (.two (.sl 148 (.two (.int .i64) (.two (.int .i64) (.int .i64)))) (.two (.sl 152 (.two (.int .i64) (.int .i64))) (.two (.int .i64) (.int .i64)))))), .bool, fun k x => laws_FnExactGrant.f k x.1 x.2.1 x.2.2.1 x.2.2.2.1 x.2.2.2.2.1 x.2.2.2.2.2⟩
theorem laws_FnExactGrant.eq (k : Nat) (x : (laws_FnExactGrant.K.I).den) : func laws_FnExactGrant.x laws_FnExactGrant.h laws_FnExactGrant.ps laws_FnExactGrant.rs laws_FnExactGrant.vs laws_FnExactGrant.K.I laws_FnExactGrant.K.O laws_FnExactGrant.c k x = laws_FnExactGrant.K.run k x := by
  show _ = laws_FnExactGrant.f k x.1 x.2.1 x.2.2.1 x.2.2.2.1 x.2.2.2.2.1 x.2.2.2.2.2
  kernel_rfl
theorem laws_FnExactGrant.ok : CtrOk Try.prog 8 laws_FnExactGrant.K :=
  CtrOk.of (fn := Try.f8) (cd := laws_FnExactGrant.c) (cx := laws_FnExactGrant.x) (hs := laws_FnExactGrant.h) (by kernel_rfl) (by kernel_rfl) (by kernel_rfl) (by kernel_rfl) tt_ok (envOk_cons laws_szPool.ok (envOk_cons laws_toPool.ok (envOk_cons spec_Grant.ok (envOk_cons impl_Grant.ok (envOk_cons laws_eqPool.ok (envOk_cons laws_markPool.ok (envOk_cons laws_heldPool.ok (envOk_nil)))))))) (by kernel_rfl) (by kernel_rfl) (by kernel_rfl) (by kernel_rfl) fun k x r h => (laws_FnExactGrant.eq k x).trans h
end Go.Proofs.Ytfaeklomiofpdaa.DI
