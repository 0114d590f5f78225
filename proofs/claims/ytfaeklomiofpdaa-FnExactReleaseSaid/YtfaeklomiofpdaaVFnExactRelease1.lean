/- FnExactRelease: functions as plain Lean, in the machine of values. -/
import Derived.Test.YtfaeklomiofpdaaVFnExactRelease0
namespace Go.Proofs.Ytfaeklomiofpdaa.DI
open Go
set_option linter.unusedVariables false
/-! laws.szLeaseS -/
noncomputable def laws_szLeaseS.c : Code := bodyOf Try.f73
def laws_szLeaseS.h : Nat → Hint := look ⟨[], [], []⟩ []
def laws_szLeaseS.ps : List PK := [.one, .one]
def laws_szLeaseS.rs : List RK := [.one true]
def laws_szLeaseS.vs : List ResultVar := [.tmp 4]
def laws_szLeaseS.x : Cx := ⟨tt, look none []⟩
def laws_szLeaseS.f (_k : Nat) (a0 : List (Int × Int × Int)) (a1 : Int) : Option (Int) :=
  (bif (decide ((IntKind.i64.wrap (a1 - (a0.length : Int))) < (0 : Int))) then some (-1 : Int) else some (IntKind.i64.wrap (a1 - (a0.length : Int))))
def laws_szLeaseS.K : Ctr := ⟨laws_szLeaseS.ps, laws_szLeaseS.rs, false, (.two (.sl 148 (.two (.int .i64) (.two (.int .i64) (.int .i64)))) (.int .i64)), (.int .i64), fun k x => laws_szLeaseS.f k x.1 x.2⟩
theorem laws_szLeaseS.eq (k : Nat) (x : (laws_szLeaseS.K.I).den) : func laws_szLeaseS.x laws_szLeaseS.h laws_szLeaseS.ps laws_szLeaseS.rs laws_szLeaseS.vs laws_szLeaseS.K.I laws_szLeaseS.K.O laws_szLeaseS.c k x = laws_szLeaseS.K.run k x := by
  show _ = laws_szLeaseS.f k x.1 x.2
  kernel_rfl
theorem laws_szLeaseS.ok : CtrOk Try.prog 73 laws_szLeaseS.K :=
  CtrOk.of (fn := Try.f73) (cd := laws_szLeaseS.c) (cx := laws_szLeaseS.x) (hs := laws_szLeaseS.h) (by kernel_rfl) (by kernel_rfl) (by kernel_rfl) (by kernel_rfl) tt_ok (envOk_nil) (by kernel_rfl) (by kernel_rfl) (by kernel_rfl) (by kernel_rfl) fun k x r h => (laws_szLeaseS.eq k x).trans h
/-! laws.szFixedS -/
noncomputable def laws_szFixedS.c : Code := bodyOf Try.f74
def laws_szFixedS.h : Nat → Hint := look ⟨[], [], []⟩ []
def laws_szFixedS.ps : List PK := [.one, .one]
def laws_szFixedS.rs : List RK := [.one true]
def laws_szFixedS.vs : List ResultVar := [.tmp 4]
def laws_szFixedS.x : Cx := ⟨tt, look none []⟩
def laws_szFixedS.f (_k : Nat) (a0 : List (Int × Int)) (a1 : Int) : Option (Int) :=
  (bif (decide ((IntKind.i64.wrap (a1 - (a0.length : Int))) < (0 : Int))) then some (-1 : Int) else some (IntKind.i64.wrap (a1 - (a0.length : Int))))
def laws_szFixedS.K : Ctr := ⟨laws_szFixedS.ps, laws_szFixedS.rs, false, (.two (.sl 152 (.two (.int .i64) (.int .i64))) (.int .i64)), (.int .i64), fun k x => laws_szFixedS.f k x.1 x.2⟩
theorem laws_szFixedS.eq (k : Nat) (x : (laws_szFixedS.K.I).den) : func laws_szFixedS.x laws_szFixedS.h laws_szFixedS.ps laws_szFixedS.rs laws_szFixedS.vs laws_szFixedS.K.I laws_szFixedS.K.O laws_szFixedS.c k x = laws_szFixedS.K.run k x := by
  show _ = laws_szFixedS.f k x.1 x.2
  kernel_rfl
theorem laws_szFixedS.ok : CtrOk Try.prog 74 laws_szFixedS.K :=
  CtrOk.of (fn := Try.f74) (cd := laws_szFixedS.c) (cx := laws_szFixedS.x) (hs := laws_szFixedS.h) (by kernel_rfl) (by kernel_rfl) (by kernel_rfl) (by kernel_rfl) tt_ok (envOk_nil) (by kernel_rfl) (by kernel_rfl) (by kernel_rfl) (by kernel_rfl) fun k x r h => (laws_szFixedS.eq k x).trans h
/-! laws.szPool -/
noncomputable def laws_szPool.c : Code := bodyOf Try.f22
def laws_szPool.h : Nat → Hint := look ⟨[], [], []⟩ []
def laws_szPool.ps : List PK := [.agg 4, .one]
def laws_szPool.rs : List RK := [.one true]
def laws_szPool.vs : List ResultVar := [.tmp 4]
def laws_szPool.x : Cx := ⟨tt, look none [(73, some laws_szLeaseS.K), (74, some laws_szFixedS.K)]⟩
def laws_szPool.f (k : Nat) (_a0_0 : Int) (_a0_1 : Int) (a0_2 : List (Int × Int × Int)) (a0_3 : List (Int × Int)) (a1 : Int) : Option (Int) :=
  (laws_szLeaseS.f k a0_2 a1).bind fun r1 => (bif (decide (r1 < (0 : Int))) then some (-1 : Int) else (laws_szFixedS.f k a0_3 r1).bind fun r2 => (bif (decide (r2 < (0 : Int))) then some (-1 : Int) else some r2))
def laws_szPool.K : Ctr := ⟨laws_szPool.ps, laws_szPool.rs, false, (.two (.int .i64) (.two (.int .i64) (.two (.sl 148 (.two (.int .i64) (.two (.int .i64) (.int .i64)))) (.two (.sl 152 (.two (.int .i64) (.int .i64))) (.int .i64))))), (.int .i64), fun k x => laws_szPool.f k x.1 x.2.1 x.2.2.1 x.2.2.2.1 x.2.2.2.2⟩
theorem laws_szPool.eq (k : Nat) (x : (laws_szPool.K.I).den) : func laws_szPool.x laws_szPool.h laws_szPool.ps laws_szPool.rs laws_szPool.vs laws_szPool.K.I laws_szPool.K.O laws_szPool.c k x = laws_szPool.K.run k x := by
  show _ = laws_szPool.f k x.1 x.2.1 x.2.2.1 x.2.2.2.1 x.2.2.2.2
  kernel_rfl
theorem laws_szPool.ok : CtrOk Try.prog 22 laws_szPool.K :=
  CtrOk.of (fn := Try.f22) (cd := laws_szPool.c) (cx := laws_szPool.x) (hs := laws_szPool.h) (by kernel_rfl) (by kernel_rfl) (by kernel_rfl) (by kernel_rfl) tt_ok (envOk_cons laws_szLeaseS.ok (envOk_cons laws_szFixedS.ok (envOk_nil))) (by kernel_rfl) (by kernel_rfl) (by kernel_rfl) (by kernel_rfl) fun k x r h => (laws_szPool.eq k x).trans h
/-! laws.toPrefix -/
noncomputable def laws_toPrefix.c : Code := bodyOf Try.f76
def laws_toPrefix.h : Nat → Hint := look ⟨[], [], []⟩ []
def laws_toPrefix.ps : List PK := [.agg 2]
def laws_toPrefix.rs : List RK := [.agg 2 true]
def laws_toPrefix.vs : List ResultVar := [.cell 2 29]
def laws_toPrefix.x : Cx := ⟨tt, look none []⟩
def laws_toPrefix.f (_k : Nat) (a0_0 : Int) (a0_1 : Int) : Option (Int × Int) :=
  some (a0_0, a0_1)
def laws_toPrefix.K : Ctr := ⟨laws_toPrefix.ps, laws_toPrefix.rs, false, (.two (.int .i64) (.int .i64)), (.two (.int .i64) (.int .i64)), fun k x => laws_toPrefix.f k x.1 x.2⟩
theorem laws_toPrefix.eq (k : Nat) (x : (laws_toPrefix.K.I).den) : func laws_toPrefix.x laws_toPrefix.h laws_toPrefix.ps laws_toPrefix.rs laws_toPrefix.vs laws_toPrefix.K.I laws_toPrefix.K.O laws_toPrefix.c k x = laws_toPrefix.K.run k x := by
  show _ = laws_toPrefix.f k x.1 x.2
  kernel_rfl
theorem laws_toPrefix.ok : CtrOk Try.prog 76 laws_toPrefix.K :=
  CtrOk.of (fn := Try.f76) (cd := laws_toPrefix.c) (cx := laws_toPrefix.x) (hs := laws_toPrefix.h) (by kernel_rfl) (by kernel_rfl) (by kernel_rfl) (by kernel_rfl) tt_ok (envOk_nil) (by kernel_rfl) (by kernel_rfl) (by kernel_rfl) (by kernel_rfl) fun k x r h => (laws_toPrefix.eq k x).trans h
/-! laws.toLease -/
noncomputable def laws_toLease.c : Code := bodyOf Try.f132
def laws_toLease.h : Nat → Hint := look ⟨[], [], []⟩ []
def laws_toLease.ps : List PK := [.agg 3]
def laws_toLease.rs : List RK := [.agg 3 true]
def laws_toLease.vs : List ResultVar := [.cell 2 63]
def laws_toLease.x : Cx := ⟨tt, look none []⟩
def laws_toLease.f (_k : Nat) (a0_0 : Int) (a0_1 : Int) (a0_2 : Int) : Option (Int × Int × Int) :=
  some (a0_0, a0_1, a0_2)
def laws_toLease.K : Ctr := ⟨laws_toLease.ps, laws_toLease.rs, false, (.two (.int .i64) (.two (.int .i64) (.int .i64))), (.two (.int .i64) (.two (.int .i64) (.int .i64))), fun k x => laws_toLease.f k x.1 x.2.1 x.2.2⟩
theorem laws_toLease.eq (k : Nat) (x : (laws_toLease.K.I).den) : func laws_toLease.x laws_toLease.h laws_toLease.ps laws_toLease.rs laws_toLease.vs laws_toLease.K.I laws_toLease.K.O laws_toLease.c k x = laws_toLease.K.run k x := by
  show _ = laws_toLease.f k x.1 x.2.1 x.2.2
  kernel_rfl
theorem laws_toLease.ok : CtrOk Try.prog 132 laws_toLease.K :=
  CtrOk.of (fn := Try.f132) (cd := laws_toLease.c) (cx := laws_toLease.x) (hs := laws_toLease.h) (by kernel_rfl) (by kernel_rfl) (by kernel_rfl) (by kernel_rfl) tt_ok (envOk_nil) (by kernel_rfl) (by kernel_rfl) (by kernel_rfl) (by kernel_rfl) fun k x r h => (laws_toLease.eq k x).trans h
/-! laws.toLeaseS -/
noncomputable def laws_toLeaseS.c : Code := bodyOf Try.f77
def laws_toLeaseS.h : Nat → Hint := look ⟨[], [], []⟩ [(0, ⟨[0, 3, 4], [], [(.t 3, 368, 63, (.two (.int .i64) (.two (.int .i64) (.int .i64))))]⟩)]
def laws_toLeaseS.ps : List PK := [.one]
def laws_toLeaseS.rs : List RK := [.one true]
def laws_toLeaseS.vs : List ResultVar := [.tmp 2]
def laws_toLeaseS.x : Cx := ⟨tt, look none [(132, some laws_toLease.K)]⟩
def laws_toLeaseS.s0 (k : Nat) (rec0 : (Int × (List (Int × Int × Int)) × (List (Int × Int × Int))) → Option ((List (Int × Int × Int)))) (p : (Int × (List (Int × Int × Int)) × (List (Int × Int × Int)))) : Option ((List (Int × Int × Int))) :=
  (bif (decide (p.1 < (p.2.1.length : Int))) then (bif ((decide ((0 : Int) ≤ p.1)) && (decide (p.1 < (p.2.1.length : Int)))) then (p.2.1[p.1.toNat]?).bind fun x1 => (laws_toLease.f k x1.1 x1.2.1 x1.2.2).bind fun r2 => (bif ((decide ((0 : Int) ≤ p.1)) && (decide (p.1 < (p.2.2.length : Int)))) then (p.2.2[p.1.toNat]?).bind fun x3 => rec0 ((IntKind.i64.wrap (p.1 + (1 : Int))), p.2.1, (p.2.2.set p.1.toNat (r2.1, r2.2.1, r2.2.2))) else none) else none) else some p.2.2)
def laws_toLeaseS.l0 (k : Nat) : Nat → (Int × (List (Int × Int × Int)) × (List (Int × Int × Int))) → Option ((List (Int × Int × Int)))
  | 0 => fun _ => none
  | j + 1 => laws_toLeaseS.s0 k (laws_toLeaseS.l0 k j)
def laws_toLeaseS.S0 (p : (Int × (List (Int × Int × Int)) × (List (Int × Int × Int)))) : DS := ⟨tl [(0, .at (.whole 0)), (3, .at (.whole 368)), (4, .at (.int .i64 p.1))], lookO [(0, .row 148 (.two (.int .i64) (.two (.int .i64) (.int .i64))) false p.2.1), (368, .row 63 (.two (.int .i64) (.two (.int .i64) (.int .i64))) true p.2.2)]⟩
noncomputable def laws_toLeaseS.D0 (k : Nat) (j : Nat) (p : (Int × (List (Int × Int × Int)) × (List (Int × Int × Int)))) : Option ((List (Int × Int × Int))) := loopK (norm [0] (laws_toLeaseS.h 0)) (runK laws_toLeaseS.x k 0 [0] laws_toLeaseS.h 0 (sub laws_toLeaseS.c [1, 1, 0, 1, 0, 0])) j (laws_toLeaseS.S0 p) (kBlk 0 (kSeq (runK laws_toLeaseS.x k 0 [0] laws_toLeaseS.h 0 (sub laws_toLeaseS.c [1, 1, 1])) (fin tt laws_toLeaseS.ps laws_toLeaseS.rs laws_toLeaseS.vs (.sl 63 (.two (.int .i64) (.two (.int .i64) (.int .i64)))))))
theorem laws_toLeaseS.D0_eq (k : Nat) : ∀ j, laws_toLeaseS.D0 k j = laws_toLeaseS.l0 k j := by
  intro j
  induction j with
  | zero => rfl
  | succ j ih =>
    show _ = laws_toLeaseS.s0 k (laws_toLeaseS.l0 k j)
    rw [← ih]
    funext p
    kernel_rfl
def laws_toLeaseS.f (k : Nat) (a0 : List (Int × Int × Int)) : Option ((List (Int × Int × Int))) :=
  (bif ((decide ((0 : Int) ≤ (a0.length : Int))) && decide ((a0.length : Int) * 24 ≤ 140737488355328)) then laws_toLeaseS.l0 k k ((0 : Int), a0, (List.replicate (a0.length : Int).toNat ((0 : Int), (0 : Int), (0 : Int)))) else none)
def laws_toLeaseS.K : Ctr := ⟨laws_toLeaseS.ps, laws_toLeaseS.rs, false, (.sl 148 (.two (.int .i64) (.two (.int .i64) (.int .i64)))), (.sl 63 (.two (.int .i64) (.two (.int .i64) (.int .i64)))), fun k x => laws_toLeaseS.f k x⟩
theorem laws_toLeaseS.eq (k : Nat) (x : (laws_toLeaseS.K.I).den) : func laws_toLeaseS.x laws_toLeaseS.h laws_toLeaseS.ps laws_toLeaseS.rs laws_toLeaseS.vs laws_toLeaseS.K.I laws_toLeaseS.K.O laws_toLeaseS.c k x = laws_toLeaseS.K.run k x := by
  show _ = laws_toLeaseS.f k x
  unfold laws_toLeaseS.f
  rw [← laws_toLeaseS.D0_eq k k]
  kernel_rfl
theorem laws_toLeaseS.ok : CtrOk Try.prog 77 laws_toLeaseS.K :=
  CtrOk.of (fn := Try.f77) (cd := laws_toLeaseS.c) (cx := laws_toLeaseS.x) (hs := laws_toLeaseS.h) (by kernel_rfl) (by kernel_rfl) (by kernel_rfl) (by kernel_rfl) tt_ok (envOk_cons laws_toLease.ok (envOk_nil)) (by kernel_rfl) (by kernel_rfl) (by kernel_rfl) (by kernel_rfl) fun k x r h => (laws_toLeaseS.eq k x).trans h
/-! laws.toFixed -/
noncomputable def laws_toFixed.c : Code := bodyOf Try.f133
def laws_toFixed.h : Nat → Hint := look ⟨[], [], []⟩ []
def laws_toFixed.ps : List PK := [.agg 2]
def laws_toFixed.rs : List RK := [.agg 2 true]
def laws_toFixed.vs : List ResultVar := [.cell 2 150]
def laws_toFixed.x : Cx := ⟨tt, look none []⟩
def laws_toFixed.f (_k : Nat) (a0_0 : Int) (a0_1 : Int) : Option (Int × Int) :=
  some (a0_0, a0_1)
def laws_toFixed.K : Ctr := ⟨laws_toFixed.ps, laws_toFixed.rs, false, (.two (.int .i64) (.int .i64)), (.two (.int .i64) (.int .i64)), fun k x => laws_toFixed.f k x.1 x.2⟩
theorem laws_toFixed.eq (k : Nat) (x : (laws_toFixed.K.I).den) : func laws_toFixed.x laws_toFixed.h laws_toFixed.ps laws_toFixed.rs laws_toFixed.vs laws_toFixed.K.I laws_toFixed.K.O laws_toFixed.c k x = laws_toFixed.K.run k x := by
  show _ = laws_toFixed.f k x.1 x.2
  kernel_rfl
theorem laws_toFixed.ok : CtrOk Try.prog 133 laws_toFixed.K :=
  CtrOk.of (fn := Try.f133) (cd := laws_toFixed.c) (cx := laws_toFixed.x) (hs := laws_toFixed.h) (by kernel_rfl) (by kernel_rfl) (by kernel_rfl) (by kernel_rfl) tt_ok (envOk_nil) (by kernel_rfl) (by kernel_rfl) (by kernel_rfl) (by kernel_rfl) fun k x r h => (laws_toFixed.eq k x).trans h
/-! laws.toFixedS -/
noncomputable def laws_toFixedS.c : Code := bodyOf Try.f78
def laws_toFixedS.h : Nat → Hint := look ⟨[], [], []⟩ [(0, ⟨[0, 3, 4], [], [(.t 3, 368, 150, (.two (.int .i64) (.int .i64)))]⟩)]
def laws_toFixedS.ps : List PK := [.one]
def laws_toFixedS.rs : List RK := [.one true]
def laws_toFixedS.vs : List ResultVar := [.tmp 2]
def laws_toFixedS.x : Cx := ⟨tt, look none [(133, some laws_toFixed.K)]⟩
def laws_toFixedS.s0 (k : Nat) (rec0 : (Int × (List (Int × Int)) × (List (Int × Int))) → Option ((List (Int × Int)))) (p : (Int × (List (Int × Int)) × (List (Int × Int)))) : Option ((List (Int × Int))) :=
  (bif (decide (p.1 < (p.2.1.length : Int))) then (bif ((decide ((0 : Int) ≤ p.1)) && (decide (p.1 < (p.2.1.length : Int)))) then (p.2.1[p.1.toNat]?).bind fun x1 => (laws_toFixed.f k x1.1 x1.2).bind fun r2 => (bif ((decide ((0 : Int) ≤ p.1)) && (decide (p.1 < (p.2.2.length : Int)))) then (p.2.2[p.1.toNat]?).bind fun x3 => rec0 ((IntKind.i64.wrap (p.1 + (1 : Int))), p.2.1, (p.2.2.set p.1.toNat (r2.1, r2.2))) else none) else none) else some p.2.2)
def laws_toFixedS.l0 (k : Nat) : Nat → (Int × (List (Int × Int)) × (List (Int × Int))) → Option ((List (Int × Int)))
  | 0 => fun _ => none
  | j + 1 => laws_toFixedS.s0 k (laws_toFixedS.l0 k j)
def laws_toFixedS.S0 (p : (Int × (List (Int × Int)) × (List (Int × Int)))) : DS := ⟨tl [(0, .at (.whole 0)), (3, .at (.whole 368)), (4, .at (.int .i64 p.1))], lookO [(0, .row 152 (.two (.int .i64) (.int .i64)) false p.2.1), (368, .row 150 (.two (.int .i64) (.int .i64)) true p.2.2)]⟩
noncomputable def laws_toFixedS.D0 (k : Nat) (j : Nat) (p : (Int × (List (Int × Int)) × (List (Int × Int)))) : Option ((List (Int × Int))) := loopK (norm [0] (laws_toFixedS.h 0)) (runK laws_toFixedS.x k 0 [0] laws_toFixedS.h 0 (sub laws_toFixedS.c [1, 1, 0, 1, 0, 0])) j (laws_toFixedS.S0 p) (kBlk 0 (kSeq (runK laws_toFixedS.x k 0 [0] laws_toFixedS.h 0 (sub laws_toFixedS.c [1, 1, 1])) (fin tt laws_toFixedS.ps laws_toFixedS.rs laws_toFixedS.vs (.sl 150 (.two (.int .i64) (.int .i64))))))
theorem laws_toFixedS.D0_eq (k : Nat) : ∀ j, laws_toFixedS.D0 k j = laws_toFixedS.l0 k j := by
  intro j
  induction j with
  | zero => rfl
  | succ j ih =>
    show _ = laws_toFixedS.s0 k (laws_toFixedS.l0 k j)
    rw [← ih]
    funext p
    kernel_rfl
def laws_toFixedS.f (k : Nat) (a0 : List (Int × Int)) : Option ((List (Int × Int))) :=
  (bif ((decide ((0 : Int) ≤ (a0.length : Int))) && decide ((a0.length : Int) * 16 ≤ 140737488355328)) then laws_toFixedS.l0 k k ((0 : Int), a0, (List.replicate (a0.length : Int).toNat ((0 : Int), (0 : Int)))) else none)
def laws_toFixedS.K : Ctr := ⟨laws_toFixedS.ps, laws_toFixedS.rs, false, (.sl 152 (.two (.int .i64) (.int .i64))), (.sl 150 (.two (.int .i64) (.int .i64))), fun k x => laws_toFixedS.f k x⟩
theorem laws_toFixedS.eq (k : Nat) (x : (laws_toFixedS.K.I).den) : func laws_toFixedS.x laws_toFixedS.h laws_toFixedS.ps laws_toFixedS.rs laws_toFixedS.vs laws_toFixedS.K.I laws_toFixedS.K.O laws_toFixedS.c k x = laws_toFixedS.K.run k x := by
  show _ = laws_toFixedS.f k x
  unfold laws_toFixedS.f
  rw [← laws_toFixedS.D0_eq k k]
  kernel_rfl
theorem laws_toFixedS.ok : CtrOk Try.prog 78 laws_toFixedS.K :=
  CtrOk.of (fn := Try.f78) (cd := laws_toFixedS.c) (cx := laws_toFixedS.x) (hs := laws_toFixedS.h) (by kernel_rfl) (by kernel_rfl) (by kernel_rfl) (by kernel_rfl) tt_ok (envOk_cons laws_toFixed.ok (envOk_nil)) (by kernel_rfl) (by kernel_rfl) (by kernel_rfl) (by kernel_rfl) fun k x r h => (laws_toFixedS.eq k x).trans h
/-! laws.toPool -/
noncomputable def laws_toPool.c : Code := bodyOf Try.f24
def laws_toPool.h : Nat → Hint := look ⟨[], [], []⟩ []
def laws_toPool.ps : List PK := [.agg 4]
def laws_toPool.rs : List RK := [.agg 4 true]
def laws_toPool.vs : List ResultVar := [.cell 2 50]
def laws_toPool.x : Cx := ⟨tt, look none [(76, some laws_toPrefix.K), (77, some laws_toLeaseS.K), (78, some laws_toFixedS.K)]⟩
def laws_toPool.f (k : Nat) (a0_0 : Int) (a0_1 : Int) (a0_2 : List (Int × Int × Int)) (a0_3 : List (Int × Int)) : Option (Int × Int × (List (Int × Int × Int)) × (List (Int × Int))) :=
  (laws_toPrefix.f k a0_0 a0_1).bind fun r1 => (laws_toLeaseS.f k a0_2).bind fun r2 => (laws_toFixedS.f k a0_3).bind fun r3 => some (r1.1, r1.2, r2, r3)
def laws_toPool.K : Ctr := ⟨laws_toPool.ps, laws_toPool.rs, false, (.two (.int .i64) (.two (.int .i64) (.two (.sl 148 (.two (.int .i64) (.two (.int .i64) (.int .i64)))) (.sl 152 (.two (.int .i64) (.int .i64)))))), (.two (.int .i64) (.two (.int .i64) (.two (.sl 63 (.two (.int .i64) (.two (.int .i64) (.int .i64)))) (.sl 150 (.two (.int .i64) (.int .i64)))))), fun k x => laws_toPool.f k x.1 x.2.1 x.2.2.1 x.2.2.2⟩
theorem laws_toPool.eq (k : Nat) (x : (laws_toPool.K.I).den) : func laws_toPool.x laws_toPool.h laws_toPool.ps laws_toPool.rs laws_toPool.vs laws_toPool.K.I laws_toPool.K.O laws_toPool.c k x = laws_toPool.K.run k x := by
  show _ = laws_toPool.f k x.1 x.2.1 x.2.2.1 x.2.2.2
  kernel_rfl
theorem laws_toPool.ok : CtrOk Try.prog 24 laws_toPool.K :=
  CtrOk.of (fn := Try.f24) (cd := laws_toPool.c) (cx := laws_toPool.x) (hs := laws_toPool.h) (by kernel_rfl) (by kernel_rfl) (by kernel_rfl) (by kernel_rfl) tt_ok (envOk_cons laws_toPrefix.ok (envOk_cons laws_toLeaseS.ok (envOk_cons laws_toFixedS.ok (envOk_nil)))) (by kernel_rfl) (by kernel_rfl) (by kernel_rfl) (by kernel_rfl) fun k x r h => (laws_toPool.eq k x).trans h
/-! spec.l11Copy -/
noncomputable def spec_l11Copy.c : Code := bodyOf Try.f75
def spec_l11Copy.h : Nat → Hint := look ⟨[], [], []⟩ []
def spec_l11Copy.ps : List PK := [.agg 4]
def spec_l11Copy.rs : List RK := [.agg 4 true]
def spec_l11Copy.vs : List ResultVar := [.cell 2 50]
def spec_l11Copy.x : Cx := ⟨tt, look none []⟩
def spec_l11Copy.f (_k : Nat) (a0_0 : Int) (a0_1 : Int) (a0_2 : List (Int × Int × Int)) (a0_3 : List (Int × Int)) : Option (Int × Int × (List (Int × Int × Int)) × (List (Int × Int))) :=
  (bif decide ((([] : List (Int × Int × Int)).length + a0_2.length) * 24 ≤ 140737488355328) then (bif decide ((([] : List (Int × Int)).length + a0_3.length) * 16 ≤ 140737488355328) then some (a0_0, a0_1, (([] : List (Int × Int × Int)) ++ a0_2), (([] : List (Int × Int)) ++ a0_3)) else none) else none)
def spec_l11Copy.K : Ctr := ⟨spec_l11Copy.ps, spec_l11Copy.rs, false, (.two (.int .i64) (.two (.int .i64) (.two (.sl 63 (.two (.int .i64) (.two (.int .i64) (.int .i64)))) (.sl 150 (.two (.int .i64) (.int .i64)))))), (.two (.int .i64) (.two (.int .i64) (.two (.sl 63 (.two (.int .i64) (.two (.int .i64) (.int .i64)))) (.sl 150 (.two (.int .i64) (.int .i64)))))), fun k x => spec_l11Copy.f k x.1 x.2.1 x.2.2.1 x.2.2.2⟩
theorem spec_l11Copy.eq (k : Nat) (x : (spec_l11Copy.K.I).den) : func spec_l11Copy.x spec_l11Copy.h spec_l11Copy.ps spec_l11Copy.rs spec_l11Copy.vs spec_l11Copy.K.I spec_l11Copy.K.O spec_l11Copy.c k x = spec_l11Copy.K.run k x := by
  show _ = spec_l11Copy.f k x.1 x.2.1 x.2.2.1 x.2.2.2
  kernel_rfl
theorem spec_l11Copy.ok : CtrOk Try.prog 75 spec_l11Copy.K :=
  CtrOk.of (fn := Try.f75) (cd := spec_l11Copy.c) (cx := spec_l11Copy.x) (hs := spec_l11Copy.h) (by kernel_rfl) (by kernel_rfl) (by kernel_rfl) (by kernel_rfl) tt_ok (envOk_nil) (by kernel_rfl) (by kernel_rfl) (by kernel_rfl) (by kernel_rfl) fun k x r h => (spec_l11Copy.eq k x).trans h
/-! spec.l01In -/
noncomputable def spec_l01In.c : Code := bodyOf Try.f98
def spec_l01In.h : Nat → Hint := look ⟨[], [], []⟩ []
def spec_l01In.ps : List PK := [.one, .one, .one]
def spec_l01In.rs : List RK := [.one true]
def spec_l01In.vs : List ResultVar := [.tmp 6]
def spec_l01In.x : Cx := ⟨tt, look none []⟩
def spec_l01In.f (_k : Nat) (a0 : Int) (a1 : Int) (a2 : Int) : Option (Bool) :=
  (bif (decide (a0 ≥ a1)) then some (decide (a0 ≤ a2)) else some false)
def spec_l01In.K : Ctr := ⟨spec_l01In.ps, spec_l01In.rs, false, (.two (.int .i64) (.two (.int .i64) (.int .i64))), .bool, fun k x => spec_l01In.f k x.1 x.2.1 x.2.2⟩
theorem spec_l01In.eq (k : Nat) (x : (spec_l01In.K.I).den) : func spec_l01In.x spec_l01In.h spec_l01In.ps spec_l01In.rs spec_l01In.vs spec_l01In.K.I spec_l01In.K.O spec_l01In.c k x = spec_l01In.K.run k x := by
  show _ = spec_l01In.f k x.1 x.2.1 x.2.2
  kernel_rfl
theorem spec_l01In.ok : CtrOk Try.prog 98 spec_l01In.K :=
  CtrOk.of (fn := Try.f98) (cd := spec_l01In.c) (cx := spec_l01In.x) (hs := spec_l01In.h) (by kernel_rfl) (by kernel_rfl) (by kernel_rfl) (by kernel_rfl) tt_ok (envOk_nil) (by kernel_rfl) (by kernel_rfl) (by kernel_rfl) (by kernel_rfl) fun k x r h => (spec_l01In.eq k x).trans h
/-! spec.AddrOk -/
noncomputable def spec_AddrOk.c : Code := bodyOf Try.f101
def spec_AddrOk.h : Nat → Hint := look ⟨[], [], []⟩ []
def spec_AddrOk.ps : List PK := [.one]
def spec_AddrOk.rs : List RK := [.one true]
def spec_AddrOk.vs : List ResultVar := [.tmp 2]
def spec_AddrOk.x : Cx := ⟨tt, look none [(98, some spec_l01In.K)]⟩
def spec_AddrOk.f (k : Nat) (a0 : Int) : Option (Bool) :=
  (spec_l01In.f k a0 (0 : Int) (4294967295 : Int)).bind fun r1 => some r1
def spec_AddrOk.K : Ctr := ⟨spec_AddrOk.ps, spec_AddrOk.rs, false, (.int .i64), .bool, fun k x => spec_AddrOk.f k x⟩
theorem spec_AddrOk.eq (k : Nat) (x : (spec_AddrOk.K.I).den) : func spec_AddrOk.x spec_AddrOk.h spec_AddrOk.ps spec_AddrOk.rs spec_AddrOk.vs spec_AddrOk.K.I spec_AddrOk.K.O spec_AddrOk.c k x = spec_AddrOk.K.run k x := by
  show _ = spec_AddrOk.f k x
  kernel_rfl
theorem spec_AddrOk.ok : CtrOk Try.prog 101 spec_AddrOk.K :=
  CtrOk.of (fn := Try.f101) (cd := spec_AddrOk.c) (cx := spec_AddrOk.x) (hs := spec_AddrOk.h) (by kernel_rfl) (by kernel_rfl) (by kernel_rfl) (by kernel_rfl) tt_ok (envOk_cons spec_l01In.ok (envOk_nil)) (by kernel_rfl) (by kernel_rfl) (by kernel_rfl) (by kernel_rfl) fun k x r h => (spec_AddrOk.eq k x).trans h
/-! spec.l08Size -/
noncomputable def spec_l08Size.c : Code := bodyOf Try.f102
def spec_l08Size.h : Nat → Hint := look ⟨[], [], []⟩ [(0, ⟨[3, 4], [], []⟩)]
def spec_l08Size.ps : List PK := [.one]
def spec_l08Size.rs : List RK := [.one true]
def spec_l08Size.vs : List ResultVar := [.tmp 2]
def spec_l08Size.x : Cx := ⟨tt, look none []⟩
def spec_l08Size.s0 (_k : Nat) (rec0 : (Int × Int) → Option (Int)) (p : (Int × Int)) : Option (Int) :=
  (bif (decide (p.2 < (32 : Int))) then rec0 ((IntKind.i64.wrap ((2 : Int) * p.1)), (IntKind.i64.wrap (p.2 + (1 : Int)))) else some p.1)
def spec_l08Size.l0 (k : Nat) : Nat → (Int × Int) → Option (Int)
  | 0 => fun _ => none
  | j + 1 => spec_l08Size.s0 k (spec_l08Size.l0 k j)
def spec_l08Size.S0 (p : (Int × Int)) : DS := ⟨tl [(3, .at (.int .i64 p.1)), (4, .at (.int .i64 p.2))], lookO []⟩
noncomputable def spec_l08Size.D0 (k : Nat) (j : Nat) (p : (Int × Int)) : Option (Int) := loopK (norm [] (spec_l08Size.h 0)) (runK spec_l08Size.x k 0 [] spec_l08Size.h 0 (sub spec_l08Size.c [1, 1, 0, 1, 0, 0])) j (spec_l08Size.S0 p) (kBlk 0 (kSeq (runK spec_l08Size.x k 0 [] spec_l08Size.h 0 (sub spec_l08Size.c [1, 1, 1])) (fin tt spec_l08Size.ps spec_l08Size.rs spec_l08Size.vs (.int .i64))))
theorem spec_l08Size.D0_eq (k : Nat) : ∀ j, spec_l08Size.D0 k j = spec_l08Size.l0 k j := by
  intro j
  induction j with
  | zero => rfl
  | succ j ih =>
    show _ = spec_l08Size.s0 k (spec_l08Size.l0 k j)
    rw [← ih]
    funext p
    kernel_rfl
def spec_l08Size.f (k : Nat) (a0 : Int) : Option (Int) :=
  spec_l08Size.l0 k k ((1 : Int), a0)
def spec_l08Size.K : Ctr := ⟨spec_l08Size.ps, spec_l08Size.rs, false, (.int .i64), (.int .i64), fun k x => spec_l08Size.f k x⟩
theorem spec_l08Size.eq (k : Nat) (x : (spec_l08Size.K.I).den) : func spec_l08Size.x spec_l08Size.h spec_l08Size.ps spec_l08Size.rs spec_l08Size.vs spec_l08Size.K.I spec_l08Size.K.O spec_l08Size.c k x = spec_l08Size.K.run k x := by
  show _ = spec_l08Size.f k x
  unfold spec_l08Size.f
  rw [← spec_l08Size.D0_eq k k]
  kernel_rfl
theorem spec_l08Size.ok : CtrOk Try.prog 102 spec_l08Size.K :=
  CtrOk.of (fn := Try.f102) (cd := spec_l08Size.c) (cx := spec_l08Size.x) (hs := spec_l08Size.h) (by kernel_rfl) (by kernel_rfl) (by kernel_rfl) (by kernel_rfl) tt_ok (envOk_nil) (by kernel_rfl) (by kernel_rfl) (by kernel_rfl) (by kernel_rfl) fun k x r h => (spec_l08Size.eq k x).trans h
/-! spec.PrefixOk -/
noncomputable def spec_PrefixOk.c : Code := bodyOf Try.f100
def spec_PrefixOk.h : Nat → Hint := look ⟨[], [], []⟩ []
def spec_PrefixOk.ps : List PK := [.agg 2]
def spec_PrefixOk.rs : List RK := [.one true]
def spec_PrefixOk.vs : List ResultVar := [.tmp 2]
def spec_PrefixOk.x : Cx := ⟨tt, look none [(101, some spec_AddrOk.K), (98, some spec_l01In.K), (102, some spec_l08Size.K)]⟩
def spec_PrefixOk.f (k : Nat) (a0_0 : Int) (a0_1 : Int) : Option (Bool) :=
  (spec_AddrOk.f k a0_0).bind fun r1 => (bif r1 then (spec_l01In.f k a0_1 (0 : Int) (32 : Int)).bind fun r2 => (bif r2 then (spec_l08Size.f k a0_1).bind fun r3 => (bif (r3 == 0) then none else some ((a0_0.tmod r3) == (0 : Int))) else some false) else some false)
def spec_PrefixOk.K : Ctr := ⟨spec_PrefixOk.ps, spec_PrefixOk.rs, false, (.two (.int .i64) (.int .i64)), .bool, fun k x => spec_PrefixOk.f k x.1 x.2⟩
theorem spec_PrefixOk.eq (k : Nat) (x : (spec_PrefixOk.K.I).den) : func spec_PrefixOk.x spec_PrefixOk.h spec_PrefixOk.ps spec_PrefixOk.rs spec_PrefixOk.vs spec_PrefixOk.K.I spec_PrefixOk.K.O spec_PrefixOk.c k x = spec_PrefixOk.K.run k x := by
  show _ = spec_PrefixOk.f k x.1 x.2
  kernel_rfl
theorem spec_PrefixOk.ok : CtrOk Try.prog 100 spec_PrefixOk.K :=
  CtrOk.of (fn := Try.f100) (cd := spec_PrefixOk.c) (cx := spec_PrefixOk.x) (hs := spec_PrefixOk.h) (by kernel_rfl) (by kernel_rfl) (by kernel_rfl) (by kernel_rfl) tt_ok (envOk_cons spec_AddrOk.ok (envOk_cons spec_l01In.ok (envOk_cons spec_l08Size.ok (envOk_nil)))) (by kernel_rfl) (by kernel_rfl) (by kernel_rfl) (by kernel_rfl) fun k x r h => (spec_PrefixOk.eq k x).trans h
/-! spec.InPrefix -/
noncomputable def spec_InPrefix.c : Code := bodyOf Try.f42
def spec_InPrefix.h : Nat → Hint := look ⟨[], [], []⟩ []
def spec_InPrefix.ps : List PK := [.agg 2, .one]
def spec_InPrefix.rs : List RK := [.one true]
def spec_InPrefix.vs : List ResultVar := [.tmp 4]
def spec_InPrefix.x : Cx := ⟨tt, look none [(100, some spec_PrefixOk.K), (101, some spec_AddrOk.K), (102, some spec_l08Size.K)]⟩
def spec_InPrefix.f (k : Nat) (a0_0 : Int) (a0_1 : Int) (a1 : Int) : Option (Bool) :=
  (spec_PrefixOk.f k a0_0 a0_1).bind fun r1 => (bif r1 then (spec_AddrOk.f k a1).bind fun r2 => (bif r2 then (spec_l08Size.f k a0_1).bind fun r3 => (bif (r3 == 0) then none else some ((IntKind.i64.wrap (a1 - (a1.tmod r3))) == a0_0)) else some false) else some false)
def spec_InPrefix.K : Ctr := ⟨spec_InPrefix.ps, spec_InPrefix.rs, false, (.two (.int .i64) (.two (.int .i64) (.int .i64))), .bool, fun k x => spec_InPrefix.f k x.1 x.2.1 x.2.2⟩
theorem spec_InPrefix.eq (k : Nat) (x : (spec_InPrefix.K.I).den) : func spec_InPrefix.x spec_InPrefix.h spec_InPrefix.ps spec_InPrefix.rs spec_InPrefix.vs spec_InPrefix.K.I spec_InPrefix.K.O spec_InPrefix.c k x = spec_InPrefix.K.run k x := by
  show _ = spec_InPrefix.f k x.1 x.2.1 x.2.2
  kernel_rfl
theorem spec_InPrefix.ok : CtrOk Try.prog 42 spec_InPrefix.K :=
  CtrOk.of (fn := Try.f42) (cd := spec_InPrefix.c) (cx := spec_InPrefix.x) (hs := spec_InPrefix.h) (by kernel_rfl) (by kernel_rfl) (by kernel_rfl) (by kernel_rfl) tt_ok (envOk_cons spec_PrefixOk.ok (envOk_cons spec_AddrOk.ok (envOk_cons spec_l08Size.ok (envOk_nil)))) (by kernel_rfl) (by kernel_rfl) (by kernel_rfl) (by kernel_rfl) fun k x r h => (spec_InPrefix.eq k x).trans h
/-! spec.l11Inside -/
noncomputable def spec_l11Inside.c : Code := bodyOf Try.f136
def spec_l11Inside.h : Nat → Hint := look ⟨[], [], []⟩ []
def spec_l11Inside.ps : List PK := [.agg 4, .one]
def spec_l11Inside.rs : List RK := [.one true]
def spec_l11Inside.vs : List ResultVar := [.tmp 4]
def spec_l11Inside.x : Cx := ⟨tt, look none [(42, some spec_InPrefix.K), (102, some spec_l08Size.K)]⟩
def spec_l11Inside.f (k : Nat) (a0_0 : Int) (a0_1 : Int) (_a0_2 : List (Int × Int × Int)) (_a0_3 : List (Int × Int)) (a1 : Int) : Option (Bool) :=
  (spec_InPrefix.f k a0_0 a0_1 a1).bind fun r1 => (bif r1 then (bif (a1 != a0_0) then (spec_l08Size.f k a0_1).bind fun r2 => some (a1 != (IntKind.i64.wrap ((IntKind.i64.wrap (a0_0 + r2)) - (1 : Int)))) else some false) else some false)
def spec_l11Inside.K : Ctr := ⟨spec_l11Inside.ps, spec_l11Inside.rs, false, (.two (.int .i64) (.two (.int .i64) (.two (.sl 63 (.two (.int .i64) (.two (.int .i64) (.int .i64)))) (.two (.sl 150 (.two (.int .i64) (.int .i64))) (.int .i64))))), .bool, fun k x => spec_l11Inside.f k x.1 x.2.1 x.2.2.1 x.2.2.2.1 x.2.2.2.2⟩
theorem spec_l11Inside.eq (k : Nat) (x : (spec_l11Inside.K.I).den) : func spec_l11Inside.x spec_l11Inside.h spec_l11Inside.ps spec_l11Inside.rs spec_l11Inside.vs spec_l11Inside.K.I spec_l11Inside.K.O spec_l11Inside.c k x = spec_l11Inside.K.run k x := by
  show _ = spec_l11Inside.f k x.1 x.2.1 x.2.2.1 x.2.2.2.1 x.2.2.2.2
  kernel_rfl
theorem spec_l11Inside.ok : CtrOk Try.prog 136 spec_l11Inside.K :=
  CtrOk.of (fn := Try.f136) (cd := spec_l11Inside.c) (cx := spec_l11Inside.x) (hs := spec_l11Inside.h) (by kernel_rfl) (by kernel_rfl) (by kernel_rfl) (by kernel_rfl) tt_ok (envOk_cons spec_InPrefix.ok (envOk_cons spec_l08Size.ok (envOk_nil))) (by kernel_rfl) (by kernel_rfl) (by kernel_rfl) (by kernel_rfl) fun k x r h => (spec_l11Inside.eq k x).trans h
/-! spec.l11FixedFor -/
noncomputable def spec_l11FixedFor.c : Code := bodyOf Try.f137
def spec_l11FixedFor.h : Nat → Hint := look ⟨[], [], []⟩ [(0, ⟨[1, 2, 5], [32], []⟩)]
def spec_l11FixedFor.ps : List PK := [.agg 4, .one]
def spec_l11FixedFor.rs : List RK := [.one true]
def spec_l11FixedFor.vs : List ResultVar := [.tmp 4]
def spec_l11FixedFor.x : Cx := ⟨tt, look none []⟩
def spec_l11FixedFor.s0 (_k : Nat) (rec0 : (Int × Int × (List (Int × Int × Int)) × (List (Int × Int)) × Int × Int) → Option (Int)) (p : (Int × Int × (List (Int × Int × Int)) × (List (Int × Int)) × Int × Int)) : Option (Int) :=
  (bif (decide (p.2.1 < (p.2.2.2.1.length : Int))) then (bif ((decide ((0 : Int) ≤ p.2.1)) && (decide (p.2.1 < (p.2.2.2.1.length : Int)))) then (p.2.2.2.1[p.2.1.toNat]?).bind fun x1 => (bif (x1.2 == p.1) then (bif ((decide ((0 : Int) ≤ p.2.1)) && (decide (p.2.1 < (p.2.2.2.1.length : Int)))) then (p.2.2.2.1[p.2.1.toNat]?).bind fun x2 => some x2.1 else none) else rec0 (p.1, (IntKind.i64.wrap (p.2.1 + (1 : Int))), p.2.2.1, p.2.2.2.1, p.2.2.2.2.1, p.2.2.2.2.2)) else none) else some (0 : Int))
def spec_l11FixedFor.l0 (k : Nat) : Nat → (Int × Int × (List (Int × Int × Int)) × (List (Int × Int)) × Int × Int) → Option (Int)
  | 0 => fun _ => none
  | j + 1 => spec_l11FixedFor.s0 k (spec_l11FixedFor.l0 k j)
def spec_l11FixedFor.S0 (p : (Int × Int × (List (Int × Int × Int)) × (List (Int × Int)) × Int × Int)) : DS := ⟨tl [(1, .at (.int .i64 p.1)), (2, .at (.bptr 32 0)), (5, .at (.int .i64 p.2.1))], lookO [(2, .row 63 (.two (.int .i64) (.two (.int .i64) (.int .i64))) false p.2.2.1), (3, .row 150 (.two (.int .i64) (.int .i64)) false p.2.2.2.1), (32, .box 50 [.int .i64 p.2.2.2.2.1, .int .i64 p.2.2.2.2.2, .whole 2, .whole 3])]⟩
noncomputable def spec_l11FixedFor.D0 (k : Nat) (j : Nat) (p : (Int × Int × (List (Int × Int × Int)) × (List (Int × Int)) × Int × Int)) : Option (Int) := loopK (norm [2, 3] (spec_l11FixedFor.h 0)) (runK spec_l11FixedFor.x k 0 [2, 3] spec_l11FixedFor.h 0 (sub spec_l11FixedFor.c [1, 0, 1, 0, 0])) j (spec_l11FixedFor.S0 p) (kBlk 0 (kSeq (runK spec_l11FixedFor.x k 0 [2, 3] spec_l11FixedFor.h 0 (sub spec_l11FixedFor.c [1, 1])) (fin tt spec_l11FixedFor.ps spec_l11FixedFor.rs spec_l11FixedFor.vs (.int .i64))))
theorem spec_l11FixedFor.D0_eq (k : Nat) : ∀ j, spec_l11FixedFor.D0 k j = spec_l11FixedFor.l0 k j := by
  intro j
  induction j with
  | zero => rfl
  | succ j ih =>
    show _ = spec_l11FixedFor.s0 k (spec_l11FixedFor.l0 k j)
    rw [← ih]
    funext p
    kernel_rfl
def spec_l11FixedFor.f (k : Nat) (a0_0 : Int) (a0_1 : Int) (a0_2 : List (Int × Int × Int)) (a0_3 : List (Int × Int)) (a1 : Int) : Option (Int) :=
  spec_l11FixedFor.l0 k k (a1, (0 : Int), a0_2, a0_3, a0_0, a0_1)
def spec_l11FixedFor.K : Ctr := ⟨spec_l11FixedFor.ps, spec_l11FixedFor.rs, false, (.two (.int .i64) (.two (.int .i64) (.two (.sl 63 (.two (.int .i64) (.two (.int .i64) (.int .i64)))) (.two (.sl 150 (.two (.int .i64) (.int .i64))) (.int .i64))))), (.int .i64), fun k x => spec_l11FixedFor.f k x.1 x.2.1 x.2.2.1 x.2.2.2.1 x.2.2.2.2⟩
theorem spec_l11FixedFor.eq (k : Nat) (x : (spec_l11FixedFor.K.I).den) : func spec_l11FixedFor.x spec_l11FixedFor.h spec_l11FixedFor.ps spec_l11FixedFor.rs spec_l11FixedFor.vs spec_l11FixedFor.K.I spec_l11FixedFor.K.O spec_l11FixedFor.c k x = spec_l11FixedFor.K.run k x := by
  show _ = spec_l11FixedFor.f k x.1 x.2.1 x.2.2.1 x.2.2.2.1 x.2.2.2.2
  unfold spec_l11FixedFor.f
  rw [← spec_l11FixedFor.D0_eq k k]
  kernel_rfl
theorem spec_l11FixedFor.ok : CtrOk Try.prog 137 spec_l11FixedFor.K :=
  CtrOk.of (fn := Try.f137) (cd := spec_l11FixedFor.c) (cx := spec_l11FixedFor.x) (hs := spec_l11FixedFor.h) (by kernel_rfl) (by kernel_rfl) (by kernel_rfl) (by kernel_rfl) tt_ok (envOk_nil) (by kernel_rfl) (by kernel_rfl) (by kernel_rfl) (by kernel_rfl) fun k x r h => (spec_l11FixedFor.eq k x).trans h
end Go.Proofs.Ytfaeklomiofpdaa.DI
