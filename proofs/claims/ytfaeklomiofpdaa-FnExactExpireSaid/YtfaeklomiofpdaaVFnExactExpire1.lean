/- FnExactExpire: functions as plain Lean, in the machine of values. -/
import Derived.Test.YtfaeklomiofpdaaVFnExactExpire0
namespace Go.Proofs.Ytfaeklomiofpdaa.DI
open Go
set_option linter.unusedVariables false
/-! laws.szLeaseS -/
noncomputable def laws_szLeaseS.c : Code := bodyOf Try.f73
def laws_szLeaseS.h : Nat → Hint := look ⟨[], [], []⟩ []
def laws_szLeaseS.ps : List PK := [.one, .one]
def laws_szLeaseS.rs : List RK := [.one true]
def laws_szLeaseS.vs : List ResultVar := [.tmp 4]
def laws_szLeaseS.x : Cx := ⟨tt, look none []⟩
def laws_szLeaseS.f (_k : Nat) (a0 : List (Int × Int × Int)) (a1 : Int) : Option (Int) :=
  (bif (decide ((IntKind.i64.wrap (a1 - (a0.length : Int))) < (0 : Int))) then some (-1 : Int) else some (IntKind.i64.wrap (a1 - (a0.length : Int))))
def laws_szLeaseS.K : Ctr := ⟨laws_szLeaseS.ps, laws_szLeaseS.rs, false, (.two (.sl 148 (.two (.int .i64) (.two (.int .i64) (.int .i64)))) (.int .i64)), (.int .i64), fun k x => laws_szLeaseS.f k x.1 x.2⟩
theorem laws_szLeaseS.eq (k : Nat) (x : (laws_szLeaseS.K.I).den) : func laws_szLeaseS.x laws_szLeaseS.h laws_szLeaseS.ps laws_szLeaseS.rs laws_szLeaseS.vs laws_szLeaseS.K.I laws_szLeaseS.K.O laws_szLeaseS.c k x = laws_szLeaseS.K.run k x := by
  show _ = laws_szLeaseS.f k x.1 x.2
  kernel_rfl
theorem laws_szLeaseS.ok : CtrOk Try.prog 73 laws_szLeaseS.K :=
  CtrOk.of (fn := Try.f73) (cd := laws_szLeaseS.c) (cx := laws_szLeaseS.x) (hs := laws_szLeaseS.h) (by kernel_rfl) (by kernel_rfl) (by kernel_rfl) (by kernel_rfl) tt_ok (envOk_nil) (by kernel_rfl) (by kernel_rfl) (by kernel_rfl) (by kernel_rfl) fun k x r h => (laws_szLeaseS.eq k x).trans h
/-! laws.szFixedS -/
noncomputable def laws_szFixedS.c : Code := bodyOf Try.f74
def laws_szFixedS.h : Nat → Hint := look ⟨[], [], []⟩ []
def laws_szFixedS.ps : List PK := [.one, .one]
def laws_szFixedS.rs : List RK := [.one true]
def laws_szFixedS.vs : List ResultVar := [.tmp 4]
def laws_szFixedS.x : Cx := ⟨tt, look none []⟩
def laws_szFixedS.f (_k : Nat) (a0 : List (Int × Int)) (a1 : Int) : Option (Int) :=
  (bif (decide ((IntKind.i64.wrap (a1 - (a0.length : Int))) < (0 : Int))) then some (-1 : Int) else some (IntKind.i64.wrap (a1 - (a0.length : Int))))
def laws_szFixedS.K : Ctr := ⟨laws_szFixedS.ps, laws_szFixedS.rs, false, (.two (.sl 152 (.two (.int .i64) (.int .i64))) (.int .i64)), (.int .i64), fun k x => laws_szFixedS.f k x.1 x.2⟩
theorem laws_szFixedS.eq (k : Nat) (x : (laws_szFixedS.K.I).den) : func laws_szFixedS.x laws_szFixedS.h laws_szFixedS.ps laws_szFixedS.rs laws_szFixedS.vs laws_szFixedS.K.I laws_szFixedS.K.O laws_szFixedS.c k x = laws_szFixedS.K.run k x := by
  show _ = laws_szFixedS.f k x.1 x.2
  kernel_rfl
theorem laws_szFixedS.ok : CtrOk Try.prog 74 laws_szFixedS.K :=
  CtrOk.of (fn := Try.f74) (cd := laws_szFixedS.c) (cx := laws_szFixedS.x) (hs := laws_szFixedS.h) (by kernel_rfl) (by kernel_rfl) (by kernel_rfl) (by kernel_rfl) tt_ok (envOk_nil) (by kernel_rfl) (by kernel_rfl) (by kernel_rfl) (by kernel_rfl) fun k x r h => (laws_szFixedS.eq k x).trans h
/-! laws.szPool -/
noncomputable def laws_szPool.c : Code := bodyOf Try.f22
def laws_szPool.h : Nat → Hint := look ⟨[], [], []⟩ []
def laws_szPool.ps : List PK := [.agg 4, .one]
def laws_szPool.rs : List RK := [.one true]
def laws_szPool.vs : List ResultVar := [.tmp 4]
def laws_szPool.x : Cx := ⟨tt, look none [(73, some laws_szLeaseS.K), (74, some laws_szFixedS.K)]⟩
def laws_szPool.f (k : Nat) (_a0_0 : Int) (_a0_1 : Int) (a0_2 : List (Int × Int × Int)) (a0_3 : List (Int × Int)) (a1 : Int) : Option (Int) :=
  (laws_szLeaseS.f k a0_2 a1).bind fun r1 => (bif (decide (r1 < (0 : Int))) then some (-1 : Int) else (laws_szFixedS.f k a0_3 r1).bind fun r2 => (bif (decide (r2 < (0 : Int))) then some (-1 : Int) else some r2))
def laws_szPool.K : Ctr := ⟨laws_szPool.ps, laws_szPool.rs, false, (.two (.int .i64) (.two (.int .i64) (.two (.sl 148 (.two (.int .i64) (.two (.int .i64) (.int .i64)))) (.two (.sl 152 (.two (.int .i64) (.int .i64))) (.int .i64))))), (.int .i64), fun k x => laws_szPool.f k x.1 x.2.1 x.2.2.1 x.2.2.2.1 x.2.2.2.2⟩
theorem laws_szPool.eq (k : Nat) (x : (laws_szPool.K.I).den) : func laws_szPool.x laws_szPool.h laws_szPool.ps laws_szPool.rs laws_szPool.vs laws_szPool.K.I laws_szPool.K.O laws_szPool.c k x = laws_szPool.K.run k x := by
  show _ = laws_szPool.f k x.1 x.2.1 x.2.2.1 x.2.2.2.1 x.2.2.2.2
  kernel_rfl
theorem laws_szPool.ok : CtrOk Try.prog 22 laws_szPool.K :=
  CtrOk.of (fn := Try.f22) (cd := laws_szPool.c) (cx := laws_szPool.x) (hs := laws_szPool.h) (by kernel_rfl) (by kernel_rfl) (by kernel_rfl) (by kernel_rfl) tt_ok (envOk_cons laws_szLeaseS.ok (envOk_cons laws_szFixedS.ok (envOk_nil))) (by kernel_rfl) (by kernel_rfl) (by kernel_rfl) (by kernel_rfl) fun k x r h => (laws_szPool.eq k x).trans h
/-! laws.toPrefix -/
noncomputable def laws_toPrefix.c : Code := bodyOf Try.f76
def laws_toPrefix.h : Nat → Hint := look ⟨[], [], []⟩ []
def laws_toPrefix.ps : List PK := [.agg 2]
def laws_toPrefix.rs : List RK := [.agg 2 true]
def laws_toPrefix.vs : List ResultVar := [.cell 2 29]
def laws_toPrefix.x : Cx := ⟨tt, look none []⟩
def laws_toPrefix.f (_k : Nat) (a0_0 : Int) (a0_1 : Int) : Option (Int × Int) :=
  some (a0_0, a0_1)
def laws_toPrefix.K : Ctr := ⟨laws_toPrefix.ps, laws_toPrefix.rs, false, (.two (.int .i64) (.int .i64)), (.two (.int .i64) (.int .i64)), fun k x => laws_toPrefix.f k x.1 x.2⟩
theorem laws_toPrefix.eq (k : Nat) (x : (laws_toPrefix.K.I).den) : func laws_toPrefix.x laws_toPrefix.h laws_toPrefix.ps laws_toPrefix.rs laws_toPrefix.vs laws_toPrefix.K.I laws_toPrefix.K.O laws_toPrefix.c k x = laws_toPrefix.K.run k x := by
  show _ = laws_toPrefix.f k x.1 x.2
  kernel_rfl
theorem laws_toPrefix.ok : CtrOk Try.prog 76 laws_toPrefix.K :=
  CtrOk.of (fn := Try.f76) (cd := laws_toPrefix.c) (cx := laws_toPrefix.x) (hs := laws_toPrefix.h) (by kernel_rfl) (by kernel_rfl) (by kernel_rfl) (by kernel_rfl) tt_ok (envOk_nil) (by kernel_rfl) (by kernel_rfl) (by kernel_rfl) (by kernel_rfl) fun k x r h => (laws_toPrefix.eq k x).trans h
/-! laws.toLease -/
noncomputable def laws_toLease.c : Code := bodyOf Try.f132
def laws_toLease.h : Nat → Hint := look ⟨[], [], []⟩ []
def laws_toLease.ps : List PK := [.agg 3]
def laws_toLease.rs : List RK := [.agg 3 true]
def laws_toLease.vs : List ResultVar := [.cell 2 63]
def laws_toLease.x : Cx := ⟨tt, look none []⟩
def laws_toLease.f (_k : Nat) (a0_0 : Int) (a0_1 : Int) (a0_2 : Int) : Option (Int × Int × Int) :=
  some (a0_0, a0_1, a0_2)
def laws_toLease.K : Ctr := ⟨laws_toLease.ps, laws_toLease.rs, false, (.two (.int .i64) (.two (.int .i64) (.int .i64))), (.two (.int .i64) (.two (.int .i64) (.int .i64))), fun k x => laws_toLease.f k x.1 x.2.1 x.2.2⟩
theorem laws_toLease.eq (k : Nat) (x : (laws_toLease.K.I).den) : func laws_toLease.x laws_toLease.h laws_toLease.ps laws_toLease.rs laws_toLease.vs laws_toLease.K.I laws_toLease.K.O laws_toLease.c k x = laws_toLease.K.run k x := by
  show _ = laws_toLease.f k x.1 x.2.1 x.2.2
  kernel_rfl
theorem laws_toLease.ok : CtrOk Try.prog 132 laws_toLease.K :=
  CtrOk.of (fn := Try.f132) (cd := laws_toLease.c) (cx := laws_toLease.x) (hs := laws_toLease.h) (by kernel_rfl) (by kernel_rfl) (by kernel_rfl) (by kernel_rfl) tt_ok (envOk_nil) (by kernel_rfl) (by kernel_rfl) (by kernel_rfl) (by kernel_rfl) fun k x r h => (laws_toLease.eq k x).trans h
/-! laws.toLeaseS -/
noncomputable def laws_toLeaseS.c : Code := bodyOf Try.f77
def laws_toLeaseS.h : Nat → Hint := look ⟨[], [], []⟩ [(0, ⟨[0, 3, 4], [], [(.t 3, 368, 63, (.two (.int .i64) (.two (.int .i64) (.int .i64))))]⟩)]
def laws_toLeaseS.ps : List PK := [.one]
def laws_toLeaseS.rs : List RK := [.one true]
def laws_toLeaseS.vs : List ResultVar := [.tmp 2]
def laws_toLeaseS.x : Cx := ⟨tt, look none [(132, some laws_toLease.K)]⟩
def laws_toLeaseS.s0 (k : Nat) (rec0 : (Int × (List (Int × Int × Int)) × (List (Int × Int × Int))) → Option ((List (Int × Int × Int)))) (p : (Int × (List (Int × Int × Int)) × (List (Int × Int × Int)))) : Option ((List (Int × Int × Int))) :=
  (bif (decide (p.1 < (p.2.1.length : Int))) then (bif ((decide ((0 : Int) ≤ p.1)) && (decide (p.1 < (p.2.1.length : Int)))) then (p.2.1[p.1.toNat]?).bind fun x1 => (laws_toLease.f k x1.1 x1.2.1 x1.2.2).bind fun r2 => (bif ((decide ((0 : Int) ≤ p.1)) && (decide (p.1 < (p.2.2.length : Int)))) then (p.2.2[p.1.toNat]?).bind fun x3 => rec0 ((IntKind.i64.wrap (p.1 + (1 : Int))), p.2.1, (p.2.2.set p.1.toNat (r2.1, r2.2.1, r2.2.2))) else none) else none) else some p.2.2)
def laws_toLeaseS.l0 (k : Nat) : Nat → (Int × (List (Int × Int × Int)) × (List (Int × Int × Int))) → Option ((List (Int × Int × Int)))
  | 0 => fun _ => none
  | j + 1 => laws_toLeaseS.s0 k (laws_toLeaseS.l0 k j)
def laws_toLeaseS.S0 (p : (Int × (List (Int × Int × Int)) × (List (Int × Int × Int)))) : DS := ⟨tl [(0, .at (.whole 0)), (3, .at (.whole 368)), (4, .at (.int .i64 p.1))], lookO [(0, .row 148 (.two (.int .i64) (.two (.int .i64) (.int .i64))) false p.2.1), (368, .row 63 (.two (.int .i64) (.two (.int .i64) (.int .i64))) true p.2.2)]⟩
noncomputable def laws_toLeaseS.D0 (k : Nat) (j : Nat) (p : (Int × (List (Int × Int × Int)) × (List (Int × Int × Int)))) : Option ((List (Int × Int × Int))) := loopK (norm [0] (laws_toLeaseS.h 0)) (runK laws_toLeaseS.x k 0 [0] laws_toLeaseS.h 0 (sub laws_toLeaseS.c [1, 1, 0, 1, 0, 0])) j (laws_toLeaseS.S0 p) (kBlk 0 (kSeq (runK laws_toLeaseS.x k 0 [0] laws_toLeaseS.h 0 (sub laws_toLeaseS.c [1, 1, 1])) (fin tt laws_toLeaseS.ps laws_toLeaseS.rs laws_toLeaseS.vs (.sl 63 (.two (.int .i64) (.two (.int .i64) (.int .i64)))))))
theorem laws_toLeaseS.D0_eq (k : Nat) : ∀ j, laws_toLeaseS.D0 k j = laws_toLeaseS.l0 k j := by
  intro j
  induction j with
  | zero => rfl
  | succ j ih =>
    show _ = laws_toLeaseS.s0 k (laws_toLeaseS.l0 k j)
    rw [← ih]
    funext p
    kernel_rfl
def laws_toLeaseS.f (k : Nat) (a0 : List (Int × Int × Int)) : Option ((List (Int × Int × Int))) :=
  (bif ((decide ((0 : Int) ≤ (a0.length : Int))) && decide ((a0.length : Int) * 24 ≤ 140737488355328)) then laws_toLeaseS.l0 k k ((0 : Int), a0, (List.replicate (a0.length : Int).toNat ((0 : Int), (0 : Int), (0 : Int)))) else none)
def laws_toLeaseS.K : Ctr := ⟨laws_toLeaseS.ps, laws_toLeaseS.rs, false, (.sl 148 (.two (.int .i64) (.two (.int .i64) (.int .i64)))), (.sl 63 (.two (.int .i64) (.two (.int .i64) (.int .i64)))), fun k x => laws_toLeaseS.f k x⟩
theorem laws_toLeaseS.eq (k : Nat) (x : (laws_toLeaseS.K.I).den) : func laws_toLeaseS.x laws_toLeaseS.h laws_toLeaseS.ps laws_toLeaseS.rs laws_toLeaseS.vs laws_toLeaseS.K.I laws_toLeaseS.K.O laws_toLeaseS.c k x = laws_toLeaseS.K.run k x := by
  show _ = laws_toLeaseS.f k x
  unfold laws_toLeaseS.f
  rw [← laws_toLeaseS.D0_eq k k]
  kernel_rfl
theorem laws_toLeaseS.ok : CtrOk Try.prog 77 laws_toLeaseS.K :=
  CtrOk.of (fn := Try.f77) (cd := laws_toLeaseS.c) (cx := laws_toLeaseS.x) (hs := laws_toLeaseS.h) (by kernel_rfl) (by kernel_rfl) (by kernel_rfl) (by kernel_rfl) tt_ok (envOk_cons laws_toLease.ok (envOk_nil)) (by kernel_rfl) (by kernel_rfl) (by kernel_rfl) (by kernel_rfl) fun k x r h => (laws_toLeaseS.eq k x).trans h
/-! laws.toFixed -/
noncomputable def laws_toFixed.c : Code := bodyOf Try.f133
def laws_toFixed.h : Nat → Hint := look ⟨[], [], []⟩ []
def laws_toFixed.ps : List PK := [.agg 2]
def laws_toFixed.rs : List RK := [.agg 2 true]
def laws_toFixed.vs : List ResultVar := [.cell 2 150]
def laws_toFixed.x : Cx := ⟨tt, look none []⟩
def laws_toFixed.f (_k : Nat) (a0_0 : Int) (a0_1 : Int) : Option (Int × Int) :=
  some (a0_0, a0_1)
def laws_toFixed.K : Ctr := ⟨laws_toFixed.ps, laws_toFixed.rs, false, (.two (.int .i64) (.int .i64)), (.two (.int .i64) (.int .i64)), fun k x => laws_toFixed.f k x.1 x.2⟩
theorem laws_toFixed.eq (k : Nat) (x : (laws_toFixed.K.I).den) : func laws_toFixed.x laws_toFixed.h laws_toFixed.ps laws_toFixed.rs laws_toFixed.vs laws_toFixed.K.I laws_toFixed.K.O laws_toFixed.c k x = laws_toFixed.K.run k x := by
  show _ = laws_toFixed.f k x.1 x.2
  kernel_rfl
theorem laws_toFixed.ok : CtrOk Try.prog 133 laws_toFixed.K :=
  CtrOk.of (fn := Try.f133) (cd := laws_toFixed.c) (cx := laws_toFixed.x) (hs := laws_toFixed.h) (by kernel_rfl) (by kernel_rfl) (by kernel_rfl) (by kernel_rfl) tt_ok (envOk_nil) (by kernel_rfl) (by kernel_rfl) (by kernel_rfl) (by kernel_rfl) fun k x r h => (laws_toFixed.eq k x).trans h
/-! laws.toFixedS -/
noncomputable def laws_toFixedS.c : Code := bodyOf Try.f78
def laws_toFixedS.h : Nat → Hint := look ⟨[], [], []⟩ [(0, ⟨[0, 3, 4], [], [(.t 3, 368, 150, (.two (.int .i64) (.int .i64)))]⟩)]
def laws_toFixedS.ps : List PK := [.one]
def laws_toFixedS.rs : List RK := [.one true]
def laws_toFixedS.vs : List ResultVar := [.tmp 2]
def laws_toFixedS.x : Cx := ⟨tt, look none [(133, some laws_toFixed.K)]⟩
def laws_toFixedS.s0 (k : Nat) (rec0 : (Int × (List (Int × Int)) × (List (Int × Int))) → Option ((List (Int × Int)))) (p : (Int × (List (Int × Int)) × (List (Int × Int)))) : Option ((List (Int × Int))) :=
  (bif (decide (p.1 < (p.2.1.length : Int))) then (bif ((decide ((0 : Int) ≤ p.1)) && (decide (p.1 < (p.2.1.length : Int)))) then (p.2.1[p.1.toNat]?).bind fun x1 => (laws_toFixed.f k x1.1 x1.2).bind fun r2 => (bif ((decide ((0 : Int) ≤ p.1)) && (decide (p.1 < (p.2.2.length : Int)))) then (p.2.2[p.1.toNat]?).bind fun x3 => rec0 ((IntKind.i64.wrap (p.1 + (1 : Int))), p.2.1, (p.2.2.set p.1.toNat (r2.1, r2.2))) else none) else none) else some p.2.2)
def laws_toFixedS.l0 (k : Nat) : Nat → (Int × (List (Int × Int)) × (List (Int × Int))) → Option ((List (Int × Int)))
  | 0 => fun _ => none
  | j + 1 => laws_toFixedS.s0 k (laws_toFixedS.l0 k j)
def laws_toFixedS.S0 (p : (Int × (List (Int × Int)) × (List (Int × Int)))) : DS := ⟨tl [(0, .at (.whole 0)), (3, .at (.whole 368)), (4, .at (.int .i64 p.1))], lookO [(0, .row 152 (.two (.int .i64) (.int .i64)) false p.2.1), (368, .row 150 (.two (.int .i64) (.int .i64)) true p.2.2)]⟩
noncomputable def laws_toFixedS.D0 (k : Nat) (j : Nat) (p : (Int × (List (Int × Int)) × (List (Int × Int)))) : Option ((List (Int × Int))) := loopK (norm [0] (laws_toFixedS.h 0)) (runK laws_toFixedS.x k 0 [0] laws_toFixedS.h 0 (sub laws_toFixedS.c [1, 1, 0, 1, 0, 0])) j (laws_toFixedS.S0 p) (kBlk 0 (kSeq (runK laws_toFixedS.x k 0 [0] laws_toFixedS.h 0 (sub laws_toFixedS.c [1, 1, 1])) (fin tt laws_toFixedS.ps laws_toFixedS.rs laws_toFixedS.vs (.sl 150 (.two (.int .i64) (.int .i64))))))
theorem laws_toFixedS.D0_eq (k : Nat) : ∀ j, laws_toFixedS.D0 k j = laws_toFixedS.l0 k j := by
  intro j
  induction j with
  | zero => rfl
  | succ j ih =>
    show _ = laws_toFixedS.s0 k (laws_toFixedS.l0 k j)
    rw [← ih]
    funext p
    kernel_rfl
def laws_toFixedS.f (k : Nat) (a0 : List (Int × Int)) : Option ((List (Int × Int))) :=
  (bif ((decide ((0 : Int) ≤ (a0.length : Int))) && decide ((a0.length : Int) * 16 ≤ 140737488355328)) then laws_toFixedS.l0 k k ((0 : Int), a0, (List.replicate (a0.length : Int).toNat ((0 : Int), (0 : Int)))) else none)
def laws_toFixedS.K : Ctr := ⟨laws_toFixedS.ps, laws_toFixedS.rs, false, (.sl 152 (.two (.int .i64) (.int .i64))), (.sl 150 (.two (.int .i64) (.int .i64))), fun k x => laws_toFixedS.f k x⟩
theorem laws_toFixedS.eq (k : Nat) (x : (laws_toFixedS.K.I).den) : func laws_toFixedS.x laws_toFixedS.h laws_toFixedS.ps laws_toFixedS.rs laws_toFixedS.vs laws_toFixedS.K.I laws_toFixedS.K.O laws_toFixedS.c k x = laws_toFixedS.K.run k x := by
  show _ = laws_toFixedS.f k x
  unfold laws_toFixedS.f
  rw [← laws_toFixedS.D0_eq k k]
  kernel_rfl
theorem laws_toFixedS.ok : CtrOk Try.prog 78 laws_toFixedS.K :=
  CtrOk.of (fn := Try.f78) (cd := laws_toFixedS.c) (cx := laws_toFixedS.x) (hs := laws_toFixedS.h) (by kernel_rfl) (by kernel_rfl) (by kernel_rfl) (by kernel_rfl) tt_ok (envOk_cons laws_toFixed.ok (envOk_nil)) (by kernel_rfl) (by kernel_rfl) (by kernel_rfl) (by kernel_rfl) fun k x r h => (laws_toFixedS.eq k x).trans h
/-! laws.toPool -/
noncomputable def laws_toPool.c : Code := bodyOf Try.f24
def laws_toPool.h : Nat → Hint := look ⟨[], [], []⟩ []
def laws_toPool.ps : List PK := [.agg 4]
def laws_toPool.rs : List RK := [.agg 4 true]
def laws_toPool.vs : List ResultVar := [.cell 2 50]
def laws_toPool.x : Cx := ⟨tt, look none [(76, some laws_toPrefix.K), (77, some laws_toLeaseS.K), (78, some laws_toFixedS.K)]⟩
def laws_toPool.f (k : Nat) (a0_0 : Int) (a0_1 : Int) (a0_2 : List (Int × Int × Int)) (a0_3 : List (Int × Int)) : Option (Int × Int × (List (Int × Int × Int)) × (List (Int × Int))) :=
  (laws_toPrefix.f k a0_0 a0_1).bind fun r1 => (laws_toLeaseS.f k a0_2).bind fun r2 => (laws_toFixedS.f k a0_3).bind fun r3 => some (r1.1, r1.2, r2, r3)
def laws_toPool.K : Ctr := ⟨laws_toPool.ps, laws_toPool.rs, false, (.two (.int .i64) (.two (.int .i64) (.two (.sl 148 (.two (.int .i64) (.two (.int .i64) (.int .i64)))) (.sl 152 (.two (.int .i64) (.int .i64)))))), (.two (.int .i64) (.two (.int .i64) (.two (.sl 63 (.two (.int .i64) (.two (.int .i64) (.int .i64)))) (.sl 150 (.two (.int .i64) (.int .i64)))))), fun k x => laws_toPool.f k x.1 x.2.1 x.2.2.1 x.2.2.2⟩
theorem laws_toPool.eq (k : Nat) (x : (laws_toPool.K.I).den) : func laws_toPool.x laws_toPool.h laws_toPool.ps laws_toPool.rs laws_toPool.vs laws_toPool.K.I laws_toPool.K.O laws_toPool.c k x = laws_toPool.K.run k x := by
  show _ = laws_toPool.f k x.1 x.2.1 x.2.2.1 x.2.2.2
  kernel_rfl
theorem laws_toPool.ok : CtrOk Try.prog 24 laws_toPool.K :=
  CtrOk.of (fn := Try.f24) (cd := laws_toPool.c) (cx := laws_toPool.x) (hs := laws_toPool.h) (by kernel_rfl) (by kernel_rfl) (by kernel_rfl) (by kernel_rfl) tt_ok (envOk_cons laws_toPrefix.ok (envOk_cons laws_toLeaseS.ok (envOk_cons laws_toFixedS.ok (envOk_nil)))) (by kernel_rfl) (by kernel_rfl) (by kernel_rfl) (by kernel_rfl) fun k x r h => (laws_toPool.eq k x).trans h
/-! spec.l11Copy -/
noncomputable def spec_l11Copy.c : Code := bodyOf Try.f75
def spec_l11Copy.h : Nat → Hint := look ⟨[], [], []⟩ []
def spec_l11Copy.ps : List PK := [.agg 4]
def spec_l11Copy.rs : List RK := [.agg 4 true]
def spec_l11Copy.vs : List ResultVar := [.cell 2 50]
def spec_l11Copy.x : Cx := ⟨tt, look none []⟩
def spec_l11Copy.f (_k : Nat) (a0_0 : Int) (a0_1 : Int) (a0_2 : List (Int × Int × Int)) (a0_3 : List (Int × Int)) : Option (Int × Int × (List (Int × Int × Int)) × (List (Int × Int))) :=
  (bif decide ((([] : List (Int × Int × Int)).length + a0_2.length) * 24 ≤ 140737488355328) then (bif decide ((([] : List (Int × Int)).length + a0_3.length) * 16 ≤ 140737488355328) then some (a0_0, a0_1, (([] : List (Int × Int × Int)) ++ a0_2), (([] : List (Int × Int)) ++ a0_3)) else none) else none)
def spec_l11Copy.K : Ctr := ⟨spec_l11Copy.ps, spec_l11Copy.rs, false, (.two (.int .i64) (.two (.int .i64) (.two (.sl 63 (.two (.int .i64) (.two (.int .i64) (.int .i64)))) (.sl 150 (.two (.int .i64) (.int .i64)))))), (.two (.int .i64) (.two (.int .i64) (.two (.sl 63 (.two (.int .i64) (.two (.int .i64) (.int .i64)))) (.sl 150 (.two (.int .i64) (.int .i64)))))), fun k x => spec_l11Copy.f k x.1 x.2.1 x.2.2.1 x.2.2.2⟩
theorem spec_l11Copy.eq (k : Nat) (x : (spec_l11Copy.K.I).den) : func spec_l11Copy.x spec_l11Copy.h spec_l11Copy.ps spec_l11Copy.rs spec_l11Copy.vs spec_l11Copy.K.I spec_l11Copy.K.O spec_l11Copy.c k x = spec_l11Copy.K.run k x := by
  show _ = spec_l11Copy.f k x.1 x.2.1 x.2.2.1 x.2.2.2
  kernel_rfl
theorem spec_l11Copy.ok : CtrOk Try.prog 75 spec_l11Copy.K :=
  CtrOk.of (fn := Try.f75) (cd := spec_l11Copy.c) (cx := spec_l11Copy.x) (hs := spec_l11Copy.h) (by kernel_rfl) (by kernel_rfl) (by kernel_rfl) (by kernel_rfl) tt_ok (envOk_nil) (by kernel_rfl) (by kernel_rfl) (by kernel_rfl) (by kernel_rfl) fun k x r h => (spec_l11Copy.eq k x).trans h
/-! spec.Expire -/
noncomputable def spec_Expire.c : Code := bodyOf Try.f23
def spec_Expire.h : Nat → Hint := look ⟨[], [], []⟩ [(0, ⟨[1, 2, 4, 6, 7, 8, 9], [32, 64, 96], [(.b 64 2, 800, 63, (.two (.int .i64) (.two (.int .i64) (.int .i64)))), (.b 64 3, 801, 150, (.two (.int .i64) (.int .i64))), (.b 96 2, 802, 63, (.two (.int .i64) (.two (.int .i64) (.int .i64)))), (.b 96 3, 803, 150, (.two (.int .i64) (.int .i64))), (.t 7, 804, 63, (.two (.int .i64) (.two (.int .i64) (.int .i64)))), (.t 8, 805, 3, (.int .i64))]⟩)]
def spec_Expire.ps : List PK := [.agg 4, .one]
def spec_Expire.rs : List RK := [.agg 4 true, .one true]
def spec_Expire.vs : List ResultVar := [.cell 4 50, .tmp 5]
def spec_Expire.x : Cx := ⟨tt, look none [(75, some spec_l11Copy.K)]⟩
def spec_Expire.s0 (_k : Nat) (rec0 : (Int × Int × (List (Int × Int × Int)) × (List (Int × Int)) × Int × Int × Int × Int × Int × Int × (List (Int × Int × Int)) × (List (Int × Int)) × (List (Int × Int × Int)) × (List (Int × Int)) × (List (Int × Int × Int)) × (List (Int))) → Option (Int × Int × (List (Int × Int × Int)) × (List (Int × Int)) × (List (Int)))) (p : (Int × Int × (List (Int × Int × Int)) × (List (Int × Int)) × Int × Int × Int × Int × Int × Int × (List (Int × Int × Int)) × (List (Int × Int)) × (List (Int × Int × Int)) × (List (Int × Int)) × (List (Int × Int × Int)) × (List (Int)))) : Option (Int × Int × (List (Int × Int × Int)) × (List (Int × Int)) × (List (Int))) :=
  (bif (decide (p.2.1 < (p.2.2.1.length : Int))) then (bif ((decide ((0 : Int) ≤ p.2.1)) && (decide (p.2.1 < (p.2.2.1.length : Int)))) then (p.2.2.1[p.2.1.toNat]?).bind fun x2 => (bif (decide (x2.2.2 > p.1)) then (bif ((decide ((0 : Int) ≤ p.2.1)) && (decide (p.2.1 < (p.2.2.1.length : Int)))) then (p.2.2.1[p.2.1.toNat]?).bind fun x3 => (bif decide ((p.2.2.2.2.2.2.2.2.2.2.2.2.2.2.1.length + [(x3.1, x3.2.1, x3.2.2)].length) * 24 ≤ 140737488355328) then rec0 (p.1, (IntKind.i64.wrap (p.2.1 + (1 : Int))), p.2.2.1, p.2.2.2.1, p.2.2.2.2.1, p.2.2.2.2.2.1, p.2.2.2.2.2.2.1, p.2.2.2.2.2.2.2.1, p.2.2.2.2.2.2.2.2.1, p.2.2.2.2.2.2.2.2.2.1, p.2.2.2.2.2.2.2.2.2.2.1, p.2.2.2.2.2.2.2.2.2.2.2.1, p.2.2.2.2.2.2.2.2.2.2.2.2.1, p.2.2.2.2.2.2.2.2.2.2.2.2.2.1, (p.2.2.2.2.2.2.2.2.2.2.2.2.2.2.1 ++ [(x3.1, x3.2.1, x3.2.2)]), p.2.2.2.2.2.2.2.2.2.2.2.2.2.2.2) else none) else none) else (bif ((decide ((0 : Int) ≤ p.2.1)) && (decide (p.2.1 < (p.2.2.1.length : Int)))) then (p.2.2.1[p.2.1.toNat]?).bind fun x4 => (bif decide ((p.2.2.2.2.2.2.2.2.2.2.2.2.2.2.2.length + [x4.2.1].length) * 8 ≤ 140737488355328) then rec0 (p.1, (IntKind.i64.wrap (p.2.1 + (1 : Int))), p.2.2.1, p.2.2.2.1, p.2.2.2.2.1, p.2.2.2.2.2.1, p.2.2.2.2.2.2.1, p.2.2.2.2.2.2.2.1, p.2.2.2.2.2.2.2.2.1, p.2.2.2.2.2.2.2.2.2.1, p.2.2.2.2.2.2.2.2.2.2.1, p.2.2.2.2.2.2.2.2.2.2.2.1, p.2.2.2.2.2.2.2.2.2.2.2.2.1, p.2.2.2.2.2.2.2.2.2.2.2.2.2.1, p.2.2.2.2.2.2.2.2.2.2.2.2.2.2.1, (p.2.2.2.2.2.2.2.2.2.2.2.2.2.2.2 ++ [x4.2.1])) else none) else none)) else none) else some (p.2.2.2.2.2.2.2.2.1, p.2.2.2.2.2.2.2.2.2.1, p.2.2.2.2.2.2.2.2.2.2.2.2.2.2.1, p.2.2.2.2.2.2.2.2.2.2.2.2.2.1, p.2.2.2.2.2.2.2.2.2.2.2.2.2.2.2))
def spec_Expire.l0 (k : Nat) : Nat → (Int × Int × (List (Int × Int × Int)) × (List (Int × Int)) × Int × Int × Int × Int × Int × Int × (List (Int × Int × Int)) × (List (Int × Int)) × (List (Int × Int × Int)) × (List (Int × Int)) × (List (Int × Int × Int)) × (List (Int))) → Option (Int × Int × (List (Int × Int × Int)) × (List (Int × Int)) × (List (Int)))
  | 0 => fun _ => none
  | j + 1 => spec_Expire.s0 k (spec_Expire.l0 k j)
def spec_Expire.S0 (p : (Int × Int × (List (Int × Int × Int)) × (List (Int × Int)) × Int × Int × Int × Int × Int × Int × (List (Int × Int × Int)) × (List (Int × Int)) × (List (Int × Int × Int)) × (List (Int × Int)) × (List (Int × Int × Int)) × (List (Int)))) : DS := ⟨tl [(1, .at (.int .i64 p.1)), (2, .at (.bptr 32 0)), (4, .at (.bptr 64 0)), (6, .at (.bptr 96 0)), (7, .at (.whole 804)), (8, .at (.whole 805)), (9, .at (.int .i64 p.2.1))], lookO [(2, .row 63 (.two (.int .i64) (.two (.int .i64) (.int .i64))) false p.2.2.1), (3, .row 150 (.two (.int .i64) (.int .i64)) false p.2.2.2.1), (32, .box 50 [.int .i64 p.2.2.2.2.1, .int .i64 p.2.2.2.2.2.1, .whole 2, .whole 3]), (64, .box 50 [.int .i64 p.2.2.2.2.2.2.1, .int .i64 p.2.2.2.2.2.2.2.1, .whole 800, .whole 801]), (96, .box 50 [.int .i64 p.2.2.2.2.2.2.2.2.1, .int .i64 p.2.2.2.2.2.2.2.2.2.1, .whole 802, .whole 803]), (800, .row 63 (.two (.int .i64) (.two (.int .i64) (.int .i64))) true p.2.2.2.2.2.2.2.2.2.2.1), (801, .row 150 (.two (.int .i64) (.int .i64)) true p.2.2.2.2.2.2.2.2.2.2.2.1), (802, .row 63 (.two (.int .i64) (.two (.int .i64) (.int .i64))) true p.2.2.2.2.2.2.2.2.2.2.2.2.1), (803, .row 150 (.two (.int .i64) (.int .i64)) true p.2.2.2.2.2.2.2.2.2.2.2.2.2.1), (804, .row 63 (.two (.int .i64) (.two (.int .i64) (.int .i64))) true p.2.2.2.2.2.2.2.2.2.2.2.2.2.2.1), (805, .row 3 (.int .i64) true p.2.2.2.2.2.2.2.2.2.2.2.2.2.2.2)]⟩
noncomputable def spec_Expire.D0 (k : Nat) (j : Nat) (p : (Int × Int × (List (Int × Int × Int)) × (List (Int × Int)) × Int × Int × Int × Int × Int × Int × (List (Int × Int × Int)) × (List (Int × Int)) × (List (Int × Int × Int)) × (List (Int × Int)) × (List (Int × Int × Int)) × (List (Int)))) : Option (Int × Int × (List (Int × Int × Int)) × (List (Int × Int)) × (List (Int))) := loopK (norm [2, 3] (spec_Expire.h 0)) (runK spec_Expire.x k 0 [2, 3] spec_Expire.h 0 (sub spec_Expire.c [1, 1, 1, 1, 0, 1, 0, 0])) j (spec_Expire.S0 p) (kBlk 0 (kSeq (runK spec_Expire.x k 0 [2, 3] spec_Expire.h 0 (sub spec_Expire.c [1, 1, 1, 1, 1])) (fin tt spec_Expire.ps spec_Expire.rs spec_Expire.vs (.two (.int .i64) (.two (.int .i64) (.two (.sl 63 (.two (.int .i64) (.two (.int .i64) (.int .i64)))) (.two (.sl 150 (.two (.int .i64) (.int .i64))) (.sl 3 (.int .i64)))))))))
theorem spec_Expire.D0_eq (k : Nat) : ∀ j, spec_Expire.D0 k j = spec_Expire.l0 k j := by
  intro j
  induction j with
  | zero => rfl
  | succ j ih =>
    show _ = spec_Expire.s0 k (spec_Expire.l0 k j)
    rw [← ih]
    funext p
    kernel_rfl
def spec_Expire.f (k : Nat) (a0_0 : Int) (a0_1 : Int) (a0_2 : List (Int × Int × Int)) (a0_3 : List (Int × Int)) (a1 : Int) : Option (Int × Int × (List (Int × Int × Int)) × (List (Int × Int)) × (List (Int))) :=
  (spec_l11Copy.f k a0_0 a0_1 a0_2 a0_3).bind fun r1 => spec_Expire.l0 k k (a1, (0 : Int), a0_2, a0_3, a0_0, a0_1, (0 : Int), (0 : Int), r1.1, r1.2.1, ([] : List (Int × Int × Int)), ([] : List (Int × Int)), r1.2.2.1, r1.2.2.2, ([] : List (Int × Int × Int)), ([] : List (Int)))
def spec_Expire.K : Ctr := ⟨spec_Expire.ps, spec_Expire.rs, false, (.two (.int .i64) (.two (.int .i64) (.two (.sl 63 (.two (.int .i64) (.two (.int .i64) (.int .i64)))) (.two (.sl 150 (.two (.int .i64) (.int .i64))) (.int .i64))))), (.two (.int .i64) (.two (.int .i64) (.two (.sl 63 (.two (.int .i64) (.two (.int .i64) (.int .i64)))) (.two (.sl 150 (.two (.int .i64) (.int .i64))) (.sl 3 (.int .i64)))))), fun k x => spec_Expire.f k x.1 x.2.1 x.2.2.1 x.2.2.2.1 x.2.2.2.2⟩
theorem spec_Expire.eq (k : Nat) (x : (spec_Expire.K.I).den) : func spec_Expire.x spec_Expire.h spec_Expire.ps spec_Expire.rs spec_Expire.vs spec_Expire.K.I spec_Expire.K.O spec_Expire.c k x = spec_Expire.K.run k x := by
  show _ = spec_Expire.f k x.1 x.2.1 x.2.2.1 x.2.2.2.1 x.2.2.2.2
  unfold spec_Expire.f
  rw [← spec_Expire.D0_eq k k]
  kernel_rfl
theorem spec_Expire.ok : CtrOk Try.prog 23 spec_Expire.K :=
  CtrOk.of (fn := Try.f23) (cd := spec_Expire.c) (cx := spec_Expire.x) (hs := spec_Expire.h) (by kernel_rfl) (by kernel_rfl) (by kernel_rfl) (by kernel_rfl) tt_ok (envOk_cons spec_l11Copy.ok (envOk_nil)) (by kernel_rfl) (by kernel_rfl) (by kernel_rfl) (by kernel_rfl) fun k x r h => (spec_Expire.eq k x).trans h
/-! impl.copyPool -/
noncomputable def impl_copyPool.c : Code := bodyOf Try.f79
def impl_copyPool.h : Nat → Hint := look ⟨[], [], []⟩ []
def impl_copyPool.ps : List PK := [.agg 4]
def impl_copyPool.rs : List RK := [.agg 4 true]
def impl_copyPool.vs : List ResultVar := [.cell 2 50]
def impl_copyPool.x : Cx := ⟨tt, look none []⟩
def impl_copyPool.f (_k : Nat) (a0_0 : Int) (a0_1 : Int) (a0_2 : List (Int × Int × Int)) (a0_3 : List (Int × Int)) : Option (Int × Int × (List (Int × Int × Int)) × (List (Int × Int))) :=
  (bif decide ((([] : List (Int × Int × Int)).length + a0_2.length) * 24 ≤ 140737488355328) then (bif decide ((([] : List (Int × Int)).length + a0_3.length) * 16 ≤ 140737488355328) then some (a0_0, a0_1, (([] : List (Int × Int × Int)) ++ a0_2), (([] : List (Int × Int)) ++ a0_3)) else none) else none)
def impl_copyPool.K : Ctr := ⟨impl_copyPool.ps, impl_copyPool.rs, false, (.two (.int .i64) (.two (.int .i64) (.two (.sl 63 (.two (.int .i64) (.two (.int .i64) (.int .i64)))) (.sl 150 (.two (.int .i64) (.int .i64)))))), (.two (.int .i64) (.two (.int .i64) (.two (.sl 63 (.two (.int .i64) (.two (.int .i64) (.int .i64)))) (.sl 150 (.two (.int .i64) (.int .i64)))))), fun k x => impl_copyPool.f k x.1 x.2.1 x.2.2.1 x.2.2.2⟩
theorem impl_copyPool.eq (k : Nat) (x : (impl_copyPool.K.I).den) : func impl_copyPool.x impl_copyPool.h impl_copyPool.ps impl_copyPool.rs impl_copyPool.vs impl_copyPool.K.I impl_copyPool.K.O impl_copyPool.c k x = impl_copyPool.K.run k x := by
  show _ = impl_copyPool.f k x.1 x.2.1 x.2.2.1 x.2.2.2
  kernel_rfl
theorem impl_copyPool.ok : CtrOk Try.prog 79 impl_copyPool.K :=
  CtrOk.of (fn := Try.f79) (cd := impl_copyPool.c) (cx := impl_copyPool.x) (hs := impl_copyPool.h) (by kernel_rfl) (by kernel_rfl) (by kernel_rfl) (by kernel_rfl) tt_ok (envOk_nil) (by kernel_rfl) (by kernel_rfl) (by kernel_rfl) (by kernel_rfl) fun k x r h => (impl_copyPool.eq k x).trans h
/-! impl.Expire -/
noncomputable def impl_Expire.c : Code := bodyOf Try.f25
def impl_Expire.h : Nat → Hint := look ⟨[], [], []⟩ [(0, ⟨[1, 4, 6, 7, 15, 16, 17], [64, 96], [(.b 64 2, 624, 63, (.two (.int .i64) (.two (.int .i64) (.int .i64)))), (.b 64 3, 625, 150, (.two (.int .i64) (.int .i64))), (.b 96 2, 626, 63, (.two (.int .i64) (.two (.int .i64) (.int .i64)))), (.b 96 3, 627, 150, (.two (.int .i64) (.int .i64))), (.t 7, 628, 3, (.int .i64))]⟩)]
def impl_Expire.ps : List PK := [.agg 4, .one]
def impl_Expire.rs : List RK := [.agg 4 true, .one true]
def impl_Expire.vs : List ResultVar := [.cell 4 50, .tmp 5]
def impl_Expire.x : Cx := ⟨tt, look none [(79, some impl_copyPool.K)]⟩
def impl_Expire.s0 (_k : Nat) (rec0 : (Int × Int × Int × (List (Int × Int × Int)) × (List (Int × Int)) × Int × Int × Int × Int × (List (Int × Int × Int)) × (List (Int × Int)) × (List (Int × Int × Int)) × (List (Int × Int)) × (List (Int))) → Option (Int × Int × (List (Int × Int × Int)) × (List (Int × Int)) × (List (Int)))) (p : (Int × Int × Int × (List (Int × Int × Int)) × (List (Int × Int)) × Int × Int × Int × Int × (List (Int × Int × Int)) × (List (Int × Int)) × (List (Int × Int × Int)) × (List (Int × Int)) × (List (Int)))) : Option (Int × Int × (List (Int × Int × Int)) × (List (Int × Int)) × (List (Int))) :=
  (bif (decide (p.2.2.1 < p.2.1)) then (bif ((decide ((0 : Int) ≤ p.2.2.1)) && (decide (p.2.2.1 < (p.2.2.2.1.length : Int)))) then (p.2.2.2.1[p.2.2.1.toNat]?).bind fun x2 => (bif (decide (x2.2.2 > p.1)) then (bif decide ((p.2.2.2.2.2.2.2.2.2.2.2.1.length + [(x2.1, x2.2.1, x2.2.2)].length) * 24 ≤ 140737488355328) then rec0 (p.1, p.2.1, (IntKind.i64.wrap (p.2.2.1 + (1 : Int))), p.2.2.2.1, p.2.2.2.2.1, p.2.2.2.2.2.1, p.2.2.2.2.2.2.1, p.2.2.2.2.2.2.2.1, p.2.2.2.2.2.2.2.2.1, p.2.2.2.2.2.2.2.2.2.1, p.2.2.2.2.2.2.2.2.2.2.1, (p.2.2.2.2.2.2.2.2.2.2.2.1 ++ [(x2.1, x2.2.1, x2.2.2)]), p.2.2.2.2.2.2.2.2.2.2.2.2.1, p.2.2.2.2.2.2.2.2.2.2.2.2.2) else none) else (bif decide ((p.2.2.2.2.2.2.2.2.2.2.2.2.2.length + [x2.2.1].length) * 8 ≤ 140737488355328) then rec0 (p.1, p.2.1, (IntKind.i64.wrap (p.2.2.1 + (1 : Int))), p.2.2.2.1, p.2.2.2.2.1, p.2.2.2.2.2.1, p.2.2.2.2.2.2.1, p.2.2.2.2.2.2.2.1, p.2.2.2.2.2.2.2.2.1, p.2.2.2.2.2.2.2.2.2.1, p.2.2.2.2.2.2.2.2.2.2.1, p.2.2.2.2.2.2.2.2.2.2.2.1, p.2.2.2.2.2.2.2.2.2.2.2.2.1, (p.2.2.2.2.2.2.2.2.2.2.2.2.2 ++ [x2.2.1])) else none)) else none) else some (p.2.2.2.2.2.2.2.1, p.2.2.2.2.2.2.2.2.1, p.2.2.2.2.2.2.2.2.2.2.2.1, p.2.2.2.2.2.2.2.2.2.2.2.2.1, p.2.2.2.2.2.2.2.2.2.2.2.2.2))
def impl_Expire.l0 (k : Nat) : Nat → (Int × Int × Int × (List (Int × Int × Int)) × (List (Int × Int)) × Int × Int × Int × Int × (List (Int × Int × Int)) × (List (Int × Int)) × (List (Int × Int × Int)) × (List (Int × Int)) × (List (Int))) → Option (Int × Int × (List (Int × Int × Int)) × (List (Int × Int)) × (List (Int)))
  | 0 => fun _ => none
  | j + 1 => impl_Expire.s0 k (impl_Expire.l0 k j)
def impl_Expire.S0 (p : (Int × Int × Int × (List (Int × Int × Int)) × (List (Int × Int)) × Int × Int × Int × Int × (List (Int × Int × Int)) × (List (Int × Int)) × (List (Int × Int × Int)) × (List (Int × Int)) × (List (Int)))) : DS := ⟨tl [(1, .at (.int .i64 p.1)), (4, .at (.bptr 64 0)), (6, .at (.bptr 96 0)), (7, .at (.whole 628)), (15, .at (.whole 2)), (16, .at (.int .i64 p.2.1)), (17, .at (.int .i64 p.2.2.1))], lookO [(2, .row 63 (.two (.int .i64) (.two (.int .i64) (.int .i64))) false p.2.2.2.1), (3, .row 150 (.two (.int .i64) (.int .i64)) false p.2.2.2.2.1), (64, .box 50 [.int .i64 p.2.2.2.2.2.1, .int .i64 p.2.2.2.2.2.2.1, .whole 624, .whole 625]), (96, .box 50 [.int .i64 p.2.2.2.2.2.2.2.1, .int .i64 p.2.2.2.2.2.2.2.2.1, .whole 626, .whole 627]), (624, .row 63 (.two (.int .i64) (.two (.int .i64) (.int .i64))) true p.2.2.2.2.2.2.2.2.2.1), (625, .row 150 (.two (.int .i64) (.int .i64)) true p.2.2.2.2.2.2.2.2.2.2.1), (626, .row 63 (.two (.int .i64) (.two (.int .i64) (.int .i64))) true p.2.2.2.2.2.2.2.2.2.2.2.1), (627, .row 150 (.two (.int .i64) (.int .i64)) true p.2.2.2.2.2.2.2.2.2.2.2.2.1), (628, .row 3 (.int .i64) true p.2.2.2.2.2.2.2.2.2.2.2.2.2)]⟩
noncomputable def impl_Expire.D0 (k : Nat) (j : Nat) (p : (Int × Int × Int × (List (Int × Int × Int)) × (List (Int × Int)) × Int × Int × Int × Int × (List (Int × Int × Int)) × (List (Int × Int)) × (List (Int × Int × Int)) × (List (Int × Int)) × (List (Int)))) : Option (Int × Int × (List (Int × Int × Int)) × (List (Int × Int)) × (List (Int))) := loopK (norm [2, 3] (impl_Expire.h 0)) (runK impl_Expire.x k 0 [2, 3] impl_Expire.h 0 (sub impl_Expire.c [1, 1, 1, 1, 0, 1, 0, 0])) j (impl_Expire.S0 p) (kBlk 0 (kSeq (runK impl_Expire.x k 0 [2, 3] impl_Expire.h 0 (sub impl_Expire.c [1, 1, 1, 1, 1])) (fin tt impl_Expire.ps impl_Expire.rs impl_Expire.vs (.two (.int .i64) (.two (.int .i64) (.two (.sl 63 (.two (.int .i64) (.two (.int .i64) (.int .i64)))) (.two (.sl 150 (.two (.int .i64) (.int .i64))) (.sl 3 (.int .i64)))))))))
theorem impl_Expire.D0_eq (k : Nat) : ∀ j, impl_Expire.D0 k j = impl_Expire.l0 k j := by
  intro j
  induction j with
  | zero => rfl
  | succ j ih =>
    show _ = impl_Expire.s0 k (impl_Expire.l0 k j)
    rw [← ih]
    funext p
    kernel_rfl
def impl_Expire.f (k : Nat) (a0_0 : Int) (a0_1 : Int) (a0_2 : List (Int × Int × Int)) (a0_3 : List (Int × Int)) (a1 : Int) : Option (Int × Int × (List (Int × Int × Int)) × (List (Int × Int)) × (List (Int))) :=
  (impl_copyPool.f k a0_0 a0_1 a0_2 a0_3).bind fun r1 => impl_Expire.l0 k k (a1, (a0_2.length : Int), (0 : Int), a0_2, a0_3, (0 : Int), (0 : Int), r1.1, r1.2.1, ([] : List (Int × Int × Int)), ([] : List (Int × Int)), ([] : List (Int × Int × Int)), r1.2.2.2, ([] : List (Int)))
def impl_Expire.K : Ctr := ⟨impl_Expire.ps, impl_Expire.rs, false, (.two (.int .i64) (.two (.int .i64) (.two (.sl 63 (.two (.int .i64) (.two (.int .i64) (.int .i64)))) (.two (.sl 150 (.two (.int .i64) (.int .i64))) (.int .i64))))), (.two (.int .i64) (.two (.int .i64) (.two (.sl 63 (.two (.int .i64) (.two (.int .i64) (.int .i64)))) (.two (.sl 150 (.two (.int .i64) (.int .i64))) (.sl 3 (.int .i64)))))), fun k x => impl_Expire.f k x.1 x.2.1 x.2.2.1 x.2.2.2.1 x.2.2.2.2⟩
theorem impl_Expire.eq (k : Nat) (x : (impl_Expire.K.I).den) : func impl_Expire.x impl_Expire.h impl_Expire.ps impl_Expire.rs impl_Expire.vs impl_Expire.K.I impl_Expire.K.O impl_Expire.c k x = impl_Expire.K.run k x := by
  show _ = impl_Expire.f k x.1 x.2.1 x.2.2.1 x.2.2.2.1 x.2.2.2.2
  unfold impl_Expire.f
  rw [← impl_Expire.D0_eq k k]
  kernel_rfl
theorem impl_Expire.ok : CtrOk Try.prog 25 impl_Expire.K :=
  CtrOk.of (fn := Try.f25) (cd := impl_Expire.c) (cx := impl_Expire.x) (hs := impl_Expire.h) (by kernel_rfl) (by kernel_rfl) (by kernel_rfl) (by kernel_rfl) tt_ok (envOk_cons impl_copyPool.ok (envOk_nil)) (by kernel_rfl) (by kernel_rfl) (by kernel_rfl) (by kernel_rfl) fun k x r h => (impl_Expire.eq k x).trans h
/-! laws.eqPrefix -/
noncomputable def laws_eqPrefix.c : Code := bodyOf Try.f80
def laws_eqPrefix.h : Nat → Hint := look ⟨[], [], []⟩ []
def laws_eqPrefix.ps : List PK := [.agg 2, .agg 2]
def laws_eqPrefix.rs : List RK := [.one true]
def laws_eqPrefix.vs : List ResultVar := [.tmp 4]
def laws_eqPrefix.x : Cx := ⟨tt, look none []⟩
def laws_eqPrefix.f (_k : Nat) (a0_0 : Int) (a0_1 : Int) (a1_0 : Int) (a1_1 : Int) : Option (Bool) :=
  (bif (a0_0 != a1_0) then some false else (bif (a0_1 != a1_1) then some false else some true))
def laws_eqPrefix.K : Ctr := ⟨laws_eqPrefix.ps, laws_eqPrefix.rs, false, (.two (.int .i64) (.two (.int .i64) (.two (.int .i64) (.int .i64)))), .bool, fun k x => laws_eqPrefix.f k x.1 x.2.1 x.2.2.1 x.2.2.2⟩
theorem laws_eqPrefix.eq (k : Nat) (x : (laws_eqPrefix.K.I).den) : func laws_eqPrefix.x laws_eqPrefix.h laws_eqPrefix.ps laws_eqPrefix.rs laws_eqPrefix.vs laws_eqPrefix.K.I laws_eqPrefix.K.O laws_eqPrefix.c k x = laws_eqPrefix.K.run k x := by
  show _ = laws_eqPrefix.f k x.1 x.2.1 x.2.2.1 x.2.2.2
  kernel_rfl
theorem laws_eqPrefix.ok : CtrOk Try.prog 80 laws_eqPrefix.K :=
  CtrOk.of (fn := Try.f80) (cd := laws_eqPrefix.c) (cx := laws_eqPrefix.x) (hs := laws_eqPrefix.h) (by kernel_rfl) (by kernel_rfl) (by kernel_rfl) (by kernel_rfl) tt_ok (envOk_nil) (by kernel_rfl) (by kernel_rfl) (by kernel_rfl) (by kernel_rfl) fun k x r h => (laws_eqPrefix.eq k x).trans h
/-! laws.eqLease -/
noncomputable def laws_eqLease.c : Code := bodyOf Try.f134
def laws_eqLease.h : Nat → Hint := look ⟨[], [], []⟩ []
def laws_eqLease.ps : List PK := [.agg 3, .agg 3]
def laws_eqLease.rs : List RK := [.one true]
def laws_eqLease.vs : List ResultVar := [.tmp 4]
def laws_eqLease.x : Cx := ⟨tt, look none []⟩
def laws_eqLease.f (_k : Nat) (a0_0 : Int) (a0_1 : Int) (a0_2 : Int) (a1_0 : Int) (a1_1 : Int) (a1_2 : Int) : Option (Bool) :=
  (bif (a0_0 != a1_0) then some false else (bif (a0_1 != a1_1) then some false else (bif (a0_2 != a1_2) then some false else some true)))
def laws_eqLease.K : Ctr := ⟨laws_eqLease.ps, laws_eqLease.rs, false, (.two (.int .i64) (.two (.int .i64) (.two (.int .i64) (.two (.int .i64) (.two (.int .i64) (.int .i64)))))), .bool, fun k x => laws_eqLease.f k x.1 x.2.1 x.2.2.1 x.2.2.2.1 x.2.2.2.2.1 x.2.2.2.2.2⟩
theorem laws_eqLease.eq (k : Nat) (x : (laws_eqLease.K.I).den) : func laws_eqLease.x laws_eqLease.h laws_eqLease.ps laws_eqLease.rs laws_eqLease.vs laws_eqLease.K.I laws_eqLease.K.O laws_eqLease.c k x = laws_eqLease.K.run k x := by
  show _ = laws_eqLease.f k x.1 x.2.1 x.2.2.1 x.2.2.2.1 x.2.2.2.2.1 x.2.2.2.2.2
  kernel_rfl
theorem laws_eqLease.ok : CtrOk Try.prog 134 laws_eqLease.K :=
  CtrOk.of (fn := Try.f134) (cd := laws_eqLease.c) (cx := laws_eqLease.x) (hs := laws_eqLease.h) (by kernel_rfl) (by kernel_rfl) (by kernel_rfl) (by kernel_rfl) tt_ok (envOk_nil) (by kernel_rfl) (by kernel_rfl) (by kernel_rfl) (by kernel_rfl) fun k x r h => (laws_eqLease.eq k x).trans h
end Go.Proofs.Ytfaeklomiofpdaa.DI
