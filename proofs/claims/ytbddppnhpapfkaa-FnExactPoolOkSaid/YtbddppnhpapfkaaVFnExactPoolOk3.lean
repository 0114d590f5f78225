/- FnExactPoolOk: functions as plain Lean, in the machine of values. -/
import Derived.Test.YtbddppnhpapfkaaVFnExactPoolOk2
namespace Go.Proofs.Ytbddppnhpapfkaa.DI
open Go
set_option linter.unusedVariables false
/-! impl.PoolOk -/
noncomputable def impl_PoolOk.c : Code := bodyOf Try.f43
def impl_PoolOk.h : Nat → Hint := look ⟨[], [], []⟩ [(0, ⟨[1, 29, 30, 31], [16], []⟩)]
def impl_PoolOk.ps : List PK := [.agg 4]
def impl_PoolOk.rs : List RK := [.one true]
def impl_PoolOk.vs : List ResultVar := [.tmp 2]
def impl_PoolOk.x : Cx := ⟨tt, look none [(62, some impl_PrefixOk.K), (89, some impl_within.K), (90, some impl_fixesOk.K), (91, some impl_isHost.K), (63, some impl_isId.K), (92, some impl_fixedFor.K), (93, some impl_leaseOf.K)]⟩
def impl_PoolOk.s0 (k : Nat) (rec0 : (Int × Int × (List (Int × Int × Int)) × (List (Int × Int)) × Int × Int) → Option (Bool)) (p : (Int × Int × (List (Int × Int × Int)) × (List (Int × Int)) × Int × Int)) : Option (Bool) :=
  (bif (decide (p.2.1 < p.1)) then (bif ((decide ((0 : Int) ≤ p.2.1)) && (decide (p.2.1 < (p.2.2.1.length : Int)))) then (p.2.2.1[p.2.1.toNat]?).bind fun x4 => (bif (decide (p.2.1 > (0 : Int))) then (bif ((decide ((0 : Int) ≤ (IntKind.i64.wrap (p.2.1 - (1 : Int))))) && (decide ((IntKind.i64.wrap (p.2.1 - (1 : Int))) < (p.2.2.1.length : Int)))) then (p.2.2.1[(IntKind.i64.wrap (p.2.1 - (1 : Int))).toNat]?).bind fun x5 => (bif (decide (x5.1 ≥ x4.1)) then some false else (impl_isHost.f k p.2.2.2.2.1 p.2.2.2.2.2 x4.1).bind fun r6 => (bif (!r6) then some false else (impl_isId.f k x4.2.1).bind fun r7 => (bif (!r7) then some false else (impl_within.f k x4.2.2 (0 : Int) (1000000000 : Int)).bind fun r8 => (bif (!r8) then some false else (impl_fixedFor.f k p.2.2.2.2.1 p.2.2.2.2.2 p.2.2.1 p.2.2.2.1 x4.1).bind fun r9 => (impl_leaseOf.f k p.2.2.2.2.1 p.2.2.2.2.2 p.2.2.1 p.2.2.2.1 x4.2.1).bind fun r10 => (bif (r10 != p.2.1) then some false else (bif (r9 != (0 : Int)) then (bif (r9 != x4.2.1) then some false else rec0 (p.1, (IntKind.i64.wrap (p.2.1 + (1 : Int))), p.2.2.1, p.2.2.2.1, p.2.2.2.2.1, p.2.2.2.2.2)) else rec0 (p.1, (IntKind.i64.wrap (p.2.1 + (1 : Int))), p.2.2.1, p.2.2.2.1, p.2.2.2.2.1, p.2.2.2.2.2))))))) else none) else (impl_isHost.f k p.2.2.2.2.1 p.2.2.2.2.2 x4.1).bind fun r11 => (bif (!r11) then some false else (impl_isId.f k x4.2.1).bind fun r12 => (bif (!r12) then some false else (impl_within.f k x4.2.2 (0 : Int) (1000000000 : Int)).bind fun r13 => (bif (!r13) then some false else (impl_fixedFor.f k p.2.2.2.2.1 p.2.2.2.2.2 p.2.2.1 p.2.2.2.1 x4.1).bind fun r14 => (impl_leaseOf.f k p.2.2.2.2.1 p.2.2.2.2.2 p.2.2.1 p.2.2.2.1 x4.2.1).bind fun r15 => (bif (r15 != p.2.1) then some false else (bif (r14 != (0 : Int)) then (bif (r14 != x4.2.1) then some false else rec0 (p.1, (IntKind.i64.wrap (p.2.1 + (1 : Int))), p.2.2.1, p.2.2.2.1, p.2.2.2.2.1, p.2.2.2.2.2)) else rec0 (p.1, (IntKind.i64.wrap (p.2.1 + (1 : Int))), p.2.2.1, p.2.2.2.1, p.2.2.2.2.1, p.2.2.2.2.2))))))) else none) else some true)
def impl_PoolOk.l0 (k : Nat) : Nat → (Int × Int × (List (Int × Int × Int)) × (List (Int × Int)) × Int × Int) → Option (Bool)
  | 0 => fun _ => none
  | j + 1 => impl_PoolOk.s0 k (impl_PoolOk.l0 k j)
def impl_PoolOk.S0 (p : (Int × Int × (List (Int × Int × Int)) × (List (Int × Int)) × Int × Int)) : DS := ⟨tl [(1, .at (.bptr 16 0)), (29, .at (.whole 2)), (30, .at (.int .i64 p.1)), (31, .at (.int .i64 p.2.1))], lookO [(2, .row 97 (.two (.int .i64) (.two (.int .i64) (.int .i64))) false p.2.2.1), (3, .row 116 (.two (.int .i64) (.int .i64)) false p.2.2.2.1), (16, .box 44 [.int .i64 p.2.2.2.2.1, .int .i64 p.2.2.2.2.2, .whole 2, .whole 3])]⟩
noncomputable def impl_PoolOk.D0 (k : Nat) (j : Nat) (p : (Int × Int × (List (Int × Int × Int)) × (List (Int × Int)) × Int × Int)) : Option (Bool) := loopK (norm [2, 3] (impl_PoolOk.h 0)) (runK impl_PoolOk.x k 0 [2, 3] impl_PoolOk.h 0 (sub impl_PoolOk.c [1, 1, 0, 1, 0, 0])) j (impl_PoolOk.S0 p) (kBlk 0 (kSeq (runK impl_PoolOk.x k 0 [2, 3] impl_PoolOk.h 0 (sub impl_PoolOk.c [1, 1, 1])) (fin tt impl_PoolOk.ps impl_PoolOk.rs impl_PoolOk.vs .bool)))
theorem impl_PoolOk.D0_eq (k : Nat) : ∀ j, impl_PoolOk.D0 k j = impl_PoolOk.l0 k j := by
  intro j
  induction j with
  | zero => rfl
  | succ j ih =>
    show _ = impl_PoolOk.s0 k (impl_PoolOk.l0 k j)
    rw [← ih]
    funext p
    kernel_rfl
def impl_PoolOk.f (k : Nat) (a0_0 : Int) (a0_1 : Int) (a0_2 : List (Int × Int × Int)) (a0_3 : List (Int × Int)) : Option (Bool) :=
  (impl_PrefixOk.f k a0_0 a0_1).bind fun r1 => (bif (!r1) then some false else (impl_within.f k a0_1 (24 : Int) (30 : Int)).bind fun r2 => (bif (!r2) then some false else (impl_fixesOk.f k a0_0 a0_1 a0_2 a0_3).bind fun r3 => (bif (!r3) then some false else (bif (decide ((a0_2.length : Int) > (6 : Int))) then some false else impl_PoolOk.l0 k k ((a0_2.length : Int), (0 : Int), a0_2, a0_3, a0_0, a0_1)))))
def impl_PoolOk.K : Ctr := ⟨impl_PoolOk.ps, impl_PoolOk.rs, false, (.two (.int .i64) (.two (.int .i64) (.two (.sl 97 (.two (.int .i64) (.two (.int .i64) (.int .i64)))) (.sl 116 (.two (.int .i64) (.int .i64)))))), .bool, fun k x => impl_PoolOk.f k x.1 x.2.1 x.2.2.1 x.2.2.2⟩
theorem impl_PoolOk.eq (k : Nat) (x : (impl_PoolOk.K.I).den) : func impl_PoolOk.x impl_PoolOk.h impl_PoolOk.ps impl_PoolOk.rs impl_PoolOk.vs impl_PoolOk.K.I impl_PoolOk.K.O impl_PoolOk.c k x = impl_PoolOk.K.run k x := by
  show _ = impl_PoolOk.f k x.1 x.2.1 x.2.2.1 x.2.2.2
  unfold impl_PoolOk.f
  rw [← impl_PoolOk.D0_eq k k]
  kernel_rfl
theorem impl_PoolOk.ok : CtrOk Try.prog 43 impl_PoolOk.K :=
  CtrOk.of (fn := Try.f43) (cd := impl_PoolOk.c) (cx := impl_PoolOk.x) (hs := impl_PoolOk.h) (by kernel_rfl) (by kernel_rfl) (by kernel_rfl) (by kernel_rfl) tt_ok (envOk_cons impl_PrefixOk.ok (envOk_cons impl_within.ok (envOk_cons impl_fixesOk.ok (envOk_cons impl_isHost.ok (envOk_cons impl_isId.ok (envOk_cons impl_fixedFor.ok (envOk_cons impl_leaseOf.ok (envOk_nil)))))))) (by kernel_rfl) (by kernel_rfl) (by kernel_rfl) (by kernel_rfl) fun k x r h => (impl_PoolOk.eq k x).trans h
/-! laws.eqPrefix -/
noncomputable def laws_eqPrefix.c : Code := bodyOf Try.f69
def laws_eqPrefix.h : Nat → Hint := look ⟨[], [], []⟩ []
def laws_eqPrefix.ps : List PK := [.agg 2, .agg 2]
def laws_eqPrefix.rs : List RK := [.one true]
def laws_eqPrefix.vs : List ResultVar := [.tmp 4]
def laws_eqPrefix.x : Cx := ⟨tt, look none []⟩
def laws_eqPrefix.f (_k : Nat) (a0_0 : Int) (a0_1 : Int) (a1_0 : Int) (a1_1 : Int) : Option (Bool) :=
  (bif (a0_0 != a1_0) then some false else (bif (a0_1 != a1_1) then some false else some true))
def laws_eqPrefix.K : Ctr := ⟨laws_eqPrefix.ps, laws_eqPrefix.rs, false, (.two (.int .i64) (.two (.int .i64) (.two (.int .i64) (.int .i64)))), .bool, fun k x => laws_eqPrefix.f k x.1 x.2.1 x.2.2.1 x.2.2.2⟩
theorem laws_eqPrefix.eq (k : Nat) (x : (laws_eqPrefix.K.I).den) : func laws_eqPrefix.x laws_eqPrefix.h laws_eqPrefix.ps laws_eqPrefix.rs laws_eqPrefix.vs laws_eqPrefix.K.I laws_eqPrefix.K.O laws_eqPrefix.c k x = laws_eqPrefix.K.run k x := by
  show _ = laws_eqPrefix.f k x.1 x.2.1 x.2.2.1 x.2.2.2
  kernel_rfl
theorem laws_eqPrefix.ok : CtrOk Try.prog 69 laws_eqPrefix.K :=
  CtrOk.of (fn := Try.f69) (cd := laws_eqPrefix.c) (cx := laws_eqPrefix.x) (hs := laws_eqPrefix.h) (by kernel_rfl) (by kernel_rfl) (by kernel_rfl) (by kernel_rfl) tt_ok (envOk_nil) (by kernel_rfl) (by kernel_rfl) (by kernel_rfl) (by kernel_rfl) fun k x r h => (laws_eqPrefix.eq k x).trans h
/-! laws.eqLease -/
noncomputable def laws_eqLease.c : Code := bodyOf Try.f107
def laws_eqLease.h : Nat → Hint := look ⟨[], [], []⟩ []
def laws_eqLease.ps : List PK := [.agg 3, .agg 3]
def laws_eqLease.rs : List RK := [.one true]
def laws_eqLease.vs : List ResultVar := [.tmp 4]
def laws_eqLease.x : Cx := ⟨tt, look none []⟩
def laws_eqLease.f (_k : Nat) (a0_0 : Int) (a0_1 : Int) (a0_2 : Int) (a1_0 : Int) (a1_1 : Int) (a1_2 : Int) : Option (Bool) :=
  (bif (a0_0 != a1_0) then some false else (bif (a0_1 != a1_1) then some false else (bif (a0_2 != a1_2) then some false else some true)))
def laws_eqLease.K : Ctr := ⟨laws_eqLease.ps, laws_eqLease.rs, false, (.two (.int .i64) (.two (.int .i64) (.two (.int .i64) (.two (.int .i64) (.two (.int .i64) (.int .i64)))))), .bool, fun k x => laws_eqLease.f k x.1 x.2.1 x.2.2.1 x.2.2.2.1 x.2.2.2.2.1 x.2.2.2.2.2⟩
theorem laws_eqLease.eq (k : Nat) (x : (laws_eqLease.K.I).den) : func laws_eqLease.x laws_eqLease.h laws_eqLease.ps laws_eqLease.rs laws_eqLease.vs laws_eqLease.K.I laws_eqLease.K.O laws_eqLease.c k x = laws_eqLease.K.run k x := by
  show _ = laws_eqLease.f k x.1 x.2.1 x.2.2.1 x.2.2.2.1 x.2.2.2.2.1 x.2.2.2.2.2
  kernel_rfl
theorem laws_eqLease.ok : CtrOk Try.prog 107 laws_eqLease.K :=
  CtrOk.of (fn := Try.f107) (cd := laws_eqLease.c) (cx := laws_eqLease.x) (hs := laws_eqLease.h) (by kernel_rfl) (by kernel_rfl) (by kernel_rfl) (by kernel_rfl) tt_ok (envOk_nil) (by kernel_rfl) (by kernel_rfl) (by kernel_rfl) (by kernel_rfl) fun k x r h => (laws_eqLease.eq k x).trans h
/-! laws.eqLeaseS -/
noncomputable def laws_eqLeaseS.c : Code := bodyOf Try.f70
def laws_eqLeaseS.h : Nat → Hint := look ⟨[], [], []⟩ [(0, ⟨[0, 1, 5], [], []⟩)]
def laws_eqLeaseS.ps : List PK := [.one, .one]
def laws_eqLeaseS.rs : List RK := [.one true]
def laws_eqLeaseS.vs : List ResultVar := [.tmp 4]
def laws_eqLeaseS.x : Cx := ⟨tt, look none [(107, some laws_eqLease.K)]⟩
def laws_eqLeaseS.s0 (k : Nat) (rec0 : (Int × (List (Int × Int × Int)) × (List (Int × Int × Int))) → Option (Bool)) (p : (Int × (List (Int × Int × Int)) × (List (Int × Int × Int)))) : Option (Bool) :=
  (bif (decide (p.1 < (p.2.1.length : Int))) then (bif ((decide ((0 : Int) ≤ p.1)) && (decide (p.1 < (p.2.1.length : Int)))) then (p.2.1[p.1.toNat]?).bind fun x1 => (bif ((decide ((0 : Int) ≤ p.1)) && (decide (p.1 < (p.2.2.length : Int)))) then (p.2.2[p.1.toNat]?).bind fun x2 => (laws_eqLease.f k x1.1 x1.2.1 x1.2.2 x2.1 x2.2.1 x2.2.2).bind fun r3 => (bif (!r3) then some false else rec0 ((IntKind.i64.wrap (p.1 + (1 : Int))), p.2.1, p.2.2)) else none) else none) else some true)
def laws_eqLeaseS.l0 (k : Nat) : Nat → (Int × (List (Int × Int × Int)) × (List (Int × Int × Int))) → Option (Bool)
  | 0 => fun _ => none
  | j + 1 => laws_eqLeaseS.s0 k (laws_eqLeaseS.l0 k j)
def laws_eqLeaseS.S0 (p : (Int × (List (Int × Int × Int)) × (List (Int × Int × Int)))) : DS := ⟨tl [(0, .at (.whole 0)), (1, .at (.whole 16)), (5, .at (.int .i64 p.1))], lookO [(0, .row 97 (.two (.int .i64) (.two (.int .i64) (.int .i64))) false p.2.1), (16, .row 97 (.two (.int .i64) (.two (.int .i64) (.int .i64))) false p.2.2)]⟩
noncomputable def laws_eqLeaseS.D0 (k : Nat) (j : Nat) (p : (Int × (List (Int × Int × Int)) × (List (Int × Int × Int)))) : Option (Bool) := loopK (norm [0, 16] (laws_eqLeaseS.h 0)) (runK laws_eqLeaseS.x k 0 [0, 16] laws_eqLeaseS.h 0 (sub laws_eqLeaseS.c [1, 1, 0, 1, 0, 0])) j (laws_eqLeaseS.S0 p) (kBlk 0 (kSeq (runK laws_eqLeaseS.x k 0 [0, 16] laws_eqLeaseS.h 0 (sub laws_eqLeaseS.c [1, 1, 1])) (fin tt laws_eqLeaseS.ps laws_eqLeaseS.rs laws_eqLeaseS.vs .bool)))
theorem laws_eqLeaseS.D0_eq (k : Nat) : ∀ j, laws_eqLeaseS.D0 k j = laws_eqLeaseS.l0 k j := by
  intro j
  induction j with
  | zero => rfl
  | succ j ih =>
    show _ = laws_eqLeaseS.s0 k (laws_eqLeaseS.l0 k j)
    rw [← ih]
    funext p
    kernel_rfl
def laws_eqLeaseS.f (k : Nat) (a0 : List (Int × Int × Int)) (a1 : List (Int × Int × Int)) : Option (Bool) :=
  (bif ((a0.length : Int) != (a1.length : Int)) then some false else laws_eqLeaseS.l0 k k ((0 : Int), a0, a1))
def laws_eqLeaseS.K : Ctr := ⟨laws_eqLeaseS.ps, laws_eqLeaseS.rs, false, (.two (.sl 97 (.two (.int .i64) (.two (.int .i64) (.int .i64)))) (.sl 97 (.two (.int .i64) (.two (.int .i64) (.int .i64))))), .bool, fun k x => laws_eqLeaseS.f k x.1 x.2⟩
theorem laws_eqLeaseS.eq (k : Nat) (x : (laws_eqLeaseS.K.I).den) : func laws_eqLeaseS.x laws_eqLeaseS.h laws_eqLeaseS.ps laws_eqLeaseS.rs laws_eqLeaseS.vs laws_eqLeaseS.K.I laws_eqLeaseS.K.O laws_eqLeaseS.c k x = laws_eqLeaseS.K.run k x := by
  show _ = laws_eqLeaseS.f k x.1 x.2
  unfold laws_eqLeaseS.f
  rw [← laws_eqLeaseS.D0_eq k k]
  kernel_rfl
theorem laws_eqLeaseS.ok : CtrOk Try.prog 70 laws_eqLeaseS.K :=
  CtrOk.of (fn := Try.f70) (cd := laws_eqLeaseS.c) (cx := laws_eqLeaseS.x) (hs := laws_eqLeaseS.h) (by kernel_rfl) (by kernel_rfl) (by kernel_rfl) (by kernel_rfl) tt_ok (envOk_cons laws_eqLease.ok (envOk_nil)) (by kernel_rfl) (by kernel_rfl) (by kernel_rfl) (by kernel_rfl) fun k x r h => (laws_eqLeaseS.eq k x).trans h
/-! laws.eqFixed -/
noncomputable def laws_eqFixed.c : Code := bodyOf Try.f108
def laws_eqFixed.h : Nat → Hint := look ⟨[], [], []⟩ []
def laws_eqFixed.ps : List PK := [.agg 2, .agg 2]
def laws_eqFixed.rs : List RK := [.one true]
def laws_eqFixed.vs : List ResultVar := [.tmp 4]
def laws_eqFixed.x : Cx := ⟨tt, look none []⟩
def laws_eqFixed.f (_k : Nat) (a0_0 : Int) (a0_1 : Int) (a1_0 : Int) (a1_1 : Int) : Option (Bool) :=
  (bif (a0_0 != a1_0) then some false else (bif (a0_1 != a1_1) then some false else some true))
def laws_eqFixed.K : Ctr := ⟨laws_eqFixed.ps, laws_eqFixed.rs, false, (.two (.int .i64) (.two (.int .i64) (.two (.int .i64) (.int .i64)))), .bool, fun k x => laws_eqFixed.f k x.1 x.2.1 x.2.2.1 x.2.2.2⟩
theorem laws_eqFixed.eq (k : Nat) (x : (laws_eqFixed.K.I).den) : func laws_eqFixed.x laws_eqFixed.h laws_eqFixed.ps laws_eqFixed.rs laws_eqFixed.vs laws_eqFixed.K.I laws_eqFixed.K.O laws_eqFixed.c k x = laws_eqFixed.K.run k x := by
  show _ = laws_eqFixed.f k x.1 x.2.1 x.2.2.1 x.2.2.2
  kernel_rfl
theorem laws_eqFixed.ok : CtrOk Try.prog 108 laws_eqFixed.K :=
  CtrOk.of (fn := Try.f108) (cd := laws_eqFixed.c) (cx := laws_eqFixed.x) (hs := laws_eqFixed.h) (by kernel_rfl) (by kernel_rfl) (by kernel_rfl) (by kernel_rfl) tt_ok (envOk_nil) (by kernel_rfl) (by kernel_rfl) (by kernel_rfl) (by kernel_rfl) fun k x r h => (laws_eqFixed.eq k x).trans h
/-! laws.eqFixedS -/
noncomputable def laws_eqFixedS.c : Code := bodyOf Try.f71
def laws_eqFixedS.h : Nat → Hint := look ⟨[], [], []⟩ [(0, ⟨[0, 1, 5], [], []⟩)]
def laws_eqFixedS.ps : List PK := [.one, .one]
def laws_eqFixedS.rs : List RK := [.one true]
def laws_eqFixedS.vs : List ResultVar := [.tmp 4]
def laws_eqFixedS.x : Cx := ⟨tt, look none [(108, some laws_eqFixed.K)]⟩
def laws_eqFixedS.s0 (k : Nat) (rec0 : (Int × (List (Int × Int)) × (List (Int × Int))) → Option (Bool)) (p : (Int × (List (Int × Int)) × (List (Int × Int)))) : Option (Bool) :=
  (bif (decide (p.1 < (p.2.1.length : Int))) then (bif ((decide ((0 : Int) ≤ p.1)) && (decide (p.1 < (p.2.1.length : Int)))) then (p.2.1[p.1.toNat]?).bind fun x1 => (bif ((decide ((0 : Int) ≤ p.1)) && (decide (p.1 < (p.2.2.length : Int)))) then (p.2.2[p.1.toNat]?).bind fun x2 => (laws_eqFixed.f k x1.1 x1.2 x2.1 x2.2).bind fun r3 => (bif (!r3) then some false else rec0 ((IntKind.i64.wrap (p.1 + (1 : Int))), p.2.1, p.2.2)) else none) else none) else some true)
def laws_eqFixedS.l0 (k : Nat) : Nat → (Int × (List (Int × Int)) × (List (Int × Int))) → Option (Bool)
  | 0 => fun _ => none
  | j + 1 => laws_eqFixedS.s0 k (laws_eqFixedS.l0 k j)
def laws_eqFixedS.S0 (p : (Int × (List (Int × Int)) × (List (Int × Int)))) : DS := ⟨tl [(0, .at (.whole 0)), (1, .at (.whole 16)), (5, .at (.int .i64 p.1))], lookO [(0, .row 116 (.two (.int .i64) (.int .i64)) false p.2.1), (16, .row 116 (.two (.int .i64) (.int .i64)) false p.2.2)]⟩
noncomputable def laws_eqFixedS.D0 (k : Nat) (j : Nat) (p : (Int × (List (Int × Int)) × (List (Int × Int)))) : Option (Bool) := loopK (norm [0, 16] (laws_eqFixedS.h 0)) (runK laws_eqFixedS.x k 0 [0, 16] laws_eqFixedS.h 0 (sub laws_eqFixedS.c [1, 1, 0, 1, 0, 0])) j (laws_eqFixedS.S0 p) (kBlk 0 (kSeq (runK laws_eqFixedS.x k 0 [0, 16] laws_eqFixedS.h 0 (sub laws_eqFixedS.c [1, 1, 1])) (fin tt laws_eqFixedS.ps laws_eqFixedS.rs laws_eqFixedS.vs .bool)))
theorem laws_eqFixedS.D0_eq (k : Nat) : ∀ j, laws_eqFixedS.D0 k j = laws_eqFixedS.l0 k j := by
  intro j
  induction j with
  | zero => rfl
  | succ j ih =>
    show _ = laws_eqFixedS.s0 k (laws_eqFixedS.l0 k j)
    rw [← ih]
    funext p
    kernel_rfl
def laws_eqFixedS.f (k : Nat) (a0 : List (Int × Int)) (a1 : List (Int × Int)) : Option (Bool) :=
  (bif ((a0.length : Int) != (a1.length : Int)) then some false else laws_eqFixedS.l0 k k ((0 : Int), a0, a1))
def laws_eqFixedS.K : Ctr := ⟨laws_eqFixedS.ps, laws_eqFixedS.rs, false, (.two (.sl 116 (.two (.int .i64) (.int .i64))) (.sl 116 (.two (.int .i64) (.int .i64)))), .bool, fun k x => laws_eqFixedS.f k x.1 x.2⟩
theorem laws_eqFixedS.eq (k : Nat) (x : (laws_eqFixedS.K.I).den) : func laws_eqFixedS.x laws_eqFixedS.h laws_eqFixedS.ps laws_eqFixedS.rs laws_eqFixedS.vs laws_eqFixedS.K.I laws_eqFixedS.K.O laws_eqFixedS.c k x = laws_eqFixedS.K.run k x := by
  show _ = laws_eqFixedS.f k x.1 x.2
  unfold laws_eqFixedS.f
  rw [← laws_eqFixedS.D0_eq k k]
  kernel_rfl
theorem laws_eqFixedS.ok : CtrOk Try.prog 71 laws_eqFixedS.K :=
  CtrOk.of (fn := Try.f71) (cd := laws_eqFixedS.c) (cx := laws_eqFixedS.x) (hs := laws_eqFixedS.h) (by kernel_rfl) (by kernel_rfl) (by kernel_rfl) (by kernel_rfl) tt_ok (envOk_cons laws_eqFixed.ok (envOk_nil)) (by kernel_rfl) (by kernel_rfl) (by kernel_rfl) (by kernel_rfl) fun k x r h => (laws_eqFixedS.eq k x).trans h
/-! laws.eqPool -/
noncomputable def laws_eqPool.c : Code := bodyOf Try.f28
def laws_eqPool.h : Nat → Hint := look ⟨[], [], []⟩ []
def laws_eqPool.ps : List PK := [.agg 4, .agg 4]
def laws_eqPool.rs : List RK := [.one true]
def laws_eqPool.vs : List ResultVar := [.tmp 4]
def laws_eqPool.x : Cx := ⟨tt, look none [(69, some laws_eqPrefix.K), (70, some laws_eqLeaseS.K), (71, some laws_eqFixedS.K)]⟩
def laws_eqPool.f (k : Nat) (a0_0 : Int) (a0_1 : Int) (a0_2 : List (Int × Int × Int)) (a0_3 : List (Int × Int)) (a1_0 : Int) (a1_1 : Int) (a1_2 : List (Int × Int × Int)) (a1_3 : List (Int × Int)) : Option (Bool) :=
  (laws_eqPrefix.f k a0_0 a0_1 a1_0 a1_1).bind fun r1 => (bif (!r1) then some false else (laws_eqLeaseS.f k a0_2 a1_2).bind fun r2 => (bif (!r2) then some false else (laws_eqFixedS.f k a0_3 a1_3).bind fun r3 => (bif (!r3) then some false else some true)))
def laws_eqPool.K : Ctr := ⟨laws_eqPool.ps, laws_eqPool.rs, false, (.two (.int .i64) (.two (.int .i64) (.two (.sl 97 (.two (.int .i64) (.two (.int .i64) (.int .i64)))) (.two (.sl 116 (.two (.int .i64) (.int .i64))) (.two (.int .i64) (.two (.int .i64) (.two (.sl 97 (.two (.int .i64) (.two (.int .i64) (.int .i64)))) (.sl 116 (.two (.int .i64) (.int .i64)))))))))), .bool, fun k x => laws_eqPool.f k x.1 x.2.1 x.2.2.1 x.2.2.2.1 x.2.2.2.2.1 x.2.2.2.2.2.1 x.2.2.2.2.2.2.1 x.2.2.2.2.2.2.2⟩
theorem laws_eqPool.eq (k : Nat) (x : (laws_eqPool.K.I).den) : func laws_eqPool.x laws_eqPool.h laws_eqPool.ps laws_eqPool.rs laws_eqPool.vs laws_eqPool.K.I laws_eqPool.K.O laws_eqPool.c k x = laws_eqPool.K.run k x := by
  show _ = laws_eqPool.f k x.1 x.2.1 x.2.2.1 x.2.2.2.1 x.2.2.2.2.1 x.2.2.2.2.2.1 x.2.2.2.2.2.2.1 x.2.2.2.2.2.2.2
  kernel_rfl
theorem laws_eqPool.ok : CtrOk Try.prog 28 laws_eqPool.K :=
  CtrOk.of (fn := Try.f28) (cd := laws_eqPool.c) (cx := laws_eqPool.x) (hs := laws_eqPool.h) (by kernel_rfl) (by kernel_rfl) (by kernel_rfl) (by kernel_rfl) tt_ok (envOk_cons laws_eqPrefix.ok (envOk_cons laws_eqLeaseS.ok (envOk_cons laws_eqFixedS.ok (envOk_nil)))) (by kernel_rfl) (by kernel_rfl) (by kernel_rfl) (by kernel_rfl) fun k x r h => (laws_eqPool.eq k x).trans h
/-! laws.FnExactPoolOk -/
noncomputable def laws_FnExactPoolOk.c : Code := bodyOf Try.f10
def laws_FnExactPoolOk.h : Nat → Hint := look ⟨[], [], []⟩ []
def laws_FnExactPoolOk.ps : List PK := [.agg 4]
def laws_FnExactPoolOk.rs : List RK := [.one true]
def laws_FnExactPoolOk.vs : List ResultVar := [.tmp 2]
def laws_FnExactPoolOk.x : Cx := ⟨tt, look none [(24, some laws_szPool.K), (26, some laws_toPool.K), (42, some spec_PoolOk.K), (43, some impl_PoolOk.K), (28, some laws_eqPool.K)]⟩
def laws_FnExactPoolOk.f (k : Nat) (a0_0 : Int) (a0_1 : Int) (a0_2 : List (Int × Int × Int)) (a0_3 : List (Int × Int)) : Option (Bool) :=
  (laws_szPool.f k a0_0 a0_1 a0_2 a0_3 (1048576 : Int)).bind fun r1 => (bif (decide (r1 < (0 : Int))) then some true else (laws_toPool.f k a0_0 a0_1 a0_2 a0_3).bind fun r2 => (spec_PoolOk.f k r2.1 r2.2.1 r2.2.2.1 r2.2.2.2).bind fun r3 => (laws_toPool.f k a0_0 a0_1 a0_2 a0_3).bind fun r4 => (impl_PoolOk.f k r4.1 r4.2.1 r4.2.2.1 r4.2.2.2).bind fun r5 => (bif (!(r5 == r3)) then some false else (laws_toPool.f k a0_0 a0_1 a0_2 a0_3).bind fun r6 => (laws_eqPool.f k r4.1 r4.2.1 r4.2.2.1 r4.2.2.2 r6.1 r6.2.1 r6.2.2.1 r6.2.2.2).bind fun r7 => (bif (!r7) then some false else some true)))
def laws_FnExactPoolOk.K : Ctr := ⟨laws_FnExactPoolOk.ps, laws_FnExactPoolOk.rs, false, (.two (.int .i64) (.two (.int .i64) (.two (.sl 126 (.two (.int .i64) (.two (.int .i64) (.int .i64)))) (.sl 128 (.two (.int .i64) (.int .i64)))))), .bool, fun k x => laws_FnExactPoolOk.f k x.1 x.2.1 x.2.2.1 x.2.2.2⟩
theorem laws_FnExactPoolOk.eq (k : Nat) (x : (laws_FnExactPoolOk.K.I).den) : func laws_FnExactPoolOk.x laws_FnExactPoolOk.h laws_FnExactPoolOk.ps laws_FnExactPoolOk.rs laws_FnExactPoolOk.vs laws_FnExactPoolOk.K.I laws_FnExactPoolOk.K.O laws_FnExactPoolOk.c k x = laws_FnExactPoolOk.K.run k x := by
  show _ = laws_FnExactPoolOk.f k x.1 x.2.1 x.2.2.1 x.2.2.2
  kernel_rfl
theorem laws_FnExactPoolOk.ok : CtrOk Try.prog 10 laws_FnExactPoolOk.K :=
  CtrOk.of (fn := Try.f10) (cd := laws_FnExactPoolOk.c) (cx := laws_FnExactPoolOk.x) (hs := laws_FnExactPoolOk.h) (by kernel_rfl) (by kernel_rfl) (by kernel_rfl) (by kernel_rfl) tt_ok (envOk_cons laws_szPool.ok (envOk_cons laws_toPool.ok (envOk_cons spec_PoolOk.ok (envOk_cons impl_PoolOk.ok (envOk_cons laws_eqPool.ok (envOk_nil)))))) (by kernel_rfl) (by kernel_rfl) (by kernel_rfl) (by kernel_rfl) fun k x r h => (laws_FnExactPoolOk.eq k x).trans h
end Go.Proofs.Ytbddppnhpapfkaa.DI
