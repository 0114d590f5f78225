/- FnExactRelease: functions as plain Lean, in the machine of values. -/
import Derived.Test.YtfaeklomiofpdaaVFnExactRelease2
namespace Go.Proofs.Ytfaeklomiofpdaa.DI
open Go
set_option linter.unusedVariables false
/-! impl.fixedFor -/
noncomputable def impl_fixedFor.c : Code := bodyOf Try.f92
def impl_fixedFor.h : Nat → Hint := look ⟨[], [], []⟩ [(0, ⟨[1, 8, 9, 10], [], []⟩)]
def impl_fixedFor.ps : List PK := [.agg 4, .one]
def impl_fixedFor.rs : List RK := [.one true]
def impl_fixedFor.vs : List ResultVar := [.tmp 4]
def impl_fixedFor.x : Cx := ⟨tt, look none []⟩
def impl_fixedFor.s0 (_k : Nat) (rec0 : (Int × Int × Int × (List (Int × Int × Int)) × (List (Int × Int))) → Option (Int)) (p : (Int × Int × Int × (List (Int × Int × Int)) × (List (Int × Int)))) : Option (Int) :=
  (bif (decide (p.2.2.1 < p.2.1)) then (bif ((decide ((0 : Int) ≤ p.2.2.1)) && (decide (p.2.2.1 < (p.2.2.2.2.length : Int)))) then (p.2.2.2.2[p.2.2.1.toNat]?).bind fun x1 => (bif (x1.2 == p.1) then some x1.1 else rec0 (p.1, p.2.1, (IntKind.i64.wrap (p.2.2.1 + (1 : Int))), p.2.2.2.1, p.2.2.2.2)) else none) else some (0 : Int))
def impl_fixedFor.l0 (k : Nat) : Nat → (Int × Int × Int × (List (Int × Int × Int)) × (List (Int × Int))) → Option (Int)
  | 0 => fun _ => none
  | j + 1 => impl_fixedFor.s0 k (impl_fixedFor.l0 k j)
def impl_fixedFor.S0 (p : (Int × Int × Int × (List (Int × Int × Int)) × (List (Int × Int)))) : DS := ⟨tl [(1, .at (.int .i64 p.1)), (8, .at (.whole 3)), (9, .at (.int .i64 p.2.1)), (10, .at (.int .i64 p.2.2.1))], lookO [(2, .row 63 (.two (.int .i64) (.two (.int .i64) (.int .i64))) false p.2.2.2.1), (3, .row 150 (.two (.int .i64) (.int .i64)) false p.2.2.2.2)]⟩
noncomputable def impl_fixedFor.D0 (k : Nat) (j : Nat) (p : (Int × Int × Int × (List (Int × Int × Int)) × (List (Int × Int)))) : Option (Int) := loopK (norm [2, 3] (impl_fixedFor.h 0)) (runK impl_fixedFor.x k 0 [2, 3] impl_fixedFor.h 0 (sub impl_fixedFor.c [1, 0, 1, 0, 0])) j (impl_fixedFor.S0 p) (kBlk 0 (kSeq (runK impl_fixedFor.x k 0 [2, 3] impl_fixedFor.h 0 (sub impl_fixedFor.c [1, 1])) (fin tt impl_fixedFor.ps impl_fixedFor.rs impl_fixedFor.vs (.int .i64))))
theorem impl_fixedFor.D0_eq (k : Nat) : ∀ j, impl_fixedFor.D0 k j = impl_fixedFor.l0 k j := by
  intro j
  induction j with
  | zero => rfl
  | succ j ih =>
    show _ = impl_fixedFor.s0 k (impl_fixedFor.l0 k j)
    rw [← ih]
    funext p
    kernel_rfl
def impl_fixedFor.f (k : Nat) (_a0_0 : Int) (_a0_1 : Int) (a0_2 : List (Int × Int × Int)) (a0_3 : List (Int × Int)) (a1 : Int) : Option (Int) :=
  impl_fixedFor.l0 k k (a1, (a0_3.length : Int), (0 : Int), a0_2, a0_3)
def impl_fixedFor.K : Ctr := ⟨impl_fixedFor.ps, impl_fixedFor.rs, false, (.two (.int .i64) (.two (.int .i64) (.two (.sl 63 (.two (.int .i64) (.two (.int .i64) (.int .i64)))) (.two (.sl 150 (.two (.int .i64) (.int .i64))) (.int .i64))))), (.int .i64), fun k x => impl_fixedFor.f k x.1 x.2.1 x.2.2.1 x.2.2.2.1 x.2.2.2.2⟩
theorem impl_fixedFor.eq (k : Nat) (x : (impl_fixedFor.K.I).den) : func impl_fixedFor.x impl_fixedFor.h impl_fixedFor.ps impl_fixedFor.rs impl_fixedFor.vs impl_fixedFor.K.I impl_fixedFor.K.O impl_fixedFor.c k x = impl_fixedFor.K.run k x := by
  show _ = impl_fixedFor.f k x.1 x.2.1 x.2.2.1 x.2.2.2.1 x.2.2.2.2
  unfold impl_fixedFor.f
  rw [← impl_fixedFor.D0_eq k k]
  kernel_rfl
theorem impl_fixedFor.ok : CtrOk Try.prog 92 impl_fixedFor.K :=
  CtrOk.of (fn := Try.f92) (cd := impl_fixedFor.c) (cx := impl_fixedFor.x) (hs := impl_fixedFor.h) (by kernel_rfl) (by kernel_rfl) (by kernel_rfl) (by kernel_rfl) tt_ok (envOk_nil) (by kernel_rfl) (by kernel_rfl) (by kernel_rfl) (by kernel_rfl) fun k x r h => (impl_fixedFor.eq k x).trans h
/-! impl.fixesOk -/
noncomputable def impl_fixesOk.c : Code := bodyOf Try.f90
def impl_fixesOk.h : Nat → Hint := look ⟨[], [], []⟩ [(0, ⟨[1, 6, 7, 8], [16], []⟩)]
def impl_fixesOk.ps : List PK := [.agg 4]
def impl_fixesOk.rs : List RK := [.one true]
def impl_fixesOk.vs : List ResultVar := [.tmp 2]
def impl_fixesOk.x : Cx := ⟨tt, look none [(70, some impl_isId.K), (91, some impl_isHost.K), (92, some impl_fixedFor.K)]⟩
def impl_fixesOk.s0 (k : Nat) (rec0 : (Int × Int × (List (Int × Int × Int)) × (List (Int × Int)) × Int × Int) → Option (Bool)) (p : (Int × Int × (List (Int × Int × Int)) × (List (Int × Int)) × Int × Int)) : Option (Bool) :=
  (bif (decide (p.2.1 < p.1)) then (bif ((decide ((0 : Int) ≤ p.2.1)) && (decide (p.2.1 < (p.2.2.2.1.length : Int)))) then (p.2.2.2.1[p.2.1.toNat]?).bind fun x1 => (impl_isId.f k x1.1).bind fun r2 => (bif (!r2) then some false else (impl_isHost.f k p.2.2.2.2.1 p.2.2.2.2.2 x1.2).bind fun r3 => (bif (!r3) then some false else (bif (decide (p.2.1 > (0 : Int))) then (bif ((decide ((0 : Int) ≤ (IntKind.i64.wrap (p.2.1 - (1 : Int))))) && (decide ((IntKind.i64.wrap (p.2.1 - (1 : Int))) < (p.2.2.2.1.length : Int)))) then (p.2.2.2.1[(IntKind.i64.wrap (p.2.1 - (1 : Int))).toNat]?).bind fun x4 => (bif (decide (x4.1 ≥ x1.1)) then some false else (impl_fixedFor.f k p.2.2.2.2.1 p.2.2.2.2.2 p.2.2.1 p.2.2.2.1 x1.2).bind fun r5 => (bif (r5 != x1.1) then some false else rec0 (p.1, (IntKind.i64.wrap (p.2.1 + (1 : Int))), p.2.2.1, p.2.2.2.1, p.2.2.2.2.1, p.2.2.2.2.2))) else none) else (impl_fixedFor.f k p.2.2.2.2.1 p.2.2.2.2.2 p.2.2.1 p.2.2.2.1 x1.2).bind fun r6 => (bif (r6 != x1.1) then some false else rec0 (p.1, (IntKind.i64.wrap (p.2.1 + (1 : Int))), p.2.2.1, p.2.2.2.1, p.2.2.2.2.1, p.2.2.2.2.2))))) else none) else some (decide ((p.2.2.2.1.length : Int) ≤ (4 : Int))))
def impl_fixesOk.l0 (k : Nat) : Nat → (Int × Int × (List (Int × Int × Int)) × (List (Int × Int)) × Int × Int) → Option (Bool)
  | 0 => fun _ => none
  | j + 1 => impl_fixesOk.s0 k (impl_fixesOk.l0 k j)
def impl_fixesOk.S0 (p : (Int × Int × (List (Int × Int × Int)) × (List (Int × Int)) × Int × Int)) : DS := ⟨tl [(1, .at (.bptr 16 0)), (6, .at (.whole 3)), (7, .at (.int .i64 p.1)), (8, .at (.int .i64 p.2.1))], lookO [(2, .row 63 (.two (.int .i64) (.two (.int .i64) (.int .i64))) false p.2.2.1), (3, .row 150 (.two (.int .i64) (.int .i64)) false p.2.2.2.1), (16, .box 50 [.int .i64 p.2.2.2.2.1, .int .i64 p.2.2.2.2.2, .whole 2, .whole 3])]⟩
noncomputable def impl_fixesOk.D0 (k : Nat) (j : Nat) (p : (Int × Int × (List (Int × Int × Int)) × (List (Int × Int)) × Int × Int)) : Option (Bool) := loopK (norm [2, 3] (impl_fixesOk.h 0)) (runK impl_fixesOk.x k 0 [2, 3] impl_fixesOk.h 0 (sub impl_fixesOk.c [1, 0, 1, 0, 0])) j (impl_fixesOk.S0 p) (kBlk 0 (kSeq (runK impl_fixesOk.x k 0 [2, 3] impl_fixesOk.h 0 (sub impl_fixesOk.c [1, 1])) (fin tt impl_fixesOk.ps impl_fixesOk.rs impl_fixesOk.vs .bool)))
theorem impl_fixesOk.D0_eq (k : Nat) : ∀ j, impl_fixesOk.D0 k j = impl_fixesOk.l0 k j := by
  intro j
  induction j with
  | zero => rfl
  | succ j ih =>
    show _ = impl_fixesOk.s0 k (impl_fixesOk.l0 k j)
    rw [← ih]
    funext p
    kernel_rfl
def impl_fixesOk.f (k : Nat) (a0_0 : Int) (a0_1 : Int) (a0_2 : List (Int × Int × Int)) (a0_3 : List (Int × Int)) : Option (Bool) :=
  impl_fixesOk.l0 k k ((a0_3.length : Int), (0 : Int), a0_2, a0_3, a0_0, a0_1)
def impl_fixesOk.K : Ctr := ⟨impl_fixesOk.ps, impl_fixesOk.rs, false, (.two (.int .i64) (.two (.int .i64) (.two (.sl 63 (.two (.int .i64) (.two (.int .i64) (.int .i64)))) (.sl 150 (.two (.int .i64) (.int .i64)))))), .bool, fun k x => impl_fixesOk.f k x.1 x.2.1 x.2.2.1 x.2.2.2⟩
theorem impl_fixesOk.eq (k : Nat) (x : (impl_fixesOk.K.I).den) : func impl_fixesOk.x impl_fixesOk.h impl_fixesOk.ps impl_fixesOk.rs impl_fixesOk.vs impl_fixesOk.K.I impl_fixesOk.K.O impl_fixesOk.c k x = impl_fixesOk.K.run k x := by
  show _ = impl_fixesOk.f k x.1 x.2.1 x.2.2.1 x.2.2.2
  unfold impl_fixesOk.f
  rw [← impl_fixesOk.D0_eq k k]
  kernel_rfl
theorem impl_fixesOk.ok : CtrOk Try.prog 90 impl_fixesOk.K :=
  CtrOk.of (fn := Try.f90) (cd := impl_fixesOk.c) (cx := impl_fixesOk.x) (hs := impl_fixesOk.h) (by kernel_rfl) (by kernel_rfl) (by kernel_rfl) (by kernel_rfl) tt_ok (envOk_cons impl_isId.ok (envOk_cons impl_isHost.ok (envOk_cons impl_fixedFor.ok (envOk_nil)))) (by kernel_rfl) (by kernel_rfl) (by kernel_rfl) (by kernel_rfl) fun k x r h => (impl_fixesOk.eq k x).trans h
/-! impl.PoolOk -/
noncomputable def impl_PoolOk.c : Code := bodyOf Try.f34
def impl_PoolOk.h : Nat → Hint := look ⟨[], [], []⟩ [(0, ⟨[1, 29, 30, 31], [16], []⟩)]
def impl_PoolOk.ps : List PK := [.agg 4]
def impl_PoolOk.rs : List RK := [.one true]
def impl_PoolOk.vs : List ResultVar := [.tmp 2]
def impl_PoolOk.x : Cx := ⟨tt, look none [(69, some impl_PrefixOk.K), (89, some impl_within.K), (90, some impl_fixesOk.K), (91, some impl_isHost.K), (70, some impl_isId.K), (92, some impl_fixedFor.K), (93, some impl_leaseOf.K)]⟩
def impl_PoolOk.s0 (k : Nat) (rec0 : (Int × Int × (List (Int × Int × Int)) × (List (Int × Int)) × Int × Int) → Option (Bool)) (p : (Int × Int × (List (Int × Int × Int)) × (List (Int × Int)) × Int × Int)) : Option (Bool) :=
  (bif (decide (p.2.1 < p.1)) then (bif ((decide ((0 : Int) ≤ p.2.1)) && (decide (p.2.1 < (p.2.2.1.length : Int)))) then (p.2.2.1[p.2.1.toNat]?).bind fun x4 => (bif (decide (p.2.1 > (0 : Int))) then (bif ((decide ((0 : Int) ≤ (IntKind.i64.wrap (p.2.1 - (1 : Int))))) && (decide ((IntKind.i64.wrap (p.2.1 - (1 : Int))) < (p.2.2.1.length : Int)))) then (p.2.2.1[(IntKind.i64.wrap (p.2.1 - (1 : Int))).toNat]?).bind fun x5 => (bif (decide (x5.1 ≥ x4.1)) then some false else (impl_isHost.f k p.2.2.2.2.1 p.2.2.2.2.2 x4.1).bind fun r6 => (bif (!r6) then some false else (impl_isId.f k x4.2.1).bind fun r7 => (bif (!r7) then some false else (impl_within.f k x4.2.2 (0 : Int) (1000000000 : Int)).bind fun r8 => (bif (!r8) then some false else (impl_fixedFor.f k p.2.2.2.2.1 p.2.2.2.2.2 p.2.2.1 p.2.2.2.1 x4.1).bind fun r9 => (impl_leaseOf.f k p.2.2.2.2.1 p.2.2.2.2.2 p.2.2.1 p.2.2.2.1 x4.2.1).bind fun r10 => (bif (r10 != p.2.1) then some false else (bif (r9 != (0 : Int)) then (bif (r9 != x4.2.1) then some false else rec0 (p.1, (IntKind.i64.wrap (p.2.1 + (1 : Int))), p.2.2.1, p.2.2.2.1, p.2.2.2.2.1, p.2.2.2.2.2)) else rec0 (p.1, (IntKind.i64.wrap (p.2.1 + (1 : Int))), p.2.2.1, p.2.2.2.1, p.2.2.2.2.1, p.2.2.2.2.2))))))) else none) else (impl_isHost.f k p.2.2.2.2.1 p.2.2.2.2.2 x4.1).bind fun r11 => (bif (!r11) then some false else (impl_isId.f k x4.2.1).bind fun r12 => (bif (!r12) then some false else (impl_within.f k x4.2.2 (0 : Int) (1000000000 : Int)).bind fun r13 => (bif (!r13) then some false else (impl_fixedFor.f k p.2.2.2.2.1 p.2.2.2.2.2 p.2.2.1 p.2.2.2.1 x4.1).bind fun r14 => (impl_leaseOf.f k p.2.2.2.2.1 p.2.2.2.2.2 p.2.2.1 p.2.2.2.1 x4.2.1).bind fun r15 => (bif (r15 != p.2.1) then some false else (bif (r14 != (0 : Int)) then (bif (r14 != x4.2.1) then some false else rec0 (p.1, (IntKind.i64.wrap (p.2.1 + (1 : Int))), p.2.2.1, p.2.2.2.1, p.2.2.2.2.1, p.2.2.2.2.2)) else rec0 (p.1, (IntKind.i64.wrap (p.2.1 + (1 : Int))), p.2.2.1, p.2.2.2.1, p.2.2.2.2.1, p.2.2.2.2.2))))))) else none) else some true)
def impl_PoolOk.l0 (k : Nat) : Nat → (Int × Int × (List (Int × Int × Int)) × (List (Int × Int)) × Int × Int) → Option (Bool)
  | 0 => fun _ => none
  | j + 1 => impl_PoolOk.s0 k (impl_PoolOk.l0 k j)
def impl_PoolOk.S0 (p : (Int × Int × (List (Int × Int × Int)) × (List (Int × Int)) × Int × Int)) : DS := ⟨tl [(1, .at (.bptr 16 0)), (29, .at (.whole 2)), (30, .at (.int .i64 p.1)), (31, .at (.int .i64 p.2.1))], lookO [(2, .row 63 (.two (.int .i64) (.two (.int .i64) (.int .i64))) false p.2.2.1), (3, .row 150 (.two (.int .i64) (.int .i64)) false p.2.2.2.1), (16, .box 50 [.int .i64 p.2.2.2.2.1, .int .i64 p.2.2.2.2.2, .whole 2, .whole 3])]⟩
noncomputable def impl_PoolOk.D0 (k : Nat) (j : Nat) (p : (Int × Int × (List (Int × Int × Int)) × (List (Int × Int)) × Int × Int)) : Option (Bool) := loopK (norm [2, 3] (impl_PoolOk.h 0)) (runK impl_PoolOk.x k 0 [2, 3] impl_PoolOk.h 0 (sub impl_PoolOk.c [1, 1, 0, 1, 0, 0])) j (impl_PoolOk.S0 p) (kBlk 0 (kSeq (runK impl_PoolOk.x k 0 [2, 3] impl_PoolOk.h 0 (sub impl_PoolOk.c [1, 1, 1])) (fin tt impl_PoolOk.ps impl_PoolOk.rs impl_PoolOk.vs .bool)))
theorem impl_PoolOk.D0_eq (k : Nat) : ∀ j, impl_PoolOk.D0 k j = impl_PoolOk.l0 k j := by
  intro j
  induction j with
  | zero => rfl
  | succ j ih =>
    show _ = impl_PoolOk.s0 k (impl_PoolOk.l0 k j)
    rw [← ih]
    funext p
    kernel_rfl
def impl_PoolOk.f (k : Nat) (a0_0 : Int) (a0_1 : Int) (a0_2 : List (Int × Int × Int)) (a0_3 : List (Int × Int)) : Option (Bool) :=
  (impl_PrefixOk.f k a0_0 a0_1).bind fun r1 => (bif (!r1) then some false else (impl_within.f k a0_1 (24 : Int) (30 : Int)).bind fun r2 => (bif (!r2) then some false else (impl_fixesOk.f k a0_0 a0_1 a0_2 a0_3).bind fun r3 => (bif (!r3) then some false else (bif (decide ((a0_2.length : Int) > (6 : Int))) then some false else impl_PoolOk.l0 k k ((a0_2.length : Int), (0 : Int), a0_2, a0_3, a0_0, a0_1)))))
def impl_PoolOk.K : Ctr := ⟨impl_PoolOk.ps, impl_PoolOk.rs, false, (.two (.int .i64) (.two (.int .i64) (.two (.sl 63 (.two (.int .i64) (.two (.int .i64) (.int .i64)))) (.sl 150 (.two (.int .i64) (.int .i64)))))), .bool, fun k x => impl_PoolOk.f k x.1 x.2.1 x.2.2.1 x.2.2.2⟩
theorem impl_PoolOk.eq (k : Nat) (x : (impl_PoolOk.K.I).den) : func impl_PoolOk.x impl_PoolOk.h impl_PoolOk.ps impl_PoolOk.rs impl_PoolOk.vs impl_PoolOk.K.I impl_PoolOk.K.O impl_PoolOk.c k x = impl_PoolOk.K.run k x := by
  show _ = impl_PoolOk.f k x.1 x.2.1 x.2.2.1 x.2.2.2
  unfold impl_PoolOk.f
  rw [← impl_PoolOk.D0_eq k k]
  kernel_rfl
theorem impl_PoolOk.ok : CtrOk Try.prog 34 impl_PoolOk.K :=
  CtrOk.of (fn := Try.f34) (cd := impl_PoolOk.c) (cx := impl_PoolOk.x) (hs := impl_PoolOk.h) (by kernel_rfl) (by kernel_rfl) (by kernel_rfl) (by kernel_rfl) tt_ok (envOk_cons impl_PrefixOk.ok (envOk_cons impl_within.ok (envOk_cons impl_fixesOk.ok (envOk_cons impl_isHost.ok (envOk_cons impl_isId.ok (envOk_cons impl_fixedFor.ok (envOk_cons impl_leaseOf.ok (envOk_nil)))))))) (by kernel_rfl) (by kernel_rfl) (by kernel_rfl) (by kernel_rfl) fun k x r h => (impl_PoolOk.eq k x).trans h
/-! slices.Delete[[]impl.Lease,impl.Lease] -/
def slices_Delete_impl_Lease_impl_Lease.f (_k : Nat) (a0 : List (Int × Int × Int)) (a1 : Int) (a2 : Int) : Option (List (Int × Int × Int)) :=
  if (0 ≤ a1 ∧ a1 < a2) ∧ (a2 ≤ (List.length a0 : Int) ∧ List.length a0 ≤ 9223372036854775807) then some (List.take a1.toNat a0 ++ List.drop a2.toNat a0) else none
def slices_Delete_impl_Lease_impl_Lease.K : Ctr := ⟨[.give, .one, .one], [.one true], true, (.two (.sl 63 (.two (.int .i64) (.two (.int .i64) (.int .i64)))) (.two (.int .i64) (.int .i64))), (.sl 63 (.two (.int .i64) (.two (.int .i64) (.int .i64)))), fun k x => slices_Delete_impl_Lease_impl_Lease.f k x.1 x.2.1 x.2.2⟩
theorem slices_Delete_impl_Lease_impl_Lease.ok : CtrOk Try.prog 95 slices_Delete_impl_Lease_impl_Lease.K := CtrOk.del del95.roads ti47 rfl ti63 rfl
/-! impl.Release -/
noncomputable def impl_Release.c : Code := bodyOf Try.f39
def impl_Release.h : Nat → Hint := look ⟨[], [], []⟩ []
def impl_Release.ps : List PK := [.agg 4, .one]
def impl_Release.rs : List RK := [.agg 4 true, .one true]
def impl_Release.vs : List ResultVar := [.cell 4 50, .tmp 5]
def impl_Release.x : Cx := ⟨tt, look none [(79, some impl_copyPool.K), (93, some impl_leaseOf.K), (34, some impl_PoolOk.K), (95, some slices_Delete_impl_Lease_impl_Lease.K)]⟩
def impl_Release.f (k : Nat) (a0_0 : Int) (a0_1 : Int) (a0_2 : List (Int × Int × Int)) (a0_3 : List (Int × Int)) (a1 : Int) : Option (Int × Int × (List (Int × Int × Int)) × (List (Int × Int)) × Bool) :=
  (impl_copyPool.f k a0_0 a0_1 a0_2 a0_3).bind fun r1 => (impl_leaseOf.f k a0_0 a0_1 a0_2 a0_3 a1).bind fun r2 => (impl_PoolOk.f k a0_0 a0_1 a0_2 a0_3).bind fun r3 => (bif (!r3) then some (r1.1, r1.2.1, r1.2.2.1, r1.2.2.2, false) else (bif (decide (r2 < (0 : Int))) then some (r1.1, r1.2.1, r1.2.2.1, r1.2.2.2, false) else (slices_Delete_impl_Lease_impl_Lease.f k r1.2.2.1 r2 (IntKind.i64.wrap (r2 + (1 : Int)))).bind fun r4 => some (r1.1, r1.2.1, r4, r1.2.2.2, true)))
def impl_Release.K : Ctr := ⟨impl_Release.ps, impl_Release.rs, false, (.two (.int .i64) (.two (.int .i64) (.two (.sl 63 (.two (.int .i64) (.two (.int .i64) (.int .i64)))) (.two (.sl 150 (.two (.int .i64) (.int .i64))) (.int .i64))))), (.two (.int .i64) (.two (.int .i64) (.two (.sl 63 (.two (.int .i64) (.two (.int .i64) (.int .i64)))) (.two (.sl 150 (.two (.int .i64) (.int .i64))) .bool)))), fun k x => impl_Release.f k x.1 x.2.1 x.2.2.1 x.2.2.2.1 x.2.2.2.2⟩
theorem impl_Release.eq (k : Nat) (x : (impl_Release.K.I).den) : func impl_Release.x impl_Release.h impl_Release.ps impl_Release.rs impl_Release.vs impl_Release.K.I impl_Release.K.O impl_Release.c k x = impl_Release.K.run k x := by
  show _ = impl_Release.f k x.1 x.2.1 x.2.2.1 x.2.2.2.1 x.2.2.2.2
  kernel_rfl
theorem impl_Release.ok : CtrOk Try.prog 39 impl_Release.K :=
  CtrOk.of (fn := Try.f39) (cd := impl_Release.c) (cx := impl_Release.x) (hs := impl_Release.h) (by kernel_rfl) (by kernel_rfl) (by kernel_rfl) (by kernel_rfl) tt_ok (envOk_cons impl_copyPool.ok (envOk_cons impl_leaseOf.ok (envOk_cons impl_PoolOk.ok (envOk_cons slices_Delete_impl_Lease_impl_Lease.ok (envOk_nil))))) (by kernel_rfl) (by kernel_rfl) (by kernel_rfl) (by kernel_rfl) fun k x r h => (impl_Release.eq k x).trans h
/-! laws.eqPrefix -/
noncomputable def laws_eqPrefix.c : Code := bodyOf Try.f80
def laws_eqPrefix.h : Nat → Hint := look ⟨[], [], []⟩ []
def laws_eqPrefix.ps : List PK := [.agg 2, .agg 2]
def laws_eqPrefix.rs : List RK := [.one true]
def laws_eqPrefix.vs : List ResultVar := [.tmp 4]
def laws_eqPrefix.x : Cx := ⟨tt, look none []⟩
def laws_eqPrefix.f (_k : Nat) (a0_0 : Int) (a0_1 : Int) (a1_0 : Int) (a1_1 : Int) : Option (Bool) :=
  (bif (a0_0 != a1_0) then some false else (bif (a0_1 != a1_1) then some false else some true))
def laws_eqPrefix.K : Ctr := ⟨laws_eqPrefix.ps, laws_eqPrefix.rs, false, (.two (.int .i64) (.two (.int .i64) (.two (.int .i64) (.int .i64)))), .bool, fun k x => laws_eqPrefix.f k x.1 x.2.1 x.2.2.1 x.2.2.2⟩
theorem laws_eqPrefix.eq (k : Nat) (x : (laws_eqPrefix.K.I).den) : func laws_eqPrefix.x laws_eqPrefix.h laws_eqPrefix.ps laws_eqPrefix.rs laws_eqPrefix.vs laws_eqPrefix.K.I laws_eqPrefix.K.O laws_eqPrefix.c k x = laws_eqPrefix.K.run k x := by
  show _ = laws_eqPrefix.f k x.1 x.2.1 x.2.2.1 x.2.2.2
  kernel_rfl
theorem laws_eqPrefix.ok : CtrOk Try.prog 80 laws_eqPrefix.K :=
  CtrOk.of (fn := Try.f80) (cd := laws_eqPrefix.c) (cx := laws_eqPrefix.x) (hs := laws_eqPrefix.h) (by kernel_rfl) (by kernel_rfl) (by kernel_rfl) (by kernel_rfl) tt_ok (envOk_nil) (by kernel_rfl) (by kernel_rfl) (by kernel_rfl) (by kernel_rfl) fun k x r h => (laws_eqPrefix.eq k x).trans h
/-! laws.eqLease -/
noncomputable def laws_eqLease.c : Code := bodyOf Try.f134
def laws_eqLease.h : Nat → Hint := look ⟨[], [], []⟩ []
def laws_eqLease.ps : List PK := [.agg 3, .agg 3]
def laws_eqLease.rs : List RK := [.one true]
def laws_eqLease.vs : List ResultVar := [.tmp 4]
def laws_eqLease.x : Cx := ⟨tt, look none []⟩
def laws_eqLease.f (_k : Nat) (a0_0 : Int) (a0_1 : Int) (a0_2 : Int) (a1_0 : Int) (a1_1 : Int) (a1_2 : Int) : Option (Bool) :=
  (bif (a0_0 != a1_0) then some false else (bif (a0_1 != a1_1) then some false else (bif (a0_2 != a1_2) then some false else some true)))
def laws_eqLease.K : Ctr := ⟨laws_eqLease.ps, laws_eqLease.rs, false, (.two (.int .i64) (.two (.int .i64) (.two (.int .i64) (.two (.int .i64) (.two (.int .i64) (.int .i64)))))), .bool, fun k x => laws_eqLease.f k x.1 x.2.1 x.2.2.1 x.2.2.2.1 x.2.2.2.2.1 x.2.2.2.2.2⟩
theorem laws_eqLease.eq (k : Nat) (x : (laws_eqLease.K.I).den) : func laws_eqLease.x laws_eqLease.h laws_eqLease.ps laws_eqLease.rs laws_eqLease.vs laws_eqLease.K.I laws_eqLease.K.O laws_eqLease.c k x = laws_eqLease.K.run k x := by
  show _ = laws_eqLease.f k x.1 x.2.1 x.2.2.1 x.2.2.2.1 x.2.2.2.2.1 x.2.2.2.2.2
  kernel_rfl
theorem laws_eqLease.ok : CtrOk Try.prog 134 laws_eqLease.K :=
  CtrOk.of (fn := Try.f134) (cd := laws_eqLease.c) (cx := laws_eqLease.x) (hs := laws_eqLease.h) (by kernel_rfl) (by kernel_rfl) (by kernel_rfl) (by kernel_rfl) tt_ok (envOk_nil) (by kernel_rfl) (by kernel_rfl) (by kernel_rfl) (by kernel_rfl) fun k x r h => (laws_eqLease.eq k x).trans h
/-! laws.eqLeaseS -/
noncomputable def laws_eqLeaseS.c : Code := bodyOf Try.f81
def laws_eqLeaseS.h : Nat → Hint := look ⟨[], [], []⟩ [(0, ⟨[0, 1, 5], [], []⟩)]
def laws_eqLeaseS.ps : List PK := [.one, .one]
def laws_eqLeaseS.rs : List RK := [.one true]
def laws_eqLeaseS.vs : List ResultVar := [.tmp 4]
def laws_eqLeaseS.x : Cx := ⟨tt, look none [(134, some laws_eqLease.K)]⟩
def laws_eqLeaseS.s0 (k : Nat) (rec0 : (Int × (List (Int × Int × Int)) × (List (Int × Int × Int))) → Option (Bool)) (p : (Int × (List (Int × Int × Int)) × (List (Int × Int × Int)))) : Option (Bool) :=
  (bif (decide (p.1 < (p.2.1.length : Int))) then (bif ((decide ((0 : Int) ≤ p.1)) && (decide (p.1 < (p.2.1.length : Int)))) then (p.2.1[p.1.toNat]?).bind fun x1 => (bif ((decide ((0 : Int) ≤ p.1)) && (decide (p.1 < (p.2.2.length : Int)))) then (p.2.2[p.1.toNat]?).bind fun x2 => (laws_eqLease.f k x1.1 x1.2.1 x1.2.2 x2.1 x2.2.1 x2.2.2).bind fun r3 => (bif (!r3) then some false else rec0 ((IntKind.i64.wrap (p.1 + (1 : Int))), p.2.1, p.2.2)) else none) else none) else some true)
def laws_eqLeaseS.l0 (k : Nat) : Nat → (Int × (List (Int × Int × Int)) × (List (Int × Int × Int))) → Option (Bool)
  | 0 => fun _ => none
  | j + 1 => laws_eqLeaseS.s0 k (laws_eqLeaseS.l0 k j)
def laws_eqLeaseS.S0 (p : (Int × (List (Int × Int × Int)) × (List (Int × Int × Int)))) : DS := ⟨tl [(0, .at (.whole 0)), (1, .at (.whole 16)), (5, .at (.int .i64 p.1))], lookO [(0, .row 63 (.two (.int .i64) (.two (.int .i64) (.int .i64))) false p.2.1), (16, .row 63 (.two (.int .i64) (.two (.int .i64) (.int .i64))) false p.2.2)]⟩
noncomputable def laws_eqLeaseS.D0 (k : Nat) (j : Nat) (p : (Int × (List (Int × Int × Int)) × (List (Int × Int × Int)))) : Option (Bool) := loopK (norm [0, 16] (laws_eqLeaseS.h 0)) (runK laws_eqLeaseS.x k 0 [0, 16] laws_eqLeaseS.h 0 (sub laws_eqLeaseS.c [1, 1, 0, 1, 0, 0])) j (laws_eqLeaseS.S0 p) (kBlk 0 (kSeq (runK laws_eqLeaseS.x k 0 [0, 16] laws_eqLeaseS.h 0 (sub laws_eqLeaseS.c [1, 1, 1])) (fin tt laws_eqLeaseS.ps laws_eqLeaseS.rs laws_eqLeaseS.vs .bool)))
theorem laws_eqLeaseS.D0_eq (k : Nat) : ∀ j, laws_eqLeaseS.D0 k j = laws_eqLeaseS.l0 k j := by
  intro j
  induction j with
  | zero => rfl
  | succ j ih =>
    show _ = laws_eqLeaseS.s0 k (laws_eqLeaseS.l0 k j)
    rw [← ih]
    funext p
    kernel_rfl
def laws_eqLeaseS.f (k : Nat) (a0 : List (Int × Int × Int)) (a1 : List (Int × Int × Int)) : Option (Bool) :=
  (bif ((a0.length : Int) != (a1.length : Int)) then some false else laws_eqLeaseS.l0 k k ((0 : Int), a0, a1))
def laws_eqLeaseS.K : Ctr := ⟨laws_eqLeaseS.ps, laws_eqLeaseS.rs, false, (.two (.sl 63 (.two (.int .i64) (.two (.int .i64) (.int .i64)))) (.sl 63 (.two (.int .i64) (.two (.int .i64) (.int .i64))))), .bool, fun k x => laws_eqLeaseS.f k x.1 x.2⟩
theorem laws_eqLeaseS.eq (k : Nat) (x : (laws_eqLeaseS.K.I).den) : func laws_eqLeaseS.x laws_eqLeaseS.h laws_eqLeaseS.ps laws_eqLeaseS.rs laws_eqLeaseS.vs laws_eqLeaseS.K.I laws_eqLeaseS.K.O laws_eqLeaseS.c k x = laws_eqLeaseS.K.run k x := by
  show _ = laws_eqLeaseS.f k x.1 x.2
  unfold laws_eqLeaseS.f
  rw [← laws_eqLeaseS.D0_eq k k]
  kernel_rfl
theorem laws_eqLeaseS.ok : CtrOk Try.prog 81 laws_eqLeaseS.K :=
  CtrOk.of (fn := Try.f81) (cd := laws_eqLeaseS.c) (cx := laws_eqLeaseS.x) (hs := laws_eqLeaseS.h) (by kernel_rfl) (by kernel_rfl) (by kernel_rfl) (by kernel_rfl) tt_ok (envOk_cons laws_eqLease.ok (envOk_nil)) (by kernel_rfl) (by kernel_rfl) (by kernel_rfl) (by kernel_rfl) fun k x r h => (laws_eqLeaseS.eq k x).trans h
/-! laws.eqFixed -/
noncomputable def laws_eqFixed.c : Code := bodyOf Try.f135
def laws_eqFixed.h : Nat → Hint := look ⟨[], [], []⟩ []
def laws_eqFixed.ps : List PK := [.agg 2, .agg 2]
def laws_eqFixed.rs : List RK := [.one true]
def laws_eqFixed.vs : List ResultVar := [.tmp 4]
def laws_eqFixed.x : Cx := ⟨tt, look none []⟩
def laws_eqFixed.f (_k : Nat) (a0_0 : Int) (a0_1 : Int) (a1_0 : Int) (a1_1 : Int) : Option (Bool) :=
  (bif (a0_0 != a1_0) then some false else (bif (a0_1 != a1_1) then some false else some true))
def laws_eqFixed.K : Ctr := ⟨laws_eqFixed.ps, laws_eqFixed.rs, false, (.two (.int .i64) (.two (.int .i64) (.two (.int .i64) (.int .i64)))), .bool, fun k x => laws_eqFixed.f k x.1 x.2.1 x.2.2.1 x.2.2.2⟩
theorem laws_eqFixed.eq (k : Nat) (x : (laws_eqFixed.K.I).den) : func laws_eqFixed.x laws_eqFixed.h laws_eqFixed.ps laws_eqFixed.rs laws_eqFixed.vs laws_eqFixed.K.I laws_eqFixed.K.O laws_eqFixed.c k x = laws_eqFixed.K.run k x := by
  show _ = laws_eqFixed.f k x.1 x.2.1 x.2.2.1 x.2.2.2
  kernel_rfl
theorem laws_eqFixed.ok : CtrOk Try.prog 135 laws_eqFixed.K :=
  CtrOk.of (fn := Try.f135) (cd := laws_eqFixed.c) (cx := laws_eqFixed.x) (hs := laws_eqFixed.h) (by kernel_rfl) (by kernel_rfl) (by kernel_rfl) (by kernel_rfl) tt_ok (envOk_nil) (by kernel_rfl) (by kernel_rfl) (by kernel_rfl) (by kernel_rfl) fun k x r h => (laws_eqFixed.eq k x).trans h
/-! laws.eqFixedS -/
noncomputable def laws_eqFixedS.c : Code := bodyOf Try.f82
def laws_eqFixedS.h : Nat → Hint := look ⟨[], [], []⟩ [(0, ⟨[0, 1, 5], [], []⟩)]
def laws_eqFixedS.ps : List PK := [.one, .one]
def laws_eqFixedS.rs : List RK := [.one true]
def laws_eqFixedS.vs : List ResultVar := [.tmp 4]
def laws_eqFixedS.x : Cx := ⟨tt, look none [(135, some laws_eqFixed.K)]⟩
def laws_eqFixedS.s0 (k : Nat) (rec0 : (Int × (List (Int × Int)) × (List (Int × Int))) → Option (Bool)) (p : (Int × (List (Int × Int)) × (List (Int × Int)))) : Option (Bool) :=
  (bif (decide (p.1 < (p.2.1.length : Int))) then (bif ((decide ((0 : Int) ≤ p.1)) && (decide (p.1 < (p.2.1.length : Int)))) then (p.2.1[p.1.toNat]?).bind fun x1 => (bif ((decide ((0 : Int) ≤ p.1)) && (decide (p.1 < (p.2.2.length : Int)))) then (p.2.2[p.1.toNat]?).bind fun x2 => (laws_eqFixed.f k x1.1 x1.2 x2.1 x2.2).bind fun r3 => (bif (!r3) then some false else rec0 ((IntKind.i64.wrap (p.1 + (1 : Int))), p.2.1, p.2.2)) else none) else none) else some true)
def laws_eqFixedS.l0 (k : Nat) : Nat → (Int × (List (Int × Int)) × (List (Int × Int))) → Option (Bool)
  | 0 => fun _ => none
  | j + 1 => laws_eqFixedS.s0 k (laws_eqFixedS.l0 k j)
def laws_eqFixedS.S0 (p : (Int × (List (Int × Int)) × (List (Int × Int)))) : DS := ⟨tl [(0, .at (.whole 0)), (1, .at (.whole 16)), (5, .at (.int .i64 p.1))], lookO [(0, .row 150 (.two (.int .i64) (.int .i64)) false p.2.1), (16, .row 150 (.two (.int .i64) (.int .i64)) false p.2.2)]⟩
noncomputable def laws_eqFixedS.D0 (k : Nat) (j : Nat) (p : (Int × (List (Int × Int)) × (List (Int × Int)))) : Option (Bool) := loopK (norm [0, 16] (laws_eqFixedS.h 0)) (runK laws_eqFixedS.x k 0 [0, 16] laws_eqFixedS.h 0 (sub laws_eqFixedS.c [1, 1, 0, 1, 0, 0])) j (laws_eqFixedS.S0 p) (kBlk 0 (kSeq (runK laws_eqFixedS.x k 0 [0, 16] laws_eqFixedS.h 0 (sub laws_eqFixedS.c [1, 1, 1])) (fin tt laws_eqFixedS.ps laws_eqFixedS.rs laws_eqFixedS.vs .bool)))
theorem laws_eqFixedS.D0_eq (k : Nat) : ∀ j, laws_eqFixedS.D0 k j = laws_eqFixedS.l0 k j := by
  intro j
  induction j with
  | zero => rfl
  | succ j ih =>
    show _ = laws_eqFixedS.s0 k (laws_eqFixedS.l0 k j)
    rw [← ih]
    funext p
    kernel_rfl
def laws_eqFixedS.f (k : Nat) (a0 : List (Int × Int)) (a1 : List (Int × Int)) : Option (Bool) :=
  (bif ((a0.length : Int) != (a1.length : Int)) then some false else laws_eqFixedS.l0 k k ((0 : Int), a0, a1))
def laws_eqFixedS.K : Ctr := ⟨laws_eqFixedS.ps, laws_eqFixedS.rs, false, (.two (.sl 150 (.two (.int .i64) (.int .i64))) (.sl 150 (.two (.int .i64) (.int .i64)))), .bool, fun k x => laws_eqFixedS.f k x.1 x.2⟩
theorem laws_eqFixedS.eq (k : Nat) (x : (laws_eqFixedS.K.I).den) : func laws_eqFixedS.x laws_eqFixedS.h laws_eqFixedS.ps laws_eqFixedS.rs laws_eqFixedS.vs laws_eqFixedS.K.I laws_eqFixedS.K.O laws_eqFixedS.c k x = laws_eqFixedS.K.run k x := by
  show _ = laws_eqFixedS.f k x.1 x.2
  unfold laws_eqFixedS.f
  rw [← laws_eqFixedS.D0_eq k k]
  kernel_rfl
theorem laws_eqFixedS.ok : CtrOk Try.prog 82 laws_eqFixedS.K :=
  CtrOk.of (fn := Try.f82) (cd := laws_eqFixedS.c) (cx := laws_eqFixedS.x) (hs := laws_eqFixedS.h) (by kernel_rfl) (by kernel_rfl) (by kernel_rfl) (by kernel_rfl) tt_ok (envOk_cons laws_eqFixed.ok (envOk_nil)) (by kernel_rfl) (by kernel_rfl) (by kernel_rfl) (by kernel_rfl) fun k x r h => (laws_eqFixedS.eq k x).trans h
/-! laws.eqPool -/
noncomputable def laws_eqPool.c : Code := bodyOf Try.f26
def laws_eqPool.h : Nat → Hint := look ⟨[], [], []⟩ []
def laws_eqPool.ps : List PK := [.agg 4, .agg 4]
def laws_eqPool.rs : List RK := [.one true]
def laws_eqPool.vs : List ResultVar := [.tmp 4]
def laws_eqPool.x : Cx := ⟨tt, look none [(80, some laws_eqPrefix.K), (81, some laws_eqLeaseS.K), (82, some laws_eqFixedS.K)]⟩
def laws_eqPool.f (k : Nat) (a0_0 : Int) (a0_1 : Int) (a0_2 : List (Int × Int × Int)) (a0_3 : List (Int × Int)) (a1_0 : Int) (a1_1 : Int) (a1_2 : List (Int × Int × Int)) (a1_3 : List (Int × Int)) : Option (Bool) :=
  (laws_eqPrefix.f k a0_0 a0_1 a1_0 a1_1).bind fun r1 => (bif (!r1) then some false else (laws_eqLeaseS.f k a0_2 a1_2).bind fun r2 => (bif (!r2) then some false else (laws_eqFixedS.f k a0_3 a1_3).bind fun r3 => (bif (!r3) then some false else some true)))
def laws_eqPool.K : Ctr := ⟨laws_eqPool.ps, laws_eqPool.rs, false, (.two (.int .i64) (.two (.int .i64) (.two (.sl 63 (.two (.int .i64) (.two (.int .i64) (.int .i64)))) (.two (.sl 150 (.two (.int .i64) (.int .i64))) (.two (.int .i64) (.two (.int .i64) (.two (.sl 63 (.two (.int .i64) (.two (.int .i64) (.int .i64)))) (.sl 150 (.two (.int .i64) (.int .i64)))))))))), .bool, fun k x => laws_eqPool.f k x.1 x.2.1 x.2.2.1 x.2.2.2.1 x.2.2.2.2.1 x.2.2.2.2.2.1 x.2.2.2.2.2.2.1 x.2.2.2.2.2.2.2⟩
theorem laws_eqPool.eq (k : Nat) (x : (laws_eqPool.K.I).den) : func laws_eqPool.x laws_eqPool.h laws_eqPool.ps laws_eqPool.rs laws_eqPool.vs laws_eqPool.K.I laws_eqPool.K.O laws_eqPool.c k x = laws_eqPool.K.run k x := by
  show _ = laws_eqPool.f k x.1 x.2.1 x.2.2.1 x.2.2.2.1 x.2.2.2.2.1 x.2.2.2.2.2.1 x.2.2.2.2.2.2.1 x.2.2.2.2.2.2.2
  kernel_rfl
theorem laws_eqPool.ok : CtrOk Try.prog 26 laws_eqPool.K :=
  CtrOk.of (fn := Try.f26) (cd := laws_eqPool.c) (cx := laws_eqPool.x) (hs := laws_eqPool.h) (by kernel_rfl) (by kernel_rfl) (by kernel_rfl) (by kernel_rfl) tt_ok (envOk_cons laws_eqPrefix.ok (envOk_cons laws_eqLeaseS.ok (envOk_cons laws_eqFixedS.ok (envOk_nil)))) (by kernel_rfl) (by kernel_rfl) (by kernel_rfl) (by kernel_rfl) fun k x r h => (laws_eqPool.eq k x).trans h
/-! laws.markLeaseS -/
noncomputable def laws_markLeaseS.c : Code := bodyOf Try.f83
def laws_markLeaseS.h : Nat → Hint := look ⟨[], [], []⟩ [(0, ⟨[0, 1, 5], [], []⟩)]
def laws_markLeaseS.ps : List PK := [.row, .one]
def laws_markLeaseS.rs : List RK := [.one true]
def laws_markLeaseS.vs : List ResultVar := [.tmp 4]
def laws_markLeaseS.x : Cx := ⟨tt, look none []⟩
def laws_markLeaseS.s0 (_k : Nat) (rec0 : (Int × Int × (List (Int × Int × Int))) → Option (Int × (List (Int × Int × Int)))) (p : (Int × Int × (List (Int × Int × Int)))) : Option (Int × (List (Int × Int × Int))) :=
  (bif (decide (p.2.1 < (p.2.2.length : Int))) then (bif ((decide ((0 : Int) ≤ p.2.1)) && (decide (p.2.1 < (p.2.2.length : Int)))) then (p.2.2[p.2.1.toNat]?).bind fun x1 => (bif ((decide ((0 : Int) ≤ p.2.1)) && (decide (p.2.1 < ((p.2.2.set p.2.1.toNat (p.1, x1.2)).length : Int)))) then ((p.2.2.set p.2.1.toNat (p.1, x1.2))[p.2.1.toNat]?).bind fun x2 => (bif ((decide ((0 : Int) ≤ p.2.1)) && (decide (p.2.1 < (((p.2.2.set p.2.1.toNat (p.1, x1.2)).set p.2.1.toNat (x2.1, (IntKind.i64.wrap (p.1 + (1 : Int))), x2.2.2)).length : Int)))) then (((p.2.2.set p.2.1.toNat (p.1, x1.2)).set p.2.1.toNat (x2.1, (IntKind.i64.wrap (p.1 + (1 : Int))), x2.2.2))[p.2.1.toNat]?).bind fun x3 => rec0 ((IntKind.i64.wrap ((IntKind.i64.wrap ((IntKind.i64.wrap (p.1 + (1 : Int))) + (1 : Int))) + (1 : Int))), (IntKind.i64.wrap (p.2.1 + (1 : Int))), (((p.2.2.set p.2.1.toNat (p.1, x1.2)).set p.2.1.toNat (x2.1, (IntKind.i64.wrap (p.1 + (1 : Int))), x2.2.2)).set p.2.1.toNat (x3.1, x3.2.1, (IntKind.i64.wrap ((IntKind.i64.wrap (p.1 + (1 : Int))) + (1 : Int)))))) else none) else none) else none) else some (p.1, p.2.2))
def laws_markLeaseS.l0 (k : Nat) : Nat → (Int × Int × (List (Int × Int × Int))) → Option (Int × (List (Int × Int × Int)))
  | 0 => fun _ => none
  | j + 1 => laws_markLeaseS.s0 k (laws_markLeaseS.l0 k j)
def laws_markLeaseS.S0 (p : (Int × Int × (List (Int × Int × Int)))) : DS := ⟨tl [(0, .at (.whole 0)), (1, .at (.int .i64 p.1)), (5, .at (.int .i64 p.2.1))], lookO [(0, .row 63 (.two (.int .i64) (.two (.int .i64) (.int .i64))) true p.2.2)]⟩
noncomputable def laws_markLeaseS.D0 (k : Nat) (j : Nat) (p : (Int × Int × (List (Int × Int × Int)))) : Option (Int × (List (Int × Int × Int))) := loopK (norm [0] (laws_markLeaseS.h 0)) (runK laws_markLeaseS.x k 0 [0] laws_markLeaseS.h 0 (sub laws_markLeaseS.c [1, 0, 1, 0, 0])) j (laws_markLeaseS.S0 p) (kBlk 0 (kSeq (runK laws_markLeaseS.x k 0 [0] laws_markLeaseS.h 0 (sub laws_markLeaseS.c [1, 1])) (fin tt laws_markLeaseS.ps laws_markLeaseS.rs laws_markLeaseS.vs (.two (.int .i64) (.sl 63 (.two (.int .i64) (.two (.int .i64) (.int .i64))))))))
theorem laws_markLeaseS.D0_eq (k : Nat) : ∀ j, laws_markLeaseS.D0 k j = laws_markLeaseS.l0 k j := by
  intro j
  induction j with
  | zero => rfl
  | succ j ih =>
    show _ = laws_markLeaseS.s0 k (laws_markLeaseS.l0 k j)
    rw [← ih]
    funext p
    kernel_rfl
def laws_markLeaseS.f (k : Nat) (a0 : List (Int × Int × Int)) (a1 : Int) : Option (Int × (List (Int × Int × Int))) :=
  laws_markLeaseS.l0 k k (a1, (0 : Int), a0)
def laws_markLeaseS.K : Ctr := ⟨laws_markLeaseS.ps, laws_markLeaseS.rs, false, (.two (.sl 63 (.two (.int .i64) (.two (.int .i64) (.int .i64)))) (.int .i64)), (.two (.int .i64) (.sl 63 (.two (.int .i64) (.two (.int .i64) (.int .i64))))), fun k x => laws_markLeaseS.f k x.1 x.2⟩
theorem laws_markLeaseS.eq (k : Nat) (x : (laws_markLeaseS.K.I).den) : func laws_markLeaseS.x laws_markLeaseS.h laws_markLeaseS.ps laws_markLeaseS.rs laws_markLeaseS.vs laws_markLeaseS.K.I laws_markLeaseS.K.O laws_markLeaseS.c k x = laws_markLeaseS.K.run k x := by
  show _ = laws_markLeaseS.f k x.1 x.2
  unfold laws_markLeaseS.f
  rw [← laws_markLeaseS.D0_eq k k]
  kernel_rfl
theorem laws_markLeaseS.ok : CtrOk Try.prog 83 laws_markLeaseS.K :=
  CtrOk.of (fn := Try.f83) (cd := laws_markLeaseS.c) (cx := laws_markLeaseS.x) (hs := laws_markLeaseS.h) (by kernel_rfl) (by kernel_rfl) (by kernel_rfl) (by kernel_rfl) tt_ok (envOk_nil) (by kernel_rfl) (by kernel_rfl) (by kernel_rfl) (by kernel_rfl) fun k x r h => (laws_markLeaseS.eq k x).trans h
/-! laws.markFixedS -/
noncomputable def laws_markFixedS.c : Code := bodyOf Try.f84
def laws_markFixedS.h : Nat → Hint := look ⟨[], [], []⟩ [(0, ⟨[0, 1, 5], [], []⟩)]
def laws_markFixedS.ps : List PK := [.row, .one]
def laws_markFixedS.rs : List RK := [.one true]
def laws_markFixedS.vs : List ResultVar := [.tmp 4]
def laws_markFixedS.x : Cx := ⟨tt, look none []⟩
def laws_markFixedS.s0 (_k : Nat) (rec0 : (Int × Int × (List (Int × Int))) → Option (Int × (List (Int × Int)))) (p : (Int × Int × (List (Int × Int)))) : Option (Int × (List (Int × Int))) :=
  (bif (decide (p.2.1 < (p.2.2.length : Int))) then (bif ((decide ((0 : Int) ≤ p.2.1)) && (decide (p.2.1 < (p.2.2.length : Int)))) then (p.2.2[p.2.1.toNat]?).bind fun x1 => (bif ((decide ((0 : Int) ≤ p.2.1)) && (decide (p.2.1 < ((p.2.2.set p.2.1.toNat (p.1, x1.2)).length : Int)))) then ((p.2.2.set p.2.1.toNat (p.1, x1.2))[p.2.1.toNat]?).bind fun x2 => rec0 ((IntKind.i64.wrap ((IntKind.i64.wrap (p.1 + (1 : Int))) + (1 : Int))), (IntKind.i64.wrap (p.2.1 + (1 : Int))), ((p.2.2.set p.2.1.toNat (p.1, x1.2)).set p.2.1.toNat (x2.1, (IntKind.i64.wrap (p.1 + (1 : Int)))))) else none) else none) else some (p.1, p.2.2))
def laws_markFixedS.l0 (k : Nat) : Nat → (Int × Int × (List (Int × Int))) → Option (Int × (List (Int × Int)))
  | 0 => fun _ => none
  | j + 1 => laws_markFixedS.s0 k (laws_markFixedS.l0 k j)
def laws_markFixedS.S0 (p : (Int × Int × (List (Int × Int)))) : DS := ⟨tl [(0, .at (.whole 0)), (1, .at (.int .i64 p.1)), (5, .at (.int .i64 p.2.1))], lookO [(0, .row 150 (.two (.int .i64) (.int .i64)) true p.2.2)]⟩
noncomputable def laws_markFixedS.D0 (k : Nat) (j : Nat) (p : (Int × Int × (List (Int × Int)))) : Option (Int × (List (Int × Int))) := loopK (norm [0] (laws_markFixedS.h 0)) (runK laws_markFixedS.x k 0 [0] laws_markFixedS.h 0 (sub laws_markFixedS.c [1, 0, 1, 0, 0])) j (laws_markFixedS.S0 p) (kBlk 0 (kSeq (runK laws_markFixedS.x k 0 [0] laws_markFixedS.h 0 (sub laws_markFixedS.c [1, 1])) (fin tt laws_markFixedS.ps laws_markFixedS.rs laws_markFixedS.vs (.two (.int .i64) (.sl 150 (.two (.int .i64) (.int .i64)))))))
theorem laws_markFixedS.D0_eq (k : Nat) : ∀ j, laws_markFixedS.D0 k j = laws_markFixedS.l0 k j := by
  intro j
  induction j with
  | zero => rfl
  | succ j ih =>
    show _ = laws_markFixedS.s0 k (laws_markFixedS.l0 k j)
    rw [← ih]
    funext p
    kernel_rfl
def laws_markFixedS.f (k : Nat) (a0 : List (Int × Int)) (a1 : Int) : Option (Int × (List (Int × Int))) :=
  laws_markFixedS.l0 k k (a1, (0 : Int), a0)
def laws_markFixedS.K : Ctr := ⟨laws_markFixedS.ps, laws_markFixedS.rs, false, (.two (.sl 150 (.two (.int .i64) (.int .i64))) (.int .i64)), (.two (.int .i64) (.sl 150 (.two (.int .i64) (.int .i64)))), fun k x => laws_markFixedS.f k x.1 x.2⟩
theorem laws_markFixedS.eq (k : Nat) (x : (laws_markFixedS.K.I).den) : func laws_markFixedS.x laws_markFixedS.h laws_markFixedS.ps laws_markFixedS.rs laws_markFixedS.vs laws_markFixedS.K.I laws_markFixedS.K.O laws_markFixedS.c k x = laws_markFixedS.K.run k x := by
  show _ = laws_markFixedS.f k x.1 x.2
  unfold laws_markFixedS.f
  rw [← laws_markFixedS.D0_eq k k]
  kernel_rfl
theorem laws_markFixedS.ok : CtrOk Try.prog 84 laws_markFixedS.K :=
  CtrOk.of (fn := Try.f84) (cd := laws_markFixedS.c) (cx := laws_markFixedS.x) (hs := laws_markFixedS.h) (by kernel_rfl) (by kernel_rfl) (by kernel_rfl) (by kernel_rfl) tt_ok (envOk_nil) (by kernel_rfl) (by kernel_rfl) (by kernel_rfl) (by kernel_rfl) fun k x r h => (laws_markFixedS.eq k x).trans h
/-! laws.markPool -/
noncomputable def laws_markPool.c : Code := bodyOf Try.f28
def laws_markPool.h : Nat → Hint := look ⟨[], [], []⟩ []
def laws_markPool.ps : List PK := [.aggw 4 [2, 3], .one]
def laws_markPool.rs : List RK := [.one true]
def laws_markPool.vs : List ResultVar := [.tmp 4]
def laws_markPool.x : Cx := ⟨tt, look none [(83, some laws_markLeaseS.K), (84, some laws_markFixedS.K)]⟩
def laws_markPool.f (k : Nat) (_a0_0 : Int) (_a0_1 : Int) (a0_2 : List (Int × Int × Int)) (a0_3 : List (Int × Int)) (a1 : Int) : Option (Int × (List (Int × Int × Int)) × (List (Int × Int))) :=
  (laws_markLeaseS.f k a0_2 a1).bind fun r1 => (laws_markFixedS.f k a0_3 r1.1).bind fun r2 => some (r2.1, r1.2, r2.2)
def laws_markPool.K : Ctr := ⟨laws_markPool.ps, laws_markPool.rs, false, (.two (.int .i64) (.two (.int .i64) (.two (.sl 63 (.two (.int .i64) (.two (.int .i64) (.int .i64)))) (.two (.sl 150 (.two (.int .i64) (.int .i64))) (.int .i64))))), (.two (.int .i64) (.two (.sl 63 (.two (.int .i64) (.two (.int .i64) (.int .i64)))) (.sl 150 (.two (.int .i64) (.int .i64))))), fun k x => laws_markPool.f k x.1 x.2.1 x.2.2.1 x.2.2.2.1 x.2.2.2.2⟩
theorem laws_markPool.eq (k : Nat) (x : (laws_markPool.K.I).den) : func laws_markPool.x laws_markPool.h laws_markPool.ps laws_markPool.rs laws_markPool.vs laws_markPool.K.I laws_markPool.K.O laws_markPool.c k x = laws_markPool.K.run k x := by
  show _ = laws_markPool.f k x.1 x.2.1 x.2.2.1 x.2.2.2.1 x.2.2.2.2
  kernel_rfl
theorem laws_markPool.ok : CtrOk Try.prog 28 laws_markPool.K :=
  CtrOk.of (fn := Try.f28) (cd := laws_markPool.c) (cx := laws_markPool.x) (hs := laws_markPool.h) (by kernel_rfl) (by kernel_rfl) (by kernel_rfl) (by kernel_rfl) tt_ok (envOk_cons laws_markLeaseS.ok (envOk_cons laws_markFixedS.ok (envOk_nil))) (by kernel_rfl) (by kernel_rfl) (by kernel_rfl) (by kernel_rfl) fun k x r h => (laws_markPool.eq k x).trans h
end Go.Proofs.Ytfaeklomiofpdaa.DI
