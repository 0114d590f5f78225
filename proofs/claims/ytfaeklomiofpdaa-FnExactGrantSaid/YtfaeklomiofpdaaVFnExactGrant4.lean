/- FnExactGrant: functions as plain Lean, in the machine of values. -/
import Derived.Test.YtfaeklomiofpdaaVFnExactGrant3
namespace Go.Proofs.Ytfaeklomiofpdaa.DI
open Go
set_option linter.unusedVariables false
/-! impl.leaseOf$1 -/
noncomputable def impl_leaseOf_1.c : Code := bodyOf Try.f141
def impl_leaseOf_1.h : Nat → Hint := look ⟨[], [], []⟩ []
def impl_leaseOf_1.ps : List PK := [.agg 3, .box 3 1]
def impl_leaseOf_1.rs : List RK := [.one true]
def impl_leaseOf_1.vs : List ResultVar := [.tmp 3]
def impl_leaseOf_1.x : Cx := ⟨tt, look none []⟩
def impl_leaseOf_1.f (_k : Nat) (_a0_0 : Int) (a0_1 : Int) (_a0_2 : Int) (a1 : Int) : Option (Bool × Int) :=
  some ((a0_1 == a1), a1)
def impl_leaseOf_1.K : Ctr := ⟨impl_leaseOf_1.ps, impl_leaseOf_1.rs, true, (.two (.int .i64) (.two (.int .i64) (.two (.int .i64) (.int .i64)))), (.two .bool (.int .i64)), fun k x => impl_leaseOf_1.f k x.1 x.2.1 x.2.2.1 x.2.2.2⟩
theorem impl_leaseOf_1.eq (k : Nat) (x : (impl_leaseOf_1.K.I).den) : func impl_leaseOf_1.x impl_leaseOf_1.h impl_leaseOf_1.ps impl_leaseOf_1.rs impl_leaseOf_1.vs impl_leaseOf_1.K.I impl_leaseOf_1.K.O impl_leaseOf_1.c k x = impl_leaseOf_1.K.run k x := by
  show _ = impl_leaseOf_1.f k x.1 x.2.1 x.2.2.1 x.2.2.2
  kernel_rfl
theorem impl_leaseOf_1.ok : CtrOk Try.prog 141 impl_leaseOf_1.K :=
  CtrOk.of (fn := Try.f141) (cd := impl_leaseOf_1.c) (cx := impl_leaseOf_1.x) (hs := impl_leaseOf_1.h) (by kernel_rfl) (by kernel_rfl) (by kernel_rfl) (by kernel_rfl) tt_ok (envOk_nil) (by kernel_rfl) (by kernel_rfl) (by kernel_rfl) (by kernel_rfl) fun k x r h => (impl_leaseOf_1.eq k x).trans h
/-! slices.IndexFunc[[]impl.Lease,impl.Lease] -/
noncomputable def slices_IndexFunc_impl_Lease_impl_Lease_f141.c : Code := bodyOf Try.f140
def slices_IndexFunc_impl_Lease_impl_Lease_f141.h : Nat → Hint := look ⟨[], [], []⟩ [(0, ⟨[0, 1, 7, 8], [], []⟩)]
def slices_IndexFunc_impl_Lease_impl_Lease_f141.ps : List PK := [.one, .fnp 141 3 1]
def slices_IndexFunc_impl_Lease_impl_Lease_f141.rs : List RK := [.one true]
def slices_IndexFunc_impl_Lease_impl_Lease_f141.vs : List ResultVar := [.tmp 4]
def slices_IndexFunc_impl_Lease_impl_Lease_f141.x : Cx := ⟨tt, look none [(141, some impl_leaseOf_1.K)]⟩
def slices_IndexFunc_impl_Lease_impl_Lease_f141.s0 (k : Nat) (rec0 : (Int × Int × (List (Int × Int × Int)) × Int) → Option (Int × Int)) (p : (Int × Int × (List (Int × Int × Int)) × Int)) : Option (Int × Int) :=
  (bif (decide (p.2.1 < p.1)) then (bif ((decide ((0 : Int) ≤ p.2.1)) && (decide (p.2.1 < (p.2.2.1.length : Int)))) then (p.2.2.1[p.2.1.toNat]?).bind fun x1 => (impl_leaseOf_1.f k x1.1 x1.2.1 x1.2.2 p.2.2.2).bind fun r2 => (bif r2.1 then some (p.2.1, r2.2) else rec0 (p.1, (IntKind.i64.wrap (p.2.1 + (1 : Int))), p.2.2.1, r2.2)) else none) else some ((-1 : Int), p.2.2.2))
def slices_IndexFunc_impl_Lease_impl_Lease_f141.l0 (k : Nat) : Nat → (Int × Int × (List (Int × Int × Int)) × Int) → Option (Int × Int)
  | 0 => fun _ => none
  | j + 1 => slices_IndexFunc_impl_Lease_impl_Lease_f141.s0 k (slices_IndexFunc_impl_Lease_impl_Lease_f141.l0 k j)
def slices_IndexFunc_impl_Lease_impl_Lease_f141.S0 (p : (Int × Int × (List (Int × Int × Int)) × Int)) : DS := ⟨tl [(0, .at (.whole 0)), (1, .at (.fn 141 [(16, 0)])), (7, .at (.int .i64 p.1)), (8, .at (.int .i64 p.2.1))], lookO [(0, .row 63 (.two (.int .i64) (.two (.int .i64) (.int .i64))) false p.2.2.1), (16, .box 3 [.int .i64 p.2.2.2])]⟩
noncomputable def slices_IndexFunc_impl_Lease_impl_Lease_f141.D0 (k : Nat) (j : Nat) (p : (Int × Int × (List (Int × Int × Int)) × Int)) : Option (Int × Int) := loopK (norm [0, 16] (slices_IndexFunc_impl_Lease_impl_Lease_f141.h 0)) (runK slices_IndexFunc_impl_Lease_impl_Lease_f141.x k 0 [0, 16] slices_IndexFunc_impl_Lease_impl_Lease_f141.h 0 (sub slices_IndexFunc_impl_Lease_impl_Lease_f141.c [1, 0, 1, 0, 0])) j (slices_IndexFunc_impl_Lease_impl_Lease_f141.S0 p) (kBlk 0 (kSeq (runK slices_IndexFunc_impl_Lease_impl_Lease_f141.x k 0 [0, 16] slices_IndexFunc_impl_Lease_impl_Lease_f141.h 0 (sub slices_IndexFunc_impl_Lease_impl_Lease_f141.c [1, 1])) (fin tt slices_IndexFunc_impl_Lease_impl_Lease_f141.ps slices_IndexFunc_impl_Lease_impl_Lease_f141.rs slices_IndexFunc_impl_Lease_impl_Lease_f141.vs (.two (.int .i64) (.int .i64)))))
theorem slices_IndexFunc_impl_Lease_impl_Lease_f141.D0_eq (k : Nat) : ∀ j, slices_IndexFunc_impl_Lease_impl_Lease_f141.D0 k j = slices_IndexFunc_impl_Lease_impl_Lease_f141.l0 k j := by
  intro j
  induction j with
  | zero => rfl
  | succ j ih =>
    show _ = slices_IndexFunc_impl_Lease_impl_Lease_f141.s0 k (slices_IndexFunc_impl_Lease_impl_Lease_f141.l0 k j)
    rw [← ih]
    funext p
    kernel_rfl
def slices_IndexFunc_impl_Lease_impl_Lease_f141.f (k : Nat) (a0 : List (Int × Int × Int)) (a1 : Int) : Option (Int × Int) :=
  slices_IndexFunc_impl_Lease_impl_Lease_f141.l0 k k ((a0.length : Int), (0 : Int), a0, a1)
def slices_IndexFunc_impl_Lease_impl_Lease_f141.K : Ctr := ⟨slices_IndexFunc_impl_Lease_impl_Lease_f141.ps, slices_IndexFunc_impl_Lease_impl_Lease_f141.rs, true, (.two (.sl 63 (.two (.int .i64) (.two (.int .i64) (.int .i64)))) (.int .i64)), (.two (.int .i64) (.int .i64)), fun k x => slices_IndexFunc_impl_Lease_impl_Lease_f141.f k x.1 x.2⟩
theorem slices_IndexFunc_impl_Lease_impl_Lease_f141.eq (k : Nat) (x : (slices_IndexFunc_impl_Lease_impl_Lease_f141.K.I).den) : func slices_IndexFunc_impl_Lease_impl_Lease_f141.x slices_IndexFunc_impl_Lease_impl_Lease_f141.h slices_IndexFunc_impl_Lease_impl_Lease_f141.ps slices_IndexFunc_impl_Lease_impl_Lease_f141.rs slices_IndexFunc_impl_Lease_impl_Lease_f141.vs slices_IndexFunc_impl_Lease_impl_Lease_f141.K.I slices_IndexFunc_impl_Lease_impl_Lease_f141.K.O slices_IndexFunc_impl_Lease_impl_Lease_f141.c k x = slices_IndexFunc_impl_Lease_impl_Lease_f141.K.run k x := by
  show _ = slices_IndexFunc_impl_Lease_impl_Lease_f141.f k x.1 x.2
  unfold slices_IndexFunc_impl_Lease_impl_Lease_f141.f
  rw [← slices_IndexFunc_impl_Lease_impl_Lease_f141.D0_eq k k]
  kernel_rfl
theorem slices_IndexFunc_impl_Lease_impl_Lease_f141.ok : CtrOk Try.prog 140 slices_IndexFunc_impl_Lease_impl_Lease_f141.K :=
  CtrOk.of (fn := Try.f140) (cd := slices_IndexFunc_impl_Lease_impl_Lease_f141.c) (cx := slices_IndexFunc_impl_Lease_impl_Lease_f141.x) (hs := slices_IndexFunc_impl_Lease_impl_Lease_f141.h) (by kernel_rfl) (by kernel_rfl) (by kernel_rfl) (by kernel_rfl) tt_ok (envOk_cons impl_leaseOf_1.ok (envOk_nil)) (by kernel_rfl) (by kernel_rfl) (by kernel_rfl) (by kernel_rfl) fun k x r h => (slices_IndexFunc_impl_Lease_impl_Lease_f141.eq k x).trans h
/-! impl.leaseOf -/
noncomputable def impl_leaseOf.c : Code := bodyOf Try.f93
def impl_leaseOf.h : Nat → Hint := look ⟨[], [], []⟩ []
def impl_leaseOf.ps : List PK := [.agg 4, .one]
def impl_leaseOf.rs : List RK := [.one true]
def impl_leaseOf.vs : List ResultVar := [.tmp 4]
def impl_leaseOf.x : Cx := ⟨tt, look none [(140, some slices_IndexFunc_impl_Lease_impl_Lease_f141.K)]⟩
def impl_leaseOf.f (k : Nat) (_a0_0 : Int) (_a0_1 : Int) (a0_2 : List (Int × Int × Int)) (_a0_3 : List (Int × Int)) (a1 : Int) : Option (Int) :=
  (slices_IndexFunc_impl_Lease_impl_Lease_f141.f k a0_2 a1).bind fun r1 => some r1.1
def impl_leaseOf.K : Ctr := ⟨impl_leaseOf.ps, impl_leaseOf.rs, false, (.two (.int .i64) (.two (.int .i64) (.two (.sl 63 (.two (.int .i64) (.two (.int .i64) (.int .i64)))) (.two (.sl 150 (.two (.int .i64) (.int .i64))) (.int .i64))))), (.int .i64), fun k x => impl_leaseOf.f k x.1 x.2.1 x.2.2.1 x.2.2.2.1 x.2.2.2.2⟩
theorem impl_leaseOf.eq (k : Nat) (x : (impl_leaseOf.K.I).den) : func impl_leaseOf.x impl_leaseOf.h impl_leaseOf.ps impl_leaseOf.rs impl_leaseOf.vs impl_leaseOf.K.I impl_leaseOf.K.O impl_leaseOf.c k x = impl_leaseOf.K.run k x := by
  show _ = impl_leaseOf.f k x.1 x.2.1 x.2.2.1 x.2.2.2.1 x.2.2.2.2
  kernel_rfl
theorem impl_leaseOf.ok : CtrOk Try.prog 93 impl_leaseOf.K :=
  CtrOk.of (fn := Try.f93) (cd := impl_leaseOf.c) (cx := impl_leaseOf.x) (hs := impl_leaseOf.h) (by kernel_rfl) (by kernel_rfl) (by kernel_rfl) (by kernel_rfl) tt_ok (envOk_cons slices_IndexFunc_impl_Lease_impl_Lease_f141.ok (envOk_nil)) (by kernel_rfl) (by kernel_rfl) (by kernel_rfl) (by kernel_rfl) fun k x r h => (impl_leaseOf.eq k x).trans h
/-! impl.PoolOk -/
noncomputable def impl_PoolOk.c : Code := bodyOf Try.f34
def impl_PoolOk.h : Nat → Hint := look ⟨[], [], []⟩ [(0, ⟨[1, 29, 30, 31], [16], []⟩)]
def impl_PoolOk.ps : List PK := [.agg 4]
def impl_PoolOk.rs : List RK := [.one true]
def impl_PoolOk.vs : List ResultVar := [.tmp 2]
def impl_PoolOk.x : Cx := ⟨tt, look none [(69, some impl_PrefixOk.K), (89, some impl_within.K), (90, some impl_fixesOk.K), (91, some impl_isHost.K), (70, some impl_isId.K), (92, some impl_fixedFor.K), (93, some impl_leaseOf.K)]⟩
def impl_PoolOk.s0 (k : Nat) (rec0 : (Int × Int × (List (Int × Int × Int)) × (List (Int × Int)) × Int × Int) → Option (Bool)) (p : (Int × Int × (List (Int × Int × Int)) × (List (Int × Int)) × Int × Int)) : Option (Bool) :=
  (bif (decide (p.2.1 < p.1)) then (bif ((decide ((0 : Int) ≤ p.2.1)) && (decide (p.2.1 < (p.2.2.1.length : Int)))) then (p.2.2.1[p.2.1.toNat]?).bind fun x4 => (bif (decide (p.2.1 > (0 : Int))) then (bif ((decide ((0 : Int) ≤ (IntKind.i64.wrap (p.2.1 - (1 : Int))))) && (decide ((IntKind.i64.wrap (p.2.1 - (1 : Int))) < (p.2.2.1.length : Int)))) then (p.2.2.1[(IntKind.i64.wrap (p.2.1 - (1 : Int))).toNat]?).bind fun x5 => (bif (decide (x5.1 ≥ x4.1)) then some false else (impl_isHost.f k p.2.2.2.2.1 p.2.2.2.2.2 x4.1).bind fun r6 => (bif (!r6) then some false else (impl_isId.f k x4.2.1).bind fun r7 => (bif (!r7) then some false else (impl_within.f k x4.2.2 (0 : Int) (1000000000 : Int)).bind fun r8 => (bif (!r8) then some false else (impl_fixedFor.f k p.2.2.2.2.1 p.2.2.2.2.2 p.2.2.1 p.2.2.2.1 x4.1).bind fun r9 => (impl_leaseOf.f k p.2.2.2.2.1 p.2.2.2.2.2 p.2.2.1 p.2.2.2.1 x4.2.1).bind fun r10 => (bif (r10 != p.2.1) then some false else (bif (r9 != (0 : Int)) then (bif (r9 != x4.2.1) then some false else rec0 (p.1, (IntKind.i64.wrap (p.2.1 + (1 : Int))), p.2.2.1, p.2.2.2.1, p.2.2.2.2.1, p.2.2.2.2.2)) else rec0 (p.1, (IntKind.i64.wrap (p.2.1 + (1 : Int))), p.2.2.1, p.2.2.2.1, p.2.2.2.2.1, p.2.2.2.2.2))))))) else none) else (impl_isHost.f k p.2.2.2.2.1 p.2.2.2.2.2 x4.1).bind fun r11 => (bif (!r11) then some false else (impl_isId.f k x4.2.1).bind fun r12 => (bif (!r12) then some false else (impl_within.f k x4.2.2 (0 : Int) (1000000000 : Int)).bind fun r13 => (bif (!r13) then some false else (impl_fixedFor.f k p.2.2.2.2.1 p.2.2.2.2.2 p.2.2.1 p.2.2.2.1 x4.1).bind fun r14 => (impl_leaseOf.f k p.2.2.2.2.1 p.2.2.2.2.2 p.2.2.1 p.2.2.2.1 x4.2.1).bind fun r15 => (bif (r15 != p.2.1) then some false else (bif (r14 != (0 : Int)) then (bif (r14 != x4.2.1) then some false else rec0 (p.1, (IntKind.i64.wrap (p.2.1 + (1 : Int))), p.2.2.1, p.2.2.2.1, p.2.2.2.2.1, p.2.2.2.2.2)) else rec0 (p.1, (IntKind.i64.wrap (p.2.1 + (1 : Int))), p.2.2.1, p.2.2.2.1, p.2.2.2.2.1, p.2.2.2.2.2))))))) else none) else some true)
def impl_PoolOk.l0 (k : Nat) : Nat → (Int × Int × (List (Int × Int × Int)) × (List (Int × Int)) × Int × Int) → Option (Bool)
  | 0 => fun _ => none
  | j + 1 => impl_PoolOk.s0 k (impl_PoolOk.l0 k j)
def impl_PoolOk.S0 (p : (Int × Int × (List (Int × Int × Int)) × (List (Int × Int)) × Int × Int)) : DS := ⟨tl [(1, .at (.bptr 16 0)), (29, .at (.whole 2)), (30, .at (.int .i64 p.1)), (31, .at (.int .i64 p.2.1))], lookO [(2, .row 63 (.two (.int .i64) (.two (.int .i64) (.int .i64))) false p.2.2.1), (3, .row 150 (.two (.int .i64) (.int .i64)) false p.2.2.2.1), (16, .box 50 [.int .i64 p.2.2.2.2.1, .int .i64 p.2.2.2.2.2, .whole 2, .whole 3])]⟩
noncomputable def impl_PoolOk.D0 (k : Nat) (j : Nat) (p : (Int × Int × (List (Int × Int × Int)) × (List (Int × Int)) × Int × Int)) : Option (Bool) := loopK (norm [2, 3] (impl_PoolOk.h 0)) (runK impl_PoolOk.x k 0 [2, 3] impl_PoolOk.h 0 (sub impl_PoolOk.c [1, 1, 0, 1, 0, 0])) j (impl_PoolOk.S0 p) (kBlk 0 (kSeq (runK impl_PoolOk.x k 0 [2, 3] impl_PoolOk.h 0 (sub impl_PoolOk.c [1, 1, 1])) (fin tt impl_PoolOk.ps impl_PoolOk.rs impl_PoolOk.vs .bool)))
theorem impl_PoolOk.D0_eq (k : Nat) : ∀ j, impl_PoolOk.D0 k j = impl_PoolOk.l0 k j := by
  intro j
  induction j with
  | zero => rfl
  | succ j ih =>
    show _ = impl_PoolOk.s0 k (impl_PoolOk.l0 k j)
    rw [← ih]
    funext p
    kernel_rfl
def impl_PoolOk.f (k : Nat) (a0_0 : Int) (a0_1 : Int) (a0_2 : List (Int × Int × Int)) (a0_3 : List (Int × Int)) : Option (Bool) :=
  (impl_PrefixOk.f k a0_0 a0_1).bind fun r1 => (bif (!r1) then some false else (impl_within.f k a0_1 (24 : Int) (30 : Int)).bind fun r2 => (bif (!r2) then some false else (impl_fixesOk.f k a0_0 a0_1 a0_2 a0_3).bind fun r3 => (bif (!r3) then some false else (bif (decide ((a0_2.length : Int) > (6 : Int))) then some false else impl_PoolOk.l0 k k ((a0_2.length : Int), (0 : Int), a0_2, a0_3, a0_0, a0_1)))))
def impl_PoolOk.K : Ctr := ⟨impl_PoolOk.ps, impl_PoolOk.rs, false, (.two (.int .i64) (.two (.int .i64) (.two (.sl 63 (.two (.int .i64) (.two (.int .i64) (.int .i64)))) (.sl 150 (.two (.int .i64) (.int .i64)))))), .bool, fun k x => impl_PoolOk.f k x.1 x.2.1 x.2.2.1 x.2.2.2⟩
theorem impl_PoolOk.eq (k : Nat) (x : (impl_PoolOk.K.I).den) : func impl_PoolOk.x impl_PoolOk.h impl_PoolOk.ps impl_PoolOk.rs impl_PoolOk.vs impl_PoolOk.K.I impl_PoolOk.K.O impl_PoolOk.c k x = impl_PoolOk.K.run k x := by
  show _ = impl_PoolOk.f k x.1 x.2.1 x.2.2.1 x.2.2.2
  unfold impl_PoolOk.f
  rw [← impl_PoolOk.D0_eq k k]
  kernel_rfl
theorem impl_PoolOk.ok : CtrOk Try.prog 34 impl_PoolOk.K :=
  CtrOk.of (fn := Try.f34) (cd := impl_PoolOk.c) (cx := impl_PoolOk.x) (hs := impl_PoolOk.h) (by kernel_rfl) (by kernel_rfl) (by kernel_rfl) (by kernel_rfl) tt_ok (envOk_cons impl_PrefixOk.ok (envOk_cons impl_within.ok (envOk_cons impl_fixesOk.ok (envOk_cons impl_isHost.ok (envOk_cons impl_isId.ok (envOk_cons impl_fixedFor.ok (envOk_cons impl_leaseOf.ok (envOk_nil)))))))) (by kernel_rfl) (by kernel_rfl) (by kernel_rfl) (by kernel_rfl) fun k x r h => (impl_PoolOk.eq k x).trans h
/-! impl.HolderOf -/
noncomputable def impl_HolderOf.c : Code := bodyOf Try.f36
def impl_HolderOf.h : Nat → Hint := look ⟨[], [], []⟩ [(0, ⟨[1, 8, 9, 10], [], []⟩)]
def impl_HolderOf.ps : List PK := [.agg 4, .one]
def impl_HolderOf.rs : List RK := [.one true]
def impl_HolderOf.vs : List ResultVar := [.tmp 4]
def impl_HolderOf.x : Cx := ⟨tt, look none []⟩
def impl_HolderOf.s0 (_k : Nat) (rec0 : (Int × Int × Int × (List (Int × Int × Int)) × (List (Int × Int))) → Option (Int)) (p : (Int × Int × Int × (List (Int × Int × Int)) × (List (Int × Int)))) : Option (Int) :=
  (bif (decide (p.2.2.1 < p.2.1)) then (bif ((decide ((0 : Int) ≤ p.2.2.1)) && (decide (p.2.2.1 < (p.2.2.2.1.length : Int)))) then (p.2.2.2.1[p.2.2.1.toNat]?).bind fun x1 => (bif (x1.1 == p.1) then some x1.2.1 else rec0 (p.1, p.2.1, (IntKind.i64.wrap (p.2.2.1 + (1 : Int))), p.2.2.2.1, p.2.2.2.2)) else none) else some (0 : Int))
def impl_HolderOf.l0 (k : Nat) : Nat → (Int × Int × Int × (List (Int × Int × Int)) × (List (Int × Int))) → Option (Int)
  | 0 => fun _ => none
  | j + 1 => impl_HolderOf.s0 k (impl_HolderOf.l0 k j)
def impl_HolderOf.S0 (p : (Int × Int × Int × (List (Int × Int × Int)) × (List (Int × Int)))) : DS := ⟨tl [(1, .at (.int .i64 p.1)), (8, .at (.whole 2)), (9, .at (.int .i64 p.2.1)), (10, .at (.int .i64 p.2.2.1))], lookO [(2, .row 63 (.two (.int .i64) (.two (.int .i64) (.int .i64))) false p.2.2.2.1), (3, .row 150 (.two (.int .i64) (.int .i64)) false p.2.2.2.2)]⟩
noncomputable def impl_HolderOf.D0 (k : Nat) (j : Nat) (p : (Int × Int × Int × (List (Int × Int × Int)) × (List (Int × Int)))) : Option (Int) := loopK (norm [2, 3] (impl_HolderOf.h 0)) (runK impl_HolderOf.x k 0 [2, 3] impl_HolderOf.h 0 (sub impl_HolderOf.c [1, 0, 1, 0, 0])) j (impl_HolderOf.S0 p) (kBlk 0 (kSeq (runK impl_HolderOf.x k 0 [2, 3] impl_HolderOf.h 0 (sub impl_HolderOf.c [1, 1])) (fin tt impl_HolderOf.ps impl_HolderOf.rs impl_HolderOf.vs (.int .i64))))
theorem impl_HolderOf.D0_eq (k : Nat) : ∀ j, impl_HolderOf.D0 k j = impl_HolderOf.l0 k j := by
  intro j
  induction j with
  | zero => rfl
  | succ j ih =>
    show _ = impl_HolderOf.s0 k (impl_HolderOf.l0 k j)
    rw [← ih]
    funext p
    kernel_rfl
def impl_HolderOf.f (k : Nat) (_a0_0 : Int) (_a0_1 : Int) (a0_2 : List (Int × Int × Int)) (a0_3 : List (Int × Int)) (a1 : Int) : Option (Int) :=
  impl_HolderOf.l0 k k (a1, (a0_2.length : Int), (0 : Int), a0_2, a0_3)
def impl_HolderOf.K : Ctr := ⟨impl_HolderOf.ps, impl_HolderOf.rs, false, (.two (.int .i64) (.two (.int .i64) (.two (.sl 63 (.two (.int .i64) (.two (.int .i64) (.int .i64)))) (.two (.sl 150 (.two (.int .i64) (.int .i64))) (.int .i64))))), (.int .i64), fun k x => impl_HolderOf.f k x.1 x.2.1 x.2.2.1 x.2.2.2.1 x.2.2.2.2⟩
theorem impl_HolderOf.eq (k : Nat) (x : (impl_HolderOf.K.I).den) : func impl_HolderOf.x impl_HolderOf.h impl_HolderOf.ps impl_HolderOf.rs impl_HolderOf.vs impl_HolderOf.K.I impl_HolderOf.K.O impl_HolderOf.c k x = impl_HolderOf.K.run k x := by
  show _ = impl_HolderOf.f k x.1 x.2.1 x.2.2.1 x.2.2.2.1 x.2.2.2.2
  unfold impl_HolderOf.f
  rw [← impl_HolderOf.D0_eq k k]
  kernel_rfl
theorem impl_HolderOf.ok : CtrOk Try.prog 36 impl_HolderOf.K :=
  CtrOk.of (fn := Try.f36) (cd := impl_HolderOf.c) (cx := impl_HolderOf.x) (hs := impl_HolderOf.h) (by kernel_rfl) (by kernel_rfl) (by kernel_rfl) (by kernel_rfl) tt_ok (envOk_nil) (by kernel_rfl) (by kernel_rfl) (by kernel_rfl) (by kernel_rfl) fun k x r h => (impl_HolderOf.eq k x).trans h
/-! impl.addrFor -/
noncomputable def impl_addrFor.c : Code := bodyOf Try.f96
def impl_addrFor.h : Nat → Hint := look ⟨[], [], []⟩ [(0, ⟨[1, 2, 9, 10, 11], [32], []⟩), (2, ⟨[2, 7], [32], []⟩)]
def impl_addrFor.ps : List PK := [.agg 4, .one]
def impl_addrFor.rs : List RK := [.one true]
def impl_addrFor.vs : List ResultVar := [.tmp 4]
def impl_addrFor.x : Cx := ⟨tt, look none [(91, some impl_isHost.K), (36, some impl_HolderOf.K), (92, some impl_fixedFor.K)]⟩
def impl_addrFor.s2 (k : Nat) (rec2 : (Int × (List (Int × Int × Int)) × (List (Int × Int)) × Int × Int) → Option (Int)) (p : (Int × (List (Int × Int × Int)) × (List (Int × Int)) × Int × Int)) : Option (Int) :=
  (impl_isHost.f k p.2.2.2.1 p.2.2.2.2 p.1).bind fun r2 => (bif r2 then (impl_HolderOf.f k p.2.2.2.1 p.2.2.2.2 p.2.1 p.2.2.1 p.1).bind fun r3 => (bif (r3 == (0 : Int)) then (impl_fixedFor.f k p.2.2.2.1 p.2.2.2.2 p.2.1 p.2.2.1 p.1).bind fun r4 => (bif (r4 == (0 : Int)) then some p.1 else rec2 ((IntKind.i64.wrap (p.1 + (1 : Int))), p.2.1, p.2.2.1, p.2.2.2.1, p.2.2.2.2)) else rec2 ((IntKind.i64.wrap (p.1 + (1 : Int))), p.2.1, p.2.2.1, p.2.2.2.1, p.2.2.2.2)) else some (-1 : Int))
def impl_addrFor.l2 (k : Nat) : Nat → (Int × (List (Int × Int × Int)) × (List (Int × Int)) × Int × Int) → Option (Int)
  | 0 => fun _ => none
  | j + 1 => impl_addrFor.s2 k (impl_addrFor.l2 k j)
def impl_addrFor.s0 (_k : Nat) (rec0 : (Int × Int × Int × (List (Int × Int × Int)) × (List (Int × Int)) × Int × Int) → Option (Int)) (i2 : (Int × (List (Int × Int × Int)) × (List (Int × Int)) × Int × Int) → Option (Int)) (p : (Int × Int × Int × (List (Int × Int × Int)) × (List (Int × Int)) × Int × Int)) : Option (Int) :=
  (bif (decide (p.2.2.1 < p.2.1)) then (bif ((decide ((0 : Int) ≤ p.2.2.1)) && (decide (p.2.2.1 < (p.2.2.2.2.1.length : Int)))) then (p.2.2.2.2.1[p.2.2.1.toNat]?).bind fun x1 => (bif (x1.1 == p.1) then some x1.2 else rec0 (p.1, p.2.1, (IntKind.i64.wrap (p.2.2.1 + (1 : Int))), p.2.2.2.1, p.2.2.2.2.1, p.2.2.2.2.2.1, p.2.2.2.2.2.2)) else none) else i2 ((IntKind.i64.wrap (p.2.2.2.2.2.1 + (1 : Int))), p.2.2.2.1, p.2.2.2.2.1, p.2.2.2.2.2.1, p.2.2.2.2.2.2))
def impl_addrFor.l0 (k : Nat) : Nat → (Int × Int × Int × (List (Int × Int × Int)) × (List (Int × Int)) × Int × Int) → Option (Int)
  | 0 => fun _ => none
  | j + 1 => impl_addrFor.s0 k (impl_addrFor.l0 k j) (impl_addrFor.l2 k k)
def impl_addrFor.S2 (p : (Int × (List (Int × Int × Int)) × (List (Int × Int)) × Int × Int)) : DS := ⟨tl [(2, .at (.bptr 32 0)), (7, .at (.int .i64 p.1))], lookO [(2, .row 63 (.two (.int .i64) (.two (.int .i64) (.int .i64))) false p.2.1), (3, .row 150 (.two (.int .i64) (.int .i64)) false p.2.2.1), (32, .box 50 [.int .i64 p.2.2.2.1, .int .i64 p.2.2.2.2, .whole 2, .whole 3])]⟩
def impl_addrFor.S0 (p : (Int × Int × Int × (List (Int × Int × Int)) × (List (Int × Int)) × Int × Int)) : DS := ⟨tl [(1, .at (.int .i64 p.1)), (2, .at (.bptr 32 0)), (9, .at (.whole 3)), (10, .at (.int .i64 p.2.1)), (11, .at (.int .i64 p.2.2.1))], lookO [(2, .row 63 (.two (.int .i64) (.two (.int .i64) (.int .i64))) false p.2.2.2.1), (3, .row 150 (.two (.int .i64) (.int .i64)) false p.2.2.2.2.1), (32, .box 50 [.int .i64 p.2.2.2.2.2.1, .int .i64 p.2.2.2.2.2.2, .whole 2, .whole 3])]⟩
noncomputable def impl_addrFor.D2 (k : Nat) (j : Nat) (p : (Int × (List (Int × Int × Int)) × (List (Int × Int)) × Int × Int)) : Option (Int) := loopK (norm [2, 3] (impl_addrFor.h 2)) (runK impl_addrFor.x k 0 [2, 3] impl_addrFor.h 2 (sub impl_addrFor.c [1, 1, 0, 1, 0, 0])) j (impl_addrFor.S2 p) (kBlk 2 (kSeq (runK impl_addrFor.x k 0 [2, 3] impl_addrFor.h 0 (sub impl_addrFor.c [1, 1, 1])) (fin tt impl_addrFor.ps impl_addrFor.rs impl_addrFor.vs (.int .i64))))
noncomputable def impl_addrFor.D0 (k : Nat) (j : Nat) (p : (Int × Int × Int × (List (Int × Int × Int)) × (List (Int × Int)) × Int × Int)) : Option (Int) := loopK (norm [2, 3] (impl_addrFor.h 0)) (runK impl_addrFor.x k 0 [2, 3] impl_addrFor.h 0 (sub impl_addrFor.c [1, 0, 1, 0, 0])) j (impl_addrFor.S0 p) (kBlk 0 (kSeq (runK impl_addrFor.x k 0 [2, 3] impl_addrFor.h 0 (sub impl_addrFor.c [1, 1])) (fin tt impl_addrFor.ps impl_addrFor.rs impl_addrFor.vs (.int .i64))))
theorem impl_addrFor.D2_eq (k : Nat) : ∀ j, impl_addrFor.D2 k j = impl_addrFor.l2 k j := by
  intro j
  induction j with
  | zero => rfl
  | succ j ih =>
    show _ = impl_addrFor.s2 k (impl_addrFor.l2 k j)
    rw [← ih]
    funext p
    kernel_rfl
theorem impl_addrFor.D0_eq (k : Nat) : ∀ j, impl_addrFor.D0 k j = impl_addrFor.l0 k j := by
  intro j
  induction j with
  | zero => rfl
  | succ j ih =>
    show _ = impl_addrFor.s0 k (impl_addrFor.l0 k j) (impl_addrFor.l2 k k)
    rw [← ih, ← impl_addrFor.D2_eq k k]
    funext p
    kernel_rfl
def impl_addrFor.f (k : Nat) (a0_0 : Int) (a0_1 : Int) (a0_2 : List (Int × Int × Int)) (a0_3 : List (Int × Int)) (a1 : Int) : Option (Int) :=
  impl_addrFor.l0 k k (a1, (a0_3.length : Int), (0 : Int), a0_2, a0_3, a0_0, a0_1)
def impl_addrFor.K : Ctr := ⟨impl_addrFor.ps, impl_addrFor.rs, false, (.two (.int .i64) (.two (.int .i64) (.two (.sl 63 (.two (.int .i64) (.two (.int .i64) (.int .i64)))) (.two (.sl 150 (.two (.int .i64) (.int .i64))) (.int .i64))))), (.int .i64), fun k x => impl_addrFor.f k x.1 x.2.1 x.2.2.1 x.2.2.2.1 x.2.2.2.2⟩
theorem impl_addrFor.eq (k : Nat) (x : (impl_addrFor.K.I).den) : func impl_addrFor.x impl_addrFor.h impl_addrFor.ps impl_addrFor.rs impl_addrFor.vs impl_addrFor.K.I impl_addrFor.K.O impl_addrFor.c k x = impl_addrFor.K.run k x := by
  show _ = impl_addrFor.f k x.1 x.2.1 x.2.2.1 x.2.2.2.1 x.2.2.2.2
  unfold impl_addrFor.f
  rw [← impl_addrFor.D0_eq k k]
  kernel_rfl
theorem impl_addrFor.ok : CtrOk Try.prog 96 impl_addrFor.K :=
  CtrOk.of (fn := Try.f96) (cd := impl_addrFor.c) (cx := impl_addrFor.x) (hs := impl_addrFor.h) (by kernel_rfl) (by kernel_rfl) (by kernel_rfl) (by kernel_rfl) tt_ok (envOk_cons impl_isHost.ok (envOk_cons impl_HolderOf.ok (envOk_cons impl_fixedFor.ok (envOk_nil)))) (by kernel_rfl) (by kernel_rfl) (by kernel_rfl) (by kernel_rfl) fun k x r h => (impl_addrFor.eq k x).trans h
/-! slices.Insert[[]impl.Lease,impl.Lease] -/
def slices_Insert_impl_Lease_impl_Lease.f (_k : Nat) (a0 : List (Int × Int × Int)) (a1 : Int) (a2 : List (Int × Int × Int)) : Option (List (Int × Int × Int)) :=
  if (0 ≤ a1 ∧ a1 ≤ (List.length a0 : Int)) ∧ (0 < List.length a2 ∧ (List.length a0 + List.length a2) * 24 ≤ 140737488355328) then some (List.take a1.toNat a0 ++ a2 ++ List.drop a1.toNat a0) else none
def slices_Insert_impl_Lease_impl_Lease.K : Ctr := ⟨[.give, .one, .give], [.one true], true, (.two (.sl 63 (.two (.int .i64) (.two (.int .i64) (.int .i64)))) (.two (.int .i64) (.sl 63 (.two (.int .i64) (.two (.int .i64) (.int .i64)))))), (.sl 63 (.two (.int .i64) (.two (.int .i64) (.int .i64)))), fun k x => slices_Insert_impl_Lease_impl_Lease.f k x.1 x.2.1 x.2.2⟩
theorem slices_Insert_impl_Lease_impl_Lease.ok : CtrOk Try.prog 97 slices_Insert_impl_Lease_impl_Lease.K := CtrOk.ins ins97.roads ti47 rfl ti63 (by decide)
/-! impl.Grant -/
noncomputable def impl_Grant.c : Code := bodyOf Try.f40
def impl_Grant.h : Nat → Hint := look ⟨[], [], []⟩ [(0, ⟨[1, 2, 6, 9, 11, 12], [96, 144], [(.b 96 2, 1440, 63, (.two (.int .i64) (.two (.int .i64) (.int .i64)))), (.b 96 3, 1441, 150, (.two (.int .i64) (.int .i64))), (.b 144 2, 1442, 63, (.two (.int .i64) (.two (.int .i64) (.int .i64)))), (.b 144 3, 1443, 150, (.two (.int .i64) (.int .i64)))]⟩)]
def impl_Grant.ps : List PK := [.agg 4, .one, .one]
def impl_Grant.rs : List RK := [.agg 4 true, .one true, .one true]
def impl_Grant.vs : List ResultVar := [.cell 6 50, .tmp 7, .tmp 8]
def impl_Grant.x : Cx := ⟨tt, look none [(79, some impl_copyPool.K), (34, some impl_PoolOk.K), (70, some impl_isId.K), (89, some impl_within.K), (93, some impl_leaseOf.K), (96, some impl_addrFor.K), (97, some slices_Insert_impl_Lease_impl_Lease.K)]⟩
def impl_Grant.s0 (k : Nat) (rec0 : (Int × Int × Int × Int × (List (Int × Int × Int)) × (List (Int × Int)) × Int × Int × Int × Int × (List (Int × Int × Int)) × (List (Int × Int)) × (List (Int × Int × Int)) × (List (Int × Int))) → Option (Int × Int × (List (Int × Int × Int)) × (List (Int × Int)) × Int × Bool)) (p : (Int × Int × Int × Int × (List (Int × Int × Int)) × (List (Int × Int)) × Int × Int × Int × Int × (List (Int × Int × Int)) × (List (Int × Int)) × (List (Int × Int × Int)) × (List (Int × Int)))) : Option (Int × Int × (List (Int × Int × Int)) × (List (Int × Int)) × Int × Bool) :=
  (bif (decide (p.2.2.2.1 < (p.2.2.2.2.2.2.2.2.2.2.2.2.1.length : Int))) then (bif ((decide ((0 : Int) ≤ p.2.2.2.1)) && (decide (p.2.2.2.1 < (p.2.2.2.2.2.2.2.2.2.2.2.2.1.length : Int)))) then (p.2.2.2.2.2.2.2.2.2.2.2.2.1[p.2.2.2.1.toNat]?).bind fun x9 => (bif (decide (x9.1 < p.2.2.1)) then rec0 (p.1, p.2.1, p.2.2.1, (IntKind.i64.wrap (p.2.2.2.1 + (1 : Int))), p.2.2.2.2.1, p.2.2.2.2.2.1, p.2.2.2.2.2.2.1, p.2.2.2.2.2.2.2.1, p.2.2.2.2.2.2.2.2.1, p.2.2.2.2.2.2.2.2.2.1, p.2.2.2.2.2.2.2.2.2.2.1, p.2.2.2.2.2.2.2.2.2.2.2.1, p.2.2.2.2.2.2.2.2.2.2.2.2.1, p.2.2.2.2.2.2.2.2.2.2.2.2.2) else (slices_Insert_impl_Lease_impl_Lease.f k p.2.2.2.2.2.2.2.2.2.2.2.2.1 p.2.2.2.1 [(p.2.2.1, p.1, (IntKind.i64.wrap (p.2.1 + (20 : Int))))]).bind fun r10 => some (p.2.2.2.2.2.2.2.2.1, p.2.2.2.2.2.2.2.2.2.1, r10, p.2.2.2.2.2.2.2.2.2.2.2.2.2, p.2.2.1, true)) else none) else (slices_Insert_impl_Lease_impl_Lease.f k p.2.2.2.2.2.2.2.2.2.2.2.2.1 p.2.2.2.1 [(p.2.2.1, p.1, (IntKind.i64.wrap (p.2.1 + (20 : Int))))]).bind fun r11 => some (p.2.2.2.2.2.2.2.2.1, p.2.2.2.2.2.2.2.2.2.1, r11, p.2.2.2.2.2.2.2.2.2.2.2.2.2, p.2.2.1, true))
def impl_Grant.l0 (k : Nat) : Nat → (Int × Int × Int × Int × (List (Int × Int × Int)) × (List (Int × Int)) × Int × Int × Int × Int × (List (Int × Int × Int)) × (List (Int × Int)) × (List (Int × Int × Int)) × (List (Int × Int))) → Option (Int × Int × (List (Int × Int × Int)) × (List (Int × Int)) × Int × Bool)
  | 0 => fun _ => none
  | j + 1 => impl_Grant.s0 k (impl_Grant.l0 k j)
def impl_Grant.S0 (p : (Int × Int × Int × Int × (List (Int × Int × Int)) × (List (Int × Int)) × Int × Int × Int × Int × (List (Int × Int × Int)) × (List (Int × Int)) × (List (Int × Int × Int)) × (List (Int × Int)))) : DS := ⟨tl [(1, .at (.int .i64 p.1)), (2, .at (.int .i64 p.2.1)), (6, .at (.bptr 96 0)), (9, .at (.bptr 144 0)), (11, .at (.int .i64 p.2.2.1)), (12, .at (.int .i64 p.2.2.2.1))], lookO [(2, .row 63 (.two (.int .i64) (.two (.int .i64) (.int .i64))) false p.2.2.2.2.1), (3, .row 150 (.two (.int .i64) (.int .i64)) false p.2.2.2.2.2.1), (96, .box 50 [.int .i64 p.2.2.2.2.2.2.1, .int .i64 p.2.2.2.2.2.2.2.1, .whole 1440, .whole 1441]), (144, .box 50 [.int .i64 p.2.2.2.2.2.2.2.2.1, .int .i64 p.2.2.2.2.2.2.2.2.2.1, .whole 1442, .whole 1443]), (1440, .row 63 (.two (.int .i64) (.two (.int .i64) (.int .i64))) true p.2.2.2.2.2.2.2.2.2.2.1), (1441, .row 150 (.two (.int .i64) (.int .i64)) true p.2.2.2.2.2.2.2.2.2.2.2.1), (1442, .row 63 (.two (.int .i64) (.two (.int .i64) (.int .i64))) true p.2.2.2.2.2.2.2.2.2.2.2.2.1), (1443, .row 150 (.two (.int .i64) (.int .i64)) true p.2.2.2.2.2.2.2.2.2.2.2.2.2)]⟩
noncomputable def impl_Grant.D0 (k : Nat) (j : Nat) (p : (Int × Int × Int × Int × (List (Int × Int × Int)) × (List (Int × Int)) × Int × Int × Int × Int × (List (Int × Int × Int)) × (List (Int × Int)) × (List (Int × Int × Int)) × (List (Int × Int)))) : Option (Int × Int × (List (Int × Int × Int)) × (List (Int × Int)) × Int × Bool) := loopK (norm [2, 3] (impl_Grant.h 0)) (runK impl_Grant.x k 0 [2, 3] impl_Grant.h 0 (sub impl_Grant.c [1, 1, 1, 1, 1, 1, 1, 1, 0, 0, 0])) j (impl_Grant.S0 p) (kBlk 0 (kSeq (runK impl_Grant.x k 0 [2, 3] impl_Grant.h 0 (sub impl_Grant.c [1, 1, 1, 1, 1, 1, 1, 1, 1])) (fin tt impl_Grant.ps impl_Grant.rs impl_Grant.vs (.two (.int .i64) (.two (.int .i64) (.two (.sl 63 (.two (.int .i64) (.two (.int .i64) (.int .i64)))) (.two (.sl 150 (.two (.int .i64) (.int .i64))) (.two (.int .i64) .bool))))))))
theorem impl_Grant.D0_eq (k : Nat) : ∀ j, impl_Grant.D0 k j = impl_Grant.l0 k j := by
  intro j
  induction j with
  | zero => rfl
  | succ j ih =>
    show _ = impl_Grant.s0 k (impl_Grant.l0 k j)
    rw [← ih]
    funext p
    kernel_rfl
def impl_Grant.f (k : Nat) (a0_0 : Int) (a0_1 : Int) (a0_2 : List (Int × Int × Int)) (a0_3 : List (Int × Int)) (a1 : Int) (a2 : Int) : Option (Int × Int × (List (Int × Int × Int)) × (List (Int × Int)) × Int × Bool) :=
  (impl_copyPool.f k a0_0 a0_1 a0_2 a0_3).bind fun r1 => (impl_PoolOk.f k a0_0 a0_1 a0_2 a0_3).bind fun r2 => (bif (!r2) then some (r1.1, r1.2.1, r1.2.2.1, r1.2.2.2, (0 : Int), false) else (impl_isId.f k a1).bind fun r3 => (bif (!r3) then some (r1.1, r1.2.1, r1.2.2.1, r1.2.2.2, (0 : Int), false) else (impl_within.f k a2 (0 : Int) (999999980 : Int)).bind fun r4 => (bif (!r4) then some (r1.1, r1.2.1, r1.2.2.1, r1.2.2.2, (0 : Int), false) else (impl_leaseOf.f k a0_0 a0_1 a0_2 a0_3 a1).bind fun r5 => (bif (decide (r5 ≥ (0 : Int))) then (bif ((decide ((0 : Int) ≤ r5)) && (decide (r5 < (r1.2.2.1.length : Int)))) then (r1.2.2.1[r5.toNat]?).bind fun x6 => (bif ((decide ((0 : Int) ≤ r5)) && (decide (r5 < (a0_2.length : Int)))) then (a0_2[r5.toNat]?).bind fun x7 => some (r1.1, r1.2.1, (r1.2.2.1.set r5.toNat (x6.1, x6.2.1, (IntKind.i64.wrap (a2 + (20 : Int))))), r1.2.2.2, x7.1, true) else none) else none) else (impl_addrFor.f k a0_0 a0_1 a0_2 a0_3 a1).bind fun r8 => (bif (decide ((a0_2.length : Int) ≥ (6 : Int))) then some (r1.1, r1.2.1, r1.2.2.1, r1.2.2.2, (0 : Int), false) else (bif (decide (r8 < (0 : Int))) then some (r1.1, r1.2.1, r1.2.2.1, r1.2.2.2, (0 : Int), false) else impl_Grant.l0 k k (a1, a2, r8, (0 : Int), a0_2, a0_3, (0 : Int), (0 : Int), r1.1, r1.2.1, ([] : List (Int × Int × Int)), ([] : List (Int × Int)), r1.2.2.1, r1.2.2.2)))))))
def impl_Grant.K : Ctr := ⟨impl_Grant.ps, impl_Grant.rs, false, (.two (.int .i64) (.two (.int .i64) (.two (.sl 63 (.two (.int .i64) (.two (.int .i64) (.int .i64)))) (.two (.sl 150 (.two (.int .i64) (.int .i64))) (.two (.int .i64) (.int .i64)))))), (.two (.int .i64) (.two (.int .i64) (.two (.sl 63 (.two (.int .i64) (.two (.int .i64) (.int .i64)))) (.two (.sl 150 (.two (.int .i64) (.int .i64))) (.two (.int .i64) .bool))))), fun k x => impl_Grant.f k x.1 x.2.1 x.2.2.1 x.2.2.2.1 x.2.2.2.2.1 x.2.2.2.2.2⟩
theorem impl_Grant.eq (k : Nat) (x : (impl_Grant.K.I).den) : func impl_Grant.x impl_Grant.h impl_Grant.ps impl_Grant.rs impl_Grant.vs impl_Grant.K.I impl_Grant.K.O impl_Grant.c k x = impl_Grant.K.run k x := by
  show _ = impl_Grant.f k x.1 x.2.1 x.2.2.1 x.2.2.2.1 x.2.2.2.2.1 x.2.2.2.2.2
  unfold impl_Grant.f
  rw [← impl_Grant.D0_eq k k]
  kernel_rfl
theorem impl_Grant.ok : CtrOk Try.prog 40 impl_Grant.K :=
  CtrOk.of (fn := Try.f40) (cd := impl_Grant.c) (cx := impl_Grant.x) (hs := impl_Grant.h) (by kernel_rfl) (by kernel_rfl) (by kernel_rfl) (by kernel_rfl) tt_ok (envOk_cons impl_copyPool.ok (envOk_cons impl_PoolOk.ok (envOk_cons impl_isId.ok (envOk_cons impl_within.ok (envOk_cons impl_leaseOf.ok (envOk_cons impl_addrFor.ok (envOk_cons slices_Insert_impl_Lease_impl_Lease.ok (envOk_nil)))))))) (by kernel_rfl) (by kernel_rfl) (by kernel_rfl) (by kernel_rfl) fun k x r h => (impl_Grant.eq k x).trans h
/-! laws.eqPrefix -/
noncomputable def laws_eqPrefix.c : Code := bodyOf Try.f80
def laws_eqPrefix.h : Nat → Hint := look ⟨[], [], []⟩ []
def laws_eqPrefix.ps : List PK := [.agg 2, .agg 2]
def laws_eqPrefix.rs : List RK := [.one true]
def laws_eqPrefix.vs : List ResultVar := [.tmp 4]
def laws_eqPrefix.x : Cx := ⟨tt, look none []⟩
def laws_eqPrefix.f (_k : Nat) (a0_0 : Int) (a0_1 : Int) (a1_0 : Int) (a1_1 : Int) : Option (Bool) :=
  (bif (a0_0 != a1_0) then some false else (bif (a0_1 != a1_1) then some false else some true))
def laws_eqPrefix.K : Ctr := ⟨laws_eqPrefix.ps, laws_eqPrefix.rs, false, (.two (.int .i64) (.two (.int .i64) (.two (.int .i64) (.int .i64)))), .bool, fun k x => laws_eqPrefix.f k x.1 x.2.1 x.2.2.1 x.2.2.2⟩
theorem laws_eqPrefix.eq (k : Nat) (x : (laws_eqPrefix.K.I).den) : func laws_eqPrefix.x laws_eqPrefix.h laws_eqPrefix.ps laws_eqPrefix.rs laws_eqPrefix.vs laws_eqPrefix.K.I laws_eqPrefix.K.O laws_eqPrefix.c k x = laws_eqPrefix.K.run k x := by
  show _ = laws_eqPrefix.f k x.1 x.2.1 x.2.2.1 x.2.2.2
  kernel_rfl
theorem laws_eqPrefix.ok : CtrOk Try.prog 80 laws_eqPrefix.K :=
  CtrOk.of (fn := Try.f80) (cd := laws_eqPrefix.c) (cx := laws_eqPrefix.x) (hs := laws_eqPrefix.h) (by kernel_rfl) (by kernel_rfl) (by kernel_rfl) (by kernel_rfl) tt_ok (envOk_nil) (by kernel_rfl) (by kernel_rfl) (by kernel_rfl) (by kernel_rfl) fun k x r h => (laws_eqPrefix.eq k x).trans h
/-! laws.eqLease -/
noncomputable def laws_eqLease.c : Code := bodyOf Try.f134
def laws_eqLease.h : Nat → Hint := look ⟨[], [], []⟩ []
def laws_eqLease.ps : List PK := [.agg 3, .agg 3]
def laws_eqLease.rs : List RK := [.one true]
def laws_eqLease.vs : List ResultVar := [.tmp 4]
def laws_eqLease.x : Cx := ⟨tt, look none []⟩
def laws_eqLease.f (_k : Nat) (a0_0 : Int) (a0_1 : Int) (a0_2 : Int) (a1_0 : Int) (a1_1 : Int) (a1_2 : Int) : Option (Bool) :=
  (bif (a0_0 != a1_0) then some false else (bif (a0_1 != a1_1) then some false else (bif (a0_2 != a1_2) then some false else some true)))
def laws_eqLease.K : Ctr := ⟨laws_eqLease.ps, laws_eqLease.rs, false, (.two (.int .i64) (.two (.int .i64) (.two (.int .i64) (.two (.int .i64) (.two (.int .i64) (.int .i64)))))), .bool, fun k x => laws_eqLease.f k x.1 x.2.1 x.2.2.1 x.2.2.2.1 x.2.2.2.2.1 x.2.2.2.2.2⟩
theorem laws_eqLease.eq (k : Nat) (x : (laws_eqLease.K.I).den) : func laws_eqLease.x laws_eqLease.h laws_eqLease.ps laws_eqLease.rs laws_eqLease.vs laws_eqLease.K.I laws_eqLease.K.O laws_eqLease.c k x = laws_eqLease.K.run k x := by
  show _ = laws_eqLease.f k x.1 x.2.1 x.2.2.1 x.2.2.2.1 x.2.2.2.2.1 x.2.2.2.2.2
  kernel_rfl
theorem laws_eqLease.ok : CtrOk Try.prog 134 laws_eqLease.K :=
  CtrOk.of (fn := Try.f134) (cd := laws_eqLease.c) (cx := laws_eqLease.x) (hs := laws_eqLease.h) (by kernel_rfl) (by kernel_rfl) (by kernel_rfl) (by kernel_rfl) tt_ok (envOk_nil) (by kernel_rfl) (by kernel_rfl) (by kernel_rfl) (by kernel_rfl) fun k x r h => (laws_eqLease.eq k x).trans h
/-! laws.eqLeaseS -/
noncomputable def laws_eqLeaseS.c : Code := bodyOf Try.f81
def laws_eqLeaseS.h : Nat → Hint := look ⟨[], [], []⟩ [(0, ⟨[0, 1, 5], [], []⟩)]
def laws_eqLeaseS.ps : List PK := [.one, .one]
def laws_eqLeaseS.rs : List RK := [.one true]
def laws_eqLeaseS.vs : List ResultVar := [.tmp 4]
def laws_eqLeaseS.x : Cx := ⟨tt, look none [(134, some laws_eqLease.K)]⟩
def laws_eqLeaseS.s0 (k : Nat) (rec0 : (Int × (List (Int × Int × Int)) × (List (Int × Int × Int))) → Option (Bool)) (p : (Int × (List (Int × Int × Int)) × (List (Int × Int × Int)))) : Option (Bool) :=
  (bif (decide (p.1 < (p.2.1.length : Int))) then (bif ((decide ((0 : Int) ≤ p.1)) && (decide (p.1 < (p.2.1.length : Int)))) then (p.2.1[p.1.toNat]?).bind fun x1 => (bif ((decide ((0 : Int) ≤ p.1)) && (decide (p.1 < (p.2.2.length : Int)))) then (p.2.2[p.1.toNat]?).bind fun x2 => (laws_eqLease.f k x1.1 x1.2.1 x1.2.2 x2.1 x2.2.1 x2.2.2).bind fun r3 => (bif (!r3) then some false else rec0 ((IntKind.i64.wrap (p.1 + (1 : Int))), p.2.1, p.2.2)) else none) else none) else some true)
def laws_eqLeaseS.l0 (k : Nat) : Nat → (Int × (List (Int × Int × Int)) × (List (Int × Int × Int))) → Option (Bool)
  | 0 => fun _ => none
  | j + 1 => laws_eqLeaseS.s0 k (laws_eqLeaseS.l0 k j)
def laws_eqLeaseS.S0 (p : (Int × (List (Int × Int × Int)) × (List (Int × Int × Int)))) : DS := ⟨tl [(0, .at (.whole 0)), (1, .at (.whole 16)), (5, .at (.int .i64 p.1))], lookO [(0, .row 63 (.two (.int .i64) (.two (.int .i64) (.int .i64))) false p.2.1), (16, .row 63 (.two (.int .i64) (.two (.int .i64) (.int .i64))) false p.2.2)]⟩
noncomputable def laws_eqLeaseS.D0 (k : Nat) (j : Nat) (p : (Int × (List (Int × Int × Int)) × (List (Int × Int × Int)))) : Option (Bool) := loopK (norm [0, 16] (laws_eqLeaseS.h 0)) (runK laws_eqLeaseS.x k 0 [0, 16] laws_eqLeaseS.h 0 (sub laws_eqLeaseS.c [1, 1, 0, 1, 0, 0])) j (laws_eqLeaseS.S0 p) (kBlk 0 (kSeq (runK laws_eqLeaseS.x k 0 [0, 16] laws_eqLeaseS.h 0 (sub laws_eqLeaseS.c [1, 1, 1])) (fin tt laws_eqLeaseS.ps laws_eqLeaseS.rs laws_eqLeaseS.vs .bool)))
theorem laws_eqLeaseS.D0_eq (k : Nat) : ∀ j, laws_eqLeaseS.D0 k j = laws_eqLeaseS.l0 k j := by
  intro j
  induction j with
  | zero => rfl
  | succ j ih =>
    show _ = laws_eqLeaseS.s0 k (laws_eqLeaseS.l0 k j)
    rw [← ih]
    funext p
    kernel_rfl
def laws_eqLeaseS.f (k : Nat) (a0 : List (Int × Int × Int)) (a1 : List (Int × Int × Int)) : Option (Bool) :=
  (bif ((a0.length : Int) != (a1.length : Int)) then some false else laws_eqLeaseS.l0 k k ((0 : Int), a0, a1))
def laws_eqLeaseS.K : Ctr := ⟨laws_eqLeaseS.ps, laws_eqLeaseS.rs, false, (.two (.sl 63 (.two (.int .i64) (.two (.int .i64) (.int .i64)))) (.sl 63 (.two (.int .i64) (.two (.int .i64) (.int .i64))))), .bool, fun k x => laws_eqLeaseS.f k x.1 x.2⟩
theorem laws_eqLeaseS.eq (k : Nat) (x : (laws_eqLeaseS.K.I).den) : func laws_eqLeaseS.x laws_eqLeaseS.h laws_eqLeaseS.ps laws_eqLeaseS.rs laws_eqLeaseS.vs laws_eqLeaseS.K.I laws_eqLeaseS.K.O laws_eqLeaseS.c k x = laws_eqLeaseS.K.run k x := by
  show _ = laws_eqLeaseS.f k x.1 x.2
  unfold laws_eqLeaseS.f
  rw [← laws_eqLeaseS.D0_eq k k]
  kernel_rfl
theorem laws_eqLeaseS.ok : CtrOk Try.prog 81 laws_eqLeaseS.K :=
  CtrOk.of (fn := Try.f81) (cd := laws_eqLeaseS.c) (cx := laws_eqLeaseS.x) (hs := laws_eqLeaseS.h) (by kernel_rfl) (by kernel_rfl) (by kernel_rfl) (by kernel_rfl) tt_ok (envOk_cons laws_eqLease.ok (envOk_nil)) (by kernel_rfl) (by kernel_rfl) (by kernel_rfl) (by kernel_rfl) fun k x r h => (laws_eqLeaseS.eq k x).trans h
end Go.Proofs.Ytfaeklomiofpdaa.DI
