/- FnExpires: functions as plain Lean, in the machine of values. -/
import Derived.Test.YtfaeklomiofpdaaVFnExpires4
namespace Go.Proofs.Ytfaeklomiofpdaa.DI
open Go
set_option linter.unusedVariables false
/-! impl.PoolOk -/
noncomputable def impl_PoolOk.c : Code := bodyOf Try.f34
def impl_PoolOk.h : Nat → Hint := look ⟨[], [], []⟩ [(0, ⟨[1, 29, 30, 31], [16], []⟩)]
def impl_PoolOk.ps : List PK := [.agg 4]
def impl_PoolOk.rs : List RK := [.one true]
def impl_PoolOk.vs : List ResultVar := [.tmp 2]
def impl_PoolOk.x : Cx := ⟨tt, look none [(69, some impl_PrefixOk.K), (89, some impl_within.K), (90, some impl_fixesOk.K), (91, some impl_isHost.K), (70, some impl_isId.K), (92, some impl_fixedFor.K), (93, some impl_leaseOf.K)]⟩
def impl_PoolOk.s0 (k : Nat) (rec0 : (Int × Int × (List (Int × Int × Int)) × (List (Int × Int)) × Int × Int) → Option (Bool)) (p : (Int × Int × (List (Int × Int × Int)) × (List (Int × Int)) × Int × Int)) : Option (Bool) :=
  (bif (decide (p.2.1 < p.1)) then (bif ((decide ((0 : Int) ≤ p.2.1)) && (decide (p.2.1 < (p.2.2.1.length : Int)))) then (p.2.2.1[p.2.1.toNat]?).bind fun x4 => (bif (decide (p.2.1 > (0 : Int))) then (bif ((decide ((0 : Int) ≤ (IntKind.i64.wrap (p.2.1 - (1 : Int))))) && (decide ((IntKind.i64.wrap (p.2.1 - (1 : Int))) < (p.2.2.1.length : Int)))) then (p.2.2.1[(IntKind.i64.wrap (p.2.1 - (1 : Int))).toNat]?).bind fun x5 => (bif (decide (x5.1 ≥ x4.1)) then some false else (impl_isHost.f k p.2.2.2.2.1 p.2.2.2.2.2 x4.1).bind fun r6 => (bif (!r6) then some false else (impl_isId.f k x4.2.1).bind fun r7 => (bif (!r7) then some false else (impl_within.f k x4.2.2 (0 : Int) (1000000000 : Int)).bind fun r8 => (bif (!r8) then some false else (impl_fixedFor.f k p.2.2.2.2.1 p.2.2.2.2.2 p.2.2.1 p.2.2.2.1 x4.1).bind fun r9 => (impl_leaseOf.f k p.2.2.2.2.1 p.2.2.2.2.2 p.2.2.1 p.2.2.2.1 x4.2.1).bind fun r10 => (bif (r10 != p.2.1) then some false else (bif (r9 != (0 : Int)) then (bif (r9 != x4.2.1) then some false else rec0 (p.1, (IntKind.i64.wrap (p.2.1 + (1 : Int))), p.2.2.1, p.2.2.2.1, p.2.2.2.2.1, p.2.2.2.2.2)) else rec0 (p.1, (IntKind.i64.wrap (p.2.1 + (1 : Int))), p.2.2.1, p.2.2.2.1, p.2.2.2.2.1, p.2.2.2.2.2))))))) else none) else (impl_isHost.f k p.2.2.2.2.1 p.2.2.2.2.2 x4.1).bind fun r11 => (bif (!r11) then some false else (impl_isId.f k x4.2.1).bind fun r12 => (bif (!r12) then some false else (impl_within.f k x4.2.2 (0 : Int) (1000000000 : Int)).bind fun r13 => (bif (!r13) then some false else (impl_fixedFor.f k p.2.2.2.2.1 p.2.2.2.2.2 p.2.2.1 p.2.2.2.1 x4.1).bind fun r14 => (impl_leaseOf.f k p.2.2.2.2.1 p.2.2.2.2.2 p.2.2.1 p.2.2.2.1 x4.2.1).bind fun r15 => (bif (r15 != p.2.1) then some false else (bif (r14 != (0 : Int)) then (bif (r14 != x4.2.1) then some false else rec0 (p.1, (IntKind.i64.wrap (p.2.1 + (1 : Int))), p.2.2.1, p.2.2.2.1, p.2.2.2.2.1, p.2.2.2.2.2)) else rec0 (p.1, (IntKind.i64.wrap (p.2.1 + (1 : Int))), p.2.2.1, p.2.2.2.1, p.2.2.2.2.1, p.2.2.2.2.2))))))) else none) else some true)
def impl_PoolOk.l0 (k : Nat) : Nat → (Int × Int × (List (Int × Int × Int)) × (List (Int × Int)) × Int × Int) → Option (Bool)
  | 0 => fun _ => none
  | j + 1 => impl_PoolOk.s0 k (impl_PoolOk.l0 k j)
def impl_PoolOk.S0 (p : (Int × Int × (List (Int × Int × Int)) × (List (Int × Int)) × Int × Int)) : DS := ⟨tl [(1, .at (.bptr 16 0)), (29, .at (.whole 2)), (30, .at (.int .i64 p.1)), (31, .at (.int .i64 p.2.1))], lookO [(2, .row 63 (.two (.int .i64) (.two (.int .i64) (.int .i64))) false p.2.2.1), (3, .row 150 (.two (.int .i64) (.int .i64)) false p.2.2.2.1), (16, .box 50 [.int .i64 p.2.2.2.2.1, .int .i64 p.2.2.2.2.2, .whole 2, .whole 3])]⟩
noncomputable def impl_PoolOk.D0 (k : Nat) (j : Nat) (p : (Int × Int × (List (Int × Int × Int)) × (List (Int × Int)) × Int × Int)) : Option (Bool) := loopK (norm [2, 3] (impl_PoolOk.h 0)) (runK impl_PoolOk.x k 0 [2, 3] impl_PoolOk.h 0 (sub impl_PoolOk.c [1, 1, 0, 1, 0, 0])) j (impl_PoolOk.S0 p) (kBlk 0 (kSeq (runK impl_PoolOk.x k 0 [2, 3] impl_PoolOk.h 0 (sub impl_PoolOk.c [1, 1, 1])) (fin tt impl_PoolOk.ps impl_PoolOk.rs impl_PoolOk.vs .bool)))
theorem impl_PoolOk.D0_eq (k : Nat) : ∀ j, impl_PoolOk.D0 k j = impl_PoolOk.l0 k j := by
  intro j
  induction j with
  | zero => rfl
  | succ j ih =>
    show _ = impl_PoolOk.s0 k (impl_PoolOk.l0 k j)
    rw [← ih]
    funext p
    kernel_rfl
def impl_PoolOk.f (k : Nat) (a0_0 : Int) (a0_1 : Int) (a0_2 : List (Int × Int × Int)) (a0_3 : List (Int × Int)) : Option (Bool) :=
  (impl_PrefixOk.f k a0_0 a0_1).bind fun r1 => (bif (!r1) then some false else (impl_within.f k a0_1 (24 : Int) (30 : Int)).bind fun r2 => (bif (!r2) then some false else (impl_fixesOk.f k a0_0 a0_1 a0_2 a0_3).bind fun r3 => (bif (!r3) then some false else (bif (decide ((a0_2.length : Int) > (6 : Int))) then some false else impl_PoolOk.l0 k k ((a0_2.length : Int), (0 : Int), a0_2, a0_3, a0_0, a0_1)))))
def impl_PoolOk.K : Ctr := ⟨impl_PoolOk.ps, impl_PoolOk.rs, false, (.two (.int .i64) (.two (.int .i64) (.two (.sl 63 (.two (.int .i64) (.two (.int .i64) (.int .i64)))) (.sl 150 (.two (.int .i64) (.int .i64)))))), .bool, fun k x => impl_PoolOk.f k x.1 x.2.1 x.2.2.1 x.2.2.2⟩
theorem impl_PoolOk.eq (k : Nat) (x : (impl_PoolOk.K.I).den) : func impl_PoolOk.x impl_PoolOk.h impl_PoolOk.ps impl_PoolOk.rs impl_PoolOk.vs impl_PoolOk.K.I impl_PoolOk.K.O impl_PoolOk.c k x = impl_PoolOk.K.run k x := by
  show _ = impl_PoolOk.f k x.1 x.2.1 x.2.2.1 x.2.2.2
  unfold impl_PoolOk.f
  rw [← impl_PoolOk.D0_eq k k]
  kernel_rfl
theorem impl_PoolOk.ok : CtrOk Try.prog 34 impl_PoolOk.K :=
  CtrOk.of (fn := Try.f34) (cd := impl_PoolOk.c) (cx := impl_PoolOk.x) (hs := impl_PoolOk.h) (by kernel_rfl) (by kernel_rfl) (by kernel_rfl) (by kernel_rfl) tt_ok (envOk_cons impl_PrefixOk.ok (envOk_cons impl_within.ok (envOk_cons impl_fixesOk.ok (envOk_cons impl_isHost.ok (envOk_cons impl_isId.ok (envOk_cons impl_fixedFor.ok (envOk_cons impl_leaseOf.ok (envOk_nil)))))))) (by kernel_rfl) (by kernel_rfl) (by kernel_rfl) (by kernel_rfl) fun k x r h => (impl_PoolOk.eq k x).trans h
/-! laws.in -/
noncomputable def laws_in.c : Code := bodyOf Try.f35
def laws_in.h : Nat → Hint := look ⟨[], [], []⟩ [(0, ⟨[0, 1, 5], [], []⟩)]
def laws_in.ps : List PK := [.one, .one]
def laws_in.rs : List RK := [.one true]
def laws_in.vs : List ResultVar := [.tmp 4]
def laws_in.x : Cx := ⟨tt, look none []⟩
def laws_in.s0 (_k : Nat) (rec0 : (Int × Int × (List (Int))) → Option (Bool)) (p : (Int × Int × (List (Int)))) : Option (Bool) :=
  (bif (decide (p.2.1 < (p.2.2.length : Int))) then (bif ((decide ((0 : Int) ≤ p.2.1)) && (decide (p.2.1 < (p.2.2.length : Int)))) then (p.2.2[p.2.1.toNat]?).bind fun x1 => (bif (x1 == p.1) then some true else rec0 (p.1, (IntKind.i64.wrap (p.2.1 + (1 : Int))), p.2.2)) else none) else some false)
def laws_in.l0 (k : Nat) : Nat → (Int × Int × (List (Int))) → Option (Bool)
  | 0 => fun _ => none
  | j + 1 => laws_in.s0 k (laws_in.l0 k j)
def laws_in.S0 (p : (Int × Int × (List (Int)))) : DS := ⟨tl [(0, .at (.whole 0)), (1, .at (.int .i64 p.1)), (5, .at (.int .i64 p.2.1))], lookO [(0, .row 3 (.int .i64) false p.2.2)]⟩
noncomputable def laws_in.D0 (k : Nat) (j : Nat) (p : (Int × Int × (List (Int)))) : Option (Bool) := loopK (norm [0] (laws_in.h 0)) (runK laws_in.x k 0 [0] laws_in.h 0 (sub laws_in.c [1, 0, 1, 0, 0])) j (laws_in.S0 p) (kBlk 0 (kSeq (runK laws_in.x k 0 [0] laws_in.h 0 (sub laws_in.c [1, 1])) (fin tt laws_in.ps laws_in.rs laws_in.vs .bool)))
theorem laws_in.D0_eq (k : Nat) : ∀ j, laws_in.D0 k j = laws_in.l0 k j := by
  intro j
  induction j with
  | zero => rfl
  | succ j ih =>
    show _ = laws_in.s0 k (laws_in.l0 k j)
    rw [← ih]
    funext p
    kernel_rfl
def laws_in.f (k : Nat) (a0 : List (Int)) (a1 : Int) : Option (Bool) :=
  laws_in.l0 k k (a1, (0 : Int), a0)
def laws_in.K : Ctr := ⟨laws_in.ps, laws_in.rs, false, (.two (.sl 3 (.int .i64)) (.int .i64)), .bool, fun k x => laws_in.f k x.1 x.2⟩
theorem laws_in.eq (k : Nat) (x : (laws_in.K.I).den) : func laws_in.x laws_in.h laws_in.ps laws_in.rs laws_in.vs laws_in.K.I laws_in.K.O laws_in.c k x = laws_in.K.run k x := by
  show _ = laws_in.f k x.1 x.2
  unfold laws_in.f
  rw [← laws_in.D0_eq k k]
  kernel_rfl
theorem laws_in.ok : CtrOk Try.prog 35 laws_in.K :=
  CtrOk.of (fn := Try.f35) (cd := laws_in.c) (cx := laws_in.x) (hs := laws_in.h) (by kernel_rfl) (by kernel_rfl) (by kernel_rfl) (by kernel_rfl) tt_ok (envOk_nil) (by kernel_rfl) (by kernel_rfl) (by kernel_rfl) (by kernel_rfl) fun k x r h => (laws_in.eq k x).trans h
/-! impl.HolderOf -/
noncomputable def impl_HolderOf.c : Code := bodyOf Try.f36
def impl_HolderOf.h : Nat → Hint := look ⟨[], [], []⟩ [(0, ⟨[1, 8, 9, 10], [], []⟩)]
def impl_HolderOf.ps : List PK := [.agg 4, .one]
def impl_HolderOf.rs : List RK := [.one true]
def impl_HolderOf.vs : List ResultVar := [.tmp 4]
def impl_HolderOf.x : Cx := ⟨tt, look none []⟩
def impl_HolderOf.s0 (_k : Nat) (rec0 : (Int × Int × Int × (List (Int × Int × Int)) × (List (Int × Int))) → Option (Int)) (p : (Int × Int × Int × (List (Int × Int × Int)) × (List (Int × Int)))) : Option (Int) :=
  (bif (decide (p.2.2.1 < p.2.1)) then (bif ((decide ((0 : Int) ≤ p.2.2.1)) && (decide (p.2.2.1 < (p.2.2.2.1.length : Int)))) then (p.2.2.2.1[p.2.2.1.toNat]?).bind fun x1 => (bif (x1.1 == p.1) then some x1.2.1 else rec0 (p.1, p.2.1, (IntKind.i64.wrap (p.2.2.1 + (1 : Int))), p.2.2.2.1, p.2.2.2.2)) else none) else some (0 : Int))
def impl_HolderOf.l0 (k : Nat) : Nat → (Int × Int × Int × (List (Int × Int × Int)) × (List (Int × Int))) → Option (Int)
  | 0 => fun _ => none
  | j + 1 => impl_HolderOf.s0 k (impl_HolderOf.l0 k j)
def impl_HolderOf.S0 (p : (Int × Int × Int × (List (Int × Int × Int)) × (List (Int × Int)))) : DS := ⟨tl [(1, .at (.int .i64 p.1)), (8, .at (.whole 2)), (9, .at (.int .i64 p.2.1)), (10, .at (.int .i64 p.2.2.1))], lookO [(2, .row 63 (.two (.int .i64) (.two (.int .i64) (.int .i64))) false p.2.2.2.1), (3, .row 150 (.two (.int .i64) (.int .i64)) false p.2.2.2.2)]⟩
noncomputable def impl_HolderOf.D0 (k : Nat) (j : Nat) (p : (Int × Int × Int × (List (Int × Int × Int)) × (List (Int × Int)))) : Option (Int) := loopK (norm [2, 3] (impl_HolderOf.h 0)) (runK impl_HolderOf.x k 0 [2, 3] impl_HolderOf.h 0 (sub impl_HolderOf.c [1, 0, 1, 0, 0])) j (impl_HolderOf.S0 p) (kBlk 0 (kSeq (runK impl_HolderOf.x k 0 [2, 3] impl_HolderOf.h 0 (sub impl_HolderOf.c [1, 1])) (fin tt impl_HolderOf.ps impl_HolderOf.rs impl_HolderOf.vs (.int .i64))))
theorem impl_HolderOf.D0_eq (k : Nat) : ∀ j, impl_HolderOf.D0 k j = impl_HolderOf.l0 k j := by
  intro j
  induction j with
  | zero => rfl
  | succ j ih =>
    show _ = impl_HolderOf.s0 k (impl_HolderOf.l0 k j)
    rw [← ih]
    funext p
    kernel_rfl
def impl_HolderOf.f (k : Nat) (_a0_0 : Int) (_a0_1 : Int) (a0_2 : List (Int × Int × Int)) (a0_3 : List (Int × Int)) (a1 : Int) : Option (Int) :=
  impl_HolderOf.l0 k k (a1, (a0_2.length : Int), (0 : Int), a0_2, a0_3)
def impl_HolderOf.K : Ctr := ⟨impl_HolderOf.ps, impl_HolderOf.rs, false, (.two (.int .i64) (.two (.int .i64) (.two (.sl 63 (.two (.int .i64) (.two (.int .i64) (.int .i64)))) (.two (.sl 150 (.two (.int .i64) (.int .i64))) (.int .i64))))), (.int .i64), fun k x => impl_HolderOf.f k x.1 x.2.1 x.2.2.1 x.2.2.2.1 x.2.2.2.2⟩
theorem impl_HolderOf.eq (k : Nat) (x : (impl_HolderOf.K.I).den) : func impl_HolderOf.x impl_HolderOf.h impl_HolderOf.ps impl_HolderOf.rs impl_HolderOf.vs impl_HolderOf.K.I impl_HolderOf.K.O impl_HolderOf.c k x = impl_HolderOf.K.run k x := by
  show _ = impl_HolderOf.f k x.1 x.2.1 x.2.2.1 x.2.2.2.1 x.2.2.2.2
  unfold impl_HolderOf.f
  rw [← impl_HolderOf.D0_eq k k]
  kernel_rfl
theorem impl_HolderOf.ok : CtrOk Try.prog 36 impl_HolderOf.K :=
  CtrOk.of (fn := Try.f36) (cd := impl_HolderOf.c) (cx := impl_HolderOf.x) (hs := impl_HolderOf.h) (by kernel_rfl) (by kernel_rfl) (by kernel_rfl) (by kernel_rfl) tt_ok (envOk_nil) (by kernel_rfl) (by kernel_rfl) (by kernel_rfl) (by kernel_rfl) fun k x r h => (impl_HolderOf.eq k x).trans h
/-! laws.samePool -/
noncomputable def laws_samePool.c : Code := bodyOf Try.f37
def laws_samePool.h : Nat → Hint := look ⟨[], [], []⟩ [(0, ⟨[2, 3, 5], [32, 48], []⟩)]
def laws_samePool.ps : List PK := [.agg 4, .agg 4]
def laws_samePool.rs : List RK := [.one true]
def laws_samePool.vs : List ResultVar := [.tmp 4]
def laws_samePool.x : Cx := ⟨tt, look none []⟩
def laws_samePool.s0 (_k : Nat) (rec0 : (Int × (List (Int × Int × Int)) × (List (Int × Int)) × (List (Int × Int × Int)) × (List (Int × Int)) × Int × Int × Int × Int) → Option (Bool)) (p : (Int × (List (Int × Int × Int)) × (List (Int × Int)) × (List (Int × Int × Int)) × (List (Int × Int)) × Int × Int × Int × Int)) : Option (Bool) :=
  (bif (decide (p.1 < (p.2.1.length : Int))) then (bif ((decide ((0 : Int) ≤ p.1)) && (decide (p.1 < (p.2.1.length : Int)))) then (p.2.1[p.1.toNat]?).bind fun x1 => (bif ((decide ((0 : Int) ≤ p.1)) && (decide (p.1 < (p.2.2.2.1.length : Int)))) then (p.2.2.2.1[p.1.toNat]?).bind fun x2 => (bif (!((x1.1 == x2.1) && ((x1.2.1 == x2.2.1) && (x1.2.2 == x2.2.2)))) then some false else rec0 ((IntKind.i64.wrap (p.1 + (1 : Int))), p.2.1, p.2.2.1, p.2.2.2.1, p.2.2.2.2.1, p.2.2.2.2.2.1, p.2.2.2.2.2.2.1, p.2.2.2.2.2.2.2.1, p.2.2.2.2.2.2.2.2)) else none) else none) else some true)
def laws_samePool.l0 (k : Nat) : Nat → (Int × (List (Int × Int × Int)) × (List (Int × Int)) × (List (Int × Int × Int)) × (List (Int × Int)) × Int × Int × Int × Int) → Option (Bool)
  | 0 => fun _ => none
  | j + 1 => laws_samePool.s0 k (laws_samePool.l0 k j)
def laws_samePool.S0 (p : (Int × (List (Int × Int × Int)) × (List (Int × Int)) × (List (Int × Int × Int)) × (List (Int × Int)) × Int × Int × Int × Int)) : DS := ⟨tl [(2, .at (.bptr 32 0)), (3, .at (.bptr 48 0)), (5, .at (.int .i64 p.1))], lookO [(2, .row 63 (.two (.int .i64) (.two (.int .i64) (.int .i64))) false p.2.1), (3, .row 150 (.two (.int .i64) (.int .i64)) false p.2.2.1), (18, .row 63 (.two (.int .i64) (.two (.int .i64) (.int .i64))) false p.2.2.2.1), (19, .row 150 (.two (.int .i64) (.int .i64)) false p.2.2.2.2.1), (32, .box 50 [.int .i64 p.2.2.2.2.2.1, .int .i64 p.2.2.2.2.2.2.1, .whole 2, .whole 3]), (48, .box 50 [.int .i64 p.2.2.2.2.2.2.2.1, .int .i64 p.2.2.2.2.2.2.2.2, .whole 18, .whole 19])]⟩
noncomputable def laws_samePool.D0 (k : Nat) (j : Nat) (p : (Int × (List (Int × Int × Int)) × (List (Int × Int)) × (List (Int × Int × Int)) × (List (Int × Int)) × Int × Int × Int × Int)) : Option (Bool) := loopK (norm [2, 3, 18, 19] (laws_samePool.h 0)) (runK laws_samePool.x k 0 [2, 3, 18, 19] laws_samePool.h 0 (sub laws_samePool.c [1, 1, 0, 1, 0, 0])) j (laws_samePool.S0 p) (kBlk 0 (kSeq (runK laws_samePool.x k 0 [2, 3, 18, 19] laws_samePool.h 0 (sub laws_samePool.c [1, 1, 1])) (fin tt laws_samePool.ps laws_samePool.rs laws_samePool.vs .bool)))
theorem laws_samePool.D0_eq (k : Nat) : ∀ j, laws_samePool.D0 k j = laws_samePool.l0 k j := by
  intro j
  induction j with
  | zero => rfl
  | succ j ih =>
    show _ = laws_samePool.s0 k (laws_samePool.l0 k j)
    rw [← ih]
    funext p
    kernel_rfl
def laws_samePool.f (k : Nat) (a0_0 : Int) (a0_1 : Int) (a0_2 : List (Int × Int × Int)) (a0_3 : List (Int × Int)) (a1_0 : Int) (a1_1 : Int) (a1_2 : List (Int × Int × Int)) (a1_3 : List (Int × Int)) : Option (Bool) :=
  (bif (!((a0_0 == a1_0) && (a0_1 == a1_1))) then some false else (bif ((a0_2.length : Int) != (a1_2.length : Int)) then some false else (bif ((a0_3.length : Int) != (a1_3.length : Int)) then some false else laws_samePool.l0 k k ((0 : Int), a0_2, a0_3, a1_2, a1_3, a0_0, a0_1, a1_0, a1_1))))
def laws_samePool.K : Ctr := ⟨laws_samePool.ps, laws_samePool.rs, false, (.two (.int .i64) (.two (.int .i64) (.two (.sl 63 (.two (.int .i64) (.two (.int .i64) (.int .i64)))) (.two (.sl 150 (.two (.int .i64) (.int .i64))) (.two (.int .i64) (.two (.int .i64) (.two (.sl 63 (.two (.int .i64) (.two (.int .i64) (.int .i64)))) (.sl 150 (.two (.int .i64) (.int .i64)))))))))), .bool, fun k x => laws_samePool.f k x.1 x.2.1 x.2.2.1 x.2.2.2.1 x.2.2.2.2.1 x.2.2.2.2.2.1 x.2.2.2.2.2.2.1 x.2.2.2.2.2.2.2⟩
theorem laws_samePool.eq (k : Nat) (x : (laws_samePool.K.I).den) : func laws_samePool.x laws_samePool.h laws_samePool.ps laws_samePool.rs laws_samePool.vs laws_samePool.K.I laws_samePool.K.O laws_samePool.c k x = laws_samePool.K.run k x := by
  show _ = laws_samePool.f k x.1 x.2.1 x.2.2.1 x.2.2.2.1 x.2.2.2.2.1 x.2.2.2.2.2.1 x.2.2.2.2.2.2.1 x.2.2.2.2.2.2.2
  unfold laws_samePool.f
  rw [← laws_samePool.D0_eq k k]
  kernel_rfl
theorem laws_samePool.ok : CtrOk Try.prog 37 laws_samePool.K :=
  CtrOk.of (fn := Try.f37) (cd := laws_samePool.c) (cx := laws_samePool.x) (hs := laws_samePool.h) (by kernel_rfl) (by kernel_rfl) (by kernel_rfl) (by kernel_rfl) tt_ok (envOk_nil) (by kernel_rfl) (by kernel_rfl) (by kernel_rfl) (by kernel_rfl) fun k x r h => (laws_samePool.eq k x).trans h
/-! laws.FnExpires -/
noncomputable def laws_FnExpires.c : Code := bodyOf Try.f5
def laws_FnExpires.h : Nat → Hint := look ⟨[], [], []⟩ [(0, ⟨[3, 4, 5, 6, 7], [48, 80], [(.b 48 2, 1440, 63, (.two (.int .i64) (.two (.int .i64) (.int .i64)))), (.b 48 3, 1441, 150, (.two (.int .i64) (.int .i64))), (.b 80 2, 1442, 63, (.two (.int .i64) (.two (.int .i64) (.int .i64)))), (.b 80 3, 1443, 150, (.two (.int .i64) (.int .i64))), (.t 6, 1444, 3, (.int .i64))]⟩)]
def laws_FnExpires.ps : List PK := [.one]
def laws_FnExpires.rs : List RK := [.one true]
def laws_FnExpires.vs : List ResultVar := [.tmp 2]
def laws_FnExpires.x : Cx := ⟨tt, look none [(12, some laws_big.K), (32, some spec_DrawPool.K), (33, some spec_DrawPlaces.K), (25, some impl_Expire.K), (34, some impl_PoolOk.K), (35, some laws_in.K), (36, some impl_HolderOf.K), (37, some laws_samePool.K)]⟩
def laws_FnExpires.s0 (k : Nat) (rec0 : (Int × Int × (List (Int)) × Int × Int × Int × Int × (List (Int × Int × Int)) × (List (Int × Int)) × (List (Int × Int × Int)) × (List (Int × Int)) × (List (Int))) → Option (Bool)) (p : (Int × Int × (List (Int)) × Int × Int × Int × Int × (List (Int × Int × Int)) × (List (Int × Int)) × (List (Int × Int × Int)) × (List (Int × Int)) × (List (Int)))) : Option (Bool) :=
  (bif (decide (p.2.1 < (p.2.2.2.2.2.2.2.1.length : Int))) then (bif ((decide ((0 : Int) ≤ p.2.1)) && (decide (p.2.1 < (p.2.2.2.2.2.2.2.1.length : Int)))) then (p.2.2.2.2.2.2.2.1[p.2.1.toNat]?).bind fun x7 => (laws_in.f k p.2.2.2.2.2.2.2.2.2.2.2 x7.2.1).bind fun r8 => (bif (!((decide (x7.2.2 ≤ p.1)) == r8)) then some false else (impl_HolderOf.f k p.2.2.2.2.2.1 p.2.2.2.2.2.2.1 p.2.2.2.2.2.2.2.2.2.1 p.2.2.2.2.2.2.2.2.2.2.1 x7.1).bind fun r9 => (bif (!((decide (x7.2.2 > p.1)) == (r9 == x7.2.1))) then some false else rec0 (p.1, (IntKind.i64.wrap (p.2.1 + (1 : Int))), p.2.2.1, p.2.2.2.1, p.2.2.2.2.1, p.2.2.2.2.2.1, p.2.2.2.2.2.2.1, p.2.2.2.2.2.2.2.1, p.2.2.2.2.2.2.2.2.1, p.2.2.2.2.2.2.2.2.2.1, p.2.2.2.2.2.2.2.2.2.2.1, p.2.2.2.2.2.2.2.2.2.2.2))) else none) else (impl_Expire.f k p.2.2.2.2.2.1 p.2.2.2.2.2.2.1 p.2.2.2.2.2.2.2.2.2.1 p.2.2.2.2.2.2.2.2.2.2.1 p.1).bind fun r10 => (laws_samePool.f k r10.1 r10.2.1 r10.2.2.1 r10.2.2.2.1 p.2.2.2.2.2.1 p.2.2.2.2.2.2.1 p.2.2.2.2.2.2.2.2.2.1 p.2.2.2.2.2.2.2.2.2.2.1).bind fun r11 => (bif r11 then some ((r10.2.2.2.2.length : Int) == (0 : Int)) else some false))
def laws_FnExpires.l0 (k : Nat) : Nat → (Int × Int × (List (Int)) × Int × Int × Int × Int × (List (Int × Int × Int)) × (List (Int × Int)) × (List (Int × Int × Int)) × (List (Int × Int)) × (List (Int))) → Option (Bool)
  | 0 => fun _ => none
  | j + 1 => laws_FnExpires.s0 k (laws_FnExpires.l0 k j)
def laws_FnExpires.S0 (p : (Int × Int × (List (Int)) × Int × Int × Int × Int × (List (Int × Int × Int)) × (List (Int × Int)) × (List (Int × Int × Int)) × (List (Int × Int)) × (List (Int)))) : DS := ⟨tl [(3, .at (.bptr 48 0)), (4, .at (.int .i64 p.1)), (5, .at (.bptr 80 0)), (6, .at (.whole 1444)), (7, .at (.int .i64 p.2.1))], lookO [(0, .row 5 (.int .u8) false p.2.2.1), (48, .box 50 [.int .i64 p.2.2.2.1, .int .i64 p.2.2.2.2.1, .whole 1440, .whole 1441]), (80, .box 50 [.int .i64 p.2.2.2.2.2.1, .int .i64 p.2.2.2.2.2.2.1, .whole 1442, .whole 1443]), (1440, .row 63 (.two (.int .i64) (.two (.int .i64) (.int .i64))) true p.2.2.2.2.2.2.2.1), (1441, .row 150 (.two (.int .i64) (.int .i64)) true p.2.2.2.2.2.2.2.2.1), (1442, .row 63 (.two (.int .i64) (.two (.int .i64) (.int .i64))) true p.2.2.2.2.2.2.2.2.2.1), (1443, .row 150 (.two (.int .i64) (.int .i64)) true p.2.2.2.2.2.2.2.2.2.2.1), (1444, .row 3 (.int .i64) true p.2.2.2.2.2.2.2.2.2.2.2)]⟩
noncomputable def laws_FnExpires.D0 (k : Nat) (j : Nat) (p : (Int × Int × (List (Int)) × Int × Int × Int × Int × (List (Int × Int × Int)) × (List (Int × Int)) × (List (Int × Int × Int)) × (List (Int × Int)) × (List (Int)))) : Option (Bool) := loopK (norm [0] (laws_FnExpires.h 0)) (runK laws_FnExpires.x k 0 [0] laws_FnExpires.h 0 (sub laws_FnExpires.c [1, 1, 1, 1, 1, 1, 0, 1, 0, 0])) j (laws_FnExpires.S0 p) (kBlk 0 (kSeq (runK laws_FnExpires.x k 0 [0] laws_FnExpires.h 0 (sub laws_FnExpires.c [1, 1, 1, 1, 1, 1, 1])) (fin tt laws_FnExpires.ps laws_FnExpires.rs laws_FnExpires.vs .bool)))
theorem laws_FnExpires.D0_eq (k : Nat) : ∀ j, laws_FnExpires.D0 k j = laws_FnExpires.l0 k j := by
  intro j
  induction j with
  | zero => rfl
  | succ j ih =>
    show _ = laws_FnExpires.s0 k (laws_FnExpires.l0 k j)
    rw [← ih]
    funext p
    kernel_rfl
def laws_FnExpires.f (k : Nat) (a0 : List (Int)) : Option (Bool) :=
  (laws_big.f k a0).bind fun r1 => (bif r1 then some true else (spec_DrawPool.f k a0).bind fun r2 => (spec_DrawPlaces.f k a0).bind fun r3 => (bif (true && (decide ((0 : Int) < (r3.length : Int)))) then (r3[0]?).bind fun x4 => (impl_Expire.f k r2.1 r2.2.1 r2.2.2.1 r2.2.2.2 (x4.tmod (60 : Int))).bind fun r5 => (impl_PoolOk.f k r5.1 r5.2.1 r5.2.2.1 r5.2.2.2.1).bind fun r6 => (bif (!r6) then some false else (bif ((IntKind.i64.wrap ((r5.2.2.1.length : Int) + (r5.2.2.2.2.length : Int))) != (r2.2.2.1.length : Int)) then some false else laws_FnExpires.l0 k k ((x4.tmod (60 : Int)), (0 : Int), a0, r2.1, r2.2.1, r5.1, r5.2.1, r2.2.2.1, r2.2.2.2, r5.2.2.1, r5.2.2.2.1, r5.2.2.2.2))) else none))
def laws_FnExpires.K : Ctr := ⟨laws_FnExpires.ps, laws_FnExpires.rs, false, (.sl 5 (.int .u8)), .bool, fun k x => laws_FnExpires.f k x⟩
theorem laws_FnExpires.eq (k : Nat) (x : (laws_FnExpires.K.I).den) : func laws_FnExpires.x laws_FnExpires.h laws_FnExpires.ps laws_FnExpires.rs laws_FnExpires.vs laws_FnExpires.K.I laws_FnExpires.K.O laws_FnExpires.c k x = laws_FnExpires.K.run k x := by
  show _ = laws_FnExpires.f k x
  unfold laws_FnExpires.f
  rw [← laws_FnExpires.D0_eq k k]
  kernel_rfl
theorem laws_FnExpires.ok : CtrOk Try.prog 5 laws_FnExpires.K :=
  CtrOk.of (fn := Try.f5) (cd := laws_FnExpires.c) (cx := laws_FnExpires.x) (hs := laws_FnExpires.h) (by kernel_rfl) (by kernel_rfl) (by kernel_rfl) (by kernel_rfl) tt_ok (envOk_cons laws_big.ok (envOk_cons spec_DrawPool.ok (envOk_cons spec_DrawPlaces.ok (envOk_cons impl_Expire.ok (envOk_cons impl_PoolOk.ok (envOk_cons laws_in.ok (envOk_cons impl_HolderOf.ok (envOk_cons laws_samePool.ok (envOk_nil))))))))) (by kernel_rfl) (by kernel_rfl) (by kernel_rfl) (by kernel_rfl) fun k x r h => (laws_FnExpires.eq k x).trans h
end Go.Proofs.Ytfaeklomiofpdaa.DI
