/- FnGrants: functions as plain Lean, in the machine of values. -/
import Derived.Test.YtfaeklomiofpdaaVFnGrants4
namespace Go.Proofs.Ytfaeklomiofpdaa.DI
open Go
set_option linter.unusedVariables false
/-! impl.addrFor -/
noncomputable def impl_addrFor.c : Code := bodyOf Try.f96
def impl_addrFor.h : Nat → Hint := look ⟨[], [], []⟩ [(0, ⟨[1, 2, 9, 10, 11], [32], []⟩), (2, ⟨[2, 7], [32], []⟩)]
def impl_addrFor.ps : List PK := [.agg 4, .one]
def impl_addrFor.rs : List RK := [.one true]
def impl_addrFor.vs : List ResultVar := [.tmp 4]
def impl_addrFor.x : Cx := ⟨tt, look none [(91, some impl_isHost.K), (36, some impl_HolderOf.K), (92, some impl_fixedFor.K)]⟩
def impl_addrFor.s2 (k : Nat) (rec2 : (Int × (List (Int × Int × Int)) × (List (Int × Int)) × Int × Int) → Option (Int)) (p : (Int × (List (Int × Int × Int)) × (List (Int × Int)) × Int × Int)) : Option (Int) :=
  (impl_isHost.f k p.2.2.2.1 p.2.2.2.2 p.1).bind fun r2 => (bif r2 then (impl_HolderOf.f k p.2.2.2.1 p.2.2.2.2 p.2.1 p.2.2.1 p.1).bind fun r3 => (bif (r3 == (0 : Int)) then (impl_fixedFor.f k p.2.2.2.1 p.2.2.2.2 p.2.1 p.2.2.1 p.1).bind fun r4 => (bif (r4 == (0 : Int)) then some p.1 else rec2 ((IntKind.i64.wrap (p.1 + (1 : Int))), p.2.1, p.2.2.1, p.2.2.2.1, p.2.2.2.2)) else rec2 ((IntKind.i64.wrap (p.1 + (1 : Int))), p.2.1, p.2.2.1, p.2.2.2.1, p.2.2.2.2)) else some (-1 : Int))
def impl_addrFor.l2 (k : Nat) : Nat → (Int × (List (Int × Int × Int)) × (List (Int × Int)) × Int × Int) → Option (Int)
  | 0 => fun _ => none
  | j + 1 => impl_addrFor.s2 k (impl_addrFor.l2 k j)
def impl_addrFor.s0 (_k : Nat) (rec0 : (Int × Int × Int × (List (Int × Int × Int)) × (List (Int × Int)) × Int × Int) → Option (Int)) (i2 : (Int × (List (Int × Int × Int)) × (List (Int × Int)) × Int × Int) → Option (Int)) (p : (Int × Int × Int × (List (Int × Int × Int)) × (List (Int × Int)) × Int × Int)) : Option (Int) :=
  (bif (decide (p.2.2.1 < p.2.1)) then (bif ((decide ((0 : Int) ≤ p.2.2.1)) && (decide (p.2.2.1 < (p.2.2.2.2.1.length : Int)))) then (p.2.2.2.2.1[p.2.2.1.toNat]?).bind fun x1 => (bif (x1.1 == p.1) then some x1.2 else rec0 (p.1, p.2.1, (IntKind.i64.wrap (p.2.2.1 + (1 : Int))), p.2.2.2.1, p.2.2.2.2.1, p.2.2.2.2.2.1, p.2.2.2.2.2.2)) else none) else i2 ((IntKind.i64.wrap (p.2.2.2.2.2.1 + (1 : Int))), p.2.2.2.1, p.2.2.2.2.1, p.2.2.2.2.2.1, p.2.2.2.2.2.2))
def impl_addrFor.l0 (k : Nat) : Nat → (Int × Int × Int × (List (Int × Int × Int)) × (List (Int × Int)) × Int × Int) → Option (Int)
  | 0 => fun _ => none
  | j + 1 => impl_addrFor.s0 k (impl_addrFor.l0 k j) (impl_addrFor.l2 k k)
def impl_addrFor.S2 (p : (Int × (List (Int × Int × Int)) × (List (Int × Int)) × Int × Int)) : DS := ⟨tl [(2, .at (.bptr 32 0)), (7, .at (.int .i64 p.1))], lookO [(2, .row 63 (.two (.int .i64) (.two (.int .i64) (.int .i64))) false p.2.1), (3, .row 150 (.two (.int .i64) (.int .i64)) false p.2.2.1), (32, .box 50 [.int .i64 p.2.2.2.1, .int .i64 p.2.2.2.2, .whole 2, .whole 3])]⟩
def impl_addrFor.S0 (p : (Int × Int × Int × (List (Int × Int × Int)) × (List (Int × Int)) × Int × Int)) : DS := ⟨tl [(1, .at (.int .i64 p.1)), (2, .at (.bptr 32 0)), (9, .at (.whole 3)), (10, .at (.int .i64 p.2.1)), (11, .at (.int .i64 p.2.2.1))], lookO [(2, .row 63 (.two (.int .i64) (.two (.int .i64) (.int .i64))) false p.2.2.2.1), (3, .row 150 (.two (.int .i64) (.int .i64)) false p.2.2.2.2.1), (32, .box 50 [.int .i64 p.2.2.2.2.2.1, .int .i64 p.2.2.2.2.2.2, .whole 2, .whole 3])]⟩
noncomputable def impl_addrFor.D2 (k : Nat) (j : Nat) (p : (Int × (List (Int × Int × Int)) × (List (Int × Int)) × Int × Int)) : Option (Int) := loopK (norm [2, 3] (impl_addrFor.h 2)) (runK impl_addrFor.x k 0 [2, 3] impl_addrFor.h 2 (sub impl_addrFor.c [1, 1, 0, 1, 0, 0])) j (impl_addrFor.S2 p) (kBlk 2 (kSeq (runK impl_addrFor.x k 0 [2, 3] impl_addrFor.h 0 (sub impl_addrFor.c [1, 1, 1])) (fin tt impl_addrFor.ps impl_addrFor.rs impl_addrFor.vs (.int .i64))))
noncomputable def impl_addrFor.D0 (k : Nat) (j : Nat) (p : (Int × Int × Int × (List (Int × Int × Int)) × (List (Int × Int)) × Int × Int)) : Option (Int) := loopK (norm [2, 3] (impl_addrFor.h 0)) (runK impl_addrFor.x k 0 [2, 3] impl_addrFor.h 0 (sub impl_addrFor.c [1, 0, 1, 0, 0])) j (impl_addrFor.S0 p) (kBlk 0 (kSeq (runK impl_addrFor.x k 0 [2, 3] impl_addrFor.h 0 (sub impl_addrFor.c [1, 1])) (fin tt impl_addrFor.ps impl_addrFor.rs impl_addrFor.vs (.int .i64))))
theorem impl_addrFor.D2_eq (k : Nat) : ∀ j, impl_addrFor.D2 k j = impl_addrFor.l2 k j := by
  intro j
  induction j with
  | zero => rfl
  | succ j ih =>
    show _ = impl_addrFor.s2 k (impl_addrFor.l2 k j)
    rw [← ih]
    funext p
    kernel_rfl
theorem impl_addrFor.D0_eq (k : Nat) : ∀ j, impl_addrFor.D0 k j = impl_addrFor.l0 k j := by
  intro j
  induction j with
  | zero => rfl
  | succ j ih =>
    show _ = impl_addrFor.s0 k (impl_addrFor.l0 k j) (impl_addrFor.l2 k k)
    rw [← ih, ← impl_addrFor.D2_eq k k]
    funext p
    kernel_rfl
def impl_addrFor.f (k : Nat) (a0_0 : Int) (a0_1 : Int) (a0_2 : List (Int × Int × Int)) (a0_3 : List (Int × Int)) (a1 : Int) : Option (Int) :=
  impl_addrFor.l0 k k (a1, (a0_3.length : Int), (0 : Int), a0_2, a0_3, a0_0, a0_1)
def impl_addrFor.K : Ctr := ⟨impl_addrFor.ps, impl_addrFor.rs, false, (.two (.int .i64) (.two (.int .i64) (.two (.sl 63 (.two (.int .i64) (.two (.int .i64) (.int .i64)))) (.two (.sl 150 (.two (.int .i64) (.int .i64))) (.int .i64))))), (.int .i64), fun k x => impl_addrFor.f k x.1 x.2.1 x.2.2.1 x.2.2.2.1 x.2.2.2.2⟩
theorem impl_addrFor.eq (k : Nat) (x : (impl_addrFor.K.I).den) : func impl_addrFor.x impl_addrFor.h impl_addrFor.ps impl_addrFor.rs impl_addrFor.vs impl_addrFor.K.I impl_addrFor.K.O impl_addrFor.c k x = impl_addrFor.K.run k x := by
  show _ = impl_addrFor.f k x.1 x.2.1 x.2.2.1 x.2.2.2.1 x.2.2.2.2
  unfold impl_addrFor.f
  rw [← impl_addrFor.D0_eq k k]
  kernel_rfl
theorem impl_addrFor.ok : CtrOk Try.prog 96 impl_addrFor.K :=
  CtrOk.of (fn := Try.f96) (cd := impl_addrFor.c) (cx := impl_addrFor.x) (hs := impl_addrFor.h) (by kernel_rfl) (by kernel_rfl) (by kernel_rfl) (by kernel_rfl) tt_ok (envOk_cons impl_isHost.ok (envOk_cons impl_HolderOf.ok (envOk_cons impl_fixedFor.ok (envOk_nil)))) (by kernel_rfl) (by kernel_rfl) (by kernel_rfl) (by kernel_rfl) fun k x r h => (impl_addrFor.eq k x).trans h
/-! slices.Insert[[]impl.Lease,impl.Lease] -/
def slices_Insert_impl_Lease_impl_Lease.f (_k : Nat) (a0 : List (Int × Int × Int)) (a1 : Int) (a2 : List (Int × Int × Int)) : Option (List (Int × Int × Int)) :=
  if (0 ≤ a1 ∧ a1 ≤ (List.length a0 : Int)) ∧ (0 < List.length a2 ∧ (List.length a0 + List.length a2) * 24 ≤ 140737488355328) then some (List.take a1.toNat a0 ++ a2 ++ List.drop a1.toNat a0) else none
def slices_Insert_impl_Lease_impl_Lease.K : Ctr := ⟨[.give, .one, .give], [.one true], true, (.two (.sl 63 (.two (.int .i64) (.two (.int .i64) (.int .i64)))) (.two (.int .i64) (.sl 63 (.two (.int .i64) (.two (.int .i64) (.int .i64)))))), (.sl 63 (.two (.int .i64) (.two (.int .i64) (.int .i64)))), fun k x => slices_Insert_impl_Lease_impl_Lease.f k x.1 x.2.1 x.2.2⟩
theorem slices_Insert_impl_Lease_impl_Lease.ok : CtrOk Try.prog 97 slices_Insert_impl_Lease_impl_Lease.K := CtrOk.ins ins97.roads ti47 rfl ti63 (by decide)
/-! impl.Grant -/
noncomputable def impl_Grant.c : Code := bodyOf Try.f40
def impl_Grant.h : Nat → Hint := look ⟨[], [], []⟩ [(0, ⟨[1, 2, 6, 9, 11, 12], [96, 144], [(.b 96 2, 1440, 63, (.two (.int .i64) (.two (.int .i64) (.int .i64)))), (.b 96 3, 1441, 150, (.two (.int .i64) (.int .i64))), (.b 144 2, 1442, 63, (.two (.int .i64) (.two (.int .i64) (.int .i64)))), (.b 144 3, 1443, 150, (.two (.int .i64) (.int .i64)))]⟩)]
def impl_Grant.ps : List PK := [.agg 4, .one, .one]
def impl_Grant.rs : List RK := [.agg 4 true, .one true, .one true]
def impl_Grant.vs : List ResultVar := [.cell 6 50, .tmp 7, .tmp 8]
def impl_Grant.x : Cx := ⟨tt, look none [(79, some impl_copyPool.K), (34, some impl_PoolOk.K), (70, some impl_isId.K), (89, some impl_within.K), (93, some impl_leaseOf.K), (96, some impl_addrFor.K), (97, some slices_Insert_impl_Lease_impl_Lease.K)]⟩
def impl_Grant.s0 (k : Nat) (rec0 : (Int × Int × Int × Int × (List (Int × Int × Int)) × (List (Int × Int)) × Int × Int × Int × Int × (List (Int × Int × Int)) × (List (Int × Int)) × (List (Int × Int × Int)) × (List (Int × Int))) → Option (Int × Int × (List (Int × Int × Int)) × (List (Int × Int)) × Int × Bool)) (p : (Int × Int × Int × Int × (List (Int × Int × Int)) × (List (Int × Int)) × Int × Int × Int × Int × (List (Int × Int × Int)) × (List (Int × Int)) × (List (Int × Int × Int)) × (List (Int × Int)))) : Option (Int × Int × (List (Int × Int × Int)) × (List (Int × Int)) × Int × Bool) :=
  (bif (decide (p.2.2.2.1 < (p.2.2.2.2.2.2.2.2.2.2.2.2.1.length : Int))) then (bif ((decide ((0 : Int) ≤ p.2.2.2.1)) && (decide (p.2.2.2.1 < (p.2.2.2.2.2.2.2.2.2.2.2.2.1.length : Int)))) then (p.2.2.2.2.2.2.2.2.2.2.2.2.1[p.2.2.2.1.toNat]?).bind fun x9 => (bif (decide (x9.1 < p.2.2.1)) then rec0 (p.1, p.2.1, p.2.2.1, (IntKind.i64.wrap (p.2.2.2.1 + (1 : Int))), p.2.2.2.2.1, p.2.2.2.2.2.1, p.2.2.2.2.2.2.1, p.2.2.2.2.2.2.2.1, p.2.2.2.2.2.2.2.2.1, p.2.2.2.2.2.2.2.2.2.1, p.2.2.2.2.2.2.2.2.2.2.1, p.2.2.2.2.2.2.2.2.2.2.2.1, p.2.2.2.2.2.2.2.2.2.2.2.2.1, p.2.2.2.2.2.2.2.2.2.2.2.2.2) else (slices_Insert_impl_Lease_impl_Lease.f k p.2.2.2.2.2.2.2.2.2.2.2.2.1 p.2.2.2.1 [(p.2.2.1, p.1, (IntKind.i64.wrap (p.2.1 + (20 : Int))))]).bind fun r10 => some (p.2.2.2.2.2.2.2.2.1, p.2.2.2.2.2.2.2.2.2.1, r10, p.2.2.2.2.2.2.2.2.2.2.2.2.2, p.2.2.1, true)) else none) else (slices_Insert_impl_Lease_impl_Lease.f k p.2.2.2.2.2.2.2.2.2.2.2.2.1 p.2.2.2.1 [(p.2.2.1, p.1, (IntKind.i64.wrap (p.2.1 + (20 : Int))))]).bind fun r11 => some (p.2.2.2.2.2.2.2.2.1, p.2.2.2.2.2.2.2.2.2.1, r11, p.2.2.2.2.2.2.2.2.2.2.2.2.2, p.2.2.1, true))
def impl_Grant.l0 (k : Nat) : Nat → (Int × Int × Int × Int × (List (Int × Int × Int)) × (List (Int × Int)) × Int × Int × Int × Int × (List (Int × Int × Int)) × (List (Int × Int)) × (List (Int × Int × Int)) × (List (Int × Int))) → Option (Int × Int × (List (Int × Int × Int)) × (List (Int × Int)) × Int × Bool)
  | 0 => fun _ => none
  | j + 1 => impl_Grant.s0 k (impl_Grant.l0 k j)
def impl_Grant.S0 (p : (Int × Int × Int × Int × (List (Int × Int × Int)) × (List (Int × Int)) × Int × Int × Int × Int × (List (Int × Int × Int)) × (List (Int × Int)) × (List (Int × Int × Int)) × (List (Int × Int)))) : DS := ⟨tl [(1, .at (.int .i64 p.1)), (2, .at (.int .i64 p.2.1)), (6, .at (.bptr 96 0)), (9, .at (.bptr 144 0)), (11, .at (.int .i64 p.2.2.1)), (12, .at (.int .i64 p.2.2.2.1))], lookO [(2, .row 63 (.two (.int .i64) (.two (.int .i64) (.int .i64))) false p.2.2.2.2.1), (3, .row 150 (.two (.int .i64) (.int .i64)) false p.2.2.2.2.2.1), (96, .box 50 [.int .i64 p.2.2.2.2.2.2.1, .int .i64 p.2.2.2.2.2.2.2.1, .whole 1440, .whole 1441]), (144, .box 50 [.int .i64 p.2.2.2.2.2.2.2.2.1, .int .i64 p.2.2.2.2.2.2.2.2.2.1, .whole 1442, .whole 1443]), (1440, .row 63 (.two (.int .i64) (.two (.int .i64) (.int .i64))) true p.2.2.2.2.2.2.2.2.2.2.1), (1441, .row 150 (.two (.int .i64) (.int .i64)) true p.2.2.2.2.2.2.2.2.2.2.2.1), (1442, .row 63 (.two (.int .i64) (.two (.int .i64) (.int .i64))) true p.2.2.2.2.2.2.2.2.2.2.2.2.1), (1443, .row 150 (.two (.int .i64) (.int .i64)) true p.2.2.2.2.2.2.2.2.2.2.2.2.2)]⟩
noncomputable def impl_Grant.D0 (k : Nat) (j : Nat) (p : (Int × Int × Int × Int × (List (Int × Int × Int)) × (List (Int × Int)) × Int × Int × Int × Int × (List (Int × Int × Int)) × (List (Int × Int)) × (List (Int × Int × Int)) × (List (Int × Int)))) : Option (Int × Int × (List (Int × Int × Int)) × (List (Int × Int)) × Int × Bool) := loopK (norm [2, 3] (impl_Grant.h 0)) (runK impl_Grant.x k 0 [2, 3] impl_Grant.h 0 (sub impl_Grant.c [1, 1, 1, 1, 1, 1, 1, 1, 0, 0, 0])) j (impl_Grant.S0 p) (kBlk 0 (kSeq (runK impl_Grant.x k 0 [2, 3] impl_Grant.h 0 (sub impl_Grant.c [1, 1, 1, 1, 1, 1, 1, 1, 1])) (fin tt impl_Grant.ps impl_Grant.rs impl_Grant.vs (.two (.int .i64) (.two (.int .i64) (.two (.sl 63 (.two (.int .i64) (.two (.int .i64) (.int .i64)))) (.two (.sl 150 (.two (.int .i64) (.int .i64))) (.two (.int .i64) .bool))))))))
theorem impl_Grant.D0_eq (k : Nat) : ∀ j, impl_Grant.D0 k j = impl_Grant.l0 k j := by
  intro j
  induction j with
  | zero => rfl
  | succ j ih =>
    show _ = impl_Grant.s0 k (impl_Grant.l0 k j)
    rw [← ih]
    funext p
    kernel_rfl
def impl_Grant.f (k : Nat) (a0_0 : Int) (a0_1 : Int) (a0_2 : List (Int × Int × Int)) (a0_3 : List (Int × Int)) (a1 : Int) (a2 : Int) : Option (Int × Int × (List (Int × Int × Int)) × (List (Int × Int)) × Int × Bool) :=
  (impl_copyPool.f k a0_0 a0_1 a0_2 a0_3).bind fun r1 => (impl_PoolOk.f k a0_0 a0_1 a0_2 a0_3).bind fun r2 => (bif (!r2) then some (r1.1, r1.2.1, r1.2.2.1, r1.2.2.2, (0 : Int), false) else (impl_isId.f k a1).bind fun r3 => (bif (!r3) then some (r1.1, r1.2.1, r1.2.2.1, r1.2.2.2, (0 : Int), false) else (impl_within.f k a2 (0 : Int) (999999980 : Int)).bind fun r4 => (bif (!r4) then some (r1.1, r1.2.1, r1.2.2.1, r1.2.2.2, (0 : Int), false) else (impl_leaseOf.f k a0_0 a0_1 a0_2 a0_3 a1).bind fun r5 => (bif (decide (r5 ≥ (0 : Int))) then (bif ((decide ((0 : Int) ≤ r5)) && (decide (r5 < (r1.2.2.1.length : Int)))) then (r1.2.2.1[r5.toNat]?).bind fun x6 => (bif ((decide ((0 : Int) ≤ r5)) && (decide (r5 < (a0_2.length : Int)))) then (a0_2[r5.toNat]?).bind fun x7 => some (r1.1, r1.2.1, (r1.2.2.1.set r5.toNat (x6.1, x6.2.1, (IntKind.i64.wrap (a2 + (20 : Int))))), r1.2.2.2, x7.1, true) else none) else none) else (impl_addrFor.f k a0_0 a0_1 a0_2 a0_3 a1).bind fun r8 => (bif (decide ((a0_2.length : Int) ≥ (6 : Int))) then some (r1.1, r1.2.1, r1.2.2.1, r1.2.2.2, (0 : Int), false) else (bif (decide (r8 < (0 : Int))) then some (r1.1, r1.2.1, r1.2.2.1, r1.2.2.2, (0 : Int), false) else impl_Grant.l0 k k (a1, a2, r8, (0 : Int), a0_2, a0_3, (0 : Int), (0 : Int), r1.1, r1.2.1, ([] : List (Int × Int × Int)), ([] : List (Int × Int)), r1.2.2.1, r1.2.2.2)))))))
def impl_Grant.K : Ctr := ⟨impl_Grant.ps, impl_Grant.rs, false, (.two (.int .i64) (.two (.int .i64) (.two (.sl 63 (.two (.int .i64) (.two (.int .i64) (.int .i64)))) (.two (.sl 150 (.two (.int .i64) (.int .i64))) (.two (.int .i64) (.int .i64)))))), (.two (.int .i64) (.two (.int .i64) (.two (.sl 63 (.two (.int .i64) (.two (.int .i64) (.int .i64)))) (.two (.sl 150 (.two (.int .i64) (.int .i64))) (.two (.int .i64) .bool))))), fun k x => impl_Grant.f k x.1 x.2.1 x.2.2.1 x.2.2.2.1 x.2.2.2.2.1 x.2.2.2.2.2⟩
theorem impl_Grant.eq (k : Nat) (x : (impl_Grant.K.I).den) : func impl_Grant.x impl_Grant.h impl_Grant.ps impl_Grant.rs impl_Grant.vs impl_Grant.K.I impl_Grant.K.O impl_Grant.c k x = impl_Grant.K.run k x := by
  show _ = impl_Grant.f k x.1 x.2.1 x.2.2.1 x.2.2.2.1 x.2.2.2.2.1 x.2.2.2.2.2
  unfold impl_Grant.f
  rw [← impl_Grant.D0_eq k k]
  kernel_rfl
theorem impl_Grant.ok : CtrOk Try.prog 40 impl_Grant.K :=
  CtrOk.of (fn := Try.f40) (cd := impl_Grant.c) (cx := impl_Grant.x) (hs := impl_Grant.h) (by kernel_rfl) (by kernel_rfl) (by kernel_rfl) (by kernel_rfl) tt_ok (envOk_cons impl_copyPool.ok (envOk_cons impl_PoolOk.ok (envOk_cons impl_isId.ok (envOk_cons impl_within.ok (envOk_cons impl_leaseOf.ok (envOk_cons impl_addrFor.ok (envOk_cons slices_Insert_impl_Lease_impl_Lease.ok (envOk_nil)))))))) (by kernel_rfl) (by kernel_rfl) (by kernel_rfl) (by kernel_rfl) fun k x r h => (impl_Grant.eq k x).trans h
/-! laws.samePool -/
noncomputable def laws_samePool.c : Code := bodyOf Try.f37
def laws_samePool.h : Nat → Hint := look ⟨[], [], []⟩ [(0, ⟨[2, 3, 5], [32, 48], []⟩)]
def laws_samePool.ps : List PK := [.agg 4, .agg 4]
def laws_samePool.rs : List RK := [.one true]
def laws_samePool.vs : List ResultVar := [.tmp 4]
def laws_samePool.x : Cx := ⟨tt, look none []⟩
def laws_samePool.s0 (_k : Nat) (rec0 : (Int × (List (Int × Int × Int)) × (List (Int × Int)) × (List (Int × Int × Int)) × (List (Int × Int)) × Int × Int × Int × Int) → Option (Bool)) (p : (Int × (List (Int × Int × Int)) × (List (Int × Int)) × (List (Int × Int × Int)) × (List (Int × Int)) × Int × Int × Int × Int)) : Option (Bool) :=
  (bif (decide (p.1 < (p.2.1.length : Int))) then (bif ((decide ((0 : Int) ≤ p.1)) && (decide (p.1 < (p.2.1.length : Int)))) then (p.2.1[p.1.toNat]?).bind fun x1 => (bif ((decide ((0 : Int) ≤ p.1)) && (decide (p.1 < (p.2.2.2.1.length : Int)))) then (p.2.2.2.1[p.1.toNat]?).bind fun x2 => (bif (!((x1.1 == x2.1) && ((x1.2.1 == x2.2.1) && (x1.2.2 == x2.2.2)))) then some false else rec0 ((IntKind.i64.wrap (p.1 + (1 : Int))), p.2.1, p.2.2.1, p.2.2.2.1, p.2.2.2.2.1, p.2.2.2.2.2.1, p.2.2.2.2.2.2.1, p.2.2.2.2.2.2.2.1, p.2.2.2.2.2.2.2.2)) else none) else none) else some true)
def laws_samePool.l0 (k : Nat) : Nat → (Int × (List (Int × Int × Int)) × (List (Int × Int)) × (List (Int × Int × Int)) × (List (Int × Int)) × Int × Int × Int × Int) → Option (Bool)
  | 0 => fun _ => none
  | j + 1 => laws_samePool.s0 k (laws_samePool.l0 k j)
def laws_samePool.S0 (p : (Int × (List (Int × Int × Int)) × (List (Int × Int)) × (List (Int × Int × Int)) × (List (Int × Int)) × Int × Int × Int × Int)) : DS := ⟨tl [(2, .at (.bptr 32 0)), (3, .at (.bptr 48 0)), (5, .at (.int .i64 p.1))], lookO [(2, .row 63 (.two (.int .i64) (.two (.int .i64) (.int .i64))) false p.2.1), (3, .row 150 (.two (.int .i64) (.int .i64)) false p.2.2.1), (18, .row 63 (.two (.int .i64) (.two (.int .i64) (.int .i64))) false p.2.2.2.1), (19, .row 150 (.two (.int .i64) (.int .i64)) false p.2.2.2.2.1), (32, .box 50 [.int .i64 p.2.2.2.2.2.1, .int .i64 p.2.2.2.2.2.2.1, .whole 2, .whole 3]), (48, .box 50 [.int .i64 p.2.2.2.2.2.2.2.1, .int .i64 p.2.2.2.2.2.2.2.2, .whole 18, .whole 19])]⟩
noncomputable def laws_samePool.D0 (k : Nat) (j : Nat) (p : (Int × (List (Int × Int × Int)) × (List (Int × Int)) × (List (Int × Int × Int)) × (List (Int × Int)) × Int × Int × Int × Int)) : Option (Bool) := loopK (norm [2, 3, 18, 19] (laws_samePool.h 0)) (runK laws_samePool.x k 0 [2, 3, 18, 19] laws_samePool.h 0 (sub laws_samePool.c [1, 1, 0, 1, 0, 0])) j (laws_samePool.S0 p) (kBlk 0 (kSeq (runK laws_samePool.x k 0 [2, 3, 18, 19] laws_samePool.h 0 (sub laws_samePool.c [1, 1, 1])) (fin tt laws_samePool.ps laws_samePool.rs laws_samePool.vs .bool)))
theorem laws_samePool.D0_eq (k : Nat) : ∀ j, laws_samePool.D0 k j = laws_samePool.l0 k j := by
  intro j
  induction j with
  | zero => rfl
  | succ j ih =>
    show _ = laws_samePool.s0 k (laws_samePool.l0 k j)
    rw [← ih]
    funext p
    kernel_rfl
def laws_samePool.f (k : Nat) (a0_0 : Int) (a0_1 : Int) (a0_2 : List (Int × Int × Int)) (a0_3 : List (Int × Int)) (a1_0 : Int) (a1_1 : Int) (a1_2 : List (Int × Int × Int)) (a1_3 : List (Int × Int)) : Option (Bool) :=
  (bif (!((a0_0 == a1_0) && (a0_1 == a1_1))) then some false else (bif ((a0_2.length : Int) != (a1_2.length : Int)) then some false else (bif ((a0_3.length : Int) != (a1_3.length : Int)) then some false else laws_samePool.l0 k k ((0 : Int), a0_2, a0_3, a1_2, a1_3, a0_0, a0_1, a1_0, a1_1))))
def laws_samePool.K : Ctr := ⟨laws_samePool.ps, laws_samePool.rs, false, (.two (.int .i64) (.two (.int .i64) (.two (.sl 63 (.two (.int .i64) (.two (.int .i64) (.int .i64)))) (.two (.sl 150 (.two (.int .i64) (.int .i64))) (.two (.int .i64) (.two (.int .i64) (.two (.sl 63 (.two (.int .i64) (.two (.int .i64) (.int .i64)))) (.sl 150 (.two (.int .i64) (.int .i64)))))))))), .bool, fun k x => laws_samePool.f k x.1 x.2.1 x.2.2.1 x.2.2.2.1 x.2.2.2.2.1 x.2.2.2.2.2.1 x.2.2.2.2.2.2.1 x.2.2.2.2.2.2.2⟩
theorem laws_samePool.eq (k : Nat) (x : (laws_samePool.K.I).den) : func laws_samePool.x laws_samePool.h laws_samePool.ps laws_samePool.rs laws_samePool.vs laws_samePool.K.I laws_samePool.K.O laws_samePool.c k x = laws_samePool.K.run k x := by
  show _ = laws_samePool.f k x.1 x.2.1 x.2.2.1 x.2.2.2.1 x.2.2.2.2.1 x.2.2.2.2.2.1 x.2.2.2.2.2.2.1 x.2.2.2.2.2.2.2
  unfold laws_samePool.f
  rw [← laws_samePool.D0_eq k k]
  kernel_rfl
theorem laws_samePool.ok : CtrOk Try.prog 37 laws_samePool.K :=
  CtrOk.of (fn := Try.f37) (cd := laws_samePool.c) (cx := laws_samePool.x) (hs := laws_samePool.h) (by kernel_rfl) (by kernel_rfl) (by kernel_rfl) (by kernel_rfl) tt_ok (envOk_nil) (by kernel_rfl) (by kernel_rfl) (by kernel_rfl) (by kernel_rfl) fun k x r h => (laws_samePool.eq k x).trans h
/-! slices.Delete[[]impl.Lease,impl.Lease] -/
def slices_Delete_impl_Lease_impl_Lease.f (_k : Nat) (a0 : List (Int × Int × Int)) (a1 : Int) (a2 : Int) : Option (List (Int × Int × Int)) :=
  if (0 ≤ a1 ∧ a1 < a2) ∧ (a2 ≤ (List.length a0 : Int) ∧ List.length a0 ≤ 9223372036854775807) then some (List.take a1.toNat a0 ++ List.drop a2.toNat a0) else none
def slices_Delete_impl_Lease_impl_Lease.K : Ctr := ⟨[.give, .one, .one], [.one true], true, (.two (.sl 63 (.two (.int .i64) (.two (.int .i64) (.int .i64)))) (.two (.int .i64) (.int .i64))), (.sl 63 (.two (.int .i64) (.two (.int .i64) (.int .i64)))), fun k x => slices_Delete_impl_Lease_impl_Lease.f k x.1 x.2.1 x.2.2⟩
theorem slices_Delete_impl_Lease_impl_Lease.ok : CtrOk Try.prog 95 slices_Delete_impl_Lease_impl_Lease.K := CtrOk.del del95.roads ti47 rfl ti63 rfl
/-! impl.Release -/
noncomputable def impl_Release.c : Code := bodyOf Try.f39
def impl_Release.h : Nat → Hint := look ⟨[], [], []⟩ []
def impl_Release.ps : List PK := [.agg 4, .one]
def impl_Release.rs : List RK := [.agg 4 true, .one true]
def impl_Release.vs : List ResultVar := [.cell 4 50, .tmp 5]
def impl_Release.x : Cx := ⟨tt, look none [(79, some impl_copyPool.K), (93, some impl_leaseOf.K), (34, some impl_PoolOk.K), (95, some slices_Delete_impl_Lease_impl_Lease.K)]⟩
def impl_Release.f (k : Nat) (a0_0 : Int) (a0_1 : Int) (a0_2 : List (Int × Int × Int)) (a0_3 : List (Int × Int)) (a1 : Int) : Option (Int × Int × (List (Int × Int × Int)) × (List (Int × Int)) × Bool) :=
  (impl_copyPool.f k a0_0 a0_1 a0_2 a0_3).bind fun r1 => (impl_leaseOf.f k a0_0 a0_1 a0_2 a0_3 a1).bind fun r2 => (impl_PoolOk.f k a0_0 a0_1 a0_2 a0_3).bind fun r3 => (bif (!r3) then some (r1.1, r1.2.1, r1.2.2.1, r1.2.2.2, false) else (bif (decide (r2 < (0 : Int))) then some (r1.1, r1.2.1, r1.2.2.1, r1.2.2.2, false) else (slices_Delete_impl_Lease_impl_Lease.f k r1.2.2.1 r2 (IntKind.i64.wrap (r2 + (1 : Int)))).bind fun r4 => some (r1.1, r1.2.1, r4, r1.2.2.2, true)))
def impl_Release.K : Ctr := ⟨impl_Release.ps, impl_Release.rs, false, (.two (.int .i64) (.two (.int .i64) (.two (.sl 63 (.two (.int .i64) (.two (.int .i64) (.int .i64)))) (.two (.sl 150 (.two (.int .i64) (.int .i64))) (.int .i64))))), (.two (.int .i64) (.two (.int .i64) (.two (.sl 63 (.two (.int .i64) (.two (.int .i64) (.int .i64)))) (.two (.sl 150 (.two (.int .i64) (.int .i64))) .bool)))), fun k x => impl_Release.f k x.1 x.2.1 x.2.2.1 x.2.2.2.1 x.2.2.2.2⟩
theorem impl_Release.eq (k : Nat) (x : (impl_Release.K.I).den) : func impl_Release.x impl_Release.h impl_Release.ps impl_Release.rs impl_Release.vs impl_Release.K.I impl_Release.K.O impl_Release.c k x = impl_Release.K.run k x := by
  show _ = impl_Release.f k x.1 x.2.1 x.2.2.1 x.2.2.2.1 x.2.2.2.2
  kernel_rfl
theorem impl_Release.ok : CtrOk Try.prog 39 impl_Release.K :=
  CtrOk.of (fn := Try.f39) (cd := impl_Release.c) (cx := impl_Release.x) (hs := impl_Release.h) (by kernel_rfl) (by kernel_rfl) (by kernel_rfl) (by kernel_rfl) tt_ok (envOk_cons impl_copyPool.ok (envOk_cons impl_leaseOf.ok (envOk_cons impl_PoolOk.ok (envOk_cons slices_Delete_impl_Lease_impl_Lease.ok (envOk_nil))))) (by kernel_rfl) (by kernel_rfl) (by kernel_rfl) (by kernel_rfl) fun k x r h => (impl_Release.eq k x).trans h
/-! laws.FnGrants -/
noncomputable def laws_FnGrants.c : Code := bodyOf Try.f7
def laws_FnGrants.h : Nat → Hint := look ⟨[], [], []⟩ [(0, ⟨[3, 5, 6, 7, 12, 13, 14, 15, 16, 17], [48, 96, 192, 240], [(.b 48 2, 2384, 63, (.two (.int .i64) (.two (.int .i64) (.int .i64)))), (.b 48 3, 2385, 150, (.two (.int .i64) (.int .i64))), (.b 96 2, 2386, 63, (.two (.int .i64) (.two (.int .i64) (.int .i64)))), (.b 96 3, 2387, 150, (.two (.int .i64) (.int .i64))), (.b 192 2, 2388, 63, (.two (.int .i64) (.two (.int .i64) (.int .i64)))), (.b 192 3, 2389, 150, (.two (.int .i64) (.int .i64))), (.b 240 2, 2390, 63, (.two (.int .i64) (.two (.int .i64) (.int .i64)))), (.b 240 3, 2391, 150, (.two (.int .i64) (.int .i64)))]⟩)]
def laws_FnGrants.ps : List PK := [.one]
def laws_FnGrants.rs : List RK := [.one true]
def laws_FnGrants.vs : List ResultVar := [.tmp 2]
def laws_FnGrants.x : Cx := ⟨tt, look none [(12, some laws_big.K), (32, some spec_DrawPool.K), (33, some spec_DrawPlaces.K), (40, some impl_Grant.K), (41, some spec_Grant.K), (37, some laws_samePool.K), (34, some impl_PoolOk.K), (39, some impl_Release.K), (36, some impl_HolderOf.K), (42, some spec_InPrefix.K)]⟩
def laws_FnGrants.s0 (k : Nat) (rec0 : (Int × Int × Int × Bool × Bool × Int × (List (Int)) × Int × Int × Int × Int × Int × Int × Int × Int × (List (Int × Int × Int)) × (List (Int × Int)) × (List (Int × Int × Int)) × (List (Int × Int)) × (List (Int × Int × Int)) × (List (Int × Int)) × (List (Int × Int × Int)) × (List (Int × Int))) → Option (Bool)) (p : (Int × Int × Int × Bool × Bool × Int × (List (Int)) × Int × Int × Int × Int × Int × Int × Int × Int × (List (Int × Int × Int)) × (List (Int × Int)) × (List (Int × Int × Int)) × (List (Int × Int)) × (List (Int × Int × Int)) × (List (Int × Int)) × (List (Int × Int × Int)) × (List (Int × Int)))) : Option (Bool) :=
  (bif (decide (p.2.2.2.2.2.1 < (p.2.2.2.2.2.2.2.2.2.2.2.2.2.2.2.1.length : Int))) then (bif ((decide ((0 : Int) ≤ p.2.2.2.2.2.1)) && (decide (p.2.2.2.2.2.1 < (p.2.2.2.2.2.2.2.2.2.2.2.2.2.2.2.1.length : Int)))) then (p.2.2.2.2.2.2.2.2.2.2.2.2.2.2.2.1[p.2.2.2.2.2.1.toNat]?).bind fun x13 => (bif (x13.2.1 != p.1) then (bif ((decide ((0 : Int) ≤ p.2.2.2.2.2.1)) && (decide (p.2.2.2.2.2.1 < (p.2.2.2.2.2.2.2.2.2.2.2.2.2.2.2.1.length : Int)))) then (p.2.2.2.2.2.2.2.2.2.2.2.2.2.2.2.1[p.2.2.2.2.2.1.toNat]?).bind fun x14 => (impl_HolderOf.f k p.2.2.2.2.2.2.2.2.2.1 p.2.2.2.2.2.2.2.2.2.2.1 p.2.2.2.2.2.2.2.2.2.2.2.2.2.2.2.2.2.1 p.2.2.2.2.2.2.2.2.2.2.2.2.2.2.2.2.2.2.1 x14.1).bind fun r15 => (bif ((decide ((0 : Int) ≤ p.2.2.2.2.2.1)) && (decide (p.2.2.2.2.2.1 < (p.2.2.2.2.2.2.2.2.2.2.2.2.2.2.2.1.length : Int)))) then (p.2.2.2.2.2.2.2.2.2.2.2.2.2.2.2.1[p.2.2.2.2.2.1.toNat]?).bind fun x16 => (bif (r15 != x16.2.1) then some false else rec0 (p.1, p.2.1, p.2.2.1, p.2.2.2.1, p.2.2.2.2.1, (IntKind.i64.wrap (p.2.2.2.2.2.1 + (1 : Int))), p.2.2.2.2.2.2.1, p.2.2.2.2.2.2.2.1, p.2.2.2.2.2.2.2.2.1, p.2.2.2.2.2.2.2.2.2.1, p.2.2.2.2.2.2.2.2.2.2.1, p.2.2.2.2.2.2.2.2.2.2.2.1, p.2.2.2.2.2.2.2.2.2.2.2.2.1, p.2.2.2.2.2.2.2.2.2.2.2.2.2.1, p.2.2.2.2.2.2.2.2.2.2.2.2.2.2.1, p.2.2.2.2.2.2.2.2.2.2.2.2.2.2.2.1, p.2.2.2.2.2.2.2.2.2.2.2.2.2.2.2.2.1, p.2.2.2.2.2.2.2.2.2.2.2.2.2.2.2.2.2.1, p.2.2.2.2.2.2.2.2.2.2.2.2.2.2.2.2.2.2.1, p.2.2.2.2.2.2.2.2.2.2.2.2.2.2.2.2.2.2.2.1, p.2.2.2.2.2.2.2.2.2.2.2.2.2.2.2.2.2.2.2.2.1, p.2.2.2.2.2.2.2.2.2.2.2.2.2.2.2.2.2.2.2.2.2.1, p.2.2.2.2.2.2.2.2.2.2.2.2.2.2.2.2.2.2.2.2.2.2)) else none) else none) else rec0 (p.1, p.2.1, p.2.2.1, p.2.2.2.1, p.2.2.2.2.1, (IntKind.i64.wrap (p.2.2.2.2.2.1 + (1 : Int))), p.2.2.2.2.2.2.1, p.2.2.2.2.2.2.2.1, p.2.2.2.2.2.2.2.2.1, p.2.2.2.2.2.2.2.2.2.1, p.2.2.2.2.2.2.2.2.2.2.1, p.2.2.2.2.2.2.2.2.2.2.2.1, p.2.2.2.2.2.2.2.2.2.2.2.2.1, p.2.2.2.2.2.2.2.2.2.2.2.2.2.1, p.2.2.2.2.2.2.2.2.2.2.2.2.2.2.1, p.2.2.2.2.2.2.2.2.2.2.2.2.2.2.2.1, p.2.2.2.2.2.2.2.2.2.2.2.2.2.2.2.2.1, p.2.2.2.2.2.2.2.2.2.2.2.2.2.2.2.2.2.1, p.2.2.2.2.2.2.2.2.2.2.2.2.2.2.2.2.2.2.1, p.2.2.2.2.2.2.2.2.2.2.2.2.2.2.2.2.2.2.2.1, p.2.2.2.2.2.2.2.2.2.2.2.2.2.2.2.2.2.2.2.2.1, p.2.2.2.2.2.2.2.2.2.2.2.2.2.2.2.2.2.2.2.2.2.1, p.2.2.2.2.2.2.2.2.2.2.2.2.2.2.2.2.2.2.2.2.2.2)) else none) else (bif p.2.2.2.1 then (bif (p.2.2.1 == p.2.1) then (impl_HolderOf.f k p.2.2.2.2.2.2.2.2.2.2.2.1 p.2.2.2.2.2.2.2.2.2.2.2.2.1 p.2.2.2.2.2.2.2.2.2.2.2.2.2.2.2.2.2.2.2.1 p.2.2.2.2.2.2.2.2.2.2.2.2.2.2.2.2.2.2.2.2.1 p.2.1).bind fun r17 => (bif (r17 == p.1) then (bif p.2.2.2.2.1 then (impl_HolderOf.f k p.2.2.2.2.2.2.2.2.2.2.2.2.2.1 p.2.2.2.2.2.2.2.2.2.2.2.2.2.2.1 p.2.2.2.2.2.2.2.2.2.2.2.2.2.2.2.2.2.2.2.2.2.1 p.2.2.2.2.2.2.2.2.2.2.2.2.2.2.2.2.2.2.2.2.2.2 p.2.1).bind fun r18 => (bif (r18 == (0 : Int)) then (impl_PoolOk.f k p.2.2.2.2.2.2.2.2.2.2.2.2.2.1 p.2.2.2.2.2.2.2.2.2.2.2.2.2.2.1 p.2.2.2.2.2.2.2.2.2.2.2.2.2.2.2.2.2.2.2.2.2.1 p.2.2.2.2.2.2.2.2.2.2.2.2.2.2.2.2.2.2.2.2.2.2).bind fun r19 => (bif r19 then (spec_InPrefix.f k p.2.2.2.2.2.2.2.1 p.2.2.2.2.2.2.2.2.1 p.2.1).bind fun r20 => some r20 else some false) else some false) else some false) else some false) else some false) else some false))
def laws_FnGrants.l0 (k : Nat) : Nat → (Int × Int × Int × Bool × Bool × Int × (List (Int)) × Int × Int × Int × Int × Int × Int × Int × Int × (List (Int × Int × Int)) × (List (Int × Int)) × (List (Int × Int × Int)) × (List (Int × Int)) × (List (Int × Int × Int)) × (List (Int × Int)) × (List (Int × Int × Int)) × (List (Int × Int))) → Option (Bool)
  | 0 => fun _ => none
  | j + 1 => laws_FnGrants.s0 k (laws_FnGrants.l0 k j)
def laws_FnGrants.S0 (p : (Int × Int × Int × Bool × Bool × Int × (List (Int)) × Int × Int × Int × Int × Int × Int × Int × Int × (List (Int × Int × Int)) × (List (Int × Int)) × (List (Int × Int × Int)) × (List (Int × Int)) × (List (Int × Int × Int)) × (List (Int × Int)) × (List (Int × Int × Int)) × (List (Int × Int)))) : DS := ⟨tl [(3, .at (.bptr 48 0)), (5, .at (.int .i64 p.1)), (6, .at (.bptr 96 0)), (7, .at (.int .i64 p.2.1)), (12, .at (.bptr 192 0)), (13, .at (.int .i64 p.2.2.1)), (14, .at (.bool p.2.2.2.1)), (15, .at (.bptr 240 0)), (16, .at (.bool p.2.2.2.2.1)), (17, .at (.int .i64 p.2.2.2.2.2.1))], lookO [(0, .row 5 (.int .u8) false p.2.2.2.2.2.2.1), (48, .box 50 [.int .i64 p.2.2.2.2.2.2.2.1, .int .i64 p.2.2.2.2.2.2.2.2.1, .whole 2384, .whole 2385]), (96, .box 50 [.int .i64 p.2.2.2.2.2.2.2.2.2.1, .int .i64 p.2.2.2.2.2.2.2.2.2.2.1, .whole 2386, .whole 2387]), (192, .box 50 [.int .i64 p.2.2.2.2.2.2.2.2.2.2.2.1, .int .i64 p.2.2.2.2.2.2.2.2.2.2.2.2.1, .whole 2388, .whole 2389]), (240, .box 50 [.int .i64 p.2.2.2.2.2.2.2.2.2.2.2.2.2.1, .int .i64 p.2.2.2.2.2.2.2.2.2.2.2.2.2.2.1, .whole 2390, .whole 2391]), (2384, .row 63 (.two (.int .i64) (.two (.int .i64) (.int .i64))) true p.2.2.2.2.2.2.2.2.2.2.2.2.2.2.2.1), (2385, .row 150 (.two (.int .i64) (.int .i64)) true p.2.2.2.2.2.2.2.2.2.2.2.2.2.2.2.2.1), (2386, .row 63 (.two (.int .i64) (.two (.int .i64) (.int .i64))) true p.2.2.2.2.2.2.2.2.2.2.2.2.2.2.2.2.2.1), (2387, .row 150 (.two (.int .i64) (.int .i64)) true p.2.2.2.2.2.2.2.2.2.2.2.2.2.2.2.2.2.2.1), (2388, .row 63 (.two (.int .i64) (.two (.int .i64) (.int .i64))) true p.2.2.2.2.2.2.2.2.2.2.2.2.2.2.2.2.2.2.2.1), (2389, .row 150 (.two (.int .i64) (.int .i64)) true p.2.2.2.2.2.2.2.2.2.2.2.2.2.2.2.2.2.2.2.2.1), (2390, .row 63 (.two (.int .i64) (.two (.int .i64) (.int .i64))) true p.2.2.2.2.2.2.2.2.2.2.2.2.2.2.2.2.2.2.2.2.2.1), (2391, .row 150 (.two (.int .i64) (.int .i64)) true p.2.2.2.2.2.2.2.2.2.2.2.2.2.2.2.2.2.2.2.2.2.2)]⟩
noncomputable def laws_FnGrants.D0 (k : Nat) (j : Nat) (p : (Int × Int × Int × Bool × Bool × Int × (List (Int)) × Int × Int × Int × Int × Int × Int × Int × Int × (List (Int × Int × Int)) × (List (Int × Int)) × (List (Int × Int × Int)) × (List (Int × Int)) × (List (Int × Int × Int)) × (List (Int × Int)) × (List (Int × Int × Int)) × (List (Int × Int)))) : Option (Bool) := loopK (norm [0] (laws_FnGrants.h 0)) (runK laws_FnGrants.x k 0 [0] laws_FnGrants.h 0 (sub laws_FnGrants.c [1, 1, 1, 1, 1, 1, 1, 1, 1, 1, 1, 0, 1, 0, 0])) j (laws_FnGrants.S0 p) (kBlk 0 (kSeq (runK laws_FnGrants.x k 0 [0] laws_FnGrants.h 0 (sub laws_FnGrants.c [1, 1, 1, 1, 1, 1, 1, 1, 1, 1, 1, 1])) (fin tt laws_FnGrants.ps laws_FnGrants.rs laws_FnGrants.vs .bool)))
theorem laws_FnGrants.D0_eq (k : Nat) : ∀ j, laws_FnGrants.D0 k j = laws_FnGrants.l0 k j := by
  intro j
  induction j with
  | zero => rfl
  | succ j ih =>
    show _ = laws_FnGrants.s0 k (laws_FnGrants.l0 k j)
    rw [← ih]
    funext p
    kernel_rfl
def laws_FnGrants.f (k : Nat) (a0 : List (Int)) : Option (Bool) :=
  (laws_big.f k a0).bind fun r1 => (bif r1 then some true else (spec_DrawPool.f k a0).bind fun r2 => (spec_DrawPlaces.f k a0).bind fun r3 => (bif (true && (decide ((0 : Int) < (r3.length : Int)))) then (r3[0]?).bind fun x4 => (impl_Grant.f k r2.1 r2.2.1 r2.2.2.1 r2.2.2.2 (IntKind.i64.wrap ((1 : Int) + (x4.tmod (9 : Int)))) (50 : Int)).bind fun r5 => (spec_Grant.f k r2.1 r2.2.1 r2.2.2.1 r2.2.2.2 (IntKind.i64.wrap ((1 : Int) + (x4.tmod (9 : Int)))) (50 : Int)).bind fun r6 => (bif (!(r5.2.2.2.2.2 == r6.2.2.2.2.2)) then some false else (bif (r5.2.2.2.2.1 != r6.2.2.2.2.1) then some false else (laws_samePool.f k r5.1 r5.2.1 r5.2.2.1 r5.2.2.2.1 r6.1 r6.2.1 r6.2.2.1 r6.2.2.2.1).bind fun r7 => (bif (!r7) then some false else (impl_PoolOk.f k r2.1 r2.2.1 r2.2.2.1 r2.2.2.2).bind fun r8 => (bif (!r8) then some false else (impl_PoolOk.f k r5.1 r5.2.1 r5.2.2.1 r5.2.2.2.1).bind fun r9 => (bif (!r9) then some false else (bif (!r5.2.2.2.2.2) then (laws_samePool.f k r5.1 r5.2.1 r5.2.2.1 r5.2.2.2.1 r2.1 r2.2.1 r2.2.2.1 r2.2.2.2).bind fun r10 => some r10 else (impl_Grant.f k r5.1 r5.2.1 r5.2.2.1 r5.2.2.2.1 (IntKind.i64.wrap ((1 : Int) + (x4.tmod (9 : Int)))) (60 : Int)).bind fun r11 => (impl_Release.f k r11.1 r11.2.1 r11.2.2.1 r11.2.2.2.1 (IntKind.i64.wrap ((1 : Int) + (x4.tmod (9 : Int))))).bind fun r12 => laws_FnGrants.l0 k k ((IntKind.i64.wrap ((1 : Int) + (x4.tmod (9 : Int)))), r5.2.2.2.2.1, r11.2.2.2.2.1, r11.2.2.2.2.2, r12.2.2.2.2, (0 : Int), a0, r2.1, r2.2.1, r5.1, r5.2.1, r11.1, r11.2.1, r12.1, r12.2.1, r2.2.2.1, r2.2.2.2, r5.2.2.1, r5.2.2.2.1, r11.2.2.1, r11.2.2.2.1, r12.2.2.1, r12.2.2.2.1))))))) else none))
def laws_FnGrants.K : Ctr := ⟨laws_FnGrants.ps, laws_FnGrants.rs, false, (.sl 5 (.int .u8)), .bool, fun k x => laws_FnGrants.f k x⟩
theorem laws_FnGrants.eq (k : Nat) (x : (laws_FnGrants.K.I).den) : func laws_FnGrants.x laws_FnGrants.h laws_FnGrants.ps laws_FnGrants.rs laws_FnGrants.vs laws_FnGrants.K.I laws_FnGrants.K.O laws_FnGrants.c k x = laws_FnGrants.K.run k x := by
  show _ = laws_FnGrants.f k x
  unfold laws_FnGrants.f
  rw [← laws_FnGrants.D0_eq k k]
  kernel_rfl
theorem laws_FnGrants.ok : CtrOk Try.prog 7 laws_FnGrants.K :=
  CtrOk.of (fn := Try.f7) (cd := laws_FnGrants.c) (cx := laws_FnGrants.x) (hs := laws_FnGrants.h) (by kernel_rfl) (by kernel_rfl) (by kernel_rfl) (by kernel_rfl) tt_ok (envOk_cons laws_big.ok (envOk_cons spec_DrawPool.ok (envOk_cons spec_DrawPlaces.ok (envOk_cons impl_Grant.ok (envOk_cons spec_Grant.ok (envOk_cons laws_samePool.ok (envOk_cons impl_PoolOk.ok (envOk_cons impl_Release.ok (envOk_cons impl_HolderOf.ok (envOk_cons spec_InPrefix.ok (envOk_nil))))))))))) (by kernel_rfl) (by kernel_rfl) (by kernel_rfl) (by kernel_rfl) fun k x r h => (laws_FnGrants.eq k x).trans h
end Go.Proofs.Ytfaeklomiofpdaa.DI
