/- FnRoutes: functions as plain Lean, in the machine of values. -/
import Derived.Test.YtfaeklomiofpdaaVFnRoutes1
namespace Go.Proofs.Ytfaeklomiofpdaa.DI
open Go
set_option linter.unusedVariables false
/-! spec.DrawRoutes -/
noncomputable def spec_DrawRoutes.c : Code := bodyOf Try.f13
def spec_DrawRoutes.h : Nat → Hint := look ⟨[], [], []⟩ []
def spec_DrawRoutes.ps : List PK := [.one]
def spec_DrawRoutes.rs : List RK := [.one true, .one true]
def spec_DrawRoutes.vs : List ResultVar := [.tmp 2, .tmp 3]
def spec_DrawRoutes.x : Cx := ⟨tt, look none [(59, some spec_l01New.K), (60, some spec_l09Routes.K), (61, some spec_l01Below.K)]⟩
def spec_DrawRoutes.f (k : Nat) (a0 : List (Int)) : Option ((List (Int × Int × Int)) × Int) :=
  (spec_l01New.f k a0).bind fun r1 => (spec_l09Routes.f k r1.1 r1.2.1 r1.2.2).bind fun r2 => (spec_l01Below.f k r2.2.1 r2.2.2.1 r2.2.2.2 (1100 : Int)).bind fun r3 => some (r2.1, (IntKind.i64.wrap ((167772160 : Int) + r3.1)))
def spec_DrawRoutes.K : Ctr := ⟨spec_DrawRoutes.ps, spec_DrawRoutes.rs, false, (.sl 5 (.int .u8)), (.two (.sl 35 (.two (.int .i64) (.two (.int .i64) (.int .i64)))) (.int .i64)), fun k x => spec_DrawRoutes.f k x⟩
theorem spec_DrawRoutes.eq (k : Nat) (x : (spec_DrawRoutes.K.I).den) : func spec_DrawRoutes.x spec_DrawRoutes.h spec_DrawRoutes.ps spec_DrawRoutes.rs spec_DrawRoutes.vs spec_DrawRoutes.K.I spec_DrawRoutes.K.O spec_DrawRoutes.c k x = spec_DrawRoutes.K.run k x := by
  show _ = spec_DrawRoutes.f k x
  kernel_rfl
theorem spec_DrawRoutes.ok : CtrOk Try.prog 13 spec_DrawRoutes.K :=
  CtrOk.of (fn := Try.f13) (cd := spec_DrawRoutes.c) (cx := spec_DrawRoutes.x) (hs := spec_DrawRoutes.h) (by kernel_rfl) (by kernel_rfl) (by kernel_rfl) (by kernel_rfl) tt_ok (envOk_cons spec_l01New.ok (envOk_cons spec_l09Routes.ok (envOk_cons spec_l01Below.ok (envOk_nil)))) (by kernel_rfl) (by kernel_rfl) (by kernel_rfl) (by kernel_rfl) fun k x r h => (spec_DrawRoutes.eq k x).trans h
/-! spec.DrawAddrs -/
noncomputable def spec_DrawAddrs.c : Code := bodyOf Try.f14
def spec_DrawAddrs.h : Nat → Hint := look ⟨[], [], []⟩ [(0, ⟨[3, 4, 5, 6], [48, 128], [(.b 128 0, 368, 5, (.int .u8)), (.t 5, 369, 3, (.int .i64))]⟩)]
def spec_DrawAddrs.ps : List PK := [.one]
def spec_DrawAddrs.rs : List RK := [.one true, .agg 2 true]
def spec_DrawAddrs.vs : List ResultVar := [.tmp 2, .cell 3 29]
def spec_DrawAddrs.x : Cx := ⟨tt, look none [(59, some spec_l01New.K), (61, some spec_l01Below.K), (62, some spec_l08Prefix.K)]⟩
def spec_DrawAddrs.s0 (k : Nat) (rec0 : (Int × (List (Int)) × Int × Int × Int × Int × (List (Int)) × (List (Int))) → Option ((List (Int)) × Int × Int)) (p : (Int × (List (Int)) × Int × Int × Int × Int × (List (Int)) × (List (Int)))) : Option ((List (Int)) × Int × Int) :=
  (bif (decide (p.1 < (6 : Int))) then (spec_l01Below.f k p.2.2.2.2.2.2.1 p.2.2.2.2.1 p.2.2.2.2.2.1 (1024 : Int)).bind fun r2 => (bif decide ((p.2.2.2.2.2.2.2.length + [(IntKind.i64.wrap ((167772160 : Int) + r2.1))].length) * 8 ≤ 140737488355328) then rec0 ((IntKind.i64.wrap (p.1 + (1 : Int))), p.2.1, p.2.2.1, p.2.2.2.1, r2.2.2.1, r2.2.2.2, r2.2.1, (p.2.2.2.2.2.2.2 ++ [(IntKind.i64.wrap ((167772160 : Int) + r2.1))])) else none) else (spec_l08Prefix.f k p.2.2.2.2.2.2.1 p.2.2.2.2.1 p.2.2.2.2.2.1).bind fun r3 => some (p.2.2.2.2.2.2.2, r3.1, r3.2.1))
def spec_DrawAddrs.l0 (k : Nat) : Nat → (Int × (List (Int)) × Int × Int × Int × Int × (List (Int)) × (List (Int))) → Option ((List (Int)) × Int × Int)
  | 0 => fun _ => none
  | j + 1 => spec_DrawAddrs.s0 k (spec_DrawAddrs.l0 k j)
def spec_DrawAddrs.S0 (p : (Int × (List (Int)) × Int × Int × Int × Int × (List (Int)) × (List (Int)))) : DS := ⟨tl [(3, .at (.bptr 48 0)), (4, .at (.bptr 128 0)), (5, .at (.whole 369)), (6, .at (.int .i64 p.1))], lookO [(0, .row 5 (.int .u8) false p.2.1), (48, .box 29 [.int .i64 p.2.2.1, .int .i64 p.2.2.2.1]), (128, .box 139 [.whole 368, .int .i64 p.2.2.2.2.1, .int .i64 p.2.2.2.2.2.1]), (368, .row 5 (.int .u8) false p.2.2.2.2.2.2.1), (369, .row 3 (.int .i64) true p.2.2.2.2.2.2.2)]⟩
noncomputable def spec_DrawAddrs.D0 (k : Nat) (j : Nat) (p : (Int × (List (Int)) × Int × Int × Int × Int × (List (Int)) × (List (Int)))) : Option ((List (Int)) × Int × Int) := loopK (norm [0] (spec_DrawAddrs.h 0)) (runK spec_DrawAddrs.x k 0 [0] spec_DrawAddrs.h 0 (sub spec_DrawAddrs.c [1, 1, 1, 0, 1, 0, 0])) j (spec_DrawAddrs.S0 p) (kBlk 0 (kSeq (runK spec_DrawAddrs.x k 0 [0] spec_DrawAddrs.h 0 (sub spec_DrawAddrs.c [1, 1, 1, 1])) (fin tt spec_DrawAddrs.ps spec_DrawAddrs.rs spec_DrawAddrs.vs (.two (.sl 3 (.int .i64)) (.two (.int .i64) (.int .i64))))))
theorem spec_DrawAddrs.D0_eq (k : Nat) : ∀ j, spec_DrawAddrs.D0 k j = spec_DrawAddrs.l0 k j := by
  intro j
  induction j with
  | zero => rfl
  | succ j ih =>
    show _ = spec_DrawAddrs.s0 k (spec_DrawAddrs.l0 k j)
    rw [← ih]
    funext p
    kernel_rfl
def spec_DrawAddrs.f (k : Nat) (a0 : List (Int)) : Option ((List (Int)) × Int × Int) :=
  (spec_l01New.f k a0).bind fun r1 => spec_DrawAddrs.l0 k k ((0 : Int), a0, (0 : Int), (0 : Int), r1.2.1, r1.2.2, r1.1, ([] : List (Int)))
def spec_DrawAddrs.K : Ctr := ⟨spec_DrawAddrs.ps, spec_DrawAddrs.rs, false, (.sl 5 (.int .u8)), (.two (.sl 3 (.int .i64)) (.two (.int .i64) (.int .i64))), fun k x => spec_DrawAddrs.f k x⟩
theorem spec_DrawAddrs.eq (k : Nat) (x : (spec_DrawAddrs.K.I).den) : func spec_DrawAddrs.x spec_DrawAddrs.h spec_DrawAddrs.ps spec_DrawAddrs.rs spec_DrawAddrs.vs spec_DrawAddrs.K.I spec_DrawAddrs.K.O spec_DrawAddrs.c k x = spec_DrawAddrs.K.run k x := by
  show _ = spec_DrawAddrs.f k x
  unfold spec_DrawAddrs.f
  rw [← spec_DrawAddrs.D0_eq k k]
  kernel_rfl
theorem spec_DrawAddrs.ok : CtrOk Try.prog 14 spec_DrawAddrs.K :=
  CtrOk.of (fn := Try.f14) (cd := spec_DrawAddrs.c) (cx := spec_DrawAddrs.x) (hs := spec_DrawAddrs.h) (by kernel_rfl) (by kernel_rfl) (by kernel_rfl) (by kernel_rfl) tt_ok (envOk_cons spec_l01New.ok (envOk_cons spec_l01Below.ok (envOk_cons spec_l08Prefix.ok (envOk_nil)))) (by kernel_rfl) (by kernel_rfl) (by kernel_rfl) (by kernel_rfl) fun k x r h => (spec_DrawAddrs.eq k x).trans h
/-! impl.copyRoutes -/
noncomputable def impl_copyRoutes.c : Code := bodyOf Try.f66
def impl_copyRoutes.h : Nat → Hint := look ⟨[], [], []⟩ []
def impl_copyRoutes.ps : List PK := [.one]
def impl_copyRoutes.rs : List RK := [.one true]
def impl_copyRoutes.vs : List ResultVar := [.tmp 2]
def impl_copyRoutes.x : Cx := ⟨tt, look none []⟩
def impl_copyRoutes.f (_k : Nat) (a0 : List (Int × Int × Int)) : Option ((List (Int × Int × Int))) :=
  (bif decide ((([] : List (Int × Int × Int)).length + a0.length) * 24 ≤ 140737488355328) then some (([] : List (Int × Int × Int)) ++ a0) else none)
def impl_copyRoutes.K : Ctr := ⟨impl_copyRoutes.ps, impl_copyRoutes.rs, false, (.sl 35 (.two (.int .i64) (.two (.int .i64) (.int .i64)))), (.sl 35 (.two (.int .i64) (.two (.int .i64) (.int .i64)))), fun k x => impl_copyRoutes.f k x⟩
theorem impl_copyRoutes.eq (k : Nat) (x : (impl_copyRoutes.K.I).den) : func impl_copyRoutes.x impl_copyRoutes.h impl_copyRoutes.ps impl_copyRoutes.rs impl_copyRoutes.vs impl_copyRoutes.K.I impl_copyRoutes.K.O impl_copyRoutes.c k x = impl_copyRoutes.K.run k x := by
  show _ = impl_copyRoutes.f k x
  kernel_rfl
theorem impl_copyRoutes.ok : CtrOk Try.prog 66 impl_copyRoutes.K :=
  CtrOk.of (fn := Try.f66) (cd := impl_copyRoutes.c) (cx := impl_copyRoutes.x) (hs := impl_copyRoutes.h) (by kernel_rfl) (by kernel_rfl) (by kernel_rfl) (by kernel_rfl) tt_ok (envOk_nil) (by kernel_rfl) (by kernel_rfl) (by kernel_rfl) (by kernel_rfl) fun k x r h => (impl_copyRoutes.eq k x).trans h
/-! impl.withoutPrefix$1 -/
noncomputable def impl_withoutPrefix_1.c : Code := bodyOf Try.f124
def impl_withoutPrefix_1.h : Nat → Hint := look ⟨[], [], []⟩ []
def impl_withoutPrefix_1.ps : List PK := [.agg 3, .box 29 2]
def impl_withoutPrefix_1.rs : List RK := [.one true]
def impl_withoutPrefix_1.vs : List ResultVar := [.tmp 3]
def impl_withoutPrefix_1.x : Cx := ⟨tt, look none []⟩
def impl_withoutPrefix_1.f (_k : Nat) (a0_0 : Int) (a0_1 : Int) (_a0_2 : Int) (a1_0 : Int) (a1_1 : Int) : Option (Bool × Int × Int) :=
  some (((a0_0 == a1_0) && (a0_1 == a1_1)), a1_0, a1_1)
def impl_withoutPrefix_1.K : Ctr := ⟨impl_withoutPrefix_1.ps, impl_withoutPrefix_1.rs, true, (.two (.int .i64) (.two (.int .i64) (.two (.int .i64) (.two (.int .i64) (.int .i64))))), (.two .bool (.two (.int .i64) (.int .i64))), fun k x => impl_withoutPrefix_1.f k x.1 x.2.1 x.2.2.1 x.2.2.2.1 x.2.2.2.2⟩
theorem impl_withoutPrefix_1.eq (k : Nat) (x : (impl_withoutPrefix_1.K.I).den) : func impl_withoutPrefix_1.x impl_withoutPrefix_1.h impl_withoutPrefix_1.ps impl_withoutPrefix_1.rs impl_withoutPrefix_1.vs impl_withoutPrefix_1.K.I impl_withoutPrefix_1.K.O impl_withoutPrefix_1.c k x = impl_withoutPrefix_1.K.run k x := by
  show _ = impl_withoutPrefix_1.f k x.1 x.2.1 x.2.2.1 x.2.2.2.1 x.2.2.2.2
  kernel_rfl
theorem impl_withoutPrefix_1.ok : CtrOk Try.prog 124 impl_withoutPrefix_1.K :=
  CtrOk.of (fn := Try.f124) (cd := impl_withoutPrefix_1.c) (cx := impl_withoutPrefix_1.x) (hs := impl_withoutPrefix_1.h) (by kernel_rfl) (by kernel_rfl) (by kernel_rfl) (by kernel_rfl) tt_ok (envOk_nil) (by kernel_rfl) (by kernel_rfl) (by kernel_rfl) (by kernel_rfl) fun k x r h => (impl_withoutPrefix_1.eq k x).trans h
/-! slices.IndexFunc[[]impl.Route,impl.Route] -/
noncomputable def slices_IndexFunc_impl_Route_impl_Route_f124_r.c : Code := bodyOf Try.f131
def slices_IndexFunc_impl_Route_impl_Route_f124_r.h : Nat → Hint := look ⟨[], [], []⟩ [(0, ⟨[0, 1, 7, 8], [], []⟩)]
def slices_IndexFunc_impl_Route_impl_Route_f124_r.ps : List PK := [.row, .fnp 124 29 2]
def slices_IndexFunc_impl_Route_impl_Route_f124_r.rs : List RK := [.one true]
def slices_IndexFunc_impl_Route_impl_Route_f124_r.vs : List ResultVar := [.tmp 4]
def slices_IndexFunc_impl_Route_impl_Route_f124_r.x : Cx := ⟨tt, look none [(124, some impl_withoutPrefix_1.K)]⟩
def slices_IndexFunc_impl_Route_impl_Route_f124_r.s0 (k : Nat) (rec0 : (Int × Int × (List (Int × Int × Int)) × Int × Int) → Option (Int × (List (Int × Int × Int)) × Int × Int)) (p : (Int × Int × (List (Int × Int × Int)) × Int × Int)) : Option (Int × (List (Int × Int × Int)) × Int × Int) :=
  (bif (decide (p.2.1 < p.1)) then (bif ((decide ((0 : Int) ≤ p.2.1)) && (decide (p.2.1 < (p.2.2.1.length : Int)))) then (p.2.2.1[p.2.1.toNat]?).bind fun x1 => (impl_withoutPrefix_1.f k x1.1 x1.2.1 x1.2.2 p.2.2.2.1 p.2.2.2.2).bind fun r2 => (bif r2.1 then some (p.2.1, p.2.2.1, r2.2.1, r2.2.2) else rec0 (p.1, (IntKind.i64.wrap (p.2.1 + (1 : Int))), p.2.2.1, r2.2.1, r2.2.2)) else none) else some ((-1 : Int), p.2.2.1, p.2.2.2.1, p.2.2.2.2))
def slices_IndexFunc_impl_Route_impl_Route_f124_r.l0 (k : Nat) : Nat → (Int × Int × (List (Int × Int × Int)) × Int × Int) → Option (Int × (List (Int × Int × Int)) × Int × Int)
  | 0 => fun _ => none
  | j + 1 => slices_IndexFunc_impl_Route_impl_Route_f124_r.s0 k (slices_IndexFunc_impl_Route_impl_Route_f124_r.l0 k j)
def slices_IndexFunc_impl_Route_impl_Route_f124_r.S0 (p : (Int × Int × (List (Int × Int × Int)) × Int × Int)) : DS := ⟨tl [(0, .at (.whole 0)), (1, .at (.fn 124 [(16, 0)])), (7, .at (.int .i64 p.1)), (8, .at (.int .i64 p.2.1))], lookO [(0, .row 35 (.two (.int .i64) (.two (.int .i64) (.int .i64))) true p.2.2.1), (16, .box 29 [.int .i64 p.2.2.2.1, .int .i64 p.2.2.2.2])]⟩
noncomputable def slices_IndexFunc_impl_Route_impl_Route_f124_r.D0 (k : Nat) (j : Nat) (p : (Int × Int × (List (Int × Int × Int)) × Int × Int)) : Option (Int × (List (Int × Int × Int)) × Int × Int) := loopK (norm [0, 16] (slices_IndexFunc_impl_Route_impl_Route_f124_r.h 0)) (runK slices_IndexFunc_impl_Route_impl_Route_f124_r.x k 0 [0, 16] slices_IndexFunc_impl_Route_impl_Route_f124_r.h 0 (sub slices_IndexFunc_impl_Route_impl_Route_f124_r.c [1, 0, 1, 0, 0])) j (slices_IndexFunc_impl_Route_impl_Route_f124_r.S0 p) (kBlk 0 (kSeq (runK slices_IndexFunc_impl_Route_impl_Route_f124_r.x k 0 [0, 16] slices_IndexFunc_impl_Route_impl_Route_f124_r.h 0 (sub slices_IndexFunc_impl_Route_impl_Route_f124_r.c [1, 1])) (fin tt slices_IndexFunc_impl_Route_impl_Route_f124_r.ps slices_IndexFunc_impl_Route_impl_Route_f124_r.rs slices_IndexFunc_impl_Route_impl_Route_f124_r.vs (.two (.int .i64) (.two (.sl 35 (.two (.int .i64) (.two (.int .i64) (.int .i64)))) (.two (.int .i64) (.int .i64)))))))
theorem slices_IndexFunc_impl_Route_impl_Route_f124_r.D0_eq (k : Nat) : ∀ j, slices_IndexFunc_impl_Route_impl_Route_f124_r.D0 k j = slices_IndexFunc_impl_Route_impl_Route_f124_r.l0 k j := by
  intro j
  induction j with
  | zero => rfl
  | succ j ih =>
    show _ = slices_IndexFunc_impl_Route_impl_Route_f124_r.s0 k (slices_IndexFunc_impl_Route_impl_Route_f124_r.l0 k j)
    rw [← ih]
    funext p
    kernel_rfl
def slices_IndexFunc_impl_Route_impl_Route_f124_r.f (k : Nat) (a0 : List (Int × Int × Int)) (a1_0 : Int) (a1_1 : Int) : Option (Int × (List (Int × Int × Int)) × Int × Int) :=
  slices_IndexFunc_impl_Route_impl_Route_f124_r.l0 k k ((a0.length : Int), (0 : Int), a0, a1_0, a1_1)
def slices_IndexFunc_impl_Route_impl_Route_f124_r.K : Ctr := ⟨slices_IndexFunc_impl_Route_impl_Route_f124_r.ps, slices_IndexFunc_impl_Route_impl_Route_f124_r.rs, true, (.two (.sl 35 (.two (.int .i64) (.two (.int .i64) (.int .i64)))) (.two (.int .i64) (.int .i64))), (.two (.int .i64) (.two (.sl 35 (.two (.int .i64) (.two (.int .i64) (.int .i64)))) (.two (.int .i64) (.int .i64)))), fun k x => slices_IndexFunc_impl_Route_impl_Route_f124_r.f k x.1 x.2.1 x.2.2⟩
theorem slices_IndexFunc_impl_Route_impl_Route_f124_r.eq (k : Nat) (x : (slices_IndexFunc_impl_Route_impl_Route_f124_r.K.I).den) : func slices_IndexFunc_impl_Route_impl_Route_f124_r.x slices_IndexFunc_impl_Route_impl_Route_f124_r.h slices_IndexFunc_impl_Route_impl_Route_f124_r.ps slices_IndexFunc_impl_Route_impl_Route_f124_r.rs slices_IndexFunc_impl_Route_impl_Route_f124_r.vs slices_IndexFunc_impl_Route_impl_Route_f124_r.K.I slices_IndexFunc_impl_Route_impl_Route_f124_r.K.O slices_IndexFunc_impl_Route_impl_Route_f124_r.c k x = slices_IndexFunc_impl_Route_impl_Route_f124_r.K.run k x := by
  show _ = slices_IndexFunc_impl_Route_impl_Route_f124_r.f k x.1 x.2.1 x.2.2
  unfold slices_IndexFunc_impl_Route_impl_Route_f124_r.f
  rw [← slices_IndexFunc_impl_Route_impl_Route_f124_r.D0_eq k k]
  kernel_rfl
theorem slices_IndexFunc_impl_Route_impl_Route_f124_r.ok : CtrOk Try.prog 131 slices_IndexFunc_impl_Route_impl_Route_f124_r.K :=
  CtrOk.of (fn := Try.f131) (cd := slices_IndexFunc_impl_Route_impl_Route_f124_r.c) (cx := slices_IndexFunc_impl_Route_impl_Route_f124_r.x) (hs := slices_IndexFunc_impl_Route_impl_Route_f124_r.h) (by kernel_rfl) (by kernel_rfl) (by kernel_rfl) (by kernel_rfl) tt_ok (envOk_cons impl_withoutPrefix_1.ok (envOk_nil)) (by kernel_rfl) (by kernel_rfl) (by kernel_rfl) (by kernel_rfl) fun k x r h => (slices_IndexFunc_impl_Route_impl_Route_f124_r.eq k x).trans h
/-! slices.DeleteFunc[[]impl.Route,impl.Route] -/
noncomputable def slices_DeleteFunc_impl_Route_impl_Route_f124.c : Code := bodyOf Try.f71
def slices_DeleteFunc_impl_Route_impl_Route_f124.h : Nat → Hint := look ⟨[], [], []⟩ [(0, ⟨[0, 1, 5, 6], [], [(.t 0, 672, 35, (.two (.int .i64) (.two (.int .i64) (.int .i64))))]⟩)]
def slices_DeleteFunc_impl_Route_impl_Route_f124.ps : List PK := [.give, .fnp 124 29 2]
def slices_DeleteFunc_impl_Route_impl_Route_f124.rs : List RK := [.one true]
def slices_DeleteFunc_impl_Route_impl_Route_f124.vs : List ResultVar := [.tmp 4]
def slices_DeleteFunc_impl_Route_impl_Route_f124.x : Cx := ⟨tt, look none [(131, some slices_IndexFunc_impl_Route_impl_Route_f124_r.K), (124, some impl_withoutPrefix_1.K)]⟩
def slices_DeleteFunc_impl_Route_impl_Route_f124.s0 (k : Nat) (rec0 : (Int × Int × Int × Int × (List (Int × Int × Int))) → Option ((List (Int × Int × Int)) × Int × Int)) (p : (Int × Int × Int × Int × (List (Int × Int × Int)))) : Option ((List (Int × Int × Int)) × Int × Int) :=
  (bif (decide (p.2.1 < (p.2.2.2.2.length : Int))) then (bif ((decide ((0 : Int) ≤ p.2.1)) && (decide (p.2.1 < (p.2.2.2.2.length : Int)))) then (p.2.2.2.2[p.2.1.toNat]?).bind fun x2 => (impl_withoutPrefix_1.f k x2.1 x2.2.1 x2.2.2 p.2.2.1 p.2.2.2.1).bind fun r3 => (bif (!r3.1) then (bif ((decide ((0 : Int) ≤ p.1)) && (decide (p.1 < (p.2.2.2.2.length : Int)))) then (p.2.2.2.2[p.1.toNat]?).bind fun x4 => rec0 ((IntKind.i64.wrap (p.1 + (1 : Int))), (IntKind.i64.wrap (p.2.1 + (1 : Int))), r3.2.1, r3.2.2, (p.2.2.2.2.set p.1.toNat (x2.1, x2.2.1, x2.2.2))) else none) else rec0 (p.1, (IntKind.i64.wrap (p.2.1 + (1 : Int))), r3.2.1, r3.2.2, p.2.2.2.2)) else none) else (bif ((decide ((0 : Int) ≤ p.1)) && (decide (p.1 ≤ (p.2.2.2.2.length : Int)))) then (bif ((decide ((0 : Int) ≤ p.1)) && (decide (p.1 ≤ ((p.2.2.2.2.take p.1.toNat ++ (List.replicate (p.2.2.2.2.length - p.1.toNat) ((0 : Int), (0 : Int), (0 : Int)) ++ p.2.2.2.2.drop (p.1.toNat + (p.2.2.2.2.length - p.1.toNat)))).length : Int)))) then some (((p.2.2.2.2.take p.1.toNat ++ (List.replicate (p.2.2.2.2.length - p.1.toNat) ((0 : Int), (0 : Int), (0 : Int)) ++ p.2.2.2.2.drop (p.1.toNat + (p.2.2.2.2.length - p.1.toNat)))).take p.1.toNat), p.2.2.1, p.2.2.2.1) else none) else none))
def slices_DeleteFunc_impl_Route_impl_Route_f124.l0 (k : Nat) : Nat → (Int × Int × Int × Int × (List (Int × Int × Int))) → Option ((List (Int × Int × Int)) × Int × Int)
  | 0 => fun _ => none
  | j + 1 => slices_DeleteFunc_impl_Route_impl_Route_f124.s0 k (slices_DeleteFunc_impl_Route_impl_Route_f124.l0 k j)
def slices_DeleteFunc_impl_Route_impl_Route_f124.S0 (p : (Int × Int × Int × Int × (List (Int × Int × Int)))) : DS := ⟨tl [(0, .at (.whole 672)), (1, .at (.fn 124 [(16, 0)])), (5, .at (.int .i64 p.1)), (6, .at (.int .i64 p.2.1))], lookO [(16, .box 29 [.int .i64 p.2.2.1, .int .i64 p.2.2.2.1]), (672, .row 35 (.two (.int .i64) (.two (.int .i64) (.int .i64))) true p.2.2.2.2)]⟩
noncomputable def slices_DeleteFunc_impl_Route_impl_Route_f124.D0 (k : Nat) (j : Nat) (p : (Int × Int × Int × Int × (List (Int × Int × Int)))) : Option ((List (Int × Int × Int)) × Int × Int) := loopK (norm [16] (slices_DeleteFunc_impl_Route_impl_Route_f124.h 0)) (runK slices_DeleteFunc_impl_Route_impl_Route_f124.x k 0 [16] slices_DeleteFunc_impl_Route_impl_Route_f124.h 0 (sub slices_DeleteFunc_impl_Route_impl_Route_f124.c [1, 1, 1, 0, 1, 0, 0])) j (slices_DeleteFunc_impl_Route_impl_Route_f124.S0 p) (kBlk 0 (kSeq (runK slices_DeleteFunc_impl_Route_impl_Route_f124.x k 0 [16] slices_DeleteFunc_impl_Route_impl_Route_f124.h 0 (sub slices_DeleteFunc_impl_Route_impl_Route_f124.c [1, 1, 1, 1])) (fin tt slices_DeleteFunc_impl_Route_impl_Route_f124.ps slices_DeleteFunc_impl_Route_impl_Route_f124.rs slices_DeleteFunc_impl_Route_impl_Route_f124.vs (.two (.sl 35 (.two (.int .i64) (.two (.int .i64) (.int .i64)))) (.two (.int .i64) (.int .i64))))))
theorem slices_DeleteFunc_impl_Route_impl_Route_f124.D0_eq (k : Nat) : ∀ j, slices_DeleteFunc_impl_Route_impl_Route_f124.D0 k j = slices_DeleteFunc_impl_Route_impl_Route_f124.l0 k j := by
  intro j
  induction j with
  | zero => rfl
  | succ j ih =>
    show _ = slices_DeleteFunc_impl_Route_impl_Route_f124.s0 k (slices_DeleteFunc_impl_Route_impl_Route_f124.l0 k j)
    rw [← ih]
    funext p
    kernel_rfl
def slices_DeleteFunc_impl_Route_impl_Route_f124.f (k : Nat) (a0 : List (Int × Int × Int)) (a1_0 : Int) (a1_1 : Int) : Option ((List (Int × Int × Int)) × Int × Int) :=
  (slices_IndexFunc_impl_Route_impl_Route_f124_r.f k a0 a1_0 a1_1).bind fun r1 => (bif (r1.1 == (-1 : Int)) then some (r1.2.1, r1.2.2.1, r1.2.2.2) else slices_DeleteFunc_impl_Route_impl_Route_f124.l0 k k (r1.1, (IntKind.i64.wrap (r1.1 + (1 : Int))), r1.2.2.1, r1.2.2.2, r1.2.1))
def slices_DeleteFunc_impl_Route_impl_Route_f124.K : Ctr := ⟨slices_DeleteFunc_impl_Route_impl_Route_f124.ps, slices_DeleteFunc_impl_Route_impl_Route_f124.rs, true, (.two (.sl 35 (.two (.int .i64) (.two (.int .i64) (.int .i64)))) (.two (.int .i64) (.int .i64))), (.two (.sl 35 (.two (.int .i64) (.two (.int .i64) (.int .i64)))) (.two (.int .i64) (.int .i64))), fun k x => slices_DeleteFunc_impl_Route_impl_Route_f124.f k x.1 x.2.1 x.2.2⟩
theorem slices_DeleteFunc_impl_Route_impl_Route_f124.eq (k : Nat) (x : (slices_DeleteFunc_impl_Route_impl_Route_f124.K.I).den) : func slices_DeleteFunc_impl_Route_impl_Route_f124.x slices_DeleteFunc_impl_Route_impl_Route_f124.h slices_DeleteFunc_impl_Route_impl_Route_f124.ps slices_DeleteFunc_impl_Route_impl_Route_f124.rs slices_DeleteFunc_impl_Route_impl_Route_f124.vs slices_DeleteFunc_impl_Route_impl_Route_f124.K.I slices_DeleteFunc_impl_Route_impl_Route_f124.K.O slices_DeleteFunc_impl_Route_impl_Route_f124.c k x = slices_DeleteFunc_impl_Route_impl_Route_f124.K.run k x := by
  show _ = slices_DeleteFunc_impl_Route_impl_Route_f124.f k x.1 x.2.1 x.2.2
  unfold slices_DeleteFunc_impl_Route_impl_Route_f124.f
  rw [← slices_DeleteFunc_impl_Route_impl_Route_f124.D0_eq k k]
  kernel_rfl
theorem slices_DeleteFunc_impl_Route_impl_Route_f124.ok : CtrOk Try.prog 71 slices_DeleteFunc_impl_Route_impl_Route_f124.K :=
  CtrOk.of (fn := Try.f71) (cd := slices_DeleteFunc_impl_Route_impl_Route_f124.c) (cx := slices_DeleteFunc_impl_Route_impl_Route_f124.x) (hs := slices_DeleteFunc_impl_Route_impl_Route_f124.h) (by kernel_rfl) (by kernel_rfl) (by kernel_rfl) (by kernel_rfl) tt_ok (envOk_cons slices_IndexFunc_impl_Route_impl_Route_f124_r.ok (envOk_cons impl_withoutPrefix_1.ok (envOk_nil))) (by kernel_rfl) (by kernel_rfl) (by kernel_rfl) (by kernel_rfl) fun k x r h => (slices_DeleteFunc_impl_Route_impl_Route_f124.eq k x).trans h
/-! impl.withoutPrefix -/
noncomputable def impl_withoutPrefix.c : Code := bodyOf Try.f63
def impl_withoutPrefix.h : Nat → Hint := look ⟨[], [], []⟩ []
def impl_withoutPrefix.ps : List PK := [.one, .agg 2]
def impl_withoutPrefix.rs : List RK := [.one true]
def impl_withoutPrefix.vs : List ResultVar := [.tmp 4]
def impl_withoutPrefix.x : Cx := ⟨tt, look none [(66, some impl_copyRoutes.K), (71, some slices_DeleteFunc_impl_Route_impl_Route_f124.K)]⟩
def impl_withoutPrefix.f (k : Nat) (a0 : List (Int × Int × Int)) (a1_0 : Int) (a1_1 : Int) : Option ((List (Int × Int × Int))) :=
  (impl_copyRoutes.f k a0).bind fun r1 => (slices_DeleteFunc_impl_Route_impl_Route_f124.f k r1 a1_0 a1_1).bind fun r2 => some r2.1
def impl_withoutPrefix.K : Ctr := ⟨impl_withoutPrefix.ps, impl_withoutPrefix.rs, false, (.two (.sl 35 (.two (.int .i64) (.two (.int .i64) (.int .i64)))) (.two (.int .i64) (.int .i64))), (.sl 35 (.two (.int .i64) (.two (.int .i64) (.int .i64)))), fun k x => impl_withoutPrefix.f k x.1 x.2.1 x.2.2⟩
theorem impl_withoutPrefix.eq (k : Nat) (x : (impl_withoutPrefix.K.I).den) : func impl_withoutPrefix.x impl_withoutPrefix.h impl_withoutPrefix.ps impl_withoutPrefix.rs impl_withoutPrefix.vs impl_withoutPrefix.K.I impl_withoutPrefix.K.O impl_withoutPrefix.c k x = impl_withoutPrefix.K.run k x := by
  show _ = impl_withoutPrefix.f k x.1 x.2.1 x.2.2
  kernel_rfl
theorem impl_withoutPrefix.ok : CtrOk Try.prog 63 impl_withoutPrefix.K :=
  CtrOk.of (fn := Try.f63) (cd := impl_withoutPrefix.c) (cx := impl_withoutPrefix.x) (hs := impl_withoutPrefix.h) (by kernel_rfl) (by kernel_rfl) (by kernel_rfl) (by kernel_rfl) tt_ok (envOk_cons impl_copyRoutes.ok (envOk_cons slices_DeleteFunc_impl_Route_impl_Route_f124.ok (envOk_nil))) (by kernel_rfl) (by kernel_rfl) (by kernel_rfl) (by kernel_rfl) fun k x r h => (impl_withoutPrefix.eq k x).trans h
/-! cmp.isNaN[int] -/
noncomputable def cmp_isNaN_int.c : Code := bodyOf Try.f155
def cmp_isNaN_int.h : Nat → Hint := look ⟨[], [], []⟩ []
def cmp_isNaN_int.ps : List PK := [.one]
def cmp_isNaN_int.rs : List RK := [.one true]
def cmp_isNaN_int.vs : List ResultVar := [.tmp 2]
def cmp_isNaN_int.x : Cx := ⟨tt, look none []⟩
def cmp_isNaN_int.f (_k : Nat) (a0 : Int) : Option (Bool) :=
  some (a0 != a0)
def cmp_isNaN_int.K : Ctr := ⟨cmp_isNaN_int.ps, cmp_isNaN_int.rs, false, (.int .i64), .bool, fun k x => cmp_isNaN_int.f k x⟩
theorem cmp_isNaN_int.eq (k : Nat) (x : (cmp_isNaN_int.K.I).den) : func cmp_isNaN_int.x cmp_isNaN_int.h cmp_isNaN_int.ps cmp_isNaN_int.rs cmp_isNaN_int.vs cmp_isNaN_int.K.I cmp_isNaN_int.K.O cmp_isNaN_int.c k x = cmp_isNaN_int.K.run k x := by
  show _ = cmp_isNaN_int.f k x
  kernel_rfl
theorem cmp_isNaN_int.ok : CtrOk Try.prog 155 cmp_isNaN_int.K :=
  CtrOk.of (fn := Try.f155) (cd := cmp_isNaN_int.c) (cx := cmp_isNaN_int.x) (hs := cmp_isNaN_int.h) (by kernel_rfl) (by kernel_rfl) (by kernel_rfl) (by kernel_rfl) tt_ok (envOk_nil) (by kernel_rfl) (by kernel_rfl) (by kernel_rfl) (by kernel_rfl) fun k x r h => (cmp_isNaN_int.eq k x).trans h
/-! cmp.Compare[int] -/
noncomputable def cmp_Compare_int.c : Code := bodyOf Try.f126
def cmp_Compare_int.h : Nat → Hint := look ⟨[], [], []⟩ []
def cmp_Compare_int.ps : List PK := [.one, .one]
def cmp_Compare_int.rs : List RK := [.one true]
def cmp_Compare_int.vs : List ResultVar := [.tmp 4]
def cmp_Compare_int.x : Cx := ⟨tt, look none [(155, some cmp_isNaN_int.K)]⟩
def cmp_Compare_int.f (k : Nat) (a0 : Int) (a1 : Int) : Option (Int) :=
  (cmp_isNaN_int.f k a0).bind fun r1 => (cmp_isNaN_int.f k a1).bind fun r2 => (bif r1 then (bif r2 then some (0 : Int) else some (-1 : Int)) else (bif r2 then some (1 : Int) else (bif (decide (a0 < a1)) then some (-1 : Int) else (bif (decide (a0 > a1)) then some (1 : Int) else some (0 : Int)))))
def cmp_Compare_int.K : Ctr := ⟨cmp_Compare_int.ps, cmp_Compare_int.rs, false, (.two (.int .i64) (.int .i64)), (.int .i64), fun k x => cmp_Compare_int.f k x.1 x.2⟩
theorem cmp_Compare_int.eq (k : Nat) (x : (cmp_Compare_int.K.I).den) : func cmp_Compare_int.x cmp_Compare_int.h cmp_Compare_int.ps cmp_Compare_int.rs cmp_Compare_int.vs cmp_Compare_int.K.I cmp_Compare_int.K.O cmp_Compare_int.c k x = cmp_Compare_int.K.run k x := by
  show _ = cmp_Compare_int.f k x.1 x.2
  kernel_rfl
theorem cmp_Compare_int.ok : CtrOk Try.prog 126 cmp_Compare_int.K :=
  CtrOk.of (fn := Try.f126) (cd := cmp_Compare_int.c) (cx := cmp_Compare_int.x) (hs := cmp_Compare_int.h) (by kernel_rfl) (by kernel_rfl) (by kernel_rfl) (by kernel_rfl) tt_ok (envOk_cons cmp_isNaN_int.ok (envOk_nil)) (by kernel_rfl) (by kernel_rfl) (by kernel_rfl) (by kernel_rfl) fun k x r h => (cmp_Compare_int.eq k x).trans h
/-! cmp.Or[int] -/
noncomputable def cmp_Or_int.c : Code := bodyOf Try.f125
def cmp_Or_int.h : Nat → Hint := look ⟨[], [], []⟩ [(0, ⟨[3, 6, 7, 8], [], []⟩)]
def cmp_Or_int.ps : List PK := [.one]
def cmp_Or_int.rs : List RK := [.one true]
def cmp_Or_int.vs : List ResultVar := [.tmp 2]
def cmp_Or_int.x : Cx := ⟨tt, look none []⟩
def cmp_Or_int.s0 (_k : Nat) (rec0 : (Int × Int × Int × (List (Int))) → Option (Int)) (p : (Int × Int × Int × (List (Int)))) : Option (Int) :=
  (bif (decide (p.2.2.1 < p.2.1)) then (bif ((decide ((0 : Int) ≤ p.2.2.1)) && (decide (p.2.2.1 < (p.2.2.2.length : Int)))) then (p.2.2.2[p.2.2.1.toNat]?).bind fun x1 => (bif (x1 != p.1) then some x1 else rec0 (p.1, p.2.1, (IntKind.i64.wrap (p.2.2.1 + (1 : Int))), p.2.2.2)) else none) else some p.1)
def cmp_Or_int.l0 (k : Nat) : Nat → (Int × Int × Int × (List (Int))) → Option (Int)
  | 0 => fun _ => none
  | j + 1 => cmp_Or_int.s0 k (cmp_Or_int.l0 k j)
def cmp_Or_int.S0 (p : (Int × Int × Int × (List (Int)))) : DS := ⟨tl [(3, .at (.int .i64 p.1)), (6, .at (.whole 0)), (7, .at (.int .i64 p.2.1)), (8, .at (.int .i64 p.2.2.1))], lookO [(0, .row 3 (.int .i64) false p.2.2.2)]⟩
noncomputable def cmp_Or_int.D0 (k : Nat) (j : Nat) (p : (Int × Int × Int × (List (Int)))) : Option (Int) := loopK (norm [0] (cmp_Or_int.h 0)) (runK cmp_Or_int.x k 0 [0] cmp_Or_int.h 0 (sub cmp_Or_int.c [1, 1, 0, 1, 0, 0])) j (cmp_Or_int.S0 p) (kBlk 0 (kSeq (runK cmp_Or_int.x k 0 [0] cmp_Or_int.h 0 (sub cmp_Or_int.c [1, 1, 1])) (fin tt cmp_Or_int.ps cmp_Or_int.rs cmp_Or_int.vs (.int .i64))))
theorem cmp_Or_int.D0_eq (k : Nat) : ∀ j, cmp_Or_int.D0 k j = cmp_Or_int.l0 k j := by
  intro j
  induction j with
  | zero => rfl
  | succ j ih =>
    show _ = cmp_Or_int.s0 k (cmp_Or_int.l0 k j)
    rw [← ih]
    funext p
    kernel_rfl
def cmp_Or_int.f (k : Nat) (a0 : List (Int)) : Option (Int) :=
  cmp_Or_int.l0 k k ((0 : Int), (a0.length : Int), (0 : Int), a0)
def cmp_Or_int.K : Ctr := ⟨cmp_Or_int.ps, cmp_Or_int.rs, false, (.sl 3 (.int .i64)), (.int .i64), fun k x => cmp_Or_int.f k x⟩
theorem cmp_Or_int.eq (k : Nat) (x : (cmp_Or_int.K.I).den) : func cmp_Or_int.x cmp_Or_int.h cmp_Or_int.ps cmp_Or_int.rs cmp_Or_int.vs cmp_Or_int.K.I cmp_Or_int.K.O cmp_Or_int.c k x = cmp_Or_int.K.run k x := by
  show _ = cmp_Or_int.f k x
  unfold cmp_Or_int.f
  rw [← cmp_Or_int.D0_eq k k]
  kernel_rfl
theorem cmp_Or_int.ok : CtrOk Try.prog 125 cmp_Or_int.K :=
  CtrOk.of (fn := Try.f125) (cd := cmp_Or_int.c) (cx := cmp_Or_int.x) (hs := cmp_Or_int.h) (by kernel_rfl) (by kernel_rfl) (by kernel_rfl) (by kernel_rfl) tt_ok (envOk_nil) (by kernel_rfl) (by kernel_rfl) (by kernel_rfl) (by kernel_rfl) fun k x r h => (cmp_Or_int.eq k x).trans h
/-! impl.comparePrefixes -/
noncomputable def impl_comparePrefixes.c : Code := bodyOf Try.f64
def impl_comparePrefixes.h : Nat → Hint := look ⟨[], [], []⟩ []
def impl_comparePrefixes.ps : List PK := [.agg 2, .agg 2]
def impl_comparePrefixes.rs : List RK := [.one true]
def impl_comparePrefixes.vs : List ResultVar := [.tmp 4]
def impl_comparePrefixes.x : Cx := ⟨tt, look none [(126, some cmp_Compare_int.K), (125, some cmp_Or_int.K)]⟩
def impl_comparePrefixes.f (k : Nat) (a0_0 : Int) (a0_1 : Int) (a1_0 : Int) (a1_1 : Int) : Option (Int) :=
  (cmp_Compare_int.f k a0_0 a1_0).bind fun r1 => (cmp_Compare_int.f k a0_1 a1_1).bind fun r2 => (cmp_Or_int.f k [r1, r2]).bind fun r3 => some r3
def impl_comparePrefixes.K : Ctr := ⟨impl_comparePrefixes.ps, impl_comparePrefixes.rs, false, (.two (.int .i64) (.two (.int .i64) (.two (.int .i64) (.int .i64)))), (.int .i64), fun k x => impl_comparePrefixes.f k x.1 x.2.1 x.2.2.1 x.2.2.2⟩
theorem impl_comparePrefixes.eq (k : Nat) (x : (impl_comparePrefixes.K.I).den) : func impl_comparePrefixes.x impl_comparePrefixes.h impl_comparePrefixes.ps impl_comparePrefixes.rs impl_comparePrefixes.vs impl_comparePrefixes.K.I impl_comparePrefixes.K.O impl_comparePrefixes.c k x = impl_comparePrefixes.K.run k x := by
  show _ = impl_comparePrefixes.f k x.1 x.2.1 x.2.2.1 x.2.2.2
  kernel_rfl
theorem impl_comparePrefixes.ok : CtrOk Try.prog 64 impl_comparePrefixes.K :=
  CtrOk.of (fn := Try.f64) (cd := impl_comparePrefixes.c) (cx := impl_comparePrefixes.x) (hs := impl_comparePrefixes.h) (by kernel_rfl) (by kernel_rfl) (by kernel_rfl) (by kernel_rfl) tt_ok (envOk_cons cmp_Compare_int.ok (envOk_cons cmp_Or_int.ok (envOk_nil))) (by kernel_rfl) (by kernel_rfl) (by kernel_rfl) (by kernel_rfl) fun k x r h => (impl_comparePrefixes.eq k x).trans h
/-! slices.Insert[[]impl.Route,impl.Route] -/
def slices_Insert_impl_Route_impl_Route.f (_k : Nat) (a0 : List (Int × Int × Int)) (a1 : Int) (a2 : List (Int × Int × Int)) : Option (List (Int × Int × Int)) :=
  if (0 ≤ a1 ∧ a1 ≤ (List.length a0 : Int)) ∧ (0 < List.length a2 ∧ (List.length a0 + List.length a2) * 24 ≤ 140737488355328) then some (List.take a1.toNat a0 ++ a2 ++ List.drop a1.toNat a0) else none
def slices_Insert_impl_Route_impl_Route.K : Ctr := ⟨[.give, .one, .give], [.one true], true, (.two (.sl 35 (.two (.int .i64) (.two (.int .i64) (.int .i64)))) (.two (.int .i64) (.sl 35 (.two (.int .i64) (.two (.int .i64) (.int .i64)))))), (.sl 35 (.two (.int .i64) (.two (.int .i64) (.int .i64)))), fun k x => slices_Insert_impl_Route_impl_Route.f k x.1 x.2.1 x.2.2⟩
theorem slices_Insert_impl_Route_impl_Route.ok : CtrOk Try.prog 65 slices_Insert_impl_Route_impl_Route.K := CtrOk.ins ins65.roads ti24 rfl ti35 (by decide)
/-! impl.within -/
noncomputable def impl_within.c : Code := bodyOf Try.f89
def impl_within.h : Nat → Hint := look ⟨[], [], []⟩ []
def impl_within.ps : List PK := [.one, .one, .one]
def impl_within.rs : List RK := [.one true]
def impl_within.vs : List ResultVar := [.tmp 6]
def impl_within.x : Cx := ⟨tt, look none []⟩
def impl_within.f (_k : Nat) (a0 : Int) (a1 : Int) (a2 : Int) : Option (Bool) :=
  (bif (decide (a0 ≥ a1)) then some (decide (a0 ≤ a2)) else some false)
def impl_within.K : Ctr := ⟨impl_within.ps, impl_within.rs, false, (.two (.int .i64) (.two (.int .i64) (.int .i64))), .bool, fun k x => impl_within.f k x.1 x.2.1 x.2.2⟩
theorem impl_within.eq (k : Nat) (x : (impl_within.K.I).den) : func impl_within.x impl_within.h impl_within.ps impl_within.rs impl_within.vs impl_within.K.I impl_within.K.O impl_within.c k x = impl_within.K.run k x := by
  show _ = impl_within.f k x.1 x.2.1 x.2.2
  kernel_rfl
theorem impl_within.ok : CtrOk Try.prog 89 impl_within.K :=
  CtrOk.of (fn := Try.f89) (cd := impl_within.c) (cx := impl_within.x) (hs := impl_within.h) (by kernel_rfl) (by kernel_rfl) (by kernel_rfl) (by kernel_rfl) tt_ok (envOk_nil) (by kernel_rfl) (by kernel_rfl) (by kernel_rfl) (by kernel_rfl) fun k x r h => (impl_within.eq k x).trans h
/-! impl.AddrOk -/
noncomputable def impl_AddrOk.c : Code := bodyOf Try.f129
def impl_AddrOk.h : Nat → Hint := look ⟨[], [], []⟩ []
def impl_AddrOk.ps : List PK := [.one]
def impl_AddrOk.rs : List RK := [.one true]
def impl_AddrOk.vs : List ResultVar := [.tmp 2]
def impl_AddrOk.x : Cx := ⟨tt, look none [(89, some impl_within.K)]⟩
def impl_AddrOk.f (k : Nat) (a0 : Int) : Option (Bool) :=
  (impl_within.f k a0 (0 : Int) (4294967295 : Int)).bind fun r1 => some r1
def impl_AddrOk.K : Ctr := ⟨impl_AddrOk.ps, impl_AddrOk.rs, false, (.int .i64), .bool, fun k x => impl_AddrOk.f k x⟩
theorem impl_AddrOk.eq (k : Nat) (x : (impl_AddrOk.K.I).den) : func impl_AddrOk.x impl_AddrOk.h impl_AddrOk.ps impl_AddrOk.rs impl_AddrOk.vs impl_AddrOk.K.I impl_AddrOk.K.O impl_AddrOk.c k x = impl_AddrOk.K.run k x := by
  show _ = impl_AddrOk.f k x
  kernel_rfl
theorem impl_AddrOk.ok : CtrOk Try.prog 129 impl_AddrOk.K :=
  CtrOk.of (fn := Try.f129) (cd := impl_AddrOk.c) (cx := impl_AddrOk.x) (hs := impl_AddrOk.h) (by kernel_rfl) (by kernel_rfl) (by kernel_rfl) (by kernel_rfl) tt_ok (envOk_cons impl_within.ok (envOk_nil)) (by kernel_rfl) (by kernel_rfl) (by kernel_rfl) (by kernel_rfl) fun k x r h => (impl_AddrOk.eq k x).trans h
/-! impl.lastBits -/
noncomputable def impl_lastBits.c : Code := bodyOf Try.f130
def impl_lastBits.h : Nat → Hint := look ⟨[], [], []⟩ []
def impl_lastBits.ps : List PK := [.one]
def impl_lastBits.rs : List RK := [.one true]
def impl_lastBits.vs : List ResultVar := [.tmp 2]
def impl_lastBits.x : Cx := ⟨tt, look none []⟩
def impl_lastBits.f (_k : Nat) (a0 : Int) : Option (Int) :=
  (bif (decide ((IntKind.i64.wrap ((32 : Int) - a0)) < (0 : Int))) then none else some (IntKind.i64.wrap ((IntKind.i64.wrap ((1 : Int) * 2 ^ (min (IntKind.i64.wrap ((32 : Int) - a0)).toNat IntKind.i64.bits))) - (1 : Int))))
def impl_lastBits.K : Ctr := ⟨impl_lastBits.ps, impl_lastBits.rs, false, (.int .i64), (.int .i64), fun k x => impl_lastBits.f k x⟩
theorem impl_lastBits.eq (k : Nat) (x : (impl_lastBits.K.I).den) : func impl_lastBits.x impl_lastBits.h impl_lastBits.ps impl_lastBits.rs impl_lastBits.vs impl_lastBits.K.I impl_lastBits.K.O impl_lastBits.c k x = impl_lastBits.K.run k x := by
  show _ = impl_lastBits.f k x
  kernel_rfl
theorem impl_lastBits.ok : CtrOk Try.prog 130 impl_lastBits.K :=
  CtrOk.of (fn := Try.f130) (cd := impl_lastBits.c) (cx := impl_lastBits.x) (hs := impl_lastBits.h) (by kernel_rfl) (by kernel_rfl) (by kernel_rfl) (by kernel_rfl) tt_ok (envOk_nil) (by kernel_rfl) (by kernel_rfl) (by kernel_rfl) (by kernel_rfl) fun k x r h => (impl_lastBits.eq k x).trans h
/-! impl.PrefixOk -/
noncomputable def impl_PrefixOk.c : Code := bodyOf Try.f69
def impl_PrefixOk.h : Nat → Hint := look ⟨[], [], []⟩ []
def impl_PrefixOk.ps : List PK := [.agg 2]
def impl_PrefixOk.rs : List RK := [.one true]
def impl_PrefixOk.vs : List ResultVar := [.tmp 2]
def impl_PrefixOk.x : Cx := ⟨tt, look none [(129, some impl_AddrOk.K), (89, some impl_within.K), (130, some impl_lastBits.K)]⟩
def impl_PrefixOk.f (k : Nat) (a0_0 : Int) (a0_1 : Int) : Option (Bool) :=
  (impl_AddrOk.f k a0_0).bind fun r1 => (bif r1 then (impl_within.f k a0_1 (0 : Int) (32 : Int)).bind fun r2 => (bif r2 then (impl_lastBits.f k a0_1).bind fun r3 => some ((IntKind.i64.wrap (((BitVec.ofInt IntKind.i64.bits a0_0) &&& (BitVec.ofInt IntKind.i64.bits r3)).toNat : Int)) == (0 : Int)) else some false) else some false)
def impl_PrefixOk.K : Ctr := ⟨impl_PrefixOk.ps, impl_PrefixOk.rs, false, (.two (.int .i64) (.int .i64)), .bool, fun k x => impl_PrefixOk.f k x.1 x.2⟩
theorem impl_PrefixOk.eq (k : Nat) (x : (impl_PrefixOk.K.I).den) : func impl_PrefixOk.x impl_PrefixOk.h impl_PrefixOk.ps impl_PrefixOk.rs impl_PrefixOk.vs impl_PrefixOk.K.I impl_PrefixOk.K.O impl_PrefixOk.c k x = impl_PrefixOk.K.run k x := by
  show _ = impl_PrefixOk.f k x.1 x.2
  kernel_rfl
theorem impl_PrefixOk.ok : CtrOk Try.prog 69 impl_PrefixOk.K :=
  CtrOk.of (fn := Try.f69) (cd := impl_PrefixOk.c) (cx := impl_PrefixOk.x) (hs := impl_PrefixOk.h) (by kernel_rfl) (by kernel_rfl) (by kernel_rfl) (by kernel_rfl) tt_ok (envOk_cons impl_AddrOk.ok (envOk_cons impl_within.ok (envOk_cons impl_lastBits.ok (envOk_nil)))) (by kernel_rfl) (by kernel_rfl) (by kernel_rfl) (by kernel_rfl) fun k x r h => (impl_PrefixOk.eq k x).trans h
/-! impl.isId -/
noncomputable def impl_isId.c : Code := bodyOf Try.f70
def impl_isId.h : Nat → Hint := look ⟨[], [], []⟩ []
def impl_isId.ps : List PK := [.one]
def impl_isId.rs : List RK := [.one true]
def impl_isId.vs : List ResultVar := [.tmp 2]
def impl_isId.x : Cx := ⟨tt, look none [(89, some impl_within.K)]⟩
def impl_isId.f (k : Nat) (a0 : Int) : Option (Bool) :=
  (impl_within.f k a0 (1 : Int) (99 : Int)).bind fun r1 => some r1
def impl_isId.K : Ctr := ⟨impl_isId.ps, impl_isId.rs, false, (.int .i64), .bool, fun k x => impl_isId.f k x⟩
theorem impl_isId.eq (k : Nat) (x : (impl_isId.K.I).den) : func impl_isId.x impl_isId.h impl_isId.ps impl_isId.rs impl_isId.vs impl_isId.K.I impl_isId.K.O impl_isId.c k x = impl_isId.K.run k x := by
  show _ = impl_isId.f k x
  kernel_rfl
theorem impl_isId.ok : CtrOk Try.prog 70 impl_isId.K :=
  CtrOk.of (fn := Try.f70) (cd := impl_isId.c) (cx := impl_isId.x) (hs := impl_isId.h) (by kernel_rfl) (by kernel_rfl) (by kernel_rfl) (by kernel_rfl) tt_ok (envOk_cons impl_within.ok (envOk_nil)) (by kernel_rfl) (by kernel_rfl) (by kernel_rfl) (by kernel_rfl) fun k x r h => (impl_isId.eq k x).trans h
end Go.Proofs.Ytfaeklomiofpdaa.DI
