/- FnExactPutRoute: functions as plain Lean, in the machine of values. -/
import Derived.Test.YtbddppnhpapfkaaVFnExactPutRoute1
namespace Go.Proofs.Ytbddppnhpapfkaa.DI
open Go
set_option linter.unusedVariables false
/-! slices.DeleteFunc[[]impl.Route,impl.Route] -/
noncomputable def slices_DeleteFunc_impl_Route_impl_Route_f112.c : Code := bodyOf Try.f55
def slices_DeleteFunc_impl_Route_impl_Route_f112.h : Nat → Hint := look ⟨[], [], []⟩ [(0, ⟨[0, 1, 5, 6], [], [(.t 0, 672, 65, (.two (.int .i64) (.two (.int .i64) (.int .i64))))]⟩)]
def slices_DeleteFunc_impl_Route_impl_Route_f112.ps : List PK := [.give, .fnp 112 40 2]
def slices_DeleteFunc_impl_Route_impl_Route_f112.rs : List RK := [.one true]
def slices_DeleteFunc_impl_Route_impl_Route_f112.vs : List ResultVar := [.tmp 4]
def slices_DeleteFunc_impl_Route_impl_Route_f112.x : Cx := ⟨tt, look none [(101, some slices_IndexFunc_impl_Route_impl_Route_f112_r.K), (112, some impl_withoutPrefix_1.K)]⟩
def slices_DeleteFunc_impl_Route_impl_Route_f112.s0 (k : Nat) (rec0 : (Int × Int × Int × Int × (List (Int × Int × Int))) → Option ((List (Int × Int × Int)) × Int × Int)) (p : (Int × Int × Int × Int × (List (Int × Int × Int)))) : Option ((List (Int × Int × Int)) × Int × Int) :=
  (bif (decide (p.2.1 < (p.2.2.2.2.length : Int))) then (bif ((decide ((0 : Int) ≤ p.2.1)) && (decide (p.2.1 < (p.2.2.2.2.length : Int)))) then (p.2.2.2.2[p.2.1.toNat]?).bind fun x2 => (impl_withoutPrefix_1.f k x2.1 x2.2.1 x2.2.2 p.2.2.1 p.2.2.2.1).bind fun r3 => (bif (!r3.1) then (bif ((decide ((0 : Int) ≤ p.1)) && (decide (p.1 < (p.2.2.2.2.length : Int)))) then (p.2.2.2.2[p.1.toNat]?).bind fun x4 => rec0 ((IntKind.i64.wrap (p.1 + (1 : Int))), (IntKind.i64.wrap (p.2.1 + (1 : Int))), r3.2.1, r3.2.2, (p.2.2.2.2.set p.1.toNat (x2.1, x2.2.1, x2.2.2))) else none) else rec0 (p.1, (IntKind.i64.wrap (p.2.1 + (1 : Int))), r3.2.1, r3.2.2, p.2.2.2.2)) else none) else (bif ((decide ((0 : Int) ≤ p.1)) && (decide (p.1 ≤ (p.2.2.2.2.length : Int)))) then (bif ((decide ((0 : Int) ≤ p.1)) && (decide (p.1 ≤ ((p.2.2.2.2.take p.1.toNat ++ (List.replicate (p.2.2.2.2.length - p.1.toNat) ((0 : Int), (0 : Int), (0 : Int)) ++ p.2.2.2.2.drop (p.1.toNat + (p.2.2.2.2.length - p.1.toNat)))).length : Int)))) then some (((p.2.2.2.2.take p.1.toNat ++ (List.replicate (p.2.2.2.2.length - p.1.toNat) ((0 : Int), (0 : Int), (0 : Int)) ++ p.2.2.2.2.drop (p.1.toNat + (p.2.2.2.2.length - p.1.toNat)))).take p.1.toNat), p.2.2.1, p.2.2.2.1) else none) else none))
def slices_DeleteFunc_impl_Route_impl_Route_f112.l0 (k : Nat) : Nat → (Int × Int × Int × Int × (List (Int × Int × Int))) → Option ((List (Int × Int × Int)) × Int × Int)
  | 0 => fun _ => none
  | j + 1 => slices_DeleteFunc_impl_Route_impl_Route_f112.s0 k (slices_DeleteFunc_impl_Route_impl_Route_f112.l0 k j)
def slices_DeleteFunc_impl_Route_impl_Route_f112.S0 (p : (Int × Int × Int × Int × (List (Int × Int × Int)))) : DS := ⟨tl [(0, .at (.whole 672)), (1, .at (.fn 112 [(16, 0)])), (5, .at (.int .i64 p.1)), (6, .at (.int .i64 p.2.1))], lookO [(16, .box 40 [.int .i64 p.2.2.1, .int .i64 p.2.2.2.1]), (672, .row 65 (.two (.int .i64) (.two (.int .i64) (.int .i64))) true p.2.2.2.2)]⟩
noncomputable def slices_DeleteFunc_impl_Route_impl_Route_f112.D0 (k : Nat) (j : Nat) (p : (Int × Int × Int × Int × (List (Int × Int × Int)))) : Option ((List (Int × Int × Int)) × Int × Int) := loopK (norm [16] (slices_DeleteFunc_impl_Route_impl_Route_f112.h 0)) (runK slices_DeleteFunc_impl_Route_impl_Route_f112.x k 0 [16] slices_DeleteFunc_impl_Route_impl_Route_f112.h 0 (sub slices_DeleteFunc_impl_Route_impl_Route_f112.c [1, 1, 1, 0, 1, 0, 0])) j (slices_DeleteFunc_impl_Route_impl_Route_f112.S0 p) (kBlk 0 (kSeq (runK slices_DeleteFunc_impl_Route_impl_Route_f112.x k 0 [16] slices_DeleteFunc_impl_Route_impl_Route_f112.h 0 (sub slices_DeleteFunc_impl_Route_impl_Route_f112.c [1, 1, 1, 1])) (fin tt slices_DeleteFunc_impl_Route_impl_Route_f112.ps slices_DeleteFunc_impl_Route_impl_Route_f112.rs slices_DeleteFunc_impl_Route_impl_Route_f112.vs (.two (.sl 65 (.two (.int .i64) (.two (.int .i64) (.int .i64)))) (.two (.int .i64) (.int .i64))))))
theorem slices_DeleteFunc_impl_Route_impl_Route_f112.D0_eq (k : Nat) : ∀ j, slices_DeleteFunc_impl_Route_impl_Route_f112.D0 k j = slices_DeleteFunc_impl_Route_impl_Route_f112.l0 k j := by
  intro j
  induction j with
  | zero => rfl
  | succ j ih =>
    show _ = slices_DeleteFunc_impl_Route_impl_Route_f112.s0 k (slices_DeleteFunc_impl_Route_impl_Route_f112.l0 k j)
    rw [← ih]
    funext p
    kernel_rfl
def slices_DeleteFunc_impl_Route_impl_Route_f112.f (k : Nat) (a0 : List (Int × Int × Int)) (a1_0 : Int) (a1_1 : Int) : Option ((List (Int × Int × Int)) × Int × Int) :=
  (slices_IndexFunc_impl_Route_impl_Route_f112_r.f k a0 a1_0 a1_1).bind fun r1 => (bif (r1.1 == (-1 : Int)) then some (r1.2.1, r1.2.2.1, r1.2.2.2) else slices_DeleteFunc_impl_Route_impl_Route_f112.l0 k k (r1.1, (IntKind.i64.wrap (r1.1 + (1 : Int))), r1.2.2.1, r1.2.2.2, r1.2.1))
def slices_DeleteFunc_impl_Route_impl_Route_f112.K : Ctr := ⟨slices_DeleteFunc_impl_Route_impl_Route_f112.ps, slices_DeleteFunc_impl_Route_impl_Route_f112.rs, true, (.two (.sl 65 (.two (.int .i64) (.two (.int .i64) (.int .i64)))) (.two (.int .i64) (.int .i64))), (.two (.sl 65 (.two (.int .i64) (.two (.int .i64) (.int .i64)))) (.two (.int .i64) (.int .i64))), fun k x => slices_DeleteFunc_impl_Route_impl_Route_f112.f k x.1 x.2.1 x.2.2⟩
theorem slices_DeleteFunc_impl_Route_impl_Route_f112.eq (k : Nat) (x : (slices_DeleteFunc_impl_Route_impl_Route_f112.K.I).den) : func slices_DeleteFunc_impl_Route_impl_Route_f112.x slices_DeleteFunc_impl_Route_impl_Route_f112.h slices_DeleteFunc_impl_Route_impl_Route_f112.ps slices_DeleteFunc_impl_Route_impl_Route_f112.rs slices_DeleteFunc_impl_Route_impl_Route_f112.vs slices_DeleteFunc_impl_Route_impl_Route_f112.K.I slices_DeleteFunc_impl_Route_impl_Route_f112.K.O slices_DeleteFunc_impl_Route_impl_Route_f112.c k x = slices_DeleteFunc_impl_Route_impl_Route_f112.K.run k x := by
  show _ = slices_DeleteFunc_impl_Route_impl_Route_f112.f k x.1 x.2.1 x.2.2
  unfold slices_DeleteFunc_impl_Route_impl_Route_f112.f
  rw [← slices_DeleteFunc_impl_Route_impl_Route_f112.D0_eq k k]
  kernel_rfl
theorem slices_DeleteFunc_impl_Route_impl_Route_f112.ok : CtrOk Try.prog 55 slices_DeleteFunc_impl_Route_impl_Route_f112.K :=
  CtrOk.of (fn := Try.f55) (cd := slices_DeleteFunc_impl_Route_impl_Route_f112.c) (cx := slices_DeleteFunc_impl_Route_impl_Route_f112.x) (hs := slices_DeleteFunc_impl_Route_impl_Route_f112.h) (by kernel_rfl) (by kernel_rfl) (by kernel_rfl) (by kernel_rfl) tt_ok (envOk_cons slices_IndexFunc_impl_Route_impl_Route_f112_r.ok (envOk_cons impl_withoutPrefix_1.ok (envOk_nil))) (by kernel_rfl) (by kernel_rfl) (by kernel_rfl) (by kernel_rfl) fun k x r h => (slices_DeleteFunc_impl_Route_impl_Route_f112.eq k x).trans h
/-! impl.withoutPrefix -/
noncomputable def impl_withoutPrefix.c : Code := bodyOf Try.f86
def impl_withoutPrefix.h : Nat → Hint := look ⟨[], [], []⟩ []
def impl_withoutPrefix.ps : List PK := [.one, .agg 2]
def impl_withoutPrefix.rs : List RK := [.one true]
def impl_withoutPrefix.vs : List ResultVar := [.tmp 4]
def impl_withoutPrefix.x : Cx := ⟨tt, look none [(56, some impl_copyRoutes.K), (55, some slices_DeleteFunc_impl_Route_impl_Route_f112.K)]⟩
def impl_withoutPrefix.f (k : Nat) (a0 : List (Int × Int × Int)) (a1_0 : Int) (a1_1 : Int) : Option ((List (Int × Int × Int))) :=
  (impl_copyRoutes.f k a0).bind fun r1 => (slices_DeleteFunc_impl_Route_impl_Route_f112.f k r1 a1_0 a1_1).bind fun r2 => some r2.1
def impl_withoutPrefix.K : Ctr := ⟨impl_withoutPrefix.ps, impl_withoutPrefix.rs, false, (.two (.sl 65 (.two (.int .i64) (.two (.int .i64) (.int .i64)))) (.two (.int .i64) (.int .i64))), (.sl 65 (.two (.int .i64) (.two (.int .i64) (.int .i64)))), fun k x => impl_withoutPrefix.f k x.1 x.2.1 x.2.2⟩
theorem impl_withoutPrefix.eq (k : Nat) (x : (impl_withoutPrefix.K.I).den) : func impl_withoutPrefix.x impl_withoutPrefix.h impl_withoutPrefix.ps impl_withoutPrefix.rs impl_withoutPrefix.vs impl_withoutPrefix.K.I impl_withoutPrefix.K.O impl_withoutPrefix.c k x = impl_withoutPrefix.K.run k x := by
  show _ = impl_withoutPrefix.f k x.1 x.2.1 x.2.2
  kernel_rfl
theorem impl_withoutPrefix.ok : CtrOk Try.prog 86 impl_withoutPrefix.K :=
  CtrOk.of (fn := Try.f86) (cd := impl_withoutPrefix.c) (cx := impl_withoutPrefix.x) (hs := impl_withoutPrefix.h) (by kernel_rfl) (by kernel_rfl) (by kernel_rfl) (by kernel_rfl) tt_ok (envOk_cons impl_copyRoutes.ok (envOk_cons slices_DeleteFunc_impl_Route_impl_Route_f112.ok (envOk_nil))) (by kernel_rfl) (by kernel_rfl) (by kernel_rfl) (by kernel_rfl) fun k x r h => (impl_withoutPrefix.eq k x).trans h
/-! cmp.isNaN[int] -/
noncomputable def cmp_isNaN_int.c : Code := bodyOf Try.f119
def cmp_isNaN_int.h : Nat → Hint := look ⟨[], [], []⟩ []
def cmp_isNaN_int.ps : List PK := [.one]
def cmp_isNaN_int.rs : List RK := [.one true]
def cmp_isNaN_int.vs : List ResultVar := [.tmp 2]
def cmp_isNaN_int.x : Cx := ⟨tt, look none []⟩
def cmp_isNaN_int.f (_k : Nat) (a0 : Int) : Option (Bool) :=
  some (a0 != a0)
def cmp_isNaN_int.K : Ctr := ⟨cmp_isNaN_int.ps, cmp_isNaN_int.rs, false, (.int .i64), .bool, fun k x => cmp_isNaN_int.f k x⟩
theorem cmp_isNaN_int.eq (k : Nat) (x : (cmp_isNaN_int.K.I).den) : func cmp_isNaN_int.x cmp_isNaN_int.h cmp_isNaN_int.ps cmp_isNaN_int.rs cmp_isNaN_int.vs cmp_isNaN_int.K.I cmp_isNaN_int.K.O cmp_isNaN_int.c k x = cmp_isNaN_int.K.run k x := by
  show _ = cmp_isNaN_int.f k x
  kernel_rfl
theorem cmp_isNaN_int.ok : CtrOk Try.prog 119 cmp_isNaN_int.K :=
  CtrOk.of (fn := Try.f119) (cd := cmp_isNaN_int.c) (cx := cmp_isNaN_int.x) (hs := cmp_isNaN_int.h) (by kernel_rfl) (by kernel_rfl) (by kernel_rfl) (by kernel_rfl) tt_ok (envOk_nil) (by kernel_rfl) (by kernel_rfl) (by kernel_rfl) (by kernel_rfl) fun k x r h => (cmp_isNaN_int.eq k x).trans h
/-! cmp.Compare[int] -/
noncomputable def cmp_Compare_int.c : Code := bodyOf Try.f104
def cmp_Compare_int.h : Nat → Hint := look ⟨[], [], []⟩ []
def cmp_Compare_int.ps : List PK := [.one, .one]
def cmp_Compare_int.rs : List RK := [.one true]
def cmp_Compare_int.vs : List ResultVar := [.tmp 4]
def cmp_Compare_int.x : Cx := ⟨tt, look none [(119, some cmp_isNaN_int.K)]⟩
def cmp_Compare_int.f (k : Nat) (a0 : Int) (a1 : Int) : Option (Int) :=
  (cmp_isNaN_int.f k a0).bind fun r1 => (cmp_isNaN_int.f k a1).bind fun r2 => (bif r1 then (bif r2 then some (0 : Int) else some (-1 : Int)) else (bif r2 then some (1 : Int) else (bif (decide (a0 < a1)) then some (-1 : Int) else (bif (decide (a0 > a1)) then some (1 : Int) else some (0 : Int)))))
def cmp_Compare_int.K : Ctr := ⟨cmp_Compare_int.ps, cmp_Compare_int.rs, false, (.two (.int .i64) (.int .i64)), (.int .i64), fun k x => cmp_Compare_int.f k x.1 x.2⟩
theorem cmp_Compare_int.eq (k : Nat) (x : (cmp_Compare_int.K.I).den) : func cmp_Compare_int.x cmp_Compare_int.h cmp_Compare_int.ps cmp_Compare_int.rs cmp_Compare_int.vs cmp_Compare_int.K.I cmp_Compare_int.K.O cmp_Compare_int.c k x = cmp_Compare_int.K.run k x := by
  show _ = cmp_Compare_int.f k x.1 x.2
  kernel_rfl
theorem cmp_Compare_int.ok : CtrOk Try.prog 104 cmp_Compare_int.K :=
  CtrOk.of (fn := Try.f104) (cd := cmp_Compare_int.c) (cx := cmp_Compare_int.x) (hs := cmp_Compare_int.h) (by kernel_rfl) (by kernel_rfl) (by kernel_rfl) (by kernel_rfl) tt_ok (envOk_cons cmp_isNaN_int.ok (envOk_nil)) (by kernel_rfl) (by kernel_rfl) (by kernel_rfl) (by kernel_rfl) fun k x r h => (cmp_Compare_int.eq k x).trans h
/-! cmp.Or[int] -/
noncomputable def cmp_Or_int.c : Code := bodyOf Try.f103
def cmp_Or_int.h : Nat → Hint := look ⟨[], [], []⟩ [(0, ⟨[3, 6, 7, 8], [], []⟩)]
def cmp_Or_int.ps : List PK := [.one]
def cmp_Or_int.rs : List RK := [.one true]
def cmp_Or_int.vs : List ResultVar := [.tmp 2]
def cmp_Or_int.x : Cx := ⟨tt, look none []⟩
def cmp_Or_int.s0 (_k : Nat) (rec0 : (Int × Int × Int × (List (Int))) → Option (Int)) (p : (Int × Int × Int × (List (Int)))) : Option (Int) :=
  (bif (decide (p.2.2.1 < p.2.1)) then (bif ((decide ((0 : Int) ≤ p.2.2.1)) && (decide (p.2.2.1 < (p.2.2.2.length : Int)))) then (p.2.2.2[p.2.2.1.toNat]?).bind fun x1 => (bif (x1 != p.1) then some x1 else rec0 (p.1, p.2.1, (IntKind.i64.wrap (p.2.2.1 + (1 : Int))), p.2.2.2)) else none) else some p.1)
def cmp_Or_int.l0 (k : Nat) : Nat → (Int × Int × Int × (List (Int))) → Option (Int)
  | 0 => fun _ => none
  | j + 1 => cmp_Or_int.s0 k (cmp_Or_int.l0 k j)
def cmp_Or_int.S0 (p : (Int × Int × Int × (List (Int)))) : DS := ⟨tl [(3, .at (.int .i64 p.1)), (6, .at (.whole 0)), (7, .at (.int .i64 p.2.1)), (8, .at (.int .i64 p.2.2.1))], lookO [(0, .row 3 (.int .i64) false p.2.2.2)]⟩
noncomputable def cmp_Or_int.D0 (k : Nat) (j : Nat) (p : (Int × Int × Int × (List (Int)))) : Option (Int) := loopK (norm [0] (cmp_Or_int.h 0)) (runK cmp_Or_int.x k 0 [0] cmp_Or_int.h 0 (sub cmp_Or_int.c [1, 1, 0, 1, 0, 0])) j (cmp_Or_int.S0 p) (kBlk 0 (kSeq (runK cmp_Or_int.x k 0 [0] cmp_Or_int.h 0 (sub cmp_Or_int.c [1, 1, 1])) (fin tt cmp_Or_int.ps cmp_Or_int.rs cmp_Or_int.vs (.int .i64))))
theorem cmp_Or_int.D0_eq (k : Nat) : ∀ j, cmp_Or_int.D0 k j = cmp_Or_int.l0 k j := by
  intro j
  induction j with
  | zero => rfl
  | succ j ih =>
    show _ = cmp_Or_int.s0 k (cmp_Or_int.l0 k j)
    rw [← ih]
    funext p
    kernel_rfl
def cmp_Or_int.f (k : Nat) (a0 : List (Int)) : Option (Int) :=
  cmp_Or_int.l0 k k ((0 : Int), (a0.length : Int), (0 : Int), a0)
def cmp_Or_int.K : Ctr := ⟨cmp_Or_int.ps, cmp_Or_int.rs, false, (.sl 3 (.int .i64)), (.int .i64), fun k x => cmp_Or_int.f k x⟩
theorem cmp_Or_int.eq (k : Nat) (x : (cmp_Or_int.K.I).den) : func cmp_Or_int.x cmp_Or_int.h cmp_Or_int.ps cmp_Or_int.rs cmp_Or_int.vs cmp_Or_int.K.I cmp_Or_int.K.O cmp_Or_int.c k x = cmp_Or_int.K.run k x := by
  show _ = cmp_Or_int.f k x
  unfold cmp_Or_int.f
  rw [← cmp_Or_int.D0_eq k k]
  kernel_rfl
theorem cmp_Or_int.ok : CtrOk Try.prog 103 cmp_Or_int.K :=
  CtrOk.of (fn := Try.f103) (cd := cmp_Or_int.c) (cx := cmp_Or_int.x) (hs := cmp_Or_int.h) (by kernel_rfl) (by kernel_rfl) (by kernel_rfl) (by kernel_rfl) tt_ok (envOk_nil) (by kernel_rfl) (by kernel_rfl) (by kernel_rfl) (by kernel_rfl) fun k x r h => (cmp_Or_int.eq k x).trans h
/-! impl.comparePrefixes -/
noncomputable def impl_comparePrefixes.c : Code := bodyOf Try.f64
def impl_comparePrefixes.h : Nat → Hint := look ⟨[], [], []⟩ []
def impl_comparePrefixes.ps : List PK := [.agg 2, .agg 2]
def impl_comparePrefixes.rs : List RK := [.one true]
def impl_comparePrefixes.vs : List ResultVar := [.tmp 4]
def impl_comparePrefixes.x : Cx := ⟨tt, look none [(104, some cmp_Compare_int.K), (103, some cmp_Or_int.K)]⟩
def impl_comparePrefixes.f (k : Nat) (a0_0 : Int) (a0_1 : Int) (a1_0 : Int) (a1_1 : Int) : Option (Int) :=
  (cmp_Compare_int.f k a0_0 a1_0).bind fun r1 => (cmp_Compare_int.f k a0_1 a1_1).bind fun r2 => (cmp_Or_int.f k [r1, r2]).bind fun r3 => some r3
def impl_comparePrefixes.K : Ctr := ⟨impl_comparePrefixes.ps, impl_comparePrefixes.rs, false, (.two (.int .i64) (.two (.int .i64) (.two (.int .i64) (.int .i64)))), (.int .i64), fun k x => impl_comparePrefixes.f k x.1 x.2.1 x.2.2.1 x.2.2.2⟩
theorem impl_comparePrefixes.eq (k : Nat) (x : (impl_comparePrefixes.K.I).den) : func impl_comparePrefixes.x impl_comparePrefixes.h impl_comparePrefixes.ps impl_comparePrefixes.rs impl_comparePrefixes.vs impl_comparePrefixes.K.I impl_comparePrefixes.K.O impl_comparePrefixes.c k x = impl_comparePrefixes.K.run k x := by
  show _ = impl_comparePrefixes.f k x.1 x.2.1 x.2.2.1 x.2.2.2
  kernel_rfl
theorem impl_comparePrefixes.ok : CtrOk Try.prog 64 impl_comparePrefixes.K :=
  CtrOk.of (fn := Try.f64) (cd := impl_comparePrefixes.c) (cx := impl_comparePrefixes.x) (hs := impl_comparePrefixes.h) (by kernel_rfl) (by kernel_rfl) (by kernel_rfl) (by kernel_rfl) tt_ok (envOk_cons cmp_Compare_int.ok (envOk_cons cmp_Or_int.ok (envOk_nil))) (by kernel_rfl) (by kernel_rfl) (by kernel_rfl) (by kernel_rfl) fun k x r h => (impl_comparePrefixes.eq k x).trans h
/-! slices.Insert[[]impl.Route,impl.Route] -/
def slices_Insert_impl_Route_impl_Route.f (_k : Nat) (a0 : List (Int × Int × Int)) (a1 : Int) (a2 : List (Int × Int × Int)) : Option (List (Int × Int × Int)) :=
  if (0 ≤ a1 ∧ a1 ≤ (List.length a0 : Int)) ∧ (0 < List.length a2 ∧ (List.length a0 + List.length a2) * 24 ≤ 140737488355328) then some (List.take a1.toNat a0 ++ a2 ++ List.drop a1.toNat a0) else none
def slices_Insert_impl_Route_impl_Route.K : Ctr := ⟨[.give, .one, .give], [.one true], true, (.two (.sl 65 (.two (.int .i64) (.two (.int .i64) (.int .i64)))) (.two (.int .i64) (.sl 65 (.two (.int .i64) (.two (.int .i64) (.int .i64)))))), (.sl 65 (.two (.int .i64) (.two (.int .i64) (.int .i64)))), fun k x => slices_Insert_impl_Route_impl_Route.f k x.1 x.2.1 x.2.2⟩
theorem slices_Insert_impl_Route_impl_Route.ok : CtrOk Try.prog 100 slices_Insert_impl_Route_impl_Route.K := CtrOk.ins ins100.roads ti24 rfl ti65 (by decide)
/-! impl.within -/
noncomputable def impl_within.c : Code := bodyOf Try.f89
def impl_within.h : Nat → Hint := look ⟨[], [], []⟩ []
def impl_within.ps : List PK := [.one, .one, .one]
def impl_within.rs : List RK := [.one true]
def impl_within.vs : List ResultVar := [.tmp 6]
def impl_within.x : Cx := ⟨tt, look none []⟩
def impl_within.f (_k : Nat) (a0 : Int) (a1 : Int) (a2 : Int) : Option (Bool) :=
  (bif (decide (a0 ≥ a1)) then some (decide (a0 ≤ a2)) else some false)
def impl_within.K : Ctr := ⟨impl_within.ps, impl_within.rs, false, (.two (.int .i64) (.two (.int .i64) (.int .i64))), .bool, fun k x => impl_within.f k x.1 x.2.1 x.2.2⟩
theorem impl_within.eq (k : Nat) (x : (impl_within.K.I).den) : func impl_within.x impl_within.h impl_within.ps impl_within.rs impl_within.vs impl_within.K.I impl_within.K.O impl_within.c k x = impl_within.K.run k x := by
  show _ = impl_within.f k x.1 x.2.1 x.2.2
  kernel_rfl
theorem impl_within.ok : CtrOk Try.prog 89 impl_within.K :=
  CtrOk.of (fn := Try.f89) (cd := impl_within.c) (cx := impl_within.x) (hs := impl_within.h) (by kernel_rfl) (by kernel_rfl) (by kernel_rfl) (by kernel_rfl) tt_ok (envOk_nil) (by kernel_rfl) (by kernel_rfl) (by kernel_rfl) (by kernel_rfl) fun k x r h => (impl_within.eq k x).trans h
/-! impl.AddrOk -/
noncomputable def impl_AddrOk.c : Code := bodyOf Try.f78
def impl_AddrOk.h : Nat → Hint := look ⟨[], [], []⟩ []
def impl_AddrOk.ps : List PK := [.one]
def impl_AddrOk.rs : List RK := [.one true]
def impl_AddrOk.vs : List ResultVar := [.tmp 2]
def impl_AddrOk.x : Cx := ⟨tt, look none [(89, some impl_within.K)]⟩
def impl_AddrOk.f (k : Nat) (a0 : Int) : Option (Bool) :=
  (impl_within.f k a0 (0 : Int) (4294967295 : Int)).bind fun r1 => some r1
def impl_AddrOk.K : Ctr := ⟨impl_AddrOk.ps, impl_AddrOk.rs, false, (.int .i64), .bool, fun k x => impl_AddrOk.f k x⟩
theorem impl_AddrOk.eq (k : Nat) (x : (impl_AddrOk.K.I).den) : func impl_AddrOk.x impl_AddrOk.h impl_AddrOk.ps impl_AddrOk.rs impl_AddrOk.vs impl_AddrOk.K.I impl_AddrOk.K.O impl_AddrOk.c k x = impl_AddrOk.K.run k x := by
  show _ = impl_AddrOk.f k x
  kernel_rfl
theorem impl_AddrOk.ok : CtrOk Try.prog 78 impl_AddrOk.K :=
  CtrOk.of (fn := Try.f78) (cd := impl_AddrOk.c) (cx := impl_AddrOk.x) (hs := impl_AddrOk.h) (by kernel_rfl) (by kernel_rfl) (by kernel_rfl) (by kernel_rfl) tt_ok (envOk_cons impl_within.ok (envOk_nil)) (by kernel_rfl) (by kernel_rfl) (by kernel_rfl) (by kernel_rfl) fun k x r h => (impl_AddrOk.eq k x).trans h
/-! impl.lastBits -/
noncomputable def impl_lastBits.c : Code := bodyOf Try.f102
def impl_lastBits.h : Nat → Hint := look ⟨[], [], []⟩ []
def impl_lastBits.ps : List PK := [.one]
def impl_lastBits.rs : List RK := [.one true]
def impl_lastBits.vs : List ResultVar := [.tmp 2]
def impl_lastBits.x : Cx := ⟨tt, look none []⟩
def impl_lastBits.f (_k : Nat) (a0 : Int) : Option (Int) :=
  (bif (decide ((IntKind.i64.wrap ((32 : Int) - a0)) < (0 : Int))) then none else some (IntKind.i64.wrap ((IntKind.i64.wrap ((1 : Int) * 2 ^ (min (IntKind.i64.wrap ((32 : Int) - a0)).toNat IntKind.i64.bits))) - (1 : Int))))
def impl_lastBits.K : Ctr := ⟨impl_lastBits.ps, impl_lastBits.rs, false, (.int .i64), (.int .i64), fun k x => impl_lastBits.f k x⟩
theorem impl_lastBits.eq (k : Nat) (x : (impl_lastBits.K.I).den) : func impl_lastBits.x impl_lastBits.h impl_lastBits.ps impl_lastBits.rs impl_lastBits.vs impl_lastBits.K.I impl_lastBits.K.O impl_lastBits.c k x = impl_lastBits.K.run k x := by
  show _ = impl_lastBits.f k x
  kernel_rfl
theorem impl_lastBits.ok : CtrOk Try.prog 102 impl_lastBits.K :=
  CtrOk.of (fn := Try.f102) (cd := impl_lastBits.c) (cx := impl_lastBits.x) (hs := impl_lastBits.h) (by kernel_rfl) (by kernel_rfl) (by kernel_rfl) (by kernel_rfl) tt_ok (envOk_nil) (by kernel_rfl) (by kernel_rfl) (by kernel_rfl) (by kernel_rfl) fun k x r h => (impl_lastBits.eq k x).trans h
/-! impl.PrefixOk -/
noncomputable def impl_PrefixOk.c : Code := bodyOf Try.f62
def impl_PrefixOk.h : Nat → Hint := look ⟨[], [], []⟩ []
def impl_PrefixOk.ps : List PK := [.agg 2]
def impl_PrefixOk.rs : List RK := [.one true]
def impl_PrefixOk.vs : List ResultVar := [.tmp 2]
def impl_PrefixOk.x : Cx := ⟨tt, look none [(78, some impl_AddrOk.K), (89, some impl_within.K), (102, some impl_lastBits.K)]⟩
def impl_PrefixOk.f (k : Nat) (a0_0 : Int) (a0_1 : Int) : Option (Bool) :=
  (impl_AddrOk.f k a0_0).bind fun r1 => (bif r1 then (impl_within.f k a0_1 (0 : Int) (32 : Int)).bind fun r2 => (bif r2 then (impl_lastBits.f k a0_1).bind fun r3 => some ((IntKind.i64.wrap (((BitVec.ofInt IntKind.i64.bits a0_0) &&& (BitVec.ofInt IntKind.i64.bits r3)).toNat : Int)) == (0 : Int)) else some false) else some false)
def impl_PrefixOk.K : Ctr := ⟨impl_PrefixOk.ps, impl_PrefixOk.rs, false, (.two (.int .i64) (.int .i64)), .bool, fun k x => impl_PrefixOk.f k x.1 x.2⟩
theorem impl_PrefixOk.eq (k : Nat) (x : (impl_PrefixOk.K.I).den) : func impl_PrefixOk.x impl_PrefixOk.h impl_PrefixOk.ps impl_PrefixOk.rs impl_PrefixOk.vs impl_PrefixOk.K.I impl_PrefixOk.K.O impl_PrefixOk.c k x = impl_PrefixOk.K.run k x := by
  show _ = impl_PrefixOk.f k x.1 x.2
  kernel_rfl
theorem impl_PrefixOk.ok : CtrOk Try.prog 62 impl_PrefixOk.K :=
  CtrOk.of (fn := Try.f62) (cd := impl_PrefixOk.c) (cx := impl_PrefixOk.x) (hs := impl_PrefixOk.h) (by kernel_rfl) (by kernel_rfl) (by kernel_rfl) (by kernel_rfl) tt_ok (envOk_cons impl_AddrOk.ok (envOk_cons impl_within.ok (envOk_cons impl_lastBits.ok (envOk_nil)))) (by kernel_rfl) (by kernel_rfl) (by kernel_rfl) (by kernel_rfl) fun k x r h => (impl_PrefixOk.eq k x).trans h
/-! impl.isId -/
noncomputable def impl_isId.c : Code := bodyOf Try.f63
def impl_isId.h : Nat → Hint := look ⟨[], [], []⟩ []
def impl_isId.ps : List PK := [.one]
def impl_isId.rs : List RK := [.one true]
def impl_isId.vs : List ResultVar := [.tmp 2]
def impl_isId.x : Cx := ⟨tt, look none [(89, some impl_within.K)]⟩
def impl_isId.f (k : Nat) (a0 : Int) : Option (Bool) :=
  (impl_within.f k a0 (1 : Int) (99 : Int)).bind fun r1 => some r1
def impl_isId.K : Ctr := ⟨impl_isId.ps, impl_isId.rs, false, (.int .i64), .bool, fun k x => impl_isId.f k x⟩
theorem impl_isId.eq (k : Nat) (x : (impl_isId.K.I).den) : func impl_isId.x impl_isId.h impl_isId.ps impl_isId.rs impl_isId.vs impl_isId.K.I impl_isId.K.O impl_isId.c k x = impl_isId.K.run k x := by
  show _ = impl_isId.f k x
  kernel_rfl
theorem impl_isId.ok : CtrOk Try.prog 63 impl_isId.K :=
  CtrOk.of (fn := Try.f63) (cd := impl_isId.c) (cx := impl_isId.x) (hs := impl_isId.h) (by kernel_rfl) (by kernel_rfl) (by kernel_rfl) (by kernel_rfl) tt_ok (envOk_cons impl_within.ok (envOk_nil)) (by kernel_rfl) (by kernel_rfl) (by kernel_rfl) (by kernel_rfl) fun k x r h => (impl_isId.eq k x).trans h
/-! impl.RoutesOk -/
noncomputable def impl_RoutesOk.c : Code := bodyOf Try.f23
def impl_RoutesOk.h : Nat → Hint := look ⟨[], [], []⟩ [(0, ⟨[0, 5, 6, 7], [], []⟩)]
def impl_RoutesOk.ps : List PK := [.one]
def impl_RoutesOk.rs : List RK := [.one true]
def impl_RoutesOk.vs : List ResultVar := [.tmp 2]
def impl_RoutesOk.x : Cx := ⟨tt, look none [(62, some impl_PrefixOk.K), (63, some impl_isId.K), (64, some impl_comparePrefixes.K)]⟩
def impl_RoutesOk.s0 (k : Nat) (rec0 : (Int × Int × (List (Int × Int × Int))) → Option (Bool)) (p : (Int × Int × (List (Int × Int × Int)))) : Option (Bool) :=
  (bif (decide (p.2.1 < p.1)) then (bif ((decide ((0 : Int) ≤ p.2.1)) && (decide (p.2.1 < (p.2.2.length : Int)))) then (p.2.2[p.2.1.toNat]?).bind fun x1 => (impl_PrefixOk.f k x1.1 x1.2.1).bind fun r2 => (bif (!r2) then some false else (impl_isId.f k x1.2.2).bind fun r3 => (bif (!r3) then some false else (bif (decide (p.2.1 > (0 : Int))) then (bif ((decide ((0 : Int) ≤ (IntKind.i64.wrap (p.2.1 - (1 : Int))))) && (decide ((IntKind.i64.wrap (p.2.1 - (1 : Int))) < (p.2.2.length : Int)))) then (p.2.2[(IntKind.i64.wrap (p.2.1 - (1 : Int))).toNat]?).bind fun x4 => (impl_comparePrefixes.f k x4.1 x4.2.1 x1.1 x1.2.1).bind fun r5 => (bif (decide (r5 ≥ (0 : Int))) then some false else rec0 (p.1, (IntKind.i64.wrap (p.2.1 + (1 : Int))), p.2.2)) else none) else rec0 (p.1, (IntKind.i64.wrap (p.2.1 + (1 : Int))), p.2.2)))) else none) else some (decide ((p.2.2.length : Int) ≤ (12 : Int))))
def impl_RoutesOk.l0 (k : Nat) : Nat → (Int × Int × (List (Int × Int × Int))) → Option (Bool)
  | 0 => fun _ => none
  | j + 1 => impl_RoutesOk.s0 k (impl_RoutesOk.l0 k j)
def impl_RoutesOk.S0 (p : (Int × Int × (List (Int × Int × Int)))) : DS := ⟨tl [(0, .at (.whole 0)), (5, .at (.whole 0)), (6, .at (.int .i64 p.1)), (7, .at (.int .i64 p.2.1))], lookO [(0, .row 65 (.two (.int .i64) (.two (.int .i64) (.int .i64))) false p.2.2)]⟩
noncomputable def impl_RoutesOk.D0 (k : Nat) (j : Nat) (p : (Int × Int × (List (Int × Int × Int)))) : Option (Bool) := loopK (norm [0] (impl_RoutesOk.h 0)) (runK impl_RoutesOk.x k 0 [0] impl_RoutesOk.h 0 (sub impl_RoutesOk.c [1, 0, 1, 0, 0])) j (impl_RoutesOk.S0 p) (kBlk 0 (kSeq (runK impl_RoutesOk.x k 0 [0] impl_RoutesOk.h 0 (sub impl_RoutesOk.c [1, 1])) (fin tt impl_RoutesOk.ps impl_RoutesOk.rs impl_RoutesOk.vs .bool)))
theorem impl_RoutesOk.D0_eq (k : Nat) : ∀ j, impl_RoutesOk.D0 k j = impl_RoutesOk.l0 k j := by
  intro j
  induction j with
  | zero => rfl
  | succ j ih =>
    show _ = impl_RoutesOk.s0 k (impl_RoutesOk.l0 k j)
    rw [← ih]
    funext p
    kernel_rfl
def impl_RoutesOk.f (k : Nat) (a0 : List (Int × Int × Int)) : Option (Bool) :=
  impl_RoutesOk.l0 k k ((a0.length : Int), (0 : Int), a0)
def impl_RoutesOk.K : Ctr := ⟨impl_RoutesOk.ps, impl_RoutesOk.rs, false, (.sl 65 (.two (.int .i64) (.two (.int .i64) (.int .i64)))), .bool, fun k x => impl_RoutesOk.f k x⟩
theorem impl_RoutesOk.eq (k : Nat) (x : (impl_RoutesOk.K.I).den) : func impl_RoutesOk.x impl_RoutesOk.h impl_RoutesOk.ps impl_RoutesOk.rs impl_RoutesOk.vs impl_RoutesOk.K.I impl_RoutesOk.K.O impl_RoutesOk.c k x = impl_RoutesOk.K.run k x := by
  show _ = impl_RoutesOk.f k x
  unfold impl_RoutesOk.f
  rw [← impl_RoutesOk.D0_eq k k]
  kernel_rfl
theorem impl_RoutesOk.ok : CtrOk Try.prog 23 impl_RoutesOk.K :=
  CtrOk.of (fn := Try.f23) (cd := impl_RoutesOk.c) (cx := impl_RoutesOk.x) (hs := impl_RoutesOk.h) (by kernel_rfl) (by kernel_rfl) (by kernel_rfl) (by kernel_rfl) tt_ok (envOk_cons impl_PrefixOk.ok (envOk_cons impl_isId.ok (envOk_cons impl_comparePrefixes.ok (envOk_nil)))) (by kernel_rfl) (by kernel_rfl) (by kernel_rfl) (by kernel_rfl) fun k x r h => (impl_RoutesOk.eq k x).trans h
/-! impl.PutRoute -/
noncomputable def impl_PutRoute.c : Code := bodyOf Try.f54
def impl_PutRoute.h : Nat → Hint := look ⟨[], [], []⟩ [(0, ⟨[0, 3, 6, 7], [48], [(.t 6, 720, 65, (.two (.int .i64) (.two (.int .i64) (.int .i64))))]⟩)]
def impl_PutRoute.ps : List PK := [.one, .agg 3]
def impl_PutRoute.rs : List RK := [.one true, .one true]
def impl_PutRoute.vs : List ResultVar := [.tmp 4, .tmp 5]
def impl_PutRoute.x : Cx := ⟨tt, look none [(86, some impl_withoutPrefix.K), (64, some impl_comparePrefixes.K), (100, some slices_Insert_impl_Route_impl_Route.K), (23, some impl_RoutesOk.K), (56, some impl_copyRoutes.K)]⟩
def impl_PutRoute.s0 (k : Nat) (rec0 : (Int × (List (Int × Int × Int)) × Int × Int × Int × (List (Int × Int × Int))) → Option ((List (Int × Int × Int)) × Bool)) (p : (Int × (List (Int × Int × Int)) × Int × Int × Int × (List (Int × Int × Int)))) : Option ((List (Int × Int × Int)) × Bool) :=
  (bif (decide (p.1 < (p.2.2.2.2.2.length : Int))) then (bif ((decide ((0 : Int) ≤ p.1)) && (decide (p.1 < (p.2.2.2.2.2.length : Int)))) then (p.2.2.2.2.2[p.1.toNat]?).bind fun x2 => (impl_comparePrefixes.f k x2.1 x2.2.1 p.2.2.1 p.2.2.2.1).bind fun r3 => (bif (decide (r3 < (0 : Int))) then rec0 ((IntKind.i64.wrap (p.1 + (1 : Int))), p.2.1, p.2.2.1, p.2.2.2.1, p.2.2.2.2.1, p.2.2.2.2.2) else (slices_Insert_impl_Route_impl_Route.f k p.2.2.2.2.2 p.1 [(p.2.2.1, p.2.2.2.1, p.2.2.2.2.1)]).bind fun r4 => (impl_RoutesOk.f k p.2.1).bind fun r5 => (bif (!r5) then (impl_copyRoutes.f k p.2.1).bind fun r6 => some (r6, false) else (impl_RoutesOk.f k r4).bind fun r7 => (bif (!r7) then (impl_copyRoutes.f k p.2.1).bind fun r8 => some (r8, false) else some (r4, true)))) else none) else (slices_Insert_impl_Route_impl_Route.f k p.2.2.2.2.2 p.1 [(p.2.2.1, p.2.2.2.1, p.2.2.2.2.1)]).bind fun r9 => (impl_RoutesOk.f k p.2.1).bind fun r10 => (bif (!r10) then (impl_copyRoutes.f k p.2.1).bind fun r11 => some (r11, false) else (impl_RoutesOk.f k r9).bind fun r12 => (bif (!r12) then (impl_copyRoutes.f k p.2.1).bind fun r13 => some (r13, false) else some (r9, true))))
def impl_PutRoute.l0 (k : Nat) : Nat → (Int × (List (Int × Int × Int)) × Int × Int × Int × (List (Int × Int × Int))) → Option ((List (Int × Int × Int)) × Bool)
  | 0 => fun _ => none
  | j + 1 => impl_PutRoute.s0 k (impl_PutRoute.l0 k j)
def impl_PutRoute.S0 (p : (Int × (List (Int × Int × Int)) × Int × Int × Int × (List (Int × Int × Int)))) : DS := ⟨tl [(0, .at (.whole 0)), (3, .at (.bptr 48 0)), (6, .at (.whole 720)), (7, .at (.int .i64 p.1))], lookO [(0, .row 65 (.two (.int .i64) (.two (.int .i64) (.int .i64))) false p.2.1), (48, .box 65 [.int .i64 p.2.2.1, .int .i64 p.2.2.2.1, .int .i64 p.2.2.2.2.1]), (720, .row 65 (.two (.int .i64) (.two (.int .i64) (.int .i64))) true p.2.2.2.2.2)]⟩
noncomputable def impl_PutRoute.D0 (k : Nat) (j : Nat) (p : (Int × (List (Int × Int × Int)) × Int × Int × Int × (List (Int × Int × Int)))) : Option ((List (Int × Int × Int)) × Bool) := loopK (norm [0] (impl_PutRoute.h 0)) (runK impl_PutRoute.x k 0 [0] impl_PutRoute.h 0 (sub impl_PutRoute.c [1, 1, 1, 0, 0, 0])) j (impl_PutRoute.S0 p) (kBlk 0 (kSeq (runK impl_PutRoute.x k 0 [0] impl_PutRoute.h 0 (sub impl_PutRoute.c [1, 1, 1, 1])) (fin tt impl_PutRoute.ps impl_PutRoute.rs impl_PutRoute.vs (.two (.sl 65 (.two (.int .i64) (.two (.int .i64) (.int .i64)))) .bool))))
theorem impl_PutRoute.D0_eq (k : Nat) : ∀ j, impl_PutRoute.D0 k j = impl_PutRoute.l0 k j := by
  intro j
  induction j with
  | zero => rfl
  | succ j ih =>
    show _ = impl_PutRoute.s0 k (impl_PutRoute.l0 k j)
    rw [← ih]
    funext p
    kernel_rfl
def impl_PutRoute.f (k : Nat) (a0 : List (Int × Int × Int)) (a1_0 : Int) (a1_1 : Int) (a1_2 : Int) : Option ((List (Int × Int × Int)) × Bool) :=
  (impl_withoutPrefix.f k a0 a1_0 a1_1).bind fun r1 => impl_PutRoute.l0 k k ((0 : Int), a0, a1_0, a1_1, a1_2, r1)
def impl_PutRoute.K : Ctr := ⟨impl_PutRoute.ps, impl_PutRoute.rs, false, (.two (.sl 65 (.two (.int .i64) (.two (.int .i64) (.int .i64)))) (.two (.int .i64) (.two (.int .i64) (.int .i64)))), (.two (.sl 65 (.two (.int .i64) (.two (.int .i64) (.int .i64)))) .bool), fun k x => impl_PutRoute.f k x.1 x.2.1 x.2.2.1 x.2.2.2⟩
theorem impl_PutRoute.eq (k : Nat) (x : (impl_PutRoute.K.I).den) : func impl_PutRoute.x impl_PutRoute.h impl_PutRoute.ps impl_PutRoute.rs impl_PutRoute.vs impl_PutRoute.K.I impl_PutRoute.K.O impl_PutRoute.c k x = impl_PutRoute.K.run k x := by
  show _ = impl_PutRoute.f k x.1 x.2.1 x.2.2.1 x.2.2.2
  unfold impl_PutRoute.f
  rw [← impl_PutRoute.D0_eq k k]
  kernel_rfl
theorem impl_PutRoute.ok : CtrOk Try.prog 54 impl_PutRoute.K :=
  CtrOk.of (fn := Try.f54) (cd := impl_PutRoute.c) (cx := impl_PutRoute.x) (hs := impl_PutRoute.h) (by kernel_rfl) (by kernel_rfl) (by kernel_rfl) (by kernel_rfl) tt_ok (envOk_cons impl_withoutPrefix.ok (envOk_cons impl_comparePrefixes.ok (envOk_cons slices_Insert_impl_Route_impl_Route.ok (envOk_cons impl_RoutesOk.ok (envOk_cons impl_copyRoutes.ok (envOk_nil)))))) (by kernel_rfl) (by kernel_rfl) (by kernel_rfl) (by kernel_rfl) fun k x r h => (impl_PutRoute.eq k x).trans h
/-! laws.eqPrefix -/
noncomputable def laws_eqPrefix.c : Code := bodyOf Try.f69
def laws_eqPrefix.h : Nat → Hint := look ⟨[], [], []⟩ []
def laws_eqPrefix.ps : List PK := [.agg 2, .agg 2]
def laws_eqPrefix.rs : List RK := [.one true]
def laws_eqPrefix.vs : List ResultVar := [.tmp 4]
def laws_eqPrefix.x : Cx := ⟨tt, look none []⟩
def laws_eqPrefix.f (_k : Nat) (a0_0 : Int) (a0_1 : Int) (a1_0 : Int) (a1_1 : Int) : Option (Bool) :=
  (bif (a0_0 != a1_0) then some false else (bif (a0_1 != a1_1) then some false else some true))
def laws_eqPrefix.K : Ctr := ⟨laws_eqPrefix.ps, laws_eqPrefix.rs, false, (.two (.int .i64) (.two (.int .i64) (.two (.int .i64) (.int .i64)))), .bool, fun k x => laws_eqPrefix.f k x.1 x.2.1 x.2.2.1 x.2.2.2⟩
theorem laws_eqPrefix.eq (k : Nat) (x : (laws_eqPrefix.K.I).den) : func laws_eqPrefix.x laws_eqPrefix.h laws_eqPrefix.ps laws_eqPrefix.rs laws_eqPrefix.vs laws_eqPrefix.K.I laws_eqPrefix.K.O laws_eqPrefix.c k x = laws_eqPrefix.K.run k x := by
  show _ = laws_eqPrefix.f k x.1 x.2.1 x.2.2.1 x.2.2.2
  kernel_rfl
theorem laws_eqPrefix.ok : CtrOk Try.prog 69 laws_eqPrefix.K :=
  CtrOk.of (fn := Try.f69) (cd := laws_eqPrefix.c) (cx := laws_eqPrefix.x) (hs := laws_eqPrefix.h) (by kernel_rfl) (by kernel_rfl) (by kernel_rfl) (by kernel_rfl) tt_ok (envOk_nil) (by kernel_rfl) (by kernel_rfl) (by kernel_rfl) (by kernel_rfl) fun k x r h => (laws_eqPrefix.eq k x).trans h
/-! laws.eqRoute -/
noncomputable def laws_eqRoute.c : Code := bodyOf Try.f58
def laws_eqRoute.h : Nat → Hint := look ⟨[], [], []⟩ []
def laws_eqRoute.ps : List PK := [.agg 3, .agg 3]
def laws_eqRoute.rs : List RK := [.one true]
def laws_eqRoute.vs : List ResultVar := [.tmp 4]
def laws_eqRoute.x : Cx := ⟨tt, look none [(69, some laws_eqPrefix.K)]⟩
def laws_eqRoute.f (k : Nat) (a0_0 : Int) (a0_1 : Int) (a0_2 : Int) (a1_0 : Int) (a1_1 : Int) (a1_2 : Int) : Option (Bool) :=
  (laws_eqPrefix.f k a0_0 a0_1 a1_0 a1_1).bind fun r1 => (bif (!r1) then some false else (bif (a0_2 != a1_2) then some false else some true))
def laws_eqRoute.K : Ctr := ⟨laws_eqRoute.ps, laws_eqRoute.rs, false, (.two (.int .i64) (.two (.int .i64) (.two (.int .i64) (.two (.int .i64) (.two (.int .i64) (.int .i64)))))), .bool, fun k x => laws_eqRoute.f k x.1 x.2.1 x.2.2.1 x.2.2.2.1 x.2.2.2.2.1 x.2.2.2.2.2⟩
theorem laws_eqRoute.eq (k : Nat) (x : (laws_eqRoute.K.I).den) : func laws_eqRoute.x laws_eqRoute.h laws_eqRoute.ps laws_eqRoute.rs laws_eqRoute.vs laws_eqRoute.K.I laws_eqRoute.K.O laws_eqRoute.c k x = laws_eqRoute.K.run k x := by
  show _ = laws_eqRoute.f k x.1 x.2.1 x.2.2.1 x.2.2.2.1 x.2.2.2.2.1 x.2.2.2.2.2
  kernel_rfl
theorem laws_eqRoute.ok : CtrOk Try.prog 58 laws_eqRoute.K :=
  CtrOk.of (fn := Try.f58) (cd := laws_eqRoute.c) (cx := laws_eqRoute.x) (hs := laws_eqRoute.h) (by kernel_rfl) (by kernel_rfl) (by kernel_rfl) (by kernel_rfl) tt_ok (envOk_cons laws_eqPrefix.ok (envOk_nil)) (by kernel_rfl) (by kernel_rfl) (by kernel_rfl) (by kernel_rfl) fun k x r h => (laws_eqRoute.eq k x).trans h
/-! laws.eqRouteS -/
noncomputable def laws_eqRouteS.c : Code := bodyOf Try.f19
def laws_eqRouteS.h : Nat → Hint := look ⟨[], [], []⟩ [(0, ⟨[0, 1, 5], [], []⟩)]
def laws_eqRouteS.ps : List PK := [.one, .one]
def laws_eqRouteS.rs : List RK := [.one true]
def laws_eqRouteS.vs : List ResultVar := [.tmp 4]
def laws_eqRouteS.x : Cx := ⟨tt, look none [(58, some laws_eqRoute.K)]⟩
def laws_eqRouteS.s0 (k : Nat) (rec0 : (Int × (List (Int × Int × Int)) × (List (Int × Int × Int))) → Option (Bool)) (p : (Int × (List (Int × Int × Int)) × (List (Int × Int × Int)))) : Option (Bool) :=
  (bif (decide (p.1 < (p.2.1.length : Int))) then (bif ((decide ((0 : Int) ≤ p.1)) && (decide (p.1 < (p.2.1.length : Int)))) then (p.2.1[p.1.toNat]?).bind fun x1 => (bif ((decide ((0 : Int) ≤ p.1)) && (decide (p.1 < (p.2.2.length : Int)))) then (p.2.2[p.1.toNat]?).bind fun x2 => (laws_eqRoute.f k x1.1 x1.2.1 x1.2.2 x2.1 x2.2.1 x2.2.2).bind fun r3 => (bif (!r3) then some false else rec0 ((IntKind.i64.wrap (p.1 + (1 : Int))), p.2.1, p.2.2)) else none) else none) else some true)
def laws_eqRouteS.l0 (k : Nat) : Nat → (Int × (List (Int × Int × Int)) × (List (Int × Int × Int))) → Option (Bool)
  | 0 => fun _ => none
  | j + 1 => laws_eqRouteS.s0 k (laws_eqRouteS.l0 k j)
def laws_eqRouteS.S0 (p : (Int × (List (Int × Int × Int)) × (List (Int × Int × Int)))) : DS := ⟨tl [(0, .at (.whole 0)), (1, .at (.whole 16)), (5, .at (.int .i64 p.1))], lookO [(0, .row 65 (.two (.int .i64) (.two (.int .i64) (.int .i64))) false p.2.1), (16, .row 65 (.two (.int .i64) (.two (.int .i64) (.int .i64))) false p.2.2)]⟩
noncomputable def laws_eqRouteS.D0 (k : Nat) (j : Nat) (p : (Int × (List (Int × Int × Int)) × (List (Int × Int × Int)))) : Option (Bool) := loopK (norm [0, 16] (laws_eqRouteS.h 0)) (runK laws_eqRouteS.x k 0 [0, 16] laws_eqRouteS.h 0 (sub laws_eqRouteS.c [1, 1, 0, 1, 0, 0])) j (laws_eqRouteS.S0 p) (kBlk 0 (kSeq (runK laws_eqRouteS.x k 0 [0, 16] laws_eqRouteS.h 0 (sub laws_eqRouteS.c [1, 1, 1])) (fin tt laws_eqRouteS.ps laws_eqRouteS.rs laws_eqRouteS.vs .bool)))
theorem laws_eqRouteS.D0_eq (k : Nat) : ∀ j, laws_eqRouteS.D0 k j = laws_eqRouteS.l0 k j := by
  intro j
  induction j with
  | zero => rfl
  | succ j ih =>
    show _ = laws_eqRouteS.s0 k (laws_eqRouteS.l0 k j)
    rw [← ih]
    funext p
    kernel_rfl
def laws_eqRouteS.f (k : Nat) (a0 : List (Int × Int × Int)) (a1 : List (Int × Int × Int)) : Option (Bool) :=
  (bif ((a0.length : Int) != (a1.length : Int)) then some false else laws_eqRouteS.l0 k k ((0 : Int), a0, a1))
def laws_eqRouteS.K : Ctr := ⟨laws_eqRouteS.ps, laws_eqRouteS.rs, false, (.two (.sl 65 (.two (.int .i64) (.two (.int .i64) (.int .i64)))) (.sl 65 (.two (.int .i64) (.two (.int .i64) (.int .i64))))), .bool, fun k x => laws_eqRouteS.f k x.1 x.2⟩
theorem laws_eqRouteS.eq (k : Nat) (x : (laws_eqRouteS.K.I).den) : func laws_eqRouteS.x laws_eqRouteS.h laws_eqRouteS.ps laws_eqRouteS.rs laws_eqRouteS.vs laws_eqRouteS.K.I laws_eqRouteS.K.O laws_eqRouteS.c k x = laws_eqRouteS.K.run k x := by
  show _ = laws_eqRouteS.f k x.1 x.2
  unfold laws_eqRouteS.f
  rw [← laws_eqRouteS.D0_eq k k]
  kernel_rfl
theorem laws_eqRouteS.ok : CtrOk Try.prog 19 laws_eqRouteS.K :=
  CtrOk.of (fn := Try.f19) (cd := laws_eqRouteS.c) (cx := laws_eqRouteS.x) (hs := laws_eqRouteS.h) (by kernel_rfl) (by kernel_rfl) (by kernel_rfl) (by kernel_rfl) tt_ok (envOk_cons laws_eqRoute.ok (envOk_nil)) (by kernel_rfl) (by kernel_rfl) (by kernel_rfl) (by kernel_rfl) fun k x r h => (laws_eqRouteS.eq k x).trans h
end Go.Proofs.Ytbddppnhpapfkaa.DI
