/- The row of FnExactKeysOf: for every input the law returns true, and each argument reads behind the call as it read before. No condition. -/
import Derived.Test.YtpinehfjimphmaaRows
import Derived.Test.YtpinehfjimphmaaGoalFnExactKeysOf
import Derived.Test.YtpinehfjimphmaaPureFnExactKeysOf
import Derived.Test.YtpinehfjimphmaaDIOpen
import Derived.WalkKit
import Derived.ProofKit
import Derived.OpenShut
import Derived.ShutString
import Derived.ChangeOld
import Derived.Below
import Derived.SizedLaws
namespace Go.Proofs.Ytpinehfjimphmaa.fnExactKeysOf
open Go.ChangeShapes Go.WideShapes Go.ChangeAt Go.RowKit Go.Proofs.Ytpinehfjimphmaa.DI
set_option linter.unusedVariables false
theorem own : ownKnob Try.prog.godebug = none := by kernel_rfl
theorem laidOut : laidOutB Try.prog = true := by kernel_rfl
set_option maxRecDepth 100000 in
theorem o23 : OpT Try.prog 23 (.two (.int .i64) (.two (.int .i64) (.two (.int .i64) (.two (.int .i64) (.two (.int .i64) (.two .str .str)))))) ok23 := OpT.weaken (opt_struct Try.underlying23 (by kernel_rfl) (opft_cons rfl (opt_int Try.underlying3 (by kernel_rfl)) (opft_cons rfl (opt_int Try.underlying3 (by kernel_rfl)) (opft_cons rfl (opt_int Try.underlying3 (by kernel_rfl)) (opft_cons rfl (opt_int Try.underlying3 (by kernel_rfl)) (opft_cons rfl (opt_int Try.underlying3 (by kernel_rfl)) (opft_cons rfl (opt_string Try.underlying9 (by kernel_rfl)) (opft_one rfl (opt_string Try.underlying9 (by kernel_rfl)))))))))) (fun _ h => h)
set_option maxRecDepth 100000 in
set_option maxHeartbeats 4000000 in
theorem lifted (os : Os) (started : os.Started) (H : Type) (enc : TypeId × Value → H) :
    ReturnsInHanded {} Try.checked os 6 .any (Rows.fnExactKeysOfSpec.pre6 enc Try.prog Try.f6 Rows.fnExactKeysOfRow.domain false) (Rows.fnExactKeysOfSpec.post enc Try.prog Try.f6 false true false false) := by
  refine returnsInHanded_of_change_sized (C := Try.checked) own started (by kernel_rfl) Try.func6
    (ChangeSpec.witness6 (enc := enc) (C := Try.checked) false ⟨#[], #[.agg #[.int .i64 0, .int .i64 0, .int .i64 0, .int .i64 0, .int .i64 0, .string ByteArray.empty, .string ByteArray.empty]], []⟩ 8 (by kernel_rfl) (by kernel_rfl) (by kernel_rfl) (by kernel_rfl)) ?_
  intro W base args ds gs before hval0 hW hcnd hsz0 _
  have hsz : (DataW.weightsEach Try.prog (Try.f6.params.toList ++ Rows.fnExactKeysOfSpec.plain.varTypes Try.prog) (ds ++ gs)).all (· ≤ reachBytes) = true := hsz0
  have hval : ∀ (j : Nat) t v, Try.f6.params[j]? = some t → args[j]? = some v → Value.okWide Try.prog W .any base t v := hval0
  have hW' := hW
  obtain ⟨p, q, hA0, hV, rfl, hfz, hnd⟩ := hW
  have hA : DataW.TrodAll enc Try.prog W 0 (fun _ => true) true Try.f6.params.toList args.toList ds p := hA0
  rw [Try.params6] at hA hval hsz
  obtain ⟨v0, vs0, d0, ds0, p0, q0, hargs, rfl, rfl, h0, r0⟩ := trodAll_cons hA
  obtain ⟨rfl, rfl, rfl⟩ := trodAll_nil r0
  obtain rfl : args = #[v0] := by cases args; simp_all
  obtain ⟨rfl, rfl⟩ := trodVars_none hV
  have k0_ := h0
  have lt0 : ∀ x ∈ p0, x.block < W.heap.size := by obtain ⟨m, hm⟩ := k0_; exact DataW.trod_lt m _ _ _ hm
  obtain ⟨y0, hK0, g0⟩ := OpT.arg o23 h0 hsz (j := 0) rfl rfl
  obtain ⟨cs0, rfl, _⟩ := okWide_struct Try.underlying23 (hval 0 23 v0 rfl rfl)
  obtain ⟨g0_0, g0_1, g0_2, g0_3, g0_4, g0_5, g0_6⟩ := g0
  clear hA0 hval0 hsz0 hsz
  obtain ⟨k, h⟩ := Pure.FnExactKeysOf (y0.1) (y0.2.1) (y0.2.2.1) (y0.2.2.2.1) (y0.2.2.2.2.1) (y0.2.2.2.2.2.1) (y0.2.2.2.2.2.2) g0_0 g0_1 g0_2 g0_3 g0_4 g0_5 g0_6
  have hr : laws_FnExactKeysOf.K.run k (y0.1, y0.2.1, y0.2.2.1, y0.2.2.2.1, y0.2.2.2.2.1, y0.2.2.2.2.2.1, y0.2.2.2.2.2.2) = some true := h
  refine (CtrOk.root (show CtrOk Try.prog 6 ⟨laws_FnExactKeysOf.ps, [.one true], _, _, .bool, _⟩ from laws_FnExactKeysOf.ok) (by kernel_rfl) (vals := [_]) (x := (y0.1, y0.2.1, y0.2.2.1, y0.2.2.2.1, y0.2.2.2.2.1, y0.2.2.2.2.2.1, y0.2.2.2.2.2.2)) (by kernel_rfl) (⟨arg_agg (t := (.two (.int .i64) (.two (.int .i64) (.two (.int .i64) (.two (.int .i64) (.two (.int .i64) (.two .str .str))))))) (x := y0) hK0 (by kernel_rfl), ⟨rfl, rfl⟩⟩) hr).mono fun e W' ⟨he, bel⟩ => ?_
  subst he
  exact ⟨_, rfl, _, _, _, [], _, [], hW', trodAll_mk1 (shut_bool Try.underlying4 _), (trodAll_cons_mk (Below.trod laidOut (by kernel_rfl) (of_decide_eq_true (by kernel_rfl)) k0_ bel lt0) trodAll_mk0), rfl, bel.frame _, fun h => by cases h⟩
theorem over : Rows.fnExactKeysOfRow.holds Try.pinned (OpenSpec.ofChange Rows.fnExactKeysOfSpec) :=
  OpenClaim.holds_of_wide 6 Try.f6 rfl rfl rfl rfl rfl rfl rfl ⟨rfl, rfl, rfl, rfl, rfl⟩ rfl rfl rfl rfl rfl (by kernel_rfl) Try.func6 (by kernel_rfl)
    (of_decide_eq_true (by kernel_rfl)) (by unfold Func.isWrapper; first | (rw [if_pos (by decide +kernel)]; kernel_rfl) | (rw [if_neg (by decide +kernel)]; exact ⟨rfl, rfl⟩))
    (fun os started H enc _ => lifted os started H enc)
theorem proved : Rows.FnExactKeysOfSaid := over
end Go.Proofs.Ytpinehfjimphmaa.fnExactKeysOf
namespace Go.Proofs.Ytpinehfjimphmaa
/-- The row, under a short name, for the claim. -/
theorem fnExactKeysOf_holds : Rows.FnExactKeysOfSaid := fnExactKeysOf.proved
#print axioms fnExactKeysOf_holds
end Go.Proofs.Ytpinehfjimphmaa
