/- The row of FnCalmGreets: for every input the law returns true, and each argument reads behind the call as it read before. No condition. -/
import Derived.Test.YtpinehfjimphmaaRows
import Derived.Test.YtpinehfjimphmaaGoalFnCalmGreets
import Derived.Test.YtpinehfjimphmaaPureFnCalmGreets
import Derived.Test.YtpinehfjimphmaaDIOpen
import Derived.WalkKit
import Derived.ProofKit
import Derived.OpenShut
import Derived.ShutString
import Derived.ChangeOld
import Derived.Below
import Derived.SizedLaws
namespace Go.Proofs.Ytpinehfjimphmaa.fnCalmGreets
open Go.ChangeShapes Go.WideShapes Go.ChangeAt Go.RowKit Go.Proofs.Ytpinehfjimphmaa.DI
set_option linter.unusedVariables false
theorem own : ownKnob Try.prog.godebug = none := by kernel_rfl
theorem laidOut : laidOutB Try.prog = true := by kernel_rfl
set_option maxRecDepth 100000 in
set_option maxHeartbeats 4000000 in
theorem lifted (os : Os) (started : os.Started) (H : Type) (enc : TypeId × Value → H) :
    ReturnsInHanded {} Try.checked os 8 .any (Rows.fnCalmGreetsSpec.pre6 enc Try.prog Try.f8 Rows.fnCalmGreetsRow.domain false) (Rows.fnCalmGreetsSpec.post enc Try.prog Try.f8 false true false false) := by
  refine returnsInHanded_of_change_sized (C := Try.checked) own started (by kernel_rfl) Try.func8
    (ChangeSpec.witness6 (enc := enc) (C := Try.checked) false ⟨#[], #[.slice none 0 0], []⟩ 8 (by kernel_rfl) (by kernel_rfl) (by kernel_rfl) (by kernel_rfl)) ?_
  intro W base args ds gs before hval0 hW hcnd hsz0 _
  have hsz : (DataW.weightsEach Try.prog (Try.f8.params.toList ++ Rows.fnCalmGreetsSpec.plain.varTypes Try.prog) (ds ++ gs)).all (· ≤ reachBytes) = true := hsz0
  have hval : ∀ (j : Nat) t v, Try.f8.params[j]? = some t → args[j]? = some v → Value.okWide Try.prog W .any base t v := hval0
  have hW' := hW
  obtain ⟨p, q, hA0, hV, rfl, hfz, hnd⟩ := hW
  have hA : DataW.TrodAll enc Try.prog W 0 (fun _ => true) true Try.f8.params.toList args.toList ds p := hA0
  rw [Try.params8] at hA hval hsz
  obtain ⟨v0, vs0, d0, ds0, p0, q0, hargs, rfl, rfl, h0, r0⟩ := trodAll_cons hA
  obtain ⟨rfl, rfl, rfl⟩ := trodAll_nil r0
  obtain rfl : args = #[v0] := by cases args; simp_all
  obtain ⟨rfl, rfl⟩ := trodVars_none hV
  have k0_ := h0
  have lt0 : ∀ x ∈ p0, x.block < W.heap.size := by obtain ⟨m, hm⟩ := k0_; exact DataW.trod_lt m _ _ _ hm
  obtain ⟨y0, hK0, g0⟩ := OpT.arg (opt_slice (B := 1) Try.underlying39 (by kernel_rfl) (by kernel_rfl) (of_decide_eq_true (by kernel_rfl)) (opt_int Try.underlying5 (by kernel_rfl))) h0 hsz (j := 0) rfl rfl
  obtain ⟨a0, len0, cap0, rfl⟩ := okWide_slice Try.underlying39 (hval 0 39 v0 rfl rfl)
  have z0 := arg_one (t := (.sl 5 (.int .u8))) (x := y0) hK0 (by kernel_rfl)
  clear hA0 hval0 hsz0 hsz
  obtain ⟨k, h⟩ := Pure.FnCalmGreets y0 g0
  have hr : laws_FnCalmGreets.K.run k y0 = some true := h
  refine (CtrOk.root (show CtrOk Try.prog 8 ⟨laws_FnCalmGreets.ps, [.one true], _, _, .bool, _⟩ from laws_FnCalmGreets.ok) (by kernel_rfl) (vals := [_]) (x := y0) (by kernel_rfl) (⟨z0.1, z0.2, ⟨rfl, rfl⟩⟩) hr (GOK.none _)).mono fun e W' ⟨he, bel⟩ => ?_
  subst he
  exact ⟨_, rfl, _, _, _, [], _, [], hW', trodAll_mk1 (shut_bool Try.underlying4 _), (trodAll_cons_mk (Below.trod laidOut (by kernel_rfl) (of_decide_eq_true (by kernel_rfl)) k0_ bel lt0) trodAll_mk0), rfl, bel.frame _, fun h => by cases h⟩
theorem over : Rows.fnCalmGreetsRow.holds Try.pinned (OpenSpec.ofChange Rows.fnCalmGreetsSpec) :=
  OpenClaim.holds_of_wide 8 Try.f8 rfl rfl rfl rfl rfl rfl rfl ⟨rfl, rfl, rfl, rfl, rfl⟩ rfl rfl rfl rfl rfl (by kernel_rfl) Try.func8 (by kernel_rfl)
    (of_decide_eq_true (by kernel_rfl)) (by unfold Func.isWrapper; first | (rw [if_pos (by decide +kernel)]; kernel_rfl) | (rw [if_neg (by decide +kernel)]; exact ⟨rfl, rfl⟩))
    (fun os started H enc _ => lifted os started H enc)
theorem proved : Rows.FnCalmGreetsSaid := over
end Go.Proofs.Ytpinehfjimphmaa.fnCalmGreets
namespace Go.Proofs.Ytpinehfjimphmaa
/-- The row, under a short name, for the claim. -/
theorem fnCalmGreets_holds : Rows.FnCalmGreetsSaid := fnCalmGreets.proved
#print axioms fnCalmGreets_holds
end Go.Proofs.Ytpinehfjimphmaa
