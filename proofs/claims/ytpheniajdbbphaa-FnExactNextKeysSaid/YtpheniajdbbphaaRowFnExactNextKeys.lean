/- The row of FnExactNextKeys: for every input the law returns true, and each argument reads behind the call as it read before. No condition. -/
import Derived.Test.YtpheniajdbbphaaRows
import Derived.Test.YtpheniajdbbphaaGoalFnExactNextKeys
import Derived.Test.YtpheniajdbbphaaPureFnExactNextKeys
import Derived.Test.YtpheniajdbbphaaDIOpen
import Derived.WalkKit
import Derived.ProofKit
import Derived.OpenShut
import Derived.ShutString
import Derived.ChangeOld
import Derived.Below
import Derived.SizedLaws
namespace Go.Proofs.Ytpheniajdbbphaa.fnExactNextKeys
open Go.ChangeShapes Go.WideShapes Go.ChangeAt Go.RowKit Go.Proofs.Ytpheniajdbbphaa.DI
set_option linter.unusedVariables false
theorem own : ownKnob Try.prog.godebug = none := by kernel_rfl
theorem laidOut : laidOutB Try.prog = true := by kernel_rfl
set_option maxRecDepth 100000 in
set_option maxHeartbeats 4000000 in
theorem lifted (os : Os) (started : os.Started) (H : Type) (enc : TypeId × Value → H) :
    ReturnsInHanded {} Try.checked os 10 .any (Rows.fnExactNextKeysSpec.pre6 enc Try.prog Try.f10 Rows.fnExactNextKeysRow.domain false) (Rows.fnExactNextKeysSpec.post enc Try.prog Try.f10 false true false false) := by
  refine returnsInHanded_of_change_sized (C := Try.checked) own started (by kernel_rfl) Try.func10
    (ChangeSpec.witness6 (enc := enc) (C := Try.checked) false ⟨#[], #[.string ByteArray.empty, .string ByteArray.empty], []⟩ 8 (by kernel_rfl) (by kernel_rfl) (by kernel_rfl) (by kernel_rfl)) ?_
  intro W base args ds gs before hval0 hW hcnd hsz0 _
  have hsz : (DataW.weightsEach Try.prog (Try.f10.params.toList ++ Rows.fnExactNextKeysSpec.plain.varTypes Try.prog) (ds ++ gs)).all (· ≤ reachBytes) = true := hsz0
  have hval : ∀ (j : Nat) t v, Try.f10.params[j]? = some t → args[j]? = some v → Value.okWide Try.prog W .any base t v := hval0
  have hW' := hW
  obtain ⟨p, q, hA0, hV, rfl, hfz, hnd⟩ := hW
  have hA : DataW.TrodAll enc Try.prog W 0 (fun _ => true) true Try.f10.params.toList args.toList ds p := hA0
  rw [Try.params10] at hA hval hsz
  obtain ⟨v0, vs0, d0, ds0, p0, q0, hargs, rfl, rfl, h0, r0⟩ := trodAll_cons hA
  obtain ⟨v1, vs1, d1, ds1, p1, q1, rfl, rfl, rfl, h1, r1⟩ := trodAll_cons r0
  obtain ⟨rfl, rfl, rfl⟩ := trodAll_nil r1
  obtain rfl : args = #[v0, v1] := by cases args; simp_all
  obtain ⟨rfl, rfl⟩ := trodVars_none hV
  have k0_ := h0
  have lt0 : ∀ x ∈ p0, x.block < W.heap.size := by obtain ⟨m, hm⟩ := k0_; exact DataW.trod_lt m _ _ _ hm
  obtain ⟨y0, hK0, g0⟩ := OpT.arg (opt_string Try.underlying9 (by kernel_rfl)) h0 hsz (j := 0) rfl rfl
  obtain ⟨s0, rfl⟩ := okWide_string Try.underlying9 (hval 0 9 v0 rfl rfl)
  have z0 := arg_one (t := .str) (x := y0) hK0 (by kernel_rfl)
  have k1_ := h1
  have lt1 : ∀ x ∈ p1, x.block < W.heap.size := by obtain ⟨m, hm⟩ := k1_; exact DataW.trod_lt m _ _ _ hm
  obtain ⟨y1, hK1, g1⟩ := OpT.arg (opt_string Try.underlying9 (by kernel_rfl)) h1 hsz (j := 1) rfl rfl
  obtain ⟨s1, rfl⟩ := okWide_string Try.underlying9 (hval 1 9 v1 rfl rfl)
  have z1 := arg_one (t := .str) (x := y1) hK1 (by kernel_rfl)
  clear hA0 hval0 hsz0 hsz
  obtain ⟨k, h⟩ := Pure.FnExactNextKeys y0 y1 g0 g1
  have hr : laws_FnExactNextKeys.K.run k (y0, y1) = some true := h
  refine (CtrOk.root (show CtrOk Try.prog 10 ⟨laws_FnExactNextKeys.ps, [.one true], _, _, .bool, _⟩ from laws_FnExactNextKeys.ok) (by kernel_rfl) (vals := [_, _]) (x := (y0, y1)) (by kernel_rfl) (⟨z0.1, z0.2, ⟨z1.1, z1.2, ⟨rfl, rfl⟩⟩⟩) hr).mono fun e W' ⟨he, bel⟩ => ?_
  subst he
  exact ⟨_, rfl, _, _, _, [], _, [], hW', trodAll_mk1 (shut_bool Try.underlying4 _), (trodAll_cons_mk (Below.trod laidOut (by kernel_rfl) (of_decide_eq_true (by kernel_rfl)) k0_ bel lt0) (trodAll_cons_mk (Below.trod laidOut (by kernel_rfl) (of_decide_eq_true (by kernel_rfl)) k1_ bel lt1) trodAll_mk0)), rfl, bel.frame _, fun h => by cases h⟩
theorem over : Rows.fnExactNextKeysRow.holds Try.pinned (OpenSpec.ofChange Rows.fnExactNextKeysSpec) :=
  OpenClaim.holds_of_wide 10 Try.f10 rfl rfl rfl rfl rfl rfl rfl ⟨rfl, rfl, rfl, rfl, rfl⟩ rfl rfl rfl rfl rfl (by kernel_rfl) Try.func10 (by kernel_rfl)
    (of_decide_eq_true (by kernel_rfl)) (by unfold Func.isWrapper; first | (rw [if_pos (by decide +kernel)]; kernel_rfl) | (rw [if_neg (by decide +kernel)]; exact ⟨rfl, rfl⟩))
    (fun os started H enc _ => lifted os started H enc)
theorem proved : Rows.FnExactNextKeysSaid := over
end Go.Proofs.Ytpheniajdbbphaa.fnExactNextKeys
namespace Go.Proofs.Ytpheniajdbbphaa
/-- The row, under a short name, for the claim. -/
theorem fnExactNextKeys_holds : Rows.FnExactNextKeysSaid := fnExactNextKeys.proved
#print axioms fnExactNextKeys_holds
end Go.Proofs.Ytpheniajdbbphaa
