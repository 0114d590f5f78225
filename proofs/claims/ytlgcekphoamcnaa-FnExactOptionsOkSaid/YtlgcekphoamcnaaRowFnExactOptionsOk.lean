/- The row of FnExactOptionsOk: for every input the law returns true, and each argument reads behind the call as it read before. No condition. -/
import Derived.Test.YtlgcekphoamcnaaRows
import Derived.Test.YtlgcekphoamcnaaGoalFnExactOptionsOk
import Derived.Test.YtlgcekphoamcnaaPureFnExactOptionsOk
import Derived.Test.YtlgcekphoamcnaaOpen
import Derived.WalkKit
import Derived.ProofKit
import Derived.OpenShut
import Derived.ShutString
import Derived.ChangeOld
import Derived.Below
import Derived.SizedLaws
namespace Go.Proofs.Ytlgcekphoamcnaa.fnExactOptionsOk
open Go.ChangeShapes Go.WideShapes Go.ChangeAt Go.RowKit Go.Proofs.Ytlgcekphoamcnaa.Opens Go.Proofs.YtlgcekphoamcnaaW.PrintWords Go.Proofs.Ytlgcekphoamcnaa.PFnExactOptionsOk
set_option linter.unusedVariables false
theorem own : ownKnob Try.prog.godebug = none := by kernel_rfl
theorem laidOut : laidOutB Try.prog = true := by kernel_rfl
set_option maxRecDepth 100000 in
set_option maxHeartbeats 4000000 in
theorem lifted (os : Os) (started : os.Started) (H : Type) (enc : TypeId × Value → H) :
    ReturnsInHanded {} Try.checked os 13 .any (Rows.fnExactOptionsOkSpec.pre6 enc Try.prog Try.f13 Rows.fnExactOptionsOkRow.domain false) (Rows.fnExactOptionsOkSpec.post enc Try.prog Try.f13 false true false false) := by
  refine returnsInHanded_of_change_sized (C := Try.checked) own started (by kernel_rfl) Try.func13
    (ChangeSpec.witness6 (enc := enc) (C := Try.checked) false ⟨#[], #[.agg #[.int .i64 0, .slice none 0 0, .bool false]], []⟩ 8 (by kernel_rfl) (by kernel_rfl) (by kernel_rfl) (by kernel_rfl)) ?_
  intro W base args ds gs before hval0 hW hcnd hsz0 _
  have hsz : (DataW.weightsEach Try.prog (Try.f13.params.toList ++ Rows.fnExactOptionsOkSpec.plain.varTypes Try.prog) (ds ++ gs)).all (· ≤ reachBytes) = true := hsz0
  have hval : ∀ (j : Nat) t v, Try.f13.params[j]? = some t → args[j]? = some v → Value.okWide Try.prog W .any base t v := hval0
  have hW' := hW
  obtain ⟨p, q, hA0, hV, rfl, hfz, hnd⟩ := hW
  have hA : DataW.TrodAll enc Try.prog W 0 (fun _ => true) true Try.f13.params.toList args.toList ds p := hA0
  rw [Try.params13] at hA hval hsz
  obtain ⟨v0, vs0, d0, ds0, p0, q0, hargs, rfl, rfl, h0, r0⟩ := trodAll_cons hA
  obtain ⟨rfl, rfl, rfl⟩ := trodAll_nil r0
  obtain rfl : args = #[v0] := by cases args; simp_all
  obtain ⟨rfl, rfl⟩ := trodVars_none hV
  have k0_ := h0
  have lt0 : ∀ x ∈ p0, x.block < W.heap.size := by obtain ⟨m, hm⟩ := k0_; exact DataW.trod_lt m _ _ _ hm
  obtain ⟨y0, hK0, g0⟩ := Op.arg (op_struct Try.underlying91 (by kernel_rfl) (opf_cons rfl (op_int Try.underlying3 (by kernel_rfl)) (opf_cons rfl (op_slice (q := 9) (B := 16) Try.underlying39 (by kernel_rfl) (by kernel_rfl) (op_string Try.underlying9 (by kernel_rfl))) (opf_one rfl (op_bool Try.underlying4 (by kernel_rfl)))))) h0 hsz (j := 0) rfl rfl
  obtain ⟨cs0, rfl, _⟩ := okWide_struct Try.underlying91 (hval 0 91 v0 rfl rfl)
  obtain ⟨y0_0, y0_1, y0_2⟩ := y0
  obtain ⟨g0_0, g0_1, g0_2⟩ := g0
  obtain ⟨cs0⟩ := cs0
  replace hK0 : Kd.K _ W _ cs0 := hK0
  obtain ⟨_, _, rfl, rfl, ⟨_, _, rfl, ⟨A0_1, c0_1, rfl, hc0_1, hr0_1⟩, rfl⟩⟩ := hK0
  clear hA0 hval0 hsz0 hsz
  obtain ⟨k, h⟩ := Pure.FnExactOptionsOk y0_0 y0_1 y0_2 g0_0 g0_1 g0_2
  refine (laws_FnExactOptionsOk.calls k y0_0 _ _ y0_1 y0_2 true W hr0_1 hc0_1 h).mono fun e W' ⟨he, bel⟩ => ?_
  subst he
  exact ⟨_, rfl, _, _, _, [], _, [], hW', trodAll_mk1 (shut_bool Try.underlying4 _), (trodAll_cons_mk (Below.trod laidOut (by kernel_rfl) (of_decide_eq_true (by kernel_rfl)) k0_ bel lt0) trodAll_mk0), rfl, bel.frame _, fun h => by cases h⟩
theorem over : Rows.fnExactOptionsOkRow.holds Try.pinned (OpenSpec.ofChange Rows.fnExactOptionsOkSpec) :=
  OpenClaim.holds_of_wide 13 Try.f13 rfl rfl rfl rfl rfl rfl rfl ⟨rfl, rfl, rfl, rfl, rfl⟩ rfl rfl rfl rfl rfl (by kernel_rfl) Try.func13 (by kernel_rfl)
    (of_decide_eq_true (by kernel_rfl)) (by unfold Func.isWrapper; first | (rw [if_pos (by decide +kernel)]; kernel_rfl) | (rw [if_neg (by decide +kernel)]; exact ⟨rfl, rfl⟩))
    (fun os started H enc _ => lifted os started H enc)
theorem proved : Rows.FnExactOptionsOkSaid := over
end Go.Proofs.Ytlgcekphoamcnaa.fnExactOptionsOk
namespace Go.Proofs.Ytlgcekphoamcnaa
/-- The row, under a short name, for the claim. -/
theorem fnExactOptionsOk_holds : Rows.FnExactOptionsOkSaid := fnExactOptionsOk.proved
#print axioms fnExactOptionsOk_holds
end Go.Proofs.Ytlgcekphoamcnaa
