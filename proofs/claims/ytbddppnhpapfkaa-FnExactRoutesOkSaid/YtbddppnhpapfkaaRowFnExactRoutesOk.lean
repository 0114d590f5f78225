/- The row of FnExactRoutesOk: for every input the law returns true, and each argument reads behind the call as it read before. No condition. -/
import Derived.Test.YtbddppnhpapfkaaRows
import Derived.Test.YtbddppnhpapfkaaGoalFnExactRoutesOk
import Derived.Test.YtbddppnhpapfkaaPureFnExactRoutesOk
import Derived.Test.YtbddppnhpapfkaaOpen
import Derived.WalkKit
import Derived.ProofKit
import Derived.OpenShut
import Derived.ShutString
import Derived.ChangeOld
import Derived.Below
import Derived.SizedLaws
namespace Go.Proofs.Ytbddppnhpapfkaa.fnExactRoutesOk
open Go.ChangeShapes Go.WideShapes Go.ChangeAt Go.RowKit Go.Proofs.Ytbddppnhpapfkaa.Opens Go.Proofs.YtbddppnhpapfkaaW.PrintWords Go.Proofs.Ytbddppnhpapfkaa.PFnExactRoutesOk
set_option linter.unusedVariables false
theorem own : ownKnob Try.prog.godebug = none := by kernel_rfl
theorem laidOut : laidOutB Try.prog = true := by kernel_rfl
theorem o33 : Opens.Op Try.prog 33 k33 ok33 := op_iso (op_struct Try.underlying33 (by kernel_rfl) (opf_cons rfl (op_int Try.underlying3 (by kernel_rfl)) (opf_one rfl (op_int Try.underlying3 (by kernel_rfl))))) (fun x : S33 => (x.f0, x.f1)) (fun p => (⟨p.1, p.2⟩ : S33)) (fun _ => rfl)
theorem o81 : Opens.Op Try.prog 81 k81 ok81 := op_iso (op_struct Try.underlying81 (by kernel_rfl) (opf_cons rfl o33 (opf_one rfl (op_int Try.underlying3 (by kernel_rfl))))) (fun x : S81 => (x.f0, x.f1)) (fun p => (⟨p.1, p.2⟩ : S81)) (fun _ => rfl)
set_option maxRecDepth 100000 in
set_option maxHeartbeats 4000000 in
theorem lifted (os : Os) (started : os.Started) (H : Type) (enc : TypeId × Value → H) :
    ReturnsInHanded {} Try.checked os 4 .any (Rows.fnExactRoutesOkSpec.pre6 enc Try.prog Try.f4 Rows.fnExactRoutesOkRow.domain false) (Rows.fnExactRoutesOkSpec.post enc Try.prog Try.f4 false true false false) := by
  refine returnsInHanded_of_change_sized (C := Try.checked) own started (by kernel_rfl) Try.func4
    (ChangeSpec.witness6 (enc := enc) (C := Try.checked) false ⟨#[], #[.slice none 0 0], []⟩ 8 (by kernel_rfl) (by kernel_rfl) (by kernel_rfl) (by kernel_rfl)) ?_
  intro W base args ds gs before hval0 hW hcnd hsz0 _
  have hsz : (DataW.weightsEach Try.prog (Try.f4.params.toList ++ Rows.fnExactRoutesOkSpec.plain.varTypes Try.prog) (ds ++ gs)).all (· ≤ reachBytes) = true := hsz0
  have hval : ∀ (j : Nat) t v, Try.f4.params[j]? = some t → args[j]? = some v → Value.okWide Try.prog W .any base t v := hval0
  have hW' := hW
  obtain ⟨p, q, hA0, hV, rfl, hfz, hnd⟩ := hW
  have hA : DataW.TrodAll enc Try.prog W 0 (fun _ => true) true Try.f4.params.toList args.toList ds p := hA0
  rw [Try.params4] at hA hval hsz
  obtain ⟨v0, vs0, d0, ds0, p0, q0, hargs, rfl, rfl, h0, r0⟩ := trodAll_cons hA
  obtain ⟨rfl, rfl, rfl⟩ := trodAll_nil r0
  obtain rfl : args = #[v0] := by cases args; simp_all
  obtain ⟨rfl, rfl⟩ := trodVars_none hV
  have k0_ := h0
  have lt0 : ∀ x ∈ p0, x.block < W.heap.size := by obtain ⟨m, hm⟩ := k0_; exact DataW.trod_lt m _ _ _ hm
  obtain ⟨y0, hK0, g0⟩ := Op.arg (op_slice (q := 81) (B := 24) Try.underlying22 (by kernel_rfl) (by kernel_rfl) o81) h0 hsz (j := 0) rfl rfl
  obtain ⟨a0, len0, cap0, rfl⟩ := okWide_slice Try.underlying22 (hval 0 22 v0 rfl rfl)
  obtain ⟨A0, c0, hcs0, hc0, hr0⟩ := hK0
  simp only [Value.cells, List.cons.injEq, Value.slice.injEq, and_true] at hcs0
  obtain ⟨rfl, rfl, rfl⟩ := hcs0
  clear hA0 hval0 hsz0 hsz
  obtain ⟨k, h⟩ := Pure.FnExactRoutesOk y0 g0
  refine (laws_FnExactRoutesOk.calls k _ _ y0 true W hr0 hc0 h).mono fun e W' ⟨he, bel⟩ => ?_
  subst he
  exact ⟨_, rfl, _, _, _, [], _, [], hW', trodAll_mk1 (shut_bool Try.underlying4 _), (trodAll_cons_mk (Below.trod laidOut (by kernel_rfl) (of_decide_eq_true (by kernel_rfl)) k0_ bel lt0) trodAll_mk0), rfl, bel.frame _, fun h => by cases h⟩
theorem over : Rows.fnExactRoutesOkRow.holds Try.pinned (OpenSpec.ofChange Rows.fnExactRoutesOkSpec) :=
  OpenClaim.holds_of_wide 4 Try.f4 rfl rfl rfl rfl rfl rfl rfl ⟨rfl, rfl, rfl, rfl, rfl⟩ rfl rfl rfl rfl rfl (by kernel_rfl) Try.func4 (by kernel_rfl)
    (of_decide_eq_true (by kernel_rfl)) (by unfold Func.isWrapper; first | (rw [if_pos (by decide +kernel)]; kernel_rfl) | (rw [if_neg (by decide +kernel)]; exact ⟨rfl, rfl⟩))
    (fun os started H enc _ => lifted os started H enc)
theorem proved : Rows.FnExactRoutesOkSaid := over
end Go.Proofs.Ytbddppnhpapfkaa.fnExactRoutesOk
namespace Go.Proofs.Ytbddppnhpapfkaa
/-- The row, under a short name, for the claim. -/
theorem fnExactRoutesOk_holds : Rows.FnExactRoutesOkSaid := fnExactRoutesOk.proved
#print axioms fnExactRoutesOk_holds
end Go.Proofs.Ytbddppnhpapfkaa
