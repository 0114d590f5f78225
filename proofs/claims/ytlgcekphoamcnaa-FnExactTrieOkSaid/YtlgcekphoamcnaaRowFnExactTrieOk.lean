/- The row of FnExactTrieOk: for every input the law returns true, and each argument reads behind the call as it read before. No condition. -/
import Derived.Test.YtlgcekphoamcnaaRows
import Derived.Test.YtlgcekphoamcnaaGoalFnExactTrieOk
import Derived.Test.YtlgcekphoamcnaaPureFnExactTrieOk
import Derived.Test.YtlgcekphoamcnaaOpen
import Derived.WalkKit
import Derived.ProofKit
import Derived.OpenShut
import Derived.ShutString
import Derived.ChangeOld
import Derived.Below
import Derived.SizedLaws
namespace Go.Proofs.Ytlgcekphoamcnaa.fnExactTrieOk
open Go.ChangeShapes Go.WideShapes Go.ChangeAt Go.RowKit Go.Proofs.Ytlgcekphoamcnaa.Opens Go.Proofs.YtlgcekphoamcnaaW.PrintWords Go.Proofs.Ytlgcekphoamcnaa.PFnExactTrieOk
set_option linter.unusedVariables false
theorem own : ownKnob Try.prog.godebug = none := by kernel_rfl
theorem laidOut : laidOutB Try.prog = true := by kernel_rfl
theorem o142 : Opens.Op Try.prog 142 k142 ok142 := op_iso (op_struct Try.underlying142 (by kernel_rfl) (opf_cons rfl (op_int Try.underlying3 (by kernel_rfl)) (opf_cons rfl (op_int Try.underlying3 (by kernel_rfl)) (opf_one rfl (op_int Try.underlying3 (by kernel_rfl)))))) (fun x : S142 => (x.f0, x.f1, x.f2)) (fun p => (⟨p.1, p.2.1, p.2.2⟩ : S142)) (fun _ => rfl)
set_option maxRecDepth 100000 in
set_option maxHeartbeats 4000000 in
theorem lifted (os : Os) (started : os.Started) (H : Type) (enc : TypeId × Value → H) :
    ReturnsInHanded {} Try.checked os 14 .any (Rows.fnExactTrieOkSpec.pre6 enc Try.prog Try.f14 Rows.fnExactTrieOkRow.domain false) (Rows.fnExactTrieOkSpec.post enc Try.prog Try.f14 false true false false) := by
  refine returnsInHanded_of_change_sized (C := Try.checked) own started (by kernel_rfl) Try.func14
    (ChangeSpec.witness6 (enc := enc) (C := Try.checked) false ⟨#[], #[.agg #[.slice none 0 0]], []⟩ 8 (by kernel_rfl) (by kernel_rfl) (by kernel_rfl) (by kernel_rfl)) ?_
  intro W base args ds gs before hval0 hW hcnd hsz0 _
  have hsz : (DataW.weightsEach Try.prog (Try.f14.params.toList ++ Rows.fnExactTrieOkSpec.plain.varTypes Try.prog) (ds ++ gs)).all (· ≤ reachBytes) = true := hsz0
  have hval : ∀ (j : Nat) t v, Try.f14.params[j]? = some t → args[j]? = some v → Value.okWide Try.prog W .any base t v := hval0
  have hW' := hW
  obtain ⟨p, q, hA0, hV, rfl, hfz, hnd⟩ := hW
  have hA : DataW.TrodAll enc Try.prog W 0 (fun _ => true) true Try.f14.params.toList args.toList ds p := hA0
  rw [Try.params14] at hA hval hsz
  obtain ⟨v0, vs0, d0, ds0, p0, q0, hargs, rfl, rfl, h0, r0⟩ := trodAll_cons hA
  obtain ⟨rfl, rfl, rfl⟩ := trodAll_nil r0
  obtain rfl : args = #[v0] := by cases args; simp_all
  obtain ⟨rfl, rfl⟩ := trodVars_none hV
  have k0_ := h0
  have lt0 : ∀ x ∈ p0, x.block < W.heap.size := by obtain ⟨m, hm⟩ := k0_; exact DataW.trod_lt m _ _ _ hm
  obtain ⟨y0, hK0, g0⟩ := Op.arg (op_struct Try.underlying100 (by kernel_rfl) (opf_one rfl (op_slice (q := 142) (B := 24) Try.underlying98 (by kernel_rfl) (by kernel_rfl) o142))) h0 hsz (j := 0) rfl rfl
  obtain ⟨cs0, rfl, _⟩ := okWide_struct Try.underlying100 (hval 0 100 v0 rfl rfl)
  obtain ⟨cs0⟩ := cs0
  replace hK0 : Kd.K _ W _ cs0 := hK0
  obtain ⟨A0_0, c0_0, rfl, hc0_0, hr0_0⟩ := hK0
  clear hA0 hval0 hsz0 hsz
  obtain ⟨k, h⟩ := Pure.FnExactTrieOk y0 g0
  refine (laws_FnExactTrieOk.calls k _ _ y0 true W hr0_0 hc0_0 h).mono fun e W' ⟨he, bel⟩ => ?_
  subst he
  exact ⟨_, rfl, _, _, _, [], _, [], hW', trodAll_mk1 (shut_bool Try.underlying4 _), (trodAll_cons_mk (Below.trod laidOut (by kernel_rfl) (of_decide_eq_true (by kernel_rfl)) k0_ bel lt0) trodAll_mk0), rfl, bel.frame _, fun h => by cases h⟩
theorem over : Rows.fnExactTrieOkRow.holds Try.pinned (OpenSpec.ofChange Rows.fnExactTrieOkSpec) :=
  OpenClaim.holds_of_wide 14 Try.f14 rfl rfl rfl rfl rfl rfl rfl ⟨rfl, rfl, rfl, rfl, rfl⟩ rfl rfl rfl rfl rfl (by kernel_rfl) Try.func14 (by kernel_rfl)
    (of_decide_eq_true (by kernel_rfl)) (by unfold Func.isWrapper; first | (rw [if_pos (by decide +kernel)]; kernel_rfl) | (rw [if_neg (by decide +kernel)]; exact ⟨rfl, rfl⟩))
    (fun os started H enc _ => lifted os started H enc)
theorem proved : Rows.FnExactTrieOkSaid := over
end Go.Proofs.Ytlgcekphoamcnaa.fnExactTrieOk
namespace Go.Proofs.Ytlgcekphoamcnaa
/-- The row, under a short name, for the claim. -/
theorem fnExactTrieOk_holds : Rows.FnExactTrieOkSaid := fnExactTrieOk.proved
#print axioms fnExactTrieOk_holds
end Go.Proofs.Ytlgcekphoamcnaa
