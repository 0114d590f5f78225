/- The row of FnExactTriePut: for every input the law returns true, and each argument reads behind the call as it read before. No condition. -/
import Derived.Test.YtbddppnhpapfkaaRows
import Derived.Test.YtbddppnhpapfkaaZFnExactTriePutGoalFnExactTriePut
import Derived.Test.YtbddppnhpapfkaaZFnExactTriePutPureFnExactTriePut
import Derived.Test.YtbddppnhpapfkaaZFnExactTriePutOpen
import Derived.WalkKit
import Derived.ProofKit
import Derived.OpenShut
import Derived.ShutString
import Derived.ChangeOld
import Derived.Below
import Derived.SizedLaws
namespace Go.Proofs.Ytbddppnhpapfkaa.fnExactTriePut
open Go.ChangeShapes Go.WideShapes Go.ChangeAt Go.RowKit Go.Proofs.Ytbddppnhpapfkaa.Opens Go.Proofs.YtbddppnhpapfkaaW.PrintWords Go.Proofs.Ytbddppnhpapfkaa.PFnExactTriePut
set_option linter.unusedVariables false
theorem own : ownKnob Try.prog.godebug = none := by kernel_rfl
theorem laidOut : laidOutB Try.prog = true := by kernel_rfl
theorem o132 : Opens.Op Try.prog 132 k132 ok132 := op_iso (op_struct Try.underlying132 (by kernel_rfl) (opf_cons rfl (op_int Try.underlying3 (by kernel_rfl)) (opf_cons rfl (op_int Try.underlying3 (by kernel_rfl)) (opf_one rfl (op_int Try.underlying3 (by kernel_rfl)))))) (fun x : S132 => (x.f0, x.f1, x.f2)) (fun p => (⟨p.1, p.2.1, p.2.2⟩ : S132)) (fun _ => rfl)
set_option maxRecDepth 100000 in
set_option maxHeartbeats 4000000 in
theorem lifted (os : Os) (started : os.Started) (H : Type) (enc : TypeId × Value → H) :
    ReturnsInHanded {} Try.checked os 11 .any (Rows.fnExactTriePutSpec.pre6 enc Try.prog Try.f11 Rows.fnExactTriePutRow.domain false) (Rows.fnExactTriePutSpec.post enc Try.prog Try.f11 false true false false) := by
  refine returnsInHanded_of_change_sized (C := Try.checked) own started (by kernel_rfl) Try.func11
    (ChangeSpec.witness6 (enc := enc) (C := Try.checked) false ⟨#[], #[.agg #[.slice none 0 0], .agg #[.int .i64 0, .int .i64 0], .int .i64 0], []⟩ 8 (by kernel_rfl) (by kernel_rfl) (by kernel_rfl) (by kernel_rfl)) ?_
  intro W base args ds gs before hval0 hW hcnd hsz0 _
  have hsz : (DataW.weightsEach Try.prog (Try.f11.params.toList ++ Rows.fnExactTriePutSpec.plain.varTypes Try.prog) (ds ++ gs)).all (· ≤ reachBytes) = true := hsz0
  have hval : ∀ (j : Nat) t v, Try.f11.params[j]? = some t → args[j]? = some v → Value.okWide Try.prog W .any base t v := hval0
  have hW' := hW
  obtain ⟨p, q, hA0, hV, rfl, hfz, hnd⟩ := hW
  have hA : DataW.TrodAll enc Try.prog W 0 (fun _ => true) true Try.f11.params.toList args.toList ds p := hA0
  rw [Try.params11] at hA hval hsz
  obtain ⟨v0, vs0, d0, ds0, p0, q0, hargs, rfl, rfl, h0, r0⟩ := trodAll_cons hA
  obtain ⟨v1, vs1, d1, ds1, p1, q1, rfl, rfl, rfl, h1, r1⟩ := trodAll_cons r0
  obtain ⟨v2, vs2, d2, ds2, p2, q2, rfl, rfl, rfl, h2, r2⟩ := trodAll_cons r1
  obtain ⟨rfl, rfl, rfl⟩ := trodAll_nil r2
  obtain rfl : args = #[v0, v1, v2] := by cases args; simp_all
  obtain ⟨rfl, rfl⟩ := trodVars_none hV
  have k0_ := h0
  have lt0 : ∀ x ∈ p0, x.block < W.heap.size := by obtain ⟨m, hm⟩ := k0_; exact DataW.trod_lt m _ _ _ hm
  obtain ⟨y0, hK0, g0⟩ := Op.arg (op_struct Try.underlying50 (by kernel_rfl) (opf_one rfl (op_slice (q := 132) (B := 24) Try.underlying48 (by kernel_rfl) (by kernel_rfl) o132))) h0 hsz (j := 0) rfl rfl
  obtain ⟨cs0, rfl, _⟩ := okWide_struct Try.underlying50 (hval 0 50 v0 rfl rfl)
  obtain ⟨cs0⟩ := cs0
  replace hK0 : Kd.K _ W _ cs0 := hK0
  obtain ⟨A0_0, c0_0, rfl, hc0_0, hr0_0⟩ := hK0
  have k1_ := h1
  have lt1 : ∀ x ∈ p1, x.block < W.heap.size := by obtain ⟨m, hm⟩ := k1_; exact DataW.trod_lt m _ _ _ hm
  obtain ⟨y1, hK1, g1⟩ := Op.arg (op_struct Try.underlying33 (by kernel_rfl) (opf_cons rfl (op_int Try.underlying3 (by kernel_rfl)) (opf_one rfl (op_int Try.underlying3 (by kernel_rfl))))) h1 hsz (j := 1) rfl rfl
  obtain ⟨cs1, rfl, _⟩ := okWide_struct Try.underlying33 (hval 1 33 v1 rfl rfl)
  obtain ⟨y1_0, y1_1⟩ := y1
  obtain ⟨g1_0, g1_1⟩ := g1
  obtain ⟨cs1⟩ := cs1
  replace hK1 : Kd.K _ W _ cs1 := hK1
  obtain ⟨_, _, rfl, rfl, rfl⟩ := hK1
  obtain ⟨a2, rfl, rfl, rfl, w2⟩ := open_int Try.underlying3 (hval 2 3 v2 rfl rfl) h2
  clear hA0 hval0 hsz0 hsz
  obtain ⟨k, h⟩ := Pure.FnExactTriePut y0 y1_0 y1_1 a2 g0 g1_0 g1_1 w2
  refine (laws_FnExactTriePut.calls k _ _ y0 y1_0 y1_1 a2 true W hr0_0 hc0_0 h).mono fun e W' ⟨he, bel⟩ => ?_
  subst he
  exact ⟨_, rfl, _, _, _, [], _, [], hW', trodAll_mk1 (shut_bool Try.underlying4 _), (trodAll_cons_mk (Below.trod laidOut (by kernel_rfl) (of_decide_eq_true (by kernel_rfl)) k0_ bel lt0) (trodAll_cons_mk (Below.trod laidOut (by kernel_rfl) (of_decide_eq_true (by kernel_rfl)) k1_ bel lt1) (trodAll_cons_mk (shut_int Try.underlying3 w2) trodAll_mk0))), rfl, bel.frame _, fun h => by cases h⟩
theorem over : Rows.fnExactTriePutRow.holds Try.pinned (OpenSpec.ofChange Rows.fnExactTriePutSpec) :=
  OpenClaim.holds_of_wide 11 Try.f11 rfl rfl rfl rfl rfl rfl rfl ⟨rfl, rfl, rfl, rfl, rfl⟩ rfl rfl rfl rfl rfl (by kernel_rfl) Try.func11 (by kernel_rfl)
    (of_decide_eq_true (by kernel_rfl)) (by unfold Func.isWrapper; first | (rw [if_pos (by decide +kernel)]; kernel_rfl) | (rw [if_neg (by decide +kernel)]; exact ⟨rfl, rfl⟩))
    (fun os started H enc _ => lifted os started H enc)
theorem proved : Rows.FnExactTriePutSaid := over
end Go.Proofs.Ytbddppnhpapfkaa.fnExactTriePut
namespace Go.Proofs.Ytbddppnhpapfkaa
/-- The row, under a short name, for the claim. -/
theorem fnExactTriePut_holds : Rows.FnExactTriePutSaid := fnExactTriePut.proved
#print axioms fnExactTriePut_holds
end Go.Proofs.Ytbddppnhpapfkaa
