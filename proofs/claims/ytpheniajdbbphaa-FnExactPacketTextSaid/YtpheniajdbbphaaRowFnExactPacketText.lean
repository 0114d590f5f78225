/- The row of FnExactPacketText: for every input the law returns true, and each argument reads behind the call as it read before. No condition. -/
import Derived.Test.YtpheniajdbbphaaRows
import Derived.Test.YtpheniajdbbphaaGoalFnExactPacketText
import Derived.Test.YtpheniajdbbphaaPureFnExactPacketText
import Derived.Test.YtpheniajdbbphaaOpen
import Derived.WalkKit
import Derived.ProofKit
import Derived.OpenShut
import Derived.ShutString
import Derived.ChangeOld
import Derived.Below
import Derived.SizedLaws
namespace Go.Proofs.Ytpheniajdbbphaa.fnExactPacketText
open Go.ChangeShapes Go.WideShapes Go.ChangeAt Go.RowKit Go.Proofs.Ytpheniajdbbphaa.Opens Go.Proofs.YtpheniajdbbphaaW.PrintWords Go.Proofs.Ytpheniajdbbphaa.PFnExactPacketText
set_option linter.unusedVariables false
theorem own : ownKnob Try.prog.godebug = none := by kernel_rfl
theorem laidOut : laidOutB Try.prog = true := by kernel_rfl
set_option maxRecDepth 100000 in
set_option maxHeartbeats 4000000 in
theorem lifted (os : Os) (started : os.Started) (H : Type) (enc : TypeId × Value → H) :
    ReturnsInHanded {} Try.checked os 3 .any (Rows.fnExactPacketTextSpec.pre6 enc Try.prog Try.f3 Rows.fnExactPacketTextRow.domain false) (Rows.fnExactPacketTextSpec.post enc Try.prog Try.f3 false true false false) := by
  refine returnsInHanded_of_change_sized (C := Try.checked) own started (by kernel_rfl) Try.func3
    (ChangeSpec.witness6 (enc := enc) (C := Try.checked) false ⟨#[], #[.agg #[.int .i64 0, .int .i64 0, .int .i64 0, .int .i64 0, .int .i64 0, .slice none 0 0, .string ByteArray.empty]], []⟩ 8 (by kernel_rfl) (by kernel_rfl) (by kernel_rfl) (by kernel_rfl)) ?_
  intro W base args ds gs before hval0 hW hcnd hsz0 _
  have hsz : (DataW.weightsEach Try.prog (Try.f3.params.toList ++ Rows.fnExactPacketTextSpec.plain.varTypes Try.prog) (ds ++ gs)).all (· ≤ reachBytes) = true := hsz0
  have hval : ∀ (j : Nat) t v, Try.f3.params[j]? = some t → args[j]? = some v → Value.okWide Try.prog W .any base t v := hval0
  have hW' := hW
  obtain ⟨p, q, hA0, hV, rfl, hfz, hnd⟩ := hW
  have hA : DataW.TrodAll enc Try.prog W 0 (fun _ => true) true Try.f3.params.toList args.toList ds p := hA0
  rw [Try.params3] at hA hval hsz
  obtain ⟨v0, vs0, d0, ds0, p0, q0, hargs, rfl, rfl, h0, r0⟩ := trodAll_cons hA
  obtain ⟨rfl, rfl, rfl⟩ := trodAll_nil r0
  obtain rfl : args = #[v0] := by cases args; simp_all
  obtain ⟨rfl, rfl⟩ := trodVars_none hV
  have k0_ := h0
  have lt0 : ∀ x ∈ p0, x.block < W.heap.size := by obtain ⟨m, hm⟩ := k0_; exact DataW.trod_lt m _ _ _ hm
  obtain ⟨y0, hK0, g0⟩ := Op.arg (op_struct Try.underlying24 (by kernel_rfl) (opf_cons rfl (op_int Try.underlying3 (by kernel_rfl)) (opf_cons rfl (op_int Try.underlying3 (by kernel_rfl)) (opf_cons rfl (op_int Try.underlying3 (by kernel_rfl)) (opf_cons rfl (op_int Try.underlying3 (by kernel_rfl)) (opf_cons rfl (op_int Try.underlying3 (by kernel_rfl)) (opf_cons rfl (op_slice (q := 3) (B := 8) Try.underlying22 (by kernel_rfl) (by kernel_rfl) (op_int Try.underlying3 (by kernel_rfl))) (opf_one rfl (op_string Try.underlying9 (by kernel_rfl)))))))))) h0 hsz (j := 0) rfl rfl
  obtain ⟨cs0, rfl, _⟩ := okWide_struct Try.underlying24 (hval 0 24 v0 rfl rfl)
  obtain ⟨y0_0, y0_1, y0_2, y0_3, y0_4, y0_5, y0_6⟩ := y0
  obtain ⟨g0_0, g0_1, g0_2, g0_3, g0_4, g0_5, g0_6⟩ := g0
  obtain ⟨cs0⟩ := cs0
  replace hK0 : Kd.K _ W _ cs0 := hK0
  obtain ⟨_, _, rfl, rfl, ⟨_, _, rfl, rfl, ⟨_, _, rfl, rfl, ⟨_, _, rfl, rfl, ⟨_, _, rfl, rfl, ⟨_, _, rfl, ⟨A0_5, c0_5, rfl, hc0_5, hr0_5⟩, rfl⟩⟩⟩⟩⟩⟩ := hK0
  clear hA0 hval0 hsz0 hsz
  obtain ⟨k, h⟩ := Pure.FnExactPacketText y0_0 y0_1 y0_2 y0_3 y0_4 y0_5 y0_6 g0_0 g0_1 g0_2 g0_3 g0_4 g0_5 g0_6
  refine (laws_FnExactPacketText.calls k y0_0 y0_1 y0_2 y0_3 y0_4 _ _ y0_5 y0_6 true W hr0_5 hc0_5 h).mono fun e W' ⟨he, bel⟩ => ?_
  subst he
  exact ⟨_, rfl, _, _, _, [], _, [], hW', trodAll_mk1 (shut_bool Try.underlying4 _), (trodAll_cons_mk (Below.trod laidOut (by kernel_rfl) (of_decide_eq_true (by kernel_rfl)) k0_ bel lt0) trodAll_mk0), rfl, bel.frame _, fun h => by cases h⟩
theorem over : Rows.fnExactPacketTextRow.holds Try.pinned (OpenSpec.ofChange Rows.fnExactPacketTextSpec) :=
  OpenClaim.holds_of_wide 3 Try.f3 rfl rfl rfl rfl rfl rfl rfl ⟨rfl, rfl, rfl, rfl, rfl⟩ rfl rfl rfl rfl rfl (by kernel_rfl) Try.func3 (by kernel_rfl)
    (of_decide_eq_true (by kernel_rfl)) (by unfold Func.isWrapper; first | (rw [if_pos (by decide +kernel)]; kernel_rfl) | (rw [if_neg (by decide +kernel)]; exact ⟨rfl, rfl⟩))
    (fun os started H enc _ => lifted os started H enc)
theorem proved : Rows.FnExactPacketTextSaid := over
end Go.Proofs.Ytpheniajdbbphaa.fnExactPacketText
namespace Go.Proofs.Ytpheniajdbbphaa
/-- The row, under a short name, for the claim. -/
theorem fnExactPacketText_holds : Rows.FnExactPacketTextSaid := fnExactPacketText.proved
#print axioms fnExactPacketText_holds
end Go.Proofs.Ytpheniajdbbphaa
