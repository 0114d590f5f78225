/- The row of FnExactSend: for every input the law returns true, and each argument reads behind the call as it read before. No condition. -/
import Derived.Test.YtpheniajdbbphaaRows
import Derived.Test.YtpheniajdbbphaaGoalFnExactSend
import Derived.Test.YtpheniajdbbphaaPureFnExactSend
import Derived.Test.YtpheniajdbbphaaDIOpen
import Derived.WalkKit
import Derived.ProofKit
import Derived.OpenShut
import Derived.ShutString
import Derived.ChangeOld
import Derived.Below
import Derived.SizedLaws
namespace Go.Proofs.Ytpheniajdbbphaa.fnExactSend
open Go.ChangeShapes Go.WideShapes Go.ChangeAt Go.RowKit Go.Proofs.Ytpheniajdbbphaa.DI
set_option linter.unusedVariables false
theorem own : ownKnob Try.prog.godebug = none := by kernel_rfl
theorem laidOut : laidOutB Try.prog = true := by kernel_rfl
set_option maxRecDepth 100000 in
theorem o118 : OpT Try.prog 118 (.two (.int .i64) (.two .str (.two (.int .i64) (.int .i64)))) ok118 := OpT.weaken (opt_struct Try.underlying118 (by kernel_rfl) (opft_cons rfl (opt_int Try.underlying3 (by kernel_rfl)) (opft_cons rfl (opt_string Try.underlying9 (by kernel_rfl)) (opft_cons rfl (opt_int Try.underlying3 (by kernel_rfl)) (opft_one rfl (opt_int Try.underlying3 (by kernel_rfl))))))) (fun _ h => h)
set_option maxRecDepth 100000 in
theorem o120 : OpT Try.prog 120 (.two (.int .i64) .str) ok120 := OpT.weaken (opt_struct Try.underlying120 (by kernel_rfl) (opft_cons rfl (opt_int Try.underlying3 (by kernel_rfl)) (opft_one rfl (opt_string Try.underlying9 (by kernel_rfl))))) (fun _ h => h)
set_option maxRecDepth 100000 in
theorem o45 : OpT Try.prog 45 (.two (.int .i64) (.two (.int .i64) (.two (.int .i64) (.two (.sl 9 .str) (.two (.sl 118 (.two (.int .i64) (.two .str (.two (.int .i64) (.int .i64))))) (.two (.int .i64) (.two (.sl 120 (.two (.int .i64) .str)) (.two (.sl 3 (.int .i64)) (.sl 9 .str))))))))) ok45 := OpT.weaken (opt_struct Try.underlying45 (by kernel_rfl) (opft_cons rfl (opt_int Try.underlying3 (by kernel_rfl)) (opft_cons rfl (opt_int Try.underlying3 (by kernel_rfl)) (opft_cons rfl (opt_int Try.underlying3 (by kernel_rfl)) (opft_cons rfl (opt_slice (B := 16) Try.underlying32 (by kernel_rfl) (by kernel_rfl) (of_decide_eq_true (by kernel_rfl)) (opt_string Try.underlying9 (by kernel_rfl))) (opft_cons rfl (opt_slice (B := 40) Try.underlying42 (by kernel_rfl) (by kernel_rfl) (of_decide_eq_true (by kernel_rfl)) o118) (opft_cons rfl (opt_int Try.underlying3 (by kernel_rfl)) (opft_cons rfl (opt_slice (B := 24) Try.underlying43 (by kernel_rfl) (by kernel_rfl) (of_decide_eq_true (by kernel_rfl)) o120) (opft_cons rfl (opt_slice (B := 8) Try.underlying22 (by kernel_rfl) (by kernel_rfl) (of_decide_eq_true (by kernel_rfl)) (opt_int Try.underlying3 (by kernel_rfl))) (opft_one rfl (opt_slice (B := 16) Try.underlying32 (by kernel_rfl) (by kernel_rfl) (of_decide_eq_true (by kernel_rfl)) (opt_string Try.underlying9 (by kernel_rfl))))))))))))) (fun _ h => h)
set_option maxRecDepth 100000 in
set_option maxHeartbeats 4000000 in
theorem lifted (os : Os) (started : os.Started) (H : Type) (enc : TypeId × Value → H) :
    ReturnsInHanded {} Try.checked os 7 .any (Rows.fnExactSendSpec.pre6 enc Try.prog Try.f7 Rows.fnExactSendRow.domain false) (Rows.fnExactSendSpec.post enc Try.prog Try.f7 false true false false) := by
  refine returnsInHanded_of_change_sized (C := Try.checked) own started (by kernel_rfl) Try.func7
    (ChangeSpec.witness6 (enc := enc) (C := Try.checked) false ⟨#[], #[.agg #[.int .i64 0, .int .i64 0, .int .i64 0, .slice none 0 0, .slice none 0 0, .int .i64 0, .slice none 0 0, .slice none 0 0, .slice none 0 0], .int .i64 0], []⟩ 8 (by kernel_rfl) (by kernel_rfl) (by kernel_rfl) (by kernel_rfl)) ?_
  intro W base args ds gs before hval0 hW hcnd hsz0 _
  have hsz : (DataW.weightsEach Try.prog (Try.f7.params.toList ++ Rows.fnExactSendSpec.plain.varTypes Try.prog) (ds ++ gs)).all (· ≤ reachBytes) = true := hsz0
  have hval : ∀ (j : Nat) t v, Try.f7.params[j]? = some t → args[j]? = some v → Value.okWide Try.prog W .any base t v := hval0
  have hW' := hW
  obtain ⟨p, q, hA0, hV, rfl, hfz, hnd⟩ := hW
  have hA : DataW.TrodAll enc Try.prog W 0 (fun _ => true) true Try.f7.params.toList args.toList ds p := hA0
  rw [Try.params7] at hA hval hsz
  obtain ⟨v0, vs0, d0, ds0, p0, q0, hargs, rfl, rfl, h0, r0⟩ := trodAll_cons hA
  obtain ⟨v1, vs1, d1, ds1, p1, q1, rfl, rfl, rfl, h1, r1⟩ := trodAll_cons r0
  obtain ⟨rfl, rfl, rfl⟩ := trodAll_nil r1
  obtain rfl : args = #[v0, v1] := by cases args; simp_all
  obtain ⟨rfl, rfl⟩ := trodVars_none hV
  have k0_ := h0
  have lt0 : ∀ x ∈ p0, x.block < W.heap.size := by obtain ⟨m, hm⟩ := k0_; exact DataW.trod_lt m _ _ _ hm
  obtain ⟨y0, hK0, g0⟩ := OpT.arg o45 h0 hsz (j := 0) rfl rfl
  obtain ⟨cs0, rfl, _⟩ := okWide_struct Try.underlying45 (hval 0 45 v0 rfl rfl)
  obtain ⟨g0_0, g0_1, g0_2, g0_3, g0_4, g0_5, g0_6, g0_7, g0_8⟩ := g0
  obtain ⟨y1, rfl, rfl, rfl, g1⟩ := open_int Try.underlying3 (hval 1 3 v1 rfl rfl) h1
  clear hA0 hval0 hsz0 hsz
  obtain ⟨k, h⟩ := Pure.FnExactSend (y0.1) (y0.2.1) (y0.2.2.1) (y0.2.2.2.1) (y0.2.2.2.2.1) (y0.2.2.2.2.2.1) (y0.2.2.2.2.2.2.1) (y0.2.2.2.2.2.2.2.1) (y0.2.2.2.2.2.2.2.2) y1 g0_0 g0_1 g0_2 g0_3 g0_4 g0_5 g0_6 g0_7 g0_8 g1
  have hr : laws_FnExactSend.K.run k (y0.1, y0.2.1, y0.2.2.1, y0.2.2.2.1, y0.2.2.2.2.1, y0.2.2.2.2.2.1, y0.2.2.2.2.2.2.1, y0.2.2.2.2.2.2.2.1, y0.2.2.2.2.2.2.2.2, y1) = some true := h
  refine (CtrOk.root (show CtrOk Try.prog 7 ⟨laws_FnExactSend.ps, [.one true], _, _, .bool, _⟩ from laws_FnExactSend.ok) (by kernel_rfl) (vals := [_, .int .i64 y1]) (x := (y0.1, y0.2.1, y0.2.2.1, y0.2.2.2.1, y0.2.2.2.2.1, y0.2.2.2.2.2.1, y0.2.2.2.2.2.2.1, y0.2.2.2.2.2.2.2.1, y0.2.2.2.2.2.2.2.2, y1)) (by kernel_rfl) (⟨arg_agg (t := (.two (.int .i64) (.two (.int .i64) (.two (.int .i64) (.two (.sl 9 .str) (.two (.sl 118 (.two (.int .i64) (.two .str (.two (.int .i64) (.int .i64))))) (.two (.int .i64) (.two (.sl 120 (.two (.int .i64) .str)) (.two (.sl 3 (.int .i64)) (.sl 9 .str)))))))))) (x := y0) hK0 (by kernel_rfl), ⟨rfl, trivial, ⟨rfl, rfl⟩⟩⟩) hr (GOK.none _)).mono fun e W' ⟨he, bel⟩ => ?_
  subst he
  exact ⟨_, rfl, _, _, _, [], _, [], hW', trodAll_mk1 (shut_bool Try.underlying4 _), (trodAll_cons_mk (Below.trod laidOut (by kernel_rfl) (of_decide_eq_true (by kernel_rfl)) k0_ bel lt0) (trodAll_cons_mk (shut_int Try.underlying3 g1) trodAll_mk0)), rfl, bel.frame _, fun h => by cases h⟩
theorem over : Rows.fnExactSendRow.holds Try.pinned (OpenSpec.ofChange Rows.fnExactSendSpec) :=
  OpenClaim.holds_of_wide 7 Try.f7 rfl rfl rfl rfl rfl rfl rfl ⟨rfl, rfl, rfl, rfl, rfl⟩ rfl rfl rfl rfl rfl (by kernel_rfl) Try.func7 (by kernel_rfl)
    (of_decide_eq_true (by kernel_rfl)) (by unfold Func.isWrapper; first | (rw [if_pos (by decide +kernel)]; kernel_rfl) | (rw [if_neg (by decide +kernel)]; exact ⟨rfl, rfl⟩))
    (fun os started H enc _ => lifted os started H enc)
theorem proved : Rows.FnExactSendSaid := over
end Go.Proofs.Ytpheniajdbbphaa.fnExactSend
namespace Go.Proofs.Ytpheniajdbbphaa
/-- The row, under a short name, for the claim. -/
theorem fnExactSend_holds : Rows.FnExactSendSaid := fnExactSend.proved
#print axioms fnExactSend_holds
end Go.Proofs.Ytpheniajdbbphaa
