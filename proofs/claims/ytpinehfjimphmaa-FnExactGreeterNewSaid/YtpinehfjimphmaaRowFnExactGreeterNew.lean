/- The row of FnExactGreeterNew: for every input the law returns true, and each argument reads behind the call as it read before. No condition. -/
import Derived.Test.YtpinehfjimphmaaRows
import Derived.Test.YtpinehfjimphmaaGoalFnExactGreeterNew
import Derived.Test.YtpinehfjimphmaaPureFnExactGreeterNew
import Derived.Test.YtpinehfjimphmaaDIOpen
import Derived.WalkKit
import Derived.ProofKit
import Derived.OpenShut
import Derived.ShutString
import Derived.ChangeOld
import Derived.Below
import Derived.SizedLaws
namespace Go.Proofs.Ytpinehfjimphmaa.fnExactGreeterNew
open Go.ChangeShapes Go.WideShapes Go.ChangeAt Go.RowKit Go.Proofs.Ytpinehfjimphmaa.DI
set_option linter.unusedVariables false
theorem own : ownKnob Try.prog.godebug = none := by kernel_rfl
theorem laidOut : laidOutB Try.prog = true := by kernel_rfl
set_option maxRecDepth 100000 in
set_option maxHeartbeats 4000000 in
theorem lifted (os : Os) (started : os.Started) (H : Type) (enc : TypeId × Value → H) :
    ReturnsInHanded {} Try.checked os 4 .any (Rows.fnExactGreeterNewSpec.pre6 enc Try.prog Try.f4 Rows.fnExactGreeterNewRow.domain false) (Rows.fnExactGreeterNewSpec.post enc Try.prog Try.f4 false true false false) := by
  refine returnsInHanded_of_change_sized (C := Try.checked) own started (by kernel_rfl) Try.func4
    (ChangeSpec.witness6 (enc := enc) (C := Try.checked) false ⟨#[], #[.int .i64 0, .string ByteArray.empty, .string ByteArray.empty, .int .i64 0], []⟩ 8 (by kernel_rfl) (by kernel_rfl) (by kernel_rfl) (by kernel_rfl)) ?_
  intro W base args ds gs before hval0 hW hcnd hsz0 _
  have hsz : (DataW.weightsEach Try.prog (Try.f4.params.toList ++ Rows.fnExactGreeterNewSpec.plain.varTypes Try.prog) (ds ++ gs)).all (· ≤ reachBytes) = true := hsz0
  have hval : ∀ (j : Nat) t v, Try.f4.params[j]? = some t → args[j]? = some v → Value.okWide Try.prog W .any base t v := hval0
  have hW' := hW
  obtain ⟨p, q, hA0, hV, rfl, hfz, hnd⟩ := hW
  have hA : DataW.TrodAll enc Try.prog W 0 (fun _ => true) true Try.f4.params.toList args.toList ds p := hA0
  rw [Try.params4] at hA hval hsz
  obtain ⟨v0, vs0, d0, ds0, p0, q0, hargs, rfl, rfl, h0, r0⟩ := trodAll_cons hA
  obtain ⟨v1, vs1, d1, ds1, p1, q1, rfl, rfl, rfl, h1, r1⟩ := trodAll_cons r0
  obtain ⟨v2, vs2, d2, ds2, p2, q2, rfl, rfl, rfl, h2, r2⟩ := trodAll_cons r1
  obtain ⟨v3, vs3, d3, ds3, p3, q3, rfl, rfl, rfl, h3, r3⟩ := trodAll_cons r2
  obtain ⟨rfl, rfl, rfl⟩ := trodAll_nil r3
  obtain rfl : args = #[v0, v1, v2, v3] := by cases args; simp_all
  obtain ⟨rfl, rfl⟩ := trodVars_none hV
  obtain ⟨y0, rfl, rfl, rfl, g0⟩ := open_int Try.underlying3 (hval 0 3 v0 rfl rfl) h0
  have k1_ := h1
  have lt1 : ∀ x ∈ p1, x.block < W.heap.size := by obtain ⟨m, hm⟩ := k1_; exact DataW.trod_lt m _ _ _ hm
  obtain ⟨y1, hK1, g1⟩ := OpT.arg (opt_string Try.underlying9 (by kernel_rfl)) h1 hsz (j := 1) rfl rfl
  obtain ⟨s1, rfl⟩ := okWide_string Try.underlying9 (hval 1 9 v1 rfl rfl)
  have z1 := arg_one (t := .str) (x := y1) hK1 (by kernel_rfl)
  have k2_ := h2
  have lt2 : ∀ x ∈ p2, x.block < W.heap.size := by obtain ⟨m, hm⟩ := k2_; exact DataW.trod_lt m _ _ _ hm
  obtain ⟨y2, hK2, g2⟩ := OpT.arg (opt_string Try.underlying9 (by kernel_rfl)) h2 hsz (j := 2) rfl rfl
  obtain ⟨s2, rfl⟩ := okWide_string Try.underlying9 (hval 2 9 v2 rfl rfl)
  have z2 := arg_one (t := .str) (x := y2) hK2 (by kernel_rfl)
  obtain ⟨y3, rfl, rfl, rfl, g3⟩ := open_int Try.underlying3 (hval 3 3 v3 rfl rfl) h3
  clear hA0 hval0 hsz0 hsz
  obtain ⟨k, h⟩ := Pure.FnExactGreeterNew y0 y1 y2 y3 g0 g1 g2 g3
  have hr : laws_FnExactGreeterNew.K.run k (y0, y1, y2, y3) = some true := h
  refine (CtrOk.root (show CtrOk Try.prog 4 ⟨laws_FnExactGreeterNew.ps, [.one true], _, _, .bool, _⟩ from laws_FnExactGreeterNew.ok) (by kernel_rfl) (vals := [.int .i64 y0, _, _, .int .i64 y3]) (x := (y0, y1, y2, y3)) (by kernel_rfl) (⟨rfl, trivial, ⟨z1.1, z1.2, ⟨z2.1, z2.2, ⟨rfl, trivial, ⟨rfl, rfl⟩⟩⟩⟩⟩) hr).mono fun e W' ⟨he, bel⟩ => ?_
  subst he
  exact ⟨_, rfl, _, _, _, [], _, [], hW', trodAll_mk1 (shut_bool Try.underlying4 _), (trodAll_cons_mk (shut_int Try.underlying3 g0) (trodAll_cons_mk (Below.trod laidOut (by kernel_rfl) (of_decide_eq_true (by kernel_rfl)) k1_ bel lt1) (trodAll_cons_mk (Below.trod laidOut (by kernel_rfl) (of_decide_eq_true (by kernel_rfl)) k2_ bel lt2) (trodAll_cons_mk (shut_int Try.underlying3 g3) trodAll_mk0)))), rfl, bel.frame _, fun h => by cases h⟩
theorem over : Rows.fnExactGreeterNewRow.holds Try.pinned (OpenSpec.ofChange Rows.fnExactGreeterNewSpec) :=
  OpenClaim.holds_of_wide 4 Try.f4 rfl rfl rfl rfl rfl rfl rfl ⟨rfl, rfl, rfl, rfl, rfl⟩ rfl rfl rfl rfl rfl (by kernel_rfl) Try.func4 (by kernel_rfl)
    (of_decide_eq_true (by kernel_rfl)) (by unfold Func.isWrapper; first | (rw [if_pos (by decide +kernel)]; kernel_rfl) | (rw [if_neg (by decide +kernel)]; exact ⟨rfl, rfl⟩))
    (fun os started H enc _ => lifted os started H enc)
theorem proved : Rows.FnExactGreeterNewSaid := over
end Go.Proofs.Ytpinehfjimphmaa.fnExactGreeterNew
namespace Go.Proofs.Ytpinehfjimphmaa
/-- The row, under a short name, for the claim. -/
theorem fnExactGreeterNew_holds : Rows.FnExactGreeterNewSaid := fnExactGreeterNew.proved
#print axioms fnExactGreeterNew_holds
end Go.Proofs.Ytpinehfjimphmaa
