/- The machine of values: functions of the library that read numbers and texts alone. -/
import Derived.Test.YtpinehfjimphmaaGreatDICtr
import Derived.Lib.Repeat
namespace Go.Proofs.YtpinehfjimphmaaGreat.DI
open Go Go.RowKit
set_option linter.unusedVariables false
set_option linter.unusedSimpArgs false
section
variable {P : Program} {w0 : World} {X M : Nat → Prop} {ι : Nat → In} {w : World}
theorem flat_one {ob : Ob} {ps : List PK} : ∀ {args : List DV} {avs : List AV}, flat ob (.one :: ps) args = some avs → ∃ x r q, args = .at x :: r ∧ flat ob ps r = some q ∧ avs = x :: q
  | [], _, h => by simp [flat] at h
  | .agg _ :: _, _, h => by simp [flat] at h
  | .tup _ :: _, _, h => by simp [flat] at h
  | .at x :: r, avs, h => by
    simp only [flat] at h
    obtain ⟨q, h1, h2⟩ := Option.bind_eq_some_iff.1 h
    cases h2
    exact ⟨x, r, q, rfl, h1, rfl⟩
theorem flat_nil {ob : Ob} : ∀ {args : List DV} {avs : List AV}, flat ob [] args = some avs → args = [] ∧ avs = []
  | [], _, h => by simp only [flat] at h; cases h; exact ⟨rfl, rfl⟩
  | _ :: _, _, h => by simp [flat] at h
theorem ofAV_i64 {ob : Ob} {y : AV} {n : Int} (h : ofAV ob (.int .i64) y = some n) : y = .int .i64 n := by
  cases y <;> simp only [ofAV] at h <;> try (cases h; done)
  split at h
  · rename_i e; cases h; rw [e]
  · cases h
/-- What was there stays. -/
theorem HS.below {ob : Ob} {w' : World} (h : HS w0 X M ι ob w) (hb : Below w.heap.size w w') : HS w0 X M ι ob w' :=
  h.step0 (h.fr_step hb.os hb.tape hb.output hb.size fun b hb' _ => hb.block b hb') hb.size (fun b hb' _ => hb.block b hb') (Keeps.refl ι ob) (fun b hb' => .inl hb') (fun j j' o o' b a1 a2 a3 a4 a5 a6 => h.sep j j' o o' b a1 a2 a3 a4 a5 a6) (fun _ j o ho => .inl ⟨ho, rfl, fun hw ad ha => hb.block _ ((h.obs j o ho).lt hw ha)⟩)
theorem ofAV_str {ob : Ob} {y : AV} {n : ByteArray} (h : ofAV ob .str y = some n) : y = .str n := by
  cases y <;> simp only [ofAV] at h <;> try (cases h; done)
  cases h
  rfl
def repRun (s : ByteArray) (c : Int) : Option ByteArray := if 0 ≤ c ∧ (c ≤ 9223372036854775807 ∧ s.size * c.toNat ≤ 140737488355328) then some ⟨(Lib.repeatL s.data.toList c.toNat).toArray⟩ else none
def repCtr : Ctr := ⟨[.one, .one], [.one true], false, .two .str (.int .i64), .str, fun _ x => repRun x.1 x.2⟩
theorem CtrOk.rep {f : Nat} (fn : ∃ fn, P.funcs[f]? = some fn ∧ (fn.name == "runtime.NumGoroutine") = false ∧ fn.body.isNone = false)
    (hr : ∀ (s : ByteArray) (c : Nat) (w : World), c ≤ 9223372036854775807 → s.size * c ≤ 140737488355328 → Calls P f #[.string s, .int .i64 c] w fun e w' => e = .returned (.string ⟨(Lib.repeatL s.data.toList c).toArray⟩) ∧ Below w.heap.size w w') : CtrOk P f repCtr := by
  refine ⟨fn, fun w0 X M ι ob w hhs hXM args vals hargs k id avs x r o q h1 h2' h3 h4 h5 h6 h7 h8 h9 => ?_⟩
  obtain ⟨y, r1, q1, rfl, f1, rfl⟩ := flat_one h1
  obtain ⟨c, r2, q2, rfl, f2, rfl⟩ := flat_one f1
  obtain ⟨rfl, rfl⟩ := flat_nil f2
  obtain ⟨s, n⟩ := x
  simp only [repCtr, ofAVs] at h2'
  obtain ⟨x1, g1, h2'⟩ := Option.bind_eq_some_iff.1 h2'
  obtain ⟨x2, g2, h2'⟩ := Option.bind_eq_some_iff.1 h2'
  cases h2'
  have hy := ofAV_str g1
  subst hy
  have hc := ofAV_i64 g2
  subst hc
  match vals, hargs with
  | [v1, v2], hargs =>
  obtain ⟨b1, b2, _⟩ := hargs
  have b1 : v1 = .string s := b1
  have b2 : v2 = .int .i64 n := b2
  have h6' : outR id repCtr.rs (Ty.cells repCtr.O r) = some ⟨[(false, [.str r])], [], id + 1, []⟩ := rfl
  simp only [h6'] at h6
  cases h6
  have h7' : outP (id + 1) repCtr.ps [.at (.str s), .at (.int .i64 n)] [] = some ([], []) := rfl
  simp only [h7'] at h7
  cases h7
  have hobE : updL ob ((bif repCtr.frz then freezeD ob (flatR ob repCtr.ps [.at (.str s), .at (.int .i64 n)]) else []) ++ (deads (gvIds ob repCtr.ps [.at (.str s), .at (.int .i64 n)]) ++ (([] : List (Nat × Obj)) ++ (([] : List (Nat × Obj)) ++ [])))) = ob := rfl
  simp only [hobE]
  have h5 : repRun s n = some r := h5
  unfold repRun at h5
  split at h5
  · rename_i hcond
    obtain ⟨n0, n1, n2⟩ := hcond
    have n0 : 0 ≤ n := n0
    have n1 : n ≤ 9223372036854775807 := n1
    cases h5
    have hn : (n.toNat : Int) = n := Int.toNat_of_nonneg n0
    have hrun := hr s n.toNat w (by have := Int.toNat_le.2 (show n ≤ ((9223372036854775807 : Nat) : Int) from n1); exact this) n2
    rw [hn, ← b1, ← b2] at hrun
    refine Calls.mono hrun fun en w' h => ?_
    obtain ⟨rfl, hb⟩ := h
    exact ⟨_, rfl, ι, hhs.below hb, Keeps.refl ι ob, rfl⟩
  · cases h5
end
end Go.Proofs.YtpinehfjimphmaaGreat.DI
