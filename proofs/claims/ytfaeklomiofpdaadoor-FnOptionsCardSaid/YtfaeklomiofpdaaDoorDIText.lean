/- The machine of values: functions of the library over texts (the shelf's contracts, turned to contracts of this machine). -/
import Derived.Test.YtfaeklomiofpdaaDoorDIPure
import Derived.Lib.AppendIntMem
import Derived.Lib.LaidTab
namespace Go.Proofs.YtfaeklomiofpdaaDoor.DI
open Go Go.RowKit
set_option linter.unusedVariables false
set_option linter.unusedSimpArgs false
section
variable {P : Program} {w0 : World} {X M : Nat → Prop} {ι : Nat → In} {w : World}
def ones (n : Nat) : List PK := List.replicate n .one
theorem flat_ones {ob : Ob} : ∀ (n : Nat) {args : List DV} {avs : List AV}, flat ob (ones n) args = some avs → args = avs.map .at
  | 0, args, avs, h => by
    obtain ⟨rfl, rfl⟩ := flat_nil h
    rfl
  | n + 1, args, avs, h => by
    obtain ⟨y, r1, q1, rfl, f1, rfl⟩ := flat_one (ps := ones n) h
    rw [flat_ones n f1]
    rfl
theorem flatR_ones {ob : Ob} : ∀ (n : Nat) (avs : List AV), gvIds ob (ones n) (avs.map .at) = [] ∧ boxIds (ones n) (avs.map .at) = []
  | 0, avs => ⟨rfl, rfl⟩
  | n + 1, [] => ⟨rfl, rfl⟩
  | n + 1, a :: r => by
    obtain ⟨h1, h2⟩ := flatR_ones (ob := ob) n r
    exact ⟨h1, h2⟩
theorem outP_ones : ∀ (n : Nat) {ob : Ob} (id : Nat) {args : List DV} {avs : List AV}, flat ob (ones n) args = some avs → outP id (ones n) args [] = some ([], [])
  | 0, ob, id, args, avs, h => by
    obtain ⟨rfl, rfl⟩ := flat_nil h
    rfl
  | n + 1, ob, id, args, avs, h => by
    obtain ⟨y, r1, q1, rfl, f1, rfl⟩ := flat_one (ps := ones n) h
    exact outP_ones n id f1
theorem all_at {ob : Ob} : ∀ {avs : List AV} {vals : List Value}, All2 (RepDV ι ob) (avs.map .at) vals → All2 (RepAV ι ob) avs vals
  | [], [], _ => trivial
  | a :: r, v :: q, h => ⟨h.1, all_at h.2⟩
  | [], _ :: _, h => h.elim
  | _ :: _, [], h => h.elim
/-- A function that reads numbers, texts and rows, and answers numbers, texts and truth values; what was there stays. -/
theorem CtrOk.scalar {f n : Nat} {c : Ctr} (fn : ∃ fn, P.funcs[f]? = some fn ∧ (fn.name == "runtime.NumGoroutine") = false ∧ fn.body.isNone = false) (hps : c.ps = ones n) (hfz : c.frz = false)
    (vs : c.O.den → List (Bool × List AV)) (outV : c.O.den → Value) (ho : ∀ id r, ∃ m, outR id c.rs (Ty.cells c.O r) = some ⟨vs r, [], m, []⟩) (hrep : ∀ (ι : Nat → In) (ob : Ob) r, RepDV ι ob (tupV (vs r)) (outV r))
    (hr : ∀ (w0 : World) (X M : Nat → Prop) (ι : Nat → In) (ob : Ob) (w : World), HS w0 X M ι ob w → ∀ k x r avs vals, ofAVs ob c.I avs = some x → All2 (RepAV ι ob) avs vals → c.run k x = some r → Calls P f vals.toArray w fun e w' => e = .returned (outV r) ∧ Below w.heap.size w w') : CtrOk P f c := by
  refine ⟨fn, fun w0 X M ι ob w hhs hXM args vals hargs k id avs x r o q h1 h2' h3 h4 h5 h6 h7 h8 h9 h10 => ?_⟩
  rw [hps] at h1 h7 ⊢
  obtain rfl := flat_ones n h1
  have hv := all_at hargs
  obtain ⟨g1, g2⟩ := flatR_ones (ob := ob) n avs
  obtain ⟨m, hm⟩ := ho id r
  rw [hm] at h6
  cases h6
  rw [outP_ones n m h1] at h7
  cases h7
  have hobE : updL ob ((bif c.frz then freeze ob (flatR ob (ones n) (avs.map .at)) else []) ++ (deads (gvIds ob (ones n) (avs.map .at)) ++ (([] : List (Nat × Obj)) ++ (([] : List (Nat × Obj)) ++ [])))) = ob := by
    rw [hfz, g1]
    rfl
  simp only [hobE]
  refine Calls.mono (hr w0 X M ι ob w hhs k x r avs vals h2' hv h5) fun en w' h => ?_
  obtain ⟨rfl, hb⟩ := h
  exact ⟨_, rfl, ι, hhs.below hb, Keeps.refl ι ob, hrep ι ob r⟩
theorem in_int {ob : Ob} {avs : List AV} {vals : List Value} {n : Int} (h : ofAVs ob (.int .i64) avs = some n) (hv : All2 (RepAV ι ob) avs vals) : vals = [.int .i64 n] := by
  match avs, h with
  | [y], h =>
    have hy := ofAV_i64 (show ofAV ob (.int .i64) y = some n from h)
    subst hy
    match vals, hv with
    | [v], hv => have := hv.1; simp only [RepAV] at this; rw [this]
  | [], h => simp [ofAVs] at h
  | _ :: _ :: _, h => simp [ofAVs] at h
theorem in_str {ob : Ob} {avs : List AV} {vals : List Value} {n : ByteArray} (h : ofAVs ob .str avs = some n) (hv : All2 (RepAV ι ob) avs vals) : vals = [.string n] := by
  match avs, h with
  | [y], h =>
    have hy := ofAV_str (show ofAV ob .str y = some n from h)
    subst hy
    match vals, hv with
    | [v], hv => have := hv.1; simp only [RepAV] at this; rw [this]
  | [], h => simp [ofAVs] at h
  | _ :: _ :: _, h => simp [ofAVs] at h
theorem in_two {ob : Ob} {a b : Ty} {avs : List AV} {vals : List Value} {x : (Ty.two a b).den} (h : ofAVs ob (.two a b) avs = some x) (hv : All2 (RepAV ι ob) avs vals) :
    ∃ y r v q, avs = y :: r ∧ vals = v :: q ∧ ofAV ob a y = some x.1 ∧ RepAV ι ob y v ∧ ofAVs ob b r = some x.2 ∧ All2 (RepAV ι ob) r q := by
  match avs, vals, h, hv with
  | y :: r, v :: q, h, hv =>
    simp only [ofAVs] at h
    obtain ⟨x1, g1, h⟩ := Option.bind_eq_some_iff.1 h
    obtain ⟨x2, g2, h⟩ := Option.bind_eq_some_iff.1 h
    cases h
    exact ⟨y, r, v, q, rfl, rfl, g1, hv.1, g2, hv.2⟩
  | [], _, h, _ => simp [ofAVs] at h
  | _ :: _, [], _, hv => exact hv.elim
theorem in_strs {ob : Ob} {avs : List AV} {vals : List Value} {x : (Ty.two .str .str).den} (h : ofAVs ob (.two .str .str) avs = some x) (hv : All2 (RepAV ι ob) avs vals) : vals = [.string x.1, .string x.2] := by
  obtain ⟨y, r, v, q, rfl, rfl, g1, g2, g3, g4⟩ := in_two h hv
  have hy := ofAV_str g1
  subst hy
  simp only [RepAV] at g2
  rw [g2, in_str g3 g4]
/-- The texts of a row that is read. -/
theorem in_row {e : Nat} {ob : Ob} (hs : HS w0 X M ι ob w) {y : AV} {v : Value} {l : List ByteArray} (h : ofAV ob (.sl e .str) y = some l) (hv : RepAV ι ob y v) :
    ∃ A c, v = .slice A l.length c ∧ l.length ≤ c ∧ ∀ j x, l[j]? = some x → ∃ ad, A = some ad ∧ ad.spot = none ∧ ad.block < w.heap.size ∧ w.cell? (ad.add j) = some (.string x) := by
  have key : ∀ (r : Nat) (own : Bool) (l0 : List ByteArray), ob r = some (.row e .str own l0) → l0.length ≤ (ι r).c ∧ ∀ (j : Nat) (x : ByteArray), l0[j]? = some x → ∃ ad, (ι r).a = some ad ∧ ad.spot = none ∧ ad.block < w.heap.size ∧ w.cell? (ad.add j) = some (.string x) := by
    intro r own l0 ho
    refine ⟨row_len (s := ⟨fun _ => .at .undef, ob⟩) hs ho, fun j x hx => ?_⟩
    obtain ⟨ad, k1, k2, k3, es, k4, k5⟩ := row_at (s := ⟨fun _ => .at .undef, ob⟩) hs ho hx
    have k4 : es = [.string x] := k4
    subst k4
    have hc := k5 0 (.string x) rfl
    simp only [Ty.size, Nat.mul_one, Nat.add_zero] at hc
    refine ⟨ad, k1, k2, ?_, hc⟩
    unfold World.cell? at hc
    rw [add_block] at hc
    cases hg : w.heap[ad.block]? with
    | none => rw [hg] at hc; simp at hc
    | some b => exact (Array.getElem?_eq_some_iff.1 hg).1
  cases y with
  | nils =>
    simp only [ofAV] at h
    cases h
    simp only [RepAV] at hv
    exact ⟨none, 0, hv, Nat.le_refl _, fun j x hx => by simp at hx⟩
  | whole r =>
    simp only [ofAV] at h
    split at h
    · rename_i e' t' o' l' ho
      split at h
      · rename_i he
        obtain ⟨rfl, rfl⟩ := he
        cases h
        exact ⟨_, _, whole_of (s := ⟨fun _ => .at .undef, ob⟩) hv ho, (key r o' l' ho).1, (key r o' l' ho).2⟩
      · cases h
    · cases h
  | cut r off n =>
    simp only [ofAV] at h
    split at h
    · rename_i e' t' o' l' ho
      split at h
      · rename_i he
        obtain ⟨rfl, rfl⟩ := he
        cases h
        obtain ⟨c1, A, c2, c3, c4⟩ := cut_of (s := ⟨fun _ => .at .undef, ob⟩) hv ho
        obtain ⟨q1, q2⟩ := key r o' l' ho
        have hl : ((List.drop off l').take n).length = n := by rw [List.length_take, List.length_drop]; omega
        refine ⟨A, (ι r).c - off, ?_, ?_, fun j x hx => ?_⟩
        · show v = .slice A ((List.drop off l').take n).length _
          rw [hl]; exact c2
        · show ((List.drop off l').take n).length ≤ _
          rw [hl]; omega
        · have hx : ((List.drop off l').take n)[j]? = some x := hx
          have hj : j < n := by rw [← hl]; exact (List.getElem?_eq_some_iff.1 hx).1
          rw [List.getElem?_take_of_lt hj, List.getElem?_drop] at hx
          obtain ⟨ad, m1, m2, m3, m4⟩ := q2 (off + j) x hx
          have hA := c3 (.inl (by omega))
          rw [m1] at hA
          refine ⟨ad.add (off * Ty.size .str), hA, add_spot _ _ m2, by rw [add_block]; exact m3, ?_⟩
          rw [add_add _ _ _ m2]
          simpa [Ty.size] using m4
      · cases h
    · cases h
  | undef => simp [ofAV] at h
  | int _ _ => simp [ofAV] at h
  | bool _ => simp [ofAV] at h
  | str _ => simp [ofAV] at h
  | bptr _ _ => simp [ofAV] at h
  | eptr _ _ _ => simp [ofAV] at h
  | fn _ _ => simp [ofAV] at h
end
end Go.Proofs.YtfaeklomiofpdaaDoor.DI
