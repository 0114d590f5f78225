/- Plain laws of functions that are given fuel: from some fuel on they answer, and what they answer is so. -/
import Derived.Test.YtpinehfjimphmaaDIOpen
namespace Go.Proofs.Ytpinehfjimphmaa.DI.Pure
open Go Go.RowKit
set_option linter.unusedVariables false
structure Fu (ι : Type) where
  le : Nat → ι → Prop
  mono : ∀ {K K' : Nat} {x : ι}, K ≤ K' → le K' x → le K x
def F0 : Fu Nat := ⟨fun K k => K ≤ k, fun h h' => Nat.le_trans h h'⟩
def FS {ι : Type} (F : Fu ι) : Fu (ι × Nat) := ⟨fun K x => F.le K x.1 ∧ K ≤ x.2, fun h h' => ⟨F.mono h h'.1, Nat.le_trans h h'.2⟩⟩
def Tells {ι α : Type} (F : Fu ι) (g : ι → Option α) (P : α → Prop) : Prop := ∃ r, P r ∧ ∃ K, ∀ x, F.le K x → g x = some r
section
variable {ι α β : Type} {F : Fu ι} {P : α → Prop}
theorem T_mono {g : ι → Option α} {Q : α → Prop} (h : Tells F g P) (k : ∀ x, P x → Q x) : Tells F g Q := by
  obtain ⟨r, hp, h⟩ := h
  exact ⟨r, k r hp, h⟩
theorem T_ret {r : α} (h : P r) : Tells F (fun _ => some r) P := ⟨r, h, 0, fun _ _ => rfl⟩
theorem T_eq {g f : ι → Option α} (h : ∀ k, g k = f k) (hf : Tells F f P) : Tells F g P := by
  have : g = f := funext h
  rw [this]; exact hf
theorem T_bif {b : Bool} {f g : ι → Option α} (h1 : b = true → Tells F f P) (h2 : b = false → Tells F g P) : Tells F (fun k => bif b then f k else g k) P := by
  cases b
  · exact h2 rfl
  · exact h1 rfl
theorem T_dec {c : Prop} [d : Decidable c] {f g : ι → Option α} (h1 : c → Tells F f P) (h2 : ¬ c → Tells F g P) : Tells F (fun k => bif decide c then f k else g k) P :=
  T_bif (fun h => h1 (of_decide_eq_true h)) (fun h => h2 (of_decide_eq_false h))
theorem T_pos {c : Prop} [d : Decidable c] {f g : ι → Option α} (h : c) (hf : Tells F f P) : Tells F (fun k => bif decide c then f k else g k) P := T_dec (fun _ => hf) (fun h' => absurd h h')
theorem T_neg {c : Prop} [d : Decidable c] {f g : ι → Option α} (h : ¬ c) (hf : Tells F g P) : Tells F (fun k => bif decide c then f k else g k) P := T_dec (fun h' => absurd h' h) (fun _ => hf)
theorem T_true {b : Bool} {f g : ι → Option α} (h : b = true) (hf : Tells F f P) : Tells F (fun k => bif b then f k else g k) P := T_bif (fun _ => hf) (fun h' => by rw [h] at h'; cases h')
theorem T_false {b : Bool} {f g : ι → Option α} (h : b = false) (hf : Tells F g P) : Tells F (fun k => bif b then f k else g k) P := T_bif (fun h' => by rw [h] at h'; cases h') (fun _ => hf)
theorem T_and {c d : Prop} [dc : Decidable c] [dd : Decidable d] {f g : ι → Option α} (h : c) (h' : d) (hf : Tells F f P) : Tells F (fun k => bif (decide c && decide d) then f k else g k) P := T_true (by simp [h, h']) hf
theorem T_bind {g : ι → Option β} {f : ι → β → Option α} {Q : β → Prop} (h : Tells F g Q) (k : ∀ y, Q y → Tells F (fun x => f x y) P) : Tells F (fun x => (g x).bind (f x)) P := by
  obtain ⟨y, hq, K, h⟩ := h
  obtain ⟨r, hp, K', h'⟩ := k y hq
  refine ⟨r, hp, max K K', fun x hx => ?_⟩
  show (g x).bind (f x) = some r
  rw [h x (F.mono (Nat.le_max_left _ _) hx)]
  exact h' x (F.mono (Nat.le_max_right _ _) hx)
/-- A row is read at a place. -/
theorem T_at {l : List β} {i : Nat} {f : ι → β → Option α} {g : ι → Option α} (h : i < l.length) (hf : Tells F (fun x => f x l[i]) P) : Tells F (fun x => bif (decide ((0 : Int) ≤ (i : Int)) && decide ((i : Int) < (l.length : Int))) then (l[(i : Int).toNat]?).bind (f x) else g x) P := by
  refine T_and (by omega) (by omega) ?_
  have : l[(i : Int).toNat]? = some l[i] := by simp [h]
  simp only [this, Option.bind_some]
  exact hf
/-- A callee's answer. -/
theorem T_call {g : Nat → Option α} (h : Tells F0 g P) (p : ι → Nat) (hp : ∀ K x, F.le K x → K ≤ p x) : Tells F (fun x => g (p x)) P := by
  obtain ⟨r, hr, K, h⟩ := h
  exact ⟨r, hr, K, fun x hx => h _ (hp K x hx)⟩
theorem T_in {g : ι → Nat → Option α} (h : Tells (FS F) (fun x => g x.1 x.2) P) (p : ι → Nat) (hp : ∀ K x, F.le K x → K ≤ p x) : Tells F (fun x => g x (p x)) P := by
  obtain ⟨r, hr, K, h⟩ := h
  exact ⟨r, hr, K, fun x hx => h (x, p x) ⟨hx, hp K x hx⟩⟩
theorem T_step {g : ι → Nat → Option α} (h : Tells (FS F) (fun x => g x.1 (x.2 + 1)) P) : Tells (FS F) (fun x => g x.1 x.2) P := by
  obtain ⟨r, hr, K, h⟩ := h
  refine ⟨r, hr, K + 1, fun x hx => ?_⟩
  obtain ⟨x, j⟩ := x
  have h2 : K + 1 ≤ j := hx.2
  cases j with
  | zero => omega
  | succ j => exact h (x, j) ⟨F.mono (Nat.le_succ K) hx.1, by show K ≤ j; omega⟩
/-- A loop with a counter and a state. -/
theorem T_loops {σ : Type} (g : ι → Nat → σ → Nat → Option α) (n : Nat) (Inv : Nat → σ → Prop) (P : Nat → σ → α → Prop)
    (step : ∀ i s, i < n → Inv i s → (∀ s', Inv (i + 1) s' → Tells (FS F) (fun x => g x.1 x.2 s' (i + 1)) (P (i + 1) s')) → Tells (FS F) (fun x => g x.1 (x.2 + 1) s i) (P i s))
    (fin : ∀ s, Inv n s → Tells (FS F) (fun x => g x.1 (x.2 + 1) s n) (P n s)) : ∀ i s, i ≤ n → Inv i s → Tells (FS F) (fun x => g x.1 x.2 s i) (P i s) := by
  have key : ∀ d i s, i + d = n → Inv i s → Tells (FS F) (fun x => g x.1 x.2 s i) (P i s) := by
    intro d
    induction d with
    | zero =>
      intro i s hi hs
      obtain rfl : i = n := by omega
      exact T_step (g := fun x j => g x j s i) (fin s hs)
    | succ d ih =>
      intro i s hi hs
      exact T_step (g := fun x j => g x j s i) (step i s (by omega) hs (fun s' hs' => ih (i + 1) s' (by omega) hs'))
  exact fun i s hi hs => key (n - i) i s (by omega) hs
/-- A loop with a counter. -/
theorem T_loop (g : ι → Nat → Nat → Option α) (n : Nat) (P : Nat → α → Prop)
    (step : ∀ i, i < n → Tells (FS F) (fun x => g x.1 x.2 (i + 1)) (P (i + 1)) → Tells (FS F) (fun x => g x.1 (x.2 + 1) i) (P i)) (fin : Tells (FS F) (fun x => g x.1 (x.2 + 1) n) (P n)) : ∀ i, i ≤ n → Tells (FS F) (fun x => g x.1 x.2 i) (P i) :=
  fun i hi => T_loops (fun x j (_ : Unit) i => g x j i) n (fun _ _ => True) (fun i _ => P i) (fun i _ h _ k => step i h (k () trivial)) (fun _ _ => fin) i () hi trivial
end
theorem Tells.rounds {α : Type} {g : Nat → Option α} {r : α} (h : Tells F0 g (· = r)) : ∃ k, g k = some r := by
  obtain ⟨x, rfl, K, h⟩ := h
  exact ⟨K, h K (Nat.le_refl K)⟩
theorem wr64 {x : Int} (h0 : -9223372036854775808 ≤ x) (h1 : x ≤ 9223372036854775807) : IntKind.i64.wrap x = x := by
  have e : IntKind.i64.wrap x = if (true && decide (x % 18446744073709551616 ≥ 9223372036854775808)) = true then x % 18446744073709551616 - 18446744073709551616 else x % 18446744073709551616 := by kernel_rfl
  rw [e]
  simp only [Bool.true_and, decide_eq_true_eq]
  split <;> omega
theorem wrs {i n : Nat} (h : i < n) (hn : n ≤ 9223372036854775807) : IntKind.i64.wrap ((i : Int) + 1) = ((i + 1 : Nat) : Int) := by rw [wr64 (by omega) (by omega)]; rfl
section
variable {ι α : Type} {F : Fu ι} {P : α → Prop}
theorem T_ndec {c : Prop} [d : Decidable c] {f g : ι → Option α} (h1 : c → Tells F g P) (h2 : ¬ c → Tells F f P) : Tells F (fun k => bif !decide c then f k else g k) P :=
  T_bif (fun h => h2 (by simpa using h)) (fun h => h1 (by simpa using h))
theorem T_beq {a b : Int} {f g : ι → Option α} (h1 : a = b → Tells F f P) (h2 : a ≠ b → Tells F g P) : Tells F (fun k => bif (a == b) then f k else g k) P :=
  T_bif (fun h => h1 (by simpa using h)) (fun h => h2 (by simpa using h))
theorem T_bne {a b : Int} {f g : ι → Option α} (h1 : a ≠ b → Tells F f P) (h2 : a = b → Tells F g P) : Tells F (fun k => bif (a != b) then f k else g k) P :=
  T_bif (fun h => h1 (by simpa using h)) (fun h => h2 (by simpa using h))
theorem T_same {b : Bool} {f g : ι → Option α} (h : b = false) (hg : Tells F g P) : Tells F (fun k => bif b then f k else g k) P := T_false h hg
/-- A row is read at the place before. -/
theorem T_pre {β : Type} {l : List β} {i : Nat} {f : ι → β → Option α} {g : ι → Option α} (h0 : 0 < i) (h : i < l.length) (hn : l.length ≤ 9223372036854775807) (hf : Tells F (fun x => f x l[i - 1]) P) :
    Tells F (fun x => bif (decide ((0 : Int) ≤ IntKind.i64.wrap ((i : Int) - 1)) && decide (IntKind.i64.wrap ((i : Int) - 1) < (l.length : Int))) then (l[(IntKind.i64.wrap ((i : Int) - 1)).toNat]?).bind (f x) else g x) P := by
  have e : IntKind.i64.wrap ((i : Int) - 1) = ((i - 1 : Nat) : Int) := by rw [wr64 (by omega) (by omega)]; omega
  rw [e]
  exact T_at (i := i - 1) (by omega) hf
end
/-- What holds of all from a round on. -/
def From (C : Nat → Prop) (n i : Nat) : Prop := ∀ j, i ≤ j → j < n → C j
theorem From.cons {C : Nat → Prop} {n i : Nat} (h : C i) : From C n (i + 1) ↔ From C n i := by
  refine ⟨fun k j a b => ?_, fun k j a b => k j (by omega) b⟩
  by_cases e : j = i
  · exact e ▸ h
  · exact k j (by omega) b
theorem From.none {C : Nat → Prop} {n i : Nat} (hi : i < n) (h : ¬ C i) : ¬ From C n i := fun k => h (k i (Nat.le_refl _) hi)
theorem From.last (C : Nat → Prop) (n : Nat) : From C n n := fun j a b => absurd b (by omega)
/-- A test in a loop: each place is so, and what follows. -/
theorem T_body {ι : Type} {F : Fu ι} (g : ι → Nat → Nat → Option Bool) (n : Nat) (C : Nat → Prop) (X : Prop)
    (body : ∀ i, i < n → ∀ P : Bool → Prop, (C i → Tells (FS F) (fun x => g x.1 x.2 (i + 1)) P) → (¬ C i → P false) → Tells (FS F) (fun x => g x.1 (x.2 + 1) i) P) (hf : Tells (FS F) (fun x => g x.1 (x.2 + 1) n) (fun r => r = true ↔ X)) :
    Tells (FS F) (fun x => g x.1 x.2 0) (fun r => r = true ↔ (∀ j, j < n → C j) ∧ X) := by
  refine T_mono (T_loop g n (fun i r => r = true ↔ From C n i ∧ X) (fun i hi he => ?_) (T_mono hf fun r hr => hr.trans ⟨fun h => ⟨From.last C n, h⟩, fun h => h.2⟩) 0 (Nat.zero_le _)) fun r hr => by
      rw [hr]
      exact ⟨fun h => ⟨fun j hj => h.1 j (Nat.zero_le _) hj, h.2⟩, fun h => ⟨fun j _ hj => h.1 j hj, h.2⟩⟩
  refine body i hi _ (fun hc => T_mono he fun r hr => by rw [hr, From.cons hc]) (fun hc => ?_)
  exact ⟨fun h => absurd h Bool.false_ne_true, fun h => absurd h.1 (From.none hi hc)⟩
theorem same_bool {c : Prop} {r s : Bool} (h : r = true ↔ c) (k : s = true ↔ c) : s = r := Bool.eq_iff_iff.2 (k.trans h.symm)
theorem no_iff {c : Prop} (h : ¬ c) : (false = true ↔ c) := ⟨fun h => absurd h Bool.false_ne_true, fun k => absurd k h⟩
theorem yes_iff {c : Prop} (h : c) : (true = true ↔ c) := ⟨fun _ => h, fun _ => rfl⟩
theorem set_copy {α : Type} (l : List α) (z : α) (i : Nat) (h : i < l.length) : (l.take i ++ List.replicate (l.length - i) z).set i l[i] = l.take (i + 1) ++ List.replicate (l.length - (i + 1)) z := by
  have e : l.length - i = (l.length - (i + 1)) + 1 := by omega
  have hl : (l.take i).length = i := by rw [List.length_take]; omega
  rw [e, List.replicate_succ, List.set_append_right _ _ (by omega), hl, Nat.sub_self, List.set_cons_zero, List.take_succ_eq_append_getElem h]
  simp only [List.append_assoc, List.singleton_append]
end Go.Proofs.Ytpinehfjimphmaa.DI.Pure
