/- FnEnds, the plain part: from some fuel on the law answers true. -/
import Derived.Test.YtpheniajdbbphaaGoalFnEnds
import Derived.Test.YtpheniajdbbphaaKITE
namespace Go.Proofs.Ytpheniajdbbphaa.DI.Pure
open Go Go.RowKit
set_option linter.unusedVariables false
set_option linter.unusedSimpArgs false
theorem in_eq (k : Nat) (n a b : Int) : spec_l01In.f k n a b = some (decide (a ≤ n ∧ n ≤ b)) := by
  unfold spec_l01In.f
  by_cases h : n ≥ a <;> by_cases h' : n ≤ b <;> simp [h, h'] <;> omega
theorem within_eq (k : Nat) (n a b : Int) : impl_within.f k n a b = some (decide (a ≤ n ∧ n ≤ b)) := by
  unfold impl_within.f
  by_cases h : n ≥ a <;> by_cases h' : n ≤ b <;> simp [h, h'] <;> omega

abbrev Pend := Int × ByteArray × Int × Int
abbrev Earl := Int × ByteArray
/-! The reference. -/
theorem isId_eq (k : Nat) (n : Int) : impl_isId.f k n = some (decide (1 ≤ n ∧ n ≤ 99)) := by
  unfold impl_isId.f
  rw [within_eq]; rfl

def TextC (l : List ByteArray) (j : Nat) : Prop := ∀ h : j < l.length, (l[j]).size ≤ 120
def TextsP (l : List ByteArray) : Prop := ∀ j, j < l.length → TextC l j
def SentC (q : Int) (l : List Pend) (i : Nat) : Prop := ∀ h : i < l.length, (1 ≤ (l[i]).1 ∧ (l[i]).1 ≤ q) ∧ (0 < i → (l[i - 1]).1 < (l[i]).1) ∧ (0 ≤ (l[i]).2.2.1 ∧ (l[i]).2.2.1 ≤ 1000000000) ∧ (1 ≤ (l[i]).2.2.2 ∧ (l[i]).2.2.2 ≤ 8) ∧ (l[i]).2.1.size ≤ 120
def EarlyC (a b : Int) (l : List Earl) (i : Nat) : Prop := ∀ h : i < l.length, (a ≤ (l[i]).1 ∧ (l[i]).1 ≤ b) ∧ (0 < i → (l[i - 1]).1 < (l[i]).1) ∧ (l[i]).2.size ≤ 120
def AckC (b : Int) (l : List Int) (i : Nat) : Prop := ∀ h : i < l.length, 1 ≤ l[i] ∧ l[i] ≤ b
def ChanP (c0 c1 c2 : Int) (c3 : List ByteArray) (c4 : List Pend) (c5 : Int) (c6 : List Earl) (c7 : List Int) (c8 : List ByteArray) : Prop :=
  ((1 ≤ c0 ∧ c0 ≤ 99) ∧ (1 ≤ c1 ∧ c1 ≤ 99) ∧ (0 ≤ c2 ∧ c2 ≤ 1000) ∧ c3.length ≤ 30 ∧ TextsP c3) ∧ ((∀ i, i < c4.length → SentC c2 c4 i) ∧ c4.length ≤ 4) ∧ ((0 ≤ c5 ∧ c5 ≤ 1000) ∧ (c8.length : Int) = c5 ∧ TextsP c8 ∧ c7.length ≤ 4) ∧ (∀ i, i < c6.length → EarlyC (c5 + 2) (c5 + 4) c6 i) ∧ ∀ i, i < c7.length → AckC (c5 + 4) c7 i
theorem spec_l13Texts.ev (l : List ByteArray) (hn : l.length ≤ 1048576) : Tells F0 (fun k => spec_l13Texts.f k l) (fun r => r = true ↔ TextsP l) := by
  have h := T_body (F := F0) (fun k j i => spec_l13Texts.l0 k j ((i : Int), l)) l.length (TextC l) True (fun i hi P go bad => by
    dsimp only [spec_l13Texts.l0, spec_l13Texts.s0]
    refine T_pos (by omega) (T_at hi (T_dec (fun h => T_ret (bad fun c => ?_)) fun h => ?_))
    · have := c hi
      omega
    · rw [wrs hi (by omega)]
      exact go fun _ => by omega) (by
    dsimp only [spec_l13Texts.l0, spec_l13Texts.s0]
    exact T_neg (by omega) (T_ret (by simp)))
  unfold spec_l13Texts.f
  exact T_in (g := fun x j => spec_l13Texts.l0 x j _) (T_mono h fun r hr => by rw [hr]; exact ⟨fun h => h.1, fun h => ⟨h, trivial⟩⟩) (fun k => k) (fun _ _ h => h)
theorem spec_l13Sent.ev (c0 c1 c2 : Int) (c3 : List ByteArray) (c4 : List Pend) (c5 : Int) (c6 : List Earl) (c7 : List Int) (c8 : List ByteArray) (h4 : c4.length ≤ 1048576) :
    Tells F0 (fun k => spec_l13Sent.f k c0 c1 c2 c3 c4 c5 c6 c7 c8) (fun r => r = true ↔ (∀ i, i < c4.length → SentC c2 c4 i) ∧ c4.length ≤ 4) := by
  have h := T_body (F := F0) (fun k j i => spec_l13Sent.l0 k j ((i : Int), c3, c4, c6, c7, c8, c0, c1, c2, c5)) c4.length (SentC c2 c4) (c4.length ≤ 4) (fun i hi P go bad => by
    dsimp only [spec_l13Sent.l0, spec_l13Sent.s0]
    simp only [in_eq, Option.bind_some]
    refine T_pos (by omega) (T_at hi (T_ndec (fun a1 => T_dec (fun a2 => T_pre (by omega) hi (by omega) (T_dec (fun a3 => T_ret (bad fun c => ?_)) fun a3 => ?_)) fun a2 => ?_) fun a1 => T_ret (bad fun c => a1 (c hi).1)))
    · have := (c hi).2.1 (by omega)
      omega
    · refine T_ndec (fun a4 => T_ndec (fun a5 => T_dec (fun a6 => T_ret (bad fun c => ?_)) fun a6 => ?_) fun a5 => T_ret (bad fun c => a5 (c hi).2.2.2.1)) fun a4 => T_ret (bad fun c => a4 (c hi).2.2.1)
      · have := (c hi).2.2.2.2
        omega
      · rw [wrs hi (by omega)]
        exact go fun _ => ⟨a1, fun _ => by omega, a4, a5, by omega⟩
    · refine T_ndec (fun a4 => T_ndec (fun a5 => T_dec (fun a6 => T_ret (bad fun c => ?_)) fun a6 => ?_) fun a5 => T_ret (bad fun c => a5 (c hi).2.2.2.1)) fun a4 => T_ret (bad fun c => a4 (c hi).2.2.1)
      · have := (c hi).2.2.2.2
        omega
      · rw [wrs hi (by omega)]
        exact go fun _ => ⟨a1, fun _ => by omega, a4, a5, by omega⟩) (by
    dsimp only [spec_l13Sent.l0, spec_l13Sent.s0]
    exact T_neg (by omega) (T_ret (by rw [decide_eq_true_eq]; omega)))
  unfold spec_l13Sent.f
  exact T_in (g := fun x j => spec_l13Sent.l0 x j _) h (fun k => k) (fun _ _ h => h)
theorem spec_ChanOk.ev (c0 c1 c2 : Int) (c3 : List ByteArray) (c4 : List Pend) (c5 : Int) (c6 : List Earl) (c7 : List Int) (c8 : List ByteArray) (h3 : c3.length ≤ 1048576) (h4 : c4.length ≤ 1048576) (h6 : c6.length ≤ 1048576) (h7 : c7.length ≤ 1048576) (h8 : c8.length ≤ 1048576) :
    Tells F0 (fun k => spec_ChanOk.f k c0 c1 c2 c3 c4 c5 c6 c7 c8) (fun r => r = true ↔ ChanP c0 c1 c2 c3 c4 c5 c6 c7 c8) := by
  have loop2 : (0 ≤ c5 ∧ c5 ≤ 1000) → Tells F0 (fun k => spec_ChanOk.l2 k k ((0 : Int), c3, c4, c6, c7, c8, c0, c1, c2, c5)) (fun r => r = true ↔ ∀ i, i < c7.length → AckC (c5 + 4) c7 i) := by
    intro hc
    have h := T_body (F := F0) (fun k j i => spec_ChanOk.l2 k j ((i : Int), c3, c4, c6, c7, c8, c0, c1, c2, c5)) c7.length (AckC (c5 + 4) c7) True (fun i hi P go bad => by
      dsimp only [spec_ChanOk.l2, spec_ChanOk.s2]
      simp only [in_eq, Option.bind_some]
      rw [wr64 (x := c5 + 4) (by omega) (by omega)]
      refine T_pos (by omega) (T_at hi (T_ndec (fun a1 => ?_) fun a1 => T_ret (bad fun c => a1 (c hi))))
      rw [wrs hi (by omega)]
      exact go fun _ => a1) (by
      dsimp only [spec_ChanOk.l2, spec_ChanOk.s2]
      exact T_neg (by omega) (T_ret (by simp)))
    exact T_in (g := fun x j => spec_ChanOk.l2 x j _) (T_mono h fun r hr => by rw [hr]; exact ⟨fun h => h.1, fun h => ⟨h, trivial⟩⟩) (fun k => k) (fun _ _ h => h)
  have loop0 : (0 ≤ c5 ∧ c5 ≤ 1000) → Tells F0 (fun k => spec_ChanOk.l0 k k ((0 : Int), c3, c4, c6, c7, c8, c0, c1, c2, c5)) (fun r => r = true ↔ (∀ i, i < c6.length → EarlyC (c5 + 2) (c5 + 4) c6 i) ∧ ∀ i, i < c7.length → AckC (c5 + 4) c7 i) := by
    intro hc
    have h := T_body (F := F0) (fun k j i => spec_ChanOk.l0 k j ((i : Int), c3, c4, c6, c7, c8, c0, c1, c2, c5)) c6.length (EarlyC (c5 + 2) (c5 + 4) c6) (∀ i, i < c7.length → AckC (c5 + 4) c7 i) (fun i hi P go bad => by
      dsimp only [spec_ChanOk.l0, spec_ChanOk.s0]
      simp only [in_eq, Option.bind_some]
      rw [wr64 (x := c5 + 4) (by omega) (by omega), wr64 (x := c5 + 2) (by omega) (by omega)]
      refine T_pos (by omega) (T_at hi (T_ndec (fun a1 => T_dec (fun a2 => T_pre (by omega) hi (by omega) (T_at hi (T_dec (fun a3 => T_ret (bad fun c => ?_)) fun a3 => T_at hi (T_dec (fun a4 => T_ret (bad fun c => ?_)) fun a4 => ?_)))) fun a2 => T_at hi (T_dec (fun a4 => T_ret (bad fun c => ?_)) fun a4 => ?_)) fun a1 => T_ret (bad fun c => a1 (c hi).1)))
      · have := (c hi).2.1 (by omega)
        omega
      · have := (c hi).2.2
        omega
      · rw [wrs hi (by omega)]
        exact go fun _ => ⟨a1, fun _ => by omega, by omega⟩
      · have := (c hi).2.2
        omega
      · rw [wrs hi (by omega)]
        exact go fun _ => ⟨a1, fun _ => by omega, by omega⟩) (by
      dsimp only [spec_ChanOk.l0, spec_ChanOk.s0]
      exact T_neg (by omega) (T_call (loop2 hc) Prod.fst (fun _ _ h => h.1)))
    exact T_in (g := fun x j => spec_ChanOk.l0 x j _) h (fun k => k) (fun _ _ h => h)
  unfold spec_ChanOk.f
  simp only [in_eq, Option.bind_some]
  refine T_ndec (fun a0 => T_ndec (fun a1 => T_ndec (fun a2 => T_dec (fun a3 => T_ret (no_iff fun c => ?_)) fun a3 => ?_) fun a2 => T_ret (no_iff fun c => a2 c.1.2.2.1)) fun a1 => T_ret (no_iff fun c => a1 c.1.2.1)) fun a0 => T_ret (no_iff fun c => a0 c.1.1)
  · have := c.1.2.2.2.1
    omega
  refine T_bind (spec_l13Texts.ev c3 h3) fun q hq => ?_
  cases q with
  | false => exact T_true rfl (T_ret (no_iff fun c => absurd (hq.2 c.1.2.2.2.2) (by simp)))
  | true =>
  refine T_same rfl (T_bind (spec_l13Sent.ev c0 c1 c2 c3 c4 c5 c6 c7 c8 h4) fun q2 hq2 => ?_)
  cases q2 with
  | false => exact T_true rfl (T_ret (no_iff fun c => absurd (hq2.2 c.2.1) (by simp)))
  | true =>
  refine T_same rfl (T_ndec (fun b2 => T_bne (fun b3 => T_ret (no_iff fun c => b3 c.2.2.1.2.1)) fun b3 => ?_) fun b2 => T_ret (no_iff fun c => b2 c.2.2.1.1))
  refine T_bind (spec_l13Texts.ev c8 h8) fun q3 hq3 => ?_
  cases q3 with
  | false => exact T_true rfl (T_ret (no_iff fun c => absurd (hq3.2 c.2.2.1.2.2.1) (by simp)))
  | true =>
  refine T_same rfl (T_dec (fun b5 => T_ret (no_iff fun c => ?_)) fun b5 => T_mono (loop0 b2) fun r hr => ?_)
  · have := c.2.2.1.2.2.2
    omega
  · rw [hr]
    exact ⟨fun c => ⟨⟨a0, a1, a2, by omega, hq.1 rfl⟩, hq2.1 rfl, ⟨b2, b3, hq3.1 rfl, by omega⟩, c⟩, fun c => c.2.2.2⟩
/-! The program. -/
theorem impl_textsOk.ev (a b : List ByteArray) (ha : a.length ≤ 1048576) (hb : b.length ≤ 1048576) : Tells F0 (fun k => impl_textsOk.f k [a, b]) (fun r => r = true ↔ TextsP a ∧ TextsP b) := by
  have hls : ∀ i (h : i < [a, b].length), ([a, b][i]).length ≤ 1048576 := by
    intro i h
    match i, h with
    | 0, _ => exact ha
    | 1, _ => exact hb
  generalize hl : [a, b] = ls at hls
  have h2 : ls.length = 2 := by rw [← hl]; rfl
  have h := T_loop (F := F0) (fun k j i => impl_textsOk.l0 k j ((2 : Int), (i : Int), ls)) 2 (fun i r => r = true ↔ ∀ m (h : m < ls.length), i ≤ m → TextsP ls[m]) (fun i hi he => by
    dsimp only [impl_textsOk.l0, impl_textsOk.s0]
    have hi' : i < ls.length := by omega
    refine T_pos (by omega) (T_at hi' (T_in (F := FS F0) (g := fun x m => impl_textsOk.l2 x.1 (impl_textsOk.l0 x.1 x.2) m _) ?_ Prod.fst (fun _ _ h => h.1)))
    have hn := hls i hi'
    refine T_mono (T_body (F := FS F0) (fun x m j => impl_textsOk.l2 x.1 (impl_textsOk.l0 x.1 x.2) m ((2 : Int), (i : Int), ((ls[i]).length : Int), (j : Int), ls, ls[i])) (ls[i]).length (TextC ls[i]) (∀ m (h : m < ls.length), i + 1 ≤ m → TextsP ls[m]) (fun j hj P go bad => ?_) ?_) fun r hr => ?_
    · dsimp only [impl_textsOk.l2, impl_textsOk.s2]
      refine T_pos (by omega) (T_at hj (T_dec (fun h => T_ret (bad fun c => ?_)) fun h => ?_))
      · have := c hj
        omega
      · rw [wrs hj (by omega)]
        exact go fun _ => by omega
    · dsimp only [impl_textsOk.l2, impl_textsOk.s2]
      refine T_neg (by omega) ?_
      rw [wrs hi (by omega)]
      exact T_lift he
    · rw [hr]
      constructor
      · rintro ⟨c1, c2⟩ m hm h
        by_cases e : m = i
        · subst e; exact c1
        · exact c2 m hm (by omega)
      · exact fun c => ⟨c i hi' (Nat.le_refl _), fun m hm h => c m hm (by omega)⟩) (by
    dsimp only [impl_textsOk.l0, impl_textsOk.s0]
    exact T_neg (by omega) (T_ret ⟨fun _ m hm h => absurd hm (by omega), fun _ => rfl⟩)) 0 (Nat.zero_le _)
  unfold impl_textsOk.f
  refine T_in (g := fun x j => impl_textsOk.l0 x j _) (T_mono (α := Bool) (P := fun r => r = true ↔ ∀ m (h : m < ls.length), 0 ≤ m → TextsP ls[m]) ?_ fun r hr => ?_) (fun k => k) (fun _ _ h => h)
  · have : (ls.length : Int) = 2 := by omega
    simpa [this] using h
  · rw [hr]
    subst hl
    exact ⟨fun c => ⟨c 0 (by simp) (by omega), c 1 (by simp) (by omega)⟩, fun c m hm _ => by
      match m, hm with
      | 0, _ => exact c.1
      | 1, _ => exact c.2⟩
theorem impl_ChanOk.ev (c0 c1 c2 : Int) (c3 : List ByteArray) (c4 : List Pend) (c5 : Int) (c6 : List Earl) (c7 : List Int) (c8 : List ByteArray) (h3 : c3.length ≤ 1048576) (h4 : c4.length ≤ 1048576) (h6 : c6.length ≤ 1048576) (h7 : c7.length ≤ 1048576) (h8 : c8.length ≤ 1048576) :
    Tells F0 (fun k => impl_ChanOk.f k c0 c1 c2 c3 c4 c5 c6 c7 c8) (fun r => r = true ↔ ChanP c0 c1 c2 c3 c4 c5 c6 c7 c8) := by
  generalize hw4 : IntKind.i64.wrap (c5 + 4) = w4
  generalize hw2 : IntKind.i64.wrap (c5 + 2) = w2
  have last : Tells F0 (fun k => impl_ChanOk.l4 k k ((c7.length : Int), (0 : Int), c3, c4, c6, c7, c8, c0, c1, c2, c5)) (fun r => r = true ↔ (∀ i, i < c7.length → AckC w4 c7 i) ∧ (((1 ≤ c0 ∧ c0 ≤ 99) ∧ (1 ≤ c1 ∧ c1 ≤ 99) ∧ (0 ≤ c2 ∧ c2 ≤ 1000) ∧ (0 ≤ c5 ∧ c5 ≤ 1000)) ∧ (c8.length : Int) = c5 ∧ c3.length ≤ 30 ∧ (TextsP c3 ∧ TextsP c8) ∧ c4.length ≤ 4 ∧ c7.length ≤ 4)) := by
    refine T_in (g := fun x j => impl_ChanOk.l4 x j _) (T_body (F := F0) (fun k j i => impl_ChanOk.l4 k j ((c7.length : Int), (i : Int), c3, c4, c6, c7, c8, c0, c1, c2, c5)) c7.length (AckC w4 c7) _ (fun i hi P go bad => ?_) ?_) (fun k => k) (fun _ _ h => h)
    · dsimp only [impl_ChanOk.l4, impl_ChanOk.s4]
      simp only [within_eq, Option.bind_some, hw4]
      refine T_pos (by omega) (T_at hi (T_ndec (fun a1 => ?_) fun a1 => T_ret (bad fun c => a1 (c hi))))
      rw [wrs hi (by omega)]
      exact go fun _ => a1
    · dsimp only [impl_ChanOk.l4, impl_ChanOk.s4]
      simp only [within_eq, isId_eq, Option.bind_some]
      refine T_neg (by omega) (T_dec (fun a0 => T_dec (fun a1 => T_dec (fun a2 => T_dec (fun a3 => T_beq (fun a4 => T_dec (fun a5 => ?_) fun a5 => T_ret (no_iff fun c => ?_)) fun a4 => T_ret (no_iff fun c => a4 c.2.1)) fun a3 => T_ret (no_iff fun c => a3 c.1.2.2.2)) fun a2 => T_ret (no_iff fun c => a2 c.1.2.2.1)) fun a1 => T_ret (no_iff fun c => a1 c.1.2.1)) fun a0 => T_ret (no_iff fun c => a0 c.1.1))
      · refine T_bind (T_call (impl_textsOk.ev c3 c8 h3 h8) Prod.fst (fun _ _ h => h.1)) fun q hq => ?_
        cases q with
        | false => exact T_false rfl (T_ret (no_iff fun c => absurd (hq.2 c.2.2.2.1) (by simp)))
        | true =>
        refine T_true rfl (T_dec (fun a7 => T_ret ?_) fun a7 => T_ret (no_iff fun c => ?_))
        · rw [decide_eq_true_eq]
          exact ⟨fun h => ⟨⟨a0, a1, a2, a3⟩, a4, by omega, hq.1 rfl, by omega, by omega⟩, fun h => by have := h.2.2.2.2.2; omega⟩
        · have := c.2.2.2.2.1
          omega
      · have := c.2.2.1
        omega
  have mid : Tells F0 (fun k => impl_ChanOk.l2 k k ((c6.length : Int), (0 : Int), c3, c4, c6, c7, c8, c0, c1, c2, c5)) (fun r => r = true ↔ (∀ i, i < c6.length → EarlyC w2 w4 c6 i) ∧ ((∀ i, i < c7.length → AckC w4 c7 i) ∧ (((1 ≤ c0 ∧ c0 ≤ 99) ∧ (1 ≤ c1 ∧ c1 ≤ 99) ∧ (0 ≤ c2 ∧ c2 ≤ 1000) ∧ (0 ≤ c5 ∧ c5 ≤ 1000)) ∧ (c8.length : Int) = c5 ∧ c3.length ≤ 30 ∧ (TextsP c3 ∧ TextsP c8) ∧ c4.length ≤ 4 ∧ c7.length ≤ 4))) := by
    refine T_in (g := fun x j => impl_ChanOk.l2 x j _) (T_body (F := F0) (fun k j i => impl_ChanOk.l2 k j ((c6.length : Int), (i : Int), c3, c4, c6, c7, c8, c0, c1, c2, c5)) c6.length (EarlyC w2 w4 c6) _ (fun i hi P go bad => ?_) ?_) (fun k => k) (fun _ _ h => h)
    · dsimp only [impl_ChanOk.l2, impl_ChanOk.s2]
      simp only [within_eq, Option.bind_some, hw4, hw2]
      refine T_pos (by omega) (T_at hi (T_dec (fun a2 => T_pre (by omega) hi (by omega) (T_dec (fun a3 => T_ret (bad fun c => ?_)) fun a3 => T_ndec (fun a1 => T_dec (fun a4 => T_ret (bad fun c => ?_)) fun a4 => ?_) fun a1 => T_ret (bad fun c => a1 (c hi).1))) fun a2 => T_ndec (fun a1 => T_dec (fun a4 => T_ret (bad fun c => ?_)) fun a4 => ?_) fun a1 => T_ret (bad fun c => a1 (c hi).1)))
      · have := (c hi).2.1 (by omega)
        omega
      · have := (c hi).2.2
        omega
      · rw [wrs hi (by omega)]
        exact go fun _ => ⟨a1, fun _ => by omega, by omega⟩
      · have := (c hi).2.2
        omega
      · rw [wrs hi (by omega)]
        exact go fun _ => ⟨a1, fun _ => by omega, by omega⟩
    · dsimp only [impl_ChanOk.l2, impl_ChanOk.s2]
      exact T_neg (by omega) (T_call last Prod.fst (fun _ _ h => h.1))
  have first := T_body (F := F0) (fun k j i => impl_ChanOk.l0 k j ((c4.length : Int), (i : Int), c3, c4, c6, c7, c8, c0, c1, c2, c5)) c4.length (SentC c2 c4) _ (fun i hi P go bad => by
    dsimp only [impl_ChanOk.l0, impl_ChanOk.s0]
    simp only [within_eq, Option.bind_some]
    refine T_pos (by omega) (T_at hi (T_dec (fun a2 => T_pre (by omega) hi (by omega) (T_dec (fun a3 => T_ret (bad fun c => ?_)) fun a3 => ?_)) fun a2 => ?_))
    · have := (c hi).2.1 (by omega)
      omega
    · refine T_ndec (fun a1 => T_ndec (fun a4 => T_ndec (fun a5 => T_dec (fun a6 => T_ret (bad fun c => ?_)) fun a6 => ?_) fun a5 => T_ret (bad fun c => a5 (c hi).2.2.2.1)) fun a4 => T_ret (bad fun c => a4 (c hi).2.2.1)) fun a1 => T_ret (bad fun c => a1 (c hi).1)
      · have := (c hi).2.2.2.2
        omega
      · rw [wrs hi (by omega)]
        exact go fun _ => ⟨a1, fun _ => by omega, a4, a5, by omega⟩
    · refine T_ndec (fun a1 => T_ndec (fun a4 => T_ndec (fun a5 => T_dec (fun a6 => T_ret (bad fun c => ?_)) fun a6 => ?_) fun a5 => T_ret (bad fun c => a5 (c hi).2.2.2.1)) fun a4 => T_ret (bad fun c => a4 (c hi).2.2.1)) fun a1 => T_ret (bad fun c => a1 (c hi).1)
      · have := (c hi).2.2.2.2
        omega
      · rw [wrs hi (by omega)]
        exact go fun _ => ⟨a1, fun _ => by omega, a4, a5, by omega⟩) (by
    dsimp only [impl_ChanOk.l0, impl_ChanOk.s0]
    exact T_neg (by omega) (T_call mid Prod.fst (fun _ _ h => h.1)))
  unfold impl_ChanOk.f
  refine T_in (g := fun x j => impl_ChanOk.l0 x j _) (T_mono first fun r hr => ?_) (fun k => k) (fun _ _ h => h)
  rw [hr]
  unfold ChanP
  by_cases hc : 0 ≤ c5 ∧ c5 ≤ 1000
  · rw [wr64 (x := c5 + 4) (by omega) (by omega)] at hw4
    rw [wr64 (x := c5 + 2) (by omega) (by omega)] at hw2
    subst hw4 hw2
    constructor
    · rintro ⟨a, b, c, ⟨d1, d2, d3, d4⟩, e, f, ⟨g1, g2⟩, h, i⟩
      exact ⟨⟨d1, d2, d3, f, g1⟩, ⟨a, h⟩, ⟨hc, e, g2, i⟩, b, c⟩
    · rintro ⟨⟨d1, d2, d3, f, g1⟩, ⟨a, h⟩, ⟨_, e, g2, i⟩, b, c⟩
      exact ⟨a, b, c, ⟨d1, d2, d3, hc⟩, e, f, ⟨g1, g2⟩, h, i⟩
  · constructor
    · rintro ⟨a, b, c, ⟨d1, d2, d3, d4⟩, _⟩
      exact absurd d4 hc
    · rintro ⟨_, _, ⟨d, _⟩, _⟩
      exact absurd d hc

theorem impl_copyInts.ev (l : List Int) (h : l.length ≤ 1048576) : Tells F0 (fun k => impl_copyInts.f k l) (· = l) := by
  unfold impl_copyInts.f
  exact T_pos (by simp; omega) (T_ret rfl)

abbrev ChanT := Int × Int × Int × List ByteArray × List Pend × Int × List Earl × List Int × List ByteArray
theorem impl_copyTexts.ev (l : List ByteArray) (h : l.length ≤ 1048576) : Tells F0 (fun k => impl_copyTexts.f k l) (· = l) := by
  unfold impl_copyTexts.f
  exact T_pos (by simp; omega) (T_ret rfl)
section
variable (c0 c1 c2 : Int) (c3 : List ByteArray) (c4 : List Pend) (c5 : Int) (c6 : List Earl) (c7 : List Int) (c8 : List ByteArray)
theorem impl_copyChan.ev (h3 : c3.length ≤ 1048576) (h4 : c4.length ≤ 1048576) (h6 : c6.length ≤ 1048576) (h7 : c7.length ≤ 1048576) (h8 : c8.length ≤ 1048576) :
    Tells F0 (fun k => impl_copyChan.f k c0 c1 c2 c3 c4 c5 c6 c7 c8) (· = (c0, c1, c2, c3, c4, c5, c6, c7, c8)) := by
  unfold impl_copyChan.f
  exact T_bindE (impl_copyTexts.ev c3 h3) (T_bindE (impl_copyTexts.ev c8 h8) (T_bindE (impl_copyInts.ev c7 h7) (T_pos (by simp; omega) (T_pos (by simp; omega) (T_ret rfl)))))
theorem spec_l13Copy.ev (h3 : c3.length ≤ 1048576) (h4 : c4.length ≤ 1048576) (h6 : c6.length ≤ 1048576) (h7 : c7.length ≤ 1048576) (h8 : c8.length ≤ 1048576) :
    Tells F0 (fun k => spec_l13Copy.f k c0 c1 c2 c3 c4 c5 c6 c7 c8) (· = (c0, c1, c2, c3, c4, c5, c6, c7, c8)) := by
  unfold spec_l13Copy.f
  exact T_pos (by simp; omega) (T_pos (by simp; omega) (T_pos (by simp; omega) (T_pos (by simp; omega) (T_pos (by simp; omega) (T_ret rfl)))))
end

theorem take_filter_succ {α : Type} (p : α → Bool) (l : List α) (i : Nat) (h : i < l.length) : (l.take (i + 1)).filter p = (l.take i).filter p ++ (if p l[i] then [l[i]] else []) := by
  rw [List.take_succ_eq_append_getElem h, List.filter_append]
  cases e : p l[i] <;> simp [e]
theorem drop_get {α : Type} {l l' : List α} {j : Nat} (h : l'.drop j = l.drop j) (hj : j < l.length) (hj' : j < l'.length) : l'[j] = l[j] := by
  have := congrArg (fun x => x[0]?) h
  simp only [List.getElem?_drop, Nat.add_zero, List.getElem?_eq_getElem hj, List.getElem?_eq_getElem hj'] at this
  exact Option.some.inj this
theorem set_take_succ {α : Type} (l : List α) (i : Nat) (x : α) (h : i < l.length) : (l.set i x).take (i + 1) = l.take i ++ [x] := by
  rw [List.take_succ_eq_append_getElem (by simpa using h), List.take_set_of_le (Nat.le_refl _), List.getElem_set_self]

theorem filter_len_take {α : Type} (p : α → Bool) (l : List α) (i : Nat) : ((l.take i).filter p).length ≤ l.length :=
  Nat.le_trans (List.length_filter_le _ _) (by simp; omega)

theorem T_getw {ι α β : Type} {F : Fu ι} {P : α → Prop} {l : List β} {i : Nat} {v : β} {f : ι → β → Option α} {g : ι → Option α} (hv : l[i]? = some v) (hf : Tells F (fun x => f x v) P) : Tells F (fun x => bif (decide ((0 : Int) ≤ (i : Int)) && decide ((i : Int) < (l.length : Int))) then (l[i]?).bind (f x) else g x) P := by
  have h := (List.getElem?_eq_some_iff.1 hv).1
  refine T_and (by omega) (by omega) ?_
  simp only [hv, Option.bind_some]
  exact hf
abbrev Pkt := Int × Int × Int × Int × Int × List Int × ByteArray
def headN : List Pend → Int | [] => 0 | x :: _ => x.1
def canF (s : List Pend) (n : Int) : Prop := s.length < 4 ∧ (s.length = 0 ∨ headN s > n - 3)
instance (s : List Pend) (n : Int) : Decidable (canF s n) := by unfold canF; infer_instance
def fillF (now : Int) : List ByteArray → List Pend → Int → List ByteArray × List Pend × Int
  | [], s, n => ([], s, n)
  | b :: q, s, n => if canF s n then fillF now q (s ++ [(n + 1, b, now, 0)]) (n + 1) else (b :: q, s, n)
theorem tl_eq {α : Type} (l : List α) (x : α) : ((x :: l).drop 1).take ((x :: l).length - 1) = l := by simp
section
variable (c0 c1 c2 : Int) (c3 : List ByteArray) (c4 : List Pend) (c5 : Int) (c6 : List Earl) (c7 : List Int) (c8 : List ByteArray) (now : Int)
theorem impl_fill.ev (n : Int) (q : List ByteArray) (s : List Pend) (hn : 0 ≤ n ∧ n ≤ 1000000) (hq : q.length ≤ 1048576) (hs : s.length ≤ 1048576) :
    Tells F0 (fun k => impl_Chan_fill.f k c0 c1 n q s c5 c6 c7 c8 now) (· = (c0, c1, (fillF now q s n).2.2, (fillF now q s n).1, (fillF now q s n).2.1, c5, c6, c7, c8)) := by
  unfold impl_Chan_fill.f
  have h := T_loops (F := F0) (fun k j (t : List ByteArray × List Pend × Int) (_ : Nat) => impl_Chan_fill.l0 k j (now, c0, c1, t.2.2, c5, t.1, t.2.1, c6, c7, c8)) q.length (fun i t => t.1.length + i = q.length ∧ t.2.1.length ≤ s.length + i ∧ t.2.2 = n + i ∧ fillF now t.1 t.2.1 t.2.2 = fillF now q s n) (fun _ _ r => r = (c0, c1, (fillF now q s n).2.2, (fillF now q s n).1, (fillF now q s n).2.1, c5, c6, c7, c8)) (fun i t hi ht he => by
    obtain ⟨q', s', n'⟩ := t
    obtain ⟨h1, h2, h3, h4⟩ := ht
    dsimp only at h1 h2 h3 h4
    cases q' with
    | nil => simp at h1; omega
    | cons b r =>
      have hb1 : (b :: r).length = r.length + 1 := rfl
      dsimp only [impl_Chan_fill.l0, impl_Chan_fill.s0]
      simp only [List.getElem?_cons_zero, Option.bind_some, tl_eq]
      rw [wr64 (x := n' + 1) (by omega) (by omega), wr64 (x := n' + 1 - 4) (by omega) (by omega)]
      have stop : ¬ canF s' n' → (c0, c1, n', b :: r, s', c5, c6, c7, c8) = (c0, c1, (fillF now q s n).2.2, (fillF now q s n).1, (fillF now q s n).2.1, c5, c6, c7, c8) := fun hc => by
        rw [← h4]
        simp only [fillF]
        rw [if_neg hc]
      have go : canF s' n' → Tells (FS F0) (fun x : Nat × Nat => impl_Chan_fill.l0 x.1 x.2 (now, c0, c1, n' + 1, c5, r, s' ++ [(n' + 1, b, now, 0)], c6, c7, c8)) (fun r => r = (c0, c1, (fillF now q s n).2.2, (fillF now q s n).1, (fillF now q s n).2.1, c5, c6, c7, c8)) := fun hc => by
        simp only [fillF] at h4
        rw [if_pos hc] at h4
        exact he (r, s' ++ [(n' + 1, b, now, 0)], n' + 1) ⟨by dsimp only; omega, by simp only [List.length_append, List.length_singleton]; omega, by dsimp only; omega, h4⟩
      refine T_pos (by rw [hb1]; omega) (T_dec (fun e1 => T_beq (fun e2 => T_true (by simp <;> omega) (T_pos (by simp only [List.length_singleton]; omega) (T_true (by simp <;> omega) (go ⟨by omega, .inl (by omega)⟩)))) fun e2 => ?_) fun e1 => T_ret (stop fun c => by have := c.1; omega))
      cases s' with
      | nil => simp at e2
      | cons y t =>
        simp only [List.getElem?_cons_zero, Option.bind_some]
        refine T_true (by simp <;> omega) (T_dec (fun e3 => T_true (by simp <;> omega) (T_pos (by simp only [List.length_singleton]; omega) (T_true (by simp <;> omega) (go ⟨by omega, .inr (by show y.1 > _; omega)⟩)))) fun e3 => T_ret (stop fun c => ?_))
        rcases c.2 with c | c
        · simp at c
        · have c : y.1 > n' - 3 := c
          omega) (fun t ht => by
    obtain ⟨q', s', n'⟩ := t
    obtain ⟨h1, h2, h3, h4⟩ := ht
    dsimp only at h1 h2 h3 h4
    have hl : q' = [] := List.eq_nil_of_length_eq_zero (by omega)
    subst hl
    dsimp only [impl_Chan_fill.l0, impl_Chan_fill.s0]
    refine T_neg (by simp) (T_ret ?_)
    rw [← h4]
    rfl) 0 (q, s, n) (Nat.zero_le _) ⟨rfl, Nat.le_refl _, by simp, rfl⟩
  exact T_in (g := fun x j => impl_Chan_fill.l0 x j _) (by simpa using h) (fun k => k) (fun _ _ h => h)
def due (now : Int) (x : Pend) : Bool := !decide (x.2.2.1 > now) && !decide (x.2.2.2 ≥ 8)
def updP (now : Int) (x : Pend) : Pend := if due now x then (x.1, x.2.1, now + 2 ^ (x.2.2.2 + 1).toNat, x.2.2.2 + 1) else x
def mkP (me peer : Int) (x : Pend) : Pkt := (1, 0, me, peer, x.1, [], x.2.1)
def pkts (me peer now : Int) (s : List Pend) : List Pkt := (s.filter (due now)).map (mkP me peer)
def withA (a : List Int) : List Pkt → List Pkt | [] => [] | p :: r => (p.1, p.2.1, p.2.2.1, p.2.2.2.1, p.2.2.2.2.1, a, p.2.2.2.2.2.2) :: r
def outK (me peer now : Int) (owed : List Int) (s : List Pend) : List Pkt := if (pkts me peer now s).length = 0 ∧ owed.length ≠ 0 then [(2, 0, me, peer, 0, [], ByteArray.empty)] else pkts me peer now s
abbrev SendR := Int × Int × Int × List ByteArray × List Pend × Int × List Earl × List Int × List ByteArray × List Pkt
def resM (c0 c1 n : Int) (q : List ByteArray) (s : List Pend) (c5 : Int) (c6 : List Earl) (c7 : List Int) (c8 : List ByteArray) (now : Int) : SendR := (c0, c1, n, q, s.map (updP now), c5, c6, if (outK c0 c1 now c7 s).length = 0 then c7 else [], c8, withA c7 (outK c0 c1 now c7 s))
theorem withA_len (a : List Int) : ∀ P : List Pkt, (withA a P).length = P.length
  | [] => rfl
  | _ :: _ => rfl
theorem withA_app (a : List Int) (P : List Pkt) (p : Pkt) : withA a (P ++ [p]) = if P.length = 0 then [(p.1, p.2.1, p.2.2.1, p.2.2.2.1, p.2.2.2.2.1, a, p.2.2.2.2.2.2)] else withA a P ++ [p] := by
  cases P with
  | nil => rfl
  | cons x r => rfl
theorem pkts_succ (me peer now : Int) (s : List Pend) (i : Nat) (h : i < s.length) : pkts me peer now (s.take (i + 1)) = pkts me peer now (s.take i) ++ (if due now s[i] then [mkP me peer s[i]] else []) := by
  unfold pkts
  rw [take_filter_succ _ _ _ h, List.map_append]
  cases due now s[i] <;> rfl
theorem pkts_len (me peer now : Int) (s : List Pend) (i : Nat) : (pkts me peer now (s.take i)).length ≤ s.length := by
  unfold pkts
  rw [List.length_map]
  exact filter_len_take _ _ _
theorem half_at {M l : List Pend} {i : Nat} (hl : M.length = l.length) (h : i < l.length) : (M.take i ++ l.drop i)[i]? = some l[i] := by
  rw [List.getElem?_append_right (by simp; omega)]
  simp only [List.length_take]
  rw [Nat.min_eq_left (by omega), Nat.sub_self, List.getElem?_drop, Nat.add_zero, List.getElem?_eq_getElem h]
theorem half_same {M l : List Pend} {i : Nat} (hl : M.length = l.length) (h : i < l.length) (e : M[i]? = some l[i]) : M.take i ++ l.drop i = M.take (i + 1) ++ l.drop (i + 1) := by
  rw [← mark_step M l i _ hl h e]
  have hh := half_at hl h
  have hlt : i < (M.take i ++ l.drop i).length := (List.getElem?_eq_some_iff.1 hh).1
  have e2 : (M.take i ++ l.drop i)[i] = l[i] := by
    rw [List.getElem?_eq_getElem hlt] at hh
    exact Option.some.inj hh
  rw [← e2, List.set_getElem_self]
theorem upd_at (now : Int) (s : List Pend) (i : Nat) (h : i < s.length) : (s.map (updP now))[i]? = some (updP now s[i]) := by simp [h]
def TriesP (s : List Pend) : Prop := ∀ x ∈ s, 0 ≤ x.2.2.2 ∧ x.2.2.2 ≤ 8
theorem two_pow (m : Nat) (h : m ≤ 9) : (1 : Int) ≤ 2 ^ m ∧ (2 : Int) ^ m ≤ 512 := by
  have : m = 0 ∨ m = 1 ∨ m = 2 ∨ m = 3 ∨ m = 4 ∨ m = 5 ∨ m = 6 ∨ m = 7 ∨ m = 8 ∨ m = 9 := by omega
  rcases this with rfl | rfl | rfl | rfl | rfl | rfl | rfl | rfl | rfl | rfl <;> decide
theorem impl_resend.ev (n : Int) (q : List ByteArray) (s : List Pend) (hnow : 0 ≤ now ∧ now ≤ 999999000) (hs : s.length ≤ 1048576) (h7 : c7.length ≤ 1048576) (ht : TriesP s) :
    Tells F0 (fun k => impl_Send.l0 k k (now, (s.length : Int), (0 : Int), c3, c4, c6, c7, c8, c0, c1, c2, c5, 0, 0, 0, 0, c0, c1, n, c5, [], [], [], [], [], q, s, c6, c7, c8, [])) (· = resM c0 c1 n q s c5 c6 c7 c8 now) := by
  have hM : (s.map (updP now)).length = s.length := List.length_map _
  have h := T_loop (F := F0) (fun k j i => impl_Send.l0 k j (now, (s.length : Int), (i : Int), c3, c4, c6, c7, c8, c0, c1, c2, c5, 0, 0, 0, 0, c0, c1, n, c5, [], [], [], [], [], q, (s.map (updP now)).take i ++ s.drop i, c6, c7, c8, pkts c0 c1 now (s.take i))) s.length (fun _ r => r = resM c0 c1 n q s c5 c6 c7 c8 now) (fun i hi he => by
    have hx := half_at hM hi
    have hlt : i < ((s.map (updP now)).take i ++ s.drop i).length := (List.getElem?_eq_some_iff.1 hx).1
    have hu := upd_at now s i hi
    have hp := pkts_succ c0 c1 now s i hi
    have hpl := pkts_len c0 c1 now s i
    have htr := ht _ (List.getElem_mem hi)
    rw [hp] at he
    dsimp only [impl_Send.l0, impl_Send.s0]
    simp only [Int.toNat_natCast]
    rw [wrs hi (by omega)]
    have skip : due now s[i] = false → Tells (FS F0) (fun x : Nat × Nat => impl_Send.l0 x.1 x.2 (now, (s.length : Int), ((i + 1 : Nat) : Int), c3, c4, c6, c7, c8, c0, c1, c2, c5, 0, 0, 0, 0, c0, c1, n, c5, [], [], [], [], [], q, (s.map (updP now)).take i ++ s.drop i, c6, c7, c8, pkts c0 c1 now (s.take i))) (fun r => r = resM c0 c1 n q s c5 c6 c7 c8 now) := fun e => by
      rw [e, if_neg (by simp), List.append_nil] at he
      rw [half_same hM hi (by rw [hu]; unfold updP; rw [e]; rfl)]
      exact he
    refine T_pos (by omega) (T_getw hx ?_)
    have hs2 : ∀ v, (((s.map (updP now)).take i ++ s.drop i).set i v)[i]? = some v := fun v => List.getElem?_set_self hlt
    simp only [hx, Option.bind_some, hs2, List.set_set]
    refine T_dec (fun e1 => skip (by simp [due, e1])) fun e1 => T_dec (fun e2 => skip (by simp [due, e2])) fun e2 => ?_
    have hd : due now s[i] = true := by simp only [due, e1, e2, decide_false, Bool.not_false, Bool.and_self]
    rw [hd, if_pos rfl, ← mark_step _ _ i _ hM hi hu] at he
    have hw : IntKind.i64.wrap ((s[i]).2.2.2 + 1) = (s[i]).2.2.2 + 1 := wr64 (by omega) (by omega)
    have hm : min ((s[i]).2.2.2 + 1).toNat IntKind.i64.bits = ((s[i]).2.2.2 + 1).toNat := Nat.min_eq_left (by show _ ≤ 64; omega)
    have hpw := two_pow ((s[i]).2.2.2 + 1).toNat (by omega)
    rw [hw, hm, Int.one_mul, wr64 (x := 2 ^ ((s[i]).2.2.2 + 1).toNat) (by omega) (by omega), wr64 (x := now + 2 ^ ((s[i]).2.2.2 + 1).toNat) (by omega) (by omega)]
    refine T_neg (by omega) (T_pos (by simp only [List.length_singleton]; omega) ?_)
    have e3 : updP now s[i] = ((s[i]).1, (s[i]).2.1, now + 2 ^ ((s[i]).2.2.2 + 1).toNat, (s[i]).2.2.2 + 1) := by unfold updP; rw [hd]; rfl
    rw [e3] at he
    exact he) (by
    dsimp only [impl_Send.l0, impl_Send.s0]
    have e1 : (s.map (updP now)).take s.length ++ s.drop s.length = s.map (updP now) := by rw [List.drop_length, List.append_nil, List.take_of_length_le (by omega)]
    rw [e1, List.take_length]
    have hpl := pkts_len c0 c1 now s s.length
    rw [List.take_length] at hpl
    have fin : ∀ P : List Pkt, P.length ≠ 0 → outK c0 c1 now c7 s = P → Tells (FS F0) (fun x : Nat × Nat => (impl_copyInts.f x.1 c7).bind fun r => (bif (true && (decide ((0 : Int) < (P.length : Int)))) then (P[0]?).bind fun y => some (c0, c1, n, q, s.map (updP now), c5, c6, ([] : List Int), c8, P.set 0 (y.1, y.2.1, y.2.2.1, y.2.2.2.1, y.2.2.2.2.1, r, y.2.2.2.2.2.2)) else none)) (fun r => r = resM c0 c1 n q s c5 c6 c7 c8 now) := by
      intro P hP hO
      refine T_bindE (T_call (impl_copyInts.ev c7 h7) Prod.fst (fun _ _ h => h.1)) (T_true (by simp; omega) ?_)
      cases P with
      | nil => exact absurd rfl hP
      | cons p r =>
        simp only [List.getElem?_cons_zero, Option.bind_some]
        refine T_ret ?_
        unfold resM
        rw [hO, if_neg hP]
        rfl
    refine T_neg (by omega) (T_beq (fun e2 => T_dec (fun e3 => T_pos (by simp only [List.length_singleton]; omega) (T_pos (by simp only [List.length_append, List.length_singleton]; omega) (fin _ (by simp) ?_))) fun e3 => T_neg (by omega) (T_ret ?_)) fun e2 => T_pos (by omega) (fin _ (by omega) ?_))
    · have hnil : pkts c0 c1 now s = [] := List.eq_nil_of_length_eq_zero (by omega)
      unfold outK
      rw [if_pos ⟨by omega, by omega⟩, hnil]
      rfl
    · have hnil : pkts c0 c1 now s = [] := List.eq_nil_of_length_eq_zero (by omega)
      have hO : outK c0 c1 now c7 s = [] := by unfold outK; rw [if_neg fun c => by have := c.2; omega, hnil]
      unfold resM
      rw [hO, hnil]
      rfl
    · unfold outK
      rw [if_neg fun c => by have := c.1; omega]) 0 (Nat.zero_le _)
  exact T_in (g := fun x j => impl_Send.l0 x j _) (by simpa [pkts] using h) (fun k => k) (fun _ _ h => h)
theorem spec_l13Power.ev (m : Nat) (hm : m ≤ 9) : Tells F0 (fun k => spec_l13Power.f k (m : Int)) (· = 2 ^ m) := by
  have h := T_loop (F := F0) (fun k j i => spec_l13Power.l0 k j ((m : Int), 2 ^ i, (i : Int))) m (fun _ r => r = 2 ^ m) (fun i hi he => by
    dsimp only [spec_l13Power.l0, spec_l13Power.s0]
    have hp := two_pow i (by omega)
    rw [wrs hi (by omega), wr64 (x := 2 * 2 ^ i) (by omega) (by omega)]
    rw [Int.pow_succ, Int.mul_comm] at he
    exact T_pos (by omega) he) (by
    dsimp only [spec_l13Power.l0, spec_l13Power.s0]
    exact T_neg (by omega) (T_ret rfl)) 0 (Nat.zero_le _)
  unfold spec_l13Power.f
  exact T_in (g := fun x j => spec_l13Power.l0 x j _) (by simpa using h) (fun k => k) (fun _ _ h => h)
theorem spec_resend.ev (n : Int) (q : List ByteArray) (s : List Pend) (hnow : 0 ≤ now ∧ now ≤ 999999000) (hs : s.length ≤ 1048576) (h7 : c7.length ≤ 1048576) (ht : TriesP s) :
    Tells F0 (fun k => spec_Send.l2 k k (now, (0 : Int), c3, c4, c6, c7, c8, c0, c1, c2, c5, 0, 0, 0, 0, c0, c1, n, c5, [], [], [], [], [], q, s, c6, c7, c8, [])) (· = resM c0 c1 n q s c5 c6 c7 c8 now) := by
  have hM : (s.map (updP now)).length = s.length := List.length_map _
  have h := T_loop (F := F0) (fun k j i => spec_Send.l2 k j (now, (i : Int), c3, c4, c6, c7, c8, c0, c1, c2, c5, 0, 0, 0, 0, c0, c1, n, c5, [], [], [], [], [], q, (s.map (updP now)).take i ++ s.drop i, c6, c7, c8, withA c7 (pkts c0 c1 now (s.take i)))) s.length (fun _ r => r = resM c0 c1 n q s c5 c6 c7 c8 now) (fun i hi he => by
    have hx := half_at hM hi
    have hlt : i < ((s.map (updP now)).take i ++ s.drop i).length := (List.getElem?_eq_some_iff.1 hx).1
    have hu := upd_at now s i hi
    have hp := pkts_succ c0 c1 now s i hi
    have hpl := pkts_len c0 c1 now s i
    have htr := ht _ (List.getElem_mem hi)
    rw [hp] at he
    dsimp only [spec_Send.l2, spec_Send.s2]
    simp only [Int.toNat_natCast]
    rw [wrs hi (by omega)]
    have skip : due now s[i] = false → Tells (FS F0) (fun x : Nat × Nat => spec_Send.l2 x.1 x.2 (now, ((i + 1 : Nat) : Int), c3, c4, c6, c7, c8, c0, c1, c2, c5, 0, 0, 0, 0, c0, c1, n, c5, [], [], [], [], [], q, (s.map (updP now)).take i ++ s.drop i, c6, c7, c8, withA c7 (pkts c0 c1 now (s.take i)))) (fun r => r = resM c0 c1 n q s c5 c6 c7 c8 now) := fun e => by
      rw [e, if_neg (by simp), List.append_nil] at he
      rw [half_same hM hi (by rw [hu]; unfold updP; rw [e]; rfl)]
      exact he
    have hs2 : ∀ v, (((s.map (updP now)).take i ++ s.drop i).set i v)[i]? = some v := fun v => List.getElem?_set_self hlt
    have hw : IntKind.i64.wrap ((s[i]).2.2.2 + 1) = (s[i]).2.2.2 + 1 := wr64 (by omega) (by omega)
    have hpw := two_pow ((s[i]).2.2.2 + 1).toNat (by omega)
    have hpow := spec_l13Power.ev ((s[i]).2.2.2 + 1).toNat (by omega)
    rw [Int.toNat_of_nonneg (by omega)] at hpow
    refine T_pos (by omega) (T_getw hx ?_)
    rw [hw]
    refine T_dec (fun e1 => skip (by simp [due, e1])) fun e1 => T_dec (fun e2 => skip (by simp [due, e2])) fun e2 => ?_
    have hd : due now s[i] = true := by simp only [due, e1, e2, decide_false, Bool.not_false, Bool.and_self]
    rw [hd, if_pos rfl, ← mark_step _ _ i _ hM hi hu, withA_app] at he
    have e3 : updP now s[i] = ((s[i]).1, (s[i]).2.1, now + 2 ^ ((s[i]).2.2.2 + 1).toNat, (s[i]).2.2.2 + 1) := by unfold updP; rw [hd]; rfl
    rw [e3] at he
    have hwl := withA_len c7 (pkts c0 c1 now (s.take i))
    refine T_beq (fun e4 => T_pos (by simp; omega) (T_pos (by simp only [List.length_singleton]; omega) (T_getw hx (T_bindE (T_call hpow Prod.fst (fun _ _ h => h.1)) (T_getw (hs2 _) ?_))))) fun e4 => T_pos (by simp only [List.length_singleton]; omega) (T_getw hx (T_bindE (T_call hpow Prod.fst (fun _ _ h => h.1)) (T_getw (hs2 _) ?_)))
    · rw [if_pos (by omega)] at he
      have hnil : withA c7 (pkts c0 c1 now (s.take i)) = [] := List.eq_nil_of_length_eq_zero (by omega)
      rw [hnil, List.set_set, wr64 (x := now + 2 ^ ((s[i]).2.2.2 + 1).toNat) (by omega) (by omega)]
      exact he
    · rw [if_neg (by omega)] at he
      rw [List.set_set, wr64 (x := now + 2 ^ ((s[i]).2.2.2 + 1).toNat) (by omega) (by omega)]
      exact he) (by
    dsimp only [spec_Send.l2, spec_Send.s2]
    have e1 : (s.map (updP now)).take s.length ++ s.drop s.length = s.map (updP now) := by rw [List.drop_length, List.append_nil, List.take_of_length_le (by omega)]
    rw [e1, List.take_length]
    have hpl := pkts_len c0 c1 now s s.length
    rw [List.take_length] at hpl
    have hwl := withA_len c7 (pkts c0 c1 now s)
    refine T_neg (by omega) (T_beq (fun e2 => T_dec (fun e3 => T_pos (by simp; omega) (T_pos (by simp only [List.length_singleton]; omega) (T_pos (by simp only [List.length_append, List.length_singleton]; omega) (T_ret ?_)))) fun e3 => T_neg (by omega) (T_ret ?_)) fun e2 => T_pos (by omega) (T_ret ?_))
    · have hnil : pkts c0 c1 now s = [] := List.eq_nil_of_length_eq_zero (by omega)
      have hO : outK c0 c1 now c7 s = [(2, 0, c0, c1, 0, [], ByteArray.empty)] := by unfold outK; rw [if_pos ⟨by omega, by omega⟩]
      unfold resM
      rw [hO, hnil]
      rfl
    · have hnil : pkts c0 c1 now s = [] := List.eq_nil_of_length_eq_zero (by omega)
      have hO : outK c0 c1 now c7 s = [] := by unfold outK; rw [if_neg fun c => by have := c.2; omega, hnil]
      unfold resM
      rw [hO, hnil]
      rfl
    · have hO : outK c0 c1 now c7 s = pkts c0 c1 now s := by unfold outK; rw [if_neg fun c => by have := c.1; omega]
      unfold resM
      rw [hO, if_neg (by omega)]) 0 (Nat.zero_le _)
  exact T_in (g := fun x j => spec_Send.l2 x j _) (by simpa [pkts, withA] using h) (fun k => k) (fun _ _ h => h)
end

theorem fill_tries (now : Int) : ∀ (q : List ByteArray) (s : List Pend) (n : Int), TriesP s → TriesP (fillF now q s n).2.1
  | [], s, n, h => h
  | b :: q, s, n, h => by
    simp only [fillF]
    split
    · refine fill_tries now q _ _ fun x hx => ?_
      rcases List.mem_append.1 hx with hx | hx
      · exact h x hx
      · rw [List.mem_singleton] at hx
        rw [hx]
        exact ⟨Int.le_refl _, by show (0 : Int) ≤ 8; omega⟩
    · exact h
theorem fill_len (now : Int) : ∀ (q : List ByteArray) (s : List Pend) (n : Int), (fillF now q s n).2.1.length ≤ s.length + q.length ∧ (fillF now q s n).1.length ≤ q.length
  | [], s, n => ⟨Nat.le_refl _, Nat.le_refl _⟩
  | b :: q, s, n => by
    simp only [fillF]
    split
    · have := fill_len now q (s ++ [(n + 1, b, now, 0)]) (n + 1)
      simp only [List.length_append, List.length_cons, List.length_nil] at this ⊢
      omega
    · exact ⟨by dsimp only; omega, Nat.le_refl _⟩
section
variable (c0 c1 c2 : Int) (c3 : List ByteArray) (c4 : List Pend) (c5 : Int) (c6 : List Earl) (c7 : List Int) (c8 : List ByteArray) (now : Int)
theorem spec_fill.ev (n : Int) (q : List ByteArray) (s : List Pend) (hnow : 0 ≤ now ∧ now ≤ 999999000) (hn : 0 ≤ n ∧ n ≤ 1000000) (hq : q.length ≤ 100000) (hs : s.length ≤ 100000) (h7 : c7.length ≤ 1048576) (ht : TriesP s) :
    Tells F0 (fun k => spec_Send.l0 k k (now, c3, c4, c6, c7, c8, c0, c1, c2, c5, 0, 0, 0, 0, c0, c1, n, c5, [], [], [], [], [], q, s, c6, c7, c8, [])) (· = resM c0 c1 (fillF now q s n).2.2 (fillF now q s n).1 (fillF now q s n).2.1 c5 c6 c7 c8 now) := by
  have hres := spec_resend.ev c0 c1 c2 c3 c4 c5 c6 c7 c8 now (fillF now q s n).2.2 (fillF now q s n).1 (fillF now q s n).2.1 hnow (by have := fill_len now q s n; omega) h7 (fill_tries now q s n ht)
  have h := T_loops (F := F0) (fun k j (t : List ByteArray × List Pend × Int) (_ : Nat) => spec_Send.l0 k j (now, c3, c4, c6, c7, c8, c0, c1, c2, c5, 0, 0, 0, 0, c0, c1, t.2.2, c5, [], [], [], [], [], t.1, t.2.1, c6, c7, c8, [])) q.length (fun i t => t.1.length + i = q.length ∧ t.2.1.length ≤ s.length + i ∧ t.2.2 = n + i ∧ fillF now t.1 t.2.1 t.2.2 = fillF now q s n) (fun _ _ r => r = resM c0 c1 (fillF now q s n).2.2 (fillF now q s n).1 (fillF now q s n).2.1 c5 c6 c7 c8 now) (fun i t hi ht he => by
    obtain ⟨q', s', n'⟩ := t
    obtain ⟨h1, h2, h3, h4⟩ := ht
    dsimp only at h1 h2 h3 h4
    cases q' with
    | nil => simp at h1; omega
    | cons b r =>
      have hb1 : (b :: r).length = r.length + 1 := rfl
      dsimp only [spec_Send.l0, spec_Send.s0]
      simp only [List.getElem?_cons_zero, Option.bind_some, tl_eq, List.nil_append, List.length_nil, Nat.zero_add]
      rw [wr64 (x := n' + 1) (by omega) (by omega), wr64 (x := n' + 1 - 4) (by omega) (by omega)]
      have stop : ¬ canF s' n' → Tells (FS F0) (fun x : Nat × Nat => spec_Send.l2 x.1 x.1 (now, (0 : Int), c3, c4, c6, c7, c8, c0, c1, c2, c5, 0, 0, 0, 0, c0, c1, n', c5, [], [], [], [], [], b :: r, s', c6, c7, c8, [])) (fun r => r = resM c0 c1 (fillF now q s n).2.2 (fillF now q s n).1 (fillF now q s n).2.1 c5 c6 c7 c8 now) := fun hc => by
        have e : fillF now q s n = (b :: r, s', n') := by
          rw [← h4]
          simp only [fillF]
          rw [if_neg hc]
        rw [e] at hres ⊢
        exact T_call hres Prod.fst (fun _ _ h => h.1)
      have go : canF s' n' → Tells (FS F0) (fun x : Nat × Nat => spec_Send.l0 x.1 x.2 (now, c3, c4, c6, c7, c8, c0, c1, c2, c5, 0, 0, 0, 0, c0, c1, n' + 1, c5, [], [], [], [], [], r, s' ++ [(n' + 1, b, now, 0)], c6, c7, c8, [])) (fun r => r = resM c0 c1 (fillF now q s n).2.2 (fillF now q s n).1 (fillF now q s n).2.1 c5 c6 c7 c8 now) := fun hc => by
        simp only [fillF] at h4
        rw [if_pos hc] at h4
        exact he (r, s' ++ [(n' + 1, b, now, 0)], n' + 1) ⟨by dsimp only; omega, by simp only [List.length_append, List.length_singleton]; omega, by dsimp only; omega, h4⟩
      refine T_pos (by rw [hb1]; omega) (T_dec (fun e1 => T_beq (fun e2 => T_true (by simp <;> omega) (T_pos (by simp only [List.length_singleton]; omega) (T_true (by simp <;> omega) (T_pos (by omega) (go ⟨by omega, .inl (by omega)⟩))))) fun e2 => ?_) fun e1 => stop (fun c => by have := c.1; omega))
      cases s' with
      | nil => simp at e2
      | cons y t =>
        simp only [List.getElem?_cons_zero, Option.bind_some]
        refine T_true (by simp <;> omega) (T_dec (fun e3 => T_true (by simp <;> omega) (T_pos (by simp only [List.length_singleton]; omega) (T_true (by simp <;> omega) (T_pos (by omega) (go ⟨by omega, .inr (by show y.1 > _; omega)⟩))))) fun e3 => stop fun c => ?_)
        rcases c.2 with c | c
        · simp at c
        · have c : y.1 > n' - 3 := c
          omega) (fun t ht => by
    obtain ⟨q', s', n'⟩ := t
    obtain ⟨h1, h2, h3, h4⟩ := ht
    dsimp only at h1 h2 h3 h4
    have hl : q' = [] := List.eq_nil_of_length_eq_zero (by omega)
    subst hl
    dsimp only [spec_Send.l0, spec_Send.s0]
    refine T_neg (by simp) ?_
    have e : fillF now q s n = ([], s', n') := by rw [← h4]; rfl
    rw [e] at hres ⊢
    exact T_call hres Prod.fst (fun _ _ h => h.1)) 0 (q, s, n) (Nat.zero_le _) ⟨rfl, Nat.le_refl _, by simp, rfl⟩
  exact T_in (g := fun x j => spec_Send.l0 x j _) (by simpa using h) (fun k => k) (fun _ _ h => h)
theorem chan_tries (h : ChanP c0 c1 c2 c3 c4 c5 c6 c7 c8) : TriesP c4 := by
  intro x hx
  obtain ⟨i, hi, rfl⟩ := List.getElem_of_mem hx
  have := (h.2.1.1 i hi hi).2.2.2.1
  omega
open Classical in
noncomputable def sendM : SendR := if ChanP c0 c1 c2 c3 c4 c5 c6 c7 c8 ∧ (0 ≤ now ∧ now ≤ 999999000) then resM c0 c1 (fillF now c3 c4 c2).2.2 (fillF now c3 c4 c2).1 (fillF now c3 c4 c2).2.1 c5 c6 c7 c8 now else (c0, c1, c2, c3, c4, c5, c6, c7, c8, [])
theorem impl_Send.ev (h3 : c3.length ≤ 1048576) (h4 : c4.length ≤ 1048576) (h6 : c6.length ≤ 1048576) (h7 : c7.length ≤ 1048576) (h8 : c8.length ≤ 1048576) :
    Tells F0 (fun k => impl_Send.f k c0 c1 c2 c3 c4 c5 c6 c7 c8 now) (· = sendM c0 c1 c2 c3 c4 c5 c6 c7 c8 now) := by
  unfold impl_Send.f
  simp only [within_eq, Option.bind_some]
  refine T_bindE (impl_copyChan.ev c0 c1 c2 c3 c4 c5 c6 c7 c8 h3 h4 h6 h7 h8) (T_bind (impl_ChanOk.ev c0 c1 c2 c3 c4 c5 c6 c7 c8 h3 h4 h6 h7 h8) fun r hr => ?_)
  dsimp only
  unfold sendM
  cases r with
  | false => exact T_true rfl (T_ret (by rw [if_neg fun c => by have := hr.2 c.1; cases this]))
  | true =>
  have hc := hr.1 rfl
  have q1 := hc.1.2.2.1
  have q2 := hc.1.2.2.2.1
  have q3 := hc.2.1.2
  refine T_false rfl (T_ndec (fun hn => ?_) fun hn => T_ret (by rw [if_neg fun c => hn c.2]))
  rw [if_pos ⟨hc, hn⟩]
  have htr := chan_tries c0 c1 c2 c3 c4 c5 c6 c7 c8 hc
  refine T_bindE (impl_fill.ev c0 c1 c5 c6 c7 c8 now c2 c3 c4 (by omega) h3 h4) ?_
  exact impl_resend.ev c0 c1 c2 c3 c4 c5 c6 c7 c8 now (fillF now c3 c4 c2).2.2 (fillF now c3 c4 c2).1 (fillF now c3 c4 c2).2.1 hn (by have := fill_len now c3 c4 c2; omega) h7 (fill_tries now c3 c4 c2 htr)
theorem spec_Send.ev (h3 : c3.length ≤ 1048576) (h4 : c4.length ≤ 1048576) (h6 : c6.length ≤ 1048576) (h7 : c7.length ≤ 1048576) (h8 : c8.length ≤ 1048576) :
    Tells F0 (fun k => spec_Send.f k c0 c1 c2 c3 c4 c5 c6 c7 c8 now) (· = sendM c0 c1 c2 c3 c4 c5 c6 c7 c8 now) := by
  unfold spec_Send.f
  simp only [in_eq, Option.bind_some]
  refine T_bindE (spec_l13Copy.ev c0 c1 c2 c3 c4 c5 c6 c7 c8 h3 h4 h6 h7 h8) (T_bind (spec_ChanOk.ev c0 c1 c2 c3 c4 c5 c6 c7 c8 h3 h4 h6 h7 h8) fun r hr => ?_)
  dsimp only
  unfold sendM
  cases r with
  | false => exact T_true rfl (T_ret (by rw [if_neg fun c => by have := hr.2 c.1; cases this]))
  | true =>
  have hc := hr.1 rfl
  have q1 := hc.1.2.2.1
  have q2 := hc.1.2.2.2.1
  have q3 := hc.2.1.2
  refine T_false rfl (T_ndec (fun hn => ?_) fun hn => T_ret (by rw [if_neg fun c => hn c.2]))
  rw [if_pos ⟨hc, hn⟩]
  exact spec_fill.ev c0 c1 c2 c3 c4 c5 c6 c7 c8 now c2 c3 c4 hn (by omega) (by omega) (by omega) h7 (chan_tries c0 c1 c2 c3 c4 c5 c6 c7 c8 hc)
end

def AcC (op : Int) (acks : List Int) (j : Nat) : Prop := ∀ h : j < acks.length, (1 ≤ acks[j] ∧ acks[j] ≤ 1000000000) ∧ op ≠ 3
def PackP (op key fr dst num : Int) (acks : List Int) (body : ByteArray) : Prop :=
  (1 ≤ op ∧ op ≤ 3) ∧ (0 ≤ key ∧ key ≤ 7) ∧ (1 ≤ fr ∧ fr ≤ 99) ∧ (1 ≤ dst ∧ dst ≤ 99) ∧ (0 ≤ num ∧ num ≤ 1000000000) ∧ acks.length ≤ 4 ∧ body.size ≤ 120 ∧ (∀ j, j < acks.length → AcC op acks j) ∧ (op = 2 → body = ByteArray.empty ∧ num = 0)
theorem spec_PacketOk.ev (op key fr dst num : Int) (acks : List Int) (body : ByteArray) (hn : acks.length ≤ 1048576) : Tells F0 (fun k => spec_PacketOk.f k op key fr dst num acks body) (fun r => r = true ↔ PackP op key fr dst num acks body) := by
  have h := T_body (F := F0) (fun k j i => spec_PacketOk.l0 k j ((i : Int), acks, op, key, fr, dst, num, body)) acks.length (AcC op acks) (op = 2 → body = ByteArray.empty ∧ num = 0) (fun i hi P go bad => by
    dsimp only [spec_PacketOk.l0, spec_PacketOk.s0]
    simp only [in_eq, Option.bind_some]
    rw [wrs hi (by omega)]
    exact T_pos (by omega) (T_at hi (T_ndec (fun a1 => T_beq (fun a2 => T_ret (bad fun c => (c hi).2 a2)) fun a2 => go fun _ => ⟨a1, a2⟩) fun a1 => T_ret (bad fun c => a1 (c hi).1)))) (by
    dsimp only [spec_PacketOk.l0, spec_PacketOk.s0]
    refine T_neg (by omega) (T_bne (fun e => T_ret (by simp [e])) fun e => ?_)
    simp only [beq_bytes_iff]
    refine T_dec (fun e2 => T_ret ?_) fun e2 => T_ret ?_
    · simp [e, e2]
    · simp [e, e2])
  have hl := T_in (g := fun x j => spec_PacketOk.l0 x j _) h (fun k => k) (fun _ _ h => h)
  unfold spec_PacketOk.f PackP
  simp only [in_eq, Option.bind_some]
  refine T_ndec (fun h1 => T_ndec (fun h2 => T_ndec (fun h3 => T_ndec (fun h4 => T_ndec (fun h5 => T_dec (fun h6 => T_ret ?_) fun h6 => T_dec (fun h7 => T_ret ?_) fun h7 => T_mono hl fun r hr => ?_) fun h => T_ret ?_) fun h => T_ret ?_) fun h => T_ret ?_) fun h => T_ret ?_) fun h => T_ret ?_
  · exact no_iff fun c => by have := c.2.2.2.2.2.1; omega
  · exact no_iff fun c => by have := c.2.2.2.2.2.2.1; omega
  · rw [hr]
    exact ⟨fun c => ⟨h1, h2, h3, h4, h5, by omega, by omega, c.1, c.2⟩, fun c => ⟨c.2.2.2.2.2.2.2.1, c.2.2.2.2.2.2.2.2⟩⟩
  · exact no_iff fun c => h c.2.2.2.2.1
  · exact no_iff fun c => h c.2.2.2.1
  · exact no_iff fun c => h c.2.2.1
  · exact no_iff fun c => h c.2.1
  · exact no_iff fun c => h c.1
theorem impl_PacketOk.ev (op key fr dst num : Int) (acks : List Int) (body : ByteArray) (hn : acks.length ≤ 1048576) : Tells F0 (fun k => impl_PacketOk.f k op key fr dst num acks body) (fun r => r = true ↔ PackP op key fr dst num acks body) := by
  have h := T_body (F := F0) (fun k j i => impl_PacketOk.l0 k j ((acks.length : Int), (i : Int), acks, op, key, fr, dst, num, body)) acks.length (fun j => ∀ h : j < acks.length, 1 ≤ acks[j] ∧ acks[j] ≤ 1000000000) ((1 ≤ op ∧ op ≤ 3) ∧ (0 ≤ key ∧ key ≤ 7) ∧ (1 ≤ fr ∧ fr ≤ 99) ∧ (1 ≤ dst ∧ dst ≤ 99) ∧ (0 ≤ num ∧ num ≤ 1000000000) ∧ (acks.length = 0 ∨ (op ≠ 3 ∧ acks.length ≤ 4)) ∧ body.size ≤ 120 ∧ (op = 2 → body = ByteArray.empty ∧ num = 0)) (fun i hi P go bad => by
    dsimp only [impl_PacketOk.l0, impl_PacketOk.s0]
    simp only [within_eq, Option.bind_some]
    rw [wrs hi (by omega)]
    exact T_pos (by omega) (T_at hi (T_ndec (fun a1 => go fun _ => a1) fun a1 => T_ret (bad fun c => a1 (c hi))))) (by
    dsimp only [impl_PacketOk.l0, impl_PacketOk.s0]
    simp only [within_eq, isId_eq, Option.bind_some, beq_bytes_iff]
    refine T_neg (by omega) (T_ndec (fun h1 => T_ndec (fun h2 => T_ndec (fun h3 => T_ndec (fun h4 => T_ndec (fun h5 => T_beq (fun h6 => T_dec (fun h7 => T_bne (fun h8 => T_ret ?_) fun h8 => T_dec (fun h9 => T_ret ?_) fun h9 => T_ret ?_) fun h7 => T_ret ?_) fun h6 => T_bne (fun h10 => T_dec (fun h11 => T_dec (fun h7 => T_bne (fun h8 => T_ret ?_) fun h8 => T_dec (fun h9 => T_ret ?_) fun h9 => T_ret ?_) fun h7 => T_ret ?_) fun h11 => T_ret ?_) fun h10 => T_ret ?_) fun h => T_ret ?_) fun h => T_ret ?_) fun h => T_ret ?_) fun h => T_ret ?_) fun h => T_ret ?_)
    · have h6' : acks.length = 0 := by omega
      have h7' : body.size ≤ 120 := by omega
      simp only [h1, h2, h3, h4, h5, h6', h7', h8, true_and, and_true, true_or, true_iff, false_implies]
    · have h6' : acks.length = 0 := by omega
      have h7' : body.size ≤ 120 := by omega
      simp only [h2, h3, h4, h5, h6', h7', h8, h9, true_and, and_true, true_or, beq_iff_eq, forall_const]
      exact ⟨fun h => ⟨by omega, by rw [← h9]; exact h7', h⟩, fun h => h.2.2⟩
    · simp [h8, h9]
    · exact no_iff fun c => by have := c.2.2.2.2.2.2.1; omega
    · have h11' : acks.length ≤ 4 := by omega
      have h7' : body.size ≤ 120 := by omega
      simp only [h1, h2, h3, h4, h5, h10, h11', h7', h8, true_and, and_true, or_true, true_iff, false_implies, ne_eq, not_false_eq_true]
    · have h11' : acks.length ≤ 4 := by omega
      have h7' : body.size ≤ 120 := by omega
      have h10' : op ≠ 3 := h10
      subst h8
      simp only [h1, h2, h3, h4, h5, h11', h7', h9, true_and, and_true, or_true, beq_iff_eq, forall_const, ne_eq]
      simp
    · simp [h8, h9]
    · exact no_iff fun c => by have := c.2.2.2.2.2.2.1; omega
    · exact no_iff fun c => by have := c.2.2.2.2.2.1; omega
    · exact no_iff fun c => by have := c.2.2.2.2.2.1; omega
    · exact no_iff fun c => h c.2.2.2.2.1
    · exact no_iff fun c => h c.2.2.2.1
    · exact no_iff fun c => h c.2.2.1
    · exact no_iff fun c => h c.2.1
    · exact no_iff fun c => h c.1)
  unfold impl_PacketOk.f PackP
  refine T_mono (T_in (g := fun x j => impl_PacketOk.l0 x j _) h (fun k => k) (fun _ _ h => h)) fun r hr => ?_
  rw [hr]
  constructor
  · rintro ⟨h0, h1, h2, h3, h4, h5, h6, h7, h8⟩
    exact ⟨h1, h2, h3, h4, h5, by omega, h7, fun j _ hj => ⟨h0 j hj hj, by omega⟩, h8⟩
  · rintro ⟨h1, h2, h3, h4, h5, h6, h7, h0, h8⟩
    refine ⟨fun j hj hj' => (h0 j hj hj').1, h1, h2, h3, h4, h5, ?_, h7, h8⟩
    rcases Nat.eq_zero_or_pos acks.length with h | h
    · exact .inl h
    · exact .inr ⟨(h0 0 h h).2, h6⟩

def nlow (n : Int) (x : Earl) : Bool := decide (x.1 < n)
def nhgh (n : Int) (x : Earl) : Bool := decide (x.1 > n)
def runE : List Earl → Int → List ByteArray → Int × List Earl × List ByteArray
  | [], g, o => (g, [], o)
  | x :: r, g, o => if x.1 = g + 1 then runE r (g + 1) (o ++ [x.2]) else (g, x :: r, o)
def putE (l : List Earl) (n : Int) (b : ByteArray) : List Earl := l.filter (nlow n) ++ [(n, b)] ++ l.filter (nhgh n)
def earlyM (l : List Earl) (g : Int) (o : List ByteArray) (n : Int) (b : ByteArray) : Int × List Earl × List ByteArray := if n ∈ l.map (·.1) then (g, l, o) else runE (putE l n b) g o
theorem earl_split {F : List Earl} {a : Int} (hp : F.Pairwise fun x y => x.1 < y.1) (hn : a ∉ F.map (·.1)) {i : Nat} (hi : i ≤ F.length) (h1 : ∀ j (h : j < F.length), j < i → (F[j]).1 < a) (h2 : ∀ h : i < F.length, ¬ (F[i]).1 < a) :
    F.filter (nlow a) = F.take i ∧ F.filter (nhgh a) = F.drop i := by
  have hx : ∀ p, F.filter p = (F.take i).filter p ++ (F.drop i).filter p := fun p => by rw [← List.filter_append, List.take_append_drop]
  have k1 : ∀ x ∈ F.take i, x.1 < a := by
    intro x hx
    obtain ⟨j, hj, rfl⟩ := List.mem_take_iff_getElem.1 hx
    exact h1 j (by omega) (by omega)
  have k2 : ∀ x ∈ F.drop i, x.1 > a := by
    intro x hx
    have hna : x.1 ≠ a := fun e => hn (List.mem_map.2 ⟨x, List.mem_of_mem_drop hx, e⟩)
    obtain ⟨j, hj, rfl⟩ := List.mem_drop_iff_getElem.1 hx
    have b1 := h2 (by omega)
    have b2 : j ≠ 0 → (F[i]).1 < (F[i + j]).1 := fun h => (List.pairwise_iff_getElem.1 hp) i (i + j) (by omega) (by omega) (by omega)
    by_cases hj0 : j = 0
    · subst hj0
      simp only [Nat.add_zero] at hna ⊢
      omega
    · have b3 := b2 hj0
      omega
  rw [hx, hx]
  refine ⟨?_, ?_⟩
  · rw [List.filter_eq_self.2 fun x hx => by have := k1 x hx; simpa [nlow] using this, List.filter_eq_nil_iff.2 fun x hx => by have := k2 x hx; unfold nlow; rw [decide_eq_true_eq]; omega, List.append_nil]
  · rw [List.filter_eq_nil_iff.2 fun x hx => by have := k1 x hx; unfold nhgh; rw [decide_eq_true_eq]; omega, List.filter_eq_self.2 fun x hx => by have := k2 x hx; simpa [nhgh] using this, List.nil_append]
theorem earl_pair {a b : Int} {l : List Earl} (hC : ∀ i, i < l.length → EarlyC a b l i) : l.Pairwise fun x y => x.1 < y.1 := by
  have key : ∀ d i, (hh : i + d + 1 < l.length) → (l[i]).1 < (l[i + d + 1]).1 := by
    intro d
    induction d with
    | zero => intro i hh; exact (hC (i + 1) hh hh).2.1 (by omega)
    | succ d ih =>
      intro i hh
      have a1 := ih i (by omega)
      have a2 := (hC (i + (d + 1) + 1) hh hh).2.1 (by omega)
      simp only [Nat.add_sub_cancel] at a2
      have e : i + (d + 1) = i + d + 1 := by omega
      simp only [e] at a2 ⊢
      omega
  rw [List.pairwise_iff_getElem]
  intro i j hi hj hij
  have := key (j - i - 1) i (by omega)
  have e : i + (j - i - 1) + 1 = j := by omega
  simp only [e] at this
  exact this
theorem ins_earl (k : Nat) (F : List Earl) (i : Nat) (r : Earl) (hi : i ≤ F.length) (hl : F.length ≤ 1048576) : slices_Insert_impl_Early_impl_Early.f k F i [r] = some (F.take i ++ [r] ++ F.drop i) := by
  unfold slices_Insert_impl_Early_impl_Early.f
  rw [if_pos ⟨⟨by omega, by omega⟩, by simp, by simp only [List.length_singleton]; omega⟩, Int.toNat_natCast]
theorem putE_len (l : List Earl) (n : Int) (b : ByteArray) : (putE l n b).length ≤ l.length + 1 := by
  unfold putE
  have : (l.filter (nlow n)).length + (l.filter (nhgh n)).length ≤ l.length := by
    induction l with
    | nil => simp
    | cons x r ih =>
      have hx : ¬ (nlow n x = true ∧ nhgh n x = true) := by
        simp only [nlow, nhgh, decide_eq_true_eq]
        omega
      simp only [List.filter_cons]
      by_cases h1 : nlow n x = true <;> by_cases h2 : nhgh n x = true
      · exact absurd ⟨h1, h2⟩ hx
      all_goals simp only [h1, h2, if_true, if_false, List.length_cons, Bool.false_eq_true]; omega
  simp only [List.length_append, List.length_singleton]
  omega
theorem runE_len : ∀ (l : List Earl) (g : Int) (o : List ByteArray), (runE l g o).2.1.length ≤ l.length ∧ (runE l g o).2.2.length ≤ o.length + l.length
  | [], g, o => ⟨Nat.le_refl _, Nat.le_refl _⟩
  | x :: r, g, o => by
    simp only [runE]
    split
    · have := runE_len r (g + 1) (o ++ [x.2])
      simp only [List.length_append, List.length_cons, List.length_nil] at this ⊢
      omega
    · exact ⟨Nat.le_refl _, by dsimp only; omega⟩
theorem early_len (l : List Earl) (g : Int) (o : List ByteArray) (n : Int) (b : ByteArray) : (earlyM l g o n b).2.1.length ≤ l.length + 1 ∧ (earlyM l g o n b).2.2.length ≤ o.length + l.length + 1 := by
  unfold earlyM
  split
  · exact ⟨Nat.le_succ _, by dsimp only; omega⟩
  · have h1 := putE_len l n b
    have h2 := runE_len (putE l n b) g o
    omega
section
variable (c0 c1 c2 : Int) (c3 : List ByteArray) (c4 : List Pend) (c7 : List Int)
def withE (c0 c1 c2 : Int) (c3 : List ByteArray) (c4 : List Pend) (c7 : List Int) (r : Int × List Earl × List ByteArray) : ChanT := (c0, c1, c2, c3, c4, r.1, r.2.1, c7, r.2.2)
theorem drop_tl (l : List Earl) (x : Earl) : ((x :: l).drop 1).take ((x :: l).length - 1) = l := by simp
theorem impl_run.ev (E : List Earl) (g : Int) (o : List ByteArray) (hg : -1000000000 ≤ g ∧ g ≤ 1000000000) (hE : E.length ≤ 1048577) (ho : o.length ≤ 2000000) : Tells F0 (fun k => impl_Chan_early.l2 k k (c0, c1, c2, g, c3, c4, E, c7, o)) (· = withE c0 c1 c2 c3 c4 c7 (runE E g o)) := by
  have h := T_loops (F := F0) (fun k j (s : Int × List Earl × List ByteArray) (_ : Nat) => impl_Chan_early.l2 k j (c0, c1, c2, s.1, c3, c4, s.2.1, c7, s.2.2)) E.length (fun i s => s.2.1.length + i = E.length ∧ s.2.2.length ≤ o.length + i ∧ (s.1 = g + i) ∧ runE s.2.1 s.1 s.2.2 = runE E g o) (fun _ _ r => r = withE c0 c1 c2 c3 c4 c7 (runE E g o)) (fun i s hi hs he => by
    obtain ⟨g', l, o'⟩ := s
    obtain ⟨q1, q2, q3, q4⟩ := hs
    dsimp only at q1 q2 q3 q4
    cases l with
    | nil => simp at q1; omega
    | cons x r =>
      dsimp only [impl_Chan_early.l2, impl_Chan_early.s2]
      simp only [List.getElem?_cons_zero, Option.bind_some, drop_tl]
      simp only [List.length_cons] at q1 ⊢
      rw [wr64 (x := g' + 1) (by omega) (by omega)]
      simp only [runE] at q4
      refine T_pos (by omega) (T_true (by simp <;> omega) (T_beq (fun e => T_true (by simp <;> omega) (T_pos (by simp only [List.length_nil]; omega) (T_true (by simp <;> omega) (he (_, _, _) ⟨by dsimp only; omega, by simp only [List.length_append, List.length_singleton]; omega, by dsimp only; omega, ?_⟩)))) fun e => T_ret ?_))
      · rw [if_pos e] at q4; exact q4
      · rw [if_neg e] at q4; rw [← q4]; rfl) (fun s hs => by
    obtain ⟨g', l, o'⟩ := s
    obtain ⟨q1, q2, q3, q4⟩ := hs
    dsimp only at q1 q2 q3 q4
    have hl : l = [] := List.eq_nil_of_length_eq_zero (by omega)
    subst hl
    dsimp only [impl_Chan_early.l2, impl_Chan_early.s2]
    refine T_neg (by simp) (T_ret ?_)
    rw [← q4]
    rfl) 0 (g, E, o) (Nat.zero_le _) ⟨rfl, Nat.le_refl _, by simp, rfl⟩
  exact T_in (g := fun x j => impl_Chan_early.l2 x j _) (by simpa using h) (fun k => k) (fun _ _ h => h)
theorem spec_run.ev (c6 : List Earl) (E : List Earl) (g : Int) (o : List ByteArray) (hg : -1000000000 ≤ g ∧ g ≤ 1000000000) (hE : E.length ≤ 1048577) (ho : o.length ≤ 2000000) : Tells F0 (fun k => spec_l13Put.l4 k k (c0, c1, c2, g, c3, c4, c6, c7, o, E)) (· = withE c0 c1 c2 c3 c4 c7 (runE E g o)) := by
  have h := T_loops (F := F0) (fun k j (s : Int × List Earl × List ByteArray) (_ : Nat) => spec_l13Put.l4 k j (c0, c1, c2, s.1, c3, c4, c6, c7, s.2.2, s.2.1)) E.length (fun i s => s.2.1.length + i = E.length ∧ s.2.2.length ≤ o.length + i ∧ (s.1 = g + i) ∧ runE s.2.1 s.1 s.2.2 = runE E g o) (fun _ _ r => r = withE c0 c1 c2 c3 c4 c7 (runE E g o)) (fun i s hi hs he => by
    obtain ⟨g', l, o'⟩ := s
    obtain ⟨q1, q2, q3, q4⟩ := hs
    dsimp only at q1 q2 q3 q4
    cases l with
    | nil => simp at q1; omega
    | cons x r =>
      dsimp only [spec_l13Put.l4, spec_l13Put.s4]
      simp only [List.getElem?_cons_zero, Option.bind_some, drop_tl, List.nil_append, List.length_nil, Nat.zero_add]
      simp only [List.length_cons] at q1 ⊢
      rw [wr64 (x := g' + 1) (by omega) (by omega)]
      simp only [runE] at q4
      refine T_pos (by omega) (T_true (by simp <;> omega) (T_beq (fun e => T_true (by simp <;> omega) (T_pos (by simp only [List.length_nil]; omega) (T_true (by simp <;> omega) (he (_, _, _) ⟨by dsimp only; omega, by simp only [List.length_append, List.length_singleton]; omega, by dsimp only; omega, ?_⟩)))) fun e => T_pos (by omega) (T_ret ?_)))
      · rw [if_pos e] at q4; exact q4
      · rw [if_neg e] at q4; rw [← q4]; rfl) (fun s hs => by
    obtain ⟨g', l, o'⟩ := s
    obtain ⟨q1, q2, q3, q4⟩ := hs
    dsimp only at q1 q2 q3 q4
    have hl : l = [] := List.eq_nil_of_length_eq_zero (by omega)
    subst hl
    dsimp only [spec_l13Put.l4, spec_l13Put.s4]
    refine T_neg (by simp) (T_pos (by simp) (T_ret ?_))
    rw [← q4]
    rfl) 0 (g, E, o) (Nat.zero_le _) ⟨rfl, Nat.le_refl _, by simp, rfl⟩
  exact T_in (g := fun x j => spec_l13Put.l4 x j _) (by simpa using h) (fun k => k) (fun _ _ h => h)
theorem impl_early.ev (g : Int) (c6 : List Earl) (o : List ByteArray) (n : Int) (b : ByteArray) (hp : c6.Pairwise fun x y => x.1 < y.1) (hg : -1000000000 ≤ g ∧ g ≤ 1000000000) (h6 : c6.length ≤ 1048576) (ho : o.length ≤ 2000000) :
    Tells F0 (fun k => impl_Chan_early.f k c0 c1 c2 c3 c4 g c6 c7 o n b) (· = withE c0 c1 c2 c3 c4 c7 (earlyM c6 g o n b)) := by
  unfold impl_Chan_early.f
  have fin : ∀ i, i ≤ c6.length → n ∉ c6.map (·.1) → (∀ j (h : j < c6.length), j < i → (c6[j]).1 < n) → (∀ h : i < c6.length, ¬ (c6[i]).1 < n) → Tells (FS F0) (fun x : Nat × Nat => (slices_Insert_impl_Early_impl_Early.f x.1 c6 i [(n, b)]).bind fun r => impl_Chan_early.l2 x.1 x.1 (c0, c1, c2, g, c3, c4, r, c7, o)) (· = withE c0 c1 c2 c3 c4 c7 (earlyM c6 g o n b)) := by
    intro i hi hn h1 h2
    obtain ⟨s1, s2⟩ := earl_split hp hn hi h1 h2
    simp only [ins_earl _ _ _ _ hi h6, Option.bind_some]
    have e : c6.take i ++ [(n, b)] ++ c6.drop i = putE c6 n b := by unfold putE; rw [s1, s2]
    rw [e]
    unfold earlyM
    rw [if_neg hn]
    exact T_call (impl_run.ev c0 c1 c2 c3 c4 c7 _ g o hg (Nat.le_trans (putE_len _ _ _) (by omega)) ho) Prod.fst (fun _ _ h => h.1)
  have h := T_loops (F := F0) (fun k j (_ : Unit) i => impl_Chan_early.l0 k j (n, b, (i : Int), c0, c1, c2, g, c3, c4, c6, c7, o)) c6.length (fun i _ => ∀ j (h : j < c6.length), j < i → (c6[j]).1 < n) (fun _ _ r => r = withE c0 c1 c2 c3 c4 c7 (earlyM c6 g o n b)) (fun i s hi hj he => by
    dsimp only [impl_Chan_early.l0, impl_Chan_early.s0]
    simp only [Int.toNat_natCast]
    rw [wrs hi (by omega)]
    refine T_pos (by omega) (T_get hi (T_dec (fun e => he () fun j h h' => ?_) fun e => T_pos (by omega) (T_get hi (T_beq (fun e2 => T_ret ?_) fun e2 => fin i (by omega) (fun hm => ?_) hj fun _ => e))))
    · by_cases e' : j = i
      · subst e'; exact e
      · exact hj j h (by omega)
    · unfold earlyM
      rw [if_pos (List.mem_map.2 ⟨_, List.getElem_mem hi, e2⟩)]
      rfl
    · obtain ⟨y, hy, rfl⟩ := List.mem_map.1 hm
      obtain ⟨m, hm', rfl⟩ := List.getElem_of_mem hy
      rcases Nat.lt_trichotomy m i with k | k | k
      · have := hj m hm' k; omega
      · subst k; exact e2 rfl
      · have := (List.pairwise_iff_getElem.1 hp) i m hi hm' k; omega) (fun s hj => by
    dsimp only [impl_Chan_early.l0, impl_Chan_early.s0]
    refine T_neg (by omega) (T_neg (by omega) (fin c6.length (by omega) (fun hm => ?_) hj fun h => absurd h (by omega)))
    obtain ⟨y, hy, rfl⟩ := List.mem_map.1 hm
    obtain ⟨m, hm', rfl⟩ := List.getElem_of_mem hy
    have := hj m hm' hm'
    omega) 0 () (Nat.zero_le _) (fun j _ h => absurd h (by omega))
  exact T_in (g := fun x j => impl_Chan_early.l0 x j _) (by simpa using h) (fun k => k) (fun _ _ h => h)
theorem spec_l13Put.ev (g : Int) (c6 : List Earl) (o : List ByteArray) (n : Int) (b : ByteArray) (hg : -1000000000 ≤ g ∧ g ≤ 1000000000) (h6 : c6.length ≤ 1048576) (ho : o.length ≤ 2000000) :
    Tells F0 (fun k => spec_l13Put.f k c0 c1 c2 c3 c4 g c6 c7 o n b) (· = withE c0 c1 c2 c3 c4 c7 (earlyM c6 g o n b)) := by
  unfold spec_l13Put.f
  have h2 : n ∉ c6.map (·.1) → Tells F0 (fun k => spec_l13Put.l2 k k (n, (0 : Int), c0, c1, c2, g, c3, c4, c6, c7, o, c6.filter (nlow n) ++ [(n, b)])) (· = withE c0 c1 c2 c3 c4 c7 (earlyM c6 g o n b)) := by
    intro hn
    have h := T_loop (F := F0) (fun k j i => spec_l13Put.l2 k j (n, (i : Int), c0, c1, c2, g, c3, c4, c6, c7, o, c6.filter (nlow n) ++ [(n, b)] ++ (c6.take i).filter (nhgh n))) c6.length (fun _ r => r = withE c0 c1 c2 c3 c4 c7 (earlyM c6 g o n b)) (fun i hi he => by
      dsimp only [spec_l13Put.l2, spec_l13Put.s2]
      simp only [Int.toNat_natCast]
      rw [wrs hi (by omega)]
      rw [take_filter_succ _ _ _ hi] at he
      have g1 := filter_len_take (nhgh n) c6 i
      have g2 := List.length_filter_le (nlow n) c6
      refine T_pos (by omega) (T_get hi (T_dec (fun e => T_get hi (T_pos ?_ ?_)) fun e => ?_))
      · simp only [List.length_append, List.length_singleton]; omega
      · rw [if_pos (show nhgh n c6[i] = true from decide_eq_true e), ← List.append_assoc] at he; exact he
      · rw [if_neg (by rw [show nhgh n c6[i] = false from decide_eq_false e]; simp), List.append_nil] at he; exact he) (by
      dsimp only [spec_l13Put.l2, spec_l13Put.s2]
      rw [List.take_length]
      unfold earlyM
      rw [if_neg hn]
      exact T_neg (by omega) (T_call (spec_run.ev c0 c1 c2 c3 c4 c7 c6 _ g o hg (Nat.le_trans (putE_len c6 n b) (by omega)) ho) Prod.fst (fun _ _ h => h.1))) 0 (Nat.zero_le _)
    exact T_in (g := fun x j => spec_l13Put.l2 x j _) (by simpa using h) (fun k => k) (fun _ _ h => h)
  have h := T_loops (F := F0) (fun k j (_ : Unit) i => spec_l13Put.l0 k j (n, b, (i : Int), c0, c1, c2, g, c3, c4, c6, c7, o, (c6.take i).filter (nlow n))) c6.length (fun i _ => ∀ j (h : j < c6.length), j < i → (c6[j]).1 ≠ n) (fun _ _ r => r = withE c0 c1 c2 c3 c4 c7 (earlyM c6 g o n b)) (fun i s hi hj he => by
    dsimp only [spec_l13Put.l0, spec_l13Put.s0]
    simp only [Int.toNat_natCast]
    rw [wrs hi (by omega)]
    have g1 := filter_len_take (nlow n) c6 i
    have he := fun hh => he () hh
    rw [take_filter_succ _ _ _ hi] at he
    have hnext : (c6[i]).1 ≠ n → ∀ j (h : j < c6.length), j < i + 1 → (c6[j]).1 ≠ n := fun e j h h' => by
      by_cases e' : j = i
      · subst e'; exact e
      · exact hj j h (by omega)
    refine T_pos (by omega) (T_get hi (T_beq (fun e => T_ret ?_) fun e => T_get hi (T_dec (fun e2 => T_get hi (T_pos (by simp only [List.length_singleton]; omega) ?_)) fun e2 => ?_)))
    · unfold earlyM
      rw [if_pos (List.mem_map.2 ⟨_, List.getElem_mem hi, e⟩)]
      rfl
    · have he := he (hnext e)
      rw [if_pos (show nlow n c6[i] = true from decide_eq_true e2)] at he; exact he
    · have he := he (hnext e)
      rw [if_neg (by rw [show nlow n c6[i] = false from decide_eq_false e2]; simp), List.append_nil] at he; exact he) (fun s hj => by
    dsimp only [spec_l13Put.l0, spec_l13Put.s0]
    have g2 := List.length_filter_le (nlow n) c6
    rw [List.take_length]
    refine T_neg (by omega) (T_pos (by simp only [List.length_singleton]; omega) (T_call (h2 fun hm => ?_) Prod.fst (fun _ _ h => h.1)))
    obtain ⟨y, hy, rfl⟩ := List.mem_map.1 hm
    obtain ⟨m, hm', rfl⟩ := List.getElem_of_mem hy
    exact hj m hm' hm' rfl) 0 () (Nat.zero_le _) (fun j _ h => absurd h (by omega))
  exact T_in (g := fun x j => spec_l13Put.l0 x j _) (by simpa using h) (fun k => k) (fun _ _ h => h)
end

theorem spec_l13In.ev (l : List Int) (a : Int) (hn : l.length ≤ 2000000) : Tells F0 (fun k => spec_l13In.f k l a) (· = decide (a ∈ l)) := by
  have h := T_loop (F := F0) (fun k j i => spec_l13In.l0 k j (a, (i : Int), l)) l.length (fun i r => r = decide (a ∈ l.drop i)) (fun i hi he => by
    dsimp only [spec_l13In.l0, spec_l13In.s0]
    simp only [Int.toNat_natCast]
    rw [wrs hi (by omega), List.drop_eq_getElem_cons hi]
    refine T_pos (by omega) (T_get hi (T_beq (fun e => T_ret ?_) fun e => T_mono he fun r hr => ?_))
    · simp [e]
    · rw [hr]
      exact decide_eq_decide.2 ⟨fun h => List.mem_cons_of_mem _ h, fun h => (List.mem_cons.1 h).resolve_left fun h => e h.symm⟩) (by
    dsimp only [spec_l13In.l0, spec_l13In.s0]
    exact T_neg (by omega) (T_ret (by rw [List.drop_length]; simp))) 0 (Nat.zero_le _)
  unfold spec_l13In.f
  exact T_in (g := fun x j => spec_l13In.l0 x j _) (by simpa using h) (fun k => k) (fun _ _ h => h)
theorem contains.ev (l : List Int) (a : Int) (hn : l.length ≤ 2000000) : Tells F0 (fun k => slices_Contains_int_int.f k l a) (· = decide (a ∈ l)) := by
  have h := T_loop (F := F0) (fun k j i => slices_Index_int_int.l0 k j (a, (l.length : Int), (i : Int), l)) l.length (fun i r => r ≥ 0 ↔ a ∈ l.drop i) (fun i hi he => by
    dsimp only [slices_Index_int_int.l0, slices_Index_int_int.s0]
    simp only [Int.toNat_natCast]
    rw [wrs hi (by omega), List.drop_eq_getElem_cons hi]
    refine T_pos (by omega) (T_get hi (T_beq (fun e => T_ret ?_) fun e => T_mono he fun r hr => ?_))
    · exact ⟨fun _ => by rw [e]; exact List.mem_cons_self, fun _ => by omega⟩
    · rw [hr]
      exact ⟨fun h => List.mem_cons_of_mem _ h, fun h => (List.mem_cons.1 h).resolve_left e⟩) (by
    dsimp only [slices_Index_int_int.l0, slices_Index_int_int.s0]
    exact T_neg (by omega) (T_ret (by rw [List.drop_length]; simp))) 0 (Nat.zero_le _)
  unfold slices_Contains_int_int.f slices_Index_int_int.f
  exact T_bind (T_in (g := fun x j => slices_Index_int_int.l0 x j _) (by simpa using h) (fun k => k) (fun _ _ h => h)) fun r hr => T_ret (decide_eq_decide.2 hr)
def impl_Take_1.p (c0 : Int) (c1 : Int) (c2 : Int) (c3 : Int) (c4 : Int) (c5 : List Int) (c6 : ByteArray) (x : Int × ByteArray × Int × Int) : Bool := (decide (x.1 ∈ c5))
theorem impl_Take_1.ev (x : Int × ByteArray × Int × Int) (c0 : Int) (c1 : Int) (c2 : Int) (c3 : Int) (c4 : Int) (c5 : List Int) (c6 : ByteArray) (hA : c5.length ≤ 1048576) : Tells F0 (fun k => impl_Take_1.f k x.1 x.2.1 x.2.2.1 x.2.2.2 c0 c1 c2 c3 c4 c5 c6) (· = (impl_Take_1.p c0 c1 c2 c3 c4 c5 c6 x, c0, c1, c2, c3, c4, c5, c6)) := by
  unfold impl_Take_1.f
  exact T_bindE (contains.ev c5 x.1 (by omega)) (T_ret rfl)
theorem slices_IndexFunc_impl_Pending_impl_Pending_f84_r.ev (l : List (Int × ByteArray × Int × Int)) (c0 : Int) (c1 : Int) (c2 : Int) (c3 : Int) (c4 : Int) (c5 : List Int) (c6 : ByteArray) (hn : l.length ≤ 1000000000000000000) (hA : c5.length ≤ 1048576) : Tells F0 (fun k => slices_IndexFunc_impl_Pending_impl_Pending_f84_r.f k l c0 c1 c2 c3 c4 c5 c6) (· = (if l.findIdx (impl_Take_1.p c0 c1 c2 c3 c4 c5 c6) = l.length then (-1 : Int) else (l.findIdx (impl_Take_1.p c0 c1 c2 c3 c4 c5 c6) : Int), l, c0, c1, c2, c3, c4, c5, c6)) := by
  have h := T_loop (F := F0) (fun k j i => slices_IndexFunc_impl_Pending_impl_Pending_f84_r.l0 k j ((l.length : Int), (i : Int), l, c0, c1, c2, c3, c4, c6, c5, c5)) l.length (fun i r => (∀ m (h : m < l.length), m < i → impl_Take_1.p c0 c1 c2 c3 c4 c5 c6 l[m] = false) → r = (if l.findIdx (impl_Take_1.p c0 c1 c2 c3 c4 c5 c6) = l.length then (-1 : Int) else (l.findIdx (impl_Take_1.p c0 c1 c2 c3 c4 c5 c6) : Int), l, c0, c1, c2, c3, c4, c5, c6)) (fun i hi he => by
    dsimp only [slices_IndexFunc_impl_Pending_impl_Pending_f84_r.l0, slices_IndexFunc_impl_Pending_impl_Pending_f84_r.s0]
    simp only [Int.toNat_natCast]
    refine T_pos (by omega) (T_get hi (T_bindE (T_call (impl_Take_1.ev l[i] c0 c1 c2 c3 c4 c5 c6 hA) Prod.fst (fun _ _ h => h.1)) ?_))
    dsimp only
    refine T_bif (fun hp => T_ret fun hm => ?_) fun hp => ?_
    · have e : l.findIdx (impl_Take_1.p c0 c1 c2 c3 c4 c5 c6) = i := (List.findIdx_eq hi).2 ⟨hp, fun j hj => hm j (by omega) hj⟩
      rw [e, if_neg (by omega)]
    · rw [wrs hi (by omega)]
      refine T_mono he fun r hr hm => hr fun m h hmi => ?_
      by_cases e : m = i
      · subst e; exact hp
      · exact hm m h (by omega)) (by
    dsimp only [slices_IndexFunc_impl_Pending_impl_Pending_f84_r.l0, slices_IndexFunc_impl_Pending_impl_Pending_f84_r.s0]
    refine T_neg (by omega) (T_ret fun hm => ?_)
    have e : l.findIdx (impl_Take_1.p c0 c1 c2 c3 c4 c5 c6) = l.length := List.findIdx_eq_length.2 fun x hx => by
      obtain ⟨j, hj, rfl⟩ := List.mem_iff_getElem.1 hx
      exact hm j hj hj
    rw [if_pos e]) 0 (Nat.zero_le _)
  unfold slices_IndexFunc_impl_Pending_impl_Pending_f84_r.f
  exact T_in (g := fun x j => slices_IndexFunc_impl_Pending_impl_Pending_f84_r.l0 x j _) (T_mono h fun r hr => hr (fun m h hm => absurd hm (by omega))) (fun k => k) (fun _ _ h => h)
theorem slices_DeleteFunc_impl_Pending_impl_Pending_f84.ev (l : List (Int × ByteArray × Int × Int)) (c0 : Int) (c1 : Int) (c2 : Int) (c3 : Int) (c4 : Int) (c5 : List Int) (c6 : ByteArray) (hn : l.length ≤ 1000000000000000000) (hA : c5.length ≤ 1048576) : Tells F0 (fun k => slices_DeleteFunc_impl_Pending_impl_Pending_f84.f k l c0 c1 c2 c3 c4 c5 c6) (· = (l.filter (fun x => !impl_Take_1.p c0 c1 c2 c3 c4 c5 c6 x), c0, c1, c2, c3, c4, c5, c6)) := by
  have h := T_loops (F := F0) (fun k j (s : Int × List (Int × ByteArray × Int × Int)) i => slices_DeleteFunc_impl_Pending_impl_Pending_f84.l0 k j (s.1, (i : Int), c0, c1, c2, c3, c4, c6, c5, c5, s.2)) l.length
    (fun j s => ∃ i : Nat, s.1 = (i : Int) ∧ i ≤ j ∧ s.2.length = l.length ∧ s.2.take i = (l.take j).filter (fun x => !impl_Take_1.p c0 c1 c2 c3 c4 c5 c6 x) ∧ s.2.drop j = l.drop j) (fun _ _ r => r = (l.filter (fun x => !impl_Take_1.p c0 c1 c2 c3 c4 c5 c6 x), c0, c1, c2, c3, c4, c5, c6)) (fun j s hj hs he => by
    obtain ⟨s1, l'⟩ := s
    obtain ⟨i, e1, hij, hl, ht, hd⟩ := hs
    simp only at e1 hl ht hd
    subst e1
    dsimp only [slices_DeleteFunc_impl_Pending_impl_Pending_f84.l0, slices_DeleteFunc_impl_Pending_impl_Pending_f84.s0]
    simp only [Int.toNat_natCast]
    have hj' : j < l'.length := by omega
    have hx := drop_get hd hj hj'
    have hd2 : l'.drop (j + 1) = l.drop (j + 1) := by rw [← List.drop_drop, ← List.drop_drop, hd]
    refine T_pos (by omega) (T_get hj' ?_)
    rw [hx]
    refine T_bindE (T_call (impl_Take_1.ev l[j] c0 c1 c2 c3 c4 c5 c6 hA) Prod.fst (fun _ _ h => h.1)) ?_
    dsimp only
    refine T_bif (fun hp => T_get (by omega : i < l'.length) ?_) fun hp => ?_
    · rw [wrs hj (by omega), wrs (show i < l.length by omega) (by omega)]
      refine he (((i + 1 : Nat) : Int), l'.set i l[j]) ⟨i + 1, rfl, by omega, by simpa using hl, ?_, ?_⟩
      · simp only
        rw [set_take_succ _ _ _ (by omega), ht, take_filter_succ _ _ _ hj, if_pos hp]
      · simp only
        rw [List.drop_set_of_lt (by omega), hd2]
    · rw [wrs hj (by omega)]
      refine he ((i : Int), l') ⟨i, rfl, by omega, hl, ?_, hd2⟩
      simp only
      rw [ht, take_filter_succ _ _ _ hj, if_neg (by simpa using hp), List.append_nil]) (fun s hs => by
    obtain ⟨s1, l'⟩ := s
    obtain ⟨i, e1, hij, hl, ht, hd⟩ := hs
    simp only at e1 hl ht hd
    subst e1
    dsimp only [slices_DeleteFunc_impl_Pending_impl_Pending_f84.l0, slices_DeleteFunc_impl_Pending_impl_Pending_f84.s0]
    simp only [Int.toNat_natCast]
    refine T_neg (by omega) (T_and (by omega) (by omega) (T_and (by omega) (by simp; omega) (T_ret ?_)))
    have h1 : (l'.take i).length = i := by simp; omega
    rw [List.take_append_of_le_length (by omega), List.take_take, Nat.min_self, ht, List.take_length])
  unfold slices_DeleteFunc_impl_Pending_impl_Pending_f84.f
  refine T_bindE (slices_IndexFunc_impl_Pending_impl_Pending_f84_r.ev l c0 c1 c2 c3 c4 c5 c6 hn hA) ?_
  dsimp only
  by_cases e : l.findIdx (impl_Take_1.p c0 c1 c2 c3 c4 c5 c6) = l.length
  · rw [if_pos e]
    refine T_true rfl (T_ret ?_)
    have := List.findIdx_eq_length.1 e
    rw [List.filter_eq_self.2 fun x hx => by simp [this x hx]]
  · rw [if_neg e]
    have hlt : l.findIdx (impl_Take_1.p c0 c1 c2 c3 c4 c5 c6) < l.length := by have := List.findIdx_le_length (xs := l) (p := impl_Take_1.p c0 c1 c2 c3 c4 c5 c6); omega
    obtain ⟨hp, hm⟩ := (List.findIdx_eq hlt).1 rfl
    refine T_false (by simp) ?_
    rw [wrs hlt (by omega)]
    refine T_in (g := fun x j => slices_DeleteFunc_impl_Pending_impl_Pending_f84.l0 x j _) (h (l.findIdx (impl_Take_1.p c0 c1 c2 c3 c4 c5 c6) + 1) ((l.findIdx (impl_Take_1.p c0 c1 c2 c3 c4 c5 c6) : Int), l) (by omega) ⟨l.findIdx (impl_Take_1.p c0 c1 c2 c3 c4 c5 c6), rfl, by omega, rfl, ?_, rfl⟩) (fun k => k) (fun _ _ h => h)
    simp only
    rw [take_filter_succ _ _ _ hlt, if_neg (by simp [hp]), List.append_nil]
    refine (List.filter_eq_self.2 fun x hx => ?_).symm
    obtain ⟨j, hj, rfl⟩ := List.mem_iff_getElem.1 hx
    have hj2 : j < l.findIdx (impl_Take_1.p c0 c1 c2 c3 c4 c5 c6) := by simp at hj; omega
    rw [List.getElem_take]
    simp [hm j hj2]
section
variable (c0 c1 c2 : Int) (c3 : List ByteArray) (c4 : List Pend) (c5 : Int) (c6 : List Earl) (c7 : List Int) (c8 : List ByteArray) (op key fr dst num : Int) (acks : List Int) (body : ByteArray)
def TakeP : Prop := ChanP c0 c1 c2 c3 c4 c5 c6 c7 c8 ∧ PackP op key fr dst num acks body ∧ op ≠ 3 ∧ fr = c1 ∧ dst = c0 ∧ (op = 1 → 1 ≤ num ∧ num ≤ c5 + 4) ∧ c5 ≤ 990
def notAcked (acks : List Int) (x : Pend) : Bool := !decide (x.1 ∈ acks)
def owe (c7 : List Int) (num : Int) : List Int := if num ∉ c7 ∧ c7.length < 4 then c7 ++ [num] else c7
abbrev ChanR := Int × Int × Int × List ByteArray × List Pend × Int × List Earl × List Int × List ByteArray × Bool
def fullE (c0 c1 c2 : Int) (c3 : List ByteArray) (c4 : List Pend) (c7 : List Int) (r : Int × List Earl × List ByteArray) : ChanR := (c0, c1, c2, c3, c4, r.1, r.2.1, c7, r.2.2, true)
open Classical in
noncomputable def takeM : ChanR :=
  if TakeP c0 c1 c2 c3 c4 c5 c6 c7 c8 op key fr dst num acks body then
    (if op = 2 then (c0, c1, c2, c3, c4.filter (notAcked acks), c5, c6, c7, c8, true)
     else if num > c5 then fullE c0 c1 c2 c3 (c4.filter (notAcked acks)) (owe c7 num) (earlyM c6 c5 c8 num body) else (c0, c1, c2, c3, c4.filter (notAcked acks), c5, c6, owe c7 num, c8, true))
  else (c0, c1, c2, c3, c4, c5, c6, c7, c8, false)
theorem impl_Take.ev (h3 : c3.length ≤ 1048576) (h4 : c4.length ≤ 1048576) (h6 : c6.length ≤ 1048576) (h7 : c7.length ≤ 1048576) (h8 : c8.length ≤ 1048576) (ha : acks.length ≤ 1048576) :
    Tells F0 (fun k => impl_Take.f k c0 c1 c2 c3 c4 c5 c6 c7 c8 op key fr dst num acks body) (· = takeM c0 c1 c2 c3 c4 c5 c6 c7 c8 op key fr dst num acks body) := by
  have no : ¬ TakeP c0 c1 c2 c3 c4 c5 c6 c7 c8 op key fr dst num acks body → takeM c0 c1 c2 c3 c4 c5 c6 c7 c8 op key fr dst num acks body = (c0, c1, c2, c3, c4, c5, c6, c7, c8, false) := fun h => by unfold takeM; rw [if_neg h]
  unfold impl_Take.f
  simp only [within_eq, Option.bind_some]
  refine T_bindE (impl_copyChan.ev c0 c1 c2 c3 c4 c5 c6 c7 c8 h3 h4 h6 h7 h8) (T_bind (impl_ChanOk.ev c0 c1 c2 c3 c4 c5 c6 c7 c8 h3 h4 h6 h7 h8) fun r hr => ?_)
  dsimp only
  cases r with
  | false => exact T_true rfl (T_ret (no fun c => by have := hr.2 c.1; cases this).symm)
  | true =>
  have hc := hr.1 rfl
  refine T_false rfl (T_bind (impl_PacketOk.ev op key fr dst num acks body ha) fun r2 hr2 => ?_)
  cases r2 with
  | false => exact T_true rfl (T_ret (no fun c => by have := hr2.2 c.2.1; cases this).symm)
  | true =>
  have hk := hr2.1 rfl
  have h5 := hc.2.2.1.1
  have h6s := earl_pair hc.2.2.2.1
  have hl8 := hc.2.2.1.2.1
  rw [wr64 (x := c5 + 4) (by omega) (by omega)]
  refine T_false rfl (T_beq (fun e => T_ret (no fun c => c.2.2.1 e).symm) fun e3 => T_bne (fun e => T_ret (no fun c => e c.2.2.2.1).symm) fun e4 => T_bne (fun e => T_ret (no fun c => e c.2.2.2.2.1).symm) fun e5 => T_beq (fun e6 => T_ndec (fun e7 => T_dec (fun e8 => T_ret (no fun c => by have := c.2.2.2.2.2.2; omega).symm) fun e8 => ?_) fun e7 => T_ret (no fun c => e7 (c.2.2.2.2.2.1 e6)).symm) fun e6 => T_dec (fun e8 => T_ret (no fun c => by have := c.2.2.2.2.2.2; omega).symm) fun e8 => ?_)
  all_goals
    have hcond : op = 1 → 1 ≤ num ∧ num ≤ c5 + 4 := by first | exact fun _ => e7 | exact fun h => absurd h e6
    have hT : TakeP c0 c1 c2 c3 c4 c5 c6 c7 c8 op key fr dst num acks body := ⟨hc, hk, e3, e4, e5, hcond, by omega⟩
    refine T_bindE (slices_DeleteFunc_impl_Pending_impl_Pending_f84.ev c4 op key fr dst num acks body (by omega) ha) ?_
    dsimp only
    have hq : (fun x => !impl_Take_1.p op key fr dst num acks body x) = notAcked acks := rfl
    rw [hq]
    unfold takeM
    rw [if_pos hT]
    refine T_beq (fun e9 => T_ret (by rw [if_pos e9])) fun e9 => ?_
    rw [if_neg e9]
    have hE := fun c7' : List Int => impl_early.ev c0 c1 c2 c3 (c4.filter (notAcked acks)) c7' c5 c6 c8 num body h6s (by omega) h6 (by omega)
    refine T_bindE (contains.ev c7 num (by omega)) (T_ndec (fun e10 => ?_) fun e10 => T_dec (fun e11 => T_pos (by simp only [List.length_singleton]; omega) ?_) fun e11 => ?_)
    · have ho : owe c7 num = c7 := by unfold owe; rw [if_neg fun c => c.1 e10]
      rw [ho]
      refine T_dec (fun e12 => ?_) fun e12 => T_ret (by rw [if_neg e12])
      rw [if_pos e12]
      exact T_bindE (hE _) (T_ret rfl)
    · have ho : owe c7 num = c7 ++ [num] := by unfold owe; rw [if_pos ⟨e10, by omega⟩]
      rw [ho]
      refine T_dec (fun e12 => ?_) fun e12 => T_ret (by rw [if_neg e12])
      rw [if_pos e12]
      exact T_bindE (hE _) (T_ret rfl)
    · have ho : owe c7 num = c7 := by unfold owe; rw [if_neg fun c => by have := c.2; omega]
      rw [ho]
      refine T_dec (fun e12 => ?_) fun e12 => T_ret (by rw [if_neg e12])
      rw [if_pos e12]
      exact T_bindE (hE _) (T_ret rfl)
theorem spec_Take.ev (h3 : c3.length ≤ 1048576) (h4 : c4.length ≤ 1048576) (h6 : c6.length ≤ 1048576) (h7 : c7.length ≤ 1048576) (h8 : c8.length ≤ 1048576) (ha : acks.length ≤ 1048576) :
    Tells F0 (fun k => spec_Take.f k c0 c1 c2 c3 c4 c5 c6 c7 c8 op key fr dst num acks body) (· = takeM c0 c1 c2 c3 c4 c5 c6 c7 c8 op key fr dst num acks body) := by
  have no : ¬ TakeP c0 c1 c2 c3 c4 c5 c6 c7 c8 op key fr dst num acks body → takeM c0 c1 c2 c3 c4 c5 c6 c7 c8 op key fr dst num acks body = (c0, c1, c2, c3, c4, c5, c6, c7, c8, false) := fun h => by unfold takeM; rw [if_neg h]
  unfold spec_Take.f
  simp only [in_eq, Option.bind_some]
  refine T_bindE (spec_l13Copy.ev c0 c1 c2 c3 c4 c5 c6 c7 c8 h3 h4 h6 h7 h8) (T_bind (spec_ChanOk.ev c0 c1 c2 c3 c4 c5 c6 c7 c8 h3 h4 h6 h7 h8) fun r hr => ?_)
  dsimp only
  cases r with
  | false => exact T_true rfl (T_ret (no fun c => by have := hr.2 c.1; cases this).symm)
  | true =>
  have hc := hr.1 rfl
  refine T_false rfl (T_bind (spec_PacketOk.ev op key fr dst num acks body ha) fun r2 hr2 => ?_)
  cases r2 with
  | false => exact T_true rfl (T_ret (no fun c => by have := hr2.2 c.2.1; cases this).symm)
  | true =>
  have hk := hr2.1 rfl
  have h5 := hc.2.2.1.1
  have hl8 := hc.2.2.1.2.1
  have main : TakeP c0 c1 c2 c3 c4 c5 c6 c7 c8 op key fr dst num acks body → Tells F0 (fun k => spec_Take.l0 k k ((0 : Int), c3, c4, c6, c7, c8, acks, c0, c1, c2, c5, op, key, fr, dst, num, body, 0, 0, 0, 0, c0, c1, c2, c5, [], [], [], [], [], c3, c4, c6, c7, c8, [])) (· = takeM c0 c1 c2 c3 c4 c5 c6 c7 c8 op key fr dst num acks body) := by
    intro hT
    have h := T_loop (F := F0) (fun k j i => spec_Take.l0 k j ((i : Int), c3, c4, c6, c7, c8, acks, c0, c1, c2, c5, op, key, fr, dst, num, body, 0, 0, 0, 0, c0, c1, c2, c5, [], [], [], [], [], c3, c4, c6, c7, c8, (c4.take i).filter (notAcked acks))) c4.length (fun _ r => r = takeM c0 c1 c2 c3 c4 c5 c6 c7 c8 op key fr dst num acks body) (fun i hi he => by
      dsimp only [spec_Take.l0, spec_Take.s0]
      simp only [Int.toNat_natCast]
      rw [wrs hi (by omega)]
      rw [take_filter_succ _ _ _ hi] at he
      have g1 := filter_len_take (notAcked acks) c4 i
      refine T_pos (by omega) (T_get hi (T_bindE (T_call (spec_l13In.ev acks _ (by omega)) Prod.fst (fun _ _ h => h.1)) (T_bif (fun e => T_get hi (T_pos ?_ ?_)) fun e => ?_)))
      · simp only [List.length_singleton]; omega
      · rw [if_pos (show notAcked acks c4[i] = true from e)] at he; exact he
      · rw [if_neg (by rw [show notAcked acks c4[i] = false from e]; simp), List.append_nil] at he; exact he) (by
      dsimp only [spec_Take.l0, spec_Take.s0]
      rw [List.take_length]
      unfold takeM
      rw [if_pos hT]
      refine T_neg (by omega) (T_beq (fun e9 => T_ret (by rw [if_pos e9])) fun e9 => ?_)
      rw [if_neg e9]
      have hE := fun c7' : List Int => (T_call (spec_l13Put.ev c0 c1 c2 c3 (c4.filter (notAcked acks)) c7' c5 c6 c8 num body (by omega) h6 (by omega)) Prod.fst (fun _ _ h => h.1) : Tells (FS F0) (fun x : Nat × Nat => spec_l13Put.f x.1 c0 c1 c2 c3 (c4.filter (notAcked acks)) c5 c6 c7' c8 num body) _)
      refine T_dec (fun e11 => T_bindE (T_call (spec_l13In.ev c7 num (by omega)) Prod.fst (fun _ _ h => h.1)) (T_ndec (fun e10 => ?_) fun e10 => T_pos (by simp only [List.length_singleton]; omega) ?_)) fun e11 => ?_
      · have ho : owe c7 num = c7 := by unfold owe; rw [if_neg fun c => c.1 e10]
        rw [ho]
        refine T_dec (fun e12 => ?_) fun e12 => T_ret (by rw [if_neg e12])
        rw [if_pos e12]
        exact T_bindE (hE _) (T_ret rfl)
      · have ho : owe c7 num = c7 ++ [num] := by unfold owe; rw [if_pos ⟨e10, by omega⟩]
        rw [ho]
        refine T_dec (fun e12 => ?_) fun e12 => T_ret (by rw [if_neg e12])
        rw [if_pos e12]
        exact T_bindE (hE _) (T_ret rfl)
      · have ho : owe c7 num = c7 := by unfold owe; rw [if_neg fun c => by have := c.2; omega]
        rw [ho]
        refine T_dec (fun e12 => ?_) fun e12 => T_ret (by rw [if_neg e12])
        rw [if_pos e12]
        exact T_bindE (hE _) (T_ret rfl)) 0 (Nat.zero_le _)
    exact T_in (g := fun x j => spec_Take.l0 x j _) (by simpa using h) (fun k => k) (fun _ _ h => h)
  rw [wr64 (x := c5 + 4) (by omega) (by omega)]
  refine T_false rfl (T_beq (fun e => T_ret (no fun c => c.2.2.1 e).symm) fun e3 => T_bne (fun e => T_ret (no fun c => e c.2.2.2.1).symm) fun e4 => T_bne (fun e => T_ret (no fun c => e c.2.2.2.2.1).symm) fun e5 => T_beq (fun e6 => T_ndec (fun e7 => T_dec (fun e8 => T_ret (no fun c => by have := c.2.2.2.2.2.2; omega).symm) fun e8 => ?_) fun e7 => T_ret (no fun c => e7 (c.2.2.2.2.2.1 e6)).symm) fun e6 => T_dec (fun e8 => T_ret (no fun c => by have := c.2.2.2.2.2.2; omega).symm) fun e8 => ?_)
  · exact main ⟨hc, hk, e3, e4, e5, fun _ => e7, by omega⟩
  · exact main ⟨hc, hk, e3, e4, e5, fun h => absurd h e6, by omega⟩
theorem owe_len : (owe c7 num).length ≤ c7.length + 1 := by
  unfold owe
  split
  · simp
  · omega
theorem take_len (h4 : c4.length ≤ 1048576) (h6 : c6.length ≤ 1048576) (h7 : c7.length ≤ 1048576) (h8 : c8.length ≤ 1048576) :
    (takeM c0 c1 c2 c3 c4 c5 c6 c7 c8 op key fr dst num acks body).2.2.2.1 = c3 ∧ (takeM c0 c1 c2 c3 c4 c5 c6 c7 c8 op key fr dst num acks body).2.2.2.2.1.length ≤ 1048576 ∧ (takeM c0 c1 c2 c3 c4 c5 c6 c7 c8 op key fr dst num acks body).2.2.2.2.2.2.1.length ≤ 1048577 ∧ (takeM c0 c1 c2 c3 c4 c5 c6 c7 c8 op key fr dst num acks body).2.2.2.2.2.2.2.1.length ≤ 1048577 ∧ (takeM c0 c1 c2 c3 c4 c5 c6 c7 c8 op key fr dst num acks body).2.2.2.2.2.2.2.2.1.length ≤ 2097153 := by
  have hf := List.length_filter_le (notAcked acks) c4
  have ho := owe_len c7 num
  have he := early_len c6 c5 c8 num body
  unfold takeM
  split
  · split
    · exact ⟨rfl, by dsimp only; omega, by dsimp only; omega, by dsimp only; omega, by dsimp only; omega⟩
    · split
      · exact ⟨rfl, by simp only [fullE]; omega, by simp only [fullE]; omega, by simp only [fullE]; omega, by simp only [fullE]; omega⟩
      · exact ⟨rfl, by dsimp only; omega, by dsimp only; omega, by dsimp only; omega, by dsimp only; omega⟩
  · exact ⟨rfl, by dsimp only; omega, by dsimp only; omega, by dsimp only; omega, by dsimp only; omega⟩
end

section
variable (c0 c1 c2 : Int) (c3 : List ByteArray) (c4 : List Pend) (c5 : Int) (c6 : List Earl) (c7 : List Int) (c8 : List ByteArray) (s : ByteArray)
def PushP : Prop := ChanP c0 c1 c2 c3 c4 c5 c6 c7 c8 ∧ s.size ≤ 120 ∧ c3.length < 30 ∧ c2 + (c3.length : Int) < 1000
open Classical in
noncomputable def pushM : Int × Int × Int × List ByteArray × List Pend × Int × List Earl × List Int × List ByteArray × Bool :=
  if PushP c0 c1 c2 c3 c4 c5 c6 c7 c8 s then (c0, c1, c2, c3 ++ [s], c4, c5, c6, c7, c8, true) else (c0, c1, c2, c3, c4, c5, c6, c7, c8, false)
theorem impl_Push.ev (h3 : c3.length ≤ 1048576) (h4 : c4.length ≤ 1048576) (h6 : c6.length ≤ 1048576) (h7 : c7.length ≤ 1048576) (h8 : c8.length ≤ 1048576) :
    Tells F0 (fun k => impl_Push.f k c0 c1 c2 c3 c4 c5 c6 c7 c8 s) (· = pushM c0 c1 c2 c3 c4 c5 c6 c7 c8 s) := by
  unfold impl_Push.f
  refine T_bindE (impl_copyChan.ev c0 c1 c2 c3 c4 c5 c6 c7 c8 h3 h4 h6 h7 h8) (T_bind (impl_ChanOk.ev c0 c1 c2 c3 c4 c5 c6 c7 c8 h3 h4 h6 h7 h8) fun r hr => ?_)
  have no : ¬ PushP c0 c1 c2 c3 c4 c5 c6 c7 c8 s → pushM c0 c1 c2 c3 c4 c5 c6 c7 c8 s = (c0, c1, c2, c3, c4, c5, c6, c7, c8, false) := fun h => by unfold pushM; rw [if_neg h]
  cases r with
  | false => exact T_true rfl (T_ret (no fun c => by have := hr.2 c.1; cases this).symm)
  | true =>
  have hc := hr.1 rfl
  have q1 := hc.1.2.2.1
  have q2 := hc.1.2.2.2.1
  rw [wr64 (x := c2 + (c3.length : Int)) (by omega) (by omega)]
  refine T_false rfl (T_dec (fun a => T_ret (no fun c => by have := c.2.1; omega).symm) fun a => T_beq (fun b => T_ret (no fun c => by have := c.2.2.1; omega).symm) fun b => T_dec (fun d => T_ret (no fun c => by have := c.2.2.2; omega).symm) fun d => T_pos ?_ (T_ret ?_))
  · show (c3.length + 1) * 16 ≤ _; omega
  · unfold pushM; rw [if_pos ⟨hc, by omega, by omega, by omega⟩]
theorem spec_Push.ev (h3 : c3.length ≤ 1048576) (h4 : c4.length ≤ 1048576) (h6 : c6.length ≤ 1048576) (h7 : c7.length ≤ 1048576) (h8 : c8.length ≤ 1048576) :
    Tells F0 (fun k => spec_Push.f k c0 c1 c2 c3 c4 c5 c6 c7 c8 s) (· = pushM c0 c1 c2 c3 c4 c5 c6 c7 c8 s) := by
  unfold spec_Push.f
  refine T_bindE (spec_l13Copy.ev c0 c1 c2 c3 c4 c5 c6 c7 c8 h3 h4 h6 h7 h8) (T_bind (spec_ChanOk.ev c0 c1 c2 c3 c4 c5 c6 c7 c8 h3 h4 h6 h7 h8) fun r hr => ?_)
  have no : ¬ PushP c0 c1 c2 c3 c4 c5 c6 c7 c8 s → pushM c0 c1 c2 c3 c4 c5 c6 c7 c8 s = (c0, c1, c2, c3, c4, c5, c6, c7, c8, false) := fun h => by unfold pushM; rw [if_neg h]
  cases r with
  | false => exact T_true rfl (T_ret (no fun c => by have := hr.2 c.1; cases this).symm)
  | true =>
  have hc := hr.1 rfl
  have q1 := hc.1.2.2.1
  have q2 := hc.1.2.2.2.1
  rw [wr64 (x := c2 + (c3.length : Int)) (by omega) (by omega)]
  refine T_false rfl (T_dec (fun a => T_ret (no fun c => by have := c.2.1; omega).symm) fun a => T_dec (fun b => T_ret (no fun c => by have := c.2.2.1; omega).symm) fun b => T_dec (fun d => T_ret (no fun c => by have := c.2.2.2; omega).symm) fun d => T_pos ?_ (T_ret ?_))
  · show (c3.length + 1) * 16 ≤ _; omega
  · unfold pushM; rw [if_pos ⟨hc, by omega, by omega, by omega⟩]
theorem push_len (h3 : c3.length ≤ 1048576) : (pushM c0 c1 c2 c3 c4 c5 c6 c7 c8 s).2.2.2.1.length ≤ 1048577 ∧ (pushM c0 c1 c2 c3 c4 c5 c6 c7 c8 s).2.2.2.2.1 = c4 ∧ (pushM c0 c1 c2 c3 c4 c5 c6 c7 c8 s).2.2.2.2.2.2.1 = c6 ∧ (pushM c0 c1 c2 c3 c4 c5 c6 c7 c8 s).2.2.2.2.2.2.2.1 = c7 ∧ (pushM c0 c1 c2 c3 c4 c5 c6 c7 c8 s).2.2.2.2.2.2.2.2.1 = c8 := by
  unfold pushM
  split
  · exact ⟨by simp; omega, rfl, rfl, rfl, rfl⟩
  · exact ⟨by show c3.length ≤ _; omega, rfl, rfl, rfl, rfl⟩
end

def TxO (l : List ByteArray) : Prop := ∀ x ∈ l, x.size ≤ 120
def SentOk (q : Int) (l : List Pend) : Prop := (∀ x ∈ l, (1 ≤ x.1 ∧ x.1 ≤ q) ∧ (0 ≤ x.2.2.1 ∧ x.2.2.1 ≤ 1000000000) ∧ (1 ≤ x.2.2.2 ∧ x.2.2.2 ≤ 8) ∧ x.2.1.size ≤ 120) ∧ (l.Pairwise fun x y => x.1 < y.1) ∧ l.length ≤ 4
def EarlOk (a b : Int) (l : List Earl) : Prop := (∀ x ∈ l, (a ≤ x.1 ∧ x.1 ≤ b) ∧ x.2.size ≤ 120) ∧ l.Pairwise fun x y => x.1 < y.1
def ChanQ (c0 c1 c2 : Int) (c3 : List ByteArray) (c4 : List Pend) (c5 : Int) (c6 : List Earl) (c7 : List Int) (c8 : List ByteArray) : Prop :=
  ((1 ≤ c0 ∧ c0 ≤ 99) ∧ (1 ≤ c1 ∧ c1 ≤ 99) ∧ (0 ≤ c2 ∧ c2 ≤ 1000) ∧ c3.length ≤ 30 ∧ TxO c3) ∧ SentOk c2 c4 ∧ ((0 ≤ c5 ∧ c5 ≤ 1000) ∧ (c8.length : Int) = c5 ∧ TxO c8 ∧ c7.length ≤ 4) ∧ EarlOk (c5 + 2) (c5 + 4) c6 ∧ ∀ x ∈ c7, 1 ≤ x ∧ x ≤ c5 + 4
theorem txo_iff (l : List ByteArray) : TextsP l ↔ TxO l := by
  constructor
  · intro h x hx
    obtain ⟨i, hi, rfl⟩ := List.getElem_of_mem hx
    exact h i hi hi
  · intro h i hi hi'
    exact h _ (List.getElem_mem hi')
theorem adj_pair {α : Type} (f : α → Int) {l : List α} (h : ∀ i, (hi : i < l.length) → (h0 : 0 < i) → f (l[i - 1]) < f l[i]) : l.Pairwise fun x y => f x < f y := by
  have key : ∀ d i, (hh : i + d + 1 < l.length) → f (l[i]) < f (l[i + d + 1]) := by
    intro d
    induction d with
    | zero => intro i hh; exact h (i + 1) hh (by omega)
    | succ d ih =>
      intro i hh
      have a1 := ih i (by omega)
      have a2 := h (i + (d + 1) + 1) hh (by omega)
      simp only [Nat.add_sub_cancel] at a2
      have e : i + (d + 1) = i + d + 1 := by omega
      simp only [e] at a2 ⊢
      omega
  rw [List.pairwise_iff_getElem]
  intro i j hi hj hij
  have := key (j - i - 1) i (by omega)
  have e : i + (j - i - 1) + 1 = j := by omega
  simp only [e] at this
  exact this
theorem chan_iff (c0 c1 c2 : Int) (c3 : List ByteArray) (c4 : List Pend) (c5 : Int) (c6 : List Earl) (c7 : List Int) (c8 : List ByteArray) : ChanP c0 c1 c2 c3 c4 c5 c6 c7 c8 ↔ ChanQ c0 c1 c2 c3 c4 c5 c6 c7 c8 := by
  unfold ChanP ChanQ
  rw [txo_iff, txo_iff]
  constructor
  · rintro ⟨h1, ⟨h2, h2'⟩, h3, h4, h5⟩
    refine ⟨h1, ⟨fun x hx => ?_, adj_pair (fun x : Pend => x.1) fun i hi h0 => (h2 i hi hi).2.1 h0, h2'⟩, h3, ⟨fun x hx => ?_, adj_pair (fun x : Earl => x.1) fun i hi h0 => (h4 i hi hi).2.1 h0⟩, fun x hx => ?_⟩
    · obtain ⟨i, hi, rfl⟩ := List.getElem_of_mem hx
      have := h2 i hi hi
      exact ⟨this.1, this.2.2.1, this.2.2.2.1, this.2.2.2.2⟩
    · obtain ⟨i, hi, rfl⟩ := List.getElem_of_mem hx
      have := h4 i hi hi
      exact ⟨this.1, this.2.2⟩
    · obtain ⟨i, hi, rfl⟩ := List.getElem_of_mem hx
      exact h5 i hi hi
  · rintro ⟨h1, ⟨h2, h2a, h2'⟩, h3, ⟨h4, h4a⟩, h5⟩
    refine ⟨h1, ⟨fun i hi hi' => ?_, h2'⟩, h3, fun i hi hi' => ?_, fun i hi hi' => h5 _ (List.getElem_mem hi')⟩
    · have := h2 _ (List.getElem_mem hi')
      exact ⟨this.1, fun h0 => (List.pairwise_iff_getElem.1 h2a) (i - 1) i (by omega) hi' (by omega), this.2.1, this.2.2.1, this.2.2.2⟩
    · have := h4 _ (List.getElem_mem hi')
      exact ⟨this.1, fun h0 => (List.pairwise_iff_getElem.1 h4a) (i - 1) i (by omega) hi' (by omega), this.2⟩
def EndP (c0 c1 c2 : Int) (c3 : List ByteArray) (c4 : List Pend) (c5 : Int) (c6 : List Earl) (c7 : List Int) (c8 : List ByteArray) : Prop := ChanP c0 c1 c2 c3 c4 c5 c6 c7 c8 ∧ c2 + c3.length ≤ 1000
section
variable {c0 c1 c2 : Int} {c3 : List ByteArray} {c4 : List Pend} {c5 : Int} {c6 : List Earl} {c7 : List Int} {c8 : List ByteArray}
theorem push_ok (h : EndP c0 c1 c2 c3 c4 c5 c6 c7 c8) (s : ByteArray) : ∃ q b, pushM c0 c1 c2 c3 c4 c5 c6 c7 c8 s = (c0, c1, c2, q, c4, c5, c6, c7, c8, b) ∧ EndP c0 c1 c2 q c4 c5 c6 c7 c8 ∧ (b = true → q.length = c3.length + 1) := by
  unfold pushM
  split
  · rename_i hc
    refine ⟨_, _, rfl, ⟨?_, by have := hc.2.2.2; simp only [List.length_append, List.length_singleton]; omega⟩, fun _ => by simp⟩
    have hq := (chan_iff ..).1 h.1
    refine (chan_iff ..).2 ⟨⟨hq.1.1, hq.1.2.1, hq.1.2.2.1, by have := hc.2.2.1; simp only [List.length_append, List.length_singleton]; omega, fun x hx => ?_⟩, hq.2⟩
    rcases List.mem_append.1 hx with hx | hx
    · exact hq.1.2.2.2.2 x hx
    · rw [List.mem_singleton] at hx; rw [hx]; exact hc.2.1
  · exact ⟨_, _, rfl, h, fun h => by cases h⟩
theorem run_ok {B : Int} : ∀ (l : List Earl) (g : Int) (o : List ByteArray), (∀ x ∈ l, (g + 1 ≤ x.1 ∧ x.1 ≤ B) ∧ x.2.size ≤ 120) → (l.Pairwise fun x y => x.1 < y.1) → g ≤ B → TxO o → (o.length : Int) = g →
    (g ≤ (runE l g o).1 ∧ (runE l g o).1 ≤ B) ∧ ((∀ x ∈ (runE l g o).2.1, ((runE l g o).1 + 2 ≤ x.1 ∧ x.1 ≤ B) ∧ x.2.size ≤ 120) ∧ (runE l g o).2.1.Pairwise fun x y => x.1 < y.1) ∧ TxO (runE l g o).2.2 ∧ ((runE l g o).2.2.length : Int) = (runE l g o).1 ∧ ∃ t, (runE l g o).2.2 = o ++ t
  | [], g, o, _, _, hg, ho, hl => ⟨⟨Int.le_refl _, hg⟩, ⟨fun x hx => absurd hx (List.not_mem_nil), List.Pairwise.nil⟩, ho, hl, [], by simp [runE]⟩
  | x :: r, g, o, h1, h2, hg, ho, hl => by
    rw [List.pairwise_cons] at h2
    have hx := h1 x List.mem_cons_self
    simp only [runE]
    split
    · rename_i e
      have ih := run_ok (B := B) r (g + 1) (o ++ [x.2]) (fun y hy => ⟨⟨by have := h2.1 y hy; omega, (h1 y (List.mem_cons_of_mem _ hy)).1.2⟩, (h1 y (List.mem_cons_of_mem _ hy)).2⟩) h2.2 (by omega) (fun y hy => by
        rcases List.mem_append.1 hy with hy | hy
        · exact ho y hy
        · rw [List.mem_singleton] at hy; rw [hy]; exact hx.2) (by simp only [List.length_append, List.length_singleton]; omega)
      obtain ⟨i1, i2, i3, i4, t, i5⟩ := ih
      exact ⟨⟨by omega, i1.2⟩, i2, i3, i4, [x.2] ++ t, by rw [i5, List.append_assoc]⟩
    · rename_i e
      refine ⟨⟨Int.le_refl _, hg⟩, ⟨fun y hy => ?_, List.pairwise_cons.2 h2⟩, ho, hl, [], by simp⟩
      rcases List.mem_cons.1 hy with rfl | hy
      · exact ⟨⟨by have := hx.1; dsimp only; omega, hx.1.2⟩, hx.2⟩
      · have := h1 y (List.mem_cons_of_mem _ hy)
        exact ⟨⟨by have := h2.1 y hy; have := hx.1; dsimp only; omega, this.1.2⟩, this.2⟩
theorem early_ok {num : Int} {body : ByteArray} (h5 : 0 ≤ c5 ∧ c5 ≤ 990) (h6 : EarlOk (c5 + 2) (c5 + 4) c6) (h8 : TxO c8) (hl : (c8.length : Int) = c5) (hn : c5 < num ∧ num ≤ c5 + 4) (hb : body.size ≤ 120) :
    (c5 ≤ (earlyM c6 c5 c8 num body).1 ∧ (earlyM c6 c5 c8 num body).1 ≤ c5 + 4) ∧ EarlOk ((earlyM c6 c5 c8 num body).1 + 2) ((earlyM c6 c5 c8 num body).1 + 4) (earlyM c6 c5 c8 num body).2.1 ∧ TxO (earlyM c6 c5 c8 num body).2.2 ∧ ((earlyM c6 c5 c8 num body).2.2.length : Int) = (earlyM c6 c5 c8 num body).1 ∧ ∃ t, (earlyM c6 c5 c8 num body).2.2 = c8 ++ t := by
  unfold earlyM
  split
  · exact ⟨⟨Int.le_refl _, by dsimp only; omega⟩, h6, h8, hl, [], by simp⟩
  · rename_i hno
    have hr := run_ok (B := c5 + 4) (putE c6 num body) c5 c8 (fun x hx => ?_) ?_ (by omega) h8 hl
    · obtain ⟨i1, i2, i3, i4, i5⟩ := hr
      exact ⟨i1, ⟨fun x hx => ⟨⟨(i2.1 x hx).1.1, by have := (i2.1 x hx).1.2; omega⟩, (i2.1 x hx).2⟩, i2.2⟩, i3, i4, i5⟩
    · unfold putE at hx
      simp only [List.mem_append, List.mem_singleton, List.mem_filter] at hx
      rcases hx with (hx | hx) | hx
      · have := h6.1 x hx.1; exact ⟨⟨by omega, this.1.2⟩, this.2⟩
      · rw [hx]; exact ⟨⟨by dsimp only; omega, hn.2⟩, hb⟩
      · have := h6.1 x hx.1; exact ⟨⟨by omega, this.1.2⟩, this.2⟩
    · unfold putE
      rw [List.append_assoc, List.pairwise_append]
      refine ⟨h6.2.filter _, ?_, fun x hx y hy => ?_⟩
      · rw [List.singleton_append, List.pairwise_cons]
        exact ⟨fun y hy => of_decide_eq_true (List.mem_filter.1 hy).2, h6.2.filter _⟩
      · have a1 : x.1 < num := of_decide_eq_true (List.mem_filter.1 hx).2
        rw [List.singleton_append, List.mem_cons] at hy
        rcases hy with rfl | hy
        · exact a1
        · have a2 : y.1 > num := of_decide_eq_true (List.mem_filter.1 hy).2
          omega
theorem take_ok (h : EndP c0 c1 c2 c3 c4 c5 c6 c7 c8) (op key fr dst num : Int) (acks : List Int) (body : ByteArray) : ∃ s g e w o b, takeM c0 c1 c2 c3 c4 c5 c6 c7 c8 op key fr dst num acks body = (c0, c1, c2, c3, s, g, e, w, o, b) ∧ EndP c0 c1 c2 c3 s g e w o ∧ ∃ t, o = c8 ++ t := by
  have hq := (chan_iff ..).1 h.1
  unfold takeM
  split
  · rename_i hT
    have hs : SentOk c2 (c4.filter (notAcked acks)) := ⟨fun x hx => hq.2.1.1 x (List.mem_filter.1 hx).1, hq.2.1.2.1.filter _, Nat.le_trans (List.length_filter_le _ _) hq.2.1.2.2⟩
    split
    · exact ⟨_, _, _, _, _, _, rfl, ⟨(chan_iff ..).2 ⟨hq.1, hs, hq.2.2⟩, h.2⟩, [], by simp⟩
    · rename_i h2
      have hop : op = 1 := by have := hT.2.1.1; have := hT.2.2.1; omega
      have hnum := hT.2.2.2.2.2.1 hop
      have h990 := hT.2.2.2.2.2.2
      have ho : (owe c7 num).length ≤ 4 ∧ ∀ x ∈ owe c7 num, 1 ≤ x ∧ x ≤ c5 + 4 := by
        unfold owe
        split
        · rename_i hc
          refine ⟨by simp only [List.length_append, List.length_singleton]; omega, fun x hx => ?_⟩
          rcases List.mem_append.1 hx with hx | hx
          · exact hq.2.2.2.2 x hx
          · rw [List.mem_singleton] at hx; rw [hx]; exact hnum
        · exact ⟨hq.2.2.1.2.2.2, hq.2.2.2.2⟩
      split
      · rename_i hgt
        have he := early_ok (c6 := c6) (c8 := c8) (num := num) (body := body) ⟨hq.2.2.1.1.1, h990⟩ hq.2.2.2.1 hq.2.2.1.2.2.1 hq.2.2.1.2.1 ⟨by omega, hnum.2⟩ hT.2.1.2.2.2.2.2.2.1
        obtain ⟨i1, i2, i3, i4, i5⟩ := he
        refine ⟨_, _, _, _, _, _, rfl, ⟨(chan_iff ..).2 ⟨hq.1, hs, ⟨⟨by have := hq.2.2.1.1; omega, by omega⟩, i4, i3, ho.1⟩, i2, fun x hx => ⟨(ho.2 x hx).1, by have := (ho.2 x hx).2; omega⟩⟩, h.2⟩, i5⟩
      · exact ⟨_, _, _, _, _, _, rfl, ⟨(chan_iff ..).2 ⟨hq.1, hs, ⟨hq.2.2.1.1, hq.2.2.1.2.1, hq.2.2.1.2.2.1, ho.1⟩, hq.2.2.2.1, ho.2⟩, h.2⟩, [], by simp⟩
  · exact ⟨_, _, _, _, _, _, rfl, h, [], by simp⟩
end

def PreOk (q now : Int) (l : List Pend) : Prop := (∀ x ∈ l, (1 ≤ x.1 ∧ x.1 ≤ q) ∧ (0 ≤ x.2.2.1 ∧ x.2.2.1 ≤ 1000000000) ∧ ((1 ≤ x.2.2.2 ∧ x.2.2.2 ≤ 8) ∨ (x.2.2.2 = 0 ∧ x.2.2.1 = now)) ∧ x.2.1.size ≤ 120) ∧ (l.Pairwise fun x y => x.1 < y.1) ∧ l.length ≤ 4
theorem fill_ok {now : Int} (hnow : 0 ≤ now ∧ now ≤ 999999000) : ∀ (q : List ByteArray) (s : List Pend) (n : Int), 0 ≤ n → PreOk n now s → TxO q →
    PreOk (fillF now q s n).2.2 now (fillF now q s n).2.1 ∧ TxO (fillF now q s n).1 ∧ n ≤ (fillF now q s n).2.2 ∧ (fillF now q s n).2.2 + ((fillF now q s n).1.length : Int) = n + (q.length : Int) ∧ ((fillF now q s n).1 = [] ∨ ¬ canF (fillF now q s n).2.1 (fillF now q s n).2.2)
  | [], s, n, h0, h, hq => ⟨h, hq, Int.le_refl _, rfl, .inl rfl⟩
  | b :: q, s, n, h0, h, hq => by
    simp only [fillF]
    split
    · rename_i hc
      have hb := hq b List.mem_cons_self
      have ih := fill_ok hnow q (s ++ [(n + 1, b, now, 0)]) (n + 1) (by omega) ⟨fun x hx => ?_, ?_, ?_⟩ (fun x hx => hq x (List.mem_cons_of_mem _ hx))
      · obtain ⟨i1, i2, i3, i4, i5⟩ := ih
        exact ⟨i1, i2, by omega, by simp only [List.length_cons]; omega, i5⟩
      · rcases List.mem_append.1 hx with hx | hx
        · have := h.1 x hx
          exact ⟨⟨this.1.1, by omega⟩, this.2⟩
        · rw [List.mem_singleton] at hx
          rw [hx]
          exact ⟨⟨by dsimp only; omega, Int.le_refl _⟩, ⟨hnow.1, by dsimp only; omega⟩, .inr ⟨rfl, rfl⟩, hb⟩
      · rw [List.pairwise_append]
        refine ⟨h.2.1, List.pairwise_singleton _ _, fun x hx y hy => ?_⟩
        rw [List.mem_singleton] at hy
        have := (h.1 x hx).1
        rw [hy]
        dsimp only
        omega
      · have := hc.1
        simp only [List.length_append, List.length_singleton]
        omega
    · rename_i hc
      exact ⟨h, hq, Int.le_refl _, rfl, .inr hc⟩
theorem upd_fst (now : Int) (x : Pend) : (updP now x).1 = x.1 := by unfold updP; split <;> rfl
theorem upd_ok {n now : Int} (hnow : 0 ≤ now ∧ now ≤ 999999000) {s : List Pend} (h : PreOk n now s) : SentOk n (s.map (updP now)) := by
  refine ⟨fun y hy => ?_, ?_, by rw [List.length_map]; exact h.2.2⟩
  · obtain ⟨x, hx, rfl⟩ := List.mem_map.1 hy
    obtain ⟨h1, h2, h3, h4⟩ := h.1 x hx
    cases hd : due now x with
    | true =>
      have e : updP now x = (x.1, x.2.1, now + 2 ^ (x.2.2.2 + 1).toNat, x.2.2.2 + 1) := by unfold updP; rw [hd]; rfl
      have h8 : x.2.2.2 < 8 := by
        unfold due at hd
        simp only [Bool.and_eq_true, Bool.not_eq_true', decide_eq_false_iff_not] at hd
        omega
      have hp := two_pow (x.2.2.2 + 1).toNat (by omega)
      rw [e]
      exact ⟨h1, ⟨by dsimp only; omega, by dsimp only; omega⟩, ⟨by dsimp only; omega, by dsimp only; omega⟩, h4⟩
    | false =>
      have e : updP now x = x := by unfold updP; rw [hd]; rfl
      rw [e]
      refine ⟨h1, h2, ?_, h4⟩
      rcases h3 with h3 | h3
      · exact h3
      · unfold due at hd
        rw [h3.1, h3.2] at hd
        simp at hd
  · rw [List.pairwise_map]
    refine h.2.1.imp fun {a b} hab => ?_
    rw [upd_fst, upd_fst]
    exact hab
theorem upd_due {now : Int} (hnow : 0 ≤ now) {x : Pend} (hx : 0 ≤ x.2.2.2) : due now (updP now x) = false := by
  cases hd : due now x with
  | true =>
    have e : updP now x = (x.1, x.2.1, now + 2 ^ (x.2.2.2 + 1).toNat, x.2.2.2 + 1) := by unfold updP; rw [hd]; rfl
    have : (0 : Int) < 2 ^ (x.2.2.2 + 1).toNat := Int.pow_pos (by omega)
    rw [e]
    unfold due
    have h1 : decide (now + 2 ^ (x.2.2.2 + 1).toNat > now) = true := by rw [decide_eq_true_eq]; omega
    simp only [h1, Bool.not_true, Bool.false_and]
  | false =>
    have e : updP now x = x := by unfold updP; rw [hd]; rfl
    rw [e]; exact hd
def PkG (c0 c1 : Int) (p : Pkt) : Prop := p.2.2.1 = c0 ∧ p.2.2.2.1 = c1 ∧ p.2.1 = 0 ∧ ((p.1 = 1 ∧ (1 ≤ p.2.2.2.2.1 ∧ p.2.2.2.2.1 ≤ 1000) ∧ p.2.2.2.2.2.2.size ≤ 120) ∨ (p.1 = 2 ∧ p.2.2.2.2.1 = 0 ∧ p.2.2.2.2.2.2 = ByteArray.empty)) ∧ (p.2.2.2.2.2.1.length ≤ 4 ∧ ∀ a ∈ p.2.2.2.2.2.1, 1 ≤ a ∧ a ≤ 1000000000)
theorem pkg_pack {c0 c1 : Int} {p : Pkt} (h0 : 1 ≤ c0 ∧ c0 ≤ 99) (h1 : 1 ≤ c1 ∧ c1 ≤ 99) (h : PkG c0 c1 p) : PackP p.1 p.2.1 p.2.2.1 p.2.2.2.1 p.2.2.2.2.1 p.2.2.2.2.2.1 p.2.2.2.2.2.2 := by
  obtain ⟨a1, a2, a3, a4, a5, a6⟩ := h
  have he : ByteArray.empty.size = 0 := rfl
  refine ⟨by omega, by omega, by omega, by omega, ?_, a5, ?_, fun j hj hj' => ⟨a6 _ (List.getElem_mem hj'), by omega⟩, fun e => ?_⟩
  · rcases a4 with a4 | a4 <;> omega
  · rcases a4 with a4 | a4
    · exact a4.2.2
    · rw [a4.2.2]; omega
  · rcases a4 with a4 | a4
    · omega
    · exact ⟨a4.2.2, a4.2.1⟩
theorem withA_good {c0 c1 : Int} {a : List Int} (ha : a.length ≤ 4 ∧ ∀ x ∈ a, 1 ≤ x ∧ x ≤ 1000000000) : ∀ P : List Pkt, (∀ p ∈ P, PkG c0 c1 p) → ∀ p ∈ withA a P, PkG c0 c1 p
  | [], _ => fun p hp => absurd hp List.not_mem_nil
  | q :: r, h => fun p hp => by
    rcases List.mem_cons.1 hp with rfl | hp
    · have := h q List.mem_cons_self
      exact ⟨this.1, this.2.1, this.2.2.1, this.2.2.2.1, ha⟩
    · exact h p (List.mem_cons_of_mem _ hp)
theorem headN_map (now : Int) (s : List Pend) : headN (s.map (updP now)) = headN s := by
  cases s with
  | nil => rfl
  | cons x r => exact upd_fst now x
theorem fill_stop {now : Int} {q : List ByteArray} {s : List Pend} {n : Int} (h : q = [] ∨ ¬ canF s n) : fillF now q s n = (q, s, n) := by
  cases q with
  | nil => rfl
  | cons b r =>
    simp only [fillF]
    rw [if_neg (h.resolve_left (by simp))]
section
variable {c0 c1 c2 : Int} {c3 : List ByteArray} {c4 : List Pend} {c5 : Int} {c6 : List Earl} {c7 : List Int} {c8 : List ByteArray} {now : Int}
theorem send_ok (h : EndP c0 c1 c2 c3 c4 c5 c6 c7 c8) (hnow : 0 ≤ now ∧ now ≤ 999999000) : ∃ n q s w pk, sendM c0 c1 c2 c3 c4 c5 c6 c7 c8 now = (c0, c1, n, q, s, c5, c6, w, c8, pk) ∧ EndP c0 c1 n q s c5 c6 w c8 ∧ (∀ p ∈ pk, PkG c0 c1 p) ∧ pk.length ≤ 4 ∧ (sendM c0 c1 n q s c5 c6 w c8 now).2.2.2.2.2.2.2.2.2 = [] := by
  have hq := (chan_iff ..).1 h.1
  have hf := fill_ok hnow c3 c4 c2 hq.1.2.2.1.1 ⟨fun x hx => ⟨(hq.2.1.1 x hx).1, (hq.2.1.1 x hx).2.1, .inl (hq.2.1.1 x hx).2.2.1, (hq.2.1.1 x hx).2.2.2⟩, hq.2.1.2.1, hq.2.1.2.2⟩ hq.1.2.2.2.2
  have e : sendM c0 c1 c2 c3 c4 c5 c6 c7 c8 now = resM c0 c1 (fillF now c3 c4 c2).2.2 (fillF now c3 c4 c2).1 (fillF now c3 c4 c2).2.1 c5 c6 c7 c8 now := by unfold sendM; rw [if_pos ⟨h.1, hnow⟩]
  obtain ⟨f1, f2, f3, f4, f5⟩ := hf
  generalize fillF now c3 c4 c2 = F at *
  obtain ⟨q, s, n⟩ := F
  dsimp only at f1 f2 f3 f4 f5 e
  have h2 := h.2
  have hn : n ≤ 1000 := by omega
  have hql : q.length ≤ 30 := by have := hq.1.2.2.2.1; omega
  have hu := upd_ok hnow f1
  have hk : ∀ p ∈ pkts c0 c1 now s, PkG c0 c1 p := fun p hp => by
    unfold pkts at hp
    obtain ⟨x, hx, rfl⟩ := List.mem_map.1 hp
    have hx' := f1.1 x (List.mem_filter.1 hx).1
    exact ⟨rfl, rfl, rfl, .inl ⟨rfl, ⟨hx'.1.1, by have := hx'.1.2; show x.1 ≤ 1000; omega⟩, hx'.2.2.2⟩, by show (0 : Nat) ≤ 4; omega, fun a ha => absurd ha List.not_mem_nil⟩
  have hout : ∀ p ∈ outK c0 c1 now c7 s, PkG c0 c1 p := fun p hp => by
    unfold outK at hp
    split at hp
    · rw [List.mem_singleton] at hp
      rw [hp]
      exact ⟨rfl, rfl, rfl, .inr ⟨rfl, rfl, rfl⟩, by show (0 : Nat) ≤ 4; omega, fun a ha => absurd ha List.not_mem_nil⟩
    · exact hk p hp
  have hol : (outK c0 c1 now c7 s).length ≤ 4 := by
    unfold outK
    split
    · simp
    · unfold pkts
      rw [List.length_map]
      exact Nat.le_trans (List.length_filter_le _ _) f1.2.2
  have hw0 : (if (outK c0 c1 now c7 s).length = 0 then c7 else []).length = 0 := by
    split
    · rename_i hz
      unfold outK at hz
      split at hz
      · simp at hz
      · rename_i hc
        have hz' : (pkts c0 c1 now s).length = 0 := hz
        exact Classical.byContradiction fun hne => hc ⟨hz', hne⟩
    · rfl
  have hend : EndP c0 c1 n q (s.map (updP now)) c5 c6 (if (outK c0 c1 now c7 s).length = 0 then c7 else []) c8 := by
    refine ⟨(chan_iff ..).2 ⟨⟨hq.1.1, hq.1.2.1, ⟨by have := hq.1.2.2.1; omega, hn⟩, hql, f2⟩, hu, ⟨hq.2.2.1.1, hq.2.2.1.2.1, hq.2.2.1.2.2.1, by omega⟩, hq.2.2.2.1, fun x hx => ?_⟩, by omega⟩
    rw [List.eq_nil_of_length_eq_zero hw0] at hx
    exact absurd hx List.not_mem_nil
  refine ⟨n, q, s.map (updP now), _, _, e, hend, withA_good ⟨hq.2.2.1.2.2.2, fun x hx => ⟨(hq.2.2.2.2 x hx).1, by have := (hq.2.2.2.2 x hx).2; have := hq.2.2.1.1; omega⟩⟩ _ hout, by rw [withA_len]; exact hol, ?_⟩
  generalize (if (outK c0 c1 now c7 s).length = 0 then c7 else []) = w at *
  have hst : fillF now q (s.map (updP now)) n = (q, s.map (updP now), n) := fill_stop (f5.imp id fun hc hc' => hc (by
    unfold canF at hc' ⊢
    rw [List.length_map, headN_map] at hc'
    exact hc'))
  have hnil : pkts c0 c1 now (s.map (updP now)) = [] := by
    unfold pkts
    rw [List.filter_eq_nil_iff.2 fun y hy => ?_]
    · rfl
    · obtain ⟨x, hx, rfl⟩ := List.mem_map.1 hy
      have := f1.1 x hx
      rw [upd_due hnow.1 (by omega)]
      exact Bool.false_ne_true
  have hout2 : outK c0 c1 now w (s.map (updP now)) = [] := by
    unfold outK
    rw [if_neg fun c => c.2 hw0, hnil]
  unfold sendM
  rw [if_pos ⟨hend.1, hnow⟩, hst]
  show withA w (outK c0 c1 now w (s.map (updP now))) = []
  rw [hout2]
  rfl
theorem earl_len {a b : Int} {l : List Earl} (h : EarlOk a b l) (hab : b ≤ a + 1000) : l.length ≤ 1001 := by
  have key : ∀ i, (hi : i < l.length) → a + i ≤ (l[i]).1 := by
    intro i
    induction i with
    | zero => intro hi; have := (h.1 _ (List.getElem_mem hi)).1.1; omega
    | succ i ih =>
      intro hi
      have h1 := ih (by omega)
      have h2 := (List.pairwise_iff_getElem.1 h.2) i (i + 1) (by omega) hi (by omega)
      omega
  rcases Nat.eq_zero_or_pos l.length with h0 | h0
  · omega
  · have h1 := key (l.length - 1) (by omega)
    have h2 := (h.1 _ (List.getElem_mem (show l.length - 1 < l.length by omega))).1.2
    omega
theorem end_len (h : EndP c0 c1 c2 c3 c4 c5 c6 c7 c8) : c3.length ≤ 1048576 ∧ c4.length ≤ 1048576 ∧ c6.length ≤ 1048576 ∧ c7.length ≤ 1048576 ∧ c8.length ≤ 1048576 := by
  have hq := (chan_iff ..).1 h.1
  have h6 := earl_len hq.2.2.2.1 (by omega)
  have h1 := hq.1.2.2.2.1
  have h2 := hq.2.1.2.2
  have h3 := hq.2.2.1.1
  have h4 := hq.2.2.1.2.1
  have h5 := hq.2.2.1.2.2.2
  omega
end

def CurOk (l : List Int) (i : Int) : Prop := 0 ≤ i ∧ i ≤ l.length ∧ l.length ≤ 1048576
theorem bits255 (x : BitVec IntKind.i64.bits) : 0 ≤ IntKind.i64.wrap ((x &&& BitVec.ofInt IntKind.i64.bits (255 : Int)).toNat : Int) ∧ IntKind.i64.wrap ((x &&& BitVec.ofInt IntKind.i64.bits (255 : Int)).toNat : Int) ≤ 255 := by
  have h : (x &&& BitVec.ofInt IntKind.i64.bits (255 : Int)).toNat ≤ 255 := by
    rw [BitVec.toNat_and]
    exact Nat.le_trans Nat.and_le_right (by decide)
  rw [wr64 (by omega) (by omega)]
  omega
theorem spec_l01Byte.ev (l : List Int) (i h : Int) (hc : CurOk l i) : Tells F0 (fun k => spec_l01Byte.f k l i h) (fun r => (0 ≤ r.1 ∧ r.1 ≤ 255) ∧ CurOk r.2.1 r.2.2.1) := by
  unfold spec_l01Byte.f
  obtain ⟨h0, h1, h2⟩ := hc
  obtain ⟨m, rfl⟩ := Int.eq_ofNat_of_zero_le h0
  refine T_dec (fun e => T_get (by omega) (T_ret ⟨bits255 _, ?_⟩)) fun e => T_ret ⟨bits255 _, h0, h1, h2⟩
  show CurOk l (IntKind.i64.wrap ((m : Int) + 1))
  rw [wr64 (by omega) (by omega)]
  exact ⟨by omega, by omega, h2⟩
theorem spec_l01Below.ev (l : List Int) (i h n : Int) (hc : CurOk l i) (hn : n ≤ 9223372036854775807) : Tells F0 (fun k => spec_l01Below.f k l i h n) (fun r => (0 ≤ r.1 ∧ (0 < n → r.1 < n) ∧ (n ≤ 0 → r.1 = 0)) ∧ CurOk r.2.1 r.2.2.1) := by
  unfold spec_l01Below.f
  refine T_dec (fun h1 => T_ret ⟨⟨Int.le_refl _, fun h => by omega, fun _ => rfl⟩, hc⟩) (fun h1 => T_dec (fun h2 => ?_) (fun h2 => ?_))
  · refine T_bind (spec_l01Byte.ev l i h hc) fun r hr => T_beq (fun e => by omega) fun _ => T_ret ⟨?_, hr.2⟩
    dsimp only
    rw [Int.tmod_eq_emod_of_nonneg hr.1.1]
    have a := Int.emod_nonneg r.1 (show n ≠ 0 by omega)
    have b := Int.emod_lt_of_pos r.1 (show 0 < n by omega)
    exact ⟨a, fun _ => b, fun h => by omega⟩
  · refine T_bind (spec_l01Byte.ev l i h hc) fun x hx => T_bind (spec_l01Byte.ev _ _ _ hx.2) fun y hy => T_bind (spec_l01Byte.ev _ _ _ hy.2) fun z hz => T_bind (spec_l01Byte.ev _ _ _ hz.2) fun w hw => T_beq (fun e => by omega) fun _ => T_ret ⟨?_, hw.2⟩
    dsimp only
    rw [wr64 (x := x.1 * 16777216) (by omega) (by omega), wr64 (x := y.1 * 65536) (by omega) (by omega), wr64 (x := z.1 * 256) (by omega) (by omega), wr64 (x := x.1 * 16777216 + y.1 * 65536) (by omega) (by omega), wr64 (x := x.1 * 16777216 + y.1 * 65536 + z.1 * 256) (by omega) (by omega), wr64 (x := x.1 * 16777216 + y.1 * 65536 + z.1 * 256 + w.1) (by omega) (by omega)]
    rw [Int.tmod_eq_emod_of_nonneg (by omega)]
    have a := Int.emod_nonneg (x.1 * 16777216 + y.1 * 65536 + z.1 * 256 + w.1) (show n ≠ 0 by omega)
    have b := Int.emod_lt_of_pos (x.1 * 16777216 + y.1 * 65536 + z.1 * 256 + w.1) (show 0 < n by omega)
    exact ⟨a, fun _ => b, fun h => by omega⟩
theorem spec_l01New.ev (l : List Int) (hn : l.length ≤ 1048576) : Tells F0 (fun k => spec_l01New.f k l) (fun r => r.1 = l ∧ CurOk r.1 r.2.1) := by
  unfold spec_l01New.f
  have h := T_loops (F := F0) (fun k j (s : Int) i => spec_l01New.l0 k j (s, (i : Int), l)) l.length (fun _ _ => True) (fun _ _ r => r.1 = l ∧ CurOk r.1 r.2.1) (fun i s hi _ he => by
    dsimp only [spec_l01New.l0, spec_l01New.s0]
    simp only [Int.toNat_natCast]
    rw [wrs hi (by omega)]
    exact T_pos (by omega) (T_dec (fun _ => T_get hi (he _ trivial)) fun _ => T_ret ⟨rfl, Int.le_refl _, by show (0 : Int) ≤ _; omega, hn⟩)) (fun s _ => by
    dsimp only [spec_l01New.l0, spec_l01New.s0]
    exact T_neg (by omega) (T_ret ⟨rfl, Int.le_refl _, by show (0 : Int) ≤ _; omega, hn⟩)) 0 (IntKind.i64.wrap ((36201 : Int) + (l.length : Int))) (Nat.zero_le _) trivial
  exact T_in (g := fun x j => spec_l01New.l0 x j _) (by simpa using h) (fun k => k) (fun _ _ h => h)
theorem laws_big.eq (k : Nat) (l : List Int) : laws_big.f k l = some (decide (l.length > 1048576)) := by
  unfold laws_big.f
  congr 1
  simp
  omega

theorem strn_size (l : List Int) : (strOfNums l).size = l.length := by simp [strOfNums, ByteArray.size]
theorem spec_l01Text.ev (l : List Int) (i h n : Int) (hc : CurOk l i) (h0 : 0 ≤ n) (hn : n ≤ 5000) : Tells F0 (fun k => spec_l01Text.f k l i h n) (fun r => (r.1.size : Int) = n ∧ CurOk r.2.1 r.2.2.1) := by
  obtain ⟨m, rfl⟩ := Int.eq_ofNat_of_zero_le h0
  have hh := T_loops (F := F0) (fun k j (s : List Int × List Int × Int × Int) a => spec_l01Text.l0 k j ((m : Int), (a : Int), s.2.2.1, s.2.2.2, l, s.2.1, s.1)) m (fun a s => s.1.length = a ∧ CurOk s.2.1 s.2.2.1) (fun _ _ r => (r.1.size : Int) = (m : Int) ∧ CurOk r.2.1 r.2.2.1) (fun a s ha hs he => by
    obtain ⟨o, cl, ci, ch⟩ := s
    obtain ⟨h1, h2⟩ := hs
    dsimp only at h1 h2
    dsimp only [spec_l01Text.l0, spec_l01Text.s0]
    rw [wrs ha (by omega)]
    exact T_pos (by omega) (T_bind (T_call (spec_l01Byte.ev cl ci ch h2) Prod.fst (fun _ _ h => h.1)) fun r hr => T_pos (by simp only [List.length_singleton]; omega) (he (_, _, _, _) ⟨by simp only [List.length_append, List.length_singleton]; omega, hr.2⟩))) (fun s hs => by
    obtain ⟨o, cl, ci, ch⟩ := s
    obtain ⟨h1, h2⟩ := hs
    dsimp only at h1 h2
    dsimp only [spec_l01Text.l0, spec_l01Text.s0]
    exact T_neg (by omega) (T_ret ⟨by dsimp only; rw [strn_size, h1], h2⟩)) 0 ([], l, i, h) (Nat.zero_le _) ⟨rfl, hc⟩
  unfold spec_l01Text.f
  exact T_neg (by omega) (T_in (g := fun x j => spec_l01Text.l0 x j _) (by simpa using hh) (fun k => k) (fun _ _ h => h))
theorem end_new : EndP 1 2 0 [] [] 0 [] [] [] := by
  refine ⟨(chan_iff ..).2 ⟨⟨by omega, by omega, by omega, by simp, fun x hx => absurd hx List.not_mem_nil⟩, ⟨fun x hx => absurd hx List.not_mem_nil, List.Pairwise.nil, by simp⟩, ⟨by omega, rfl, fun x hx => absurd hx List.not_mem_nil, by simp⟩, ⟨fun x hx => absurd hx List.not_mem_nil, List.Pairwise.nil⟩, fun x hx => absurd hx List.not_mem_nil⟩, by simp⟩
abbrev Est := Int × List Int × Int × Int × Int × List ByteArray × List Pend × Int × List Earl × List Int × List ByteArray
theorem spec_l13Chan.ev (l : List Int) (i h : Int) (hc : CurOk l i) : Tells F0 (fun k => spec_l13Chan.f k l i h) (fun r => (r.1 = 1 ∧ r.2.1 = 2) ∧ EndP 1 2 r.2.2.1 r.2.2.2.1 r.2.2.2.2.1 r.2.2.2.2.2.1 r.2.2.2.2.2.2.1 r.2.2.2.2.2.2.2.1 r.2.2.2.2.2.2.2.2.1 ∧ CurOk r.2.2.2.2.2.2.2.2.2.1 r.2.2.2.2.2.2.2.2.2.2.1) := by
  unfold spec_l13Chan.f spec_ChanNew.f
  simp only [in_eq, Option.bind_some]
  have hh := T_loops (F := F0) (fun k j (s : Est) a => spec_l13Chan.l0 k j (s.1, (a : Int), s.2.2.1, s.2.2.2.1, l, 0, 0, 0, 0, 1, 2, s.2.2.2.2.1, s.2.2.2.2.2.2.2.1, [], [], [], [], [], s.2.2.2.2.2.1, s.2.2.2.2.2.2.1, s.2.2.2.2.2.2.2.2.1, s.2.2.2.2.2.2.2.2.2.1, s.2.2.2.2.2.2.2.2.2.2, s.2.1)) 14 (fun a s => (0 ≤ s.1 ∧ s.1 ≤ 6 * a) ∧ CurOk s.2.1 s.2.2.1 ∧ EndP 1 2 s.2.2.2.2.1 s.2.2.2.2.2.1 s.2.2.2.2.2.2.1 s.2.2.2.2.2.2.2.1 s.2.2.2.2.2.2.2.2.1 s.2.2.2.2.2.2.2.2.2.1 s.2.2.2.2.2.2.2.2.2.2) (fun _ _ r => (r.1 = 1 ∧ r.2.1 = 2) ∧ EndP 1 2 r.2.2.1 r.2.2.2.1 r.2.2.2.2.1 r.2.2.2.2.2.1 r.2.2.2.2.2.2.1 r.2.2.2.2.2.2.2.1 r.2.2.2.2.2.2.2.2.1 ∧ CurOk r.2.2.2.2.2.2.2.2.2.1 r.2.2.2.2.2.2.2.2.2.2.1) (fun a s ha hs he => by
    obtain ⟨now, cl, ci, ch, c2, c3, c4, c5, c6, c7, c8⟩ := s
    obtain ⟨hnow, hC, hE⟩ := hs
    dsimp only at hnow hC hE
    obtain ⟨l3, l4, l6, l7, l8⟩ := end_len hE
    dsimp only [spec_l13Chan.l0, spec_l13Chan.s0]
    rw [wrs ha (by omega)]
    refine T_bind (T_call (spec_l01Below.ev cl ci ch 14 hC (by omega)) Prod.fst (fun _ _ h => h.1)) fun x hx => T_dec (fun _ => ?_) fun _ => T_ret ⟨⟨rfl, rfl⟩, hE, hx.2⟩
    refine T_bind (T_call (spec_l01Below.ev _ _ _ 6 hx.2 (by omega)) Prod.fst (fun _ _ h => h.1)) fun y hy => ?_
    have y1 := hy.1.1
    have y2 := hy.1.2.1 (by omega)
    rw [wr64 (x := now + y.1) (by omega) (by omega)]
    refine T_bind (T_call (spec_l01Below.ev _ _ _ 4 hy.2 (by omega)) Prod.fst (fun _ _ h => h.1)) fun z hz => T_beq (fun _ => ?_) fun _ => T_beq (fun _ => ?_) fun _ => T_beq (fun _ => ?_) fun _ => ?_
    · refine T_bind (T_call (spec_l01Below.ev _ _ _ 4 hz.2 (by omega)) Prod.fst (fun _ _ h => h.1)) fun w hw => T_bind (T_call (spec_l01Text.ev _ _ _ w.1 hw.2 hw.1.1 (by have := hw.1.2.1 (by omega); omega)) Prod.fst (fun _ _ h => h.1)) fun t ht => T_bindE (T_call (spec_Push.ev 1 2 c2 c3 c4 c5 c6 c7 c8 t.1 l3 l4 l6 l7 l8) Prod.fst (fun _ _ h => h.1)) ?_
      obtain ⟨q, b, e, hE', _⟩ := push_ok hE t.1
      rw [e]
      exact he (now + y.1, t.2.1, t.2.2.1, t.2.2.2, c2, q, c4, c5, c6, c7, c8) ⟨by dsimp only; omega, ht.2, hE'⟩
    · refine T_bindE (T_call (spec_Send.ev 1 2 c2 c3 c4 c5 c6 c7 c8 (now + y.1) l3 l4 l6 l7 l8) Prod.fst (fun _ _ h => h.1)) ?_
      obtain ⟨n, q, s, w, pk, e, hE', _⟩ := send_ok hE (now := now + y.1) (by omega)
      rw [e]
      exact he (now + y.1, z.2.1, z.2.2.1, z.2.2.2, n, q, s, c5, c6, w, c8) ⟨by dsimp only; omega, hz.2, hE'⟩
    · refine T_bind (T_call (spec_l01Below.ev _ _ _ 4 hz.2 (by omega)) Prod.fst (fun _ _ h => h.1)) fun w hw => T_bind (T_call (spec_l01Text.ev _ _ _ 1 hw.2 (by omega) (by omega)) Prod.fst (fun _ _ h => h.1)) fun t ht => T_bindE (T_call (spec_Take.ev 1 2 c2 c3 c4 c5 c6 c7 c8 1 0 2 1 _ [] t.1 l3 l4 l6 l7 l8 (by simp)) Prod.fst (fun _ _ h => h.1)) ?_
      obtain ⟨s, g, e6, w7, o, b, e, hE', _⟩ := take_ok hE 1 0 2 1 (IntKind.i64.wrap (IntKind.i64.wrap (c5 + 1) + w.1)) [] t.1
      rw [e]
      exact he (now + y.1, t.2.1, t.2.2.1, t.2.2.2, c2, c3, s, g, e6, w7, o) ⟨by dsimp only; omega, ht.2, hE'⟩
    · refine T_bind (T_call (spec_l01Below.ev _ _ _ 6 hz.2 (by omega)) Prod.fst (fun _ _ h => h.1)) fun w hw => T_bindE (T_call (spec_Take.ev 1 2 c2 c3 c4 c5 c6 c7 c8 2 0 2 1 0 [IntKind.i64.wrap (1 + w.1)] ByteArray.empty l3 l4 l6 l7 l8 (by simp)) Prod.fst (fun _ _ h => h.1)) ?_
      obtain ⟨s, g, e6, w7, o, b, e, hE', _⟩ := take_ok hE 2 0 2 1 0 [IntKind.i64.wrap (1 + w.1)] ByteArray.empty
      rw [e]
      exact he (now + y.1, w.2.1, w.2.2.1, w.2.2.2, c2, c3, s, g, e6, w7, o) ⟨by dsimp only; omega, hw.2, hE'⟩) (fun s hs => by
    obtain ⟨now, cl, ci, ch, c2, c3, c4, c5, c6, c7, c8⟩ := s
    obtain ⟨hnow, hC, hE⟩ := hs
    dsimp only at hnow hC hE
    dsimp only [spec_l13Chan.l0, spec_l13Chan.s0]
    refine T_bind (T_call (spec_l01Below.ev cl ci ch 14 hC (by omega)) Prod.fst (fun _ _ h => h.1)) fun x hx => T_neg ?_ (T_ret ⟨⟨rfl, rfl⟩, hE, hx.2⟩)
    have := hx.1.2.1 (by omega)
    omega) 0 (0, l, i, h, 0, [], [], 0, [], [], []) (Nat.zero_le _) ⟨by dsimp only; omega, hc, end_new⟩
  exact T_in (g := fun x j => spec_l13Chan.l0 x j _) (by simpa using hh) (fun k => k) (fun _ _ h => h)
theorem spec_l12Packet.ev (l : List Int) (i h : Int) (hc : CurOk l i) : Tells F0 (fun k => spec_l12Packet.f k l i h) (fun r => r.2.2.2.2.2.1.length ≤ 4 ∧ CurOk r.2.2.2.2.2.2.2.1 r.2.2.2.2.2.2.2.2.1) := by
  have loop : ∀ (op fr dst num : Int) (body : ByteArray) (cl : List Int) (ci ch : Int), CurOk cl ci → Tells F0 (fun k => spec_l12Packet.l0 k k ((0 : Int), ci, ch, l, 0, 0, 0, 0, 0, ByteArray.empty, op, 0, fr, dst, num, body, [], [], cl)) (fun r => r.2.2.2.2.2.1.length ≤ 4 ∧ CurOk r.2.2.2.2.2.2.2.1 r.2.2.2.2.2.2.2.2.1) := by
    intro op fr dst num body cl ci ch hC
    have hh := T_loops (F := F0) (fun k j (s : List Int × List Int × Int × Int) a => spec_l12Packet.l0 k j ((a : Int), s.2.2.1, s.2.2.2, l, 0, 0, 0, 0, 0, ByteArray.empty, op, 0, fr, dst, num, body, [], s.1, s.2.1)) 4 (fun a s => s.1.length ≤ a ∧ CurOk s.2.1 s.2.2.1) (fun _ _ r => r.2.2.2.2.2.1.length ≤ 4 ∧ CurOk r.2.2.2.2.2.2.2.1 r.2.2.2.2.2.2.2.2.1) (fun a s ha hs he => by
      obtain ⟨o, cl, ci, ch⟩ := s
      obtain ⟨h1, h2⟩ := hs
      dsimp only at h1 h2
      dsimp only [spec_l12Packet.l0, spec_l12Packet.s0]
      rw [wrs ha (by omega)]
      exact T_bind (T_call (spec_l01Below.ev cl ci ch 4 h2 (by omega)) Prod.fst (fun _ _ h => h.1)) fun x hx => T_dec (fun _ => T_bind (T_call (spec_l01Below.ev _ _ _ 9 hx.2 (by omega)) Prod.fst (fun _ _ h => h.1)) fun y hy => T_pos (by simp only [List.length_singleton]; omega) (he (_, _, _, _) ⟨by simp only [List.length_append, List.length_singleton]; omega, hy.2⟩)) fun _ => T_ret ⟨by dsimp only; omega, hx.2⟩) (fun s hs => by
      obtain ⟨o, cl, ci, ch⟩ := s
      obtain ⟨h1, h2⟩ := hs
      dsimp only at h1 h2
      dsimp only [spec_l12Packet.l0, spec_l12Packet.s0]
      refine T_bind (T_call (spec_l01Below.ev cl ci ch 4 h2 (by omega)) Prod.fst (fun _ _ h => h.1)) fun x hx => T_neg ?_ (T_ret ⟨h1, hx.2⟩)
      have := hx.1.2.1 (by omega)
      omega) 0 ([], cl, ci, ch) (Nat.zero_le _) ⟨by simp, hC⟩
    exact T_in (g := fun x j => spec_l12Packet.l0 x j _) (by simpa using hh) (fun k => k) (fun _ _ h => h)
  unfold spec_l12Packet.f
  refine T_bind (spec_l01Below.ev l i h 3 hc (by omega)) fun x hx => T_bind (spec_l01Below.ev _ _ _ 3 hx.2 (by omega)) fun y hy => T_bind (spec_l01Below.ev _ _ _ 3 hy.2 (by omega)) fun z hz => T_bind (spec_l01Below.ev _ _ _ 9 hz.2 (by omega)) fun w hw => T_beq (fun _ => T_bne (fun _ => loop _ _ _ _ _ _ _ _ hw.2) fun _ => T_bind (spec_l01Below.ev _ _ _ 8 hw.2 (by omega)) fun v hv => T_ret ⟨by simp, hv.2⟩) fun _ => ?_
  refine T_bind (spec_l01Below.ev _ _ _ 9 hw.2 (by omega)) fun v hv => T_bind (spec_l01Text.ev _ _ _ v.1 hv.2 hv.1.1 (by have := hv.1.2.1 (by omega); omega)) fun t ht => T_bne (fun _ => loop _ _ _ _ _ _ _ _ ht.2) fun _ => T_bind (spec_l01Below.ev _ _ _ 8 ht.2 (by omega)) fun u hu => T_ret ⟨by simp, hu.2⟩
theorem spec_DrawEnd.ev (l : List Int) (hn : l.length ≤ 1048576) : Tells F0 (fun k => spec_DrawEnd.f k l) (fun r => (r.1 = 1 ∧ r.2.1 = 2) ∧ EndP 1 2 r.2.2.1 r.2.2.2.1 r.2.2.2.2.1 r.2.2.2.2.2.1 r.2.2.2.2.2.2.1 r.2.2.2.2.2.2.2.1 r.2.2.2.2.2.2.2.2.1 ∧ r.2.2.2.2.2.2.2.2.2.2.2.2.2.2.1.length ≤ 4) := by
  unfold spec_DrawEnd.f
  refine T_bind (spec_l01New.ev l hn) fun c hc => T_bind (spec_l13Chan.ev _ _ _ hc.2) fun x hx => T_bind (spec_l12Packet.ev _ _ _ hx.2.2) fun y hy => T_beq (fun _ => T_bind (spec_l01Below.ev _ _ _ 6 hy.2 (by omega)) fun z hz => T_ret ⟨hx.1, hx.2.1, hy.1⟩) fun _ => T_ret ⟨hx.1, hx.2.1, hy.1⟩

theorem laws_sameInts.ev (l : List Int) (hn : l.length ≤ 1048576) : Tells F0 (fun k => laws_sameInts.f k l l) (· = true) := by
  have h := T_loop (F := F0) (fun k j i => laws_sameInts.l0 k j ((i : Int), l, l)) l.length (fun _ r => r = true) (fun i hi he => by
    dsimp only [laws_sameInts.l0, laws_sameInts.s0]
    simp only [Int.toNat_natCast]
    rw [wrs hi (by omega)]
    exact T_pos (by omega) (T_get hi (T_get hi (T_bne (fun e => absurd rfl e) fun _ => he)))) (by
    dsimp only [laws_sameInts.l0, laws_sameInts.s0]
    exact T_neg (by omega) (T_ret rfl)) 0 (Nat.zero_le _)
  unfold laws_sameInts.f
  exact T_false (by simp) (T_in (g := fun x j => laws_sameInts.l0 x j _) (by simpa using h) (fun k => k) (fun _ _ h => h))
theorem laws_samePacket.ev (a b c d e : Int) (l : List Int) (s : ByteArray) (hn : l.length ≤ 1048576) : Tells F0 (fun k => laws_samePacket.f k a b c d e l s a b c d e l s) (· = true) := by
  unfold laws_samePacket.f
  exact T_true (by simp) (T_true (by simp) (T_true (by simp) (T_true (by simp) (T_true (by simp) (T_bindE (laws_sameInts.ev l hn) (T_true rfl (T_ret (by simp))))))))
theorem laws_samePackets.ev (l : List Pkt) (hn : l.length ≤ 1048576) (ha : ∀ p ∈ l, p.2.2.2.2.2.1.length ≤ 1048576) : Tells F0 (fun k => laws_samePackets.f k l l) (· = true) := by
  have h := T_loop (F := F0) (fun k j i => laws_samePackets.l0 k j ((i : Int), l, l)) l.length (fun _ r => r = true) (fun i hi he => by
    dsimp only [laws_samePackets.l0, laws_samePackets.s0]
    simp only [Int.toNat_natCast]
    rw [wrs hi (by omega)]
    exact T_pos (by omega) (T_get hi (T_get hi (T_bindE (T_call (laws_samePacket.ev _ _ _ _ _ _ _ (ha _ (List.getElem_mem hi))) Prod.fst (fun _ _ h => h.1)) (T_false rfl he)))) ) (by
    dsimp only [laws_samePackets.l0, laws_samePackets.s0]
    exact T_neg (by omega) (T_ret rfl)) 0 (Nat.zero_le _)
  unfold laws_samePackets.f
  exact T_false (by simp) (T_in (g := fun x j => laws_samePackets.l0 x j _) (by simpa using h) (fun k => k) (fun _ _ h => h))
theorem laws_sameTexts.ev (l : List ByteArray) (hn : l.length ≤ 1048576) : Tells F0 (fun k => laws_sameTexts.f k l l) (· = true) := by
  have h := T_loop (F := F0) (fun k j i => laws_sameTexts.l0 k j ((i : Int), l, l)) l.length (fun _ r => r = true) (fun i hi he => by
    dsimp only [laws_sameTexts.l0, laws_sameTexts.s0]
    simp only [Int.toNat_natCast]
    rw [wrs hi (by omega)]
    exact T_pos (by omega) (T_get hi (T_get hi (T_false (by simp) he)))) (by
    dsimp only [laws_sameTexts.l0, laws_sameTexts.s0]
    exact T_neg (by omega) (T_ret rfl)) 0 (Nat.zero_le _)
  unfold laws_sameTexts.f
  exact T_false (by simp) (T_in (g := fun x j => laws_sameTexts.l0 x j _) (by simpa using h) (fun k => k) (fun _ _ h => h))
theorem laws_beginning.ev (l t : List ByteArray) (hn : l.length ≤ 1048576) : Tells F0 (fun k => laws_beginning.f k (l ++ t) l) (· = true) := by
  unfold laws_beginning.f
  simp only [Int.toNat_natCast, List.take_left]
  exact T_pos (by simp only [List.length_append]; omega) (T_and (by omega) (by simp only [List.length_append]; omega) (T_bindE (laws_sameTexts.ev l hn) (T_ret rfl)))
theorem FnEnds : laws_FnEnds.Goal := by
  rintro l ⟨hl, _, _⟩
  refine Tells.rounds ?_
  unfold laws_FnEnds.f
  simp only [laws_big.eq, Option.bind_some]
  refine T_dec (fun _ => T_ret rfl) fun hbig => ?_
  have hn : l.length ≤ 1048576 := by omega
  refine T_bind (spec_DrawEnd.ev l hn) fun d hd => ?_
  obtain ⟨c0, c1, c2, c3, c4, c5, c6, c7, c8, op, key, fr, dst, num, acks, body⟩ := d
  obtain ⟨⟨rfl, rfl⟩, hE, hA⟩ := hd
  dsimp only at hE hA ⊢
  obtain ⟨l3, l4, l6, l7, l8⟩ := end_len hE
  refine T_bindE (impl_Take.ev 1 2 c2 c3 c4 c5 c6 c7 c8 op key fr dst num acks body l3 l4 l6 l7 l8 (by omega)) (T_bindE (spec_Take.ev 1 2 c2 c3 c4 c5 c6 c7 c8 op key fr dst num acks body l3 l4 l6 l7 l8 (by omega)) ?_)
  obtain ⟨s, g, e6, w, o, ok, e, hE1, t, rfl⟩ := take_ok hE op key fr dst num acks body
  rw [e]
  dsimp only
  obtain ⟨m3, m4, m6, m7, m8⟩ := end_len hE1
  refine T_bindE (impl_Send.ev 1 2 c2 c3 s g e6 w (c8 ++ t) 70 m3 m4 m6 m7 m8) (T_bindE (spec_Send.ev 1 2 c2 c3 s g e6 w (c8 ++ t) 70 m3 m4 m6 m7 m8) ?_)
  obtain ⟨n, q, s2, w2, pk, es, hE2, hpk, hpl, hmore⟩ := send_ok hE1 (now := 70) (by omega)
  rw [es]
  dsimp only
  obtain ⟨k3, k4, k6, k7, k8⟩ := end_len hE2
  refine T_false (by simp) (T_bindE (laws_samePackets.ev pk (by omega) fun p hp => by have := (hpk p hp).2.2.2.2.1; omega) (T_false rfl (T_bind (impl_ChanOk.ev 1 2 c2 c3 c4 c5 c6 c7 c8 l3 l4 l6 l7 l8) fun r1 hr1 => ?_)))
  rw [hr1.2 hE.1]
  refine T_false rfl (T_bind (impl_ChanOk.ev 1 2 c2 c3 s g e6 w (c8 ++ t) m3 m4 m6 m7 m8) fun r2 hr2 => ?_)
  rw [hr2.2 hE1.1]
  refine T_false rfl (T_bind (impl_ChanOk.ev 1 2 n q s2 g e6 w2 (c8 ++ t) k3 k4 k6 k7 k8) fun r3 hr3 => ?_)
  rw [hr3.2 hE2.1]
  refine T_false rfl (T_bindE (laws_beginning.ev c8 t l8) (T_false rfl ?_))
  have h0 := T_loop (F := F0) (fun k j i => laws_FnEnds.l0 k j ((i : Int), l, 1, 2, c2, c5, 1, 2, n, g, c3, c4, c6, c7, c8, q, s2, e6, w2, c8 ++ t, pk)) pk.length (fun _ r => r = true) (fun i hi he => by
    dsimp only [laws_FnEnds.l0, laws_FnEnds.s0]
    simp only [Int.toNat_natCast]
    rw [wrs hi (by omega)]
    have hg := hpk _ (List.getElem_mem hi)
    have hp := pkg_pack (by omega) (by omega) hg
    refine T_pos (by omega) (T_get hi (T_bind (T_call (spec_PacketOk.ev _ _ _ _ _ _ _ (by have := hg.2.2.2.2.1; omega)) Prod.fst (fun _ _ h => h.1)) fun r hr => ?_))
    rw [hr.2 hp]
    exact T_false rfl (T_get hi (T_bne (fun e => absurd hg.1 e) fun _ => T_get hi (T_bne (fun e => absurd hg.2.1 e) fun _ => he)))) (by
    dsimp only [laws_FnEnds.l0, laws_FnEnds.s0]
    refine T_neg (by omega) (T_bindE (T_call (impl_Send.ev 1 2 n q s2 g e6 w2 (c8 ++ t) 70 k3 k4 k6 k7 k8) Prod.fst (fun _ _ h => h.1)) (T_bindE (T_call (impl_Push.ev 1 2 n q s2 g e6 w2 (c8 ++ t) _ k3 k4 k6 k7 k8) Prod.fst (fun _ _ h => h.1)) ?_))
    obtain ⟨q3, b, ep, hE3, hb⟩ := push_ok hE2 (⟨#[111, 110, 101]⟩ : ByteArray)
    rw [ep, hmore]
    dsimp only
    obtain ⟨j3, j4, j6, j7, j8⟩ := end_len hE3
    refine T_true (by simp) ?_
    have fin : Tells (FS F0) (fun x : Nat × Nat => (impl_ChanOk.f x.1 1 2 n q3 s2 g e6 w2 (c8 ++ t)).bind fun r => some r) (fun r => r = true) := T_bind (T_call (impl_ChanOk.ev 1 2 n q3 s2 g e6 w2 (c8 ++ t) j3 j4 j6 j7 j8) Prod.fst (fun _ _ h => h.1)) fun r hr => T_ret (hr.2 hE3.1)
    cases b with
    | false => exact T_true rfl fin
    | true =>
      have hb := hb rfl
      rw [wr64 (by omega) (by omega)]
      exact T_false rfl (T_true (by rw [hb]; simp) fin)) 0 (Nat.zero_le _)
  exact T_in (g := fun x j => laws_FnEnds.l0 x j _) (by simpa using h0) (fun k => k) (fun _ _ h => h)

end Go.Proofs.Ytpheniajdbbphaa.DI.Pure
