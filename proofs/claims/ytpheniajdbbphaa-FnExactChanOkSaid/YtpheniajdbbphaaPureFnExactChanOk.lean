/- FnExactChanOk, the plain part: from some fuel on the law answers true. -/
import Derived.Test.YtpheniajdbbphaaGoalFnExactChanOk
import Derived.Test.YtpheniajdbbphaaKITD
namespace Go.Proofs.Ytpheniajdbbphaa.DI.Pure
open Go Go.RowKit
set_option linter.unusedVariables false
abbrev Pend := Int × ByteArray × Int × Int
abbrev Earl := Int × ByteArray
/-! The laws' helpers. -/
theorem laws_toStringS.ev (l : List ByteArray) (hn : l.length ≤ 1048576) : Tells F0 (fun k => laws_toStringS.f k l) (· = l) := by
  have h := T_loop (F := F0) (fun k j i => laws_toStringS.l0 k j ((i : Int), l, l.take i ++ List.replicate (l.length - i) ByteArray.empty)) l.length (fun _ r => r = l) (fun i hi he => by
    dsimp only [laws_toStringS.l0, laws_toStringS.s0]
    refine T_pos (by omega) (T_at hi (T_at (by simp; omega) ?_))
    rw [wrs hi (by omega), Int.toNat_natCast, set_copy l _ i hi]
    exact he) (by
    dsimp only [laws_toStringS.l0, laws_toStringS.s0]
    exact T_neg (by omega) (T_ret (by simp))) 0 (Nat.zero_le _)
  unfold laws_toStringS.f
  refine T_and (by omega) (by omega) (T_in (g := fun x j => laws_toStringS.l0 x j _) ?_ (fun k => k) (fun _ _ h => h))
  simpa using h
theorem laws_toIntS.ev (l : List Int) (hn : l.length ≤ 1048576) : Tells F0 (fun k => laws_toIntS.f k l) (· = l) := by
  have h := T_loop (F := F0) (fun k j i => laws_toIntS.l0 k j ((i : Int), l, l.take i ++ List.replicate (l.length - i) (0 : Int))) l.length (fun _ r => r = l) (fun i hi he => by
    dsimp only [laws_toIntS.l0, laws_toIntS.s0]
    refine T_pos (by omega) (T_at hi (T_at (by simp; omega) ?_))
    rw [wrs hi (by omega), Int.toNat_natCast, set_copy l _ i hi]
    exact he) (by
    dsimp only [laws_toIntS.l0, laws_toIntS.s0]
    exact T_neg (by omega) (T_ret (by simp))) 0 (Nat.zero_le _)
  unfold laws_toIntS.f
  refine T_and (by omega) (by omega) (T_in (g := fun x j => laws_toIntS.l0 x j _) ?_ (fun k => k) (fun _ _ h => h))
  simpa using h
theorem laws_toPendingS.ev (l : List Pend) (hn : l.length ≤ 1048576) : Tells F0 (fun k => laws_toPendingS.f k l) (· = l) := by
  have h := T_loop (F := F0) (fun k j i => laws_toPendingS.l0 k j ((i : Int), l, l.take i ++ List.replicate (l.length - i) ((0 : Int), ByteArray.empty, (0 : Int), (0 : Int)))) l.length (fun _ r => r = l) (fun i hi he => by
    dsimp only [laws_toPendingS.l0, laws_toPendingS.s0, laws_toPending.f, Option.bind_some]
    refine T_pos (by omega) (T_at hi (T_at (by simp; omega) ?_))
    rw [wrs hi (by omega), Int.toNat_natCast]
    have e := set_copy l ((0 : Int), ByteArray.empty, (0 : Int), (0 : Int)) i hi
    refine T_eq (fun x => congrArg (fun q => laws_toPendingS.l0 x.1 x.2 (((i + 1 : Nat) : Int), l, q)) e) he) (by
    dsimp only [laws_toPendingS.l0, laws_toPendingS.s0]
    exact T_neg (by omega) (T_ret (by simp))) 0 (Nat.zero_le _)
  unfold laws_toPendingS.f
  refine T_and (by omega) (by omega) (T_in (g := fun x j => laws_toPendingS.l0 x j _) ?_ (fun k => k) (fun _ _ h => h))
  simpa using h
theorem laws_toEarlyS.ev (l : List Earl) (hn : l.length ≤ 1048576) : Tells F0 (fun k => laws_toEarlyS.f k l) (· = l) := by
  have h := T_loop (F := F0) (fun k j i => laws_toEarlyS.l0 k j ((i : Int), l, l.take i ++ List.replicate (l.length - i) ((0 : Int), ByteArray.empty))) l.length (fun _ r => r = l) (fun i hi he => by
    dsimp only [laws_toEarlyS.l0, laws_toEarlyS.s0, laws_toEarly.f, Option.bind_some]
    refine T_pos (by omega) (T_at hi (T_at (by simp; omega) ?_))
    rw [wrs hi (by omega), Int.toNat_natCast]
    have e := set_copy l ((0 : Int), ByteArray.empty) i hi
    refine T_eq (fun x => congrArg (fun q => laws_toEarlyS.l0 x.1 x.2 (((i + 1 : Nat) : Int), l, q)) e) he) (by
    dsimp only [laws_toEarlyS.l0, laws_toEarlyS.s0]
    exact T_neg (by omega) (T_ret (by simp))) 0 (Nat.zero_le _)
  unfold laws_toEarlyS.f
  refine T_and (by omega) (by omega) (T_in (g := fun x j => laws_toEarlyS.l0 x j _) ?_ (fun k => k) (fun _ _ h => h))
  simpa using h
theorem laws_toChan.ev (c0 c1 c2 : Int) (c3 : List ByteArray) (c4 : List Pend) (c5 : Int) (c6 : List Earl) (c7 : List Int) (c8 : List ByteArray) (h3 : c3.length ≤ 1048576) (h4 : c4.length ≤ 1048576) (h6 : c6.length ≤ 1048576) (h7 : c7.length ≤ 1048576) (h8 : c8.length ≤ 1048576) :
    Tells F0 (fun k => laws_toChan.f k c0 c1 c2 c3 c4 c5 c6 c7 c8) (· = (c0, c1, c2, c3, c4, c5, c6, c7, c8)) := by
  unfold laws_toChan.f
  refine T_bind (laws_toStringS.ev _ h3) ?_
  rintro _ rfl
  refine T_bind (laws_toPendingS.ev _ h4) ?_
  rintro _ rfl
  refine T_bind (laws_toEarlyS.ev _ h6) ?_
  rintro _ rfl
  refine T_bind (laws_toIntS.ev _ h7) ?_
  rintro _ rfl
  refine T_bind (laws_toStringS.ev _ h8) ?_
  rintro _ rfl
  exact T_ret rfl
theorem laws_eqStringS.ev (l : List ByteArray) (hn : l.length ≤ 1048576) : Tells F0 (fun k => laws_eqStringS.f k l l) (· = true) := by
  have h := T_loop (F := F0) (fun k j i => laws_eqStringS.l0 k j ((i : Int), l, l)) l.length (fun _ r => r = true) (fun i hi he => by
    dsimp only [laws_eqStringS.l0, laws_eqStringS.s0]
    refine T_pos (by omega) (T_at hi (T_at hi (T_same (by simp) ?_)))
    rw [wrs hi (by omega)]
    exact he) (by
    dsimp only [laws_eqStringS.l0, laws_eqStringS.s0]
    exact T_neg (by omega) (T_ret rfl)) 0 (Nat.zero_le _)
  unfold laws_eqStringS.f
  exact T_same (by simp) (T_in (g := fun x j => laws_eqStringS.l0 x j _) h (fun k => k) (fun _ _ h => h))
theorem laws_eqIntS.ev (l : List Int) (hn : l.length ≤ 1048576) : Tells F0 (fun k => laws_eqIntS.f k l l) (· = true) := by
  have h := T_loop (F := F0) (fun k j i => laws_eqIntS.l0 k j ((i : Int), l, l)) l.length (fun _ r => r = true) (fun i hi he => by
    dsimp only [laws_eqIntS.l0, laws_eqIntS.s0]
    refine T_pos (by omega) (T_at hi (T_at hi (T_same (by simp) ?_)))
    rw [wrs hi (by omega)]
    exact he) (by
    dsimp only [laws_eqIntS.l0, laws_eqIntS.s0]
    exact T_neg (by omega) (T_ret rfl)) 0 (Nat.zero_le _)
  unfold laws_eqIntS.f
  exact T_same (by simp) (T_in (g := fun x j => laws_eqIntS.l0 x j _) h (fun k => k) (fun _ _ h => h))
theorem laws_eqPendingS.ev (l : List Pend) (hn : l.length ≤ 1048576) : Tells F0 (fun k => laws_eqPendingS.f k l l) (· = true) := by
  have h := T_loop (F := F0) (fun k j i => laws_eqPendingS.l0 k j ((i : Int), l, l)) l.length (fun _ r => r = true) (fun i hi he => by
    dsimp only [laws_eqPendingS.l0, laws_eqPendingS.s0]
    refine T_pos (by omega) (T_at hi (T_at hi ?_))
    have e : ∀ k, laws_eqPending.f k l[i].1 l[i].2.1 l[i].2.2.1 l[i].2.2.2 l[i].1 l[i].2.1 l[i].2.2.1 l[i].2.2.2 = some true := fun k => by simp [laws_eqPending.f]
    simp only [e, Option.bind_some]
    refine T_same rfl ?_
    rw [wrs hi (by omega)]
    exact he) (by
    dsimp only [laws_eqPendingS.l0, laws_eqPendingS.s0]
    exact T_neg (by omega) (T_ret rfl)) 0 (Nat.zero_le _)
  unfold laws_eqPendingS.f
  exact T_same (by simp) (T_in (g := fun x j => laws_eqPendingS.l0 x j _) h (fun k => k) (fun _ _ h => h))
theorem laws_eqEarlyS.ev (l : List Earl) (hn : l.length ≤ 1048576) : Tells F0 (fun k => laws_eqEarlyS.f k l l) (· = true) := by
  have h := T_loop (F := F0) (fun k j i => laws_eqEarlyS.l0 k j ((i : Int), l, l)) l.length (fun _ r => r = true) (fun i hi he => by
    dsimp only [laws_eqEarlyS.l0, laws_eqEarlyS.s0]
    refine T_pos (by omega) (T_at hi (T_at hi ?_))
    have e : ∀ k, laws_eqEarly.f k l[i].1 l[i].2 l[i].1 l[i].2 = some true := fun k => by simp [laws_eqEarly.f]
    simp only [e, Option.bind_some]
    refine T_same rfl ?_
    rw [wrs hi (by omega)]
    exact he) (by
    dsimp only [laws_eqEarlyS.l0, laws_eqEarlyS.s0]
    exact T_neg (by omega) (T_ret rfl)) 0 (Nat.zero_le _)
  unfold laws_eqEarlyS.f
  exact T_same (by simp) (T_in (g := fun x j => laws_eqEarlyS.l0 x j _) h (fun k => k) (fun _ _ h => h))
theorem laws_eqChan.ev (c0 c1 c2 : Int) (c3 : List ByteArray) (c4 : List Pend) (c5 : Int) (c6 : List Earl) (c7 : List Int) (c8 : List ByteArray) (h3 : c3.length ≤ 1048576) (h4 : c4.length ≤ 1048576) (h6 : c6.length ≤ 1048576) (h7 : c7.length ≤ 1048576) (h8 : c8.length ≤ 1048576) :
    Tells F0 (fun k => laws_eqChan.f k c0 c1 c2 c3 c4 c5 c6 c7 c8 c0 c1 c2 c3 c4 c5 c6 c7 c8) (· = true) := by
  unfold laws_eqChan.f
  refine T_same (by simp) (T_same (by simp) (T_same (by simp) (T_bind (laws_eqStringS.ev _ h3) ?_)))
  rintro _ rfl
  refine T_same rfl (T_bind (laws_eqPendingS.ev _ h4) ?_)
  rintro _ rfl
  refine T_same rfl (T_same (by simp) (T_bind (laws_eqEarlyS.ev _ h6) ?_))
  rintro _ rfl
  refine T_same rfl (T_bind (laws_eqIntS.ev _ h7) ?_)
  rintro _ rfl
  refine T_same rfl (T_bind (laws_eqStringS.ev _ h8) ?_)
  rintro _ rfl
  exact T_same rfl (T_ret rfl)
/-! Sizes. -/
theorem laws_szStringS.ev (l : List ByteArray) (a : Int) (h0 : 0 ≤ a) (h1 : a ≤ 1048576) (hl : l.length ≤ maxLen) (hs : ∀ x ∈ l, ByteArray.size x ≤ 140737488351232) : Tells F0 (fun k => laws_szStringS.f k l a) (fun v => v < 0 ∨ (0 ≤ v ∧ v ≤ a ∧ v + l.length ≤ a)) := by
  unfold maxLen at hl
  unfold laws_szStringS.f
  rw [wr64 (x := a - (l.length : Int)) (by omega) (by omega)]
  refine T_dec (fun _ => T_ret (.inl (by omega))) (fun h => ?_)
  have key := T_loops (F := F0) (fun k j (v : Int) i => laws_szStringS.l0 k j (v, (i : Int), l)) l.length (fun _ v => 0 ≤ v ∧ v ≤ a - l.length) (fun _ _ r => r < 0 ∨ (0 ≤ r ∧ r ≤ a ∧ r + l.length ≤ a)) (fun i v hi hv he => by
    dsimp only [laws_szStringS.l0, laws_szStringS.s0]
    refine T_pos (by omega) (T_at hi ?_)
    have hx := hs _ (List.getElem_mem hi)
    rw [wrs hi (by omega), wr64 (x := v - ((l[i]).size : Int)) (by omega) (by omega)]
    exact T_dec (fun _ => T_ret (.inl (by omega))) (fun h => he _ ⟨by omega, by omega⟩)) (fun v hv => by
    dsimp only [laws_szStringS.l0, laws_szStringS.s0]
    exact T_neg (by omega) (T_ret (.inr ⟨hv.1, by omega, by omega⟩))) 0 (a - l.length) (Nat.zero_le _) ⟨by omega, by omega⟩
  exact T_in (g := fun x j => laws_szStringS.l0 x j _) key (fun k => k) (fun _ _ h => h)
theorem laws_szPendingS.ev (l : List Pend) (a : Int) (h0 : 0 ≤ a) (h1 : a ≤ 1048576) (hl : l.length ≤ maxLen) (hs : ∀ x ∈ l, ByteArray.size x.2.1 ≤ 140737488351232) : Tells F0 (fun k => laws_szPendingS.f k l a) (fun v => v < 0 ∨ (0 ≤ v ∧ v ≤ a ∧ v + l.length ≤ a)) := by
  unfold maxLen at hl
  unfold laws_szPendingS.f
  rw [wr64 (x := a - (l.length : Int)) (by omega) (by omega)]
  refine T_dec (fun _ => T_ret (.inl (by omega))) (fun h => ?_)
  have key := T_loops (F := F0) (fun k j (v : Int) i => laws_szPendingS.l0 k j (v, (i : Int), l)) l.length (fun _ v => 0 ≤ v ∧ v ≤ a - l.length) (fun _ _ r => r < 0 ∨ (0 ≤ r ∧ r ≤ a ∧ r + l.length ≤ a)) (fun i v hi hv he => by
    dsimp only [laws_szPendingS.l0, laws_szPendingS.s0]
    refine T_pos (by omega) (T_at hi ?_)
    have hx := hs _ (List.getElem_mem hi)
    rw [wrs hi (by omega)]
    unfold laws_szPending.f
    rw [wr64 (x := v - ((l[i]).2.1.size : Int)) (by omega) (by omega)]
    by_cases hc : v - ((l[i]).2.1.size : Int) < 0
    · simp only [hc, decide_true, cond_true, Option.bind_some]
      exact T_pos (by omega) (T_ret (.inl (by omega)))
    · simp only [hc, decide_false, cond_false, Option.bind_some]
      exact he _ ⟨by omega, by omega⟩) (fun v hv => by
    dsimp only [laws_szPendingS.l0, laws_szPendingS.s0]
    exact T_neg (by omega) (T_ret (.inr ⟨hv.1, by omega, by omega⟩))) 0 (a - l.length) (Nat.zero_le _) ⟨by omega, by omega⟩
  exact T_in (g := fun x j => laws_szPendingS.l0 x j _) key (fun k => k) (fun _ _ h => h)
theorem laws_szEarlyS.ev (l : List Earl) (a : Int) (h0 : 0 ≤ a) (h1 : a ≤ 1048576) (hl : l.length ≤ maxLen) (hs : ∀ x ∈ l, ByteArray.size x.2 ≤ 140737488351232) : Tells F0 (fun k => laws_szEarlyS.f k l a) (fun v => v < 0 ∨ (0 ≤ v ∧ v ≤ a ∧ v + l.length ≤ a)) := by
  unfold maxLen at hl
  unfold laws_szEarlyS.f
  rw [wr64 (x := a - (l.length : Int)) (by omega) (by omega)]
  refine T_dec (fun _ => T_ret (.inl (by omega))) (fun h => ?_)
  have key := T_loops (F := F0) (fun k j (v : Int) i => laws_szEarlyS.l0 k j (v, (i : Int), l)) l.length (fun _ v => 0 ≤ v ∧ v ≤ a - l.length) (fun _ _ r => r < 0 ∨ (0 ≤ r ∧ r ≤ a ∧ r + l.length ≤ a)) (fun i v hi hv he => by
    dsimp only [laws_szEarlyS.l0, laws_szEarlyS.s0]
    refine T_pos (by omega) (T_at hi ?_)
    have hx := hs _ (List.getElem_mem hi)
    rw [wrs hi (by omega)]
    unfold laws_szEarly.f
    rw [wr64 (x := v - ((l[i]).2.size : Int)) (by omega) (by omega)]
    by_cases hc : v - ((l[i]).2.size : Int) < 0
    · simp only [hc, decide_true, cond_true, Option.bind_some]
      exact T_pos (by omega) (T_ret (.inl (by omega)))
    · simp only [hc, decide_false, cond_false, Option.bind_some]
      exact he _ ⟨by omega, by omega⟩) (fun v hv => by
    dsimp only [laws_szEarlyS.l0, laws_szEarlyS.s0]
    exact T_neg (by omega) (T_ret (.inr ⟨hv.1, by omega, by omega⟩))) 0 (a - l.length) (Nat.zero_le _) ⟨by omega, by omega⟩
  exact T_in (g := fun x j => laws_szEarlyS.l0 x j _) key (fun k => k) (fun _ _ h => h)
theorem laws_szIntS.ev (l : List Int) (a : Int) (h0 : 0 ≤ a) (h1 : a ≤ 1048576) (hl : l.length ≤ maxLen) : Tells F0 (fun k => laws_szIntS.f k l a) (fun v => v < 0 ∨ (0 ≤ v ∧ v ≤ a ∧ v + l.length ≤ a)) := by
  unfold maxLen at hl
  unfold laws_szIntS.f
  rw [wr64 (x := a - (l.length : Int)) (by omega) (by omega)]
  exact T_dec (fun _ => T_ret (.inl (by omega))) (fun h => T_ret (.inr ⟨by omega, by omega, by omega⟩))
theorem laws_szChan.ev (c0 c1 c2 : Int) (c3 : List ByteArray) (c4 : List Pend) (c5 : Int) (c6 : List Earl) (c7 : List Int) (c8 : List ByteArray) (h3 : c3.length ≤ maxLen) (h3e : ∀ x ∈ c3, ByteArray.size x ≤ 140737488351232) (h4 : c4.length ≤ maxLen) (h4e : ∀ x ∈ c4, ByteArray.size x.2.1 ≤ 140737488351232)
    (h6 : c6.length ≤ maxLen) (h6e : ∀ x ∈ c6, ByteArray.size x.2 ≤ 140737488351232) (h7 : c7.length ≤ maxLen) (h8 : c8.length ≤ maxLen) (h8e : ∀ x ∈ c8, ByteArray.size x ≤ 140737488351232) :
    Tells F0 (fun k => laws_szChan.f k c0 c1 c2 c3 c4 c5 c6 c7 c8 1048576) (fun v => v < 0 ∨ (c3.length ≤ 1048576 ∧ c4.length ≤ 1048576 ∧ c6.length ≤ 1048576 ∧ c7.length ≤ 1048576 ∧ c8.length ≤ 1048576)) := by
  unfold laws_szChan.f
  refine T_bind (laws_szStringS.ev c3 _ (by omega) (by omega) h3 h3e) fun v1 q1 => T_dec (fun h => T_ret (.inl (by omega))) fun g1 => ?_
  refine T_bind (laws_szPendingS.ev c4 _ (by omega) (by omega) h4 h4e) fun v2 q2 => T_dec (fun h => T_ret (.inl (by omega))) fun g2 => ?_
  refine T_bind (laws_szEarlyS.ev c6 _ (by omega) (by omega) h6 h6e) fun v3 q3 => T_dec (fun h => T_ret (.inl (by omega))) fun g3 => ?_
  refine T_bind (laws_szIntS.ev c7 _ (by omega) (by omega) h7) fun v4 q4 => T_dec (fun h => T_ret (.inl (by omega))) fun g4 => ?_
  refine T_bind (laws_szStringS.ev c8 _ (by omega) (by omega) h8 h8e) fun v5 q5 => T_dec (fun h => T_ret (.inl (by omega))) fun g5 => ?_
  exact T_ret (.inr ⟨by omega, by omega, by omega, by omega, by omega⟩)
/-! The reference. -/
theorem in_eq (k : Nat) (n a b : Int) : spec_l01In.f k n a b = some (decide (a ≤ n ∧ n ≤ b)) := by
  unfold spec_l01In.f
  by_cases h : n ≥ a <;> by_cases h' : n ≤ b <;> simp [h, h'] <;> omega
theorem within_eq (k : Nat) (n a b : Int) : impl_within.f k n a b = some (decide (a ≤ n ∧ n ≤ b)) := by
  unfold impl_within.f
  by_cases h : n ≥ a <;> by_cases h' : n ≤ b <;> simp [h, h'] <;> omega
theorem isId_eq (k : Nat) (n : Int) : impl_isId.f k n = some (decide (1 ≤ n ∧ n ≤ 99)) := by
  unfold impl_isId.f
  rw [within_eq]
  rfl
def TextC (l : List ByteArray) (j : Nat) : Prop := ∀ h : j < l.length, (l[j]).size ≤ 120
def TextsP (l : List ByteArray) : Prop := ∀ j, j < l.length → TextC l j
def SentC (q : Int) (l : List Pend) (i : Nat) : Prop := ∀ h : i < l.length, (1 ≤ (l[i]).1 ∧ (l[i]).1 ≤ q) ∧ (0 < i → (l[i - 1]).1 < (l[i]).1) ∧ (0 ≤ (l[i]).2.2.1 ∧ (l[i]).2.2.1 ≤ 1000000000) ∧ (1 ≤ (l[i]).2.2.2 ∧ (l[i]).2.2.2 ≤ 8) ∧ (l[i]).2.1.size ≤ 120
def EarlyC (a b : Int) (l : List Earl) (i : Nat) : Prop := ∀ h : i < l.length, (a ≤ (l[i]).1 ∧ (l[i]).1 ≤ b) ∧ (0 < i → (l[i - 1]).1 < (l[i]).1) ∧ (l[i]).2.size ≤ 120
def AckC (b : Int) (l : List Int) (i : Nat) : Prop := ∀ h : i < l.length, 1 ≤ l[i] ∧ l[i] ≤ b
def ChanP (c0 c1 c2 : Int) (c3 : List ByteArray) (c4 : List Pend) (c5 : Int) (c6 : List Earl) (c7 : List Int) (c8 : List ByteArray) : Prop :=
  ((1 ≤ c0 ∧ c0 ≤ 99) ∧ (1 ≤ c1 ∧ c1 ≤ 99) ∧ (0 ≤ c2 ∧ c2 ≤ 1000) ∧ c3.length ≤ 30 ∧ TextsP c3) ∧ ((∀ i, i < c4.length → SentC c2 c4 i) ∧ c4.length ≤ 4) ∧ ((0 ≤ c5 ∧ c5 ≤ 1000) ∧ (c8.length : Int) = c5 ∧ TextsP c8 ∧ c7.length ≤ 4) ∧ (∀ i, i < c6.length → EarlyC (c5 + 2) (c5 + 4) c6 i) ∧ ∀ i, i < c7.length → AckC (c5 + 4) c7 i
theorem spec_l13Texts.ev (l : List ByteArray) (hn : l.length ≤ 1048576) : Tells F0 (fun k => spec_l13Texts.f k l) (fun r => r = true ↔ TextsP l) := by
  have h := T_body (F := F0) (fun k j i => spec_l13Texts.l0 k j ((i : Int), l)) l.length (TextC l) True (fun i hi P go bad => by
    dsimp only [spec_l13Texts.l0, spec_l13Texts.s0]
    refine T_pos (by omega) (T_at hi (T_dec (fun h => T_ret (bad fun c => ?_)) fun h => ?_))
    · have := c hi
      omega
    · rw [wrs hi (by omega)]
      exact go fun _ => by omega) (by
    dsimp only [spec_l13Texts.l0, spec_l13Texts.s0]
    exact T_neg (by omega) (T_ret (by simp)))
  unfold spec_l13Texts.f
  exact T_in (g := fun x j => spec_l13Texts.l0 x j _) (T_mono h fun r hr => by rw [hr]; exact ⟨fun h => h.1, fun h => ⟨h, trivial⟩⟩) (fun k => k) (fun _ _ h => h)
theorem spec_l13Sent.ev (c0 c1 c2 : Int) (c3 : List ByteArray) (c4 : List Pend) (c5 : Int) (c6 : List Earl) (c7 : List Int) (c8 : List ByteArray) (h4 : c4.length ≤ 1048576) :
    Tells F0 (fun k => spec_l13Sent.f k c0 c1 c2 c3 c4 c5 c6 c7 c8) (fun r => r = true ↔ (∀ i, i < c4.length → SentC c2 c4 i) ∧ c4.length ≤ 4) := by
  have h := T_body (F := F0) (fun k j i => spec_l13Sent.l0 k j ((i : Int), c3, c4, c6, c7, c8, c0, c1, c2, c5)) c4.length (SentC c2 c4) (c4.length ≤ 4) (fun i hi P go bad => by
    dsimp only [spec_l13Sent.l0, spec_l13Sent.s0]
    simp only [in_eq, Option.bind_some]
    refine T_pos (by omega) (T_at hi (T_ndec (fun a1 => T_dec (fun a2 => T_pre (by omega) hi (by omega) (T_dec (fun a3 => T_ret (bad fun c => ?_)) fun a3 => ?_)) fun a2 => ?_) fun a1 => T_ret (bad fun c => a1 (c hi).1)))
    · have := (c hi).2.1 (by omega)
      omega
    · refine T_ndec (fun a4 => T_ndec (fun a5 => T_dec (fun a6 => T_ret (bad fun c => ?_)) fun a6 => ?_) fun a5 => T_ret (bad fun c => a5 (c hi).2.2.2.1)) fun a4 => T_ret (bad fun c => a4 (c hi).2.2.1)
      · have := (c hi).2.2.2.2
        omega
      · rw [wrs hi (by omega)]
        exact go fun _ => ⟨a1, fun _ => by omega, a4, a5, by omega⟩
    · refine T_ndec (fun a4 => T_ndec (fun a5 => T_dec (fun a6 => T_ret (bad fun c => ?_)) fun a6 => ?_) fun a5 => T_ret (bad fun c => a5 (c hi).2.2.2.1)) fun a4 => T_ret (bad fun c => a4 (c hi).2.2.1)
      · have := (c hi).2.2.2.2
        omega
      · rw [wrs hi (by omega)]
        exact go fun _ => ⟨a1, fun _ => by omega, a4, a5, by omega⟩) (by
    dsimp only [spec_l13Sent.l0, spec_l13Sent.s0]
    exact T_neg (by omega) (T_ret (by rw [decide_eq_true_eq]; omega)))
  unfold spec_l13Sent.f
  exact T_in (g := fun x j => spec_l13Sent.l0 x j _) h (fun k => k) (fun _ _ h => h)
theorem spec_ChanOk.ev (c0 c1 c2 : Int) (c3 : List ByteArray) (c4 : List Pend) (c5 : Int) (c6 : List Earl) (c7 : List Int) (c8 : List ByteArray) (h3 : c3.length ≤ 1048576) (h4 : c4.length ≤ 1048576) (h6 : c6.length ≤ 1048576) (h7 : c7.length ≤ 1048576) (h8 : c8.length ≤ 1048576) :
    Tells F0 (fun k => spec_ChanOk.f k c0 c1 c2 c3 c4 c5 c6 c7 c8) (fun r => r = true ↔ ChanP c0 c1 c2 c3 c4 c5 c6 c7 c8) := by
  have loop2 : (0 ≤ c5 ∧ c5 ≤ 1000) → Tells F0 (fun k => spec_ChanOk.l2 k k ((0 : Int), c3, c4, c6, c7, c8, c0, c1, c2, c5)) (fun r => r = true ↔ ∀ i, i < c7.length → AckC (c5 + 4) c7 i) := by
    intro hc
    have h := T_body (F := F0) (fun k j i => spec_ChanOk.l2 k j ((i : Int), c3, c4, c6, c7, c8, c0, c1, c2, c5)) c7.length (AckC (c5 + 4) c7) True (fun i hi P go bad => by
      dsimp only [spec_ChanOk.l2, spec_ChanOk.s2]
      simp only [in_eq, Option.bind_some]
      rw [wr64 (x := c5 + 4) (by omega) (by omega)]
      refine T_pos (by omega) (T_at hi (T_ndec (fun a1 => ?_) fun a1 => T_ret (bad fun c => a1 (c hi))))
      rw [wrs hi (by omega)]
      exact go fun _ => a1) (by
      dsimp only [spec_ChanOk.l2, spec_ChanOk.s2]
      exact T_neg (by omega) (T_ret (by simp)))
    exact T_in (g := fun x j => spec_ChanOk.l2 x j _) (T_mono h fun r hr => by rw [hr]; exact ⟨fun h => h.1, fun h => ⟨h, trivial⟩⟩) (fun k => k) (fun _ _ h => h)
  have loop0 : (0 ≤ c5 ∧ c5 ≤ 1000) → Tells F0 (fun k => spec_ChanOk.l0 k k ((0 : Int), c3, c4, c6, c7, c8, c0, c1, c2, c5)) (fun r => r = true ↔ (∀ i, i < c6.length → EarlyC (c5 + 2) (c5 + 4) c6 i) ∧ ∀ i, i < c7.length → AckC (c5 + 4) c7 i) := by
    intro hc
    have h := T_body (F := F0) (fun k j i => spec_ChanOk.l0 k j ((i : Int), c3, c4, c6, c7, c8, c0, c1, c2, c5)) c6.length (EarlyC (c5 + 2) (c5 + 4) c6) (∀ i, i < c7.length → AckC (c5 + 4) c7 i) (fun i hi P go bad => by
      dsimp only [spec_ChanOk.l0, spec_ChanOk.s0]
      simp only [in_eq, Option.bind_some]
      rw [wr64 (x := c5 + 4) (by omega) (by omega), wr64 (x := c5 + 2) (by omega) (by omega)]
      refine T_pos (by omega) (T_at hi (T_ndec (fun a1 => T_dec (fun a2 => T_pre (by omega) hi (by omega) (T_at hi (T_dec (fun a3 => T_ret (bad fun c => ?_)) fun a3 => T_at hi (T_dec (fun a4 => T_ret (bad fun c => ?_)) fun a4 => ?_)))) fun a2 => T_at hi (T_dec (fun a4 => T_ret (bad fun c => ?_)) fun a4 => ?_)) fun a1 => T_ret (bad fun c => a1 (c hi).1)))
      · have := (c hi).2.1 (by omega)
        omega
      · have := (c hi).2.2
        omega
      · rw [wrs hi (by omega)]
        exact go fun _ => ⟨a1, fun _ => by omega, by omega⟩
      · have := (c hi).2.2
        omega
      · rw [wrs hi (by omega)]
        exact go fun _ => ⟨a1, fun _ => by omega, by omega⟩) (by
      dsimp only [spec_ChanOk.l0, spec_ChanOk.s0]
      exact T_neg (by omega) (T_call (loop2 hc) Prod.fst (fun _ _ h => h.1)))
    exact T_in (g := fun x j => spec_ChanOk.l0 x j _) h (fun k => k) (fun _ _ h => h)
  unfold spec_ChanOk.f
  simp only [in_eq, Option.bind_some]
  refine T_ndec (fun a0 => T_ndec (fun a1 => T_ndec (fun a2 => T_dec (fun a3 => T_ret (no_iff fun c => ?_)) fun a3 => ?_) fun a2 => T_ret (no_iff fun c => a2 c.1.2.2.1)) fun a1 => T_ret (no_iff fun c => a1 c.1.2.1)) fun a0 => T_ret (no_iff fun c => a0 c.1.1)
  · have := c.1.2.2.2.1
    omega
  refine T_bind (spec_l13Texts.ev c3 h3) fun q hq => ?_
  cases q with
  | false => exact T_true rfl (T_ret (no_iff fun c => absurd (hq.2 c.1.2.2.2.2) (by simp)))
  | true =>
  refine T_same rfl (T_bind (spec_l13Sent.ev c0 c1 c2 c3 c4 c5 c6 c7 c8 h4) fun q2 hq2 => ?_)
  cases q2 with
  | false => exact T_true rfl (T_ret (no_iff fun c => absurd (hq2.2 c.2.1) (by simp)))
  | true =>
  refine T_same rfl (T_ndec (fun b2 => T_bne (fun b3 => T_ret (no_iff fun c => b3 c.2.2.1.2.1)) fun b3 => ?_) fun b2 => T_ret (no_iff fun c => b2 c.2.2.1.1))
  refine T_bind (spec_l13Texts.ev c8 h8) fun q3 hq3 => ?_
  cases q3 with
  | false => exact T_true rfl (T_ret (no_iff fun c => absurd (hq3.2 c.2.2.1.2.2.1) (by simp)))
  | true =>
  refine T_same rfl (T_dec (fun b5 => T_ret (no_iff fun c => ?_)) fun b5 => T_mono (loop0 b2) fun r hr => ?_)
  · have := c.2.2.1.2.2.2
    omega
  · rw [hr]
    exact ⟨fun c => ⟨⟨a0, a1, a2, by omega, hq.1 rfl⟩, hq2.1 rfl, ⟨b2, b3, hq3.1 rfl, by omega⟩, c⟩, fun c => c.2.2.2⟩
/-! The program. -/
theorem T_lift {ι α : Type} {F : Fu ι} {g : ι → Option α} {P : α → Prop} (h : Tells F g P) : Tells (FS F) (fun x => g x.1) P := by
  obtain ⟨r, hr, K, h⟩ := h
  exact ⟨r, hr, K, fun x hx => h _ hx.1⟩
theorem impl_textsOk.ev (a b : List ByteArray) (ha : a.length ≤ 1048576) (hb : b.length ≤ 1048576) : Tells F0 (fun k => impl_textsOk.f k [a, b]) (fun r => r = true ↔ TextsP a ∧ TextsP b) := by
  have hls : ∀ i (h : i < [a, b].length), ([a, b][i]).length ≤ 1048576 := by
    intro i h
    match i, h with
    | 0, _ => exact ha
    | 1, _ => exact hb
  generalize hl : [a, b] = ls at hls
  have h2 : ls.length = 2 := by rw [← hl]; rfl
  have h := T_loop (F := F0) (fun k j i => impl_textsOk.l0 k j ((2 : Int), (i : Int), ls)) 2 (fun i r => r = true ↔ ∀ m (h : m < ls.length), i ≤ m → TextsP ls[m]) (fun i hi he => by
    dsimp only [impl_textsOk.l0, impl_textsOk.s0]
    have hi' : i < ls.length := by omega
    refine T_pos (by omega) (T_at hi' (T_in (F := FS F0) (g := fun x m => impl_textsOk.l2 x.1 (impl_textsOk.l0 x.1 x.2) m _) ?_ Prod.fst (fun _ _ h => h.1)))
    have hn := hls i hi'
    refine T_mono (T_body (F := FS F0) (fun x m j => impl_textsOk.l2 x.1 (impl_textsOk.l0 x.1 x.2) m ((2 : Int), (i : Int), ((ls[i]).length : Int), (j : Int), ls, ls[i])) (ls[i]).length (TextC ls[i]) (∀ m (h : m < ls.length), i + 1 ≤ m → TextsP ls[m]) (fun j hj P go bad => ?_) ?_) fun r hr => ?_
    · dsimp only [impl_textsOk.l2, impl_textsOk.s2]
      refine T_pos (by omega) (T_at hj (T_dec (fun h => T_ret (bad fun c => ?_)) fun h => ?_))
      · have := c hj
        omega
      · rw [wrs hj (by omega)]
        exact go fun _ => by omega
    · dsimp only [impl_textsOk.l2, impl_textsOk.s2]
      refine T_neg (by omega) ?_
      rw [wrs hi (by omega)]
      exact T_lift he
    · rw [hr]
      constructor
      · rintro ⟨c1, c2⟩ m hm h
        by_cases e : m = i
        · subst e; exact c1
        · exact c2 m hm (by omega)
      · exact fun c => ⟨c i hi' (Nat.le_refl _), fun m hm h => c m hm (by omega)⟩) (by
    dsimp only [impl_textsOk.l0, impl_textsOk.s0]
    exact T_neg (by omega) (T_ret ⟨fun _ m hm h => absurd hm (by omega), fun _ => rfl⟩)) 0 (Nat.zero_le _)
  unfold impl_textsOk.f
  refine T_in (g := fun x j => impl_textsOk.l0 x j _) (T_mono (α := Bool) (P := fun r => r = true ↔ ∀ m (h : m < ls.length), 0 ≤ m → TextsP ls[m]) ?_ fun r hr => ?_) (fun k => k) (fun _ _ h => h)
  · have : (ls.length : Int) = 2 := by omega
    simpa [this] using h
  · rw [hr]
    subst hl
    exact ⟨fun c => ⟨c 0 (by simp) (by omega), c 1 (by simp) (by omega)⟩, fun c m hm _ => by
      match m, hm with
      | 0, _ => exact c.1
      | 1, _ => exact c.2⟩
theorem impl_ChanOk.ev (c0 c1 c2 : Int) (c3 : List ByteArray) (c4 : List Pend) (c5 : Int) (c6 : List Earl) (c7 : List Int) (c8 : List ByteArray) (h3 : c3.length ≤ 1048576) (h4 : c4.length ≤ 1048576) (h6 : c6.length ≤ 1048576) (h7 : c7.length ≤ 1048576) (h8 : c8.length ≤ 1048576) :
    Tells F0 (fun k => impl_ChanOk.f k c0 c1 c2 c3 c4 c5 c6 c7 c8) (fun r => r = true ↔ ChanP c0 c1 c2 c3 c4 c5 c6 c7 c8) := by
  generalize hw4 : IntKind.i64.wrap (c5 + 4) = w4
  generalize hw2 : IntKind.i64.wrap (c5 + 2) = w2
  have last : Tells F0 (fun k => impl_ChanOk.l4 k k ((c7.length : Int), (0 : Int), c3, c4, c6, c7, c8, c0, c1, c2, c5)) (fun r => r = true ↔ (∀ i, i < c7.length → AckC w4 c7 i) ∧ (((1 ≤ c0 ∧ c0 ≤ 99) ∧ (1 ≤ c1 ∧ c1 ≤ 99) ∧ (0 ≤ c2 ∧ c2 ≤ 1000) ∧ (0 ≤ c5 ∧ c5 ≤ 1000)) ∧ (c8.length : Int) = c5 ∧ c3.length ≤ 30 ∧ (TextsP c3 ∧ TextsP c8) ∧ c4.length ≤ 4 ∧ c7.length ≤ 4)) := by
    refine T_in (g := fun x j => impl_ChanOk.l4 x j _) (T_body (F := F0) (fun k j i => impl_ChanOk.l4 k j ((c7.length : Int), (i : Int), c3, c4, c6, c7, c8, c0, c1, c2, c5)) c7.length (AckC w4 c7) _ (fun i hi P go bad => ?_) ?_) (fun k => k) (fun _ _ h => h)
    · dsimp only [impl_ChanOk.l4, impl_ChanOk.s4]
      simp only [within_eq, Option.bind_some, hw4]
      refine T_pos (by omega) (T_at hi (T_ndec (fun a1 => ?_) fun a1 => T_ret (bad fun c => a1 (c hi))))
      rw [wrs hi (by omega)]
      exact go fun _ => a1
    · dsimp only [impl_ChanOk.l4, impl_ChanOk.s4]
      simp only [within_eq, isId_eq, Option.bind_some]
      refine T_neg (by omega) (T_dec (fun a0 => T_dec (fun a1 => T_dec (fun a2 => T_dec (fun a3 => T_beq (fun a4 => T_dec (fun a5 => ?_) fun a5 => T_ret (no_iff fun c => ?_)) fun a4 => T_ret (no_iff fun c => a4 c.2.1)) fun a3 => T_ret (no_iff fun c => a3 c.1.2.2.2)) fun a2 => T_ret (no_iff fun c => a2 c.1.2.2.1)) fun a1 => T_ret (no_iff fun c => a1 c.1.2.1)) fun a0 => T_ret (no_iff fun c => a0 c.1.1))
      · refine T_bind (T_call (impl_textsOk.ev c3 c8 h3 h8) Prod.fst (fun _ _ h => h.1)) fun q hq => ?_
        cases q with
        | false => exact T_false rfl (T_ret (no_iff fun c => absurd (hq.2 c.2.2.2.1) (by simp)))
        | true =>
        refine T_true rfl (T_dec (fun a7 => T_ret ?_) fun a7 => T_ret (no_iff fun c => ?_))
        · rw [decide_eq_true_eq]
          exact ⟨fun h => ⟨⟨a0, a1, a2, a3⟩, a4, by omega, hq.1 rfl, by omega, by omega⟩, fun h => by have := h.2.2.2.2.2; omega⟩
        · have := c.2.2.2.2.1
          omega
      · have := c.2.2.1
        omega
  have mid : Tells F0 (fun k => impl_ChanOk.l2 k k ((c6.length : Int), (0 : Int), c3, c4, c6, c7, c8, c0, c1, c2, c5)) (fun r => r = true ↔ (∀ i, i < c6.length → EarlyC w2 w4 c6 i) ∧ ((∀ i, i < c7.length → AckC w4 c7 i) ∧ (((1 ≤ c0 ∧ c0 ≤ 99) ∧ (1 ≤ c1 ∧ c1 ≤ 99) ∧ (0 ≤ c2 ∧ c2 ≤ 1000) ∧ (0 ≤ c5 ∧ c5 ≤ 1000)) ∧ (c8.length : Int) = c5 ∧ c3.length ≤ 30 ∧ (TextsP c3 ∧ TextsP c8) ∧ c4.length ≤ 4 ∧ c7.length ≤ 4))) := by
    refine T_in (g := fun x j => impl_ChanOk.l2 x j _) (T_body (F := F0) (fun k j i => impl_ChanOk.l2 k j ((c6.length : Int), (i : Int), c3, c4, c6, c7, c8, c0, c1, c2, c5)) c6.length (EarlyC w2 w4 c6) _ (fun i hi P go bad => ?_) ?_) (fun k => k) (fun _ _ h => h)
    · dsimp only [impl_ChanOk.l2, impl_ChanOk.s2]
      simp only [within_eq, Option.bind_some, hw4, hw2]
      refine T_pos (by omega) (T_at hi (T_dec (fun a2 => T_pre (by omega) hi (by omega) (T_dec (fun a3 => T_ret (bad fun c => ?_)) fun a3 => T_ndec (fun a1 => T_dec (fun a4 => T_ret (bad fun c => ?_)) fun a4 => ?_) fun a1 => T_ret (bad fun c => a1 (c hi).1))) fun a2 => T_ndec (fun a1 => T_dec (fun a4 => T_ret (bad fun c => ?_)) fun a4 => ?_) fun a1 => T_ret (bad fun c => a1 (c hi).1)))
      · have := (c hi).2.1 (by omega)
        omega
      · have := (c hi).2.2
        omega
      · rw [wrs hi (by omega)]
        exact go fun _ => ⟨a1, fun _ => by omega, by omega⟩
      · have := (c hi).2.2
        omega
      · rw [wrs hi (by omega)]
        exact go fun _ => ⟨a1, fun _ => by omega, by omega⟩
    · dsimp only [impl_ChanOk.l2, impl_ChanOk.s2]
      exact T_neg (by omega) (T_call last Prod.fst (fun _ _ h => h.1))
  have first := T_body (F := F0) (fun k j i => impl_ChanOk.l0 k j ((c4.length : Int), (i : Int), c3, c4, c6, c7, c8, c0, c1, c2, c5)) c4.length (SentC c2 c4) _ (fun i hi P go bad => by
    dsimp only [impl_ChanOk.l0, impl_ChanOk.s0]
    simp only [within_eq, Option.bind_some]
    refine T_pos (by omega) (T_at hi (T_dec (fun a2 => T_pre (by omega) hi (by omega) (T_dec (fun a3 => T_ret (bad fun c => ?_)) fun a3 => ?_)) fun a2 => ?_))
    · have := (c hi).2.1 (by omega)
      omega
    · refine T_ndec (fun a1 => T_ndec (fun a4 => T_ndec (fun a5 => T_dec (fun a6 => T_ret (bad fun c => ?_)) fun a6 => ?_) fun a5 => T_ret (bad fun c => a5 (c hi).2.2.2.1)) fun a4 => T_ret (bad fun c => a4 (c hi).2.2.1)) fun a1 => T_ret (bad fun c => a1 (c hi).1)
      · have := (c hi).2.2.2.2
        omega
      · rw [wrs hi (by omega)]
        exact go fun _ => ⟨a1, fun _ => by omega, a4, a5, by omega⟩
    · refine T_ndec (fun a1 => T_ndec (fun a4 => T_ndec (fun a5 => T_dec (fun a6 => T_ret (bad fun c => ?_)) fun a6 => ?_) fun a5 => T_ret (bad fun c => a5 (c hi).2.2.2.1)) fun a4 => T_ret (bad fun c => a4 (c hi).2.2.1)) fun a1 => T_ret (bad fun c => a1 (c hi).1)
      · have := (c hi).2.2.2.2
        omega
      · rw [wrs hi (by omega)]
        exact go fun _ => ⟨a1, fun _ => by omega, a4, a5, by omega⟩) (by
    dsimp only [impl_ChanOk.l0, impl_ChanOk.s0]
    exact T_neg (by omega) (T_call mid Prod.fst (fun _ _ h => h.1)))
  unfold impl_ChanOk.f
  refine T_in (g := fun x j => impl_ChanOk.l0 x j _) (T_mono first fun r hr => ?_) (fun k => k) (fun _ _ h => h)
  rw [hr]
  unfold ChanP
  by_cases hc : 0 ≤ c5 ∧ c5 ≤ 1000
  · rw [wr64 (x := c5 + 4) (by omega) (by omega)] at hw4
    rw [wr64 (x := c5 + 2) (by omega) (by omega)] at hw2
    subst hw4 hw2
    constructor
    · rintro ⟨a, b, c, ⟨d1, d2, d3, d4⟩, e, f, ⟨g1, g2⟩, h, i⟩
      exact ⟨⟨d1, d2, d3, f, g1⟩, ⟨a, h⟩, ⟨hc, e, g2, i⟩, b, c⟩
    · rintro ⟨⟨d1, d2, d3, f, g1⟩, ⟨a, h⟩, ⟨_, e, g2, i⟩, b, c⟩
      exact ⟨a, b, c, ⟨d1, d2, d3, hc⟩, e, f, ⟨g1, g2⟩, h, i⟩
  · constructor
    · rintro ⟨a, b, c, ⟨d1, d2, d3, d4⟩, _⟩
      exact absurd d4 hc
    · rintro ⟨_, _, ⟨d, _⟩, _⟩
      exact absurd d hc
/-! The law. -/
theorem FnExactChanOk : laws_FnExactChanOk.Goal := by
  rintro c0 c1 c2 c3 c4 c5 c6 c7 c8 _ _ _ ⟨h3, _, h3e⟩ ⟨h4, _, h4e⟩ _ ⟨h6, _, h6e⟩ ⟨h7, _, _⟩ ⟨h8, _, h8e⟩
  refine Tells.rounds ?_
  unfold laws_FnExactChanOk.f
  refine T_bind (laws_szChan.ev c0 c1 c2 c3 c4 c5 c6 c7 c8 h3 h3e h4 (fun y hy => (h4e y hy).2.1) h6 (fun y hy => (h6e y hy).2) h7 h8 h8e) fun v hv => T_dec (fun _ => T_ret rfl) (fun h => ?_)
  obtain ⟨n3, n4, n6, n7, n8⟩ := hv.resolve_left (by omega)
  refine T_bind (laws_toChan.ev c0 c1 c2 c3 c4 c5 c6 c7 c8 n3 n4 n6 n7 n8) ?_
  rintro _ rfl
  refine T_bind (spec_ChanOk.ev c0 c1 c2 c3 c4 c5 c6 c7 c8 n3 n4 n6 n7 n8) fun r1 hr1 => ?_
  refine T_bind (laws_toChan.ev c0 c1 c2 c3 c4 c5 c6 c7 c8 n3 n4 n6 n7 n8) ?_
  rintro _ rfl
  refine T_bind (impl_ChanOk.ev c0 c1 c2 c3 c4 c5 c6 c7 c8 n3 n4 n6 n7 n8) fun r2 hr2 => ?_
  obtain rfl := same_bool hr1 hr2
  refine T_same (by simp) (T_bind (laws_toChan.ev c0 c1 c2 c3 c4 c5 c6 c7 c8 n3 n4 n6 n7 n8) ?_)
  rintro _ rfl
  refine T_bind (laws_eqChan.ev c0 c1 c2 c3 c4 c5 c6 c7 c8 n3 n4 n6 n7 n8) ?_
  rintro _ rfl
  exact T_same rfl (T_ret rfl)
end Go.Proofs.Ytpheniajdbbphaa.DI.Pure
