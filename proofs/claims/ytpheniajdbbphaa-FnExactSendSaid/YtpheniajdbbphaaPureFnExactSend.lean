/- FnExactSend, the plain part: from some fuel on the law answers true. -/
import Derived.Test.YtpheniajdbbphaaGoalFnExactSend
import Derived.Test.YtpheniajdbbphaaKITE
namespace Go.Proofs.Ytpheniajdbbphaa.DI.Pure
open Go Go.RowKit
set_option linter.unusedVariables false
set_option linter.unusedSimpArgs false
theorem strn_size (l : List Int) : (strOfNums l).size = l.length := by simp [strOfNums, ByteArray.size]
theorem markText_l0 : ∀ (d : Nat) (n : Int) (b : ByteArray), 0 ≤ n → n ≤ 1000000000000000000 → n < 10 ^ d → b.size + d ≤ 1000 → ∃ r, Tells (FS F0) (fun x => laws_markText.l0 x.1 x.2 (n, b)) (· = r) := by
  intro d
  induction d with
  | zero =>
    intro n b h0 hx h1 hb
    have hn : n = 0 := by simp at h1; omega
    refine ⟨(⟨#[109]⟩ : ByteArray) ++ b, T_step (g := fun k j => laws_markText.l0 k j (n, b)) ?_⟩
    dsimp only [laws_markText.l0, laws_markText.s0]
    exact T_neg (by omega) (T_pos (by show 1 + b.size ≤ _; omega) (T_ret rfl))
  | succ d ih =>
    intro n b h0 hx h1 hb
    have h2 : (10 : Int) ^ (d + 1) = 10 ^ d * 10 := Int.pow_succ _ _
    by_cases hn : n > 0
    · have et : IntKind.i64.wrap (Int.tdiv n 10) = n / 10 := by rw [Int.tdiv_eq_ediv_of_nonneg h0]; exact wr64 (by omega) (by omega)
      have hs := fun x : Int => strn_size [x]
      obtain ⟨r, hr⟩ := ih (n / 10) (strOfNums [IntKind.u8.wrap (IntKind.i64.wrap (48 + Int.tmod n 10))] ++ b) (by omega) (by omega) (by omega) (by rw [ByteArray.size_append, hs]; simp; omega)
      refine ⟨r, T_step (g := fun k j => laws_markText.l0 k j (n, b)) ?_⟩
      dsimp only [laws_markText.l0, laws_markText.s0]
      rw [et]
      exact T_pos hn (T_pos (by rw [hs]; simp; omega) hr)
    · refine ⟨(⟨#[109]⟩ : ByteArray) ++ b, T_step (g := fun k j => laws_markText.l0 k j (n, b)) ?_⟩
      dsimp only [laws_markText.l0, laws_markText.s0]
      exact T_neg hn (T_pos (by show 1 + b.size ≤ _; omega) (T_ret rfl))
open Classical in
noncomputable def mtxt (n : Nat) : ByteArray := if h : ∃ r, Tells F0 (fun k => laws_markText.f k (n : Int)) (· = r) then h.choose else ⟨#[]⟩
theorem laws_markText.ev (n : Nat) (h1 : n ≤ 1000000000000000000) : Tells F0 (fun k => laws_markText.f k (n : Int)) (· = mtxt n) := by
  have h : ∃ r, Tells F0 (fun k => laws_markText.f k (n : Int)) (· = r) := by
    by_cases hn : (n : Int) ≤ 0
    · refine ⟨(⟨#[109, 48]⟩ : ByteArray), ?_⟩
      unfold laws_markText.f
      exact T_pos hn (T_ret rfl)
    · obtain ⟨r, hr⟩ := markText_l0 19 n ByteArray.empty (by omega) (by omega) (by omega) (by decide)
      refine ⟨r, ?_⟩
      unfold laws_markText.f
      exact T_neg hn (T_in (g := fun x j => laws_markText.l0 x j _) hr (fun k => k) (fun _ _ h => h))
  unfold mtxt
  rw [dif_pos h]
  exact h.choose_spec
theorem laws_szStringS.ev (l : List (ByteArray)) (a : Int) (h0 : 0 ≤ a) (h1 : a ≤ 1048576) (hl : l.length ≤ maxLen) (hs : ∀ x ∈ l, ByteArray.size x ≤ 140737488351232) : Tells F0 (fun k => laws_szStringS.f k l a) (fun v => v < 0 ∨ (0 ≤ v ∧ v ≤ a ∧ l.length ≤ 1048576 ∧ ∀ j (h : j < l.length), ByteArray.size (l[j]) ≤ 1048576)) := by
  unfold maxLen at hl
  unfold laws_szStringS.f
  rw [wr64 (x := a - (l.length : Int)) (by omega) (by omega)]
  refine T_dec (fun _ => T_ret (.inl (by omega))) (fun h => ?_)
  have key := T_loops (F := F0) (fun k j (v : Int) i => laws_szStringS.l0 k j (v, (i : Int), l)) l.length (fun i v => 0 ≤ v ∧ v ≤ a - l.length ∧ ∀ j (h : j < l.length), j < i → ByteArray.size (l[j]) ≤ 1048576) (fun _ _ r => r < 0 ∨ (0 ≤ r ∧ r ≤ a ∧ l.length ≤ 1048576 ∧ ∀ j (h : j < l.length), ByteArray.size (l[j]) ≤ 1048576)) (fun i v hi hv he => by
    dsimp only [laws_szStringS.l0, laws_szStringS.s0]
    refine T_pos (by omega) (T_at hi ?_)
    have hx := hs _ (List.getElem_mem hi)
    rw [wrs hi (by omega), wr64 (x := v - ((l[i]).size : Int)) (by omega) (by omega)]
    exact T_dec (fun _ => T_ret (.inl (by omega))) (fun h => he _ ⟨by omega, by omega, fun j hj hji => by
      by_cases e : j = i
      · subst e; omega
      · exact hv.2.2 j hj (by omega)⟩)) (fun v hv => by
    dsimp only [laws_szStringS.l0, laws_szStringS.s0]
    exact T_neg (by omega) (T_ret (.inr ⟨hv.1, by omega, by omega, fun j hj => hv.2.2 j hj hj⟩))) 0 (a - l.length) (Nat.zero_le _) ⟨by omega, by omega, fun j _ hj => absurd hj (by omega)⟩
  exact T_in (g := fun x j => laws_szStringS.l0 x j _) key (fun k => k) (fun _ _ h => h)
theorem laws_szPendingS.ev (l : List (Int × ByteArray × Int × Int)) (a : Int) (h0 : 0 ≤ a) (h1 : a ≤ 1048576) (hl : l.length ≤ maxLen) (hs : ∀ x ∈ l, ByteArray.size x.2.1 ≤ 140737488351232) : Tells F0 (fun k => laws_szPendingS.f k l a) (fun v => v < 0 ∨ (0 ≤ v ∧ v ≤ a ∧ l.length ≤ 1048576 ∧ ∀ j (h : j < l.length), ByteArray.size (l[j]).2.1 ≤ 1048576)) := by
  unfold maxLen at hl
  unfold laws_szPendingS.f
  rw [wr64 (x := a - (l.length : Int)) (by omega) (by omega)]
  refine T_dec (fun _ => T_ret (.inl (by omega))) (fun h => ?_)
  have key := T_loops (F := F0) (fun k j (v : Int) i => laws_szPendingS.l0 k j (v, (i : Int), l)) l.length (fun i v => 0 ≤ v ∧ v ≤ a - l.length ∧ ∀ j (h : j < l.length), j < i → ByteArray.size (l[j]).2.1 ≤ 1048576) (fun _ _ r => r < 0 ∨ (0 ≤ r ∧ r ≤ a ∧ l.length ≤ 1048576 ∧ ∀ j (h : j < l.length), ByteArray.size (l[j]).2.1 ≤ 1048576)) (fun i v hi hv he => by
    dsimp only [laws_szPendingS.l0, laws_szPendingS.s0]
    refine T_pos (by omega) (T_at hi ?_)
    have hx := hs _ (List.getElem_mem hi)
    rw [wrs hi (by omega)]
    unfold laws_szPending.f
    rw [wr64 (x := v - (((l[i]).2.1).size : Int)) (by omega) (by omega)]
    by_cases hc : v - (((l[i]).2.1).size : Int) < 0
    · simp only [hc, decide_true, cond_true, Option.bind_some]
      exact T_pos (by omega) (T_ret (.inl (by omega)))
    · simp only [hc, decide_false, cond_false, Option.bind_some]
      exact he _ ⟨by omega, by omega, fun j hj hji => by
        by_cases e : j = i
        · subst e; omega
        · exact hv.2.2 j hj (by omega)⟩) (fun v hv => by
    dsimp only [laws_szPendingS.l0, laws_szPendingS.s0]
    exact T_neg (by omega) (T_ret (.inr ⟨hv.1, by omega, by omega, fun j hj => hv.2.2 j hj hj⟩))) 0 (a - l.length) (Nat.zero_le _) ⟨by omega, by omega, fun j _ hj => absurd hj (by omega)⟩
  exact T_in (g := fun x j => laws_szPendingS.l0 x j _) key (fun k => k) (fun _ _ h => h)
theorem laws_szEarlyS.ev (l : List (Int × ByteArray)) (a : Int) (h0 : 0 ≤ a) (h1 : a ≤ 1048576) (hl : l.length ≤ maxLen) (hs : ∀ x ∈ l, ByteArray.size x.2 ≤ 140737488351232) : Tells F0 (fun k => laws_szEarlyS.f k l a) (fun v => v < 0 ∨ (0 ≤ v ∧ v ≤ a ∧ l.length ≤ 1048576 ∧ ∀ j (h : j < l.length), ByteArray.size (l[j]).2 ≤ 1048576)) := by
  unfold maxLen at hl
  unfold laws_szEarlyS.f
  rw [wr64 (x := a - (l.length : Int)) (by omega) (by omega)]
  refine T_dec (fun _ => T_ret (.inl (by omega))) (fun h => ?_)
  have key := T_loops (F := F0) (fun k j (v : Int) i => laws_szEarlyS.l0 k j (v, (i : Int), l)) l.length (fun i v => 0 ≤ v ∧ v ≤ a - l.length ∧ ∀ j (h : j < l.length), j < i → ByteArray.size (l[j]).2 ≤ 1048576) (fun _ _ r => r < 0 ∨ (0 ≤ r ∧ r ≤ a ∧ l.length ≤ 1048576 ∧ ∀ j (h : j < l.length), ByteArray.size (l[j]).2 ≤ 1048576)) (fun i v hi hv he => by
    dsimp only [laws_szEarlyS.l0, laws_szEarlyS.s0]
    refine T_pos (by omega) (T_at hi ?_)
    have hx := hs _ (List.getElem_mem hi)
    rw [wrs hi (by omega)]
    unfold laws_szEarly.f
    rw [wr64 (x := v - (((l[i]).2).size : Int)) (by omega) (by omega)]
    by_cases hc : v - (((l[i]).2).size : Int) < 0
    · simp only [hc, decide_true, cond_true, Option.bind_some]
      exact T_pos (by omega) (T_ret (.inl (by omega)))
    · simp only [hc, decide_false, cond_false, Option.bind_some]
      exact he _ ⟨by omega, by omega, fun j hj hji => by
        by_cases e : j = i
        · subst e; omega
        · exact hv.2.2 j hj (by omega)⟩) (fun v hv => by
    dsimp only [laws_szEarlyS.l0, laws_szEarlyS.s0]
    exact T_neg (by omega) (T_ret (.inr ⟨hv.1, by omega, by omega, fun j hj => hv.2.2 j hj hj⟩))) 0 (a - l.length) (Nat.zero_le _) ⟨by omega, by omega, fun j _ hj => absurd hj (by omega)⟩
  exact T_in (g := fun x j => laws_szEarlyS.l0 x j _) key (fun k => k) (fun _ _ h => h)
theorem laws_szIntS.ev (l : List (Int)) (a : Int) (h0 : 0 ≤ a) (h1 : a ≤ 1048576) (hl : l.length ≤ maxLen) : Tells F0 (fun k => laws_szIntS.f k l a) (fun v => v < 0 ∨ (0 ≤ v ∧ v ≤ a ∧ l.length ≤ 1048576)) := by
  unfold maxLen at hl
  unfold laws_szIntS.f
  rw [wr64 (x := a - (l.length : Int)) (by omega) (by omega)]
  exact T_dec (fun _ => T_ret (.inl (by omega))) (fun h => T_ret (.inr ⟨by omega, by omega, by omega⟩))
theorem laws_szChan.ev (c0 : Int) (c1 : Int) (c2 : Int) (c3 : List (ByteArray)) (c4 : List (Int × ByteArray × Int × Int)) (c5 : Int) (c6 : List (Int × ByteArray)) (c7 : List (Int)) (c8 : List (ByteArray)) (a : Int) (h3 : c3.length ≤ maxLen) (g3 : ∀ x ∈ c3, ByteArray.size x ≤ 140737488351232) (h4 : c4.length ≤ maxLen) (g4 : ∀ x ∈ c4, ByteArray.size x.2.1 ≤ 140737488351232) (h6 : c6.length ≤ maxLen) (g6 : ∀ x ∈ c6, ByteArray.size x.2 ≤ 140737488351232) (h7 : c7.length ≤ maxLen) (h8 : c8.length ≤ maxLen) (g8 : ∀ x ∈ c8, ByteArray.size x ≤ 140737488351232) (hA : 0 ≤ a) (hB : a ≤ 1048576) : Tells F0 (fun k => laws_szChan.f k c0 c1 c2 c3 c4 c5 c6 c7 c8 a) (fun v => v < 0 ∨ (0 ≤ v ∧ v ≤ a ∧ c3.length ≤ 1048576 ∧ (∀ j (h : j < c3.length), ByteArray.size (c3[j]) ≤ 1048576) ∧ c4.length ≤ 1048576 ∧ (∀ j (h : j < c4.length), ByteArray.size (c4[j]).2.1 ≤ 1048576) ∧ c6.length ≤ 1048576 ∧ (∀ j (h : j < c6.length), ByteArray.size (c6[j]).2 ≤ 1048576) ∧ c7.length ≤ 1048576 ∧ c8.length ≤ 1048576 ∧ (∀ j (h : j < c8.length), ByteArray.size (c8[j]) ≤ 1048576))) := by
  unfold laws_szChan.f
  refine T_bind (laws_szStringS.ev c3 _ (by omega) (by omega) h3 g3) fun v0 q0 => T_dec (fun h => T_ret (.inl (by omega))) fun e0 => ?_
  replace q0 := q0.resolve_left (by omega)
  refine T_bind (laws_szPendingS.ev c4 _ (by omega) (by omega) h4 g4) fun v1 q1 => T_dec (fun h => T_ret (.inl (by omega))) fun e1 => ?_
  replace q1 := q1.resolve_left (by omega)
  refine T_bind (laws_szEarlyS.ev c6 _ (by omega) (by omega) h6 g6) fun v2 q2 => T_dec (fun h => T_ret (.inl (by omega))) fun e2 => ?_
  replace q2 := q2.resolve_left (by omega)
  refine T_bind (laws_szIntS.ev c7 _ (by omega) (by omega) h7) fun v3 q3 => T_dec (fun h => T_ret (.inl (by omega))) fun e3 => ?_
  replace q3 := q3.resolve_left (by omega)
  refine T_bind (laws_szStringS.ev c8 _ (by omega) (by omega) h8 g8) fun v4 q4 => T_dec (fun h => T_ret (.inl (by omega))) fun e4 => ?_
  replace q4 := q4.resolve_left (by omega)
  exact T_ret (.inr ⟨by omega, by omega, by omega, q0.2.2.2, by omega, q1.2.2.2, by omega, q2.2.2.2, by omega, by omega, q4.2.2.2⟩)
theorem laws_toStringS.ev (l : List (ByteArray)) (hn : l.length ≤ 1048576) : Tells F0 (fun k => laws_toStringS.f k l) (· = l) := by
  have h := T_loop (F := F0) (fun k j i => laws_toStringS.l0 k j ((i : Int), l, l.take i ++ List.replicate (l.length - i) ByteArray.empty)) l.length (fun _ r => r = l) (fun i hi he => by
    dsimp only [laws_toStringS.l0, laws_toStringS.s0]
    simp only [Int.toNat_natCast, Option.bind_some]
    refine T_pos (by omega) (T_get hi (T_get (by simp; omega) ?_))
    rw [wrs hi (by omega)]
    have e := set_copy l ByteArray.empty i hi
    refine T_eq (fun x => congrArg (fun q => laws_toStringS.l0 x.1 x.2 (((i + 1 : Nat) : Int), l, q)) e) he) (by
    dsimp only [laws_toStringS.l0, laws_toStringS.s0]
    exact T_neg (by omega) (T_ret (by simp))) 0 (Nat.zero_le _)
  unfold laws_toStringS.f
  refine T_and (by omega) (by omega) (T_in (g := fun x j => laws_toStringS.l0 x j _) ?_ (fun k => k) (fun _ _ h => h))
  simpa using h
theorem laws_toPending.one (k : Nat) (c0 : Int) (c1 : ByteArray) (c2 : Int) (c3 : Int) : laws_toPending.f k c0 c1 c2 c3 = some (c0, c1, c2, c3) := rfl
theorem laws_toPendingS.ev (l : List (Int × ByteArray × Int × Int)) (hn : l.length ≤ 1048576) : Tells F0 (fun k => laws_toPendingS.f k l) (· = l) := by
  have h := T_loop (F := F0) (fun k j i => laws_toPendingS.l0 k j ((i : Int), l, l.take i ++ List.replicate (l.length - i) ((0 : Int), ByteArray.empty, (0 : Int), (0 : Int)))) l.length (fun _ r => r = l) (fun i hi he => by
    dsimp only [laws_toPendingS.l0, laws_toPendingS.s0]
    simp only [laws_toPending.one, Int.toNat_natCast, Option.bind_some]
    refine T_pos (by omega) (T_get hi (T_get (by simp; omega) ?_))
    rw [wrs hi (by omega)]
    have e := set_copy l ((0 : Int), ByteArray.empty, (0 : Int), (0 : Int)) i hi
    refine T_eq (fun x => congrArg (fun q => laws_toPendingS.l0 x.1 x.2 (((i + 1 : Nat) : Int), l, q)) e) he) (by
    dsimp only [laws_toPendingS.l0, laws_toPendingS.s0]
    exact T_neg (by omega) (T_ret (by simp))) 0 (Nat.zero_le _)
  unfold laws_toPendingS.f
  refine T_and (by omega) (by omega) (T_in (g := fun x j => laws_toPendingS.l0 x j _) ?_ (fun k => k) (fun _ _ h => h))
  simpa using h
theorem laws_toEarly.one (k : Nat) (c0 : Int) (c1 : ByteArray) : laws_toEarly.f k c0 c1 = some (c0, c1) := rfl
theorem laws_toEarlyS.ev (l : List (Int × ByteArray)) (hn : l.length ≤ 1048576) : Tells F0 (fun k => laws_toEarlyS.f k l) (· = l) := by
  have h := T_loop (F := F0) (fun k j i => laws_toEarlyS.l0 k j ((i : Int), l, l.take i ++ List.replicate (l.length - i) ((0 : Int), ByteArray.empty))) l.length (fun _ r => r = l) (fun i hi he => by
    dsimp only [laws_toEarlyS.l0, laws_toEarlyS.s0]
    simp only [laws_toEarly.one, Int.toNat_natCast, Option.bind_some]
    refine T_pos (by omega) (T_get hi (T_get (by simp; omega) ?_))
    rw [wrs hi (by omega)]
    have e := set_copy l ((0 : Int), ByteArray.empty) i hi
    refine T_eq (fun x => congrArg (fun q => laws_toEarlyS.l0 x.1 x.2 (((i + 1 : Nat) : Int), l, q)) e) he) (by
    dsimp only [laws_toEarlyS.l0, laws_toEarlyS.s0]
    exact T_neg (by omega) (T_ret (by simp))) 0 (Nat.zero_le _)
  unfold laws_toEarlyS.f
  refine T_and (by omega) (by omega) (T_in (g := fun x j => laws_toEarlyS.l0 x j _) ?_ (fun k => k) (fun _ _ h => h))
  simpa using h
theorem laws_toIntS.ev (l : List (Int)) (hn : l.length ≤ 1048576) : Tells F0 (fun k => laws_toIntS.f k l) (· = l) := by
  have h := T_loop (F := F0) (fun k j i => laws_toIntS.l0 k j ((i : Int), l, l.take i ++ List.replicate (l.length - i) (0 : Int))) l.length (fun _ r => r = l) (fun i hi he => by
    dsimp only [laws_toIntS.l0, laws_toIntS.s0]
    simp only [Int.toNat_natCast, Option.bind_some]
    refine T_pos (by omega) (T_get hi (T_get (by simp; omega) ?_))
    rw [wrs hi (by omega)]
    have e := set_copy l (0 : Int) i hi
    refine T_eq (fun x => congrArg (fun q => laws_toIntS.l0 x.1 x.2 (((i + 1 : Nat) : Int), l, q)) e) he) (by
    dsimp only [laws_toIntS.l0, laws_toIntS.s0]
    exact T_neg (by omega) (T_ret (by simp))) 0 (Nat.zero_le _)
  unfold laws_toIntS.f
  refine T_and (by omega) (by omega) (T_in (g := fun x j => laws_toIntS.l0 x j _) ?_ (fun k => k) (fun _ _ h => h))
  simpa using h
theorem laws_toChan.ev (c0 : Int) (c1 : Int) (c2 : Int) (c3 : List (ByteArray)) (c4 : List (Int × ByteArray × Int × Int)) (c5 : Int) (c6 : List (Int × ByteArray)) (c7 : List (Int)) (c8 : List (ByteArray)) (h3 : c3.length ≤ 1048576) (h4 : c4.length ≤ 1048576) (h6 : c6.length ≤ 1048576) (h7 : c7.length ≤ 1048576) (h8 : c8.length ≤ 1048576) : Tells F0 (fun k => laws_toChan.f k c0 c1 c2 c3 c4 c5 c6 c7 c8) (· = (c0, c1, c2, c3, c4, c5, c6, c7, c8)) := by
  unfold laws_toChan.f
  refine T_bindE (laws_toStringS.ev _ h3) ?_
  refine T_bindE (laws_toPendingS.ev _ h4) ?_
  refine T_bindE (laws_toEarlyS.ev _ h6) ?_
  refine T_bindE (laws_toIntS.ev _ h7) ?_
  refine T_bindE (laws_toStringS.ev _ h8) ?_
  exact T_ret rfl
theorem laws_eqStringS.ev (l : List (ByteArray)) (hn : l.length ≤ 1000000000000000000) : Tells F0 (fun k => laws_eqStringS.f k l l) (· = true) := by
  have h := T_loop (F := F0) (fun k j i => laws_eqStringS.l0 k j ((i : Int), l, l)) l.length (fun _ r => r = true) (fun i hi he => by
    dsimp only [laws_eqStringS.l0, laws_eqStringS.s0]
    simp only [Int.toNat_natCast]
    refine T_pos (by omega) (T_get hi (T_get hi ?_))
    refine T_same (by simp) ?_
    rw [wrs hi (by omega)]
    exact he) (by
    dsimp only [laws_eqStringS.l0, laws_eqStringS.s0]
    exact T_neg (by omega) (T_ret rfl)) 0 (Nat.zero_le _)
  unfold laws_eqStringS.f
  exact T_same (by simp) (T_in (g := fun x j => laws_eqStringS.l0 x j _) h (fun k => k) (fun _ _ h => h))
theorem laws_eqPending.refl (k : Nat) (c0 : Int) (c1 : ByteArray) (c2 : Int) (c3 : Int) : laws_eqPending.f k c0 c1 c2 c3 c0 c1 c2 c3 = some true := by simp [laws_eqPending.f]
theorem laws_eqPendingS.ev (l : List (Int × ByteArray × Int × Int)) (hn : l.length ≤ 1000000000000000000) : Tells F0 (fun k => laws_eqPendingS.f k l l) (· = true) := by
  have h := T_loop (F := F0) (fun k j i => laws_eqPendingS.l0 k j ((i : Int), l, l)) l.length (fun _ r => r = true) (fun i hi he => by
    dsimp only [laws_eqPendingS.l0, laws_eqPendingS.s0]
    simp only [Int.toNat_natCast]
    refine T_pos (by omega) (T_get hi (T_get hi ?_))
    simp only [laws_eqPending.refl, Option.bind_some]
    refine T_same rfl ?_
    rw [wrs hi (by omega)]
    exact he) (by
    dsimp only [laws_eqPendingS.l0, laws_eqPendingS.s0]
    exact T_neg (by omega) (T_ret rfl)) 0 (Nat.zero_le _)
  unfold laws_eqPendingS.f
  exact T_same (by simp) (T_in (g := fun x j => laws_eqPendingS.l0 x j _) h (fun k => k) (fun _ _ h => h))
theorem laws_eqEarly.refl (k : Nat) (c0 : Int) (c1 : ByteArray) : laws_eqEarly.f k c0 c1 c0 c1 = some true := by simp [laws_eqEarly.f]
theorem laws_eqEarlyS.ev (l : List (Int × ByteArray)) (hn : l.length ≤ 1000000000000000000) : Tells F0 (fun k => laws_eqEarlyS.f k l l) (· = true) := by
  have h := T_loop (F := F0) (fun k j i => laws_eqEarlyS.l0 k j ((i : Int), l, l)) l.length (fun _ r => r = true) (fun i hi he => by
    dsimp only [laws_eqEarlyS.l0, laws_eqEarlyS.s0]
    simp only [Int.toNat_natCast]
    refine T_pos (by omega) (T_get hi (T_get hi ?_))
    simp only [laws_eqEarly.refl, Option.bind_some]
    refine T_same rfl ?_
    rw [wrs hi (by omega)]
    exact he) (by
    dsimp only [laws_eqEarlyS.l0, laws_eqEarlyS.s0]
    exact T_neg (by omega) (T_ret rfl)) 0 (Nat.zero_le _)
  unfold laws_eqEarlyS.f
  exact T_same (by simp) (T_in (g := fun x j => laws_eqEarlyS.l0 x j _) h (fun k => k) (fun _ _ h => h))
theorem laws_eqIntS.ev (l : List (Int)) (hn : l.length ≤ 1000000000000000000) : Tells F0 (fun k => laws_eqIntS.f k l l) (· = true) := by
  have h := T_loop (F := F0) (fun k j i => laws_eqIntS.l0 k j ((i : Int), l, l)) l.length (fun _ r => r = true) (fun i hi he => by
    dsimp only [laws_eqIntS.l0, laws_eqIntS.s0]
    simp only [Int.toNat_natCast]
    refine T_pos (by omega) (T_get hi (T_get hi ?_))
    refine T_same (by simp) ?_
    rw [wrs hi (by omega)]
    exact he) (by
    dsimp only [laws_eqIntS.l0, laws_eqIntS.s0]
    exact T_neg (by omega) (T_ret rfl)) 0 (Nat.zero_le _)
  unfold laws_eqIntS.f
  exact T_same (by simp) (T_in (g := fun x j => laws_eqIntS.l0 x j _) h (fun k => k) (fun _ _ h => h))
theorem laws_eqChan.ev (c0 : Int) (c1 : Int) (c2 : Int) (c3 : List (ByteArray)) (c4 : List (Int × ByteArray × Int × Int)) (c5 : Int) (c6 : List (Int × ByteArray)) (c7 : List (Int)) (c8 : List (ByteArray)) (h3 : c3.length ≤ 1000000000000000000) (h4 : c4.length ≤ 1000000000000000000) (h6 : c6.length ≤ 1000000000000000000) (h7 : c7.length ≤ 1000000000000000000) (h8 : c8.length ≤ 1000000000000000000) : Tells F0 (fun k => laws_eqChan.f k c0 c1 c2 c3 c4 c5 c6 c7 c8 c0 c1 c2 c3 c4 c5 c6 c7 c8) (· = true) := by
  unfold laws_eqChan.f
  refine T_same (by simp) ?_
  refine T_same (by simp) ?_
  refine T_same (by simp) ?_
  refine T_bindE (laws_eqStringS.ev _ h3) ?_
  refine T_same rfl ?_
  refine T_bindE (laws_eqPendingS.ev _ h4) ?_
  refine T_same rfl ?_
  refine T_same (by simp) ?_
  refine T_bindE (laws_eqEarlyS.ev _ h6) ?_
  refine T_same rfl ?_
  refine T_bindE (laws_eqIntS.ev _ h7) ?_
  refine T_same rfl ?_
  refine T_bindE (laws_eqStringS.ev _ h8) ?_
  refine T_same rfl ?_
  exact T_ret rfl
theorem laws_eqPacket.ev (c0 : Int) (c1 : Int) (c2 : Int) (c3 : Int) (c4 : Int) (c5 : List (Int)) (c6 : ByteArray) (h5 : c5.length ≤ 1000000000000000000) : Tells F0 (fun k => laws_eqPacket.f k c0 c1 c2 c3 c4 c5 c6 c0 c1 c2 c3 c4 c5 c6) (· = true) := by
  unfold laws_eqPacket.f
  refine T_same (by simp) ?_
  refine T_same (by simp) ?_
  refine T_same (by simp) ?_
  refine T_same (by simp) ?_
  refine T_same (by simp) ?_
  refine T_bindE (laws_eqIntS.ev _ h5) ?_
  refine T_same rfl ?_
  refine T_same (by simp) ?_
  exact T_ret rfl
-- loop.example/g00193/laws.eqPacketS: rows in rows
noncomputable def mkd_String (n m : Nat) : List (ByteArray) := (List.range m).map fun i => (mtxt (n + 1 * i + 0))
theorem laws_markStringS.ev (l : List (ByteArray)) (n : Nat) (hb : n + 1 * l.length ≤ 1000000000000000000) : Tells F0 (fun k => laws_markStringS.f k l (n : Int)) (· = (((n + 1 * l.length : Nat) : Int), mkd_String n l.length)) := by
  have hM : (mkd_String n l.length).length = l.length := by simp [mkd_String]
  have h := T_loop (F := F0) (fun k j i => laws_markStringS.l0 k j (((n + 1 * i : Nat) : Int), (i : Int), (mkd_String n l.length).take i ++ l.drop i)) l.length (fun _ r => r = (((n + 1 * l.length : Nat) : Int), mkd_String n l.length)) (fun i hi he => by
    have hv : (mkd_String n l.length)[i]? = some (mtxt (n + 1 * i + 0)) := by simp [mkd_String, hi]
    have hs := mark_step (mkd_String n l.length) l i _ hM hi hv
    have hL : i < ((mkd_String n l.length).take i ++ l.drop i).length := by simp; omega
    have w0 : IntKind.i64.wrap (((n + 1 * i : Nat) : Int) + 1) = ((n + 1 * (i + 1) : Nat) : Int) := by rw [wr64 (by omega) (by omega)]; omega
    dsimp only [laws_markStringS.l0, laws_markStringS.s0]
    simp only [Int.toNat_natCast, w0, wrs hi (show l.length ≤ 9223372036854775807 by omega)]
    refine T_pos (by omega) ?_
    first | (refine T_bindE (T_call (laws_markText.ev (n + 1 * i) (by omega)) Prod.fst (fun _ _ h => h.1)) ?_; refine T_get hL ?_) | (refine T_get hL ?_; refine T_bindE (T_call (laws_markText.ev (n + 1 * i) (by omega)) Prod.fst (fun _ _ h => h.1)) ?_)
    refine T_eq (fun x => congrArg (fun q => laws_markStringS.l0 x.1 x.2 (((n + 1 * (i + 1) : Nat) : Int), ((i + 1 : Nat) : Int), q)) ?_) he
    try simp only [List.set_set]
    exact hs) (by
    dsimp only [laws_markStringS.l0, laws_markStringS.s0]
    refine T_neg (by simp; omega) (T_ret ?_)
    rw [List.take_of_length_le (by omega), List.drop_length, List.append_nil]) 0 (Nat.zero_le _)
  unfold laws_markStringS.f
  refine T_in (g := fun x j => laws_markStringS.l0 x j _) ?_ (fun k => k) (fun _ _ h => h)
  simpa using h
noncomputable def mkd_Pending (n m : Nat) : List (Int × ByteArray × Int × Int) := (List.range m).map fun i => (((n + 4 * i + 0 : Nat) : Int), (mtxt (n + 4 * i + 1)), ((n + 4 * i + 2 : Nat) : Int), ((n + 4 * i + 3 : Nat) : Int))
theorem laws_markPendingS.ev (l : List (Int × ByteArray × Int × Int)) (n : Nat) (hb : n + 4 * l.length ≤ 1000000000000000000) : Tells F0 (fun k => laws_markPendingS.f k l (n : Int)) (· = (((n + 4 * l.length : Nat) : Int), mkd_Pending n l.length)) := by
  have hM : (mkd_Pending n l.length).length = l.length := by simp [mkd_Pending]
  have h := T_loop (F := F0) (fun k j i => laws_markPendingS.l0 k j (((n + 4 * i : Nat) : Int), (i : Int), (mkd_Pending n l.length).take i ++ l.drop i)) l.length (fun _ r => r = (((n + 4 * l.length : Nat) : Int), mkd_Pending n l.length)) (fun i hi he => by
    have hv : (mkd_Pending n l.length)[i]? = some (((n + 4 * i + 0 : Nat) : Int), (mtxt (n + 4 * i + 1)), ((n + 4 * i + 2 : Nat) : Int), ((n + 4 * i + 3 : Nat) : Int)) := by simp [mkd_Pending, hi]
    have hs := mark_step (mkd_Pending n l.length) l i _ hM hi hv
    have hL : i < ((mkd_Pending n l.length).take i ++ l.drop i).length := by simp; omega
    have w0 : IntKind.i64.wrap (((n + 4 * i : Nat) : Int) + 1) = ((n + 4 * i + 1 : Nat) : Int) := by rw [wr64 (by omega) (by omega)]; omega
    have w1 : IntKind.i64.wrap (((n + 4 * i + 1 : Nat) : Int) + 1) = ((n + 4 * i + 2 : Nat) : Int) := by rw [wr64 (by omega) (by omega)]; omega
    have w2 : IntKind.i64.wrap (((n + 4 * i + 2 : Nat) : Int) + 1) = ((n + 4 * i + 3 : Nat) : Int) := by rw [wr64 (by omega) (by omega)]; omega
    have w3 : IntKind.i64.wrap (((n + 4 * i + 3 : Nat) : Int) + 1) = ((n + 4 * (i + 1) : Nat) : Int) := by rw [wr64 (by omega) (by omega)]; omega
    dsimp only [laws_markPendingS.l0, laws_markPendingS.s0]
    simp only [Int.toNat_natCast, w0, w1, w2, w3, wrs hi (show l.length ≤ 9223372036854775807 by omega)]
    refine T_pos (by omega) ?_
    refine T_get hL ?_
    first | (refine T_bindE (T_call (laws_markText.ev (n + 4 * i + 1) (by omega)) Prod.fst (fun _ _ h => h.1)) ?_; refine T_got (by simpa using hL) ?_) | (refine T_got (by simpa using hL) ?_; refine T_bindE (T_call (laws_markText.ev (n + 4 * i + 1) (by omega)) Prod.fst (fun _ _ h => h.1)) ?_)
    refine T_got (by simpa using hL) ?_
    refine T_got (by simpa using hL) ?_
    refine T_eq (fun x => congrArg (fun q => laws_markPendingS.l0 x.1 x.2 (((n + 4 * (i + 1) : Nat) : Int), ((i + 1 : Nat) : Int), q)) ?_) he
    try simp only [List.set_set]
    exact hs) (by
    dsimp only [laws_markPendingS.l0, laws_markPendingS.s0]
    refine T_neg (by simp; omega) (T_ret ?_)
    rw [List.take_of_length_le (by omega), List.drop_length, List.append_nil]) 0 (Nat.zero_le _)
  unfold laws_markPendingS.f
  refine T_in (g := fun x j => laws_markPendingS.l0 x j _) ?_ (fun k => k) (fun _ _ h => h)
  simpa using h
noncomputable def mkd_Early (n m : Nat) : List (Int × ByteArray) := (List.range m).map fun i => (((n + 2 * i + 0 : Nat) : Int), (mtxt (n + 2 * i + 1)))
theorem laws_markEarlyS.ev (l : List (Int × ByteArray)) (n : Nat) (hb : n + 2 * l.length ≤ 1000000000000000000) : Tells F0 (fun k => laws_markEarlyS.f k l (n : Int)) (· = (((n + 2 * l.length : Nat) : Int), mkd_Early n l.length)) := by
  have hM : (mkd_Early n l.length).length = l.length := by simp [mkd_Early]
  have h := T_loop (F := F0) (fun k j i => laws_markEarlyS.l0 k j (((n + 2 * i : Nat) : Int), (i : Int), (mkd_Early n l.length).take i ++ l.drop i)) l.length (fun _ r => r = (((n + 2 * l.length : Nat) : Int), mkd_Early n l.length)) (fun i hi he => by
    have hv : (mkd_Early n l.length)[i]? = some (((n + 2 * i + 0 : Nat) : Int), (mtxt (n + 2 * i + 1))) := by simp [mkd_Early, hi]
    have hs := mark_step (mkd_Early n l.length) l i _ hM hi hv
    have hL : i < ((mkd_Early n l.length).take i ++ l.drop i).length := by simp; omega
    have w0 : IntKind.i64.wrap (((n + 2 * i : Nat) : Int) + 1) = ((n + 2 * i + 1 : Nat) : Int) := by rw [wr64 (by omega) (by omega)]; omega
    have w1 : IntKind.i64.wrap (((n + 2 * i + 1 : Nat) : Int) + 1) = ((n + 2 * (i + 1) : Nat) : Int) := by rw [wr64 (by omega) (by omega)]; omega
    dsimp only [laws_markEarlyS.l0, laws_markEarlyS.s0]
    simp only [Int.toNat_natCast, w0, w1, wrs hi (show l.length ≤ 9223372036854775807 by omega)]
    refine T_pos (by omega) ?_
    refine T_get hL ?_
    first | (refine T_bindE (T_call (laws_markText.ev (n + 2 * i + 1) (by omega)) Prod.fst (fun _ _ h => h.1)) ?_; refine T_got (by simpa using hL) ?_) | (refine T_got (by simpa using hL) ?_; refine T_bindE (T_call (laws_markText.ev (n + 2 * i + 1) (by omega)) Prod.fst (fun _ _ h => h.1)) ?_)
    refine T_eq (fun x => congrArg (fun q => laws_markEarlyS.l0 x.1 x.2 (((n + 2 * (i + 1) : Nat) : Int), ((i + 1 : Nat) : Int), q)) ?_) he
    try simp only [List.set_set]
    exact hs) (by
    dsimp only [laws_markEarlyS.l0, laws_markEarlyS.s0]
    refine T_neg (by simp; omega) (T_ret ?_)
    rw [List.take_of_length_le (by omega), List.drop_length, List.append_nil]) 0 (Nat.zero_le _)
  unfold laws_markEarlyS.f
  refine T_in (g := fun x j => laws_markEarlyS.l0 x j _) ?_ (fun k => k) (fun _ _ h => h)
  simpa using h
def mkd_Int (n m : Nat) : List (Int) := (List.range m).map fun i => ((n + 1 * i + 0 : Nat) : Int)
theorem laws_markIntS.ev (l : List (Int)) (n : Nat) (hb : n + 1 * l.length ≤ 1000000000000000000) : Tells F0 (fun k => laws_markIntS.f k l (n : Int)) (· = (((n + 1 * l.length : Nat) : Int), mkd_Int n l.length)) := by
  have hM : (mkd_Int n l.length).length = l.length := by simp [mkd_Int]
  have h := T_loop (F := F0) (fun k j i => laws_markIntS.l0 k j (((n + 1 * i : Nat) : Int), (i : Int), (mkd_Int n l.length).take i ++ l.drop i)) l.length (fun _ r => r = (((n + 1 * l.length : Nat) : Int), mkd_Int n l.length)) (fun i hi he => by
    have hv : (mkd_Int n l.length)[i]? = some ((n + 1 * i + 0 : Nat) : Int) := by simp [mkd_Int, hi]
    have hs := mark_step (mkd_Int n l.length) l i _ hM hi hv
    have hL : i < ((mkd_Int n l.length).take i ++ l.drop i).length := by simp; omega
    have w0 : IntKind.i64.wrap (((n + 1 * i : Nat) : Int) + 1) = ((n + 1 * (i + 1) : Nat) : Int) := by rw [wr64 (by omega) (by omega)]; omega
    dsimp only [laws_markIntS.l0, laws_markIntS.s0]
    simp only [Int.toNat_natCast, w0, wrs hi (show l.length ≤ 9223372036854775807 by omega)]
    refine T_pos (by omega) ?_
    refine T_get hL ?_
    refine T_eq (fun x => congrArg (fun q => laws_markIntS.l0 x.1 x.2 (((n + 1 * (i + 1) : Nat) : Int), ((i + 1 : Nat) : Int), q)) ?_) he
    try simp only [List.set_set]
    exact hs) (by
    dsimp only [laws_markIntS.l0, laws_markIntS.s0]
    refine T_neg (by simp; omega) (T_ret ?_)
    rw [List.take_of_length_le (by omega), List.drop_length, List.append_nil]) 0 (Nat.zero_le _)
  unfold laws_markIntS.f
  refine T_in (g := fun x j => laws_markIntS.l0 x j _) ?_ (fun k => k) (fun _ _ h => h)
  simpa using h
theorem laws_markChan.ev (c0 : Int) (c1 : Int) (c2 : Int) (c3 : List (ByteArray)) (c4 : List (Int × ByteArray × Int × Int)) (c5 : Int) (c6 : List (Int × ByteArray)) (c7 : List (Int)) (c8 : List (ByteArray)) (n : Nat) (hb : n + 1 * c3.length + 4 * c4.length + 2 * c6.length + 1 * c7.length + 1 * c8.length ≤ 1000000000000000000) : Tells F0 (fun k => laws_markChan.f k c0 c1 c2 c3 c4 c5 c6 c7 c8 (n : Int)) (· = (((n + 1 * c3.length + 4 * c4.length + 2 * c6.length + 1 * c7.length + 1 * c8.length : Nat) : Int), mkd_String n c3.length, mkd_Pending (n + 1 * c3.length) c4.length, mkd_Early ((n + 1 * c3.length) + 4 * c4.length) c6.length, mkd_Int (((n + 1 * c3.length) + 4 * c4.length) + 2 * c6.length) c7.length, mkd_String ((((n + 1 * c3.length) + 4 * c4.length) + 2 * c6.length) + 1 * c7.length) c8.length)) := by
  unfold laws_markChan.f
  refine T_bindE (laws_markStringS.ev _ n (by omega)) ?_
  refine T_bindE (laws_markPendingS.ev _ (n + 1 * c3.length) (by omega)) ?_
  refine T_bindE (laws_markEarlyS.ev _ ((n + 1 * c3.length) + 4 * c4.length) (by omega)) ?_
  refine T_bindE (laws_markIntS.ev _ (((n + 1 * c3.length) + 4 * c4.length) + 2 * c6.length) (by omega)) ?_
  refine T_bindE (laws_markStringS.ev _ ((((n + 1 * c3.length) + 4 * c4.length) + 2 * c6.length) + 1 * c7.length) (by omega)) ?_
  exact T_ret rfl
-- loop.example/g00193/laws.markPacketS: rows in rows
theorem laws_heldStringS.ev (m n : Nat) (hb : n + 1 * m ≤ 1000000000000000000) : Tells F0 (fun k => laws_heldStringS.f k (mkd_String n m) (n : Int)) (· = ((n + 1 * m : Nat) : Int)) := by
  have hM : (mkd_String n m).length = m := by simp [mkd_String]
  have h := T_loop (F := F0) (fun k j i => laws_heldStringS.l0 k j (((n + 1 * i : Nat) : Int), (i : Int), mkd_String n m)) m (fun _ r => r = ((n + 1 * m : Nat) : Int)) (fun i hi he => by
    have hL : i < (mkd_String n m).length := by omega
    have hv : (mkd_String n m)[i] = (mtxt (n + 1 * i + 0)) := by simp [mkd_String]
    have w0 : IntKind.i64.wrap (((n + 1 * i : Nat) : Int) + 1) = ((n + 1 * (i + 1) : Nat) : Int) := by rw [wr64 (by omega) (by omega)]; omega
    dsimp only [laws_heldStringS.l0, laws_heldStringS.s0]
    simp only [Int.toNat_natCast, w0, wrs hi (show m ≤ 9223372036854775807 by omega)]
    refine T_pos (by omega) ?_
    first | (refine T_bindE (T_call (laws_markText.ev (n + 1 * i) (by omega)) Prod.fst (fun _ _ h => h.1)) ?_; refine T_get hL ?_; rw [hv]; (try dsimp only)) | (refine T_get hL ?_; rw [hv]; (try dsimp only); refine T_bindE (T_call (laws_markText.ev (n + 1 * i) (by omega)) Prod.fst (fun _ _ h => h.1)) ?_)
    refine T_same ?_ ?_
    · simp
    exact he) (by
    dsimp only [laws_heldStringS.l0, laws_heldStringS.s0]
    exact T_neg (by omega) (T_ret rfl)) 0 (Nat.zero_le _)
  unfold laws_heldStringS.f
  exact T_in (g := fun x j => laws_heldStringS.l0 x j _) (by simpa using h) (fun k => k) (fun _ _ h => h)
theorem laws_heldPendingS.ev (m n : Nat) (hb : n + 4 * m ≤ 1000000000000000000) : Tells F0 (fun k => laws_heldPendingS.f k (mkd_Pending n m) (n : Int)) (· = ((n + 4 * m : Nat) : Int)) := by
  have hM : (mkd_Pending n m).length = m := by simp [mkd_Pending]
  have h := T_loop (F := F0) (fun k j i => laws_heldPendingS.l0 k j (((n + 4 * i : Nat) : Int), (i : Int), mkd_Pending n m)) m (fun _ r => r = ((n + 4 * m : Nat) : Int)) (fun i hi he => by
    have hL : i < (mkd_Pending n m).length := by omega
    have hv : (mkd_Pending n m)[i] = (((n + 4 * i + 0 : Nat) : Int), (mtxt (n + 4 * i + 1)), ((n + 4 * i + 2 : Nat) : Int), ((n + 4 * i + 3 : Nat) : Int)) := by simp [mkd_Pending]
    have w0 : IntKind.i64.wrap (((n + 4 * i : Nat) : Int) + 1) = ((n + 4 * i + 1 : Nat) : Int) := by rw [wr64 (by omega) (by omega)]; omega
    have w1 : IntKind.i64.wrap (((n + 4 * i + 1 : Nat) : Int) + 1) = ((n + 4 * i + 2 : Nat) : Int) := by rw [wr64 (by omega) (by omega)]; omega
    have w2 : IntKind.i64.wrap (((n + 4 * i + 2 : Nat) : Int) + 1) = ((n + 4 * i + 3 : Nat) : Int) := by rw [wr64 (by omega) (by omega)]; omega
    have w3 : IntKind.i64.wrap (((n + 4 * i + 3 : Nat) : Int) + 1) = ((n + 4 * (i + 1) : Nat) : Int) := by rw [wr64 (by omega) (by omega)]; omega
    dsimp only [laws_heldPendingS.l0, laws_heldPendingS.s0]
    simp only [Int.toNat_natCast, w0, w1, w2, w3, wrs hi (show m ≤ 9223372036854775807 by omega)]
    refine T_pos (by omega) ?_
    refine T_get hL ?_; rw [hv]; (try dsimp only)
    refine T_same ?_ ?_
    · simp
    first | (refine T_bindE (T_call (laws_markText.ev (n + 4 * i + 1) (by omega)) Prod.fst (fun _ _ h => h.1)) ?_; refine T_get hL ?_; rw [hv]; (try dsimp only)) | (refine T_get hL ?_; rw [hv]; (try dsimp only); refine T_bindE (T_call (laws_markText.ev (n + 4 * i + 1) (by omega)) Prod.fst (fun _ _ h => h.1)) ?_)
    refine T_same ?_ ?_
    · simp
    refine T_get hL ?_; rw [hv]; (try dsimp only)
    refine T_same ?_ ?_
    · simp
    refine T_get hL ?_; rw [hv]; (try dsimp only)
    refine T_same ?_ ?_
    · simp
    exact he) (by
    dsimp only [laws_heldPendingS.l0, laws_heldPendingS.s0]
    exact T_neg (by omega) (T_ret rfl)) 0 (Nat.zero_le _)
  unfold laws_heldPendingS.f
  exact T_in (g := fun x j => laws_heldPendingS.l0 x j _) (by simpa using h) (fun k => k) (fun _ _ h => h)
theorem laws_heldEarlyS.ev (m n : Nat) (hb : n + 2 * m ≤ 1000000000000000000) : Tells F0 (fun k => laws_heldEarlyS.f k (mkd_Early n m) (n : Int)) (· = ((n + 2 * m : Nat) : Int)) := by
  have hM : (mkd_Early n m).length = m := by simp [mkd_Early]
  have h := T_loop (F := F0) (fun k j i => laws_heldEarlyS.l0 k j (((n + 2 * i : Nat) : Int), (i : Int), mkd_Early n m)) m (fun _ r => r = ((n + 2 * m : Nat) : Int)) (fun i hi he => by
    have hL : i < (mkd_Early n m).length := by omega
    have hv : (mkd_Early n m)[i] = (((n + 2 * i + 0 : Nat) : Int), (mtxt (n + 2 * i + 1))) := by simp [mkd_Early]
    have w0 : IntKind.i64.wrap (((n + 2 * i : Nat) : Int) + 1) = ((n + 2 * i + 1 : Nat) : Int) := by rw [wr64 (by omega) (by omega)]; omega
    have w1 : IntKind.i64.wrap (((n + 2 * i + 1 : Nat) : Int) + 1) = ((n + 2 * (i + 1) : Nat) : Int) := by rw [wr64 (by omega) (by omega)]; omega
    dsimp only [laws_heldEarlyS.l0, laws_heldEarlyS.s0]
    simp only [Int.toNat_natCast, w0, w1, wrs hi (show m ≤ 9223372036854775807 by omega)]
    refine T_pos (by omega) ?_
    refine T_get hL ?_; rw [hv]; (try dsimp only)
    refine T_same ?_ ?_
    · simp
    first | (refine T_bindE (T_call (laws_markText.ev (n + 2 * i + 1) (by omega)) Prod.fst (fun _ _ h => h.1)) ?_; refine T_get hL ?_; rw [hv]; (try dsimp only)) | (refine T_get hL ?_; rw [hv]; (try dsimp only); refine T_bindE (T_call (laws_markText.ev (n + 2 * i + 1) (by omega)) Prod.fst (fun _ _ h => h.1)) ?_)
    refine T_same ?_ ?_
    · simp
    exact he) (by
    dsimp only [laws_heldEarlyS.l0, laws_heldEarlyS.s0]
    exact T_neg (by omega) (T_ret rfl)) 0 (Nat.zero_le _)
  unfold laws_heldEarlyS.f
  exact T_in (g := fun x j => laws_heldEarlyS.l0 x j _) (by simpa using h) (fun k => k) (fun _ _ h => h)
theorem laws_heldIntS.ev (m n : Nat) (hb : n + 1 * m ≤ 1000000000000000000) : Tells F0 (fun k => laws_heldIntS.f k (mkd_Int n m) (n : Int)) (· = ((n + 1 * m : Nat) : Int)) := by
  have hM : (mkd_Int n m).length = m := by simp [mkd_Int]
  have h := T_loop (F := F0) (fun k j i => laws_heldIntS.l0 k j (((n + 1 * i : Nat) : Int), (i : Int), mkd_Int n m)) m (fun _ r => r = ((n + 1 * m : Nat) : Int)) (fun i hi he => by
    have hL : i < (mkd_Int n m).length := by omega
    have hv : (mkd_Int n m)[i] = ((n + 1 * i + 0 : Nat) : Int) := by simp [mkd_Int]
    have w0 : IntKind.i64.wrap (((n + 1 * i : Nat) : Int) + 1) = ((n + 1 * (i + 1) : Nat) : Int) := by rw [wr64 (by omega) (by omega)]; omega
    dsimp only [laws_heldIntS.l0, laws_heldIntS.s0]
    simp only [Int.toNat_natCast, w0, wrs hi (show m ≤ 9223372036854775807 by omega)]
    refine T_pos (by omega) ?_
    refine T_get hL ?_; rw [hv]; (try dsimp only)
    refine T_same ?_ ?_
    · simp
    exact he) (by
    dsimp only [laws_heldIntS.l0, laws_heldIntS.s0]
    exact T_neg (by omega) (T_ret rfl)) 0 (Nat.zero_le _)
  unfold laws_heldIntS.f
  exact T_in (g := fun x j => laws_heldIntS.l0 x j _) (by simpa using h) (fun k => k) (fun _ _ h => h)
theorem laws_heldChan.ev (c0 : Int) (c1 : Int) (c2 : Int) (c5 : Int) (m3 m4 m6 m7 m8 n : Nat) (hb : n + 1 * m3 + 4 * m4 + 2 * m6 + 1 * m7 + 1 * m8 ≤ 1000000000000000000) : Tells F0 (fun k => laws_heldChan.f k c0 c1 c2 (mkd_String n m3) (mkd_Pending (n + 1 * m3) m4) c5 (mkd_Early ((n + 1 * m3) + 4 * m4) m6) (mkd_Int (((n + 1 * m3) + 4 * m4) + 2 * m6) m7) (mkd_String ((((n + 1 * m3) + 4 * m4) + 2 * m6) + 1 * m7) m8) (n : Int)) (· = ((n + 1 * m3 + 4 * m4 + 2 * m6 + 1 * m7 + 1 * m8 : Nat) : Int)) := by
  unfold laws_heldChan.f
  refine T_bindE (laws_heldStringS.ev m3 n (by omega)) ?_
  refine T_neg (by omega) ?_
  refine T_bindE (laws_heldPendingS.ev m4 (n + 1 * m3) (by omega)) ?_
  refine T_neg (by omega) ?_
  refine T_bindE (laws_heldEarlyS.ev m6 ((n + 1 * m3) + 4 * m4) (by omega)) ?_
  refine T_neg (by omega) ?_
  refine T_bindE (laws_heldIntS.ev m7 (((n + 1 * m3) + 4 * m4) + 2 * m6) (by omega)) ?_
  refine T_neg (by omega) ?_
  refine T_bindE (laws_heldStringS.ev m8 ((((n + 1 * m3) + 4 * m4) + 2 * m6) + 1 * m7) (by omega)) ?_
  refine T_neg (by omega) ?_
  exact T_ret rfl
-- loop.example/g00193/laws.heldPacketS: rows in rows
theorem in_eq (k : Nat) (n a b : Int) : spec_l01In.f k n a b = some (decide (a ≤ n ∧ n ≤ b)) := by
  unfold spec_l01In.f
  by_cases h : n ≥ a <;> by_cases h' : n ≤ b <;> simp [h, h'] <;> omega
theorem within_eq (k : Nat) (n a b : Int) : impl_within.f k n a b = some (decide (a ≤ n ∧ n ≤ b)) := by
  unfold impl_within.f
  by_cases h : n ≥ a <;> by_cases h' : n ≤ b <;> simp [h, h'] <;> omega

abbrev Pend := Int × ByteArray × Int × Int
abbrev Earl := Int × ByteArray
/-! The reference. -/
theorem isId_eq (k : Nat) (n : Int) : impl_isId.f k n = some (decide (1 ≤ n ∧ n ≤ 99)) := by
  unfold impl_isId.f
  rw [within_eq]; rfl

def TextC (l : List ByteArray) (j : Nat) : Prop := ∀ h : j < l.length, (l[j]).size ≤ 120
def TextsP (l : List ByteArray) : Prop := ∀ j, j < l.length → TextC l j
def SentC (q : Int) (l : List Pend) (i : Nat) : Prop := ∀ h : i < l.length, (1 ≤ (l[i]).1 ∧ (l[i]).1 ≤ q) ∧ (0 < i → (l[i - 1]).1 < (l[i]).1) ∧ (0 ≤ (l[i]).2.2.1 ∧ (l[i]).2.2.1 ≤ 1000000000) ∧ (1 ≤ (l[i]).2.2.2 ∧ (l[i]).2.2.2 ≤ 8) ∧ (l[i]).2.1.size ≤ 120
def EarlyC (a b : Int) (l : List Earl) (i : Nat) : Prop := ∀ h : i < l.length, (a ≤ (l[i]).1 ∧ (l[i]).1 ≤ b) ∧ (0 < i → (l[i - 1]).1 < (l[i]).1) ∧ (l[i]).2.size ≤ 120
def AckC (b : Int) (l : List Int) (i : Nat) : Prop := ∀ h : i < l.length, 1 ≤ l[i] ∧ l[i] ≤ b
def ChanP (c0 c1 c2 : Int) (c3 : List ByteArray) (c4 : List Pend) (c5 : Int) (c6 : List Earl) (c7 : List Int) (c8 : List ByteArray) : Prop :=
  ((1 ≤ c0 ∧ c0 ≤ 99) ∧ (1 ≤ c1 ∧ c1 ≤ 99) ∧ (0 ≤ c2 ∧ c2 ≤ 1000) ∧ c3.length ≤ 30 ∧ TextsP c3) ∧ ((∀ i, i < c4.length → SentC c2 c4 i) ∧ c4.length ≤ 4) ∧ ((0 ≤ c5 ∧ c5 ≤ 1000) ∧ (c8.length : Int) = c5 ∧ TextsP c8 ∧ c7.length ≤ 4) ∧ (∀ i, i < c6.length → EarlyC (c5 + 2) (c5 + 4) c6 i) ∧ ∀ i, i < c7.length → AckC (c5 + 4) c7 i
theorem spec_l13Texts.ev (l : List ByteArray) (hn : l.length ≤ 1048576) : Tells F0 (fun k => spec_l13Texts.f k l) (fun r => r = true ↔ TextsP l) := by
  have h := T_body (F := F0) (fun k j i => spec_l13Texts.l0 k j ((i : Int), l)) l.length (TextC l) True (fun i hi P go bad => by
    dsimp only [spec_l13Texts.l0, spec_l13Texts.s0]
    refine T_pos (by omega) (T_at hi (T_dec (fun h => T_ret (bad fun c => ?_)) fun h => ?_))
    · have := c hi
      omega
    · rw [wrs hi (by omega)]
      exact go fun _ => by omega) (by
    dsimp only [spec_l13Texts.l0, spec_l13Texts.s0]
    exact T_neg (by omega) (T_ret (by simp)))
  unfold spec_l13Texts.f
  exact T_in (g := fun x j => spec_l13Texts.l0 x j _) (T_mono h fun r hr => by rw [hr]; exact ⟨fun h => h.1, fun h => ⟨h, trivial⟩⟩) (fun k => k) (fun _ _ h => h)
theorem spec_l13Sent.ev (c0 c1 c2 : Int) (c3 : List ByteArray) (c4 : List Pend) (c5 : Int) (c6 : List Earl) (c7 : List Int) (c8 : List ByteArray) (h4 : c4.length ≤ 1048576) :
    Tells F0 (fun k => spec_l13Sent.f k c0 c1 c2 c3 c4 c5 c6 c7 c8) (fun r => r = true ↔ (∀ i, i < c4.length → SentC c2 c4 i) ∧ c4.length ≤ 4) := by
  have h := T_body (F := F0) (fun k j i => spec_l13Sent.l0 k j ((i : Int), c3, c4, c6, c7, c8, c0, c1, c2, c5)) c4.length (SentC c2 c4) (c4.length ≤ 4) (fun i hi P go bad => by
    dsimp only [spec_l13Sent.l0, spec_l13Sent.s0]
    simp only [in_eq, Option.bind_some]
    refine T_pos (by omega) (T_at hi (T_ndec (fun a1 => T_dec (fun a2 => T_pre (by omega) hi (by omega) (T_dec (fun a3 => T_ret (bad fun c => ?_)) fun a3 => ?_)) fun a2 => ?_) fun a1 => T_ret (bad fun c => a1 (c hi).1)))
    · have := (c hi).2.1 (by omega)
      omega
    · refine T_ndec (fun a4 => T_ndec (fun a5 => T_dec (fun a6 => T_ret (bad fun c => ?_)) fun a6 => ?_) fun a5 => T_ret (bad fun c => a5 (c hi).2.2.2.1)) fun a4 => T_ret (bad fun c => a4 (c hi).2.2.1)
      · have := (c hi).2.2.2.2
        omega
      · rw [wrs hi (by omega)]
        exact go fun _ => ⟨a1, fun _ => by omega, a4, a5, by omega⟩
    · refine T_ndec (fun a4 => T_ndec (fun a5 => T_dec (fun a6 => T_ret (bad fun c => ?_)) fun a6 => ?_) fun a5 => T_ret (bad fun c => a5 (c hi).2.2.2.1)) fun a4 => T_ret (bad fun c => a4 (c hi).2.2.1)
      · have := (c hi).2.2.2.2
        omega
      · rw [wrs hi (by omega)]
        exact go fun _ => ⟨a1, fun _ => by omega, a4, a5, by omega⟩) (by
    dsimp only [spec_l13Sent.l0, spec_l13Sent.s0]
    exact T_neg (by omega) (T_ret (by rw [decide_eq_true_eq]; omega)))
  unfold spec_l13Sent.f
  exact T_in (g := fun x j => spec_l13Sent.l0 x j _) h (fun k => k) (fun _ _ h => h)
theorem spec_ChanOk.ev (c0 c1 c2 : Int) (c3 : List ByteArray) (c4 : List Pend) (c5 : Int) (c6 : List Earl) (c7 : List Int) (c8 : List ByteArray) (h3 : c3.length ≤ 1048576) (h4 : c4.length ≤ 1048576) (h6 : c6.length ≤ 1048576) (h7 : c7.length ≤ 1048576) (h8 : c8.length ≤ 1048576) :
    Tells F0 (fun k => spec_ChanOk.f k c0 c1 c2 c3 c4 c5 c6 c7 c8) (fun r => r = true ↔ ChanP c0 c1 c2 c3 c4 c5 c6 c7 c8) := by
  have loop2 : (0 ≤ c5 ∧ c5 ≤ 1000) → Tells F0 (fun k => spec_ChanOk.l2 k k ((0 : Int), c3, c4, c6, c7, c8, c0, c1, c2, c5)) (fun r => r = true ↔ ∀ i, i < c7.length → AckC (c5 + 4) c7 i) := by
    intro hc
    have h := T_body (F := F0) (fun k j i => spec_ChanOk.l2 k j ((i : Int), c3, c4, c6, c7, c8, c0, c1, c2, c5)) c7.length (AckC (c5 + 4) c7) True (fun i hi P go bad => by
      dsimp only [spec_ChanOk.l2, spec_ChanOk.s2]
      simp only [in_eq, Option.bind_some]
      rw [wr64 (x := c5 + 4) (by omega) (by omega)]
      refine T_pos (by omega) (T_at hi (T_ndec (fun a1 => ?_) fun a1 => T_ret (bad fun c => a1 (c hi))))
      rw [wrs hi (by omega)]
      exact go fun _ => a1) (by
      dsimp only [spec_ChanOk.l2, spec_ChanOk.s2]
      exact T_neg (by omega) (T_ret (by simp)))
    exact T_in (g := fun x j => spec_ChanOk.l2 x j _) (T_mono h fun r hr => by rw [hr]; exact ⟨fun h => h.1, fun h => ⟨h, trivial⟩⟩) (fun k => k) (fun _ _ h => h)
  have loop0 : (0 ≤ c5 ∧ c5 ≤ 1000) → Tells F0 (fun k => spec_ChanOk.l0 k k ((0 : Int), c3, c4, c6, c7, c8, c0, c1, c2, c5)) (fun r => r = true ↔ (∀ i, i < c6.length → EarlyC (c5 + 2) (c5 + 4) c6 i) ∧ ∀ i, i < c7.length → AckC (c5 + 4) c7 i) := by
    intro hc
    have h := T_body (F := F0) (fun k j i => spec_ChanOk.l0 k j ((i : Int), c3, c4, c6, c7, c8, c0, c1, c2, c5)) c6.length (EarlyC (c5 + 2) (c5 + 4) c6) (∀ i, i < c7.length → AckC (c5 + 4) c7 i) (fun i hi P go bad => by
      dsimp only [spec_ChanOk.l0, spec_ChanOk.s0]
      simp only [in_eq, Option.bind_some]
      rw [wr64 (x := c5 + 4) (by omega) (by omega), wr64 (x := c5 + 2) (by omega) (by omega)]
      refine T_pos (by omega) (T_at hi (T_ndec (fun a1 => T_dec (fun a2 => T_pre (by omega) hi (by omega) (T_at hi (T_dec (fun a3 => T_ret (bad fun c => ?_)) fun a3 => T_at hi (T_dec (fun a4 => T_ret (bad fun c => ?_)) fun a4 => ?_)))) fun a2 => T_at hi (T_dec (fun a4 => T_ret (bad fun c => ?_)) fun a4 => ?_)) fun a1 => T_ret (bad fun c => a1 (c hi).1)))
      · have := (c hi).2.1 (by omega)
        omega
      · have := (c hi).2.2
        omega
      · rw [wrs hi (by omega)]
        exact go fun _ => ⟨a1, fun _ => by omega, by omega⟩
      · have := (c hi).2.2
        omega
      · rw [wrs hi (by omega)]
        exact go fun _ => ⟨a1, fun _ => by omega, by omega⟩) (by
      dsimp only [spec_ChanOk.l0, spec_ChanOk.s0]
      exact T_neg (by omega) (T_call (loop2 hc) Prod.fst (fun _ _ h => h.1)))
    exact T_in (g := fun x j => spec_ChanOk.l0 x j _) h (fun k => k) (fun _ _ h => h)
  unfold spec_ChanOk.f
  simp only [in_eq, Option.bind_some]
  refine T_ndec (fun a0 => T_ndec (fun a1 => T_ndec (fun a2 => T_dec (fun a3 => T_ret (no_iff fun c => ?_)) fun a3 => ?_) fun a2 => T_ret (no_iff fun c => a2 c.1.2.2.1)) fun a1 => T_ret (no_iff fun c => a1 c.1.2.1)) fun a0 => T_ret (no_iff fun c => a0 c.1.1)
  · have := c.1.2.2.2.1
    omega
  refine T_bind (spec_l13Texts.ev c3 h3) fun q hq => ?_
  cases q with
  | false => exact T_true rfl (T_ret (no_iff fun c => absurd (hq.2 c.1.2.2.2.2) (by simp)))
  | true =>
  refine T_same rfl (T_bind (spec_l13Sent.ev c0 c1 c2 c3 c4 c5 c6 c7 c8 h4) fun q2 hq2 => ?_)
  cases q2 with
  | false => exact T_true rfl (T_ret (no_iff fun c => absurd (hq2.2 c.2.1) (by simp)))
  | true =>
  refine T_same rfl (T_ndec (fun b2 => T_bne (fun b3 => T_ret (no_iff fun c => b3 c.2.2.1.2.1)) fun b3 => ?_) fun b2 => T_ret (no_iff fun c => b2 c.2.2.1.1))
  refine T_bind (spec_l13Texts.ev c8 h8) fun q3 hq3 => ?_
  cases q3 with
  | false => exact T_true rfl (T_ret (no_iff fun c => absurd (hq3.2 c.2.2.1.2.2.1) (by simp)))
  | true =>
  refine T_same rfl (T_dec (fun b5 => T_ret (no_iff fun c => ?_)) fun b5 => T_mono (loop0 b2) fun r hr => ?_)
  · have := c.2.2.1.2.2.2
    omega
  · rw [hr]
    exact ⟨fun c => ⟨⟨a0, a1, a2, by omega, hq.1 rfl⟩, hq2.1 rfl, ⟨b2, b3, hq3.1 rfl, by omega⟩, c⟩, fun c => c.2.2.2⟩
/-! The program. -/
theorem impl_textsOk.ev (a b : List ByteArray) (ha : a.length ≤ 1048576) (hb : b.length ≤ 1048576) : Tells F0 (fun k => impl_textsOk.f k [a, b]) (fun r => r = true ↔ TextsP a ∧ TextsP b) := by
  have hls : ∀ i (h : i < [a, b].length), ([a, b][i]).length ≤ 1048576 := by
    intro i h
    match i, h with
    | 0, _ => exact ha
    | 1, _ => exact hb
  generalize hl : [a, b] = ls at hls
  have h2 : ls.length = 2 := by rw [← hl]; rfl
  have h := T_loop (F := F0) (fun k j i => impl_textsOk.l0 k j ((2 : Int), (i : Int), ls)) 2 (fun i r => r = true ↔ ∀ m (h : m < ls.length), i ≤ m → TextsP ls[m]) (fun i hi he => by
    dsimp only [impl_textsOk.l0, impl_textsOk.s0]
    have hi' : i < ls.length := by omega
    refine T_pos (by omega) (T_at hi' (T_in (F := FS F0) (g := fun x m => impl_textsOk.l2 x.1 (impl_textsOk.l0 x.1 x.2) m _) ?_ Prod.fst (fun _ _ h => h.1)))
    have hn := hls i hi'
    refine T_mono (T_body (F := FS F0) (fun x m j => impl_textsOk.l2 x.1 (impl_textsOk.l0 x.1 x.2) m ((2 : Int), (i : Int), ((ls[i]).length : Int), (j : Int), ls, ls[i])) (ls[i]).length (TextC ls[i]) (∀ m (h : m < ls.length), i + 1 ≤ m → TextsP ls[m]) (fun j hj P go bad => ?_) ?_) fun r hr => ?_
    · dsimp only [impl_textsOk.l2, impl_textsOk.s2]
      refine T_pos (by omega) (T_at hj (T_dec (fun h => T_ret (bad fun c => ?_)) fun h => ?_))
      · have := c hj
        omega
      · rw [wrs hj (by omega)]
        exact go fun _ => by omega
    · dsimp only [impl_textsOk.l2, impl_textsOk.s2]
      refine T_neg (by omega) ?_
      rw [wrs hi (by omega)]
      exact T_lift he
    · rw [hr]
      constructor
      · rintro ⟨c1, c2⟩ m hm h
        by_cases e : m = i
        · subst e; exact c1
        · exact c2 m hm (by omega)
      · exact fun c => ⟨c i hi' (Nat.le_refl _), fun m hm h => c m hm (by omega)⟩) (by
    dsimp only [impl_textsOk.l0, impl_textsOk.s0]
    exact T_neg (by omega) (T_ret ⟨fun _ m hm h => absurd hm (by omega), fun _ => rfl⟩)) 0 (Nat.zero_le _)
  unfold impl_textsOk.f
  refine T_in (g := fun x j => impl_textsOk.l0 x j _) (T_mono (α := Bool) (P := fun r => r = true ↔ ∀ m (h : m < ls.length), 0 ≤ m → TextsP ls[m]) ?_ fun r hr => ?_) (fun k => k) (fun _ _ h => h)
  · have : (ls.length : Int) = 2 := by omega
    simpa [this] using h
  · rw [hr]
    subst hl
    exact ⟨fun c => ⟨c 0 (by simp) (by omega), c 1 (by simp) (by omega)⟩, fun c m hm _ => by
      match m, hm with
      | 0, _ => exact c.1
      | 1, _ => exact c.2⟩
theorem impl_ChanOk.ev (c0 c1 c2 : Int) (c3 : List ByteArray) (c4 : List Pend) (c5 : Int) (c6 : List Earl) (c7 : List Int) (c8 : List ByteArray) (h3 : c3.length ≤ 1048576) (h4 : c4.length ≤ 1048576) (h6 : c6.length ≤ 1048576) (h7 : c7.length ≤ 1048576) (h8 : c8.length ≤ 1048576) :
    Tells F0 (fun k => impl_ChanOk.f k c0 c1 c2 c3 c4 c5 c6 c7 c8) (fun r => r = true ↔ ChanP c0 c1 c2 c3 c4 c5 c6 c7 c8) := by
  generalize hw4 : IntKind.i64.wrap (c5 + 4) = w4
  generalize hw2 : IntKind.i64.wrap (c5 + 2) = w2
  have last : Tells F0 (fun k => impl_ChanOk.l4 k k ((c7.length : Int), (0 : Int), c3, c4, c6, c7, c8, c0, c1, c2, c5)) (fun r => r = true ↔ (∀ i, i < c7.length → AckC w4 c7 i) ∧ (((1 ≤ c0 ∧ c0 ≤ 99) ∧ (1 ≤ c1 ∧ c1 ≤ 99) ∧ (0 ≤ c2 ∧ c2 ≤ 1000) ∧ (0 ≤ c5 ∧ c5 ≤ 1000)) ∧ (c8.length : Int) = c5 ∧ c3.length ≤ 30 ∧ (TextsP c3 ∧ TextsP c8) ∧ c4.length ≤ 4 ∧ c7.length ≤ 4)) := by
    refine T_in (g := fun x j => impl_ChanOk.l4 x j _) (T_body (F := F0) (fun k j i => impl_ChanOk.l4 k j ((c7.length : Int), (i : Int), c3, c4, c6, c7, c8, c0, c1, c2, c5)) c7.length (AckC w4 c7) _ (fun i hi P go bad => ?_) ?_) (fun k => k) (fun _ _ h => h)
    · dsimp only [impl_ChanOk.l4, impl_ChanOk.s4]
      simp only [within_eq, Option.bind_some, hw4]
      refine T_pos (by omega) (T_at hi (T_ndec (fun a1 => ?_) fun a1 => T_ret (bad fun c => a1 (c hi))))
      rw [wrs hi (by omega)]
      exact go fun _ => a1
    · dsimp only [impl_ChanOk.l4, impl_ChanOk.s4]
      simp only [within_eq, isId_eq, Option.bind_some]
      refine T_neg (by omega) (T_dec (fun a0 => T_dec (fun a1 => T_dec (fun a2 => T_dec (fun a3 => T_beq (fun a4 => T_dec (fun a5 => ?_) fun a5 => T_ret (no_iff fun c => ?_)) fun a4 => T_ret (no_iff fun c => a4 c.2.1)) fun a3 => T_ret (no_iff fun c => a3 c.1.2.2.2)) fun a2 => T_ret (no_iff fun c => a2 c.1.2.2.1)) fun a1 => T_ret (no_iff fun c => a1 c.1.2.1)) fun a0 => T_ret (no_iff fun c => a0 c.1.1))
      · refine T_bind (T_call (impl_textsOk.ev c3 c8 h3 h8) Prod.fst (fun _ _ h => h.1)) fun q hq => ?_
        cases q with
        | false => exact T_false rfl (T_ret (no_iff fun c => absurd (hq.2 c.2.2.2.1) (by simp)))
        | true =>
        refine T_true rfl (T_dec (fun a7 => T_ret ?_) fun a7 => T_ret (no_iff fun c => ?_))
        · rw [decide_eq_true_eq]
          exact ⟨fun h => ⟨⟨a0, a1, a2, a3⟩, a4, by omega, hq.1 rfl, by omega, by omega⟩, fun h => by have := h.2.2.2.2.2; omega⟩
        · have := c.2.2.2.2.1
          omega
      · have := c.2.2.1
        omega
  have mid : Tells F0 (fun k => impl_ChanOk.l2 k k ((c6.length : Int), (0 : Int), c3, c4, c6, c7, c8, c0, c1, c2, c5)) (fun r => r = true ↔ (∀ i, i < c6.length → EarlyC w2 w4 c6 i) ∧ ((∀ i, i < c7.length → AckC w4 c7 i) ∧ (((1 ≤ c0 ∧ c0 ≤ 99) ∧ (1 ≤ c1 ∧ c1 ≤ 99) ∧ (0 ≤ c2 ∧ c2 ≤ 1000) ∧ (0 ≤ c5 ∧ c5 ≤ 1000)) ∧ (c8.length : Int) = c5 ∧ c3.length ≤ 30 ∧ (TextsP c3 ∧ TextsP c8) ∧ c4.length ≤ 4 ∧ c7.length ≤ 4))) := by
    refine T_in (g := fun x j => impl_ChanOk.l2 x j _) (T_body (F := F0) (fun k j i => impl_ChanOk.l2 k j ((c6.length : Int), (i : Int), c3, c4, c6, c7, c8, c0, c1, c2, c5)) c6.length (EarlyC w2 w4 c6) _ (fun i hi P go bad => ?_) ?_) (fun k => k) (fun _ _ h => h)
    · dsimp only [impl_ChanOk.l2, impl_ChanOk.s2]
      simp only [within_eq, Option.bind_some, hw4, hw2]
      refine T_pos (by omega) (T_at hi (T_dec (fun a2 => T_pre (by omega) hi (by omega) (T_dec (fun a3 => T_ret (bad fun c => ?_)) fun a3 => T_ndec (fun a1 => T_dec (fun a4 => T_ret (bad fun c => ?_)) fun a4 => ?_) fun a1 => T_ret (bad fun c => a1 (c hi).1))) fun a2 => T_ndec (fun a1 => T_dec (fun a4 => T_ret (bad fun c => ?_)) fun a4 => ?_) fun a1 => T_ret (bad fun c => a1 (c hi).1)))
      · have := (c hi).2.1 (by omega)
        omega
      · have := (c hi).2.2
        omega
      · rw [wrs hi (by omega)]
        exact go fun _ => ⟨a1, fun _ => by omega, by omega⟩
      · have := (c hi).2.2
        omega
      · rw [wrs hi (by omega)]
        exact go fun _ => ⟨a1, fun _ => by omega, by omega⟩
    · dsimp only [impl_ChanOk.l2, impl_ChanOk.s2]
      exact T_neg (by omega) (T_call last Prod.fst (fun _ _ h => h.1))
  have first := T_body (F := F0) (fun k j i => impl_ChanOk.l0 k j ((c4.length : Int), (i : Int), c3, c4, c6, c7, c8, c0, c1, c2, c5)) c4.length (SentC c2 c4) _ (fun i hi P go bad => by
    dsimp only [impl_ChanOk.l0, impl_ChanOk.s0]
    simp only [within_eq, Option.bind_some]
    refine T_pos (by omega) (T_at hi (T_dec (fun a2 => T_pre (by omega) hi (by omega) (T_dec (fun a3 => T_ret (bad fun c => ?_)) fun a3 => ?_)) fun a2 => ?_))
    · have := (c hi).2.1 (by omega)
      omega
    · refine T_ndec (fun a1 => T_ndec (fun a4 => T_ndec (fun a5 => T_dec (fun a6 => T_ret (bad fun c => ?_)) fun a6 => ?_) fun a5 => T_ret (bad fun c => a5 (c hi).2.2.2.1)) fun a4 => T_ret (bad fun c => a4 (c hi).2.2.1)) fun a1 => T_ret (bad fun c => a1 (c hi).1)
      · have := (c hi).2.2.2.2
        omega
      · rw [wrs hi (by omega)]
        exact go fun _ => ⟨a1, fun _ => by omega, a4, a5, by omega⟩
    · refine T_ndec (fun a1 => T_ndec (fun a4 => T_ndec (fun a5 => T_dec (fun a6 => T_ret (bad fun c => ?_)) fun a6 => ?_) fun a5 => T_ret (bad fun c => a5 (c hi).2.2.2.1)) fun a4 => T_ret (bad fun c => a4 (c hi).2.2.1)) fun a1 => T_ret (bad fun c => a1 (c hi).1)
      · have := (c hi).2.2.2.2
        omega
      · rw [wrs hi (by omega)]
        exact go fun _ => ⟨a1, fun _ => by omega, a4, a5, by omega⟩) (by
    dsimp only [impl_ChanOk.l0, impl_ChanOk.s0]
    exact T_neg (by omega) (T_call mid Prod.fst (fun _ _ h => h.1)))
  unfold impl_ChanOk.f
  refine T_in (g := fun x j => impl_ChanOk.l0 x j _) (T_mono first fun r hr => ?_) (fun k => k) (fun _ _ h => h)
  rw [hr]
  unfold ChanP
  by_cases hc : 0 ≤ c5 ∧ c5 ≤ 1000
  · rw [wr64 (x := c5 + 4) (by omega) (by omega)] at hw4
    rw [wr64 (x := c5 + 2) (by omega) (by omega)] at hw2
    subst hw4 hw2
    constructor
    · rintro ⟨a, b, c, ⟨d1, d2, d3, d4⟩, e, f, ⟨g1, g2⟩, h, i⟩
      exact ⟨⟨d1, d2, d3, f, g1⟩, ⟨a, h⟩, ⟨hc, e, g2, i⟩, b, c⟩
    · rintro ⟨⟨d1, d2, d3, f, g1⟩, ⟨a, h⟩, ⟨_, e, g2, i⟩, b, c⟩
      exact ⟨a, b, c, ⟨d1, d2, d3, hc⟩, e, f, ⟨g1, g2⟩, h, i⟩
  · constructor
    · rintro ⟨a, b, c, ⟨d1, d2, d3, d4⟩, _⟩
      exact absurd d4 hc
    · rintro ⟨_, _, ⟨d, _⟩, _⟩
      exact absurd d hc

theorem impl_copyInts.ev (l : List Int) (h : l.length ≤ 1048576) : Tells F0 (fun k => impl_copyInts.f k l) (· = l) := by
  unfold impl_copyInts.f
  exact T_pos (by simp; omega) (T_ret rfl)

abbrev ChanT := Int × Int × Int × List ByteArray × List Pend × Int × List Earl × List Int × List ByteArray
theorem impl_copyTexts.ev (l : List ByteArray) (h : l.length ≤ 1048576) : Tells F0 (fun k => impl_copyTexts.f k l) (· = l) := by
  unfold impl_copyTexts.f
  exact T_pos (by simp; omega) (T_ret rfl)
section
variable (c0 c1 c2 : Int) (c3 : List ByteArray) (c4 : List Pend) (c5 : Int) (c6 : List Earl) (c7 : List Int) (c8 : List ByteArray)
theorem impl_copyChan.ev (h3 : c3.length ≤ 1048576) (h4 : c4.length ≤ 1048576) (h6 : c6.length ≤ 1048576) (h7 : c7.length ≤ 1048576) (h8 : c8.length ≤ 1048576) :
    Tells F0 (fun k => impl_copyChan.f k c0 c1 c2 c3 c4 c5 c6 c7 c8) (· = (c0, c1, c2, c3, c4, c5, c6, c7, c8)) := by
  unfold impl_copyChan.f
  exact T_bindE (impl_copyTexts.ev c3 h3) (T_bindE (impl_copyTexts.ev c8 h8) (T_bindE (impl_copyInts.ev c7 h7) (T_pos (by simp; omega) (T_pos (by simp; omega) (T_ret rfl)))))
theorem spec_l13Copy.ev (h3 : c3.length ≤ 1048576) (h4 : c4.length ≤ 1048576) (h6 : c6.length ≤ 1048576) (h7 : c7.length ≤ 1048576) (h8 : c8.length ≤ 1048576) :
    Tells F0 (fun k => spec_l13Copy.f k c0 c1 c2 c3 c4 c5 c6 c7 c8) (· = (c0, c1, c2, c3, c4, c5, c6, c7, c8)) := by
  unfold spec_l13Copy.f
  exact T_pos (by simp; omega) (T_pos (by simp; omega) (T_pos (by simp; omega) (T_pos (by simp; omega) (T_pos (by simp; omega) (T_ret rfl)))))
end

theorem take_filter_succ {α : Type} (p : α → Bool) (l : List α) (i : Nat) (h : i < l.length) : (l.take (i + 1)).filter p = (l.take i).filter p ++ (if p l[i] then [l[i]] else []) := by
  rw [List.take_succ_eq_append_getElem h, List.filter_append]
  cases e : p l[i] <;> simp [e]
theorem drop_get {α : Type} {l l' : List α} {j : Nat} (h : l'.drop j = l.drop j) (hj : j < l.length) (hj' : j < l'.length) : l'[j] = l[j] := by
  have := congrArg (fun x => x[0]?) h
  simp only [List.getElem?_drop, Nat.add_zero, List.getElem?_eq_getElem hj, List.getElem?_eq_getElem hj'] at this
  exact Option.some.inj this
theorem set_take_succ {α : Type} (l : List α) (i : Nat) (x : α) (h : i < l.length) : (l.set i x).take (i + 1) = l.take i ++ [x] := by
  rw [List.take_succ_eq_append_getElem (by simpa using h), List.take_set_of_le (Nat.le_refl _), List.getElem_set_self]

theorem filter_len_take {α : Type} (p : α → Bool) (l : List α) (i : Nat) : ((l.take i).filter p).length ≤ l.length :=
  Nat.le_trans (List.length_filter_le _ _) (by simp; omega)

theorem T_getw {ι α β : Type} {F : Fu ι} {P : α → Prop} {l : List β} {i : Nat} {v : β} {f : ι → β → Option α} {g : ι → Option α} (hv : l[i]? = some v) (hf : Tells F (fun x => f x v) P) : Tells F (fun x => bif (decide ((0 : Int) ≤ (i : Int)) && decide ((i : Int) < (l.length : Int))) then (l[i]?).bind (f x) else g x) P := by
  have h := (List.getElem?_eq_some_iff.1 hv).1
  refine T_and (by omega) (by omega) ?_
  simp only [hv, Option.bind_some]
  exact hf
abbrev Pkt := Int × Int × Int × Int × Int × List Int × ByteArray
def headN : List Pend → Int | [] => 0 | x :: _ => x.1
def canF (s : List Pend) (n : Int) : Prop := s.length < 4 ∧ (s.length = 0 ∨ headN s > n - 3)
instance (s : List Pend) (n : Int) : Decidable (canF s n) := by unfold canF; infer_instance
def fillF (now : Int) : List ByteArray → List Pend → Int → List ByteArray × List Pend × Int
  | [], s, n => ([], s, n)
  | b :: q, s, n => if canF s n then fillF now q (s ++ [(n + 1, b, now, 0)]) (n + 1) else (b :: q, s, n)
theorem tl_eq {α : Type} (l : List α) (x : α) : ((x :: l).drop 1).take ((x :: l).length - 1) = l := by simp
section
variable (c0 c1 c2 : Int) (c3 : List ByteArray) (c4 : List Pend) (c5 : Int) (c6 : List Earl) (c7 : List Int) (c8 : List ByteArray) (now : Int)
theorem impl_fill.ev (n : Int) (q : List ByteArray) (s : List Pend) (hn : 0 ≤ n ∧ n ≤ 1000000) (hq : q.length ≤ 1048576) (hs : s.length ≤ 1048576) :
    Tells F0 (fun k => impl_Chan_fill.f k c0 c1 n q s c5 c6 c7 c8 now) (· = (c0, c1, (fillF now q s n).2.2, (fillF now q s n).1, (fillF now q s n).2.1, c5, c6, c7, c8)) := by
  unfold impl_Chan_fill.f
  have h := T_loops (F := F0) (fun k j (t : List ByteArray × List Pend × Int) (_ : Nat) => impl_Chan_fill.l0 k j (now, c0, c1, t.2.2, c5, t.1, t.2.1, c6, c7, c8)) q.length (fun i t => t.1.length + i = q.length ∧ t.2.1.length ≤ s.length + i ∧ t.2.2 = n + i ∧ fillF now t.1 t.2.1 t.2.2 = fillF now q s n) (fun _ _ r => r = (c0, c1, (fillF now q s n).2.2, (fillF now q s n).1, (fillF now q s n).2.1, c5, c6, c7, c8)) (fun i t hi ht he => by
    obtain ⟨q', s', n'⟩ := t
    obtain ⟨h1, h2, h3, h4⟩ := ht
    dsimp only at h1 h2 h3 h4
    cases q' with
    | nil => simp at h1; omega
    | cons b r =>
      have hb1 : (b :: r).length = r.length + 1 := rfl
      dsimp only [impl_Chan_fill.l0, impl_Chan_fill.s0]
      simp only [List.getElem?_cons_zero, Option.bind_some, tl_eq]
      rw [wr64 (x := n' + 1) (by omega) (by omega), wr64 (x := n' + 1 - 4) (by omega) (by omega)]
      have stop : ¬ canF s' n' → (c0, c1, n', b :: r, s', c5, c6, c7, c8) = (c0, c1, (fillF now q s n).2.2, (fillF now q s n).1, (fillF now q s n).2.1, c5, c6, c7, c8) := fun hc => by
        rw [← h4]
        simp only [fillF]
        rw [if_neg hc]
      have go : canF s' n' → Tells (FS F0) (fun x : Nat × Nat => impl_Chan_fill.l0 x.1 x.2 (now, c0, c1, n' + 1, c5, r, s' ++ [(n' + 1, b, now, 0)], c6, c7, c8)) (fun r => r = (c0, c1, (fillF now q s n).2.2, (fillF now q s n).1, (fillF now q s n).2.1, c5, c6, c7, c8)) := fun hc => by
        simp only [fillF] at h4
        rw [if_pos hc] at h4
        exact he (r, s' ++ [(n' + 1, b, now, 0)], n' + 1) ⟨by dsimp only; omega, by simp only [List.length_append, List.length_singleton]; omega, by dsimp only; omega, h4⟩
      refine T_pos (by rw [hb1]; omega) (T_dec (fun e1 => T_beq (fun e2 => T_true (by simp <;> omega) (T_pos (by first | (simp only [List.length_singleton]; omega) | (simp only [List.length_append, List.length_singleton, List.length_nil]; omega)) (T_true (by simp <;> omega) (go ⟨by omega, .inl (by omega)⟩)))) fun e2 => ?_) fun e1 => T_ret (stop fun c => by have := c.1; omega))
      cases s' with
      | nil => simp at e2
      | cons y t =>
        simp only [List.getElem?_cons_zero, Option.bind_some]
        refine T_true (by simp <;> omega) (T_dec (fun e3 => T_true (by simp <;> omega) (T_pos (by first | (simp only [List.length_singleton]; omega) | (simp only [List.length_append, List.length_singleton, List.length_nil]; omega)) (T_true (by simp <;> omega) (go ⟨by omega, .inr (by show y.1 > _; omega)⟩)))) fun e3 => T_ret (stop fun c => ?_))
        rcases c.2 with c | c
        · simp at c
        · have c : y.1 > n' - 3 := c
          omega) (fun t ht => by
    obtain ⟨q', s', n'⟩ := t
    obtain ⟨h1, h2, h3, h4⟩ := ht
    dsimp only at h1 h2 h3 h4
    have hl : q' = [] := List.eq_nil_of_length_eq_zero (by omega)
    subst hl
    dsimp only [impl_Chan_fill.l0, impl_Chan_fill.s0]
    refine T_neg (by simp) (T_ret ?_)
    rw [← h4]
    rfl) 0 (q, s, n) (Nat.zero_le _) ⟨rfl, Nat.le_refl _, by simp, rfl⟩
  exact T_in (g := fun x j => impl_Chan_fill.l0 x j _) (by simpa using h) (fun k => k) (fun _ _ h => h)
def due (now : Int) (x : Pend) : Bool := !decide (x.2.2.1 > now) && !decide (x.2.2.2 ≥ 8)
def updP (now : Int) (x : Pend) : Pend := if due now x then (x.1, x.2.1, now + 2 ^ (x.2.2.2 + 1).toNat, x.2.2.2 + 1) else x
def mkP (me peer : Int) (x : Pend) : Pkt := (1, 0, me, peer, x.1, [], x.2.1)
def pkts (me peer now : Int) (s : List Pend) : List Pkt := (s.filter (due now)).map (mkP me peer)
def withA (a : List Int) : List Pkt → List Pkt | [] => [] | p :: r => (p.1, p.2.1, p.2.2.1, p.2.2.2.1, p.2.2.2.2.1, a, p.2.2.2.2.2.2) :: r
def outK (me peer now : Int) (owed : List Int) (s : List Pend) : List Pkt := if (pkts me peer now s).length = 0 ∧ owed.length ≠ 0 then [(2, 0, me, peer, 0, [], ByteArray.empty)] else pkts me peer now s
abbrev SendR := Int × Int × Int × List ByteArray × List Pend × Int × List Earl × List Int × List ByteArray × List Pkt
def resM (c0 c1 n : Int) (q : List ByteArray) (s : List Pend) (c5 : Int) (c6 : List Earl) (c7 : List Int) (c8 : List ByteArray) (now : Int) : SendR := (c0, c1, n, q, s.map (updP now), c5, c6, if (outK c0 c1 now c7 s).length = 0 then c7 else [], c8, withA c7 (outK c0 c1 now c7 s))
theorem withA_len (a : List Int) : ∀ P : List Pkt, (withA a P).length = P.length
  | [] => rfl
  | _ :: _ => rfl
theorem withA_app (a : List Int) (P : List Pkt) (p : Pkt) : withA a (P ++ [p]) = if P.length = 0 then [(p.1, p.2.1, p.2.2.1, p.2.2.2.1, p.2.2.2.2.1, a, p.2.2.2.2.2.2)] else withA a P ++ [p] := by
  cases P with
  | nil => rfl
  | cons x r => rfl
theorem pkts_succ (me peer now : Int) (s : List Pend) (i : Nat) (h : i < s.length) : pkts me peer now (s.take (i + 1)) = pkts me peer now (s.take i) ++ (if due now s[i] then [mkP me peer s[i]] else []) := by
  unfold pkts
  rw [take_filter_succ _ _ _ h, List.map_append]
  cases due now s[i] <;> rfl
theorem pkts_len (me peer now : Int) (s : List Pend) (i : Nat) : (pkts me peer now (s.take i)).length ≤ s.length := by
  unfold pkts
  rw [List.length_map]
  exact filter_len_take _ _ _
theorem half_at {M l : List Pend} {i : Nat} (hl : M.length = l.length) (h : i < l.length) : (M.take i ++ l.drop i)[i]? = some l[i] := by
  rw [List.getElem?_append_right (by simp; omega)]
  simp only [List.length_take]
  rw [Nat.min_eq_left (by omega), Nat.sub_self, List.getElem?_drop, Nat.add_zero, List.getElem?_eq_getElem h]
theorem half_same {M l : List Pend} {i : Nat} (hl : M.length = l.length) (h : i < l.length) (e : M[i]? = some l[i]) : M.take i ++ l.drop i = M.take (i + 1) ++ l.drop (i + 1) := by
  rw [← mark_step M l i _ hl h e]
  have hh := half_at hl h
  have hlt : i < (M.take i ++ l.drop i).length := (List.getElem?_eq_some_iff.1 hh).1
  have e2 : (M.take i ++ l.drop i)[i] = l[i] := by
    rw [List.getElem?_eq_getElem hlt] at hh
    exact Option.some.inj hh
  rw [← e2, List.set_getElem_self]
theorem upd_at (now : Int) (s : List Pend) (i : Nat) (h : i < s.length) : (s.map (updP now))[i]? = some (updP now s[i]) := by simp [h]
def TriesP (s : List Pend) : Prop := ∀ x ∈ s, 0 ≤ x.2.2.2 ∧ x.2.2.2 ≤ 8
theorem two_pow (m : Nat) (h : m ≤ 9) : (1 : Int) ≤ 2 ^ m ∧ (2 : Int) ^ m ≤ 512 := by
  have : m = 0 ∨ m = 1 ∨ m = 2 ∨ m = 3 ∨ m = 4 ∨ m = 5 ∨ m = 6 ∨ m = 7 ∨ m = 8 ∨ m = 9 := by omega
  rcases this with rfl | rfl | rfl | rfl | rfl | rfl | rfl | rfl | rfl | rfl <;> decide
theorem impl_resend.ev (n : Int) (q : List ByteArray) (s : List Pend) (hnow : 0 ≤ now ∧ now ≤ 999999000) (hs : s.length ≤ 1048576) (h7 : c7.length ≤ 1048576) (ht : TriesP s) :
    Tells F0 (fun k => impl_Send.l0 k k (now, (s.length : Int), (0 : Int), c3, c4, c6, c7, c8, c0, c1, c2, c5, 0, 0, 0, 0, c0, c1, n, c5, [], [], [], [], [], q, s, c6, c7, c8, [])) (· = resM c0 c1 n q s c5 c6 c7 c8 now) := by
  have hM : (s.map (updP now)).length = s.length := List.length_map _
  have h := T_loop (F := F0) (fun k j i => impl_Send.l0 k j (now, (s.length : Int), (i : Int), c3, c4, c6, c7, c8, c0, c1, c2, c5, 0, 0, 0, 0, c0, c1, n, c5, [], [], [], [], [], q, (s.map (updP now)).take i ++ s.drop i, c6, c7, c8, pkts c0 c1 now (s.take i))) s.length (fun _ r => r = resM c0 c1 n q s c5 c6 c7 c8 now) (fun i hi he => by
    have hx := half_at hM hi
    have hlt : i < ((s.map (updP now)).take i ++ s.drop i).length := (List.getElem?_eq_some_iff.1 hx).1
    have hu := upd_at now s i hi
    have hp := pkts_succ c0 c1 now s i hi
    have hpl := pkts_len c0 c1 now s i
    have htr := ht _ (List.getElem_mem hi)
    rw [hp] at he
    dsimp only [impl_Send.l0, impl_Send.s0]
    simp only [Int.toNat_natCast]
    rw [wrs hi (by omega)]
    have skip : due now s[i] = false → Tells (FS F0) (fun x : Nat × Nat => impl_Send.l0 x.1 x.2 (now, (s.length : Int), ((i + 1 : Nat) : Int), c3, c4, c6, c7, c8, c0, c1, c2, c5, 0, 0, 0, 0, c0, c1, n, c5, [], [], [], [], [], q, (s.map (updP now)).take i ++ s.drop i, c6, c7, c8, pkts c0 c1 now (s.take i))) (fun r => r = resM c0 c1 n q s c5 c6 c7 c8 now) := fun e => by
      rw [e, if_neg (by simp), List.append_nil] at he
      rw [half_same hM hi (by rw [hu]; unfold updP; rw [e]; rfl)]
      exact he
    refine T_pos (by omega) (T_getw hx ?_)
    have hs2 : ∀ v, (((s.map (updP now)).take i ++ s.drop i).set i v)[i]? = some v := fun v => List.getElem?_set_self hlt
    simp only [hx, Option.bind_some, hs2, List.set_set]
    refine T_dec (fun e1 => skip (by simp [due, e1])) fun e1 => T_dec (fun e2 => skip (by simp [due, e2])) fun e2 => ?_
    have hd : due now s[i] = true := by simp only [due, e1, e2, decide_false, Bool.not_false, Bool.and_self]
    rw [hd, if_pos rfl, ← mark_step _ _ i _ hM hi hu] at he
    have hw : IntKind.i64.wrap ((s[i]).2.2.2 + 1) = (s[i]).2.2.2 + 1 := wr64 (by omega) (by omega)
    have hm : min ((s[i]).2.2.2 + 1).toNat IntKind.i64.bits = ((s[i]).2.2.2 + 1).toNat := Nat.min_eq_left (by show _ ≤ 64; omega)
    have hpw := two_pow ((s[i]).2.2.2 + 1).toNat (by omega)
    rw [hw, hm, Int.one_mul, wr64 (x := 2 ^ ((s[i]).2.2.2 + 1).toNat) (by omega) (by omega), wr64 (x := now + 2 ^ ((s[i]).2.2.2 + 1).toNat) (by omega) (by omega)]
    refine T_neg (by omega) (T_pos (by first | (simp only [List.length_singleton]; omega) | (simp only [List.length_append, List.length_singleton, List.length_nil]; omega)) ?_)
    have e3 : updP now s[i] = ((s[i]).1, (s[i]).2.1, now + 2 ^ ((s[i]).2.2.2 + 1).toNat, (s[i]).2.2.2 + 1) := by unfold updP; rw [hd]; rfl
    rw [e3] at he
    exact he) (by
    dsimp only [impl_Send.l0, impl_Send.s0]
    have e1 : (s.map (updP now)).take s.length ++ s.drop s.length = s.map (updP now) := by rw [List.drop_length, List.append_nil, List.take_of_length_le (by omega)]
    rw [e1, List.take_length]
    have hpl := pkts_len c0 c1 now s s.length
    rw [List.take_length] at hpl
    have fin : ∀ P : List Pkt, P.length ≠ 0 → outK c0 c1 now c7 s = P → Tells (FS F0) (fun x : Nat × Nat => (impl_copyInts.f x.1 c7).bind fun r => (bif (true && (decide ((0 : Int) < (P.length : Int)))) then (P[0]?).bind fun y => some (c0, c1, n, q, s.map (updP now), c5, c6, ([] : List Int), c8, P.set 0 (y.1, y.2.1, y.2.2.1, y.2.2.2.1, y.2.2.2.2.1, r, y.2.2.2.2.2.2)) else none)) (fun r => r = resM c0 c1 n q s c5 c6 c7 c8 now) := by
      intro P hP hO
      refine T_bindE (T_call (impl_copyInts.ev c7 h7) Prod.fst (fun _ _ h => h.1)) (T_true (by simp; omega) ?_)
      cases P with
      | nil => exact absurd rfl hP
      | cons p r =>
        simp only [List.getElem?_cons_zero, Option.bind_some]
        refine T_ret ?_
        unfold resM
        rw [hO, if_neg hP]
        rfl
    refine T_neg (by omega) (T_beq (fun e2 => T_dec (fun e3 => T_pos (by first | (simp only [List.length_singleton]; omega) | (simp only [List.length_append, List.length_singleton, List.length_nil]; omega)) (T_pos (by simp only [List.length_append, List.length_singleton]; omega) (fin _ (by simp) ?_))) fun e3 => T_neg (by omega) (T_ret ?_)) fun e2 => T_pos (by omega) (fin _ (by omega) ?_))
    · have hnil : pkts c0 c1 now s = [] := List.eq_nil_of_length_eq_zero (by omega)
      unfold outK
      rw [if_pos ⟨by omega, by omega⟩, hnil]
      rfl
    · have hnil : pkts c0 c1 now s = [] := List.eq_nil_of_length_eq_zero (by omega)
      have hO : outK c0 c1 now c7 s = [] := by unfold outK; rw [if_neg fun c => by have := c.2; omega, hnil]
      unfold resM
      rw [hO, hnil]
      rfl
    · unfold outK
      rw [if_neg fun c => by have := c.1; omega]) 0 (Nat.zero_le _)
  exact T_in (g := fun x j => impl_Send.l0 x j _) (by simpa [pkts] using h) (fun k => k) (fun _ _ h => h)
theorem spec_l13Power.ev (m : Nat) (hm : m ≤ 9) : Tells F0 (fun k => spec_l13Power.f k (m : Int)) (· = 2 ^ m) := by
  have h := T_loop (F := F0) (fun k j i => spec_l13Power.l0 k j ((m : Int), 2 ^ i, (i : Int))) m (fun _ r => r = 2 ^ m) (fun i hi he => by
    dsimp only [spec_l13Power.l0, spec_l13Power.s0]
    have hp := two_pow i (by omega)
    rw [wrs hi (by omega), wr64 (x := 2 * 2 ^ i) (by omega) (by omega)]
    rw [Int.pow_succ, Int.mul_comm] at he
    exact T_pos (by omega) he) (by
    dsimp only [spec_l13Power.l0, spec_l13Power.s0]
    exact T_neg (by omega) (T_ret rfl)) 0 (Nat.zero_le _)
  unfold spec_l13Power.f
  exact T_in (g := fun x j => spec_l13Power.l0 x j _) (by simpa using h) (fun k => k) (fun _ _ h => h)
theorem spec_resend.ev (n : Int) (q : List ByteArray) (s : List Pend) (hnow : 0 ≤ now ∧ now ≤ 999999000) (hs : s.length ≤ 1048576) (h7 : c7.length ≤ 1048576) (ht : TriesP s) :
    Tells F0 (fun k => spec_Send.l2 k k (now, (0 : Int), c3, c4, c6, c7, c8, c0, c1, c2, c5, 0, 0, 0, 0, c0, c1, n, c5, [], [], [], [], [], q, s, c6, c7, c8, [])) (· = resM c0 c1 n q s c5 c6 c7 c8 now) := by
  have hM : (s.map (updP now)).length = s.length := List.length_map _
  have h := T_loop (F := F0) (fun k j i => spec_Send.l2 k j (now, (i : Int), c3, c4, c6, c7, c8, c0, c1, c2, c5, 0, 0, 0, 0, c0, c1, n, c5, [], [], [], [], [], q, (s.map (updP now)).take i ++ s.drop i, c6, c7, c8, withA c7 (pkts c0 c1 now (s.take i)))) s.length (fun _ r => r = resM c0 c1 n q s c5 c6 c7 c8 now) (fun i hi he => by
    have hx := half_at hM hi
    have hlt : i < ((s.map (updP now)).take i ++ s.drop i).length := (List.getElem?_eq_some_iff.1 hx).1
    have hu := upd_at now s i hi
    have hp := pkts_succ c0 c1 now s i hi
    have hpl := pkts_len c0 c1 now s i
    have htr := ht _ (List.getElem_mem hi)
    rw [hp] at he
    dsimp only [spec_Send.l2, spec_Send.s2]
    simp only [Int.toNat_natCast]
    rw [wrs hi (by omega)]
    have skip : due now s[i] = false → Tells (FS F0) (fun x : Nat × Nat => spec_Send.l2 x.1 x.2 (now, ((i + 1 : Nat) : Int), c3, c4, c6, c7, c8, c0, c1, c2, c5, 0, 0, 0, 0, c0, c1, n, c5, [], [], [], [], [], q, (s.map (updP now)).take i ++ s.drop i, c6, c7, c8, withA c7 (pkts c0 c1 now (s.take i)))) (fun r => r = resM c0 c1 n q s c5 c6 c7 c8 now) := fun e => by
      rw [e, if_neg (by simp), List.append_nil] at he
      rw [half_same hM hi (by rw [hu]; unfold updP; rw [e]; rfl)]
      exact he
    have hs2 : ∀ v, (((s.map (updP now)).take i ++ s.drop i).set i v)[i]? = some v := fun v => List.getElem?_set_self hlt
    have hw : IntKind.i64.wrap ((s[i]).2.2.2 + 1) = (s[i]).2.2.2 + 1 := wr64 (by omega) (by omega)
    have hpw := two_pow ((s[i]).2.2.2 + 1).toNat (by omega)
    have hpow := spec_l13Power.ev ((s[i]).2.2.2 + 1).toNat (by omega)
    rw [Int.toNat_of_nonneg (by omega)] at hpow
    refine T_pos (by omega) (T_getw hx ?_)
    rw [hw]
    refine T_dec (fun e1 => skip (by simp [due, e1])) fun e1 => T_dec (fun e2 => skip (by simp [due, e2])) fun e2 => ?_
    have hd : due now s[i] = true := by simp only [due, e1, e2, decide_false, Bool.not_false, Bool.and_self]
    rw [hd, if_pos rfl, ← mark_step _ _ i _ hM hi hu, withA_app] at he
    have e3 : updP now s[i] = ((s[i]).1, (s[i]).2.1, now + 2 ^ ((s[i]).2.2.2 + 1).toNat, (s[i]).2.2.2 + 1) := by unfold updP; rw [hd]; rfl
    rw [e3] at he
    have hwl := withA_len c7 (pkts c0 c1 now (s.take i))
    refine T_beq (fun e4 => T_pos (by simp; omega) (T_pos (by first | (simp only [List.length_singleton]; omega) | (simp only [List.length_append, List.length_singleton, List.length_nil]; omega)) (T_getw hx (T_bindE (T_call hpow Prod.fst (fun _ _ h => h.1)) (T_getw (hs2 _) ?_))))) fun e4 => T_pos (by first | (simp only [List.length_singleton]; omega) | (simp only [List.length_append, List.length_singleton, List.length_nil]; omega)) (T_getw hx (T_bindE (T_call hpow Prod.fst (fun _ _ h => h.1)) (T_getw (hs2 _) ?_)))
    · rw [if_pos (by omega)] at he
      have hnil : withA c7 (pkts c0 c1 now (s.take i)) = [] := List.eq_nil_of_length_eq_zero (by omega)
      rw [hnil, List.set_set, wr64 (x := now + 2 ^ ((s[i]).2.2.2 + 1).toNat) (by omega) (by omega)]
      exact he
    · rw [if_neg (by omega)] at he
      rw [List.set_set, wr64 (x := now + 2 ^ ((s[i]).2.2.2 + 1).toNat) (by omega) (by omega)]
      exact he) (by
    dsimp only [spec_Send.l2, spec_Send.s2]
    have e1 : (s.map (updP now)).take s.length ++ s.drop s.length = s.map (updP now) := by rw [List.drop_length, List.append_nil, List.take_of_length_le (by omega)]
    rw [e1, List.take_length]
    have hpl := pkts_len c0 c1 now s s.length
    rw [List.take_length] at hpl
    have hwl := withA_len c7 (pkts c0 c1 now s)
    refine T_neg (by omega) (T_beq (fun e2 => T_dec (fun e3 => T_pos (by simp; omega) (T_pos (by first | (simp only [List.length_singleton]; omega) | (simp only [List.length_append, List.length_singleton, List.length_nil]; omega)) (T_pos (by simp only [List.length_append, List.length_singleton]; omega) (T_ret ?_)))) fun e3 => T_neg (by omega) (T_ret ?_)) fun e2 => T_pos (by omega) (T_ret ?_))
    · have hnil : pkts c0 c1 now s = [] := List.eq_nil_of_length_eq_zero (by omega)
      have hO : outK c0 c1 now c7 s = [(2, 0, c0, c1, 0, [], ByteArray.empty)] := by unfold outK; rw [if_pos ⟨by omega, by omega⟩]
      unfold resM
      rw [hO, hnil]
      rfl
    · have hnil : pkts c0 c1 now s = [] := List.eq_nil_of_length_eq_zero (by omega)
      have hO : outK c0 c1 now c7 s = [] := by unfold outK; rw [if_neg fun c => by have := c.2; omega, hnil]
      unfold resM
      rw [hO, hnil]
      rfl
    · have hO : outK c0 c1 now c7 s = pkts c0 c1 now s := by unfold outK; rw [if_neg fun c => by have := c.1; omega]
      unfold resM
      rw [hO, if_neg (by omega)]) 0 (Nat.zero_le _)
  exact T_in (g := fun x j => spec_Send.l2 x j _) (by simpa [pkts, withA] using h) (fun k => k) (fun _ _ h => h)
end

theorem fill_tries (now : Int) : ∀ (q : List ByteArray) (s : List Pend) (n : Int), TriesP s → TriesP (fillF now q s n).2.1
  | [], s, n, h => h
  | b :: q, s, n, h => by
    simp only [fillF]
    split
    · refine fill_tries now q _ _ fun x hx => ?_
      rcases List.mem_append.1 hx with hx | hx
      · exact h x hx
      · rw [List.mem_singleton] at hx
        rw [hx]
        exact ⟨Int.le_refl _, by show (0 : Int) ≤ 8; omega⟩
    · exact h
theorem fill_len (now : Int) : ∀ (q : List ByteArray) (s : List Pend) (n : Int), (fillF now q s n).2.1.length ≤ s.length + q.length ∧ (fillF now q s n).1.length ≤ q.length
  | [], s, n => ⟨Nat.le_refl _, Nat.le_refl _⟩
  | b :: q, s, n => by
    simp only [fillF]
    split
    · have := fill_len now q (s ++ [(n + 1, b, now, 0)]) (n + 1)
      simp only [List.length_append, List.length_cons, List.length_nil] at this ⊢
      omega
    · exact ⟨by dsimp only; omega, Nat.le_refl _⟩
section
variable (c0 c1 c2 : Int) (c3 : List ByteArray) (c4 : List Pend) (c5 : Int) (c6 : List Earl) (c7 : List Int) (c8 : List ByteArray) (now : Int)
theorem spec_fill.ev (n : Int) (q : List ByteArray) (s : List Pend) (hnow : 0 ≤ now ∧ now ≤ 999999000) (hn : 0 ≤ n ∧ n ≤ 1000000) (hq : q.length ≤ 100000) (hs : s.length ≤ 100000) (h7 : c7.length ≤ 1048576) (ht : TriesP s) :
    Tells F0 (fun k => spec_Send.l0 k k (now, c3, c4, c6, c7, c8, c0, c1, c2, c5, 0, 0, 0, 0, c0, c1, n, c5, [], [], [], [], [], q, s, c6, c7, c8, [])) (· = resM c0 c1 (fillF now q s n).2.2 (fillF now q s n).1 (fillF now q s n).2.1 c5 c6 c7 c8 now) := by
  have hres := spec_resend.ev c0 c1 c2 c3 c4 c5 c6 c7 c8 now (fillF now q s n).2.2 (fillF now q s n).1 (fillF now q s n).2.1 hnow (by have := fill_len now q s n; omega) h7 (fill_tries now q s n ht)
  have h := T_loops (F := F0) (fun k j (t : List ByteArray × List Pend × Int) (_ : Nat) => spec_Send.l0 k j (now, c3, c4, c6, c7, c8, c0, c1, c2, c5, 0, 0, 0, 0, c0, c1, t.2.2, c5, [], [], [], [], [], t.1, t.2.1, c6, c7, c8, [])) q.length (fun i t => t.1.length + i = q.length ∧ t.2.1.length ≤ s.length + i ∧ t.2.2 = n + i ∧ fillF now t.1 t.2.1 t.2.2 = fillF now q s n) (fun _ _ r => r = resM c0 c1 (fillF now q s n).2.2 (fillF now q s n).1 (fillF now q s n).2.1 c5 c6 c7 c8 now) (fun i t hi ht he => by
    obtain ⟨q', s', n'⟩ := t
    obtain ⟨h1, h2, h3, h4⟩ := ht
    dsimp only at h1 h2 h3 h4
    cases q' with
    | nil => simp at h1; omega
    | cons b r =>
      have hb1 : (b :: r).length = r.length + 1 := rfl
      dsimp only [spec_Send.l0, spec_Send.s0]
      simp only [List.getElem?_cons_zero, Option.bind_some, tl_eq, List.nil_append, List.length_nil, Nat.zero_add]
      rw [wr64 (x := n' + 1) (by omega) (by omega), wr64 (x := n' + 1 - 4) (by omega) (by omega)]
      have stop : ¬ canF s' n' → Tells (FS F0) (fun x : Nat × Nat => spec_Send.l2 x.1 x.1 (now, (0 : Int), c3, c4, c6, c7, c8, c0, c1, c2, c5, 0, 0, 0, 0, c0, c1, n', c5, [], [], [], [], [], b :: r, s', c6, c7, c8, [])) (fun r => r = resM c0 c1 (fillF now q s n).2.2 (fillF now q s n).1 (fillF now q s n).2.1 c5 c6 c7 c8 now) := fun hc => by
        have e : fillF now q s n = (b :: r, s', n') := by
          rw [← h4]
          simp only [fillF]
          rw [if_neg hc]
        rw [e] at hres ⊢
        exact T_call hres Prod.fst (fun _ _ h => h.1)
      have go : canF s' n' → Tells (FS F0) (fun x : Nat × Nat => spec_Send.l0 x.1 x.2 (now, c3, c4, c6, c7, c8, c0, c1, c2, c5, 0, 0, 0, 0, c0, c1, n' + 1, c5, [], [], [], [], [], r, s' ++ [(n' + 1, b, now, 0)], c6, c7, c8, [])) (fun r => r = resM c0 c1 (fillF now q s n).2.2 (fillF now q s n).1 (fillF now q s n).2.1 c5 c6 c7 c8 now) := fun hc => by
        simp only [fillF] at h4
        rw [if_pos hc] at h4
        exact he (r, s' ++ [(n' + 1, b, now, 0)], n' + 1) ⟨by dsimp only; omega, by simp only [List.length_append, List.length_singleton]; omega, by dsimp only; omega, h4⟩
      refine T_pos (by rw [hb1]; omega) (T_dec (fun e1 => T_beq (fun e2 => T_true (by simp <;> omega) (T_pos (by first | (simp only [List.length_singleton]; omega) | (simp only [List.length_append, List.length_singleton, List.length_nil]; omega)) (T_true (by simp <;> omega) (T_pos (by omega) (go ⟨by omega, .inl (by omega)⟩))))) fun e2 => ?_) fun e1 => stop (fun c => by have := c.1; omega))
      cases s' with
      | nil => simp at e2
      | cons y t =>
        simp only [List.getElem?_cons_zero, Option.bind_some]
        refine T_true (by simp <;> omega) (T_dec (fun e3 => T_true (by simp <;> omega) (T_pos (by first | (simp only [List.length_singleton]; omega) | (simp only [List.length_append, List.length_singleton, List.length_nil]; omega)) (T_true (by simp <;> omega) (T_pos (by omega) (go ⟨by omega, .inr (by show y.1 > _; omega)⟩))))) fun e3 => stop fun c => ?_)
        rcases c.2 with c | c
        · simp at c
        · have c : y.1 > n' - 3 := c
          omega) (fun t ht => by
    obtain ⟨q', s', n'⟩ := t
    obtain ⟨h1, h2, h3, h4⟩ := ht
    dsimp only at h1 h2 h3 h4
    have hl : q' = [] := List.eq_nil_of_length_eq_zero (by omega)
    subst hl
    dsimp only [spec_Send.l0, spec_Send.s0]
    refine T_neg (by simp) ?_
    have e : fillF now q s n = ([], s', n') := by rw [← h4]; rfl
    rw [e] at hres ⊢
    exact T_call hres Prod.fst (fun _ _ h => h.1)) 0 (q, s, n) (Nat.zero_le _) ⟨rfl, Nat.le_refl _, by simp, rfl⟩
  exact T_in (g := fun x j => spec_Send.l0 x j _) (by simpa using h) (fun k => k) (fun _ _ h => h)
theorem chan_tries (h : ChanP c0 c1 c2 c3 c4 c5 c6 c7 c8) : TriesP c4 := by
  intro x hx
  obtain ⟨i, hi, rfl⟩ := List.getElem_of_mem hx
  have := (h.2.1.1 i hi hi).2.2.2.1
  omega
open Classical in
noncomputable def sendM : SendR := if ChanP c0 c1 c2 c3 c4 c5 c6 c7 c8 ∧ (0 ≤ now ∧ now ≤ 999999000) then resM c0 c1 (fillF now c3 c4 c2).2.2 (fillF now c3 c4 c2).1 (fillF now c3 c4 c2).2.1 c5 c6 c7 c8 now else (c0, c1, c2, c3, c4, c5, c6, c7, c8, [])
theorem impl_Send.ev (h3 : c3.length ≤ 1048576) (h4 : c4.length ≤ 1048576) (h6 : c6.length ≤ 1048576) (h7 : c7.length ≤ 1048576) (h8 : c8.length ≤ 1048576) :
    Tells F0 (fun k => impl_Send.f k c0 c1 c2 c3 c4 c5 c6 c7 c8 now) (· = sendM c0 c1 c2 c3 c4 c5 c6 c7 c8 now) := by
  unfold impl_Send.f
  simp only [within_eq, Option.bind_some]
  refine T_bindE (impl_copyChan.ev c0 c1 c2 c3 c4 c5 c6 c7 c8 h3 h4 h6 h7 h8) (T_bind (impl_ChanOk.ev c0 c1 c2 c3 c4 c5 c6 c7 c8 h3 h4 h6 h7 h8) fun r hr => ?_)
  dsimp only
  unfold sendM
  cases r with
  | false => exact T_true rfl (T_ret (by rw [if_neg fun c => by have := hr.2 c.1; cases this]))
  | true =>
  have hc := hr.1 rfl
  have q1 := hc.1.2.2.1
  have q2 := hc.1.2.2.2.1
  have q3 := hc.2.1.2
  refine T_false rfl (T_ndec (fun hn => ?_) fun hn => T_ret (by rw [if_neg fun c => hn c.2]))
  rw [if_pos ⟨hc, hn⟩]
  have htr := chan_tries c0 c1 c2 c3 c4 c5 c6 c7 c8 hc
  refine T_bindE (impl_fill.ev c0 c1 c5 c6 c7 c8 now c2 c3 c4 (by omega) h3 h4) ?_
  exact impl_resend.ev c0 c1 c2 c3 c4 c5 c6 c7 c8 now (fillF now c3 c4 c2).2.2 (fillF now c3 c4 c2).1 (fillF now c3 c4 c2).2.1 hn (by have := fill_len now c3 c4 c2; omega) h7 (fill_tries now c3 c4 c2 htr)
theorem spec_Send.ev (h3 : c3.length ≤ 1048576) (h4 : c4.length ≤ 1048576) (h6 : c6.length ≤ 1048576) (h7 : c7.length ≤ 1048576) (h8 : c8.length ≤ 1048576) :
    Tells F0 (fun k => spec_Send.f k c0 c1 c2 c3 c4 c5 c6 c7 c8 now) (· = sendM c0 c1 c2 c3 c4 c5 c6 c7 c8 now) := by
  unfold spec_Send.f
  simp only [in_eq, Option.bind_some]
  refine T_bindE (spec_l13Copy.ev c0 c1 c2 c3 c4 c5 c6 c7 c8 h3 h4 h6 h7 h8) (T_bind (spec_ChanOk.ev c0 c1 c2 c3 c4 c5 c6 c7 c8 h3 h4 h6 h7 h8) fun r hr => ?_)
  dsimp only
  unfold sendM
  cases r with
  | false => exact T_true rfl (T_ret (by rw [if_neg fun c => by have := hr.2 c.1; cases this]))
  | true =>
  have hc := hr.1 rfl
  have q1 := hc.1.2.2.1
  have q2 := hc.1.2.2.2.1
  have q3 := hc.2.1.2
  refine T_false rfl (T_ndec (fun hn => ?_) fun hn => T_ret (by rw [if_neg fun c => hn c.2]))
  rw [if_pos ⟨hc, hn⟩]
  exact spec_fill.ev c0 c1 c2 c3 c4 c5 c6 c7 c8 now c2 c3 c4 hn (by omega) (by omega) (by omega) h7 (chan_tries c0 c1 c2 c3 c4 c5 c6 c7 c8 hc)
end

theorem laws_eqPacketS.ev (l : List Pkt) (hn : l.length ≤ 1000000000000000000) (hA : ∀ x ∈ l, x.2.2.2.2.2.1.length ≤ 1000000000000000000) : Tells F0 (fun k => laws_eqPacketS.f k l l) (· = true) := by
  have h := T_loop (F := F0) (fun k j i => laws_eqPacketS.l0 k j ((i : Int), l, l)) l.length (fun _ r => r = true) (fun i hi he => by
    dsimp only [laws_eqPacketS.l0, laws_eqPacketS.s0]
    simp only [Int.toNat_natCast]
    refine T_pos (by omega) (T_get hi (T_get hi ?_))
    refine T_bindE (T_call (laws_eqPacket.ev _ _ _ _ _ _ _ (hA _ (List.getElem_mem hi))) Prod.fst (fun _ _ h => h.1)) ?_
    refine T_same rfl ?_
    rw [wrs hi (by omega)]
    exact he) (by
    dsimp only [laws_eqPacketS.l0, laws_eqPacketS.s0]
    exact T_neg (by omega) (T_ret rfl)) 0 (Nat.zero_le _)
  unfold laws_eqPacketS.f
  exact T_same (by simp) (T_in (g := fun x j => laws_eqPacketS.l0 x j _) h (fun k => k) (fun _ _ h => h))
abbrev acks (x : Pkt) : List Int := x.2.2.2.2.2.1
noncomputable def mkPk (c : Nat) (a : Nat) : Pkt := (((c : Nat) : Int), ((c + 1 : Nat) : Int), ((c + 2 : Nat) : Int), ((c + 3 : Nat) : Int), ((c + 4 : Nat) : Int), mkd_Int (c + 5) a, mtxt (c + 5 + 1 * a))
noncomputable def mkdPk : Nat → List Pkt → List Pkt
  | _, [] => []
  | c, x :: r => mkPk c (acks x).length :: mkdPk (c + 5 + 1 * (acks x).length + 1) r
def cntPk : List Pkt → Nat
  | [] => 0
  | x :: r => 5 + 1 * (acks x).length + 1 + cntPk r
theorem mkdPk_len : ∀ (l : List Pkt) (c : Nat), (mkdPk c l).length = l.length
  | [], _ => rfl
  | _ :: r, c => by simp only [mkdPk, List.length_cons, mkdPk_len r]
theorem mkdPk_at : ∀ (l : List Pkt) (c i : Nat) (h : i < l.length), (mkdPk c l)[i]? = some (mkPk (c + cntPk (l.take i)) (acks l[i]).length)
  | x :: r, c, 0, _ => by simp [mkdPk, cntPk]
  | x :: r, c, i + 1, h => by
    have := mkdPk_at r (c + 5 + 1 * (acks x).length + 1) i (by simpa using h)
    simp only [mkdPk, List.getElem?_cons_succ, List.take_succ_cons, cntPk, List.getElem_cons_succ, this]
    congr 2
    omega
theorem cntPk_succ : ∀ (l : List Pkt) (i : Nat) (h : i < l.length), cntPk (l.take (i + 1)) = cntPk (l.take i) + (5 + 1 * (acks l[i]).length + 1)
  | x :: r, 0, _ => by simp [cntPk]
  | x :: r, i + 1, h => by
    have := cntPk_succ r i (by simpa using h)
    simp only [List.take_succ_cons, cntPk, List.getElem_cons_succ, this]
    omega
theorem cntPk_le : ∀ (l : List Pkt) (i : Nat), cntPk (l.take i) ≤ cntPk l
  | [], i => by simp
  | x :: r, 0 => by simp [cntPk]
  | x :: r, i + 1 => by
    have := cntPk_le r i
    simp only [List.take_succ_cons, cntPk]
    omega
theorem halfPk_at {M l : List Pkt} {i : Nat} (hl : M.length = l.length) (h : i < l.length) : (M.take i ++ l.drop i)[i]? = some l[i] := by
  rw [List.getElem?_append_right (by simp; omega)]
  simp only [List.length_take]
  rw [Nat.min_eq_left (by omega), Nat.sub_self, List.getElem?_drop, Nat.add_zero, List.getElem?_eq_getElem h]
theorem laws_markPacketS.ev (l : List Pkt) (n : Nat) (hb : n + cntPk l ≤ 1000000000000000000) (hln : l.length ≤ 1000000000000000000) : Tells F0 (fun k => laws_markPacketS.f k l (n : Int)) (· = (((n + cntPk l : Nat) : Int), mkdPk n l)) := by
  have hM := mkdPk_len l n
  have h := T_loop (F := F0) (fun k j i => laws_markPacketS.l0 k j (((n + cntPk (l.take i) : Nat) : Int), (i : Int), (mkdPk n l).take i ++ l.drop i)) l.length (fun _ r => r = (((n + cntPk l : Nat) : Int), mkdPk n l)) (fun i hi he => by
    have hv := mkdPk_at l n i hi
    have hs := mark_step (mkdPk n l) l i _ hM hi hv
    have hx := halfPk_at hM hi
    have hL : i < ((mkdPk n l).take i ++ l.drop i).length := (List.getElem?_eq_some_iff.1 hx).1
    have hc := cntPk_succ l i hi
    have hc2 := cntPk_le l (i + 1)
    rw [hc] at he
    rw [← hs] at he
    generalize (mkdPk n l).take i ++ l.drop i = L at hx hL he ⊢
    obtain ⟨c, e⟩ : ∃ c, c = n + cntPk (l.take i) := ⟨_, rfl⟩
    rw [← e] at he ⊢
    have e2 : n + (cntPk (l.take i) + (5 + 1 * (acks l[i]).length + 1)) = c + 5 + 1 * (acks l[i]).length + 1 := by omega
    rw [e2] at he
    have hbc : c + 5 + 1 * (acks l[i]).length + 1 ≤ 1000000000000000000 := by omega
    have w0 : IntKind.i64.wrap (((c : Nat) : Int) + 1) = ((c + 1 : Nat) : Int) := wrn (by omega)
    have w1 : IntKind.i64.wrap (((c + 1 : Nat) : Int) + 1) = ((c + 2 : Nat) : Int) := wrn (by omega)
    have w2 : IntKind.i64.wrap (((c + 2 : Nat) : Int) + 1) = ((c + 3 : Nat) : Int) := wrn (by omega)
    have w3 : IntKind.i64.wrap (((c + 3 : Nat) : Int) + 1) = ((c + 4 : Nat) : Int) := wrn (by omega)
    have w4 : IntKind.i64.wrap (((c + 4 : Nat) : Int) + 1) = ((c + 5 : Nat) : Int) := wrn (by omega)
    have w5 : IntKind.i64.wrap (((c + 5 + 1 * (acks l[i]).length : Nat) : Int) + 1) = ((c + 5 + 1 * (acks l[i]).length + 1 : Nat) : Int) := wrn (by omega)
    have hs2 : ∀ v, (L.set i v)[i]? = some v := fun v => List.getElem?_set_self hL
    dsimp only [laws_markPacketS.l0, laws_markPacketS.s0]
    simp only [Int.toNat_natCast, w0, w1, w2, w3, w4, wrs hi (show l.length ≤ 9223372036854775807 by omega), hx, Option.bind_some, hs2, List.set_set, List.length_set]
    refine T_pos (by omega) (T_and (by omega) (by omega) (T_and (by omega) (by omega) (T_and (by omega) (by omega) (T_and (by omega) (by omega) (T_and (by omega) (by omega) (T_and (by omega) (by omega) ?_))))))
    refine T_bindE (T_call (laws_markIntS.ev (acks l[i]) (c + 5) (by omega)) Prod.fst (fun _ _ h => h.1)) ?_
    dsimp only
    refine T_bindE (T_call (laws_markText.ev (c + 5 + 1 * (acks l[i]).length) (by omega)) Prod.fst (fun _ _ h => h.1)) ?_
    refine T_and (by omega) (by omega) ?_
    rw [w5]
    exact he) (by
    dsimp only [laws_markPacketS.l0, laws_markPacketS.s0]
    refine T_neg (by simp; omega) (T_ret ?_)
    rw [List.take_length, List.take_of_length_le (l := mkdPk n l) (by omega), List.drop_length, List.append_nil]) 0 (Nat.zero_le _)
  unfold laws_markPacketS.f
  refine T_in (g := fun x j => laws_markPacketS.l0 x j _) ?_ (fun k => k) (fun _ _ h => h)
  simpa [cntPk] using h
theorem laws_heldPacketS.ev (l : List Pkt) (n : Nat) (hb : n + cntPk l ≤ 1000000000000000000) (hln : l.length ≤ 1000000000000000000) : Tells F0 (fun k => laws_heldPacketS.f k (mkdPk n l) (n : Int)) (· = ((n + cntPk l : Nat) : Int)) := by
  have hM := mkdPk_len l n
  have h := T_loop (F := F0) (fun k j i => laws_heldPacketS.l0 k j (((n + cntPk (l.take i) : Nat) : Int), (i : Int), mkdPk n l)) l.length (fun _ r => r = ((n + cntPk l : Nat) : Int)) (fun i hi he => by
    have hx := mkdPk_at l n i hi
    have hL : i < (mkdPk n l).length := (List.getElem?_eq_some_iff.1 hx).1
    have hc := cntPk_succ l i hi
    have hc2 := cntPk_le l (i + 1)
    rw [hc] at he
    obtain ⟨c, e⟩ : ∃ c, c = n + cntPk (l.take i) := ⟨_, rfl⟩
    rw [← e] at hx ⊢
    have e2 : n + (cntPk (l.take i) + (5 + 1 * (acks l[i]).length + 1)) = c + 5 + 1 * (acks l[i]).length + 1 := by omega
    rw [e2] at he
    have hbc : c + 5 + 1 * (acks l[i]).length + 1 ≤ 1000000000000000000 := by omega
    have w0 : IntKind.i64.wrap (((c : Nat) : Int) + 1) = ((c + 1 : Nat) : Int) := wrn (by omega)
    have w1 : IntKind.i64.wrap (((c + 1 : Nat) : Int) + 1) = ((c + 2 : Nat) : Int) := wrn (by omega)
    have w2 : IntKind.i64.wrap (((c + 2 : Nat) : Int) + 1) = ((c + 3 : Nat) : Int) := wrn (by omega)
    have w3 : IntKind.i64.wrap (((c + 3 : Nat) : Int) + 1) = ((c + 4 : Nat) : Int) := wrn (by omega)
    have w4 : IntKind.i64.wrap (((c + 4 : Nat) : Int) + 1) = ((c + 5 : Nat) : Int) := wrn (by omega)
    have w5 : IntKind.i64.wrap (((c + 5 + 1 * (acks l[i]).length : Nat) : Int) + 1) = ((c + 5 + 1 * (acks l[i]).length + 1 : Nat) : Int) := wrn (by omega)
    dsimp only [laws_heldPacketS.l0, laws_heldPacketS.s0]
    simp only [Int.toNat_natCast, w0, w1, w2, w3, w4, wrs hi (show l.length ≤ 9223372036854775807 by omega), hx, Option.bind_some]
    refine T_pos (by omega) (T_and (by omega) (by omega) (T_same (by simp [mkPk]) (T_and (by omega) (by omega) (T_same (by simp [mkPk]) (T_and (by omega) (by omega) (T_same (by simp [mkPk]) (T_and (by omega) (by omega) (T_same (by simp [mkPk]) (T_and (by omega) (by omega) (T_same (by simp [mkPk]) (T_and (by omega) (by omega) ?_)))))))))))
    refine T_bindE (T_call (laws_heldIntS.ev (acks l[i]).length (c + 5) (by omega)) Prod.fst (fun _ _ h => h.1)) ?_
    refine T_neg (by omega) (T_and (by omega) (by omega) ?_)
    refine T_bindE (T_call (laws_markText.ev (c + 5 + 1 * (acks l[i]).length) (by omega)) Prod.fst (fun _ _ h => h.1)) ?_
    refine T_same (by simp [mkPk]) ?_
    rw [w5]
    exact he) (by
    dsimp only [laws_heldPacketS.l0, laws_heldPacketS.s0]
    refine T_neg (by omega) (T_ret ?_)
    rw [List.take_length]) 0 (Nat.zero_le _)
  unfold laws_heldPacketS.f
  exact T_in (g := fun x j => laws_heldPacketS.l0 x j _) (by simpa [cntPk] using h) (fun k => k) (fun _ _ h => h)

theorem fill_len2 (now : Int) : ∀ (q : List ByteArray) (s : List Pend) (n : Int), (fillF now q s n).2.1.length ≤ s.length + q.length ∧ (fillF now q s n).1.length ≤ q.length := fill_len now
theorem cntPk_bd (A : Nat) : ∀ l : List Pkt, (∀ x ∈ l, (acks x).length ≤ A) → cntPk l ≤ l.length * (6 + A)
  | [], _ => by simp [cntPk]
  | x :: r, h => by
    have h1 := cntPk_bd A r fun y hy => h y (by simp [hy])
    have h2 := h x (by simp)
    simp only [cntPk, List.length_cons, Nat.add_mul]
    omega
theorem withA_mem (a : List Int) : ∀ P : List Pkt, (∀ x ∈ P, acks x = []) → ∀ x ∈ withA a P, (acks x).length ≤ a.length
  | [], _, x, hx => by cases hx
  | p :: r, h, x, hx => by
    simp only [withA, List.mem_cons] at hx
    rcases hx with rfl | hx
    · exact Nat.le_refl _
    · rw [h x (by simp [hx])]; exact Nat.zero_le _
theorem outK_spec (me peer now : Int) (owed : List Int) (s : List Pend) : (outK me peer now owed s).length ≤ s.length + 1 ∧ ∀ x ∈ outK me peer now owed s, acks x = [] := by
  unfold outK
  split
  · exact ⟨by simp, fun x hx => by simp at hx; rw [hx]⟩
  · refine ⟨?_, fun x hx => ?_⟩
    · have := pkts_len me peer now s s.length
      rw [List.take_length] at this
      omega
    · unfold pkts at hx
      obtain ⟨y, _, rfl⟩ := List.mem_map.1 hx
      rfl
section
variable (c0 c1 c2 : Int) (c3 : List ByteArray) (c4 : List Pend) (c5 : Int) (c6 : List Earl) (c7 : List Int) (c8 : List ByteArray) (now : Int)
theorem send_len (h3 : c3.length ≤ 1048576) (h4 : c4.length ≤ 1048576) (h6 : c6.length ≤ 1048576) (h7 : c7.length ≤ 1048576) (h8 : c8.length ≤ 1048576) :
    (sendM c0 c1 c2 c3 c4 c5 c6 c7 c8 now).2.2.2.1.length ≤ 1048576 ∧ (sendM c0 c1 c2 c3 c4 c5 c6 c7 c8 now).2.2.2.2.1.length ≤ 2097152 ∧ (sendM c0 c1 c2 c3 c4 c5 c6 c7 c8 now).2.2.2.2.2.2.1.length ≤ 1048576 ∧ (sendM c0 c1 c2 c3 c4 c5 c6 c7 c8 now).2.2.2.2.2.2.2.1.length ≤ 1048576 ∧ (sendM c0 c1 c2 c3 c4 c5 c6 c7 c8 now).2.2.2.2.2.2.2.2.1.length ≤ 1048576 ∧
      (sendM c0 c1 c2 c3 c4 c5 c6 c7 c8 now).2.2.2.2.2.2.2.2.2.length ≤ 2097153 ∧ (∀ x ∈ (sendM c0 c1 c2 c3 c4 c5 c6 c7 c8 now).2.2.2.2.2.2.2.2.2, (acks x).length ≤ 1000000000000000000) ∧ cntPk (sendM c0 c1 c2 c3 c4 c5 c6 c7 c8 now).2.2.2.2.2.2.2.2.2 ≤ 10000000000000 := by
  unfold sendM
  split
  · have hf := fill_len now c3 c4 c2
    have ho := outK_spec c0 c1 now c7 (fillF now c3 c4 c2).2.1
    have hw := withA_mem c7 _ ho.2
    have hwl := withA_len c7 (outK c0 c1 now c7 (fillF now c3 c4 c2).2.1)
    have hb := cntPk_bd 1048576 (withA c7 (outK c0 c1 now c7 (fillF now c3 c4 c2).2.1)) (fun x hx => Nat.le_trans (hw x hx) h7)
    unfold resM
    dsimp only
    refine ⟨by omega, by rw [List.length_map]; omega, h6, ?_, h8, by omega, fun x hx => ?_, ?_⟩
    · split
      · exact h7
      · simp
    · have := hw x hx
      omega
    · refine Nat.le_trans hb (Nat.le_trans (Nat.mul_le_mul_right _ (show _ ≤ 2097153 by omega)) (by decide))
  · exact ⟨h3, by dsimp only; omega, h6, h7, h8, by simp, by simp, by simp [cntPk]⟩
end
theorem FnExactSend : laws_FnExactSend.Goal := by
  intro a0_0 a0_1 a0_2 a0_3 a0_4 a0_5 a0_6 a0_7 a0_8 a1 g_a0_0 g_a0_1 g_a0_2 g_a0_3 g_a0_4 g_a0_5 g_a0_6 g_a0_7 g_a0_8 g_a1
  replace g_a0_0 := wf64 g_a0_0
  replace g_a0_1 := wf64 g_a0_1
  replace g_a0_2 := wf64 g_a0_2
  have s_a0_3 : ∀ x ∈ a0_3, ByteArray.size x ≤ 140737488351232 := fun x hx => g_a0_3.2.2 x hx
  replace g_a0_3 : a0_3.length ≤ maxLen ∧ True := ⟨g_a0_3.1, trivial⟩
  have s_a0_4 : ∀ x ∈ a0_4, ByteArray.size x.2.1 ≤ 140737488351232 := fun x hx => (g_a0_4.2.2 x hx).2.1
  replace g_a0_4 : a0_4.length ≤ maxLen ∧ True := ⟨g_a0_4.1, trivial⟩
  replace g_a0_5 := wf64 g_a0_5
  have s_a0_6 : ∀ x ∈ a0_6, ByteArray.size x.2 ≤ 140737488351232 := fun x hx => (g_a0_6.2.2 x hx).2
  replace g_a0_6 : a0_6.length ≤ maxLen ∧ True := ⟨g_a0_6.1, trivial⟩
  replace g_a0_7 : a0_7.length ≤ maxLen ∧ True := ⟨g_a0_7.1, trivial⟩
  have s_a0_8 : ∀ x ∈ a0_8, ByteArray.size x ≤ 140737488351232 := fun x hx => g_a0_8.2.2 x hx
  replace g_a0_8 : a0_8.length ≤ maxLen ∧ True := ⟨g_a0_8.1, trivial⟩
  replace g_a1 := wf64 g_a1
  refine Tells.rounds ?_
  unfold laws_FnExactSend.f
  refine T_bind (laws_szChan.ev a0_0 a0_1 a0_2 a0_3 a0_4 a0_5 a0_6 a0_7 a0_8 _ g_a0_3.1 (s_a0_3) g_a0_4.1 (s_a0_4) g_a0_6.1 (s_a0_6) g_a0_7.1 g_a0_8.1 (s_a0_8) (by omega) (by omega)) fun v1 q1 => T_dec (fun _ => T_ret rfl) fun e1 => ?_
  obtain ⟨_, _, z_a0_3, t_a0_3, z_a0_4, t_a0_4, z_a0_6, t_a0_6, z_a0_7, z_a0_8, t_a0_8⟩ := q1.resolve_left (by omega)
  obtain ⟨b3, b4, b6, b7, b8, b9, b10, b11⟩ := send_len a0_0 a0_1 a0_2 a0_3 a0_4 a0_5 a0_6 a0_7 a0_8 a1 z_a0_3 z_a0_4 z_a0_6 z_a0_7 z_a0_8
  refine T_bindE (laws_toChan.ev a0_0 a0_1 a0_2 a0_3 a0_4 a0_5 a0_6 a0_7 a0_8 z_a0_3 z_a0_4 z_a0_6 z_a0_7 z_a0_8) ?_
  refine T_bindE (spec_Send.ev a0_0 a0_1 a0_2 a0_3 a0_4 a0_5 a0_6 a0_7 a0_8 a1 z_a0_3 z_a0_4 z_a0_6 z_a0_7 z_a0_8) ?_
  refine T_bindE (laws_toChan.ev a0_0 a0_1 a0_2 a0_3 a0_4 a0_5 a0_6 a0_7 a0_8 z_a0_3 z_a0_4 z_a0_6 z_a0_7 z_a0_8) ?_
  refine T_bindE (impl_Send.ev a0_0 a0_1 a0_2 a0_3 a0_4 a0_5 a0_6 a0_7 a0_8 a1 z_a0_3 z_a0_4 z_a0_6 z_a0_7 z_a0_8) ?_
  refine T_bindE (laws_eqChan.ev _ _ _ _ _ _ _ _ _ (by omega) (by omega) (by omega) (by omega) (by omega)) ?_
  refine T_same rfl ?_
  refine T_bindE (laws_eqPacketS.ev _ (by omega) b10) ?_
  refine T_same rfl ?_
  refine T_bindE (laws_toChan.ev a0_0 a0_1 a0_2 a0_3 a0_4 a0_5 a0_6 a0_7 a0_8 z_a0_3 z_a0_4 z_a0_6 z_a0_7 z_a0_8) ?_
  refine T_bindE (laws_eqChan.ev a0_0 a0_1 a0_2 a0_3 a0_4 a0_5 a0_6 a0_7 a0_8 (by omega) (by omega) (by omega) (by omega) (by omega)) ?_
  refine T_same rfl ?_
  refine T_bindE (laws_markChan.ev a0_0 a0_1 a0_2 a0_3 a0_4 a0_5 a0_6 a0_7 a0_8 (1) (by omega)) ?_
  refine T_neg (by omega) ?_
  refine T_bindE (laws_eqChan.ev _ _ _ _ _ _ _ _ _ (by omega) (by omega) (by omega) (by omega) (by omega)) ?_
  refine T_same rfl ?_
  refine T_bindE (laws_eqPacketS.ev _ (by omega) b10) ?_
  refine T_same rfl ?_
  refine T_bindE (laws_markChan.ev _ _ _ _ _ _ _ _ _ 1 ?_) ?_
  · omega
  refine T_bindE (laws_markPacketS.ev _ _ ?_ (by omega)) ?_
  · omega
  refine T_bindE (laws_heldChan.ev _ _ _ _ _ _ _ _ _ 1 ?_) ?_
  · omega
  refine T_neg (by omega) ?_
  refine T_bindE (laws_heldPacketS.ev _ _ ?_ (by omega)) ?_
  · omega
  refine T_neg (by omega) ?_
  refine T_same (by simp) ?_
  refine T_bindE (laws_toChan.ev a0_0 a0_1 a0_2 a0_3 a0_4 a0_5 a0_6 a0_7 a0_8 z_a0_3 z_a0_4 z_a0_6 z_a0_7 z_a0_8) ?_
  refine T_bindE (impl_Send.ev a0_0 a0_1 a0_2 a0_3 a0_4 a0_5 a0_6 a0_7 a0_8 a1 z_a0_3 z_a0_4 z_a0_6 z_a0_7 z_a0_8) ?_
  refine T_bindE (laws_eqChan.ev _ _ _ _ _ _ _ _ _ (by omega) (by omega) (by omega) (by omega) (by omega)) ?_
  refine T_same rfl ?_
  refine T_bindE (laws_eqPacketS.ev _ (by omega) b10) ?_
  refine T_same rfl ?_
  refine T_bindE (laws_heldChan.ev _ _ _ _ _ _ _ _ _ 1 ?_) ?_
  · omega
  refine T_neg (by omega) ?_
  refine T_bindE (laws_heldPacketS.ev _ _ ?_ (by omega)) ?_
  · omega
  refine T_neg (by omega) ?_
  refine T_same (by simp) ?_
  exact T_ret rfl

end Go.Proofs.Ytpheniajdbbphaa.DI.Pure
