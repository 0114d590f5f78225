/- FnExactTake, the plain part: from some fuel on the law answers true. -/
import Derived.Test.YtpheniajdbbphaaGoalFnExactTake
import Derived.Test.YtpheniajdbbphaaKITE
namespace Go.Proofs.Ytpheniajdbbphaa.DI.Pure
open Go Go.RowKit
set_option linter.unusedVariables false
set_option linter.unusedSimpArgs false
theorem strn_size (l : List Int) : (strOfNums l).size = l.length := by simp [strOfNums, ByteArray.size]
theorem markText_l0 : ∀ (d : Nat) (n : Int) (b : ByteArray), 0 ≤ n → n ≤ 1000000000000000000 → n < 10 ^ d → b.size + d ≤ 1000 → ∃ r, Tells (FS F0) (fun x => laws_markText.l0 x.1 x.2 (n, b)) (· = r) := by
  intro d
  induction d with
  | zero =>
    intro n b h0 hx h1 hb
    have hn : n = 0 := by simp at h1; omega
    refine ⟨(⟨#[109]⟩ : ByteArray) ++ b, T_step (g := fun k j => laws_markText.l0 k j (n, b)) ?_⟩
    dsimp only [laws_markText.l0, laws_markText.s0]
    exact T_neg (by omega) (T_pos (by show 1 + b.size ≤ _; omega) (T_ret rfl))
  | succ d ih =>
    intro n b h0 hx h1 hb
    have h2 : (10 : Int) ^ (d + 1) = 10 ^ d * 10 := Int.pow_succ _ _
    by_cases hn : n > 0
    · have et : IntKind.i64.wrap (Int.tdiv n 10) = n / 10 := by rw [Int.tdiv_eq_ediv_of_nonneg h0]; exact wr64 (by omega) (by omega)
      have hs := fun x : Int => strn_size [x]
      obtain ⟨r, hr⟩ := ih (n / 10) (strOfNums [IntKind.u8.wrap (IntKind.i64.wrap (48 + Int.tmod n 10))] ++ b) (by omega) (by omega) (by omega) (by rw [ByteArray.size_append, hs]; simp; omega)
      refine ⟨r, T_step (g := fun k j => laws_markText.l0 k j (n, b)) ?_⟩
      dsimp only [laws_markText.l0, laws_markText.s0]
      rw [et]
      exact T_pos hn (T_pos (by rw [hs]; simp; omega) hr)
    · refine ⟨(⟨#[109]⟩ : ByteArray) ++ b, T_step (g := fun k j => laws_markText.l0 k j (n, b)) ?_⟩
      dsimp only [laws_markText.l0, laws_markText.s0]
      exact T_neg hn (T_pos (by show 1 + b.size ≤ _; omega) (T_ret rfl))
open Classical in
noncomputable def mtxt (n : Nat) : ByteArray := if h : ∃ r, Tells F0 (fun k => laws_markText.f k (n : Int)) (· = r) then h.choose else ⟨#[]⟩
theorem laws_markText.ev (n : Nat) (h1 : n ≤ 1000000000000000000) : Tells F0 (fun k => laws_markText.f k (n : Int)) (· = mtxt n) := by
  have h : ∃ r, Tells F0 (fun k => laws_markText.f k (n : Int)) (· = r) := by
    by_cases hn : (n : Int) ≤ 0
    · refine ⟨(⟨#[109, 48]⟩ : ByteArray), ?_⟩
      unfold laws_markText.f
      exact T_pos hn (T_ret rfl)
    · obtain ⟨r, hr⟩ := markText_l0 19 n ByteArray.empty (by omega) (by omega) (by omega) (by decide)
      refine ⟨r, ?_⟩
      unfold laws_markText.f
      exact T_neg hn (T_in (g := fun x j => laws_markText.l0 x j _) hr (fun k => k) (fun _ _ h => h))
  unfold mtxt
  rw [dif_pos h]
  exact h.choose_spec
theorem laws_szStringS.ev (l : List (ByteArray)) (a : Int) (h0 : 0 ≤ a) (h1 : a ≤ 1048576) (hl : l.length ≤ maxLen) (hs : ∀ x ∈ l, ByteArray.size x ≤ 140737488351232) : Tells F0 (fun k => laws_szStringS.f k l a) (fun v => v < 0 ∨ (0 ≤ v ∧ v ≤ a ∧ l.length ≤ 1048576 ∧ ∀ j (h : j < l.length), ByteArray.size (l[j]) ≤ 1048576)) := by
  unfold maxLen at hl
  unfold laws_szStringS.f
  rw [wr64 (x := a - (l.length : Int)) (by omega) (by omega)]
  refine T_dec (fun _ => T_ret (.inl (by omega))) (fun h => ?_)
  have key := T_loops (F := F0) (fun k j (v : Int) i => laws_szStringS.l0 k j (v, (i : Int), l)) l.length (fun i v => 0 ≤ v ∧ v ≤ a - l.length ∧ ∀ j (h : j < l.length), j < i → ByteArray.size (l[j]) ≤ 1048576) (fun _ _ r => r < 0 ∨ (0 ≤ r ∧ r ≤ a ∧ l.length ≤ 1048576 ∧ ∀ j (h : j < l.length), ByteArray.size (l[j]) ≤ 1048576)) (fun i v hi hv he => by
    dsimp only [laws_szStringS.l0, laws_szStringS.s0]
    refine T_pos (by omega) (T_at hi ?_)
    have hx := hs _ (List.getElem_mem hi)
    rw [wrs hi (by omega), wr64 (x := v - ((l[i]).size : Int)) (by omega) (by omega)]
    exact T_dec (fun _ => T_ret (.inl (by omega))) (fun h => he _ ⟨by omega, by omega, fun j hj hji => by
      by_cases e : j = i
      · subst e; omega
      · exact hv.2.2 j hj (by omega)⟩)) (fun v hv => by
    dsimp only [laws_szStringS.l0, laws_szStringS.s0]
    exact T_neg (by omega) (T_ret (.inr ⟨hv.1, by omega, by omega, fun j hj => hv.2.2 j hj hj⟩))) 0 (a - l.length) (Nat.zero_le _) ⟨by omega, by omega, fun j _ hj => absurd hj (by omega)⟩
  exact T_in (g := fun x j => laws_szStringS.l0 x j _) key (fun k => k) (fun _ _ h => h)
theorem laws_szPendingS.ev (l : List (Int × ByteArray × Int × Int)) (a : Int) (h0 : 0 ≤ a) (h1 : a ≤ 1048576) (hl : l.length ≤ maxLen) (hs : ∀ x ∈ l, ByteArray.size x.2.1 ≤ 140737488351232) : Tells F0 (fun k => laws_szPendingS.f k l a) (fun v => v < 0 ∨ (0 ≤ v ∧ v ≤ a ∧ l.length ≤ 1048576 ∧ ∀ j (h : j < l.length), ByteArray.size (l[j]).2.1 ≤ 1048576)) := by
  unfold maxLen at hl
  unfold laws_szPendingS.f
  rw [wr64 (x := a - (l.length : Int)) (by omega) (by omega)]
  refine T_dec (fun _ => T_ret (.inl (by omega))) (fun h => ?_)
  have key := T_loops (F := F0) (fun k j (v : Int) i => laws_szPendingS.l0 k j (v, (i : Int), l)) l.length (fun i v => 0 ≤ v ∧ v ≤ a - l.length ∧ ∀ j (h : j < l.length), j < i → ByteArray.size (l[j]).2.1 ≤ 1048576) (fun _ _ r => r < 0 ∨ (0 ≤ r ∧ r ≤ a ∧ l.length ≤ 1048576 ∧ ∀ j (h : j < l.length), ByteArray.size (l[j]).2.1 ≤ 1048576)) (fun i v hi hv he => by
    dsimp only [laws_szPendingS.l0, laws_szPendingS.s0]
    refine T_pos (by omega) (T_at hi ?_)
    have hx := hs _ (List.getElem_mem hi)
    rw [wrs hi (by omega)]
    unfold laws_szPending.f
    rw [wr64 (x := v - (((l[i]).2.1).size : Int)) (by omega) (by omega)]
    by_cases hc : v - (((l[i]).2.1).size : Int) < 0
    · simp only [hc, decide_true, cond_true, Option.bind_some]
      exact T_pos (by omega) (T_ret (.inl (by omega)))
    · simp only [hc, decide_false, cond_false, Option.bind_some]
      exact he _ ⟨by omega, by omega, fun j hj hji => by
        by_cases e : j = i
        · subst e; omega
        · exact hv.2.2 j hj (by omega)⟩) (fun v hv => by
    dsimp only [laws_szPendingS.l0, laws_szPendingS.s0]
    exact T_neg (by omega) (T_ret (.inr ⟨hv.1, by omega, by omega, fun j hj => hv.2.2 j hj hj⟩))) 0 (a - l.length) (Nat.zero_le _) ⟨by omega, by omega, fun j _ hj => absurd hj (by omega)⟩
  exact T_in (g := fun x j => laws_szPendingS.l0 x j _) key (fun k => k) (fun _ _ h => h)
theorem laws_szEarlyS.ev (l : List (Int × ByteArray)) (a : Int) (h0 : 0 ≤ a) (h1 : a ≤ 1048576) (hl : l.length ≤ maxLen) (hs : ∀ x ∈ l, ByteArray.size x.2 ≤ 140737488351232) : Tells F0 (fun k => laws_szEarlyS.f k l a) (fun v => v < 0 ∨ (0 ≤ v ∧ v ≤ a ∧ l.length ≤ 1048576 ∧ ∀ j (h : j < l.length), ByteArray.size (l[j]).2 ≤ 1048576)) := by
  unfold maxLen at hl
  unfold laws_szEarlyS.f
  rw [wr64 (x := a - (l.length : Int)) (by omega) (by omega)]
  refine T_dec (fun _ => T_ret (.inl (by omega))) (fun h => ?_)
  have key := T_loops (F := F0) (fun k j (v : Int) i => laws_szEarlyS.l0 k j (v, (i : Int), l)) l.length (fun i v => 0 ≤ v ∧ v ≤ a - l.length ∧ ∀ j (h : j < l.length), j < i → ByteArray.size (l[j]).2 ≤ 1048576) (fun _ _ r => r < 0 ∨ (0 ≤ r ∧ r ≤ a ∧ l.length ≤ 1048576 ∧ ∀ j (h : j < l.length), ByteArray.size (l[j]).2 ≤ 1048576)) (fun i v hi hv he => by
    dsimp only [laws_szEarlyS.l0, laws_szEarlyS.s0]
    refine T_pos (by omega) (T_at hi ?_)
    have hx := hs _ (List.getElem_mem hi)
    rw [wrs hi (by omega)]
    unfold laws_szEarly.f
    rw [wr64 (x := v - (((l[i]).2).size : Int)) (by omega) (by omega)]
    by_cases hc : v - (((l[i]).2).size : Int) < 0
    · simp only [hc, decide_true, cond_true, Option.bind_some]
      exact T_pos (by omega) (T_ret (.inl (by omega)))
    · simp only [hc, decide_false, cond_false, Option.bind_some]
      exact he _ ⟨by omega, by omega, fun j hj hji => by
        by_cases e : j = i
        · subst e; omega
        · exact hv.2.2 j hj (by omega)⟩) (fun v hv => by
    dsimp only [laws_szEarlyS.l0, laws_szEarlyS.s0]
    exact T_neg (by omega) (T_ret (.inr ⟨hv.1, by omega, by omega, fun j hj => hv.2.2 j hj hj⟩))) 0 (a - l.length) (Nat.zero_le _) ⟨by omega, by omega, fun j _ hj => absurd hj (by omega)⟩
  exact T_in (g := fun x j => laws_szEarlyS.l0 x j _) key (fun k => k) (fun _ _ h => h)
theorem laws_szIntS.ev (l : List (Int)) (a : Int) (h0 : 0 ≤ a) (h1 : a ≤ 1048576) (hl : l.length ≤ maxLen) : Tells F0 (fun k => laws_szIntS.f k l a) (fun v => v < 0 ∨ (0 ≤ v ∧ v ≤ a ∧ l.length ≤ 1048576)) := by
  unfold maxLen at hl
  unfold laws_szIntS.f
  rw [wr64 (x := a - (l.length : Int)) (by omega) (by omega)]
  exact T_dec (fun _ => T_ret (.inl (by omega))) (fun h => T_ret (.inr ⟨by omega, by omega, by omega⟩))
theorem laws_szChan.ev (c0 : Int) (c1 : Int) (c2 : Int) (c3 : List (ByteArray)) (c4 : List (Int × ByteArray × Int × Int)) (c5 : Int) (c6 : List (Int × ByteArray)) (c7 : List (Int)) (c8 : List (ByteArray)) (a : Int) (h3 : c3.length ≤ maxLen) (g3 : ∀ x ∈ c3, ByteArray.size x ≤ 140737488351232) (h4 : c4.length ≤ maxLen) (g4 : ∀ x ∈ c4, ByteArray.size x.2.1 ≤ 140737488351232) (h6 : c6.length ≤ maxLen) (g6 : ∀ x ∈ c6, ByteArray.size x.2 ≤ 140737488351232) (h7 : c7.length ≤ maxLen) (h8 : c8.length ≤ maxLen) (g8 : ∀ x ∈ c8, ByteArray.size x ≤ 140737488351232) (hA : 0 ≤ a) (hB : a ≤ 1048576) : Tells F0 (fun k => laws_szChan.f k c0 c1 c2 c3 c4 c5 c6 c7 c8 a) (fun v => v < 0 ∨ (0 ≤ v ∧ v ≤ a ∧ c3.length ≤ 1048576 ∧ (∀ j (h : j < c3.length), ByteArray.size (c3[j]) ≤ 1048576) ∧ c4.length ≤ 1048576 ∧ (∀ j (h : j < c4.length), ByteArray.size (c4[j]).2.1 ≤ 1048576) ∧ c6.length ≤ 1048576 ∧ (∀ j (h : j < c6.length), ByteArray.size (c6[j]).2 ≤ 1048576) ∧ c7.length ≤ 1048576 ∧ c8.length ≤ 1048576 ∧ (∀ j (h : j < c8.length), ByteArray.size (c8[j]) ≤ 1048576))) := by
  unfold laws_szChan.f
  refine T_bind (laws_szStringS.ev c3 _ (by omega) (by omega) h3 g3) fun v0 q0 => T_dec (fun h => T_ret (.inl (by omega))) fun e0 => ?_
  replace q0 := q0.resolve_left (by omega)
  refine T_bind (laws_szPendingS.ev c4 _ (by omega) (by omega) h4 g4) fun v1 q1 => T_dec (fun h => T_ret (.inl (by omega))) fun e1 => ?_
  replace q1 := q1.resolve_left (by omega)
  refine T_bind (laws_szEarlyS.ev c6 _ (by omega) (by omega) h6 g6) fun v2 q2 => T_dec (fun h => T_ret (.inl (by omega))) fun e2 => ?_
  replace q2 := q2.resolve_left (by omega)
  refine T_bind (laws_szIntS.ev c7 _ (by omega) (by omega) h7) fun v3 q3 => T_dec (fun h => T_ret (.inl (by omega))) fun e3 => ?_
  replace q3 := q3.resolve_left (by omega)
  refine T_bind (laws_szStringS.ev c8 _ (by omega) (by omega) h8 g8) fun v4 q4 => T_dec (fun h => T_ret (.inl (by omega))) fun e4 => ?_
  replace q4 := q4.resolve_left (by omega)
  exact T_ret (.inr ⟨by omega, by omega, by omega, q0.2.2.2, by omega, q1.2.2.2, by omega, q2.2.2.2, by omega, by omega, q4.2.2.2⟩)
theorem laws_szPacket.ev (c0 : Int) (c1 : Int) (c2 : Int) (c3 : Int) (c4 : Int) (c5 : List (Int)) (c6 : ByteArray) (a : Int) (h5 : c5.length ≤ maxLen) (h6 : ByteArray.size c6 ≤ 140737488351232) (hA : 0 ≤ a) (hB : a ≤ 1048576) : Tells F0 (fun k => laws_szPacket.f k c0 c1 c2 c3 c4 c5 c6 a) (fun v => v < 0 ∨ (0 ≤ v ∧ v ≤ a ∧ c5.length ≤ 1048576 ∧ ByteArray.size c6 ≤ 1048576)) := by
  unfold laws_szPacket.f
  refine T_bind (laws_szIntS.ev c5 _ (by omega) (by omega) h5) fun v0 q0 => T_dec (fun h => T_ret (.inl (by omega))) fun e0 => ?_
  replace q0 := q0.resolve_left (by omega)
  rw [wr64 (x := v0 - ((c6).size : Int)) (by omega) (by omega)]
  refine T_dec (fun _ => T_ret (.inl (by omega))) fun e1 => ?_
  exact T_ret (.inr ⟨by omega, by omega, by omega, by omega⟩)
theorem laws_toStringS.ev (l : List (ByteArray)) (hn : l.length ≤ 1048576) : Tells F0 (fun k => laws_toStringS.f k l) (· = l) := by
  have h := T_loop (F := F0) (fun k j i => laws_toStringS.l0 k j ((i : Int), l, l.take i ++ List.replicate (l.length - i) ByteArray.empty)) l.length (fun _ r => r = l) (fun i hi he => by
    dsimp only [laws_toStringS.l0, laws_toStringS.s0]
    simp only [Int.toNat_natCast, Option.bind_some]
    refine T_pos (by omega) (T_get hi (T_get (by simp; omega) ?_))
    rw [wrs hi (by omega)]
    have e := set_copy l ByteArray.empty i hi
    refine T_eq (fun x => congrArg (fun q => laws_toStringS.l0 x.1 x.2 (((i + 1 : Nat) : Int), l, q)) e) he) (by
    dsimp only [laws_toStringS.l0, laws_toStringS.s0]
    exact T_neg (by omega) (T_ret (by simp))) 0 (Nat.zero_le _)
  unfold laws_toStringS.f
  refine T_and (by omega) (by omega) (T_in (g := fun x j => laws_toStringS.l0 x j _) ?_ (fun k => k) (fun _ _ h => h))
  simpa using h
theorem laws_toPending.one (k : Nat) (c0 : Int) (c1 : ByteArray) (c2 : Int) (c3 : Int) : laws_toPending.f k c0 c1 c2 c3 = some (c0, c1, c2, c3) := rfl
theorem laws_toPendingS.ev (l : List (Int × ByteArray × Int × Int)) (hn : l.length ≤ 1048576) : Tells F0 (fun k => laws_toPendingS.f k l) (· = l) := by
  have h := T_loop (F := F0) (fun k j i => laws_toPendingS.l0 k j ((i : Int), l, l.take i ++ List.replicate (l.length - i) ((0 : Int), ByteArray.empty, (0 : Int), (0 : Int)))) l.length (fun _ r => r = l) (fun i hi he => by
    dsimp only [laws_toPendingS.l0, laws_toPendingS.s0]
    simp only [laws_toPending.one, Int.toNat_natCast, Option.bind_some]
    refine T_pos (by omega) (T_get hi (T_get (by simp; omega) ?_))
    rw [wrs hi (by omega)]
    have e := set_copy l ((0 : Int), ByteArray.empty, (0 : Int), (0 : Int)) i hi
    refine T_eq (fun x => congrArg (fun q => laws_toPendingS.l0 x.1 x.2 (((i + 1 : Nat) : Int), l, q)) e) he) (by
    dsimp only [laws_toPendingS.l0, laws_toPendingS.s0]
    exact T_neg (by omega) (T_ret (by simp))) 0 (Nat.zero_le _)
  unfold laws_toPendingS.f
  refine T_and (by omega) (by omega) (T_in (g := fun x j => laws_toPendingS.l0 x j _) ?_ (fun k => k) (fun _ _ h => h))
  simpa using h
theorem laws_toEarly.one (k : Nat) (c0 : Int) (c1 : ByteArray) : laws_toEarly.f k c0 c1 = some (c0, c1) := rfl
theorem laws_toEarlyS.ev (l : List (Int × ByteArray)) (hn : l.length ≤ 1048576) : Tells F0 (fun k => laws_toEarlyS.f k l) (· = l) := by
  have h := T_loop (F := F0) (fun k j i => laws_toEarlyS.l0 k j ((i : Int), l, l.take i ++ List.replicate (l.length - i) ((0 : Int), ByteArray.empty))) l.length (fun _ r => r = l) (fun i hi he => by
    dsimp only [laws_toEarlyS.l0, laws_toEarlyS.s0]
    simp only [laws_toEarly.one, Int.toNat_natCast, Option.bind_some]
    refine T_pos (by omega) (T_get hi (T_get (by simp; omega) ?_))
    rw [wrs hi (by omega)]
    have e := set_copy l ((0 : Int), ByteArray.empty) i hi
    refine T_eq (fun x => congrArg (fun q => laws_toEarlyS.l0 x.1 x.2 (((i + 1 : Nat) : Int), l, q)) e) he) (by
    dsimp only [laws_toEarlyS.l0, laws_toEarlyS.s0]
    exact T_neg (by omega) (T_ret (by simp))) 0 (Nat.zero_le _)
  unfold laws_toEarlyS.f
  refine T_and (by omega) (by omega) (T_in (g := fun x j => laws_toEarlyS.l0 x j _) ?_ (fun k => k) (fun _ _ h => h))
  simpa using h
theorem laws_toIntS.ev (l : List (Int)) (hn : l.length ≤ 1048576) : Tells F0 (fun k => laws_toIntS.f k l) (· = l) := by
  have h := T_loop (F := F0) (fun k j i => laws_toIntS.l0 k j ((i : Int), l, l.take i ++ List.replicate (l.length - i) (0 : Int))) l.length (fun _ r => r = l) (fun i hi he => by
    dsimp only [laws_toIntS.l0, laws_toIntS.s0]
    simp only [Int.toNat_natCast, Option.bind_some]
    refine T_pos (by omega) (T_get hi (T_get (by simp; omega) ?_))
    rw [wrs hi (by omega)]
    have e := set_copy l (0 : Int) i hi
    refine T_eq (fun x => congrArg (fun q => laws_toIntS.l0 x.1 x.2 (((i + 1 : Nat) : Int), l, q)) e) he) (by
    dsimp only [laws_toIntS.l0, laws_toIntS.s0]
    exact T_neg (by omega) (T_ret (by simp))) 0 (Nat.zero_le _)
  unfold laws_toIntS.f
  refine T_and (by omega) (by omega) (T_in (g := fun x j => laws_toIntS.l0 x j _) ?_ (fun k => k) (fun _ _ h => h))
  simpa using h
theorem laws_toChan.ev (c0 : Int) (c1 : Int) (c2 : Int) (c3 : List (ByteArray)) (c4 : List (Int × ByteArray × Int × Int)) (c5 : Int) (c6 : List (Int × ByteArray)) (c7 : List (Int)) (c8 : List (ByteArray)) (h3 : c3.length ≤ 1048576) (h4 : c4.length ≤ 1048576) (h6 : c6.length ≤ 1048576) (h7 : c7.length ≤ 1048576) (h8 : c8.length ≤ 1048576) : Tells F0 (fun k => laws_toChan.f k c0 c1 c2 c3 c4 c5 c6 c7 c8) (· = (c0, c1, c2, c3, c4, c5, c6, c7, c8)) := by
  unfold laws_toChan.f
  refine T_bindE (laws_toStringS.ev _ h3) ?_
  refine T_bindE (laws_toPendingS.ev _ h4) ?_
  refine T_bindE (laws_toEarlyS.ev _ h6) ?_
  refine T_bindE (laws_toIntS.ev _ h7) ?_
  refine T_bindE (laws_toStringS.ev _ h8) ?_
  exact T_ret rfl
theorem laws_toPacket.ev (c0 : Int) (c1 : Int) (c2 : Int) (c3 : Int) (c4 : Int) (c5 : List (Int)) (c6 : ByteArray) (h5 : c5.length ≤ 1048576) : Tells F0 (fun k => laws_toPacket.f k c0 c1 c2 c3 c4 c5 c6) (· = (c0, c1, c2, c3, c4, c5, c6)) := by
  unfold laws_toPacket.f
  refine T_bindE (laws_toIntS.ev _ h5) ?_
  exact T_ret rfl
theorem laws_eqStringS.ev (l : List (ByteArray)) (hn : l.length ≤ 1000000000000000000) : Tells F0 (fun k => laws_eqStringS.f k l l) (· = true) := by
  have h := T_loop (F := F0) (fun k j i => laws_eqStringS.l0 k j ((i : Int), l, l)) l.length (fun _ r => r = true) (fun i hi he => by
    dsimp only [laws_eqStringS.l0, laws_eqStringS.s0]
    simp only [Int.toNat_natCast]
    refine T_pos (by omega) (T_get hi (T_get hi ?_))
    refine T_same (by simp) ?_
    rw [wrs hi (by omega)]
    exact he) (by
    dsimp only [laws_eqStringS.l0, laws_eqStringS.s0]
    exact T_neg (by omega) (T_ret rfl)) 0 (Nat.zero_le _)
  unfold laws_eqStringS.f
  exact T_same (by simp) (T_in (g := fun x j => laws_eqStringS.l0 x j _) h (fun k => k) (fun _ _ h => h))
theorem laws_eqPending.refl (k : Nat) (c0 : Int) (c1 : ByteArray) (c2 : Int) (c3 : Int) : laws_eqPending.f k c0 c1 c2 c3 c0 c1 c2 c3 = some true := by simp [laws_eqPending.f]
theorem laws_eqPendingS.ev (l : List (Int × ByteArray × Int × Int)) (hn : l.length ≤ 1000000000000000000) : Tells F0 (fun k => laws_eqPendingS.f k l l) (· = true) := by
  have h := T_loop (F := F0) (fun k j i => laws_eqPendingS.l0 k j ((i : Int), l, l)) l.length (fun _ r => r = true) (fun i hi he => by
    dsimp only [laws_eqPendingS.l0, laws_eqPendingS.s0]
    simp only [Int.toNat_natCast]
    refine T_pos (by omega) (T_get hi (T_get hi ?_))
    simp only [laws_eqPending.refl, Option.bind_some]
    refine T_same rfl ?_
    rw [wrs hi (by omega)]
    exact he) (by
    dsimp only [laws_eqPendingS.l0, laws_eqPendingS.s0]
    exact T_neg (by omega) (T_ret rfl)) 0 (Nat.zero_le _)
  unfold laws_eqPendingS.f
  exact T_same (by simp) (T_in (g := fun x j => laws_eqPendingS.l0 x j _) h (fun k => k) (fun _ _ h => h))
theorem laws_eqEarly.refl (k : Nat) (c0 : Int) (c1 : ByteArray) : laws_eqEarly.f k c0 c1 c0 c1 = some true := by simp [laws_eqEarly.f]
theorem laws_eqEarlyS.ev (l : List (Int × ByteArray)) (hn : l.length ≤ 1000000000000000000) : Tells F0 (fun k => laws_eqEarlyS.f k l l) (· = true) := by
  have h := T_loop (F := F0) (fun k j i => laws_eqEarlyS.l0 k j ((i : Int), l, l)) l.length (fun _ r => r = true) (fun i hi he => by
    dsimp only [laws_eqEarlyS.l0, laws_eqEarlyS.s0]
    simp only [Int.toNat_natCast]
    refine T_pos (by omega) (T_get hi (T_get hi ?_))
    simp only [laws_eqEarly.refl, Option.bind_some]
    refine T_same rfl ?_
    rw [wrs hi (by omega)]
    exact he) (by
    dsimp only [laws_eqEarlyS.l0, laws_eqEarlyS.s0]
    exact T_neg (by omega) (T_ret rfl)) 0 (Nat.zero_le _)
  unfold laws_eqEarlyS.f
  exact T_same (by simp) (T_in (g := fun x j => laws_eqEarlyS.l0 x j _) h (fun k => k) (fun _ _ h => h))
theorem laws_eqIntS.ev (l : List (Int)) (hn : l.length ≤ 1000000000000000000) : Tells F0 (fun k => laws_eqIntS.f k l l) (· = true) := by
  have h := T_loop (F := F0) (fun k j i => laws_eqIntS.l0 k j ((i : Int), l, l)) l.length (fun _ r => r = true) (fun i hi he => by
    dsimp only [laws_eqIntS.l0, laws_eqIntS.s0]
    simp only [Int.toNat_natCast]
    refine T_pos (by omega) (T_get hi (T_get hi ?_))
    refine T_same (by simp) ?_
    rw [wrs hi (by omega)]
    exact he) (by
    dsimp only [laws_eqIntS.l0, laws_eqIntS.s0]
    exact T_neg (by omega) (T_ret rfl)) 0 (Nat.zero_le _)
  unfold laws_eqIntS.f
  exact T_same (by simp) (T_in (g := fun x j => laws_eqIntS.l0 x j _) h (fun k => k) (fun _ _ h => h))
theorem laws_eqChan.ev (c0 : Int) (c1 : Int) (c2 : Int) (c3 : List (ByteArray)) (c4 : List (Int × ByteArray × Int × Int)) (c5 : Int) (c6 : List (Int × ByteArray)) (c7 : List (Int)) (c8 : List (ByteArray)) (h3 : c3.length ≤ 1000000000000000000) (h4 : c4.length ≤ 1000000000000000000) (h6 : c6.length ≤ 1000000000000000000) (h7 : c7.length ≤ 1000000000000000000) (h8 : c8.length ≤ 1000000000000000000) : Tells F0 (fun k => laws_eqChan.f k c0 c1 c2 c3 c4 c5 c6 c7 c8 c0 c1 c2 c3 c4 c5 c6 c7 c8) (· = true) := by
  unfold laws_eqChan.f
  refine T_same (by simp) ?_
  refine T_same (by simp) ?_
  refine T_same (by simp) ?_
  refine T_bindE (laws_eqStringS.ev _ h3) ?_
  refine T_same rfl ?_
  refine T_bindE (laws_eqPendingS.ev _ h4) ?_
  refine T_same rfl ?_
  refine T_same (by simp) ?_
  refine T_bindE (laws_eqEarlyS.ev _ h6) ?_
  refine T_same rfl ?_
  refine T_bindE (laws_eqIntS.ev _ h7) ?_
  refine T_same rfl ?_
  refine T_bindE (laws_eqStringS.ev _ h8) ?_
  refine T_same rfl ?_
  exact T_ret rfl
theorem laws_eqPacket.ev (c0 : Int) (c1 : Int) (c2 : Int) (c3 : Int) (c4 : Int) (c5 : List (Int)) (c6 : ByteArray) (h5 : c5.length ≤ 1000000000000000000) : Tells F0 (fun k => laws_eqPacket.f k c0 c1 c2 c3 c4 c5 c6 c0 c1 c2 c3 c4 c5 c6) (· = true) := by
  unfold laws_eqPacket.f
  refine T_same (by simp) ?_
  refine T_same (by simp) ?_
  refine T_same (by simp) ?_
  refine T_same (by simp) ?_
  refine T_same (by simp) ?_
  refine T_bindE (laws_eqIntS.ev _ h5) ?_
  refine T_same rfl ?_
  refine T_same (by simp) ?_
  exact T_ret rfl
noncomputable def mkd_String (n m : Nat) : List (ByteArray) := (List.range m).map fun i => (mtxt (n + 1 * i + 0))
theorem laws_markStringS.ev (l : List (ByteArray)) (n : Nat) (hb : n + 1 * l.length ≤ 1000000000000000000) : Tells F0 (fun k => laws_markStringS.f k l (n : Int)) (· = (((n + 1 * l.length : Nat) : Int), mkd_String n l.length)) := by
  have hM : (mkd_String n l.length).length = l.length := by simp [mkd_String]
  have h := T_loop (F := F0) (fun k j i => laws_markStringS.l0 k j (((n + 1 * i : Nat) : Int), (i : Int), (mkd_String n l.length).take i ++ l.drop i)) l.length (fun _ r => r = (((n + 1 * l.length : Nat) : Int), mkd_String n l.length)) (fun i hi he => by
    have hv : (mkd_String n l.length)[i]? = some (mtxt (n + 1 * i + 0)) := by simp [mkd_String, hi]
    have hs := mark_step (mkd_String n l.length) l i _ hM hi hv
    have hL : i < ((mkd_String n l.length).take i ++ l.drop i).length := by simp; omega
    have w0 : IntKind.i64.wrap (((n + 1 * i : Nat) : Int) + 1) = ((n + 1 * (i + 1) : Nat) : Int) := by rw [wr64 (by omega) (by omega)]; omega
    dsimp only [laws_markStringS.l0, laws_markStringS.s0]
    simp only [Int.toNat_natCast, w0, wrs hi (show l.length ≤ 9223372036854775807 by omega)]
    refine T_pos (by omega) ?_
    first | (refine T_bindE (T_call (laws_markText.ev (n + 1 * i) (by omega)) Prod.fst (fun _ _ h => h.1)) ?_; refine T_get hL ?_) | (refine T_get hL ?_; refine T_bindE (T_call (laws_markText.ev (n + 1 * i) (by omega)) Prod.fst (fun _ _ h => h.1)) ?_)
    refine T_eq (fun x => congrArg (fun q => laws_markStringS.l0 x.1 x.2 (((n + 1 * (i + 1) : Nat) : Int), ((i + 1 : Nat) : Int), q)) ?_) he
    try simp only [List.set_set]
    exact hs) (by
    dsimp only [laws_markStringS.l0, laws_markStringS.s0]
    refine T_neg (by simp; omega) (T_ret ?_)
    rw [List.take_of_length_le (by omega), List.drop_length, List.append_nil]) 0 (Nat.zero_le _)
  unfold laws_markStringS.f
  refine T_in (g := fun x j => laws_markStringS.l0 x j _) ?_ (fun k => k) (fun _ _ h => h)
  simpa using h
noncomputable def mkd_Pending (n m : Nat) : List (Int × ByteArray × Int × Int) := (List.range m).map fun i => (((n + 4 * i + 0 : Nat) : Int), (mtxt (n + 4 * i + 1)), ((n + 4 * i + 2 : Nat) : Int), ((n + 4 * i + 3 : Nat) : Int))
theorem laws_markPendingS.ev (l : List (Int × ByteArray × Int × Int)) (n : Nat) (hb : n + 4 * l.length ≤ 1000000000000000000) : Tells F0 (fun k => laws_markPendingS.f k l (n : Int)) (· = (((n + 4 * l.length : Nat) : Int), mkd_Pending n l.length)) := by
  have hM : (mkd_Pending n l.length).length = l.length := by simp [mkd_Pending]
  have h := T_loop (F := F0) (fun k j i => laws_markPendingS.l0 k j (((n + 4 * i : Nat) : Int), (i : Int), (mkd_Pending n l.length).take i ++ l.drop i)) l.length (fun _ r => r = (((n + 4 * l.length : Nat) : Int), mkd_Pending n l.length)) (fun i hi he => by
    have hv : (mkd_Pending n l.length)[i]? = some (((n + 4 * i + 0 : Nat) : Int), (mtxt (n + 4 * i + 1)), ((n + 4 * i + 2 : Nat) : Int), ((n + 4 * i + 3 : Nat) : Int)) := by simp [mkd_Pending, hi]
    have hs := mark_step (mkd_Pending n l.length) l i _ hM hi hv
    have hL : i < ((mkd_Pending n l.length).take i ++ l.drop i).length := by simp; omega
    have w0 : IntKind.i64.wrap (((n + 4 * i : Nat) : Int) + 1) = ((n + 4 * i + 1 : Nat) : Int) := by rw [wr64 (by omega) (by omega)]; omega
    have w1 : IntKind.i64.wrap (((n + 4 * i + 1 : Nat) : Int) + 1) = ((n + 4 * i + 2 : Nat) : Int) := by rw [wr64 (by omega) (by omega)]; omega
    have w2 : IntKind.i64.wrap (((n + 4 * i + 2 : Nat) : Int) + 1) = ((n + 4 * i + 3 : Nat) : Int) := by rw [wr64 (by omega) (by omega)]; omega
    have w3 : IntKind.i64.wrap (((n + 4 * i + 3 : Nat) : Int) + 1) = ((n + 4 * (i + 1) : Nat) : Int) := by rw [wr64 (by omega) (by omega)]; omega
    dsimp only [laws_markPendingS.l0, laws_markPendingS.s0]
    simp only [Int.toNat_natCast, w0, w1, w2, w3, wrs hi (show l.length ≤ 9223372036854775807 by omega)]
    refine T_pos (by omega) ?_
    refine T_get hL ?_
    first | (refine T_bindE (T_call (laws_markText.ev (n + 4 * i + 1) (by omega)) Prod.fst (fun _ _ h => h.1)) ?_; refine T_got (by simpa using hL) ?_) | (refine T_got (by simpa using hL) ?_; refine T_bindE (T_call (laws_markText.ev (n + 4 * i + 1) (by omega)) Prod.fst (fun _ _ h => h.1)) ?_)
    refine T_got (by simpa using hL) ?_
    refine T_got (by simpa using hL) ?_
    refine T_eq (fun x => congrArg (fun q => laws_markPendingS.l0 x.1 x.2 (((n + 4 * (i + 1) : Nat) : Int), ((i + 1 : Nat) : Int), q)) ?_) he
    try simp only [List.set_set]
    exact hs) (by
    dsimp only [laws_markPendingS.l0, laws_markPendingS.s0]
    refine T_neg (by simp; omega) (T_ret ?_)
    rw [List.take_of_length_le (by omega), List.drop_length, List.append_nil]) 0 (Nat.zero_le _)
  unfold laws_markPendingS.f
  refine T_in (g := fun x j => laws_markPendingS.l0 x j _) ?_ (fun k => k) (fun _ _ h => h)
  simpa using h
noncomputable def mkd_Early (n m : Nat) : List (Int × ByteArray) := (List.range m).map fun i => (((n + 2 * i + 0 : Nat) : Int), (mtxt (n + 2 * i + 1)))
theorem laws_markEarlyS.ev (l : List (Int × ByteArray)) (n : Nat) (hb : n + 2 * l.length ≤ 1000000000000000000) : Tells F0 (fun k => laws_markEarlyS.f k l (n : Int)) (· = (((n + 2 * l.length : Nat) : Int), mkd_Early n l.length)) := by
  have hM : (mkd_Early n l.length).length = l.length := by simp [mkd_Early]
  have h := T_loop (F := F0) (fun k j i => laws_markEarlyS.l0 k j (((n + 2 * i : Nat) : Int), (i : Int), (mkd_Early n l.length).take i ++ l.drop i)) l.length (fun _ r => r = (((n + 2 * l.length : Nat) : Int), mkd_Early n l.length)) (fun i hi he => by
    have hv : (mkd_Early n l.length)[i]? = some (((n + 2 * i + 0 : Nat) : Int), (mtxt (n + 2 * i + 1))) := by simp [mkd_Early, hi]
    have hs := mark_step (mkd_Early n l.length) l i _ hM hi hv
    have hL : i < ((mkd_Early n l.length).take i ++ l.drop i).length := by simp; omega
    have w0 : IntKind.i64.wrap (((n + 2 * i : Nat) : Int) + 1) = ((n + 2 * i + 1 : Nat) : Int) := by rw [wr64 (by omega) (by omega)]; omega
    have w1 : IntKind.i64.wrap (((n + 2 * i + 1 : Nat) : Int) + 1) = ((n + 2 * (i + 1) : Nat) : Int) := by rw [wr64 (by omega) (by omega)]; omega
    dsimp only [laws_markEarlyS.l0, laws_markEarlyS.s0]
    simp only [Int.toNat_natCast, w0, w1, wrs hi (show l.length ≤ 9223372036854775807 by omega)]
    refine T_pos (by omega) ?_
    refine T_get hL ?_
    first | (refine T_bindE (T_call (laws_markText.ev (n + 2 * i + 1) (by omega)) Prod.fst (fun _ _ h => h.1)) ?_; refine T_got (by simpa using hL) ?_) | (refine T_got (by simpa using hL) ?_; refine T_bindE (T_call (laws_markText.ev (n + 2 * i + 1) (by omega)) Prod.fst (fun _ _ h => h.1)) ?_)
    refine T_eq (fun x => congrArg (fun q => laws_markEarlyS.l0 x.1 x.2 (((n + 2 * (i + 1) : Nat) : Int), ((i + 1 : Nat) : Int), q)) ?_) he
    try simp only [List.set_set]
    exact hs) (by
    dsimp only [laws_markEarlyS.l0, laws_markEarlyS.s0]
    refine T_neg (by simp; omega) (T_ret ?_)
    rw [List.take_of_length_le (by omega), List.drop_length, List.append_nil]) 0 (Nat.zero_le _)
  unfold laws_markEarlyS.f
  refine T_in (g := fun x j => laws_markEarlyS.l0 x j _) ?_ (fun k => k) (fun _ _ h => h)
  simpa using h
def mkd_Int (n m : Nat) : List (Int) := (List.range m).map fun i => ((n + 1 * i + 0 : Nat) : Int)
theorem laws_markIntS.ev (l : List (Int)) (n : Nat) (hb : n + 1 * l.length ≤ 1000000000000000000) : Tells F0 (fun k => laws_markIntS.f k l (n : Int)) (· = (((n + 1 * l.length : Nat) : Int), mkd_Int n l.length)) := by
  have hM : (mkd_Int n l.length).length = l.length := by simp [mkd_Int]
  have h := T_loop (F := F0) (fun k j i => laws_markIntS.l0 k j (((n + 1 * i : Nat) : Int), (i : Int), (mkd_Int n l.length).take i ++ l.drop i)) l.length (fun _ r => r = (((n + 1 * l.length : Nat) : Int), mkd_Int n l.length)) (fun i hi he => by
    have hv : (mkd_Int n l.length)[i]? = some ((n + 1 * i + 0 : Nat) : Int) := by simp [mkd_Int, hi]
    have hs := mark_step (mkd_Int n l.length) l i _ hM hi hv
    have hL : i < ((mkd_Int n l.length).take i ++ l.drop i).length := by simp; omega
    have w0 : IntKind.i64.wrap (((n + 1 * i : Nat) : Int) + 1) = ((n + 1 * (i + 1) : Nat) : Int) := by rw [wr64 (by omega) (by omega)]; omega
    dsimp only [laws_markIntS.l0, laws_markIntS.s0]
    simp only [Int.toNat_natCast, w0, wrs hi (show l.length ≤ 9223372036854775807 by omega)]
    refine T_pos (by omega) ?_
    refine T_get hL ?_
    refine T_eq (fun x => congrArg (fun q => laws_markIntS.l0 x.1 x.2 (((n + 1 * (i + 1) : Nat) : Int), ((i + 1 : Nat) : Int), q)) ?_) he
    try simp only [List.set_set]
    exact hs) (by
    dsimp only [laws_markIntS.l0, laws_markIntS.s0]
    refine T_neg (by simp; omega) (T_ret ?_)
    rw [List.take_of_length_le (by omega), List.drop_length, List.append_nil]) 0 (Nat.zero_le _)
  unfold laws_markIntS.f
  refine T_in (g := fun x j => laws_markIntS.l0 x j _) ?_ (fun k => k) (fun _ _ h => h)
  simpa using h
theorem laws_markChan.ev (c0 : Int) (c1 : Int) (c2 : Int) (c3 : List (ByteArray)) (c4 : List (Int × ByteArray × Int × Int)) (c5 : Int) (c6 : List (Int × ByteArray)) (c7 : List (Int)) (c8 : List (ByteArray)) (n : Nat) (hb : n + 1 * c3.length + 4 * c4.length + 2 * c6.length + 1 * c7.length + 1 * c8.length ≤ 1000000000000000000) : Tells F0 (fun k => laws_markChan.f k c0 c1 c2 c3 c4 c5 c6 c7 c8 (n : Int)) (· = (((n + 1 * c3.length + 4 * c4.length + 2 * c6.length + 1 * c7.length + 1 * c8.length : Nat) : Int), mkd_String n c3.length, mkd_Pending (n + 1 * c3.length) c4.length, mkd_Early ((n + 1 * c3.length) + 4 * c4.length) c6.length, mkd_Int (((n + 1 * c3.length) + 4 * c4.length) + 2 * c6.length) c7.length, mkd_String ((((n + 1 * c3.length) + 4 * c4.length) + 2 * c6.length) + 1 * c7.length) c8.length)) := by
  unfold laws_markChan.f
  refine T_bindE (laws_markStringS.ev _ n (by omega)) ?_
  refine T_bindE (laws_markPendingS.ev _ (n + 1 * c3.length) (by omega)) ?_
  refine T_bindE (laws_markEarlyS.ev _ ((n + 1 * c3.length) + 4 * c4.length) (by omega)) ?_
  refine T_bindE (laws_markIntS.ev _ (((n + 1 * c3.length) + 4 * c4.length) + 2 * c6.length) (by omega)) ?_
  refine T_bindE (laws_markStringS.ev _ ((((n + 1 * c3.length) + 4 * c4.length) + 2 * c6.length) + 1 * c7.length) (by omega)) ?_
  exact T_ret rfl
theorem laws_markPacket.ev (c0 : Int) (c1 : Int) (c2 : Int) (c3 : Int) (c4 : Int) (c5 : List (Int)) (c6 : ByteArray) (n : Nat) (hb : n + 1 * c5.length ≤ 1000000000000000000) : Tells F0 (fun k => laws_markPacket.f k c0 c1 c2 c3 c4 c5 c6 (n : Int)) (· = (((n + 1 * c5.length : Nat) : Int), mkd_Int n c5.length)) := by
  unfold laws_markPacket.f
  refine T_bindE (laws_markIntS.ev _ n (by omega)) ?_
  exact T_ret rfl
theorem laws_heldStringS.ev (m n : Nat) (hb : n + 1 * m ≤ 1000000000000000000) : Tells F0 (fun k => laws_heldStringS.f k (mkd_String n m) (n : Int)) (· = ((n + 1 * m : Nat) : Int)) := by
  have hM : (mkd_String n m).length = m := by simp [mkd_String]
  have h := T_loop (F := F0) (fun k j i => laws_heldStringS.l0 k j (((n + 1 * i : Nat) : Int), (i : Int), mkd_String n m)) m (fun _ r => r = ((n + 1 * m : Nat) : Int)) (fun i hi he => by
    have hL : i < (mkd_String n m).length := by omega
    have hv : (mkd_String n m)[i] = (mtxt (n + 1 * i + 0)) := by simp [mkd_String]
    have w0 : IntKind.i64.wrap (((n + 1 * i : Nat) : Int) + 1) = ((n + 1 * (i + 1) : Nat) : Int) := by rw [wr64 (by omega) (by omega)]; omega
    dsimp only [laws_heldStringS.l0, laws_heldStringS.s0]
    simp only [Int.toNat_natCast, w0, wrs hi (show m ≤ 9223372036854775807 by omega)]
    refine T_pos (by omega) ?_
    first | (refine T_bindE (T_call (laws_markText.ev (n + 1 * i) (by omega)) Prod.fst (fun _ _ h => h.1)) ?_; refine T_get hL ?_; rw [hv]; (try dsimp only)) | (refine T_get hL ?_; rw [hv]; (try dsimp only); refine T_bindE (T_call (laws_markText.ev (n + 1 * i) (by omega)) Prod.fst (fun _ _ h => h.1)) ?_)
    refine T_same ?_ ?_
    · simp
    exact he) (by
    dsimp only [laws_heldStringS.l0, laws_heldStringS.s0]
    exact T_neg (by omega) (T_ret rfl)) 0 (Nat.zero_le _)
  unfold laws_heldStringS.f
  exact T_in (g := fun x j => laws_heldStringS.l0 x j _) (by simpa using h) (fun k => k) (fun _ _ h => h)
theorem laws_heldPendingS.ev (m n : Nat) (hb : n + 4 * m ≤ 1000000000000000000) : Tells F0 (fun k => laws_heldPendingS.f k (mkd_Pending n m) (n : Int)) (· = ((n + 4 * m : Nat) : Int)) := by
  have hM : (mkd_Pending n m).length = m := by simp [mkd_Pending]
  have h := T_loop (F := F0) (fun k j i => laws_heldPendingS.l0 k j (((n + 4 * i : Nat) : Int), (i : Int), mkd_Pending n m)) m (fun _ r => r = ((n + 4 * m : Nat) : Int)) (fun i hi he => by
    have hL : i < (mkd_Pending n m).length := by omega
    have hv : (mkd_Pending n m)[i] = (((n + 4 * i + 0 : Nat) : Int), (mtxt (n + 4 * i + 1)), ((n + 4 * i + 2 : Nat) : Int), ((n + 4 * i + 3 : Nat) : Int)) := by simp [mkd_Pending]
    have w0 : IntKind.i64.wrap (((n + 4 * i : Nat) : Int) + 1) = ((n + 4 * i + 1 : Nat) : Int) := by rw [wr64 (by omega) (by omega)]; omega
    have w1 : IntKind.i64.wrap (((n + 4 * i + 1 : Nat) : Int) + 1) = ((n + 4 * i + 2 : Nat) : Int) := by rw [wr64 (by omega) (by omega)]; omega
    have w2 : IntKind.i64.wrap (((n + 4 * i + 2 : Nat) : Int) + 1) = ((n + 4 * i + 3 : Nat) : Int) := by rw [wr64 (by omega) (by omega)]; omega
    have w3 : IntKind.i64.wrap (((n + 4 * i + 3 : Nat) : Int) + 1) = ((n + 4 * (i + 1) : Nat) : Int) := by rw [wr64 (by omega) (by omega)]; omega
    dsimp only [laws_heldPendingS.l0, laws_heldPendingS.s0]
    simp only [Int.toNat_natCast, w0, w1, w2, w3, wrs hi (show m ≤ 9223372036854775807 by omega)]
    refine T_pos (by omega) ?_
    refine T_get hL ?_; rw [hv]; (try dsimp only)
    refine T_same ?_ ?_
    · simp
    first | (refine T_bindE (T_call (laws_markText.ev (n + 4 * i + 1) (by omega)) Prod.fst (fun _ _ h => h.1)) ?_; refine T_get hL ?_; rw [hv]; (try dsimp only)) | (refine T_get hL ?_; rw [hv]; (try dsimp only); refine T_bindE (T_call (laws_markText.ev (n + 4 * i + 1) (by omega)) Prod.fst (fun _ _ h => h.1)) ?_)
    refine T_same ?_ ?_
    · simp
    refine T_get hL ?_; rw [hv]; (try dsimp only)
    refine T_same ?_ ?_
    · simp
    refine T_get hL ?_; rw [hv]; (try dsimp only)
    refine T_same ?_ ?_
    · simp
    exact he) (by
    dsimp only [laws_heldPendingS.l0, laws_heldPendingS.s0]
    exact T_neg (by omega) (T_ret rfl)) 0 (Nat.zero_le _)
  unfold laws_heldPendingS.f
  exact T_in (g := fun x j => laws_heldPendingS.l0 x j _) (by simpa using h) (fun k => k) (fun _ _ h => h)
theorem laws_heldEarlyS.ev (m n : Nat) (hb : n + 2 * m ≤ 1000000000000000000) : Tells F0 (fun k => laws_heldEarlyS.f k (mkd_Early n m) (n : Int)) (· = ((n + 2 * m : Nat) : Int)) := by
  have hM : (mkd_Early n m).length = m := by simp [mkd_Early]
  have h := T_loop (F := F0) (fun k j i => laws_heldEarlyS.l0 k j (((n + 2 * i : Nat) : Int), (i : Int), mkd_Early n m)) m (fun _ r => r = ((n + 2 * m : Nat) : Int)) (fun i hi he => by
    have hL : i < (mkd_Early n m).length := by omega
    have hv : (mkd_Early n m)[i] = (((n + 2 * i + 0 : Nat) : Int), (mtxt (n + 2 * i + 1))) := by simp [mkd_Early]
    have w0 : IntKind.i64.wrap (((n + 2 * i : Nat) : Int) + 1) = ((n + 2 * i + 1 : Nat) : Int) := by rw [wr64 (by omega) (by omega)]; omega
    have w1 : IntKind.i64.wrap (((n + 2 * i + 1 : Nat) : Int) + 1) = ((n + 2 * (i + 1) : Nat) : Int) := by rw [wr64 (by omega) (by omega)]; omega
    dsimp only [laws_heldEarlyS.l0, laws_heldEarlyS.s0]
    simp only [Int.toNat_natCast, w0, w1, wrs hi (show m ≤ 9223372036854775807 by omega)]
    refine T_pos (by omega) ?_
    refine T_get hL ?_; rw [hv]; (try dsimp only)
    refine T_same ?_ ?_
    · simp
    first | (refine T_bindE (T_call (laws_markText.ev (n + 2 * i + 1) (by omega)) Prod.fst (fun _ _ h => h.1)) ?_; refine T_get hL ?_; rw [hv]; (try dsimp only)) | (refine T_get hL ?_; rw [hv]; (try dsimp only); refine T_bindE (T_call (laws_markText.ev (n + 2 * i + 1) (by omega)) Prod.fst (fun _ _ h => h.1)) ?_)
    refine T_same ?_ ?_
    · simp
    exact he) (by
    dsimp only [laws_heldEarlyS.l0, laws_heldEarlyS.s0]
    exact T_neg (by omega) (T_ret rfl)) 0 (Nat.zero_le _)
  unfold laws_heldEarlyS.f
  exact T_in (g := fun x j => laws_heldEarlyS.l0 x j _) (by simpa using h) (fun k => k) (fun _ _ h => h)
theorem laws_heldIntS.ev (m n : Nat) (hb : n + 1 * m ≤ 1000000000000000000) : Tells F0 (fun k => laws_heldIntS.f k (mkd_Int n m) (n : Int)) (· = ((n + 1 * m : Nat) : Int)) := by
  have hM : (mkd_Int n m).length = m := by simp [mkd_Int]
  have h := T_loop (F := F0) (fun k j i => laws_heldIntS.l0 k j (((n + 1 * i : Nat) : Int), (i : Int), mkd_Int n m)) m (fun _ r => r = ((n + 1 * m : Nat) : Int)) (fun i hi he => by
    have hL : i < (mkd_Int n m).length := by omega
    have hv : (mkd_Int n m)[i] = ((n + 1 * i + 0 : Nat) : Int) := by simp [mkd_Int]
    have w0 : IntKind.i64.wrap (((n + 1 * i : Nat) : Int) + 1) = ((n + 1 * (i + 1) : Nat) : Int) := by rw [wr64 (by omega) (by omega)]; omega
    dsimp only [laws_heldIntS.l0, laws_heldIntS.s0]
    simp only [Int.toNat_natCast, w0, wrs hi (show m ≤ 9223372036854775807 by omega)]
    refine T_pos (by omega) ?_
    refine T_get hL ?_; rw [hv]; (try dsimp only)
    refine T_same ?_ ?_
    · simp
    exact he) (by
    dsimp only [laws_heldIntS.l0, laws_heldIntS.s0]
    exact T_neg (by omega) (T_ret rfl)) 0 (Nat.zero_le _)
  unfold laws_heldIntS.f
  exact T_in (g := fun x j => laws_heldIntS.l0 x j _) (by simpa using h) (fun k => k) (fun _ _ h => h)
theorem laws_heldChan.ev (c0 : Int) (c1 : Int) (c2 : Int) (c5 : Int) (m3 m4 m6 m7 m8 n : Nat) (hb : n + 1 * m3 + 4 * m4 + 2 * m6 + 1 * m7 + 1 * m8 ≤ 1000000000000000000) : Tells F0 (fun k => laws_heldChan.f k c0 c1 c2 (mkd_String n m3) (mkd_Pending (n + 1 * m3) m4) c5 (mkd_Early ((n + 1 * m3) + 4 * m4) m6) (mkd_Int (((n + 1 * m3) + 4 * m4) + 2 * m6) m7) (mkd_String ((((n + 1 * m3) + 4 * m4) + 2 * m6) + 1 * m7) m8) (n : Int)) (· = ((n + 1 * m3 + 4 * m4 + 2 * m6 + 1 * m7 + 1 * m8 : Nat) : Int)) := by
  unfold laws_heldChan.f
  refine T_bindE (laws_heldStringS.ev m3 n (by omega)) ?_
  refine T_neg (by omega) ?_
  refine T_bindE (laws_heldPendingS.ev m4 (n + 1 * m3) (by omega)) ?_
  refine T_neg (by omega) ?_
  refine T_bindE (laws_heldEarlyS.ev m6 ((n + 1 * m3) + 4 * m4) (by omega)) ?_
  refine T_neg (by omega) ?_
  refine T_bindE (laws_heldIntS.ev m7 (((n + 1 * m3) + 4 * m4) + 2 * m6) (by omega)) ?_
  refine T_neg (by omega) ?_
  refine T_bindE (laws_heldStringS.ev m8 ((((n + 1 * m3) + 4 * m4) + 2 * m6) + 1 * m7) (by omega)) ?_
  refine T_neg (by omega) ?_
  exact T_ret rfl
theorem in_eq (k : Nat) (n a b : Int) : spec_l01In.f k n a b = some (decide (a ≤ n ∧ n ≤ b)) := by
  unfold spec_l01In.f
  by_cases h : n ≥ a <;> by_cases h' : n ≤ b <;> simp [h, h'] <;> omega
theorem within_eq (k : Nat) (n a b : Int) : impl_within.f k n a b = some (decide (a ≤ n ∧ n ≤ b)) := by
  unfold impl_within.f
  by_cases h : n ≥ a <;> by_cases h' : n ≤ b <;> simp [h, h'] <;> omega

theorem isId_eq (k : Nat) (n : Int) : impl_isId.f k n = some (decide (1 ≤ n ∧ n ≤ 99)) := by
  unfold impl_isId.f
  rw [within_eq]; rfl

def AcC (op : Int) (acks : List Int) (j : Nat) : Prop := ∀ h : j < acks.length, (1 ≤ acks[j] ∧ acks[j] ≤ 1000000000) ∧ op ≠ 3
def PackP (op key fr dst num : Int) (acks : List Int) (body : ByteArray) : Prop :=
  (1 ≤ op ∧ op ≤ 3) ∧ (0 ≤ key ∧ key ≤ 7) ∧ (1 ≤ fr ∧ fr ≤ 99) ∧ (1 ≤ dst ∧ dst ≤ 99) ∧ (0 ≤ num ∧ num ≤ 1000000000) ∧ acks.length ≤ 4 ∧ body.size ≤ 120 ∧ (∀ j, j < acks.length → AcC op acks j) ∧ (op = 2 → body = ByteArray.empty ∧ num = 0)
theorem spec_PacketOk.ev (op key fr dst num : Int) (acks : List Int) (body : ByteArray) (hn : acks.length ≤ 1048576) : Tells F0 (fun k => spec_PacketOk.f k op key fr dst num acks body) (fun r => r = true ↔ PackP op key fr dst num acks body) := by
  have h := T_body (F := F0) (fun k j i => spec_PacketOk.l0 k j ((i : Int), acks, op, key, fr, dst, num, body)) acks.length (AcC op acks) (op = 2 → body = ByteArray.empty ∧ num = 0) (fun i hi P go bad => by
    dsimp only [spec_PacketOk.l0, spec_PacketOk.s0]
    simp only [in_eq, Option.bind_some]
    rw [wrs hi (by omega)]
    exact T_pos (by omega) (T_at hi (T_ndec (fun a1 => T_beq (fun a2 => T_ret (bad fun c => (c hi).2 a2)) fun a2 => go fun _ => ⟨a1, a2⟩) fun a1 => T_ret (bad fun c => a1 (c hi).1)))) (by
    dsimp only [spec_PacketOk.l0, spec_PacketOk.s0]
    refine T_neg (by omega) (T_bne (fun e => T_ret (by simp [e])) fun e => ?_)
    simp only [beq_bytes_iff]
    refine T_dec (fun e2 => T_ret ?_) fun e2 => T_ret ?_
    · simp [e, e2]
    · simp [e, e2])
  have hl := T_in (g := fun x j => spec_PacketOk.l0 x j _) h (fun k => k) (fun _ _ h => h)
  unfold spec_PacketOk.f PackP
  simp only [in_eq, Option.bind_some]
  refine T_ndec (fun h1 => T_ndec (fun h2 => T_ndec (fun h3 => T_ndec (fun h4 => T_ndec (fun h5 => T_dec (fun h6 => T_ret ?_) fun h6 => T_dec (fun h7 => T_ret ?_) fun h7 => T_mono hl fun r hr => ?_) fun h => T_ret ?_) fun h => T_ret ?_) fun h => T_ret ?_) fun h => T_ret ?_) fun h => T_ret ?_
  · exact no_iff fun c => by have := c.2.2.2.2.2.1; omega
  · exact no_iff fun c => by have := c.2.2.2.2.2.2.1; omega
  · rw [hr]
    exact ⟨fun c => ⟨h1, h2, h3, h4, h5, by omega, by omega, c.1, c.2⟩, fun c => ⟨c.2.2.2.2.2.2.2.1, c.2.2.2.2.2.2.2.2⟩⟩
  · exact no_iff fun c => h c.2.2.2.2.1
  · exact no_iff fun c => h c.2.2.2.1
  · exact no_iff fun c => h c.2.2.1
  · exact no_iff fun c => h c.2.1
  · exact no_iff fun c => h c.1
theorem impl_PacketOk.ev (op key fr dst num : Int) (acks : List Int) (body : ByteArray) (hn : acks.length ≤ 1048576) : Tells F0 (fun k => impl_PacketOk.f k op key fr dst num acks body) (fun r => r = true ↔ PackP op key fr dst num acks body) := by
  have h := T_body (F := F0) (fun k j i => impl_PacketOk.l0 k j ((acks.length : Int), (i : Int), acks, op, key, fr, dst, num, body)) acks.length (fun j => ∀ h : j < acks.length, 1 ≤ acks[j] ∧ acks[j] ≤ 1000000000) ((1 ≤ op ∧ op ≤ 3) ∧ (0 ≤ key ∧ key ≤ 7) ∧ (1 ≤ fr ∧ fr ≤ 99) ∧ (1 ≤ dst ∧ dst ≤ 99) ∧ (0 ≤ num ∧ num ≤ 1000000000) ∧ (acks.length = 0 ∨ (op ≠ 3 ∧ acks.length ≤ 4)) ∧ body.size ≤ 120 ∧ (op = 2 → body = ByteArray.empty ∧ num = 0)) (fun i hi P go bad => by
    dsimp only [impl_PacketOk.l0, impl_PacketOk.s0]
    simp only [within_eq, Option.bind_some]
    rw [wrs hi (by omega)]
    exact T_pos (by omega) (T_at hi (T_ndec (fun a1 => go fun _ => a1) fun a1 => T_ret (bad fun c => a1 (c hi))))) (by
    dsimp only [impl_PacketOk.l0, impl_PacketOk.s0]
    simp only [within_eq, isId_eq, Option.bind_some, beq_bytes_iff]
    refine T_neg (by omega) (T_ndec (fun h1 => T_ndec (fun h2 => T_ndec (fun h3 => T_ndec (fun h4 => T_ndec (fun h5 => T_beq (fun h6 => T_dec (fun h7 => T_bne (fun h8 => T_ret ?_) fun h8 => T_dec (fun h9 => T_ret ?_) fun h9 => T_ret ?_) fun h7 => T_ret ?_) fun h6 => T_bne (fun h10 => T_dec (fun h11 => T_dec (fun h7 => T_bne (fun h8 => T_ret ?_) fun h8 => T_dec (fun h9 => T_ret ?_) fun h9 => T_ret ?_) fun h7 => T_ret ?_) fun h11 => T_ret ?_) fun h10 => T_ret ?_) fun h => T_ret ?_) fun h => T_ret ?_) fun h => T_ret ?_) fun h => T_ret ?_) fun h => T_ret ?_)
    · have h6' : acks.length = 0 := by omega
      have h7' : body.size ≤ 120 := by omega
      simp only [h1, h2, h3, h4, h5, h6', h7', h8, true_and, and_true, true_or, true_iff, false_implies]
    · have h6' : acks.length = 0 := by omega
      have h7' : body.size ≤ 120 := by omega
      simp only [h2, h3, h4, h5, h6', h7', h8, h9, true_and, and_true, true_or, beq_iff_eq, forall_const]
      exact ⟨fun h => ⟨by omega, by rw [← h9]; exact h7', h⟩, fun h => h.2.2⟩
    · simp [h8, h9]
    · exact no_iff fun c => by have := c.2.2.2.2.2.2.1; omega
    · have h11' : acks.length ≤ 4 := by omega
      have h7' : body.size ≤ 120 := by omega
      simp only [h1, h2, h3, h4, h5, h10, h11', h7', h8, true_and, and_true, or_true, true_iff, false_implies, ne_eq, not_false_eq_true]
    · have h11' : acks.length ≤ 4 := by omega
      have h7' : body.size ≤ 120 := by omega
      have h10' : op ≠ 3 := h10
      subst h8
      simp only [h1, h2, h3, h4, h5, h11', h7', h9, true_and, and_true, or_true, beq_iff_eq, forall_const, ne_eq]
      simp
    · simp [h8, h9]
    · exact no_iff fun c => by have := c.2.2.2.2.2.2.1; omega
    · exact no_iff fun c => by have := c.2.2.2.2.2.1; omega
    · exact no_iff fun c => by have := c.2.2.2.2.2.1; omega
    · exact no_iff fun c => h c.2.2.2.2.1
    · exact no_iff fun c => h c.2.2.2.1
    · exact no_iff fun c => h c.2.2.1
    · exact no_iff fun c => h c.2.1
    · exact no_iff fun c => h c.1)
  unfold impl_PacketOk.f PackP
  refine T_mono (T_in (g := fun x j => impl_PacketOk.l0 x j _) h (fun k => k) (fun _ _ h => h)) fun r hr => ?_
  rw [hr]
  constructor
  · rintro ⟨h0, h1, h2, h3, h4, h5, h6, h7, h8⟩
    exact ⟨h1, h2, h3, h4, h5, by omega, h7, fun j _ hj => ⟨h0 j hj hj, by omega⟩, h8⟩
  · rintro ⟨h1, h2, h3, h4, h5, h6, h7, h0, h8⟩
    refine ⟨fun j hj hj' => (h0 j hj hj').1, h1, h2, h3, h4, h5, ?_, h7, h8⟩
    rcases Nat.eq_zero_or_pos acks.length with h | h
    · exact .inl h
    · exact .inr ⟨(h0 0 h h).2, h6⟩

abbrev Pend := Int × ByteArray × Int × Int
abbrev Earl := Int × ByteArray
/-! The reference. -/
def TextC (l : List ByteArray) (j : Nat) : Prop := ∀ h : j < l.length, (l[j]).size ≤ 120
def TextsP (l : List ByteArray) : Prop := ∀ j, j < l.length → TextC l j
def SentC (q : Int) (l : List Pend) (i : Nat) : Prop := ∀ h : i < l.length, (1 ≤ (l[i]).1 ∧ (l[i]).1 ≤ q) ∧ (0 < i → (l[i - 1]).1 < (l[i]).1) ∧ (0 ≤ (l[i]).2.2.1 ∧ (l[i]).2.2.1 ≤ 1000000000) ∧ (1 ≤ (l[i]).2.2.2 ∧ (l[i]).2.2.2 ≤ 8) ∧ (l[i]).2.1.size ≤ 120
def EarlyC (a b : Int) (l : List Earl) (i : Nat) : Prop := ∀ h : i < l.length, (a ≤ (l[i]).1 ∧ (l[i]).1 ≤ b) ∧ (0 < i → (l[i - 1]).1 < (l[i]).1) ∧ (l[i]).2.size ≤ 120
def AckC (b : Int) (l : List Int) (i : Nat) : Prop := ∀ h : i < l.length, 1 ≤ l[i] ∧ l[i] ≤ b
def ChanP (c0 c1 c2 : Int) (c3 : List ByteArray) (c4 : List Pend) (c5 : Int) (c6 : List Earl) (c7 : List Int) (c8 : List ByteArray) : Prop :=
  ((1 ≤ c0 ∧ c0 ≤ 99) ∧ (1 ≤ c1 ∧ c1 ≤ 99) ∧ (0 ≤ c2 ∧ c2 ≤ 1000) ∧ c3.length ≤ 30 ∧ TextsP c3) ∧ ((∀ i, i < c4.length → SentC c2 c4 i) ∧ c4.length ≤ 4) ∧ ((0 ≤ c5 ∧ c5 ≤ 1000) ∧ (c8.length : Int) = c5 ∧ TextsP c8 ∧ c7.length ≤ 4) ∧ (∀ i, i < c6.length → EarlyC (c5 + 2) (c5 + 4) c6 i) ∧ ∀ i, i < c7.length → AckC (c5 + 4) c7 i
theorem spec_l13Texts.ev (l : List ByteArray) (hn : l.length ≤ 1048576) : Tells F0 (fun k => spec_l13Texts.f k l) (fun r => r = true ↔ TextsP l) := by
  have h := T_body (F := F0) (fun k j i => spec_l13Texts.l0 k j ((i : Int), l)) l.length (TextC l) True (fun i hi P go bad => by
    dsimp only [spec_l13Texts.l0, spec_l13Texts.s0]
    refine T_pos (by omega) (T_at hi (T_dec (fun h => T_ret (bad fun c => ?_)) fun h => ?_))
    · have := c hi
      omega
    · rw [wrs hi (by omega)]
      exact go fun _ => by omega) (by
    dsimp only [spec_l13Texts.l0, spec_l13Texts.s0]
    exact T_neg (by omega) (T_ret (by simp)))
  unfold spec_l13Texts.f
  exact T_in (g := fun x j => spec_l13Texts.l0 x j _) (T_mono h fun r hr => by rw [hr]; exact ⟨fun h => h.1, fun h => ⟨h, trivial⟩⟩) (fun k => k) (fun _ _ h => h)
theorem spec_l13Sent.ev (c0 c1 c2 : Int) (c3 : List ByteArray) (c4 : List Pend) (c5 : Int) (c6 : List Earl) (c7 : List Int) (c8 : List ByteArray) (h4 : c4.length ≤ 1048576) :
    Tells F0 (fun k => spec_l13Sent.f k c0 c1 c2 c3 c4 c5 c6 c7 c8) (fun r => r = true ↔ (∀ i, i < c4.length → SentC c2 c4 i) ∧ c4.length ≤ 4) := by
  have h := T_body (F := F0) (fun k j i => spec_l13Sent.l0 k j ((i : Int), c3, c4, c6, c7, c8, c0, c1, c2, c5)) c4.length (SentC c2 c4) (c4.length ≤ 4) (fun i hi P go bad => by
    dsimp only [spec_l13Sent.l0, spec_l13Sent.s0]
    simp only [in_eq, Option.bind_some]
    refine T_pos (by omega) (T_at hi (T_ndec (fun a1 => T_dec (fun a2 => T_pre (by omega) hi (by omega) (T_dec (fun a3 => T_ret (bad fun c => ?_)) fun a3 => ?_)) fun a2 => ?_) fun a1 => T_ret (bad fun c => a1 (c hi).1)))
    · have := (c hi).2.1 (by omega)
      omega
    · refine T_ndec (fun a4 => T_ndec (fun a5 => T_dec (fun a6 => T_ret (bad fun c => ?_)) fun a6 => ?_) fun a5 => T_ret (bad fun c => a5 (c hi).2.2.2.1)) fun a4 => T_ret (bad fun c => a4 (c hi).2.2.1)
      · have := (c hi).2.2.2.2
        omega
      · rw [wrs hi (by omega)]
        exact go fun _ => ⟨a1, fun _ => by omega, a4, a5, by omega⟩
    · refine T_ndec (fun a4 => T_ndec (fun a5 => T_dec (fun a6 => T_ret (bad fun c => ?_)) fun a6 => ?_) fun a5 => T_ret (bad fun c => a5 (c hi).2.2.2.1)) fun a4 => T_ret (bad fun c => a4 (c hi).2.2.1)
      · have := (c hi).2.2.2.2
        omega
      · rw [wrs hi (by omega)]
        exact go fun _ => ⟨a1, fun _ => by omega, a4, a5, by omega⟩) (by
    dsimp only [spec_l13Sent.l0, spec_l13Sent.s0]
    exact T_neg (by omega) (T_ret (by rw [decide_eq_true_eq]; omega)))
  unfold spec_l13Sent.f
  exact T_in (g := fun x j => spec_l13Sent.l0 x j _) h (fun k => k) (fun _ _ h => h)
theorem spec_ChanOk.ev (c0 c1 c2 : Int) (c3 : List ByteArray) (c4 : List Pend) (c5 : Int) (c6 : List Earl) (c7 : List Int) (c8 : List ByteArray) (h3 : c3.length ≤ 1048576) (h4 : c4.length ≤ 1048576) (h6 : c6.length ≤ 1048576) (h7 : c7.length ≤ 1048576) (h8 : c8.length ≤ 1048576) :
    Tells F0 (fun k => spec_ChanOk.f k c0 c1 c2 c3 c4 c5 c6 c7 c8) (fun r => r = true ↔ ChanP c0 c1 c2 c3 c4 c5 c6 c7 c8) := by
  have loop2 : (0 ≤ c5 ∧ c5 ≤ 1000) → Tells F0 (fun k => spec_ChanOk.l2 k k ((0 : Int), c3, c4, c6, c7, c8, c0, c1, c2, c5)) (fun r => r = true ↔ ∀ i, i < c7.length → AckC (c5 + 4) c7 i) := by
    intro hc
    have h := T_body (F := F0) (fun k j i => spec_ChanOk.l2 k j ((i : Int), c3, c4, c6, c7, c8, c0, c1, c2, c5)) c7.length (AckC (c5 + 4) c7) True (fun i hi P go bad => by
      dsimp only [spec_ChanOk.l2, spec_ChanOk.s2]
      simp only [in_eq, Option.bind_some]
      rw [wr64 (x := c5 + 4) (by omega) (by omega)]
      refine T_pos (by omega) (T_at hi (T_ndec (fun a1 => ?_) fun a1 => T_ret (bad fun c => a1 (c hi))))
      rw [wrs hi (by omega)]
      exact go fun _ => a1) (by
      dsimp only [spec_ChanOk.l2, spec_ChanOk.s2]
      exact T_neg (by omega) (T_ret (by simp)))
    exact T_in (g := fun x j => spec_ChanOk.l2 x j _) (T_mono h fun r hr => by rw [hr]; exact ⟨fun h => h.1, fun h => ⟨h, trivial⟩⟩) (fun k => k) (fun _ _ h => h)
  have loop0 : (0 ≤ c5 ∧ c5 ≤ 1000) → Tells F0 (fun k => spec_ChanOk.l0 k k ((0 : Int), c3, c4, c6, c7, c8, c0, c1, c2, c5)) (fun r => r = true ↔ (∀ i, i < c6.length → EarlyC (c5 + 2) (c5 + 4) c6 i) ∧ ∀ i, i < c7.length → AckC (c5 + 4) c7 i) := by
    intro hc
    have h := T_body (F := F0) (fun k j i => spec_ChanOk.l0 k j ((i : Int), c3, c4, c6, c7, c8, c0, c1, c2, c5)) c6.length (EarlyC (c5 + 2) (c5 + 4) c6) (∀ i, i < c7.length → AckC (c5 + 4) c7 i) (fun i hi P go bad => by
      dsimp only [spec_ChanOk.l0, spec_ChanOk.s0]
      simp only [in_eq, Option.bind_some]
      rw [wr64 (x := c5 + 4) (by omega) (by omega), wr64 (x := c5 + 2) (by omega) (by omega)]
      refine T_pos (by omega) (T_at hi (T_ndec (fun a1 => T_dec (fun a2 => T_pre (by omega) hi (by omega) (T_at hi (T_dec (fun a3 => T_ret (bad fun c => ?_)) fun a3 => T_at hi (T_dec (fun a4 => T_ret (bad fun c => ?_)) fun a4 => ?_)))) fun a2 => T_at hi (T_dec (fun a4 => T_ret (bad fun c => ?_)) fun a4 => ?_)) fun a1 => T_ret (bad fun c => a1 (c hi).1)))
      · have := (c hi).2.1 (by omega)
        omega
      · have := (c hi).2.2
        omega
      · rw [wrs hi (by omega)]
        exact go fun _ => ⟨a1, fun _ => by omega, by omega⟩
      · have := (c hi).2.2
        omega
      · rw [wrs hi (by omega)]
        exact go fun _ => ⟨a1, fun _ => by omega, by omega⟩) (by
      dsimp only [spec_ChanOk.l0, spec_ChanOk.s0]
      exact T_neg (by omega) (T_call (loop2 hc) Prod.fst (fun _ _ h => h.1)))
    exact T_in (g := fun x j => spec_ChanOk.l0 x j _) h (fun k => k) (fun _ _ h => h)
  unfold spec_ChanOk.f
  simp only [in_eq, Option.bind_some]
  refine T_ndec (fun a0 => T_ndec (fun a1 => T_ndec (fun a2 => T_dec (fun a3 => T_ret (no_iff fun c => ?_)) fun a3 => ?_) fun a2 => T_ret (no_iff fun c => a2 c.1.2.2.1)) fun a1 => T_ret (no_iff fun c => a1 c.1.2.1)) fun a0 => T_ret (no_iff fun c => a0 c.1.1)
  · have := c.1.2.2.2.1
    omega
  refine T_bind (spec_l13Texts.ev c3 h3) fun q hq => ?_
  cases q with
  | false => exact T_true rfl (T_ret (no_iff fun c => absurd (hq.2 c.1.2.2.2.2) (by simp)))
  | true =>
  refine T_same rfl (T_bind (spec_l13Sent.ev c0 c1 c2 c3 c4 c5 c6 c7 c8 h4) fun q2 hq2 => ?_)
  cases q2 with
  | false => exact T_true rfl (T_ret (no_iff fun c => absurd (hq2.2 c.2.1) (by simp)))
  | true =>
  refine T_same rfl (T_ndec (fun b2 => T_bne (fun b3 => T_ret (no_iff fun c => b3 c.2.2.1.2.1)) fun b3 => ?_) fun b2 => T_ret (no_iff fun c => b2 c.2.2.1.1))
  refine T_bind (spec_l13Texts.ev c8 h8) fun q3 hq3 => ?_
  cases q3 with
  | false => exact T_true rfl (T_ret (no_iff fun c => absurd (hq3.2 c.2.2.1.2.2.1) (by simp)))
  | true =>
  refine T_same rfl (T_dec (fun b5 => T_ret (no_iff fun c => ?_)) fun b5 => T_mono (loop0 b2) fun r hr => ?_)
  · have := c.2.2.1.2.2.2
    omega
  · rw [hr]
    exact ⟨fun c => ⟨⟨a0, a1, a2, by omega, hq.1 rfl⟩, hq2.1 rfl, ⟨b2, b3, hq3.1 rfl, by omega⟩, c⟩, fun c => c.2.2.2⟩
/-! The program. -/
theorem impl_textsOk.ev (a b : List ByteArray) (ha : a.length ≤ 1048576) (hb : b.length ≤ 1048576) : Tells F0 (fun k => impl_textsOk.f k [a, b]) (fun r => r = true ↔ TextsP a ∧ TextsP b) := by
  have hls : ∀ i (h : i < [a, b].length), ([a, b][i]).length ≤ 1048576 := by
    intro i h
    match i, h with
    | 0, _ => exact ha
    | 1, _ => exact hb
  generalize hl : [a, b] = ls at hls
  have h2 : ls.length = 2 := by rw [← hl]; rfl
  have h := T_loop (F := F0) (fun k j i => impl_textsOk.l0 k j ((2 : Int), (i : Int), ls)) 2 (fun i r => r = true ↔ ∀ m (h : m < ls.length), i ≤ m → TextsP ls[m]) (fun i hi he => by
    dsimp only [impl_textsOk.l0, impl_textsOk.s0]
    have hi' : i < ls.length := by omega
    refine T_pos (by omega) (T_at hi' (T_in (F := FS F0) (g := fun x m => impl_textsOk.l2 x.1 (impl_textsOk.l0 x.1 x.2) m _) ?_ Prod.fst (fun _ _ h => h.1)))
    have hn := hls i hi'
    refine T_mono (T_body (F := FS F0) (fun x m j => impl_textsOk.l2 x.1 (impl_textsOk.l0 x.1 x.2) m ((2 : Int), (i : Int), ((ls[i]).length : Int), (j : Int), ls, ls[i])) (ls[i]).length (TextC ls[i]) (∀ m (h : m < ls.length), i + 1 ≤ m → TextsP ls[m]) (fun j hj P go bad => ?_) ?_) fun r hr => ?_
    · dsimp only [impl_textsOk.l2, impl_textsOk.s2]
      refine T_pos (by omega) (T_at hj (T_dec (fun h => T_ret (bad fun c => ?_)) fun h => ?_))
      · have := c hj
        omega
      · rw [wrs hj (by omega)]
        exact go fun _ => by omega
    · dsimp only [impl_textsOk.l2, impl_textsOk.s2]
      refine T_neg (by omega) ?_
      rw [wrs hi (by omega)]
      exact T_lift he
    · rw [hr]
      constructor
      · rintro ⟨c1, c2⟩ m hm h
        by_cases e : m = i
        · subst e; exact c1
        · exact c2 m hm (by omega)
      · exact fun c => ⟨c i hi' (Nat.le_refl _), fun m hm h => c m hm (by omega)⟩) (by
    dsimp only [impl_textsOk.l0, impl_textsOk.s0]
    exact T_neg (by omega) (T_ret ⟨fun _ m hm h => absurd hm (by omega), fun _ => rfl⟩)) 0 (Nat.zero_le _)
  unfold impl_textsOk.f
  refine T_in (g := fun x j => impl_textsOk.l0 x j _) (T_mono (α := Bool) (P := fun r => r = true ↔ ∀ m (h : m < ls.length), 0 ≤ m → TextsP ls[m]) ?_ fun r hr => ?_) (fun k => k) (fun _ _ h => h)
  · have : (ls.length : Int) = 2 := by omega
    simpa [this] using h
  · rw [hr]
    subst hl
    exact ⟨fun c => ⟨c 0 (by simp) (by omega), c 1 (by simp) (by omega)⟩, fun c m hm _ => by
      match m, hm with
      | 0, _ => exact c.1
      | 1, _ => exact c.2⟩
theorem impl_ChanOk.ev (c0 c1 c2 : Int) (c3 : List ByteArray) (c4 : List Pend) (c5 : Int) (c6 : List Earl) (c7 : List Int) (c8 : List ByteArray) (h3 : c3.length ≤ 1048576) (h4 : c4.length ≤ 1048576) (h6 : c6.length ≤ 1048576) (h7 : c7.length ≤ 1048576) (h8 : c8.length ≤ 1048576) :
    Tells F0 (fun k => impl_ChanOk.f k c0 c1 c2 c3 c4 c5 c6 c7 c8) (fun r => r = true ↔ ChanP c0 c1 c2 c3 c4 c5 c6 c7 c8) := by
  generalize hw4 : IntKind.i64.wrap (c5 + 4) = w4
  generalize hw2 : IntKind.i64.wrap (c5 + 2) = w2
  have last : Tells F0 (fun k => impl_ChanOk.l4 k k ((c7.length : Int), (0 : Int), c3, c4, c6, c7, c8, c0, c1, c2, c5)) (fun r => r = true ↔ (∀ i, i < c7.length → AckC w4 c7 i) ∧ (((1 ≤ c0 ∧ c0 ≤ 99) ∧ (1 ≤ c1 ∧ c1 ≤ 99) ∧ (0 ≤ c2 ∧ c2 ≤ 1000) ∧ (0 ≤ c5 ∧ c5 ≤ 1000)) ∧ (c8.length : Int) = c5 ∧ c3.length ≤ 30 ∧ (TextsP c3 ∧ TextsP c8) ∧ c4.length ≤ 4 ∧ c7.length ≤ 4)) := by
    refine T_in (g := fun x j => impl_ChanOk.l4 x j _) (T_body (F := F0) (fun k j i => impl_ChanOk.l4 k j ((c7.length : Int), (i : Int), c3, c4, c6, c7, c8, c0, c1, c2, c5)) c7.length (AckC w4 c7) _ (fun i hi P go bad => ?_) ?_) (fun k => k) (fun _ _ h => h)
    · dsimp only [impl_ChanOk.l4, impl_ChanOk.s4]
      simp only [within_eq, Option.bind_some, hw4]
      refine T_pos (by omega) (T_at hi (T_ndec (fun a1 => ?_) fun a1 => T_ret (bad fun c => a1 (c hi))))
      rw [wrs hi (by omega)]
      exact go fun _ => a1
    · dsimp only [impl_ChanOk.l4, impl_ChanOk.s4]
      simp only [within_eq, isId_eq, Option.bind_some]
      refine T_neg (by omega) (T_dec (fun a0 => T_dec (fun a1 => T_dec (fun a2 => T_dec (fun a3 => T_beq (fun a4 => T_dec (fun a5 => ?_) fun a5 => T_ret (no_iff fun c => ?_)) fun a4 => T_ret (no_iff fun c => a4 c.2.1)) fun a3 => T_ret (no_iff fun c => a3 c.1.2.2.2)) fun a2 => T_ret (no_iff fun c => a2 c.1.2.2.1)) fun a1 => T_ret (no_iff fun c => a1 c.1.2.1)) fun a0 => T_ret (no_iff fun c => a0 c.1.1))
      · refine T_bind (T_call (impl_textsOk.ev c3 c8 h3 h8) Prod.fst (fun _ _ h => h.1)) fun q hq => ?_
        cases q with
        | false => exact T_false rfl (T_ret (no_iff fun c => absurd (hq.2 c.2.2.2.1) (by simp)))
        | true =>
        refine T_true rfl (T_dec (fun a7 => T_ret ?_) fun a7 => T_ret (no_iff fun c => ?_))
        · rw [decide_eq_true_eq]
          exact ⟨fun h => ⟨⟨a0, a1, a2, a3⟩, a4, by omega, hq.1 rfl, by omega, by omega⟩, fun h => by have := h.2.2.2.2.2; omega⟩
        · have := c.2.2.2.2.1
          omega
      · have := c.2.2.1
        omega
  have mid : Tells F0 (fun k => impl_ChanOk.l2 k k ((c6.length : Int), (0 : Int), c3, c4, c6, c7, c8, c0, c1, c2, c5)) (fun r => r = true ↔ (∀ i, i < c6.length → EarlyC w2 w4 c6 i) ∧ ((∀ i, i < c7.length → AckC w4 c7 i) ∧ (((1 ≤ c0 ∧ c0 ≤ 99) ∧ (1 ≤ c1 ∧ c1 ≤ 99) ∧ (0 ≤ c2 ∧ c2 ≤ 1000) ∧ (0 ≤ c5 ∧ c5 ≤ 1000)) ∧ (c8.length : Int) = c5 ∧ c3.length ≤ 30 ∧ (TextsP c3 ∧ TextsP c8) ∧ c4.length ≤ 4 ∧ c7.length ≤ 4))) := by
    refine T_in (g := fun x j => impl_ChanOk.l2 x j _) (T_body (F := F0) (fun k j i => impl_ChanOk.l2 k j ((c6.length : Int), (i : Int), c3, c4, c6, c7, c8, c0, c1, c2, c5)) c6.length (EarlyC w2 w4 c6) _ (fun i hi P go bad => ?_) ?_) (fun k => k) (fun _ _ h => h)
    · dsimp only [impl_ChanOk.l2, impl_ChanOk.s2]
      simp only [within_eq, Option.bind_some, hw4, hw2]
      refine T_pos (by omega) (T_at hi (T_dec (fun a2 => T_pre (by omega) hi (by omega) (T_dec (fun a3 => T_ret (bad fun c => ?_)) fun a3 => T_ndec (fun a1 => T_dec (fun a4 => T_ret (bad fun c => ?_)) fun a4 => ?_) fun a1 => T_ret (bad fun c => a1 (c hi).1))) fun a2 => T_ndec (fun a1 => T_dec (fun a4 => T_ret (bad fun c => ?_)) fun a4 => ?_) fun a1 => T_ret (bad fun c => a1 (c hi).1)))
      · have := (c hi).2.1 (by omega)
        omega
      · have := (c hi).2.2
        omega
      · rw [wrs hi (by omega)]
        exact go fun _ => ⟨a1, fun _ => by omega, by omega⟩
      · have := (c hi).2.2
        omega
      · rw [wrs hi (by omega)]
        exact go fun _ => ⟨a1, fun _ => by omega, by omega⟩
    · dsimp only [impl_ChanOk.l2, impl_ChanOk.s2]
      exact T_neg (by omega) (T_call last Prod.fst (fun _ _ h => h.1))
  have first := T_body (F := F0) (fun k j i => impl_ChanOk.l0 k j ((c4.length : Int), (i : Int), c3, c4, c6, c7, c8, c0, c1, c2, c5)) c4.length (SentC c2 c4) _ (fun i hi P go bad => by
    dsimp only [impl_ChanOk.l0, impl_ChanOk.s0]
    simp only [within_eq, Option.bind_some]
    refine T_pos (by omega) (T_at hi (T_dec (fun a2 => T_pre (by omega) hi (by omega) (T_dec (fun a3 => T_ret (bad fun c => ?_)) fun a3 => ?_)) fun a2 => ?_))
    · have := (c hi).2.1 (by omega)
      omega
    · refine T_ndec (fun a1 => T_ndec (fun a4 => T_ndec (fun a5 => T_dec (fun a6 => T_ret (bad fun c => ?_)) fun a6 => ?_) fun a5 => T_ret (bad fun c => a5 (c hi).2.2.2.1)) fun a4 => T_ret (bad fun c => a4 (c hi).2.2.1)) fun a1 => T_ret (bad fun c => a1 (c hi).1)
      · have := (c hi).2.2.2.2
        omega
      · rw [wrs hi (by omega)]
        exact go fun _ => ⟨a1, fun _ => by omega, a4, a5, by omega⟩
    · refine T_ndec (fun a1 => T_ndec (fun a4 => T_ndec (fun a5 => T_dec (fun a6 => T_ret (bad fun c => ?_)) fun a6 => ?_) fun a5 => T_ret (bad fun c => a5 (c hi).2.2.2.1)) fun a4 => T_ret (bad fun c => a4 (c hi).2.2.1)) fun a1 => T_ret (bad fun c => a1 (c hi).1)
      · have := (c hi).2.2.2.2
        omega
      · rw [wrs hi (by omega)]
        exact go fun _ => ⟨a1, fun _ => by omega, a4, a5, by omega⟩) (by
    dsimp only [impl_ChanOk.l0, impl_ChanOk.s0]
    exact T_neg (by omega) (T_call mid Prod.fst (fun _ _ h => h.1)))
  unfold impl_ChanOk.f
  refine T_in (g := fun x j => impl_ChanOk.l0 x j _) (T_mono first fun r hr => ?_) (fun k => k) (fun _ _ h => h)
  rw [hr]
  unfold ChanP
  by_cases hc : 0 ≤ c5 ∧ c5 ≤ 1000
  · rw [wr64 (x := c5 + 4) (by omega) (by omega)] at hw4
    rw [wr64 (x := c5 + 2) (by omega) (by omega)] at hw2
    subst hw4 hw2
    constructor
    · rintro ⟨a, b, c, ⟨d1, d2, d3, d4⟩, e, f, ⟨g1, g2⟩, h, i⟩
      exact ⟨⟨d1, d2, d3, f, g1⟩, ⟨a, h⟩, ⟨hc, e, g2, i⟩, b, c⟩
    · rintro ⟨⟨d1, d2, d3, f, g1⟩, ⟨a, h⟩, ⟨_, e, g2, i⟩, b, c⟩
      exact ⟨a, b, c, ⟨d1, d2, d3, hc⟩, e, f, ⟨g1, g2⟩, h, i⟩
  · constructor
    · rintro ⟨a, b, c, ⟨d1, d2, d3, d4⟩, _⟩
      exact absurd d4 hc
    · rintro ⟨_, _, ⟨d, _⟩, _⟩
      exact absurd d hc

theorem take_filter_succ {α : Type} (p : α → Bool) (l : List α) (i : Nat) (h : i < l.length) : (l.take (i + 1)).filter p = (l.take i).filter p ++ (if p l[i] then [l[i]] else []) := by
  rw [List.take_succ_eq_append_getElem h, List.filter_append]
  cases e : p l[i] <;> simp [e]
theorem drop_get {α : Type} {l l' : List α} {j : Nat} (h : l'.drop j = l.drop j) (hj : j < l.length) (hj' : j < l'.length) : l'[j] = l[j] := by
  have := congrArg (fun x => x[0]?) h
  simp only [List.getElem?_drop, Nat.add_zero, List.getElem?_eq_getElem hj, List.getElem?_eq_getElem hj'] at this
  exact Option.some.inj this
theorem set_take_succ {α : Type} (l : List α) (i : Nat) (x : α) (h : i < l.length) : (l.set i x).take (i + 1) = l.take i ++ [x] := by
  rw [List.take_succ_eq_append_getElem (by simpa using h), List.take_set_of_le (Nat.le_refl _), List.getElem_set_self]

theorem filter_len_take {α : Type} (p : α → Bool) (l : List α) (i : Nat) : ((l.take i).filter p).length ≤ l.length :=
  Nat.le_trans (List.length_filter_le _ _) (by simp; omega)

theorem impl_copyInts.ev (l : List Int) (h : l.length ≤ 1048576) : Tells F0 (fun k => impl_copyInts.f k l) (· = l) := by
  unfold impl_copyInts.f
  exact T_pos (by simp; omega) (T_ret rfl)

abbrev ChanT := Int × Int × Int × List ByteArray × List Pend × Int × List Earl × List Int × List ByteArray
theorem impl_copyTexts.ev (l : List ByteArray) (h : l.length ≤ 1048576) : Tells F0 (fun k => impl_copyTexts.f k l) (· = l) := by
  unfold impl_copyTexts.f
  exact T_pos (by simp; omega) (T_ret rfl)
section
variable (c0 c1 c2 : Int) (c3 : List ByteArray) (c4 : List Pend) (c5 : Int) (c6 : List Earl) (c7 : List Int) (c8 : List ByteArray)
theorem impl_copyChan.ev (h3 : c3.length ≤ 1048576) (h4 : c4.length ≤ 1048576) (h6 : c6.length ≤ 1048576) (h7 : c7.length ≤ 1048576) (h8 : c8.length ≤ 1048576) :
    Tells F0 (fun k => impl_copyChan.f k c0 c1 c2 c3 c4 c5 c6 c7 c8) (· = (c0, c1, c2, c3, c4, c5, c6, c7, c8)) := by
  unfold impl_copyChan.f
  exact T_bindE (impl_copyTexts.ev c3 h3) (T_bindE (impl_copyTexts.ev c8 h8) (T_bindE (impl_copyInts.ev c7 h7) (T_pos (by simp; omega) (T_pos (by simp; omega) (T_ret rfl)))))
theorem spec_l13Copy.ev (h3 : c3.length ≤ 1048576) (h4 : c4.length ≤ 1048576) (h6 : c6.length ≤ 1048576) (h7 : c7.length ≤ 1048576) (h8 : c8.length ≤ 1048576) :
    Tells F0 (fun k => spec_l13Copy.f k c0 c1 c2 c3 c4 c5 c6 c7 c8) (· = (c0, c1, c2, c3, c4, c5, c6, c7, c8)) := by
  unfold spec_l13Copy.f
  exact T_pos (by simp; omega) (T_pos (by simp; omega) (T_pos (by simp; omega) (T_pos (by simp; omega) (T_pos (by simp; omega) (T_ret rfl)))))
end

def nlow (n : Int) (x : Earl) : Bool := decide (x.1 < n)
def nhgh (n : Int) (x : Earl) : Bool := decide (x.1 > n)
def runE : List Earl → Int → List ByteArray → Int × List Earl × List ByteArray
  | [], g, o => (g, [], o)
  | x :: r, g, o => if x.1 = g + 1 then runE r (g + 1) (o ++ [x.2]) else (g, x :: r, o)
def putE (l : List Earl) (n : Int) (b : ByteArray) : List Earl := l.filter (nlow n) ++ [(n, b)] ++ l.filter (nhgh n)
def earlyM (l : List Earl) (g : Int) (o : List ByteArray) (n : Int) (b : ByteArray) : Int × List Earl × List ByteArray := if n ∈ l.map (·.1) then (g, l, o) else runE (putE l n b) g o
theorem earl_split {F : List Earl} {a : Int} (hp : F.Pairwise fun x y => x.1 < y.1) (hn : a ∉ F.map (·.1)) {i : Nat} (hi : i ≤ F.length) (h1 : ∀ j (h : j < F.length), j < i → (F[j]).1 < a) (h2 : ∀ h : i < F.length, ¬ (F[i]).1 < a) :
    F.filter (nlow a) = F.take i ∧ F.filter (nhgh a) = F.drop i := by
  have hx : ∀ p, F.filter p = (F.take i).filter p ++ (F.drop i).filter p := fun p => by rw [← List.filter_append, List.take_append_drop]
  have k1 : ∀ x ∈ F.take i, x.1 < a := by
    intro x hx
    obtain ⟨j, hj, rfl⟩ := List.mem_take_iff_getElem.1 hx
    exact h1 j (by omega) (by omega)
  have k2 : ∀ x ∈ F.drop i, x.1 > a := by
    intro x hx
    have hna : x.1 ≠ a := fun e => hn (List.mem_map.2 ⟨x, List.mem_of_mem_drop hx, e⟩)
    obtain ⟨j, hj, rfl⟩ := List.mem_drop_iff_getElem.1 hx
    have b1 := h2 (by omega)
    have b2 : j ≠ 0 → (F[i]).1 < (F[i + j]).1 := fun h => (List.pairwise_iff_getElem.1 hp) i (i + j) (by omega) (by omega) (by omega)
    by_cases hj0 : j = 0
    · subst hj0
      simp only [Nat.add_zero] at hna ⊢
      omega
    · have b3 := b2 hj0
      omega
  rw [hx, hx]
  refine ⟨?_, ?_⟩
  · rw [List.filter_eq_self.2 fun x hx => by have := k1 x hx; simpa [nlow] using this, List.filter_eq_nil_iff.2 fun x hx => by have := k2 x hx; unfold nlow; rw [decide_eq_true_eq]; omega, List.append_nil]
  · rw [List.filter_eq_nil_iff.2 fun x hx => by have := k1 x hx; unfold nhgh; rw [decide_eq_true_eq]; omega, List.filter_eq_self.2 fun x hx => by have := k2 x hx; simpa [nhgh] using this, List.nil_append]
theorem earl_pair {a b : Int} {l : List Earl} (hC : ∀ i, i < l.length → EarlyC a b l i) : l.Pairwise fun x y => x.1 < y.1 := by
  have key : ∀ d i, (hh : i + d + 1 < l.length) → (l[i]).1 < (l[i + d + 1]).1 := by
    intro d
    induction d with
    | zero => intro i hh; exact (hC (i + 1) hh hh).2.1 (by omega)
    | succ d ih =>
      intro i hh
      have a1 := ih i (by omega)
      have a2 := (hC (i + (d + 1) + 1) hh hh).2.1 (by omega)
      simp only [Nat.add_sub_cancel] at a2
      have e : i + (d + 1) = i + d + 1 := by omega
      simp only [e] at a2 ⊢
      omega
  rw [List.pairwise_iff_getElem]
  intro i j hi hj hij
  have := key (j - i - 1) i (by omega)
  have e : i + (j - i - 1) + 1 = j := by omega
  simp only [e] at this
  exact this
theorem ins_earl (k : Nat) (F : List Earl) (i : Nat) (r : Earl) (hi : i ≤ F.length) (hl : F.length ≤ 1048576) : slices_Insert_impl_Early_impl_Early.f k F i [r] = some (F.take i ++ [r] ++ F.drop i) := by
  unfold slices_Insert_impl_Early_impl_Early.f
  rw [if_pos ⟨⟨by omega, by omega⟩, by simp, by simp only [List.length_singleton]; omega⟩, Int.toNat_natCast]
theorem putE_len (l : List Earl) (n : Int) (b : ByteArray) : (putE l n b).length ≤ l.length + 1 := by
  unfold putE
  have : (l.filter (nlow n)).length + (l.filter (nhgh n)).length ≤ l.length := by
    induction l with
    | nil => simp
    | cons x r ih =>
      have hx : ¬ (nlow n x = true ∧ nhgh n x = true) := by
        simp only [nlow, nhgh, decide_eq_true_eq]
        omega
      simp only [List.filter_cons]
      by_cases h1 : nlow n x = true <;> by_cases h2 : nhgh n x = true
      · exact absurd ⟨h1, h2⟩ hx
      all_goals simp only [h1, h2, if_true, if_false, List.length_cons, Bool.false_eq_true]; omega
  simp only [List.length_append, List.length_singleton]
  omega
theorem runE_len : ∀ (l : List Earl) (g : Int) (o : List ByteArray), (runE l g o).2.1.length ≤ l.length ∧ (runE l g o).2.2.length ≤ o.length + l.length
  | [], g, o => ⟨Nat.le_refl _, Nat.le_refl _⟩
  | x :: r, g, o => by
    simp only [runE]
    split
    · have := runE_len r (g + 1) (o ++ [x.2])
      simp only [List.length_append, List.length_cons, List.length_nil] at this ⊢
      omega
    · exact ⟨Nat.le_refl _, by dsimp only; omega⟩
theorem early_len (l : List Earl) (g : Int) (o : List ByteArray) (n : Int) (b : ByteArray) : (earlyM l g o n b).2.1.length ≤ l.length + 1 ∧ (earlyM l g o n b).2.2.length ≤ o.length + l.length + 1 := by
  unfold earlyM
  split
  · exact ⟨Nat.le_succ _, by dsimp only; omega⟩
  · have h1 := putE_len l n b
    have h2 := runE_len (putE l n b) g o
    omega
section
variable (c0 c1 c2 : Int) (c3 : List ByteArray) (c4 : List Pend) (c7 : List Int)
def withE (c0 c1 c2 : Int) (c3 : List ByteArray) (c4 : List Pend) (c7 : List Int) (r : Int × List Earl × List ByteArray) : ChanT := (c0, c1, c2, c3, c4, r.1, r.2.1, c7, r.2.2)
theorem drop_tl (l : List Earl) (x : Earl) : ((x :: l).drop 1).take ((x :: l).length - 1) = l := by simp
theorem impl_run.ev (E : List Earl) (g : Int) (o : List ByteArray) (hg : -1000000000 ≤ g ∧ g ≤ 1000000000) (hE : E.length ≤ 1048577) (ho : o.length ≤ 2000000) : Tells F0 (fun k => impl_Chan_early.l2 k k (c0, c1, c2, g, c3, c4, E, c7, o)) (· = withE c0 c1 c2 c3 c4 c7 (runE E g o)) := by
  have h := T_loops (F := F0) (fun k j (s : Int × List Earl × List ByteArray) (_ : Nat) => impl_Chan_early.l2 k j (c0, c1, c2, s.1, c3, c4, s.2.1, c7, s.2.2)) E.length (fun i s => s.2.1.length + i = E.length ∧ s.2.2.length ≤ o.length + i ∧ (s.1 = g + i) ∧ runE s.2.1 s.1 s.2.2 = runE E g o) (fun _ _ r => r = withE c0 c1 c2 c3 c4 c7 (runE E g o)) (fun i s hi hs he => by
    obtain ⟨g', l, o'⟩ := s
    obtain ⟨q1, q2, q3, q4⟩ := hs
    dsimp only at q1 q2 q3 q4
    cases l with
    | nil => simp at q1; omega
    | cons x r =>
      dsimp only [impl_Chan_early.l2, impl_Chan_early.s2]
      simp only [List.getElem?_cons_zero, Option.bind_some, drop_tl]
      simp only [List.length_cons] at q1 ⊢
      rw [wr64 (x := g' + 1) (by omega) (by omega)]
      simp only [runE] at q4
      refine T_pos (by omega) (T_true (by simp <;> omega) (T_beq (fun e => T_true (by simp <;> omega) (T_pos (by simp only [List.length_nil]; omega) (T_true (by simp <;> omega) (he (_, _, _) ⟨by dsimp only; omega, by simp only [List.length_append, List.length_singleton]; omega, by dsimp only; omega, ?_⟩)))) fun e => T_ret ?_))
      · rw [if_pos e] at q4; exact q4
      · rw [if_neg e] at q4; rw [← q4]; rfl) (fun s hs => by
    obtain ⟨g', l, o'⟩ := s
    obtain ⟨q1, q2, q3, q4⟩ := hs
    dsimp only at q1 q2 q3 q4
    have hl : l = [] := List.eq_nil_of_length_eq_zero (by omega)
    subst hl
    dsimp only [impl_Chan_early.l2, impl_Chan_early.s2]
    refine T_neg (by simp) (T_ret ?_)
    rw [← q4]
    rfl) 0 (g, E, o) (Nat.zero_le _) ⟨rfl, Nat.le_refl _, by simp, rfl⟩
  exact T_in (g := fun x j => impl_Chan_early.l2 x j _) (by simpa using h) (fun k => k) (fun _ _ h => h)
theorem spec_run.ev (c6 : List Earl) (E : List Earl) (g : Int) (o : List ByteArray) (hg : -1000000000 ≤ g ∧ g ≤ 1000000000) (hE : E.length ≤ 1048577) (ho : o.length ≤ 2000000) : Tells F0 (fun k => spec_l13Put.l4 k k (c0, c1, c2, g, c3, c4, c6, c7, o, E)) (· = withE c0 c1 c2 c3 c4 c7 (runE E g o)) := by
  have h := T_loops (F := F0) (fun k j (s : Int × List Earl × List ByteArray) (_ : Nat) => spec_l13Put.l4 k j (c0, c1, c2, s.1, c3, c4, c6, c7, s.2.2, s.2.1)) E.length (fun i s => s.2.1.length + i = E.length ∧ s.2.2.length ≤ o.length + i ∧ (s.1 = g + i) ∧ runE s.2.1 s.1 s.2.2 = runE E g o) (fun _ _ r => r = withE c0 c1 c2 c3 c4 c7 (runE E g o)) (fun i s hi hs he => by
    obtain ⟨g', l, o'⟩ := s
    obtain ⟨q1, q2, q3, q4⟩ := hs
    dsimp only at q1 q2 q3 q4
    cases l with
    | nil => simp at q1; omega
    | cons x r =>
      dsimp only [spec_l13Put.l4, spec_l13Put.s4]
      simp only [List.getElem?_cons_zero, Option.bind_some, drop_tl, List.nil_append, List.length_nil, Nat.zero_add]
      simp only [List.length_cons] at q1 ⊢
      rw [wr64 (x := g' + 1) (by omega) (by omega)]
      simp only [runE] at q4
      refine T_pos (by omega) (T_true (by simp <;> omega) (T_beq (fun e => T_true (by simp <;> omega) (T_pos (by simp only [List.length_nil]; omega) (T_true (by simp <;> omega) (he (_, _, _) ⟨by dsimp only; omega, by simp only [List.length_append, List.length_singleton]; omega, by dsimp only; omega, ?_⟩)))) fun e => T_pos (by omega) (T_ret ?_)))
      · rw [if_pos e] at q4; exact q4
      · rw [if_neg e] at q4; rw [← q4]; rfl) (fun s hs => by
    obtain ⟨g', l, o'⟩ := s
    obtain ⟨q1, q2, q3, q4⟩ := hs
    dsimp only at q1 q2 q3 q4
    have hl : l = [] := List.eq_nil_of_length_eq_zero (by omega)
    subst hl
    dsimp only [spec_l13Put.l4, spec_l13Put.s4]
    refine T_neg (by simp) (T_pos (by simp) (T_ret ?_))
    rw [← q4]
    rfl) 0 (g, E, o) (Nat.zero_le _) ⟨rfl, Nat.le_refl _, by simp, rfl⟩
  exact T_in (g := fun x j => spec_l13Put.l4 x j _) (by simpa using h) (fun k => k) (fun _ _ h => h)
theorem impl_early.ev (g : Int) (c6 : List Earl) (o : List ByteArray) (n : Int) (b : ByteArray) (hp : c6.Pairwise fun x y => x.1 < y.1) (hg : -1000000000 ≤ g ∧ g ≤ 1000000000) (h6 : c6.length ≤ 1048576) (ho : o.length ≤ 2000000) :
    Tells F0 (fun k => impl_Chan_early.f k c0 c1 c2 c3 c4 g c6 c7 o n b) (· = withE c0 c1 c2 c3 c4 c7 (earlyM c6 g o n b)) := by
  unfold impl_Chan_early.f
  have fin : ∀ i, i ≤ c6.length → n ∉ c6.map (·.1) → (∀ j (h : j < c6.length), j < i → (c6[j]).1 < n) → (∀ h : i < c6.length, ¬ (c6[i]).1 < n) → Tells (FS F0) (fun x : Nat × Nat => (slices_Insert_impl_Early_impl_Early.f x.1 c6 i [(n, b)]).bind fun r => impl_Chan_early.l2 x.1 x.1 (c0, c1, c2, g, c3, c4, r, c7, o)) (· = withE c0 c1 c2 c3 c4 c7 (earlyM c6 g o n b)) := by
    intro i hi hn h1 h2
    obtain ⟨s1, s2⟩ := earl_split hp hn hi h1 h2
    simp only [ins_earl _ _ _ _ hi h6, Option.bind_some]
    have e : c6.take i ++ [(n, b)] ++ c6.drop i = putE c6 n b := by unfold putE; rw [s1, s2]
    rw [e]
    unfold earlyM
    rw [if_neg hn]
    exact T_call (impl_run.ev c0 c1 c2 c3 c4 c7 _ g o hg (Nat.le_trans (putE_len _ _ _) (by omega)) ho) Prod.fst (fun _ _ h => h.1)
  have h := T_loops (F := F0) (fun k j (_ : Unit) i => impl_Chan_early.l0 k j (n, b, (i : Int), c0, c1, c2, g, c3, c4, c6, c7, o)) c6.length (fun i _ => ∀ j (h : j < c6.length), j < i → (c6[j]).1 < n) (fun _ _ r => r = withE c0 c1 c2 c3 c4 c7 (earlyM c6 g o n b)) (fun i s hi hj he => by
    dsimp only [impl_Chan_early.l0, impl_Chan_early.s0]
    simp only [Int.toNat_natCast]
    rw [wrs hi (by omega)]
    refine T_pos (by omega) (T_get hi (T_dec (fun e => he () fun j h h' => ?_) fun e => T_pos (by omega) (T_get hi (T_beq (fun e2 => T_ret ?_) fun e2 => fin i (by omega) (fun hm => ?_) hj fun _ => e))))
    · by_cases e' : j = i
      · subst e'; exact e
      · exact hj j h (by omega)
    · unfold earlyM
      rw [if_pos (List.mem_map.2 ⟨_, List.getElem_mem hi, e2⟩)]
      rfl
    · obtain ⟨y, hy, rfl⟩ := List.mem_map.1 hm
      obtain ⟨m, hm', rfl⟩ := List.getElem_of_mem hy
      rcases Nat.lt_trichotomy m i with k | k | k
      · have := hj m hm' k; omega
      · subst k; exact e2 rfl
      · have := (List.pairwise_iff_getElem.1 hp) i m hi hm' k; omega) (fun s hj => by
    dsimp only [impl_Chan_early.l0, impl_Chan_early.s0]
    refine T_neg (by omega) (T_neg (by omega) (fin c6.length (by omega) (fun hm => ?_) hj fun h => absurd h (by omega)))
    obtain ⟨y, hy, rfl⟩ := List.mem_map.1 hm
    obtain ⟨m, hm', rfl⟩ := List.getElem_of_mem hy
    have := hj m hm' hm'
    omega) 0 () (Nat.zero_le _) (fun j _ h => absurd h (by omega))
  exact T_in (g := fun x j => impl_Chan_early.l0 x j _) (by simpa using h) (fun k => k) (fun _ _ h => h)
theorem spec_l13Put.ev (g : Int) (c6 : List Earl) (o : List ByteArray) (n : Int) (b : ByteArray) (hg : -1000000000 ≤ g ∧ g ≤ 1000000000) (h6 : c6.length ≤ 1048576) (ho : o.length ≤ 2000000) :
    Tells F0 (fun k => spec_l13Put.f k c0 c1 c2 c3 c4 g c6 c7 o n b) (· = withE c0 c1 c2 c3 c4 c7 (earlyM c6 g o n b)) := by
  unfold spec_l13Put.f
  have h2 : n ∉ c6.map (·.1) → Tells F0 (fun k => spec_l13Put.l2 k k (n, (0 : Int), c0, c1, c2, g, c3, c4, c6, c7, o, c6.filter (nlow n) ++ [(n, b)])) (· = withE c0 c1 c2 c3 c4 c7 (earlyM c6 g o n b)) := by
    intro hn
    have h := T_loop (F := F0) (fun k j i => spec_l13Put.l2 k j (n, (i : Int), c0, c1, c2, g, c3, c4, c6, c7, o, c6.filter (nlow n) ++ [(n, b)] ++ (c6.take i).filter (nhgh n))) c6.length (fun _ r => r = withE c0 c1 c2 c3 c4 c7 (earlyM c6 g o n b)) (fun i hi he => by
      dsimp only [spec_l13Put.l2, spec_l13Put.s2]
      simp only [Int.toNat_natCast]
      rw [wrs hi (by omega)]
      rw [take_filter_succ _ _ _ hi] at he
      have g1 := filter_len_take (nhgh n) c6 i
      have g2 := List.length_filter_le (nlow n) c6
      refine T_pos (by omega) (T_get hi (T_dec (fun e => T_get hi (T_pos ?_ ?_)) fun e => ?_))
      · simp only [List.length_append, List.length_singleton]; omega
      · rw [if_pos (show nhgh n c6[i] = true from decide_eq_true e), ← List.append_assoc] at he; exact he
      · rw [if_neg (by rw [show nhgh n c6[i] = false from decide_eq_false e]; simp), List.append_nil] at he; exact he) (by
      dsimp only [spec_l13Put.l2, spec_l13Put.s2]
      rw [List.take_length]
      unfold earlyM
      rw [if_neg hn]
      exact T_neg (by omega) (T_call (spec_run.ev c0 c1 c2 c3 c4 c7 c6 _ g o hg (Nat.le_trans (putE_len c6 n b) (by omega)) ho) Prod.fst (fun _ _ h => h.1))) 0 (Nat.zero_le _)
    exact T_in (g := fun x j => spec_l13Put.l2 x j _) (by simpa using h) (fun k => k) (fun _ _ h => h)
  have h := T_loops (F := F0) (fun k j (_ : Unit) i => spec_l13Put.l0 k j (n, b, (i : Int), c0, c1, c2, g, c3, c4, c6, c7, o, (c6.take i).filter (nlow n))) c6.length (fun i _ => ∀ j (h : j < c6.length), j < i → (c6[j]).1 ≠ n) (fun _ _ r => r = withE c0 c1 c2 c3 c4 c7 (earlyM c6 g o n b)) (fun i s hi hj he => by
    dsimp only [spec_l13Put.l0, spec_l13Put.s0]
    simp only [Int.toNat_natCast]
    rw [wrs hi (by omega)]
    have g1 := filter_len_take (nlow n) c6 i
    have he := fun hh => he () hh
    rw [take_filter_succ _ _ _ hi] at he
    have hnext : (c6[i]).1 ≠ n → ∀ j (h : j < c6.length), j < i + 1 → (c6[j]).1 ≠ n := fun e j h h' => by
      by_cases e' : j = i
      · subst e'; exact e
      · exact hj j h (by omega)
    refine T_pos (by omega) (T_get hi (T_beq (fun e => T_ret ?_) fun e => T_get hi (T_dec (fun e2 => T_get hi (T_pos (by simp only [List.length_singleton]; omega) ?_)) fun e2 => ?_)))
    · unfold earlyM
      rw [if_pos (List.mem_map.2 ⟨_, List.getElem_mem hi, e⟩)]
      rfl
    · have he := he (hnext e)
      rw [if_pos (show nlow n c6[i] = true from decide_eq_true e2)] at he; exact he
    · have he := he (hnext e)
      rw [if_neg (by rw [show nlow n c6[i] = false from decide_eq_false e2]; simp), List.append_nil] at he; exact he) (fun s hj => by
    dsimp only [spec_l13Put.l0, spec_l13Put.s0]
    have g2 := List.length_filter_le (nlow n) c6
    rw [List.take_length]
    refine T_neg (by omega) (T_pos (by simp only [List.length_singleton]; omega) (T_call (h2 fun hm => ?_) Prod.fst (fun _ _ h => h.1)))
    obtain ⟨y, hy, rfl⟩ := List.mem_map.1 hm
    obtain ⟨m, hm', rfl⟩ := List.getElem_of_mem hy
    exact hj m hm' hm' rfl) 0 () (Nat.zero_le _) (fun j _ h => absurd h (by omega))
  exact T_in (g := fun x j => spec_l13Put.l0 x j _) (by simpa using h) (fun k => k) (fun _ _ h => h)
end

theorem spec_l13In.ev (l : List Int) (a : Int) (hn : l.length ≤ 2000000) : Tells F0 (fun k => spec_l13In.f k l a) (· = decide (a ∈ l)) := by
  have h := T_loop (F := F0) (fun k j i => spec_l13In.l0 k j (a, (i : Int), l)) l.length (fun i r => r = decide (a ∈ l.drop i)) (fun i hi he => by
    dsimp only [spec_l13In.l0, spec_l13In.s0]
    simp only [Int.toNat_natCast]
    rw [wrs hi (by omega), List.drop_eq_getElem_cons hi]
    refine T_pos (by omega) (T_get hi (T_beq (fun e => T_ret ?_) fun e => T_mono he fun r hr => ?_))
    · simp [e]
    · rw [hr]
      exact decide_eq_decide.2 ⟨fun h => List.mem_cons_of_mem _ h, fun h => (List.mem_cons.1 h).resolve_left fun h => e h.symm⟩) (by
    dsimp only [spec_l13In.l0, spec_l13In.s0]
    exact T_neg (by omega) (T_ret (by rw [List.drop_length]; simp))) 0 (Nat.zero_le _)
  unfold spec_l13In.f
  exact T_in (g := fun x j => spec_l13In.l0 x j _) (by simpa using h) (fun k => k) (fun _ _ h => h)
theorem contains.ev (l : List Int) (a : Int) (hn : l.length ≤ 2000000) : Tells F0 (fun k => slices_Contains_int_int.f k l a) (· = decide (a ∈ l)) := by
  have h := T_loop (F := F0) (fun k j i => slices_Index_int_int.l0 k j (a, (l.length : Int), (i : Int), l)) l.length (fun i r => r ≥ 0 ↔ a ∈ l.drop i) (fun i hi he => by
    dsimp only [slices_Index_int_int.l0, slices_Index_int_int.s0]
    simp only [Int.toNat_natCast]
    rw [wrs hi (by omega), List.drop_eq_getElem_cons hi]
    refine T_pos (by omega) (T_get hi (T_beq (fun e => T_ret ?_) fun e => T_mono he fun r hr => ?_))
    · exact ⟨fun _ => by rw [e]; exact List.mem_cons_self, fun _ => by omega⟩
    · rw [hr]
      exact ⟨fun h => List.mem_cons_of_mem _ h, fun h => (List.mem_cons.1 h).resolve_left e⟩) (by
    dsimp only [slices_Index_int_int.l0, slices_Index_int_int.s0]
    exact T_neg (by omega) (T_ret (by rw [List.drop_length]; simp))) 0 (Nat.zero_le _)
  unfold slices_Contains_int_int.f slices_Index_int_int.f
  exact T_bind (T_in (g := fun x j => slices_Index_int_int.l0 x j _) (by simpa using h) (fun k => k) (fun _ _ h => h)) fun r hr => T_ret (decide_eq_decide.2 hr)
def impl_Take_1.p (c0 : Int) (c1 : Int) (c2 : Int) (c3 : Int) (c4 : Int) (c5 : List Int) (c6 : ByteArray) (x : Int × ByteArray × Int × Int) : Bool := (decide (x.1 ∈ c5))
theorem impl_Take_1.ev (x : Int × ByteArray × Int × Int) (c0 : Int) (c1 : Int) (c2 : Int) (c3 : Int) (c4 : Int) (c5 : List Int) (c6 : ByteArray) (hA : c5.length ≤ 1048576) : Tells F0 (fun k => impl_Take_1.f k x.1 x.2.1 x.2.2.1 x.2.2.2 c0 c1 c2 c3 c4 c5 c6) (· = (impl_Take_1.p c0 c1 c2 c3 c4 c5 c6 x, c0, c1, c2, c3, c4, c5, c6)) := by
  unfold impl_Take_1.f
  exact T_bindE (contains.ev c5 x.1 (by omega)) (T_ret rfl)
theorem slices_IndexFunc_impl_Pending_impl_Pending_f84_r.ev (l : List (Int × ByteArray × Int × Int)) (c0 : Int) (c1 : Int) (c2 : Int) (c3 : Int) (c4 : Int) (c5 : List Int) (c6 : ByteArray) (hn : l.length ≤ 1000000000000000000) (hA : c5.length ≤ 1048576) : Tells F0 (fun k => slices_IndexFunc_impl_Pending_impl_Pending_f84_r.f k l c0 c1 c2 c3 c4 c5 c6) (· = (if l.findIdx (impl_Take_1.p c0 c1 c2 c3 c4 c5 c6) = l.length then (-1 : Int) else (l.findIdx (impl_Take_1.p c0 c1 c2 c3 c4 c5 c6) : Int), l, c0, c1, c2, c3, c4, c5, c6)) := by
  have h := T_loop (F := F0) (fun k j i => slices_IndexFunc_impl_Pending_impl_Pending_f84_r.l0 k j ((l.length : Int), (i : Int), l, c0, c1, c2, c3, c4, c6, c5, c5)) l.length (fun i r => (∀ m (h : m < l.length), m < i → impl_Take_1.p c0 c1 c2 c3 c4 c5 c6 l[m] = false) → r = (if l.findIdx (impl_Take_1.p c0 c1 c2 c3 c4 c5 c6) = l.length then (-1 : Int) else (l.findIdx (impl_Take_1.p c0 c1 c2 c3 c4 c5 c6) : Int), l, c0, c1, c2, c3, c4, c5, c6)) (fun i hi he => by
    dsimp only [slices_IndexFunc_impl_Pending_impl_Pending_f84_r.l0, slices_IndexFunc_impl_Pending_impl_Pending_f84_r.s0]
    simp only [Int.toNat_natCast]
    refine T_pos (by omega) (T_get hi (T_bindE (T_call (impl_Take_1.ev l[i] c0 c1 c2 c3 c4 c5 c6 hA) Prod.fst (fun _ _ h => h.1)) ?_))
    dsimp only
    refine T_bif (fun hp => T_ret fun hm => ?_) fun hp => ?_
    · have e : l.findIdx (impl_Take_1.p c0 c1 c2 c3 c4 c5 c6) = i := (List.findIdx_eq hi).2 ⟨hp, fun j hj => hm j (by omega) hj⟩
      rw [e, if_neg (by omega)]
    · rw [wrs hi (by omega)]
      refine T_mono he fun r hr hm => hr fun m h hmi => ?_
      by_cases e : m = i
      · subst e; exact hp
      · exact hm m h (by omega)) (by
    dsimp only [slices_IndexFunc_impl_Pending_impl_Pending_f84_r.l0, slices_IndexFunc_impl_Pending_impl_Pending_f84_r.s0]
    refine T_neg (by omega) (T_ret fun hm => ?_)
    have e : l.findIdx (impl_Take_1.p c0 c1 c2 c3 c4 c5 c6) = l.length := List.findIdx_eq_length.2 fun x hx => by
      obtain ⟨j, hj, rfl⟩ := List.mem_iff_getElem.1 hx
      exact hm j hj hj
    rw [if_pos e]) 0 (Nat.zero_le _)
  unfold slices_IndexFunc_impl_Pending_impl_Pending_f84_r.f
  exact T_in (g := fun x j => slices_IndexFunc_impl_Pending_impl_Pending_f84_r.l0 x j _) (T_mono h fun r hr => hr (fun m h hm => absurd hm (by omega))) (fun k => k) (fun _ _ h => h)
theorem slices_DeleteFunc_impl_Pending_impl_Pending_f84.ev (l : List (Int × ByteArray × Int × Int)) (c0 : Int) (c1 : Int) (c2 : Int) (c3 : Int) (c4 : Int) (c5 : List Int) (c6 : ByteArray) (hn : l.length ≤ 1000000000000000000) (hA : c5.length ≤ 1048576) : Tells F0 (fun k => slices_DeleteFunc_impl_Pending_impl_Pending_f84.f k l c0 c1 c2 c3 c4 c5 c6) (· = (l.filter (fun x => !impl_Take_1.p c0 c1 c2 c3 c4 c5 c6 x), c0, c1, c2, c3, c4, c5, c6)) := by
  have h := T_loops (F := F0) (fun k j (s : Int × List (Int × ByteArray × Int × Int)) i => slices_DeleteFunc_impl_Pending_impl_Pending_f84.l0 k j (s.1, (i : Int), c0, c1, c2, c3, c4, c6, c5, c5, s.2)) l.length
    (fun j s => ∃ i : Nat, s.1 = (i : Int) ∧ i ≤ j ∧ s.2.length = l.length ∧ s.2.take i = (l.take j).filter (fun x => !impl_Take_1.p c0 c1 c2 c3 c4 c5 c6 x) ∧ s.2.drop j = l.drop j) (fun _ _ r => r = (l.filter (fun x => !impl_Take_1.p c0 c1 c2 c3 c4 c5 c6 x), c0, c1, c2, c3, c4, c5, c6)) (fun j s hj hs he => by
    obtain ⟨s1, l'⟩ := s
    obtain ⟨i, e1, hij, hl, ht, hd⟩ := hs
    simp only at e1 hl ht hd
    subst e1
    dsimp only [slices_DeleteFunc_impl_Pending_impl_Pending_f84.l0, slices_DeleteFunc_impl_Pending_impl_Pending_f84.s0]
    simp only [Int.toNat_natCast]
    have hj' : j < l'.length := by omega
    have hx := drop_get hd hj hj'
    have hd2 : l'.drop (j + 1) = l.drop (j + 1) := by rw [← List.drop_drop, ← List.drop_drop, hd]
    refine T_pos (by omega) (T_get hj' ?_)
    rw [hx]
    refine T_bindE (T_call (impl_Take_1.ev l[j] c0 c1 c2 c3 c4 c5 c6 hA) Prod.fst (fun _ _ h => h.1)) ?_
    dsimp only
    refine T_bif (fun hp => T_get (by omega : i < l'.length) ?_) fun hp => ?_
    · rw [wrs hj (by omega), wrs (show i < l.length by omega) (by omega)]
      refine he (((i + 1 : Nat) : Int), l'.set i l[j]) ⟨i + 1, rfl, by omega, by simpa using hl, ?_, ?_⟩
      · simp only
        rw [set_take_succ _ _ _ (by omega), ht, take_filter_succ _ _ _ hj, if_pos hp]
      · simp only
        rw [List.drop_set_of_lt (by omega), hd2]
    · rw [wrs hj (by omega)]
      refine he ((i : Int), l') ⟨i, rfl, by omega, hl, ?_, hd2⟩
      simp only
      rw [ht, take_filter_succ _ _ _ hj, if_neg (by simpa using hp), List.append_nil]) (fun s hs => by
    obtain ⟨s1, l'⟩ := s
    obtain ⟨i, e1, hij, hl, ht, hd⟩ := hs
    simp only at e1 hl ht hd
    subst e1
    dsimp only [slices_DeleteFunc_impl_Pending_impl_Pending_f84.l0, slices_DeleteFunc_impl_Pending_impl_Pending_f84.s0]
    simp only [Int.toNat_natCast]
    refine T_neg (by omega) (T_and (by omega) (by omega) (T_and (by omega) (by simp; omega) (T_ret ?_)))
    have h1 : (l'.take i).length = i := by simp; omega
    rw [List.take_append_of_le_length (by omega), List.take_take, Nat.min_self, ht, List.take_length])
  unfold slices_DeleteFunc_impl_Pending_impl_Pending_f84.f
  refine T_bindE (slices_IndexFunc_impl_Pending_impl_Pending_f84_r.ev l c0 c1 c2 c3 c4 c5 c6 hn hA) ?_
  dsimp only
  by_cases e : l.findIdx (impl_Take_1.p c0 c1 c2 c3 c4 c5 c6) = l.length
  · rw [if_pos e]
    refine T_true rfl (T_ret ?_)
    have := List.findIdx_eq_length.1 e
    rw [List.filter_eq_self.2 fun x hx => by simp [this x hx]]
  · rw [if_neg e]
    have hlt : l.findIdx (impl_Take_1.p c0 c1 c2 c3 c4 c5 c6) < l.length := by have := List.findIdx_le_length (xs := l) (p := impl_Take_1.p c0 c1 c2 c3 c4 c5 c6); omega
    obtain ⟨hp, hm⟩ := (List.findIdx_eq hlt).1 rfl
    refine T_false (by simp) ?_
    rw [wrs hlt (by omega)]
    refine T_in (g := fun x j => slices_DeleteFunc_impl_Pending_impl_Pending_f84.l0 x j _) (h (l.findIdx (impl_Take_1.p c0 c1 c2 c3 c4 c5 c6) + 1) ((l.findIdx (impl_Take_1.p c0 c1 c2 c3 c4 c5 c6) : Int), l) (by omega) ⟨l.findIdx (impl_Take_1.p c0 c1 c2 c3 c4 c5 c6), rfl, by omega, rfl, ?_, rfl⟩) (fun k => k) (fun _ _ h => h)
    simp only
    rw [take_filter_succ _ _ _ hlt, if_neg (by simp [hp]), List.append_nil]
    refine (List.filter_eq_self.2 fun x hx => ?_).symm
    obtain ⟨j, hj, rfl⟩ := List.mem_iff_getElem.1 hx
    have hj2 : j < l.findIdx (impl_Take_1.p c0 c1 c2 c3 c4 c5 c6) := by simp at hj; omega
    rw [List.getElem_take]
    simp [hm j hj2]
section
variable (c0 c1 c2 : Int) (c3 : List ByteArray) (c4 : List Pend) (c5 : Int) (c6 : List Earl) (c7 : List Int) (c8 : List ByteArray) (op key fr dst num : Int) (acks : List Int) (body : ByteArray)
def TakeP : Prop := ChanP c0 c1 c2 c3 c4 c5 c6 c7 c8 ∧ PackP op key fr dst num acks body ∧ op ≠ 3 ∧ fr = c1 ∧ dst = c0 ∧ (op = 1 → 1 ≤ num ∧ num ≤ c5 + 4) ∧ c5 ≤ 990
def notAcked (acks : List Int) (x : Pend) : Bool := !decide (x.1 ∈ acks)
def owe (c7 : List Int) (num : Int) : List Int := if num ∉ c7 ∧ c7.length < 4 then c7 ++ [num] else c7
abbrev ChanR := Int × Int × Int × List ByteArray × List Pend × Int × List Earl × List Int × List ByteArray × Bool
def fullE (c0 c1 c2 : Int) (c3 : List ByteArray) (c4 : List Pend) (c7 : List Int) (r : Int × List Earl × List ByteArray) : ChanR := (c0, c1, c2, c3, c4, r.1, r.2.1, c7, r.2.2, true)
open Classical in
noncomputable def takeM : ChanR :=
  if TakeP c0 c1 c2 c3 c4 c5 c6 c7 c8 op key fr dst num acks body then
    (if op = 2 then (c0, c1, c2, c3, c4.filter (notAcked acks), c5, c6, c7, c8, true)
     else if num > c5 then fullE c0 c1 c2 c3 (c4.filter (notAcked acks)) (owe c7 num) (earlyM c6 c5 c8 num body) else (c0, c1, c2, c3, c4.filter (notAcked acks), c5, c6, owe c7 num, c8, true))
  else (c0, c1, c2, c3, c4, c5, c6, c7, c8, false)
theorem impl_Take.ev (h3 : c3.length ≤ 1048576) (h4 : c4.length ≤ 1048576) (h6 : c6.length ≤ 1048576) (h7 : c7.length ≤ 1048576) (h8 : c8.length ≤ 1048576) (ha : acks.length ≤ 1048576) :
    Tells F0 (fun k => impl_Take.f k c0 c1 c2 c3 c4 c5 c6 c7 c8 op key fr dst num acks body) (· = takeM c0 c1 c2 c3 c4 c5 c6 c7 c8 op key fr dst num acks body) := by
  have no : ¬ TakeP c0 c1 c2 c3 c4 c5 c6 c7 c8 op key fr dst num acks body → takeM c0 c1 c2 c3 c4 c5 c6 c7 c8 op key fr dst num acks body = (c0, c1, c2, c3, c4, c5, c6, c7, c8, false) := fun h => by unfold takeM; rw [if_neg h]
  unfold impl_Take.f
  simp only [within_eq, Option.bind_some]
  refine T_bindE (impl_copyChan.ev c0 c1 c2 c3 c4 c5 c6 c7 c8 h3 h4 h6 h7 h8) (T_bind (impl_ChanOk.ev c0 c1 c2 c3 c4 c5 c6 c7 c8 h3 h4 h6 h7 h8) fun r hr => ?_)
  dsimp only
  cases r with
  | false => exact T_true rfl (T_ret (no fun c => by have := hr.2 c.1; cases this).symm)
  | true =>
  have hc := hr.1 rfl
  refine T_false rfl (T_bind (impl_PacketOk.ev op key fr dst num acks body ha) fun r2 hr2 => ?_)
  cases r2 with
  | false => exact T_true rfl (T_ret (no fun c => by have := hr2.2 c.2.1; cases this).symm)
  | true =>
  have hk := hr2.1 rfl
  have h5 := hc.2.2.1.1
  have h6s := earl_pair hc.2.2.2.1
  have hl8 := hc.2.2.1.2.1
  rw [wr64 (x := c5 + 4) (by omega) (by omega)]
  refine T_false rfl (T_beq (fun e => T_ret (no fun c => c.2.2.1 e).symm) fun e3 => T_bne (fun e => T_ret (no fun c => e c.2.2.2.1).symm) fun e4 => T_bne (fun e => T_ret (no fun c => e c.2.2.2.2.1).symm) fun e5 => T_beq (fun e6 => T_ndec (fun e7 => T_dec (fun e8 => T_ret (no fun c => by have := c.2.2.2.2.2.2; omega).symm) fun e8 => ?_) fun e7 => T_ret (no fun c => e7 (c.2.2.2.2.2.1 e6)).symm) fun e6 => T_dec (fun e8 => T_ret (no fun c => by have := c.2.2.2.2.2.2; omega).symm) fun e8 => ?_)
  all_goals
    have hcond : op = 1 → 1 ≤ num ∧ num ≤ c5 + 4 := by first | exact fun _ => e7 | exact fun h => absurd h e6
    have hT : TakeP c0 c1 c2 c3 c4 c5 c6 c7 c8 op key fr dst num acks body := ⟨hc, hk, e3, e4, e5, hcond, by omega⟩
    refine T_bindE (slices_DeleteFunc_impl_Pending_impl_Pending_f84.ev c4 op key fr dst num acks body (by omega) ha) ?_
    dsimp only
    have hq : (fun x => !impl_Take_1.p op key fr dst num acks body x) = notAcked acks := rfl
    rw [hq]
    unfold takeM
    rw [if_pos hT]
    refine T_beq (fun e9 => T_ret (by rw [if_pos e9])) fun e9 => ?_
    rw [if_neg e9]
    have hE := fun c7' : List Int => impl_early.ev c0 c1 c2 c3 (c4.filter (notAcked acks)) c7' c5 c6 c8 num body h6s (by omega) h6 (by omega)
    refine T_bindE (contains.ev c7 num (by omega)) (T_ndec (fun e10 => ?_) fun e10 => T_dec (fun e11 => T_pos (by simp only [List.length_singleton]; omega) ?_) fun e11 => ?_)
    · have ho : owe c7 num = c7 := by unfold owe; rw [if_neg fun c => c.1 e10]
      rw [ho]
      refine T_dec (fun e12 => ?_) fun e12 => T_ret (by rw [if_neg e12])
      rw [if_pos e12]
      exact T_bindE (hE _) (T_ret rfl)
    · have ho : owe c7 num = c7 ++ [num] := by unfold owe; rw [if_pos ⟨e10, by omega⟩]
      rw [ho]
      refine T_dec (fun e12 => ?_) fun e12 => T_ret (by rw [if_neg e12])
      rw [if_pos e12]
      exact T_bindE (hE _) (T_ret rfl)
    · have ho : owe c7 num = c7 := by unfold owe; rw [if_neg fun c => by have := c.2; omega]
      rw [ho]
      refine T_dec (fun e12 => ?_) fun e12 => T_ret (by rw [if_neg e12])
      rw [if_pos e12]
      exact T_bindE (hE _) (T_ret rfl)
theorem spec_Take.ev (h3 : c3.length ≤ 1048576) (h4 : c4.length ≤ 1048576) (h6 : c6.length ≤ 1048576) (h7 : c7.length ≤ 1048576) (h8 : c8.length ≤ 1048576) (ha : acks.length ≤ 1048576) :
    Tells F0 (fun k => spec_Take.f k c0 c1 c2 c3 c4 c5 c6 c7 c8 op key fr dst num acks body) (· = takeM c0 c1 c2 c3 c4 c5 c6 c7 c8 op key fr dst num acks body) := by
  have no : ¬ TakeP c0 c1 c2 c3 c4 c5 c6 c7 c8 op key fr dst num acks body → takeM c0 c1 c2 c3 c4 c5 c6 c7 c8 op key fr dst num acks body = (c0, c1, c2, c3, c4, c5, c6, c7, c8, false) := fun h => by unfold takeM; rw [if_neg h]
  unfold spec_Take.f
  simp only [in_eq, Option.bind_some]
  refine T_bindE (spec_l13Copy.ev c0 c1 c2 c3 c4 c5 c6 c7 c8 h3 h4 h6 h7 h8) (T_bind (spec_ChanOk.ev c0 c1 c2 c3 c4 c5 c6 c7 c8 h3 h4 h6 h7 h8) fun r hr => ?_)
  dsimp only
  cases r with
  | false => exact T_true rfl (T_ret (no fun c => by have := hr.2 c.1; cases this).symm)
  | true =>
  have hc := hr.1 rfl
  refine T_false rfl (T_bind (spec_PacketOk.ev op key fr dst num acks body ha) fun r2 hr2 => ?_)
  cases r2 with
  | false => exact T_true rfl (T_ret (no fun c => by have := hr2.2 c.2.1; cases this).symm)
  | true =>
  have hk := hr2.1 rfl
  have h5 := hc.2.2.1.1
  have hl8 := hc.2.2.1.2.1
  have main : TakeP c0 c1 c2 c3 c4 c5 c6 c7 c8 op key fr dst num acks body → Tells F0 (fun k => spec_Take.l0 k k ((0 : Int), c3, c4, c6, c7, c8, acks, c0, c1, c2, c5, op, key, fr, dst, num, body, 0, 0, 0, 0, c0, c1, c2, c5, [], [], [], [], [], c3, c4, c6, c7, c8, [])) (· = takeM c0 c1 c2 c3 c4 c5 c6 c7 c8 op key fr dst num acks body) := by
    intro hT
    have h := T_loop (F := F0) (fun k j i => spec_Take.l0 k j ((i : Int), c3, c4, c6, c7, c8, acks, c0, c1, c2, c5, op, key, fr, dst, num, body, 0, 0, 0, 0, c0, c1, c2, c5, [], [], [], [], [], c3, c4, c6, c7, c8, (c4.take i).filter (notAcked acks))) c4.length (fun _ r => r = takeM c0 c1 c2 c3 c4 c5 c6 c7 c8 op key fr dst num acks body) (fun i hi he => by
      dsimp only [spec_Take.l0, spec_Take.s0]
      simp only [Int.toNat_natCast]
      rw [wrs hi (by omega)]
      rw [take_filter_succ _ _ _ hi] at he
      have g1 := filter_len_take (notAcked acks) c4 i
      refine T_pos (by omega) (T_get hi (T_bindE (T_call (spec_l13In.ev acks _ (by omega)) Prod.fst (fun _ _ h => h.1)) (T_bif (fun e => T_get hi (T_pos ?_ ?_)) fun e => ?_)))
      · simp only [List.length_singleton]; omega
      · rw [if_pos (show notAcked acks c4[i] = true from e)] at he; exact he
      · rw [if_neg (by rw [show notAcked acks c4[i] = false from e]; simp), List.append_nil] at he; exact he) (by
      dsimp only [spec_Take.l0, spec_Take.s0]
      rw [List.take_length]
      unfold takeM
      rw [if_pos hT]
      refine T_neg (by omega) (T_beq (fun e9 => T_ret (by rw [if_pos e9])) fun e9 => ?_)
      rw [if_neg e9]
      have hE := fun c7' : List Int => (T_call (spec_l13Put.ev c0 c1 c2 c3 (c4.filter (notAcked acks)) c7' c5 c6 c8 num body (by omega) h6 (by omega)) Prod.fst (fun _ _ h => h.1) : Tells (FS F0) (fun x : Nat × Nat => spec_l13Put.f x.1 c0 c1 c2 c3 (c4.filter (notAcked acks)) c5 c6 c7' c8 num body) _)
      refine T_dec (fun e11 => T_bindE (T_call (spec_l13In.ev c7 num (by omega)) Prod.fst (fun _ _ h => h.1)) (T_ndec (fun e10 => ?_) fun e10 => T_pos (by simp only [List.length_singleton]; omega) ?_)) fun e11 => ?_
      · have ho : owe c7 num = c7 := by unfold owe; rw [if_neg fun c => c.1 e10]
        rw [ho]
        refine T_dec (fun e12 => ?_) fun e12 => T_ret (by rw [if_neg e12])
        rw [if_pos e12]
        exact T_bindE (hE _) (T_ret rfl)
      · have ho : owe c7 num = c7 ++ [num] := by unfold owe; rw [if_pos ⟨e10, by omega⟩]
        rw [ho]
        refine T_dec (fun e12 => ?_) fun e12 => T_ret (by rw [if_neg e12])
        rw [if_pos e12]
        exact T_bindE (hE _) (T_ret rfl)
      · have ho : owe c7 num = c7 := by unfold owe; rw [if_neg fun c => by have := c.2; omega]
        rw [ho]
        refine T_dec (fun e12 => ?_) fun e12 => T_ret (by rw [if_neg e12])
        rw [if_pos e12]
        exact T_bindE (hE _) (T_ret rfl)) 0 (Nat.zero_le _)
    exact T_in (g := fun x j => spec_Take.l0 x j _) (by simpa using h) (fun k => k) (fun _ _ h => h)
  rw [wr64 (x := c5 + 4) (by omega) (by omega)]
  refine T_false rfl (T_beq (fun e => T_ret (no fun c => c.2.2.1 e).symm) fun e3 => T_bne (fun e => T_ret (no fun c => e c.2.2.2.1).symm) fun e4 => T_bne (fun e => T_ret (no fun c => e c.2.2.2.2.1).symm) fun e5 => T_beq (fun e6 => T_ndec (fun e7 => T_dec (fun e8 => T_ret (no fun c => by have := c.2.2.2.2.2.2; omega).symm) fun e8 => ?_) fun e7 => T_ret (no fun c => e7 (c.2.2.2.2.2.1 e6)).symm) fun e6 => T_dec (fun e8 => T_ret (no fun c => by have := c.2.2.2.2.2.2; omega).symm) fun e8 => ?_)
  · exact main ⟨hc, hk, e3, e4, e5, fun _ => e7, by omega⟩
  · exact main ⟨hc, hk, e3, e4, e5, fun h => absurd h e6, by omega⟩
theorem owe_len : (owe c7 num).length ≤ c7.length + 1 := by
  unfold owe
  split
  · simp
  · omega
theorem take_len (h4 : c4.length ≤ 1048576) (h6 : c6.length ≤ 1048576) (h7 : c7.length ≤ 1048576) (h8 : c8.length ≤ 1048576) :
    (takeM c0 c1 c2 c3 c4 c5 c6 c7 c8 op key fr dst num acks body).2.2.2.1 = c3 ∧ (takeM c0 c1 c2 c3 c4 c5 c6 c7 c8 op key fr dst num acks body).2.2.2.2.1.length ≤ 1048576 ∧ (takeM c0 c1 c2 c3 c4 c5 c6 c7 c8 op key fr dst num acks body).2.2.2.2.2.2.1.length ≤ 1048577 ∧ (takeM c0 c1 c2 c3 c4 c5 c6 c7 c8 op key fr dst num acks body).2.2.2.2.2.2.2.1.length ≤ 1048577 ∧ (takeM c0 c1 c2 c3 c4 c5 c6 c7 c8 op key fr dst num acks body).2.2.2.2.2.2.2.2.1.length ≤ 2097153 := by
  have hf := List.length_filter_le (notAcked acks) c4
  have ho := owe_len c7 num
  have he := early_len c6 c5 c8 num body
  unfold takeM
  split
  · split
    · exact ⟨rfl, by dsimp only; omega, by dsimp only; omega, by dsimp only; omega, by dsimp only; omega⟩
    · split
      · exact ⟨rfl, by simp only [fullE]; omega, by simp only [fullE]; omega, by simp only [fullE]; omega, by simp only [fullE]; omega⟩
      · exact ⟨rfl, by dsimp only; omega, by dsimp only; omega, by dsimp only; omega, by dsimp only; omega⟩
  · exact ⟨rfl, by dsimp only; omega, by dsimp only; omega, by dsimp only; omega, by dsimp only; omega⟩
end


theorem FnExactTake : laws_FnExactTake.Goal := by
  intro a0_0 a0_1 a0_2 a0_3 a0_4 a0_5 a0_6 a0_7 a0_8 a1_0 a1_1 a1_2 a1_3 a1_4 a1_5 a1_6 g_a0_0 g_a0_1 g_a0_2 g_a0_3 g_a0_4 g_a0_5 g_a0_6 g_a0_7 g_a0_8 g_a1_0 g_a1_1 g_a1_2 g_a1_3 g_a1_4 g_a1_5 g_a1_6
  replace g_a0_0 := wf64 g_a0_0
  replace g_a0_1 := wf64 g_a0_1
  replace g_a0_2 := wf64 g_a0_2
  have s_a0_3 : ∀ x ∈ a0_3, ByteArray.size x ≤ 140737488351232 := fun x hx => g_a0_3.2.2 x hx
  replace g_a0_3 : a0_3.length ≤ maxLen ∧ True := ⟨g_a0_3.1, trivial⟩
  have s_a0_4 : ∀ x ∈ a0_4, ByteArray.size x.2.1 ≤ 140737488351232 := fun x hx => (g_a0_4.2.2 x hx).2.1
  replace g_a0_4 : a0_4.length ≤ maxLen ∧ True := ⟨g_a0_4.1, trivial⟩
  replace g_a0_5 := wf64 g_a0_5
  have s_a0_6 : ∀ x ∈ a0_6, ByteArray.size x.2 ≤ 140737488351232 := fun x hx => (g_a0_6.2.2 x hx).2
  replace g_a0_6 : a0_6.length ≤ maxLen ∧ True := ⟨g_a0_6.1, trivial⟩
  replace g_a0_7 : a0_7.length ≤ maxLen ∧ True := ⟨g_a0_7.1, trivial⟩
  have s_a0_8 : ∀ x ∈ a0_8, ByteArray.size x ≤ 140737488351232 := fun x hx => g_a0_8.2.2 x hx
  replace g_a0_8 : a0_8.length ≤ maxLen ∧ True := ⟨g_a0_8.1, trivial⟩
  replace g_a1_0 := wf64 g_a1_0
  replace g_a1_1 := wf64 g_a1_1
  replace g_a1_2 := wf64 g_a1_2
  replace g_a1_3 := wf64 g_a1_3
  replace g_a1_4 := wf64 g_a1_4
  replace g_a1_5 : a1_5.length ≤ maxLen ∧ True := ⟨g_a1_5.1, trivial⟩
  refine Tells.rounds ?_
  unfold laws_FnExactTake.f
  refine T_bind (laws_szChan.ev a0_0 a0_1 a0_2 a0_3 a0_4 a0_5 a0_6 a0_7 a0_8 _ g_a0_3.1 (s_a0_3) g_a0_4.1 (s_a0_4) g_a0_6.1 (s_a0_6) g_a0_7.1 g_a0_8.1 (s_a0_8) (by omega) (by omega)) fun v1 q1 => T_dec (fun _ => T_ret rfl) fun e1 => ?_
  obtain ⟨_, _, z_a0_3, t_a0_3, z_a0_4, t_a0_4, z_a0_6, t_a0_6, z_a0_7, z_a0_8, t_a0_8⟩ := q1.resolve_left (by omega)
  refine T_bind (laws_szPacket.ev a1_0 a1_1 a1_2 a1_3 a1_4 a1_5 a1_6 _ g_a1_5.1 (g_a1_6) (by omega) (by omega)) fun v2 q2 => T_dec (fun _ => T_ret rfl) fun e2 => ?_
  obtain ⟨_, _, z_a1_5, z_a1_6⟩ := q2.resolve_left (by omega)
  obtain ⟨b3, b4, b6, b7, b8⟩ := take_len a0_0 a0_1 a0_2 a0_3 a0_4 a0_5 a0_6 a0_7 a0_8 a1_0 a1_1 a1_2 a1_3 a1_4 a1_5 a1_6 z_a0_4 z_a0_6 z_a0_7 z_a0_8
  replace b3 : (takeM a0_0 a0_1 a0_2 a0_3 a0_4 a0_5 a0_6 a0_7 a0_8 a1_0 a1_1 a1_2 a1_3 a1_4 a1_5 a1_6).2.2.2.1.length ≤ 1048576 := by rw [b3]; exact z_a0_3
  refine T_bindE (laws_toChan.ev a0_0 a0_1 a0_2 a0_3 a0_4 a0_5 a0_6 a0_7 a0_8 z_a0_3 z_a0_4 z_a0_6 z_a0_7 z_a0_8) ?_
  refine T_bindE (laws_toPacket.ev a1_0 a1_1 a1_2 a1_3 a1_4 a1_5 a1_6 z_a1_5) ?_
  refine T_bindE (spec_Take.ev a0_0 a0_1 a0_2 a0_3 a0_4 a0_5 a0_6 a0_7 a0_8 a1_0 a1_1 a1_2 a1_3 a1_4 a1_5 a1_6 z_a0_3 z_a0_4 z_a0_6 z_a0_7 z_a0_8 z_a1_5) ?_
  refine T_bindE (laws_toChan.ev a0_0 a0_1 a0_2 a0_3 a0_4 a0_5 a0_6 a0_7 a0_8 z_a0_3 z_a0_4 z_a0_6 z_a0_7 z_a0_8) ?_
  refine T_bindE (laws_toPacket.ev a1_0 a1_1 a1_2 a1_3 a1_4 a1_5 a1_6 z_a1_5) ?_
  refine T_bindE (impl_Take.ev a0_0 a0_1 a0_2 a0_3 a0_4 a0_5 a0_6 a0_7 a0_8 a1_0 a1_1 a1_2 a1_3 a1_4 a1_5 a1_6 z_a0_3 z_a0_4 z_a0_6 z_a0_7 z_a0_8 z_a1_5) ?_
  refine T_bindE (laws_eqChan.ev _ _ _ _ _ _ _ _ _ (by omega) (by omega) (by omega) (by omega) (by omega)) ?_
  refine T_same rfl ?_
  refine T_same (by simp) ?_
  refine T_bindE (laws_toChan.ev a0_0 a0_1 a0_2 a0_3 a0_4 a0_5 a0_6 a0_7 a0_8 z_a0_3 z_a0_4 z_a0_6 z_a0_7 z_a0_8) ?_
  refine T_bindE (laws_eqChan.ev a0_0 a0_1 a0_2 a0_3 a0_4 a0_5 a0_6 a0_7 a0_8 (by omega) (by omega) (by omega) (by omega) (by omega)) ?_
  refine T_same rfl ?_
  refine T_bindE (laws_toPacket.ev a1_0 a1_1 a1_2 a1_3 a1_4 a1_5 a1_6 z_a1_5) ?_
  refine T_bindE (laws_eqPacket.ev a1_0 a1_1 a1_2 a1_3 a1_4 a1_5 a1_6 (by omega)) ?_
  refine T_same rfl ?_
  refine T_bindE (laws_markChan.ev a0_0 a0_1 a0_2 a0_3 a0_4 a0_5 a0_6 a0_7 a0_8 (1) (by omega)) ?_
  refine T_bindE (laws_markPacket.ev a1_0 a1_1 a1_2 a1_3 a1_4 a1_5 a1_6 (1 + 1 * a0_3.length + 4 * a0_4.length + 2 * a0_6.length + 1 * a0_7.length + 1 * a0_8.length) (by omega)) ?_
  refine T_neg (by omega) ?_
  refine T_bindE (laws_eqChan.ev _ _ _ _ _ _ _ _ _ (by omega) (by omega) (by omega) (by omega) (by omega)) ?_
  refine T_same rfl ?_
  refine T_same (by simp) ?_
  refine T_bindE (laws_markChan.ev _ _ _ _ _ _ _ _ _ 1 ?_) ?_
  · omega
  refine T_bindE (laws_heldChan.ev _ _ _ _ _ _ _ _ _ 1 ?_) ?_
  · omega
  refine T_neg (by omega) ?_
  refine T_same (by simp) ?_
  refine T_bindE (laws_toChan.ev a0_0 a0_1 a0_2 a0_3 a0_4 a0_5 a0_6 a0_7 a0_8 z_a0_3 z_a0_4 z_a0_6 z_a0_7 z_a0_8) ?_
  refine T_bindE (laws_toPacket.ev a1_0 a1_1 a1_2 a1_3 a1_4 a1_5 a1_6 z_a1_5) ?_
  refine T_bindE (impl_Take.ev a0_0 a0_1 a0_2 a0_3 a0_4 a0_5 a0_6 a0_7 a0_8 a1_0 a1_1 a1_2 a1_3 a1_4 a1_5 a1_6 z_a0_3 z_a0_4 z_a0_6 z_a0_7 z_a0_8 z_a1_5) ?_
  refine T_bindE (laws_eqChan.ev _ _ _ _ _ _ _ _ _ (by omega) (by omega) (by omega) (by omega) (by omega)) ?_
  refine T_same rfl ?_
  refine T_same (by simp) ?_
  refine T_bindE (laws_heldChan.ev _ _ _ _ _ _ _ _ _ 1 ?_) ?_
  · omega
  refine T_neg (by omega) ?_
  refine T_same (by simp) ?_
  exact T_ret rfl
end Go.Proofs.Ytpheniajdbbphaa.DI.Pure
