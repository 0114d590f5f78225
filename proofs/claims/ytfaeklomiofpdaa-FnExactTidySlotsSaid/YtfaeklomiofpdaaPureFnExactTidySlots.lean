/- FnExactTidySlots, the plain part: from some fuel on the law answers true. -/
import Derived.Test.YtfaeklomiofpdaaGoalFnExactTidySlots
import Derived.Test.YtfaeklomiofpdaaKITE
namespace Go.Proofs.Ytfaeklomiofpdaa.DI.Pure
open Go Go.RowKit
set_option linter.unusedVariables false
set_option linter.unusedSimpArgs false
theorem laws_szIntS.ev (l : List (Int)) (a : Int) (h0 : 0 ≤ a) (h1 : a ≤ 1048576) (hl : l.length ≤ maxLen) : Tells F0 (fun k => laws_szIntS.f k l a) (fun v => v < 0 ∨ (0 ≤ v ∧ v ≤ a ∧ l.length ≤ 1048576)) := by
  unfold maxLen at hl
  unfold laws_szIntS.f
  rw [wr64 (x := a - (l.length : Int)) (by omega) (by omega)]
  exact T_dec (fun _ => T_ret (.inl (by omega))) (fun h => T_ret (.inr ⟨by omega, by omega, by omega⟩))
theorem laws_szSlot.ev (c0 : Int) (c1 : ByteArray) (c2 : ByteArray) (c3 : Int) (c4 : List (Int)) (c5 : Int) (a : Int) (h1 : ByteArray.size c1 ≤ 140737488351232) (h2 : ByteArray.size c2 ≤ 140737488351232) (h4 : c4.length ≤ maxLen) (hA : 0 ≤ a) (hB : a ≤ 1048576) : Tells F0 (fun k => laws_szSlot.f k c0 c1 c2 c3 c4 c5 a) (fun v => v < 0 ∨ (0 ≤ v ∧ v ≤ a ∧ ByteArray.size c1 ≤ 1048576 ∧ ByteArray.size c2 ≤ 1048576 ∧ c4.length ≤ 1048576)) := by
  unfold laws_szSlot.f
  rw [wr64 (x := a - ((c1).size : Int)) (by omega) (by omega)]
  refine T_dec (fun _ => T_ret (.inl (by omega))) fun e0 => ?_
  rw [wr64 (x := (a - ((c1).size : Int)) - ((c2).size : Int)) (by omega) (by omega)]
  refine T_dec (fun _ => T_ret (.inl (by omega))) fun e1 => ?_
  refine T_bind (laws_szIntS.ev c4 _ (by omega) (by omega) h4) fun v2 q2 => T_dec (fun h => T_ret (.inl (by omega))) fun e2 => ?_
  replace q2 := q2.resolve_left (by omega)
  exact T_ret (.inr ⟨by omega, by omega, by omega, by omega, by omega⟩)
theorem laws_szSlots.ev (c0 : Int) (c1 : ByteArray) (c2 : ByteArray) (c3 : Int) (c4 : List (Int)) (c5 : Int) (c6 : Int) (c7 : ByteArray) (c8 : ByteArray) (c9 : Int) (c10 : List (Int)) (c11 : Int) (a : Int) (h1 : ByteArray.size c1 ≤ 140737488351232) (h2 : ByteArray.size c2 ≤ 140737488351232) (h4 : c4.length ≤ maxLen) (h7 : ByteArray.size c7 ≤ 140737488351232) (h8 : ByteArray.size c8 ≤ 140737488351232) (h10 : c10.length ≤ maxLen) (hA : 0 ≤ a) (hB : a ≤ 1048576) : Tells F0 (fun k => laws_szSlots.f k c0 c1 c2 c3 c4 c5 c6 c7 c8 c9 c10 c11 a) (fun v => v < 0 ∨ (0 ≤ v ∧ v ≤ a ∧ ByteArray.size c1 ≤ 1048576 ∧ ByteArray.size c2 ≤ 1048576 ∧ c4.length ≤ 1048576 ∧ ByteArray.size c7 ≤ 1048576 ∧ ByteArray.size c8 ≤ 1048576 ∧ c10.length ≤ 1048576)) := by
  unfold laws_szSlots.f
  refine T_bind (laws_szSlot.ev c0 c1 c2 c3 c4 c5 _ h1 h2 h4 (by omega) (by omega)) fun v0 q0 => T_dec (fun h => T_ret (.inl (by omega))) fun e0 => ?_
  replace q0 := q0.resolve_left (by omega)
  refine T_bind (laws_szSlot.ev c6 c7 c8 c9 c10 c11 _ h7 h8 h10 (by omega) (by omega)) fun v1 q1 => T_dec (fun h => T_ret (.inl (by omega))) fun e1 => ?_
  replace q1 := q1.resolve_left (by omega)
  exact T_ret (.inr ⟨by omega, by omega, q0.2.2.1, q0.2.2.2.1, q0.2.2.2.2, q1.2.2.1, q1.2.2.2.1, q1.2.2.2.2⟩)
theorem laws_toIntS.ev (l : List (Int)) (hn : l.length ≤ 1048576) : Tells F0 (fun k => laws_toIntS.f k l) (· = l) := by
  have h := T_loop (F := F0) (fun k j i => laws_toIntS.l0 k j ((i : Int), l, l.take i ++ List.replicate (l.length - i) (0 : Int))) l.length (fun _ r => r = l) (fun i hi he => by
    dsimp only [laws_toIntS.l0, laws_toIntS.s0]
    simp only [Int.toNat_natCast, Option.bind_some]
    refine T_pos (by omega) (T_get hi (T_get (by simp; omega) ?_))
    rw [wrs hi (by omega)]
    have e := set_copy l (0 : Int) i hi
    refine T_eq (fun x => congrArg (fun q => laws_toIntS.l0 x.1 x.2 (((i + 1 : Nat) : Int), l, q)) e) he) (by
    dsimp only [laws_toIntS.l0, laws_toIntS.s0]
    exact T_neg (by omega) (T_ret (by simp))) 0 (Nat.zero_le _)
  unfold laws_toIntS.f
  refine T_and (by omega) (by omega) (T_in (g := fun x j => laws_toIntS.l0 x j _) ?_ (fun k => k) (fun _ _ h => h))
  simpa using h
theorem laws_toSlot.ev (c0 : Int) (c1 : ByteArray) (c2 : ByteArray) (c3 : Int) (c4 : List (Int)) (c5 : Int) (h4 : c4.length ≤ 1048576) : Tells F0 (fun k => laws_toSlot.f k c0 c1 c2 c3 c4 c5) (· = (c0, c1, c2, c3, c4, c5)) := by
  unfold laws_toSlot.f
  refine T_bindE (laws_toIntS.ev _ h4) ?_
  exact T_ret rfl
theorem laws_toSlots.ev (c0 : Int) (c1 : ByteArray) (c2 : ByteArray) (c3 : Int) (c4 : List (Int)) (c5 : Int) (c6 : Int) (c7 : ByteArray) (c8 : ByteArray) (c9 : Int) (c10 : List (Int)) (c11 : Int) (h4 : c4.length ≤ 1048576) (h10 : c10.length ≤ 1048576) : Tells F0 (fun k => laws_toSlots.f k c0 c1 c2 c3 c4 c5 c6 c7 c8 c9 c10 c11) (· = (c0, c1, c2, c3, c4, c5, c6, c7, c8, c9, c10, c11)) := by
  unfold laws_toSlots.f
  refine T_bindE (laws_toSlot.ev _ _ _ _ _ _ h4) ?_
  refine T_bindE (laws_toSlot.ev _ _ _ _ _ _ h10) ?_
  exact T_ret rfl
theorem laws_eqIntS.ev (l : List (Int)) (hn : l.length ≤ 1000000000000000000) : Tells F0 (fun k => laws_eqIntS.f k l l) (· = true) := by
  have h := T_loop (F := F0) (fun k j i => laws_eqIntS.l0 k j ((i : Int), l, l)) l.length (fun _ r => r = true) (fun i hi he => by
    dsimp only [laws_eqIntS.l0, laws_eqIntS.s0]
    simp only [Int.toNat_natCast]
    refine T_pos (by omega) (T_get hi (T_get hi ?_))
    refine T_same (by simp) ?_
    rw [wrs hi (by omega)]
    exact he) (by
    dsimp only [laws_eqIntS.l0, laws_eqIntS.s0]
    exact T_neg (by omega) (T_ret rfl)) 0 (Nat.zero_le _)
  unfold laws_eqIntS.f
  exact T_same (by simp) (T_in (g := fun x j => laws_eqIntS.l0 x j _) h (fun k => k) (fun _ _ h => h))
theorem laws_eqSlot.ev (c0 : Int) (c1 : ByteArray) (c2 : ByteArray) (c3 : Int) (c4 : List (Int)) (c5 : Int) (h4 : c4.length ≤ 1000000000000000000) : Tells F0 (fun k => laws_eqSlot.f k c0 c1 c2 c3 c4 c5 c0 c1 c2 c3 c4 c5) (· = true) := by
  unfold laws_eqSlot.f
  refine T_same (by simp) ?_
  refine T_same (by simp) ?_
  refine T_same (by simp) ?_
  refine T_same (by simp) ?_
  refine T_bindE (laws_eqIntS.ev _ h4) ?_
  refine T_same rfl ?_
  refine T_same (by simp) ?_
  exact T_ret rfl
theorem laws_eqSlots.ev (c0 : Int) (c1 : ByteArray) (c2 : ByteArray) (c3 : Int) (c4 : List (Int)) (c5 : Int) (c6 : Int) (c7 : ByteArray) (c8 : ByteArray) (c9 : Int) (c10 : List (Int)) (c11 : Int) (h4 : c4.length ≤ 1000000000000000000) (h10 : c10.length ≤ 1000000000000000000) : Tells F0 (fun k => laws_eqSlots.f k c0 c1 c2 c3 c4 c5 c6 c7 c8 c9 c10 c11 c0 c1 c2 c3 c4 c5 c6 c7 c8 c9 c10 c11) (· = true) := by
  unfold laws_eqSlots.f
  refine T_bindE (laws_eqSlot.ev _ _ _ _ _ _ h4) ?_
  refine T_same rfl ?_
  refine T_bindE (laws_eqSlot.ev _ _ _ _ _ _ h10) ?_
  refine T_same rfl ?_
  exact T_ret rfl
def mkd_Int (n m : Nat) : List (Int) := (List.range m).map fun i => ((n + 1 * i + 0 : Nat) : Int)
theorem laws_markIntS.ev (l : List (Int)) (n : Nat) (hb : n + 1 * l.length ≤ 1000000000000000000) : Tells F0 (fun k => laws_markIntS.f k l (n : Int)) (· = (((n + 1 * l.length : Nat) : Int), mkd_Int n l.length)) := by
  have hM : (mkd_Int n l.length).length = l.length := by simp [mkd_Int]
  have h := T_loop (F := F0) (fun k j i => laws_markIntS.l0 k j (((n + 1 * i : Nat) : Int), (i : Int), (mkd_Int n l.length).take i ++ l.drop i)) l.length (fun _ r => r = (((n + 1 * l.length : Nat) : Int), mkd_Int n l.length)) (fun i hi he => by
    have hv : (mkd_Int n l.length)[i]? = some ((n + 1 * i + 0 : Nat) : Int) := by simp [mkd_Int, hi]
    have hs := mark_step (mkd_Int n l.length) l i _ hM hi hv
    have hL : i < ((mkd_Int n l.length).take i ++ l.drop i).length := by simp; omega
    have w0 : IntKind.i64.wrap (((n + 1 * i : Nat) : Int) + 1) = ((n + 1 * (i + 1) : Nat) : Int) := by rw [wr64 (by omega) (by omega)]; omega
    dsimp only [laws_markIntS.l0, laws_markIntS.s0]
    simp only [Int.toNat_natCast, w0, wrs hi (show l.length ≤ 9223372036854775807 by omega)]
    refine T_pos (by omega) ?_
    refine T_get hL ?_
    refine T_eq (fun x => congrArg (fun q => laws_markIntS.l0 x.1 x.2 (((n + 1 * (i + 1) : Nat) : Int), ((i + 1 : Nat) : Int), q)) ?_) he
    try simp only [List.set_set]
    exact hs) (by
    dsimp only [laws_markIntS.l0, laws_markIntS.s0]
    refine T_neg (by simp; omega) (T_ret ?_)
    rw [List.take_of_length_le (by omega), List.drop_length, List.append_nil]) 0 (Nat.zero_le _)
  unfold laws_markIntS.f
  refine T_in (g := fun x j => laws_markIntS.l0 x j _) ?_ (fun k => k) (fun _ _ h => h)
  simpa using h
theorem laws_markSlot.ev (c0 : Int) (c1 : ByteArray) (c2 : ByteArray) (c3 : Int) (c4 : List (Int)) (c5 : Int) (n : Nat) (hb : n + 1 * c4.length ≤ 1000000000000000000) : Tells F0 (fun k => laws_markSlot.f k c0 c1 c2 c3 c4 c5 (n : Int)) (· = (((n + 1 * c4.length : Nat) : Int), mkd_Int n c4.length)) := by
  unfold laws_markSlot.f
  refine T_bindE (laws_markIntS.ev _ n (by omega)) ?_
  exact T_ret rfl
theorem laws_markSlots.ev (c0 : Int) (c1 : ByteArray) (c2 : ByteArray) (c3 : Int) (c4 : List (Int)) (c5 : Int) (c6 : Int) (c7 : ByteArray) (c8 : ByteArray) (c9 : Int) (c10 : List (Int)) (c11 : Int) (n : Nat) (hb : n + 1 * c4.length + 1 * c10.length ≤ 1000000000000000000) : Tells F0 (fun k => laws_markSlots.f k c0 c1 c2 c3 c4 c5 c6 c7 c8 c9 c10 c11 (n : Int)) (· = (((n + 1 * c4.length + 1 * c10.length : Nat) : Int), mkd_Int n c4.length, mkd_Int (n + 1 * c4.length) c10.length)) := by
  unfold laws_markSlots.f
  refine T_bindE (laws_markSlot.ev _ _ _ _ _ _ n (by omega)) ?_
  refine T_bindE (laws_markSlot.ev _ _ _ _ _ _ (n + 1 * c4.length) (by omega)) ?_
  exact T_ret rfl
theorem laws_heldIntS.ev (m n : Nat) (hb : n + 1 * m ≤ 1000000000000000000) : Tells F0 (fun k => laws_heldIntS.f k (mkd_Int n m) (n : Int)) (· = ((n + 1 * m : Nat) : Int)) := by
  have hM : (mkd_Int n m).length = m := by simp [mkd_Int]
  have h := T_loop (F := F0) (fun k j i => laws_heldIntS.l0 k j (((n + 1 * i : Nat) : Int), (i : Int), mkd_Int n m)) m (fun _ r => r = ((n + 1 * m : Nat) : Int)) (fun i hi he => by
    have hL : i < (mkd_Int n m).length := by omega
    have hv : (mkd_Int n m)[i] = ((n + 1 * i + 0 : Nat) : Int) := by simp [mkd_Int]
    have w0 : IntKind.i64.wrap (((n + 1 * i : Nat) : Int) + 1) = ((n + 1 * (i + 1) : Nat) : Int) := by rw [wr64 (by omega) (by omega)]; omega
    dsimp only [laws_heldIntS.l0, laws_heldIntS.s0]
    simp only [Int.toNat_natCast, w0, wrs hi (show m ≤ 9223372036854775807 by omega)]
    refine T_pos (by omega) ?_
    refine T_get hL ?_; rw [hv]; try dsimp only
    refine T_same (by simp) ?_
    exact he) (by
    dsimp only [laws_heldIntS.l0, laws_heldIntS.s0]
    exact T_neg (by omega) (T_ret rfl)) 0 (Nat.zero_le _)
  unfold laws_heldIntS.f
  exact T_in (g := fun x j => laws_heldIntS.l0 x j _) (by simpa using h) (fun k => k) (fun _ _ h => h)
theorem laws_heldSlot.ev (c0 : Int) (c1 : ByteArray) (c2 : ByteArray) (c3 : Int) (c5 : Int) (m4 n : Nat) (hb : n + 1 * m4 ≤ 1000000000000000000) : Tells F0 (fun k => laws_heldSlot.f k c0 c1 c2 c3 (mkd_Int n m4) c5 (n : Int)) (· = ((n + 1 * m4 : Nat) : Int)) := by
  unfold laws_heldSlot.f
  refine T_bindE (laws_heldIntS.ev m4 n (by omega)) ?_
  refine T_neg (by omega) ?_
  exact T_ret rfl
theorem laws_heldSlots.ev (c0 : Int) (c1 : ByteArray) (c2 : ByteArray) (c3 : Int) (c5 : Int) (c6 : Int) (c7 : ByteArray) (c8 : ByteArray) (c9 : Int) (c11 : Int) (m4 m10 n : Nat) (hb : n + 1 * m4 + 1 * m10 ≤ 1000000000000000000) : Tells F0 (fun k => laws_heldSlots.f k c0 c1 c2 c3 (mkd_Int n m4) c5 c6 c7 c8 c9 (mkd_Int (n + 1 * m4) m10) c11 (n : Int)) (· = ((n + 1 * m4 + 1 * m10 : Nat) : Int)) := by
  unfold laws_heldSlots.f
  refine T_bindE (laws_heldSlot.ev _ _ _ _ _ m4 n (by omega)) ?_
  refine T_neg (by omega) ?_
  refine T_bindE (laws_heldSlot.ev _ _ _ _ _ m10 (n + 1 * m4) (by omega)) ?_
  refine T_neg (by omega) ?_
  exact T_ret rfl
theorem impl_copyInts.ev (l : List Int) (h : l.length ≤ 1048576) : Tells F0 (fun k => impl_copyInts.f k l) (· = l) := by
  unfold impl_copyInts.f
  exact T_pos (by simp; omega) (T_ret rfl)

section
variable (c0 : Int) (c1 c2 : ByteArray) (c3 : Int) (c4 : List Int) (c5 c6 : Int) (c7 c8 : ByteArray) (c9 : Int) (c10 : List Int) (c11 : Int)
theorem impl_copySlots.ev (h4 : c4.length ≤ 1048576) (h10 : c10.length ≤ 1048576) : Tells F0 (fun k => impl_copySlots.f k c0 c1 c2 c3 c4 c5 c6 c7 c8 c9 c10 c11) (· = (c0, c1, c2, c3, c4, c5, c6, c7, c8, c9, c10, c11)) := by
  unfold impl_copySlots.f
  exact T_bindE (impl_copyInts.ev c4 h4) (T_bindE (impl_copyInts.ev c10 h10) (T_ret rfl))
theorem spec_l17CopySlot.ev (h4 : c4.length ≤ 1048576) : Tells F0 (fun k => spec_l17CopySlot.f k c0 c1 c2 c3 c4 c5) (· = (c0, c1, c2, c3, c4, c5)) := by
  unfold spec_l17CopySlot.f
  exact T_pos (by simp; omega) (T_ret rfl)
theorem spec_l17Copy.ev (h4 : c4.length ≤ 1048576) (h10 : c10.length ≤ 1048576) : Tells F0 (fun k => spec_l17Copy.f k c0 c1 c2 c3 c4 c5 c6 c7 c8 c9 c10 c11) (· = (c0, c1, c2, c3, c4, c5, c6, c7, c8, c9, c10, c11)) := by
  unfold spec_l17Copy.f
  exact T_bindE (spec_l17CopySlot.ev _ _ _ _ _ _ h4) (T_bindE (spec_l17CopySlot.ev _ _ _ _ _ _ h10) (T_ret rfl))
def tidyM (now : Int) : Int × ByteArray × ByteArray × Int × List Int × Int × Int × ByteArray × ByteArray × Int × List Int × Int :=
  (c0, c1, c2, c3, c4, c5, if c11 ≤ now then 0 else c6, if c11 ≤ now then ByteArray.empty else c7, if c11 ≤ now then ByteArray.empty else c8, if c11 ≤ now then 0 else c9, if c11 ≤ now then [] else c10, if c11 ≤ now then 0 else c11)
theorem impl_TidySlots.ev (now : Int) (h4 : c4.length ≤ 1048576) (h10 : c10.length ≤ 1048576) : Tells F0 (fun k => impl_TidySlots.f k c0 c1 c2 c3 c4 c5 c6 c7 c8 c9 c10 c11 now) (· = tidyM c0 c1 c2 c3 c4 c5 c6 c7 c8 c9 c10 c11 now) := by
  unfold impl_TidySlots.f tidyM
  refine T_bindE (impl_copySlots.ev _ _ _ _ _ _ _ _ _ _ _ _ h4 h10) ?_
  exact T_dec (fun h => T_ret (by simp only [h, if_true])) (fun h => T_ret (by simp only [h, if_false]))
theorem spec_TidySlots.ev (now : Int) (h4 : c4.length ≤ 1048576) (h10 : c10.length ≤ 1048576) : Tells F0 (fun k => spec_TidySlots.f k c0 c1 c2 c3 c4 c5 c6 c7 c8 c9 c10 c11 now) (· = tidyM c0 c1 c2 c3 c4 c5 c6 c7 c8 c9 c10 c11 now) := by
  unfold spec_TidySlots.f tidyM
  refine T_bindE (spec_l17Copy.ev _ _ _ _ _ _ _ _ _ _ _ _ h4 h10) ?_
  exact T_dec (fun h => T_ret (by simp only [h, if_true])) (fun h => T_ret (by simp only [h, if_false]))
end


theorem FnExactTidySlots : laws_FnExactTidySlots.Goal := by
  intro a0_0 a0_1 a0_2 a0_3 a0_4 a0_5 a0_6 a0_7 a0_8 a0_9 a0_10 a0_11 a1 g_a0_0 g_a0_1 g_a0_2 g_a0_3 g_a0_4 g_a0_5 g_a0_6 g_a0_7 g_a0_8 g_a0_9 g_a0_10 g_a0_11 g_a1
  replace g_a0_0 := wf64 g_a0_0
  replace g_a0_3 := wf64 g_a0_3
  replace g_a0_4 : a0_4.length ≤ maxLen ∧ True := ⟨g_a0_4.1, trivial⟩
  replace g_a0_5 := wf64 g_a0_5
  replace g_a0_6 := wf64 g_a0_6
  replace g_a0_9 := wf64 g_a0_9
  replace g_a0_10 : a0_10.length ≤ maxLen ∧ True := ⟨g_a0_10.1, trivial⟩
  replace g_a0_11 := wf64 g_a0_11
  replace g_a1 := wf64 g_a1
  refine Tells.rounds ?_
  unfold laws_FnExactTidySlots.f
  refine T_bind (laws_szSlots.ev a0_0 a0_1 a0_2 a0_3 a0_4 a0_5 a0_6 a0_7 a0_8 a0_9 a0_10 a0_11 _ (g_a0_1) (g_a0_2) g_a0_4.1 (g_a0_7) (g_a0_8) g_a0_10.1 (by omega) (by omega)) fun v1 q1 => T_dec (fun _ => T_ret rfl) fun e1 => ?_
  obtain ⟨_, _, z_a0_1, z_a0_2, z_a0_4, z_a0_7, z_a0_8, z_a0_10⟩ := q1.resolve_left (by omega)
  have b4 : (tidyM a0_0 a0_1 a0_2 a0_3 a0_4 a0_5 a0_6 a0_7 a0_8 a0_9 a0_10 a0_11 a1).2.2.2.2.1.length ≤ 1048576 := z_a0_4
  have b10 : (tidyM a0_0 a0_1 a0_2 a0_3 a0_4 a0_5 a0_6 a0_7 a0_8 a0_9 a0_10 a0_11 a1).2.2.2.2.2.2.2.2.2.2.1.length ≤ 1048576 := by unfold tidyM; dsimp only; split; exact Nat.zero_le _; exact z_a0_10
  refine T_bindE (laws_toSlots.ev a0_0 a0_1 a0_2 a0_3 a0_4 a0_5 a0_6 a0_7 a0_8 a0_9 a0_10 a0_11 z_a0_4 z_a0_10) ?_
  refine T_bindE (spec_TidySlots.ev a0_0 a0_1 a0_2 a0_3 a0_4 a0_5 a0_6 a0_7 a0_8 a0_9 a0_10 a0_11 a1 z_a0_4 z_a0_10) ?_
  refine T_bindE (laws_toSlots.ev a0_0 a0_1 a0_2 a0_3 a0_4 a0_5 a0_6 a0_7 a0_8 a0_9 a0_10 a0_11 z_a0_4 z_a0_10) ?_
  refine T_bindE (impl_TidySlots.ev a0_0 a0_1 a0_2 a0_3 a0_4 a0_5 a0_6 a0_7 a0_8 a0_9 a0_10 a0_11 a1 z_a0_4 z_a0_10) ?_
  refine T_bindE (laws_eqSlots.ev _ _ _ _ _ _ _ _ _ _ _ _ (by omega) (by omega)) ?_
  refine T_same rfl ?_
  refine T_bindE (laws_toSlots.ev a0_0 a0_1 a0_2 a0_3 a0_4 a0_5 a0_6 a0_7 a0_8 a0_9 a0_10 a0_11 z_a0_4 z_a0_10) ?_
  refine T_bindE (laws_eqSlots.ev a0_0 a0_1 a0_2 a0_3 a0_4 a0_5 a0_6 a0_7 a0_8 a0_9 a0_10 a0_11 (by omega) (by omega)) ?_
  refine T_same rfl ?_
  refine T_bindE (laws_markSlots.ev a0_0 a0_1 a0_2 a0_3 a0_4 a0_5 a0_6 a0_7 a0_8 a0_9 a0_10 a0_11 (1) (by omega)) ?_
  refine T_neg (by omega) ?_
  refine T_bindE (laws_eqSlots.ev _ _ _ _ _ _ _ _ _ _ _ _ (by omega) (by omega)) ?_
  refine T_same rfl ?_
  refine T_bindE (laws_markSlots.ev _ _ _ _ _ _ _ _ _ _ _ _ 1 ?_) ?_
  · omega
  refine T_bindE (laws_heldSlots.ev _ _ _ _ _ _ _ _ _ _ _ _ 1 ?_) ?_
  · omega
  refine T_neg (by omega) ?_
  refine T_same (by simp) ?_
  refine T_bindE (laws_toSlots.ev a0_0 a0_1 a0_2 a0_3 a0_4 a0_5 a0_6 a0_7 a0_8 a0_9 a0_10 a0_11 z_a0_4 z_a0_10) ?_
  refine T_bindE (impl_TidySlots.ev a0_0 a0_1 a0_2 a0_3 a0_4 a0_5 a0_6 a0_7 a0_8 a0_9 a0_10 a0_11 a1 z_a0_4 z_a0_10) ?_
  refine T_bindE (laws_eqSlots.ev _ _ _ _ _ _ _ _ _ _ _ _ (by omega) (by omega)) ?_
  refine T_same rfl ?_
  refine T_bindE (laws_heldSlots.ev _ _ _ _ _ _ _ _ _ _ _ _ 1 ?_) ?_
  · omega
  refine T_neg (by omega) ?_
  refine T_same (by simp) ?_
  exact T_ret rfl
end Go.Proofs.Ytfaeklomiofpdaa.DI.Pure
