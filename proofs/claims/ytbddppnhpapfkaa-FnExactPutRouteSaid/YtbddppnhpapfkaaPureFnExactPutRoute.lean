/- FnExactPutRoute, the plain part: from some fuel on the law answers true. -/
import Derived.Test.YtbddppnhpapfkaaGoalFnExactPutRoute
import Derived.Test.YtbddppnhpapfkaaKITE
namespace Go.Proofs.Ytbddppnhpapfkaa.DI.Pure
open Go Go.RowKit
set_option linter.unusedVariables false
set_option linter.unusedSimpArgs false
theorem laws_szRouteS.ev (l : List (Int × Int × Int)) (a : Int) (h0 : 0 ≤ a) (h1 : a ≤ 1048576) (hl : l.length ≤ maxLen) : Tells F0 (fun k => laws_szRouteS.f k l a) (fun v => v < 0 ∨ (0 ≤ v ∧ v ≤ a ∧ l.length ≤ 1048576)) := by
  unfold maxLen at hl
  unfold laws_szRouteS.f
  rw [wr64 (x := a - (l.length : Int)) (by omega) (by omega)]
  exact T_dec (fun _ => T_ret (.inl (by omega))) (fun h => T_ret (.inr ⟨by omega, by omega, by omega⟩))
theorem laws_toPrefix.one (k : Nat) (c0 : Int) (c1 : Int) : laws_toPrefix.f k c0 c1 = some (c0, c1) := rfl
theorem laws_toRoute.one (k : Nat) (c0 : Int) (c1 : Int) (c2 : Int) : laws_toRoute.f k c0 c1 c2 = some (c0, c1, c2) := rfl
theorem laws_toRouteS.ev (l : List (Int × Int × Int)) (hn : l.length ≤ 1048576) : Tells F0 (fun k => laws_toRouteS.f k l) (· = l) := by
  have h := T_loop (F := F0) (fun k j i => laws_toRouteS.l0 k j ((i : Int), l, l.take i ++ List.replicate (l.length - i) ((0 : Int), (0 : Int), (0 : Int)))) l.length (fun _ r => r = l) (fun i hi he => by
    dsimp only [laws_toRouteS.l0, laws_toRouteS.s0]
    simp only [laws_toRoute.one, Int.toNat_natCast, Option.bind_some]
    refine T_pos (by omega) (T_get hi (T_get (by simp; omega) ?_))
    rw [wrs hi (by omega)]
    have e := set_copy l ((0 : Int), (0 : Int), (0 : Int)) i hi
    refine T_eq (fun x => congrArg (fun q => laws_toRouteS.l0 x.1 x.2 (((i + 1 : Nat) : Int), l, q)) e) he) (by
    dsimp only [laws_toRouteS.l0, laws_toRouteS.s0]
    exact T_neg (by omega) (T_ret (by simp))) 0 (Nat.zero_le _)
  unfold laws_toRouteS.f
  refine T_and (by omega) (by omega) (T_in (g := fun x j => laws_toRouteS.l0 x j _) ?_ (fun k => k) (fun _ _ h => h))
  simpa using h
theorem laws_eqPrefix.refl (k : Nat) (c0 : Int) (c1 : Int) : laws_eqPrefix.f k c0 c1 c0 c1 = some true := by simp [laws_eqPrefix.f]
theorem laws_eqRoute.refl (k : Nat) (c0 : Int) (c1 : Int) (c2 : Int) : laws_eqRoute.f k c0 c1 c2 c0 c1 c2 = some true := by simp [laws_eqRoute.f, laws_eqPrefix.refl]
theorem laws_eqRouteS.ev (l : List (Int × Int × Int)) (hn : l.length ≤ 1000000000000000000) : Tells F0 (fun k => laws_eqRouteS.f k l l) (· = true) := by
  have h := T_loop (F := F0) (fun k j i => laws_eqRouteS.l0 k j ((i : Int), l, l)) l.length (fun _ r => r = true) (fun i hi he => by
    dsimp only [laws_eqRouteS.l0, laws_eqRouteS.s0]
    simp only [Int.toNat_natCast]
    refine T_pos (by omega) (T_get hi (T_get hi ?_))
    simp only [laws_eqRoute.refl, Option.bind_some]
    refine T_same rfl ?_
    rw [wrs hi (by omega)]
    exact he) (by
    dsimp only [laws_eqRouteS.l0, laws_eqRouteS.s0]
    exact T_neg (by omega) (T_ret rfl)) 0 (Nat.zero_le _)
  unfold laws_eqRouteS.f
  exact T_same (by simp) (T_in (g := fun x j => laws_eqRouteS.l0 x j _) h (fun k => k) (fun _ _ h => h))
def mkd_Route (n m : Nat) : List (Int × Int × Int) := (List.range m).map fun i => (((n + 3 * i + 0 : Nat) : Int), ((n + 3 * i + 1 : Nat) : Int), ((n + 3 * i + 2 : Nat) : Int))
theorem laws_markRouteS.ev (l : List (Int × Int × Int)) (n : Nat) (hb : n + 3 * l.length ≤ 1000000000000000000) : Tells F0 (fun k => laws_markRouteS.f k l (n : Int)) (· = (((n + 3 * l.length : Nat) : Int), mkd_Route n l.length)) := by
  have hM : (mkd_Route n l.length).length = l.length := by simp [mkd_Route]
  have h := T_loop (F := F0) (fun k j i => laws_markRouteS.l0 k j (((n + 3 * i : Nat) : Int), (i : Int), (mkd_Route n l.length).take i ++ l.drop i)) l.length (fun _ r => r = (((n + 3 * l.length : Nat) : Int), mkd_Route n l.length)) (fun i hi he => by
    have hv : (mkd_Route n l.length)[i]? = some (((n + 3 * i + 0 : Nat) : Int), ((n + 3 * i + 1 : Nat) : Int), ((n + 3 * i + 2 : Nat) : Int)) := by simp [mkd_Route, hi]
    have hs := mark_step (mkd_Route n l.length) l i _ hM hi hv
    have hL : i < ((mkd_Route n l.length).take i ++ l.drop i).length := by simp; omega
    have w0 : IntKind.i64.wrap (((n + 3 * i : Nat) : Int) + 1) = ((n + 3 * i + 1 : Nat) : Int) := by rw [wr64 (by omega) (by omega)]; omega
    have w1 : IntKind.i64.wrap (((n + 3 * i + 1 : Nat) : Int) + 1) = ((n + 3 * i + 2 : Nat) : Int) := by rw [wr64 (by omega) (by omega)]; omega
    have w2 : IntKind.i64.wrap (((n + 3 * i + 2 : Nat) : Int) + 1) = ((n + 3 * (i + 1) : Nat) : Int) := by rw [wr64 (by omega) (by omega)]; omega
    dsimp only [laws_markRouteS.l0, laws_markRouteS.s0]
    simp only [Int.toNat_natCast, w0, w1, w2, wrs hi (show l.length ≤ 9223372036854775807 by omega)]
    refine T_pos (by omega) ?_
    refine T_get hL ?_
    refine T_got (by simpa using hL) ?_
    refine T_got (by simpa using hL) ?_
    refine T_eq (fun x => congrArg (fun q => laws_markRouteS.l0 x.1 x.2 (((n + 3 * (i + 1) : Nat) : Int), ((i + 1 : Nat) : Int), q)) ?_) he
    try simp only [List.set_set]
    exact hs) (by
    dsimp only [laws_markRouteS.l0, laws_markRouteS.s0]
    refine T_neg (by simp; omega) (T_ret ?_)
    rw [List.take_of_length_le (by omega), List.drop_length, List.append_nil]) 0 (Nat.zero_le _)
  unfold laws_markRouteS.f
  refine T_in (g := fun x j => laws_markRouteS.l0 x j _) ?_ (fun k => k) (fun _ _ h => h)
  simpa using h
theorem laws_heldRouteS.ev (m n : Nat) (hb : n + 3 * m ≤ 1000000000000000000) : Tells F0 (fun k => laws_heldRouteS.f k (mkd_Route n m) (n : Int)) (· = ((n + 3 * m : Nat) : Int)) := by
  have hM : (mkd_Route n m).length = m := by simp [mkd_Route]
  have h := T_loop (F := F0) (fun k j i => laws_heldRouteS.l0 k j (((n + 3 * i : Nat) : Int), (i : Int), mkd_Route n m)) m (fun _ r => r = ((n + 3 * m : Nat) : Int)) (fun i hi he => by
    have hL : i < (mkd_Route n m).length := by omega
    have hv : (mkd_Route n m)[i] = (((n + 3 * i + 0 : Nat) : Int), ((n + 3 * i + 1 : Nat) : Int), ((n + 3 * i + 2 : Nat) : Int)) := by simp [mkd_Route]
    have w0 : IntKind.i64.wrap (((n + 3 * i : Nat) : Int) + 1) = ((n + 3 * i + 1 : Nat) : Int) := by rw [wr64 (by omega) (by omega)]; omega
    have w1 : IntKind.i64.wrap (((n + 3 * i + 1 : Nat) : Int) + 1) = ((n + 3 * i + 2 : Nat) : Int) := by rw [wr64 (by omega) (by omega)]; omega
    have w2 : IntKind.i64.wrap (((n + 3 * i + 2 : Nat) : Int) + 1) = ((n + 3 * (i + 1) : Nat) : Int) := by rw [wr64 (by omega) (by omega)]; omega
    dsimp only [laws_heldRouteS.l0, laws_heldRouteS.s0]
    simp only [Int.toNat_natCast, w0, w1, w2, wrs hi (show m ≤ 9223372036854775807 by omega)]
    refine T_pos (by omega) ?_
    refine T_get hL ?_; rw [hv]; (try dsimp only)
    refine T_same ?_ ?_
    · simp
    refine T_get hL ?_; rw [hv]; (try dsimp only)
    refine T_same ?_ ?_
    · simp
    refine T_get hL ?_; rw [hv]; (try dsimp only)
    refine T_same ?_ ?_
    · simp
    exact he) (by
    dsimp only [laws_heldRouteS.l0, laws_heldRouteS.s0]
    exact T_neg (by omega) (T_ret rfl)) 0 (Nat.zero_le _)
  unfold laws_heldRouteS.f
  exact T_in (g := fun x j => laws_heldRouteS.l0 x j _) (by simpa using h) (fun k => k) (fun _ _ h => h)
theorem take_filter_succ {α : Type} (p : α → Bool) (l : List α) (i : Nat) (h : i < l.length) : (l.take (i + 1)).filter p = (l.take i).filter p ++ (if p l[i] then [l[i]] else []) := by
  rw [List.take_succ_eq_append_getElem h, List.filter_append]
  cases e : p l[i] <;> simp [e]
theorem drop_get {α : Type} {l l' : List α} {j : Nat} (h : l'.drop j = l.drop j) (hj : j < l.length) (hj' : j < l'.length) : l'[j] = l[j] := by
  have := congrArg (fun x => x[0]?) h
  simp only [List.getElem?_drop, Nat.add_zero, List.getElem?_eq_getElem hj, List.getElem?_eq_getElem hj'] at this
  exact Option.some.inj this
theorem set_take_succ {α : Type} (l : List α) (i : Nat) (x : α) (h : i < l.length) : (l.set i x).take (i + 1) = l.take i ++ [x] := by
  rw [List.take_succ_eq_append_getElem (by simpa using h), List.take_set_of_le (Nat.le_refl _), List.getElem_set_self]

theorem filter_len_take {α : Type} (p : α → Bool) (l : List α) (i : Nat) : ((l.take i).filter p).length ≤ l.length :=
  Nat.le_trans (List.length_filter_le _ _) (by simp; omega)

theorem in_eq (k : Nat) (n a b : Int) : spec_l01In.f k n a b = some (decide (a ≤ n ∧ n ≤ b)) := by
  unfold spec_l01In.f
  by_cases h : n ≥ a <;> by_cases h' : n ≤ b <;> simp [h, h'] <;> omega
theorem within_eq (k : Nat) (n a b : Int) : impl_within.f k n a b = some (decide (a ≤ n ∧ n ≤ b)) := by
  unfold impl_within.f
  by_cases h : n ≥ a <;> by_cases h' : n ≤ b <;> simp [h, h'] <;> omega

def PfxP (a n : Int) : Prop := (0 ≤ a ∧ a ≤ 4294967295) ∧ (0 ≤ n ∧ n ≤ 32) ∧ a % 2 ^ (32 - n).toNat = 0
def InP (p n a : Int) : Prop := PfxP p n ∧ (0 ≤ a ∧ a ≤ 4294967295) ∧ a - a % 2 ^ (32 - n).toNat = p
instance decPfxP (a n : Int) : Decidable (PfxP a n) := by unfold PfxP; infer_instance
instance decInP (p n a : Int) : Decidable (InP p n a) := by unfold InP; infer_instance
theorem pow_rng (m : Nat) (h : m ≤ 32) : (1 : Int) ≤ 2 ^ m ∧ (2 : Int) ^ m ≤ 4294967296 := by
  have h1 : 2 ^ m ≤ 2 ^ 32 := Nat.pow_le_pow_right (by decide) h
  have h2 : 1 ≤ 2 ^ m := Nat.one_le_two_pow
  have e : ((2 ^ m : Nat) : Int) = (2 : Int) ^ m := by simp
  omega
theorem mask_nat (i : Nat) : ((2 : Int) ^ i - 1) = ((2 ^ i - 1 : Nat) : Int) := by
  have hpn : 1 ≤ 2 ^ i := Nat.one_le_two_pow
  rw [Int.natCast_sub hpn]; simp
theorem bv_nat (a : Nat) (h : a < 18446744073709551616) : (BitVec.ofInt IntKind.i64.bits (a : Int)).toNat = a := by
  show (BitVec.ofInt 64 (a : Int)).toNat = a
  rw [BitVec.ofInt_natCast, BitVec.toNat_ofNat, Nat.mod_eq_of_lt h]
theorem and_mask (i : Nat) (hi : i ≤ 32) (x : Int) (h₀ : 0 ≤ x) (h₁ : x ≤ 4294967295) : (((BitVec.ofInt IntKind.i64.bits x) &&& (BitVec.ofInt IntKind.i64.bits (2 ^ i - 1))).toNat : Int) = x % 2 ^ i := by
  obtain ⟨a, rfl⟩ := Int.eq_ofNat_of_zero_le h₀
  have hb : 2 ^ i ≤ 2 ^ 32 := Nat.pow_le_pow_right (by decide) hi
  rw [mask_nat, BitVec.toNat_and, bv_nat a (by omega), bv_nat _ (by omega), Nat.and_two_pow_sub_one_eq_mod]
  simp
theorem andNot_mask (i : Nat) (hi : i ≤ 32) (x : Int) (h₀ : 0 ≤ x) (h₁ : x ≤ 4294967295) : (((BitVec.ofInt IntKind.i64.bits x) &&& ~~~(BitVec.ofInt IntKind.i64.bits (2 ^ i - 1))).toNat : Int) = x - x % 2 ^ i := by
  have e1 := and_mask i hi x h₀ h₁
  obtain ⟨a, rfl⟩ := Int.eq_ofNat_of_zero_le h₀
  have hb : 2 ^ i ≤ 2 ^ 32 := Nat.pow_le_pow_right (by decide) hi
  have e2 : (BitVec.ofInt IntKind.i64.bits (a : Int) &&& BitVec.ofInt IntKind.i64.bits (2 ^ i - 1)) + (BitVec.ofInt IntKind.i64.bits (a : Int) &&& ~~~ (BitVec.ofInt IntKind.i64.bits (2 ^ i - 1))) = BitVec.ofInt IntKind.i64.bits (a : Int) := by
    generalize BitVec.ofInt IntKind.i64.bits (a : Int) = u
    generalize BitVec.ofInt IntKind.i64.bits (2 ^ i - 1) = v
    rw [BitVec.add_eq_or_of_and_eq_zero]
    · ext j h
      simp
      cases (u[j]) <;> simp
    · ext j h
      simp
      cases (u[j]) <;> simp
  have e3 := congrArg BitVec.toNat e2
  rw [BitVec.toNat_add, bv_nat a (by omega)] at e3
  have h4 : (BitVec.ofInt IntKind.i64.bits (a : Int) &&& ~~~ (BitVec.ofInt IntKind.i64.bits (2 ^ i - 1))).toNat ≤ a := by
    rw [BitVec.toNat_and, bv_nat a (by omega)]
    exact Nat.and_le_left
  have h5 : (a : Int) % 2 ^ i ≤ a := by
    have : ((a % 2 ^ i : Nat) : Int) = (a : Int) % 2 ^ i := by simp
    have := Nat.mod_le a (2 ^ i)
    omega
  have h6 : 0 ≤ (a : Int) % 2 ^ i := Int.emod_nonneg _ (by have := pow_rng i hi; omega)
  have e4 : (2 : Nat) ^ IntKind.i64.bits = 18446744073709551616 := by decide
  rw [e4] at e3
  rw [Nat.mod_eq_of_lt (by omega)] at e3
  omega
theorem or_mask (i : Nat) (hi : i ≤ 32) (x : Int) (h₀ : 0 ≤ x) (h₁ : x ≤ 4294967295) (hm : x % 2 ^ i = 0) : (((BitVec.ofInt IntKind.i64.bits x) ||| (BitVec.ofInt IntKind.i64.bits (2 ^ i - 1))).toNat : Int) = x + 2 ^ i - 1 := by
  obtain ⟨a, rfl⟩ := Int.eq_ofNat_of_zero_le h₀
  have hb : 2 ^ i ≤ 2 ^ 32 := Nat.pow_le_pow_right (by decide) hi
  have hpn : 1 ≤ 2 ^ i := Nat.one_le_two_pow
  have hmn : a % 2 ^ i = 0 := by
    have : ((a % 2 ^ i : Nat) : Int) = (a : Int) % 2 ^ i := by simp
    omega
  have hd : a = 2 ^ i * (a / 2 ^ i) := by have := Nat.div_add_mod a (2 ^ i); omega
  rw [mask_nat, BitVec.toNat_or, bv_nat a (by omega), bv_nat _ (by omega), hd, ← Nat.two_pow_add_eq_or_of_lt (by omega : 2 ^ i - 1 < 2 ^ i)]
  rw [← hd]
  have : ((2 ^ i : Nat) : Int) = (2 : Int) ^ i := by simp
  omega
theorem impl_AddrOk_eq (k : Nat) (a : Int) : impl_AddrOk.f k a = some (decide (0 ≤ a ∧ a ≤ 4294967295)) := by
  unfold impl_AddrOk.f
  rw [within_eq]; rfl
theorem spec_AddrOk_eq (k : Nat) (a : Int) : spec_AddrOk.f k a = some (decide (0 ≤ a ∧ a ≤ 4294967295)) := by
  unfold spec_AddrOk.f
  rw [in_eq]; rfl
theorem lastBits_eq (k : Nat) (n : Int) (h0 : 0 ≤ n) (h1 : n ≤ 32) : impl_lastBits.f k n = some (2 ^ (32 - n).toNat - 1) := by
  unfold impl_lastBits.f
  have hp := pow_rng (32 - n).toNat (by omega)
  rw [wr64 (x := 32 - n) (by omega) (by omega), show min (32 - n).toNat IntKind.i64.bits = (32 - n).toNat from Nat.min_eq_left (by show _ ≤ 64; omega), Int.one_mul, wr64 (x := 2 ^ (32 - n).toNat) (by omega) (by omega), wr64 (by omega) (by omega)]
  have : decide (32 - n < 0) = false := decide_eq_false (by omega)
  rw [this]; rfl
theorem impl_PrefixOk_eq (k : Nat) (a n : Int) : impl_PrefixOk.f k a n = some (decide (PfxP a n)) := by
  unfold impl_PrefixOk.f
  simp only [impl_AddrOk_eq, within_eq, Option.bind_some]
  by_cases h1 : 0 ≤ a ∧ a ≤ 4294967295
  · by_cases h2 : 0 ≤ n ∧ n ≤ 32
    · have hp := pow_rng (32 - n).toNat (by omega)
      have hm0 := Int.emod_nonneg a (show (2 : Int) ^ (32 - n).toNat ≠ 0 by omega)
      have hm1 := Int.emod_lt_of_pos a (show (0 : Int) < 2 ^ (32 - n).toNat by omega)
      rw [decide_eq_true h1, decide_eq_true h2]
      simp only [cond_true, lastBits_eq k n h2.1 h2.2, Option.bind_some]
      rw [and_mask _ (by omega) a h1.1 h1.2, wr64 (by omega) (by omega)]
      congr 1
      by_cases h3 : a % 2 ^ (32 - n).toNat = 0
      · rw [decide_eq_true (show PfxP a n from ⟨h1, h2, h3⟩)]; simp [h3]
      · rw [decide_eq_false (show ¬ PfxP a n from fun c => h3 c.2.2)]; simp [h3]
    · rw [decide_eq_true h1, decide_eq_false h2, decide_eq_false (show ¬ PfxP a n from fun c => h2 c.2.1)]; rfl
  · rw [decide_eq_false h1, decide_eq_false (show ¬ PfxP a n from fun c => h1 c.1)]; rfl
theorem spec_l08Size.ev (n : Int) (h0 : 0 ≤ n) (h1 : n ≤ 32) : Tells F0 (fun k => spec_l08Size.f k n) (· = 2 ^ (32 - n).toNat) := by
  obtain ⟨m, rfl⟩ := Int.eq_ofNat_of_zero_le h0
  have hd : ∀ j : Fin 32, IntKind.i64.wrap (2 * 2 ^ j.val) = 2 ^ (j.val + 1) := by decide +kernel
  have h := T_loop (F := F0) (fun k j i => spec_l08Size.l0 k j (2 ^ i, ((m + i : Nat) : Int))) (32 - m) (fun _ r => r = 2 ^ (32 - m)) (fun i hi he => by
    dsimp only [spec_l08Size.l0, spec_l08Size.s0]
    refine T_pos (by omega) ?_
    rw [hd ⟨i, by omega⟩, wrn (by omega)]
    exact he) (by
    dsimp only [spec_l08Size.l0, spec_l08Size.s0]
    exact T_neg (by omega) (T_ret rfl)) 0 (Nat.zero_le _)
  unfold spec_l08Size.f
  rw [show (32 - (m : Int)).toNat = 32 - m by omega]
  exact T_in (g := fun x j => spec_l08Size.l0 x j _) (by simpa using h) (fun k => k) (fun _ _ h => h)
theorem spec_PrefixOk.ev (a n : Int) : Tells F0 (fun k => spec_PrefixOk.f k a n) (· = decide (PfxP a n)) := by
  unfold spec_PrefixOk.f
  simp only [spec_AddrOk_eq, in_eq, Option.bind_some]
  refine T_dec (fun h1 => T_dec (fun h2 => ?_) fun h => T_ret (decide_eq_false fun c => h c.2.1).symm) fun h => T_ret (decide_eq_false fun c => h c.1).symm
  refine T_bindE (spec_l08Size.ev n h2.1 h2.2) ?_
  have hp := pow_rng (32 - n).toNat (by omega)
  refine T_false (by simp; omega) (T_ret ?_)
  rw [Int.tmod_eq_emod_of_nonneg h1.1]
  by_cases h3 : a % 2 ^ (32 - n).toNat = 0
  · rw [decide_eq_true (show PfxP a n from ⟨h1, h2, h3⟩)]; simp [h3]
  · rw [decide_eq_false (show ¬ PfxP a n from fun c => h3 c.2.2)]; simp [h3]
abbrev Rte := Int × Int × Int
theorem isId_eq (k : Nat) (n : Int) : impl_isId.f k n = some (decide (1 ≤ n ∧ n ≤ 99)) := by
  unfold impl_isId.f
  rw [within_eq]; rfl

def aheadP (a b c d : Int) : Prop := a < c ∨ (a = c ∧ b < d)
instance (a b c d : Int) : Decidable (aheadP a b c d) := by unfold aheadP; infer_instance
theorem ahead_eq (k : Nat) (a b c d : Int) : spec_l09Ahead.f k a b c d = some (decide (aheadP a b c d)) := by
  unfold spec_l09Ahead.f aheadP
  by_cases h1 : a < c
  · simp [h1]
  · by_cases h2 : a = c
    · subst h2; simp
    · have : (a == c) = false := by simpa using h2
      simp only [h1, h2, this, decide_false, cond_false, false_or, false_and]
def cmpI (a b : Int) : Int := if a < b then -1 else if a > b then 1 else 0
theorem cmp_eq (k : Nat) (a b : Int) : cmp_Compare_int.f k a b = some (cmpI a b) := by
  unfold cmp_Compare_int.f cmp_isNaN_int.f cmpI
  by_cases h1 : a < b <;> by_cases h2 : a > b <;> simp [h1, h2]
theorem cmpOr.ev (a b : Int) : Tells F0 (fun k => cmp_Or_int.f k [a, b]) (· = if a ≠ 0 then a else b) := by
  have h := T_loop (F := F0) (fun k j i => cmp_Or_int.l0 k j ((0 : Int), (2 : Int), (i : Int), [a, b])) 2 (fun i r => r = if i = 0 ∧ a ≠ 0 then a else if i ≤ 1 then b else 0) (fun i hi he => by
    dsimp only [cmp_Or_int.l0, cmp_Or_int.s0]
    simp only [Int.toNat_natCast]
    rw [wrs hi (by omega)]
    refine T_pos (by omega) (T_get (l := [a, b]) (by simpa using hi) (T_bne (fun e => T_ret ?_) fun e => T_mono he fun r hr => ?_))
    · obtain rfl | rfl : i = 0 ∨ i = 1 := by omega
      · have e' : a ≠ 0 := e; simp [e']
      · simp
    · rw [hr]
      obtain rfl | rfl : i = 0 ∨ i = 1 := by omega
      · have e' : a = 0 := e; simp [e']
      · have e' : b = 0 := e; simp [e']) (by
    dsimp only [cmp_Or_int.l0, cmp_Or_int.s0]
    exact T_neg (by omega) (T_ret (by simp))) 0 (Nat.zero_le _)
  unfold cmp_Or_int.f
  exact T_in (g := fun x j => cmp_Or_int.l0 x j _) (by simpa using h) (fun k => k) (fun _ _ h => h)
theorem comparePrefixes.ev (a b c d : Int) : Tells F0 (fun k => impl_comparePrefixes.f k a b c d) (fun r => (r ≥ 0 ↔ ¬ aheadP a b c d)) := by
  unfold impl_comparePrefixes.f
  simp only [cmp_eq, Option.bind_some]
  refine T_bindE (cmpOr.ev _ _) (T_ret ?_)
  unfold cmpI aheadP
  (repeat' split) <;> omega
def RteC (l : List Rte) (i : Nat) : Prop := ∀ h : i < l.length, PfxP (l[i]).1 (l[i]).2.1 ∧ (1 ≤ (l[i]).2.2 ∧ (l[i]).2.2 ≤ 99) ∧ (0 < i → aheadP (l[i - 1]).1 (l[i - 1]).2.1 (l[i]).1 (l[i]).2.1)
def RtesP (l : List Rte) : Prop := (∀ i, i < l.length → RteC l i) ∧ l.length ≤ 12
theorem T_pre0 {ι α β : Type} {F : Fu ι} {P : α → Prop} {l : List β} {i : Nat} {f : ι → β → Option α} {g : ι → Option α} (h0 : 0 < i) (h : i < l.length) (hn : l.length ≤ 9223372036854775807) (hf : Tells F (fun x => f x l[i - 1]) P) :
    Tells F (fun x => bif (decide ((0 : Int) ≤ IntKind.i64.wrap ((i : Int) - 1)) && decide (IntKind.i64.wrap ((i : Int) - 1) < (l.length : Int))) then (l[(IntKind.i64.wrap ((i : Int) - 1)).toNat]?).bind (f x) else g x) P := T_pre h0 h hn hf
theorem spec_RoutesOk.ev (l : List Rte) (hn : l.length ≤ 1048600) : Tells F0 (fun k => spec_RoutesOk.f k l) (fun r => r = true ↔ RtesP l) := by
  have hh := T_body (F := F0) (fun k j i => spec_RoutesOk.l0 k j ((i : Int), l)) l.length (RteC l) (l.length ≤ 12) (fun i hi P go bad => by
    dsimp only [spec_RoutesOk.l0, spec_RoutesOk.s0]
    rw [wrs hi (by omega)]
    refine T_pos (by omega) (T_at hi (T_bindE (T_call (spec_PrefixOk.ev _ _) Prod.fst (fun _ _ h => h.1)) (T_ndec (fun a1 => T_at hi ?_) fun a1 => T_ret (bad fun c => a1 (c hi).1))))
    simp only [in_eq, ahead_eq, Option.bind_some]
    refine T_ndec (fun a2 => T_dec (fun a3 => T_pre (by omega) hi (by omega) (T_at hi (T_ndec (fun a4 => go fun _ => ⟨a1, a2, fun _ => a4⟩) fun a4 => T_ret (bad fun c => a4 ((c hi).2.2 (by omega)))))) fun a3 => go fun _ => ⟨a1, a2, fun h => absurd h (by omega)⟩) fun a2 => T_ret (bad fun c => a2 (c hi).2.1)) (by
    dsimp only [spec_RoutesOk.l0, spec_RoutesOk.s0]
    exact T_neg (by omega) (T_ret (by rw [decide_eq_true_eq]; omega)))
  unfold spec_RoutesOk.f
  exact T_in (g := fun x j => spec_RoutesOk.l0 x j _) hh (fun k => k) (fun _ _ h => h)
theorem impl_RoutesOk.ev (l : List Rte) (hn : l.length ≤ 1048600) : Tells F0 (fun k => impl_RoutesOk.f k l) (fun r => r = true ↔ RtesP l) := by
  have hh := T_body (F := F0) (fun k j i => impl_RoutesOk.l0 k j ((l.length : Int), (i : Int), l)) l.length (RteC l) (l.length ≤ 12) (fun i hi P go bad => by
    dsimp only [impl_RoutesOk.l0, impl_RoutesOk.s0]
    rw [wrs hi (by omega)]
    simp only [impl_PrefixOk_eq, isId_eq, Option.bind_some]
    refine T_pos (by omega) (T_at hi (T_ndec (fun a1 => T_ndec (fun a2 => T_dec (fun a3 => T_pre (by omega) hi (by omega) (T_bind (T_call (comparePrefixes.ev _ _ _ _) Prod.fst (fun _ _ h => h.1)) fun r hr => T_dec (fun a4 => T_ret (bad fun c => hr.1 a4 ((c hi).2.2 (by omega)))) fun a4 => ?_)) fun a3 => go fun _ => ⟨a1, a2, fun h => absurd h (by omega)⟩) fun a2 => T_ret (bad fun c => a2 (c hi).2.1)) fun a1 => T_ret (bad fun c => a1 (c hi).1)))
    exact go fun _ => ⟨a1, a2, fun _ => Classical.byContradiction fun h => a4 (hr.2 h)⟩) (by
    dsimp only [impl_RoutesOk.l0, impl_RoutesOk.s0]
    exact T_neg (by omega) (T_ret (by rw [decide_eq_true_eq]; omega)))
  unfold impl_RoutesOk.f
  exact T_in (g := fun x j => impl_RoutesOk.l0 x j _) hh (fun k => k) (fun _ _ h => h)

theorem impl_copyRoutes.ev (l : List (Int × Int × Int)) (h : l.length ≤ 1048576) : Tells F0 (fun k => impl_copyRoutes.f k l) (· = l) := by
  unfold impl_copyRoutes.f
  exact T_pos (by simp; omega) (T_ret rfl)

def impl_withoutPrefix_1.p (c0 : Int) (c1 : Int) (x : Int × Int × Int) : Bool := (x.1 == c0 && x.2.1 == c1)
theorem impl_withoutPrefix_1.ev (k : Nat) (x : Int × Int × Int) (c0 : Int) (c1 : Int) : impl_withoutPrefix_1.f k x.1 x.2.1 x.2.2 c0 c1 = some (impl_withoutPrefix_1.p c0 c1 x, c0, c1) := rfl
theorem slices_IndexFunc_impl_Route_impl_Route_f112_r.ev (l : List (Int × Int × Int)) (c0 : Int) (c1 : Int) (hn : l.length ≤ 1000000000000000000) : Tells F0 (fun k => slices_IndexFunc_impl_Route_impl_Route_f112_r.f k l c0 c1) (· = (if l.findIdx (impl_withoutPrefix_1.p c0 c1) = l.length then (-1 : Int) else (l.findIdx (impl_withoutPrefix_1.p c0 c1) : Int), l, c0, c1)) := by
  have h := T_loop (F := F0) (fun k j i => slices_IndexFunc_impl_Route_impl_Route_f112_r.l0 k j ((l.length : Int), (i : Int), l, c0, c1)) l.length (fun i r => (∀ m (h : m < l.length), m < i → impl_withoutPrefix_1.p c0 c1 l[m] = false) → r = (if l.findIdx (impl_withoutPrefix_1.p c0 c1) = l.length then (-1 : Int) else (l.findIdx (impl_withoutPrefix_1.p c0 c1) : Int), l, c0, c1)) (fun i hi he => by
    dsimp only [slices_IndexFunc_impl_Route_impl_Route_f112_r.l0, slices_IndexFunc_impl_Route_impl_Route_f112_r.s0]
    simp only [Int.toNat_natCast, impl_withoutPrefix_1.ev, Option.bind_some]
    refine T_pos (by omega) (T_get hi (T_bif (fun hp => T_ret fun hm => ?_) fun hp => ?_))
    · have e : l.findIdx (impl_withoutPrefix_1.p c0 c1) = i := (List.findIdx_eq hi).2 ⟨hp, fun j hj => hm j (by omega) hj⟩
      rw [e, if_neg (by omega)]
    · rw [wrs hi (by omega)]
      refine T_mono he fun r hr hm => hr fun m h hmi => ?_
      by_cases e : m = i
      · subst e; exact hp
      · exact hm m h (by omega)) (by
    dsimp only [slices_IndexFunc_impl_Route_impl_Route_f112_r.l0, slices_IndexFunc_impl_Route_impl_Route_f112_r.s0]
    refine T_neg (by omega) (T_ret fun hm => ?_)
    have e : l.findIdx (impl_withoutPrefix_1.p c0 c1) = l.length := List.findIdx_eq_length.2 fun x hx => by
      obtain ⟨j, hj, rfl⟩ := List.mem_iff_getElem.1 hx
      exact hm j hj hj
    rw [if_pos e]) 0 (Nat.zero_le _)
  unfold slices_IndexFunc_impl_Route_impl_Route_f112_r.f
  exact T_in (g := fun x j => slices_IndexFunc_impl_Route_impl_Route_f112_r.l0 x j _) (T_mono h fun r hr => hr (fun m h hm => absurd hm (by omega))) (fun k => k) (fun _ _ h => h)
theorem slices_DeleteFunc_impl_Route_impl_Route_f112.ev (l : List (Int × Int × Int)) (c0 : Int) (c1 : Int) (hn : l.length ≤ 1000000000000000000) : Tells F0 (fun k => slices_DeleteFunc_impl_Route_impl_Route_f112.f k l c0 c1) (· = (l.filter (fun x => !impl_withoutPrefix_1.p c0 c1 x), c0, c1)) := by
  have h := T_loops (F := F0) (fun k j (s : Int × List (Int × Int × Int)) i => slices_DeleteFunc_impl_Route_impl_Route_f112.l0 k j (s.1, (i : Int), c0, c1, s.2)) l.length
    (fun j s => ∃ i : Nat, s.1 = (i : Int) ∧ i ≤ j ∧ s.2.length = l.length ∧ s.2.take i = (l.take j).filter (fun x => !impl_withoutPrefix_1.p c0 c1 x) ∧ s.2.drop j = l.drop j) (fun _ _ r => r = (l.filter (fun x => !impl_withoutPrefix_1.p c0 c1 x), c0, c1)) (fun j s hj hs he => by
    obtain ⟨s1, l'⟩ := s
    obtain ⟨i, e1, hij, hl, ht, hd⟩ := hs
    simp only at e1 hl ht hd
    subst e1
    dsimp only [slices_DeleteFunc_impl_Route_impl_Route_f112.l0, slices_DeleteFunc_impl_Route_impl_Route_f112.s0]
    simp only [Int.toNat_natCast, impl_withoutPrefix_1.ev, Option.bind_some]
    have hj' : j < l'.length := by omega
    have hx := drop_get hd hj hj'
    have hd2 : l'.drop (j + 1) = l.drop (j + 1) := by rw [← List.drop_drop, ← List.drop_drop, hd]
    refine T_pos (by omega) (T_get hj' ?_)
    rw [hx]
    refine T_bif (fun hp => T_get (by omega : i < l'.length) ?_) fun hp => ?_
    · rw [wrs hj (by omega), wrs (show i < l.length by omega) (by omega)]
      refine he (((i + 1 : Nat) : Int), l'.set i l[j]) ⟨i + 1, rfl, by omega, by simpa using hl, ?_, ?_⟩
      · simp only
        rw [set_take_succ _ _ _ (by omega), ht, take_filter_succ _ _ _ hj, if_pos hp]
      · simp only
        rw [List.drop_set_of_lt (by omega), hd2]
    · rw [wrs hj (by omega)]
      refine he ((i : Int), l') ⟨i, rfl, by omega, hl, ?_, hd2⟩
      simp only
      rw [ht, take_filter_succ _ _ _ hj, if_neg (by simpa using hp), List.append_nil]) (fun s hs => by
    obtain ⟨s1, l'⟩ := s
    obtain ⟨i, e1, hij, hl, ht, hd⟩ := hs
    simp only at e1 hl ht hd
    subst e1
    dsimp only [slices_DeleteFunc_impl_Route_impl_Route_f112.l0, slices_DeleteFunc_impl_Route_impl_Route_f112.s0]
    simp only [Int.toNat_natCast]
    refine T_neg (by omega) (T_and (by omega) (by omega) (T_and (by omega) (by simp; omega) (T_ret ?_)))
    have h1 : (l'.take i).length = i := by simp; omega
    rw [List.take_append_of_le_length (by omega), List.take_take, Nat.min_self, ht, List.take_length])
  unfold slices_DeleteFunc_impl_Route_impl_Route_f112.f
  refine T_bindE (slices_IndexFunc_impl_Route_impl_Route_f112_r.ev l c0 c1 hn) ?_
  dsimp only
  by_cases e : l.findIdx (impl_withoutPrefix_1.p c0 c1) = l.length
  · rw [if_pos e]
    refine T_true rfl (T_ret ?_)
    have := List.findIdx_eq_length.1 e
    rw [List.filter_eq_self.2 fun x hx => by simp [this x hx]]
  · rw [if_neg e]
    have hlt : l.findIdx (impl_withoutPrefix_1.p c0 c1) < l.length := by have := List.findIdx_le_length (xs := l) (p := impl_withoutPrefix_1.p c0 c1); omega
    obtain ⟨hp, hm⟩ := (List.findIdx_eq hlt).1 rfl
    refine T_false (by simp) ?_
    rw [wrs hlt (by omega)]
    refine T_in (g := fun x j => slices_DeleteFunc_impl_Route_impl_Route_f112.l0 x j _) (h (l.findIdx (impl_withoutPrefix_1.p c0 c1) + 1) ((l.findIdx (impl_withoutPrefix_1.p c0 c1) : Int), l) (by omega) ⟨l.findIdx (impl_withoutPrefix_1.p c0 c1), rfl, by omega, rfl, ?_, rfl⟩) (fun k => k) (fun _ _ h => h)
    simp only
    rw [take_filter_succ _ _ _ hlt, if_neg (by simp [hp]), List.append_nil]
    refine (List.filter_eq_self.2 fun x hx => ?_).symm
    obtain ⟨j, hj, rfl⟩ := List.mem_iff_getElem.1 hx
    have hj2 : j < l.findIdx (impl_withoutPrefix_1.p c0 c1) := by simp at hj; omega
    rw [List.getElem_take]
    simp [hm j hj2]
def notAt (a n : Int) (x : Rte) : Bool := !(x.1 == a && x.2.1 == n)
theorem impl_withoutPrefix.ev (l : List Rte) (a n : Int) (h : l.length ≤ 1048576) : Tells F0 (fun k => impl_withoutPrefix.f k l a n) (· = l.filter (notAt a n)) := by
  unfold impl_withoutPrefix.f
  exact T_bindE (impl_copyRoutes.ev l h) (T_bindE (slices_DeleteFunc_impl_Route_impl_Route_f112.ev l a n (by omega)) (T_ret rfl))

def ahd (a n : Int) (x : Rte) : Bool := decide (aheadP x.1 x.2.1 a n)
def bhd (a n : Int) (x : Rte) : Bool := decide (aheadP a n x.1 x.2.1)
def putO (l : List Rte) (a n g : Int) : List Rte := l.filter (ahd a n) ++ [(a, n, g)] ++ l.filter (bhd a n)
open Classical in
noncomputable def putM (l : List Rte) (a n g : Int) : List Rte × Bool := if RtesP l ∧ RtesP (putO l a n g) then (putO l a n g, true) else (l, false)
theorem put_len (l : List Rte) (a n g : Int) (h : l.length ≤ 1048576) : (putM l a n g).1.length ≤ 1048576 := by
  unfold putM
  split
  · rename_i c; exact Nat.le_trans c.2.2 (by omega)
  · exact h
theorem rtes_pair {l : List Rte} (h : RtesP l) : l.Pairwise fun x y => aheadP x.1 x.2.1 y.1 y.2.1 := by
  have key : ∀ d i, (hh : i + d + 1 < l.length) → aheadP (l[i]).1 (l[i]).2.1 (l[i + d + 1]).1 (l[i + d + 1]).2.1 := by
    intro d
    induction d with
    | zero => intro i hh; exact (h.1 (i + 1) hh hh).2.2 (by omega)
    | succ d ih =>
      intro i hh
      have a1 := ih i (by omega)
      have a2 := (h.1 (i + (d + 1) + 1) hh hh).2.2 (by omega)
      simp only [Nat.add_sub_cancel] at a2
      have e : i + (d + 1) = i + d + 1 := by omega
      simp only [e] at a2 ⊢
      unfold aheadP at *
      omega
  rw [List.pairwise_iff_getElem]
  intro i j hi hj hij
  have := key (j - i - 1) i (by omega)
  have e : i + (j - i - 1) + 1 = j := by omega
  simp only [e] at this
  exact this
theorem put_split {F : List Rte} {a n : Int} (hp : F.Pairwise fun x y => aheadP x.1 x.2.1 y.1 y.2.1) (hn : ∀ x ∈ F, notAt a n x = true) {i : Nat} (hi : i ≤ F.length) (h1 : ∀ j (h : j < F.length), j < i → aheadP (F[j]).1 (F[j]).2.1 a n) (h2 : ∀ h : i < F.length, ¬ aheadP (F[i]).1 (F[i]).2.1 a n) :
    F.filter (ahd a n) = F.take i ∧ F.filter (bhd a n) = F.drop i := by
  have hx : ∀ p, F.filter p = (F.take i).filter p ++ (F.drop i).filter p := fun p => by rw [← List.filter_append, List.take_append_drop]
  have k1 : ∀ x ∈ F.take i, aheadP x.1 x.2.1 a n := by
    intro x hx
    obtain ⟨j, hj, rfl⟩ := List.mem_take_iff_getElem.1 hx
    exact h1 j (by omega) (by omega)
  have k2 : ∀ x ∈ F.drop i, aheadP a n x.1 x.2.1 := by
    intro x hx
    have hna := hn x (List.mem_of_mem_drop hx)
    obtain ⟨j, hj, rfl⟩ := List.mem_drop_iff_getElem.1 hx
    have b0 := hn F[i] (List.getElem_mem (by omega))
    have b1 := h2 (by omega)
    have b2 : j ≠ 0 → aheadP (F[i]).1 (F[i]).2.1 (F[i + j]).1 (F[i + j]).2.1 := fun h => (List.pairwise_iff_getElem.1 hp) i (i + j) (by omega) (by omega) (by omega)
    simp only [notAt, Bool.not_eq_true', Bool.and_eq_false_iff, beq_eq_false_iff_ne] at b0
    by_cases hj0 : j = 0
    · subst hj0
      simp only [Nat.add_zero]
      unfold aheadP at *
      omega
    · have b3 := b2 hj0
      unfold aheadP at *
      omega
  rw [hx, hx]
  refine ⟨?_, ?_⟩
  · rw [List.filter_eq_self.2 fun x hx => by have := k1 x hx; simpa [ahd] using this, List.filter_eq_nil_iff.2 fun x hx => by have := k2 x hx; unfold ahd; rw [decide_eq_true_eq]; unfold aheadP at *; omega, List.append_nil]
  · rw [List.filter_eq_nil_iff.2 fun x hx => by have := k1 x hx; unfold bhd; rw [decide_eq_true_eq]; unfold aheadP at *; omega, List.filter_eq_self.2 fun x hx => by have := k2 x hx; simpa [bhd] using this, List.nil_append]
theorem filt_not {p : Rte → Bool} {a n : Int} (l : List Rte) (h : ∀ x, p x = true → notAt a n x = true) : (l.filter (notAt a n)).filter p = l.filter p := by
  rw [List.filter_filter]
  refine List.filter_congr fun x _ => ?_
  cases hp : p x with
  | false => rfl
  | true => rw [h x hp]; rfl
theorem ahd_not {a n : Int} (x : Rte) (hx : ahd a n x = true) : notAt a n x = true := by
  simp only [ahd, decide_eq_true_eq] at hx
  simp only [notAt, Bool.not_eq_true', Bool.and_eq_false_iff, beq_eq_false_iff_ne]
  unfold aheadP at hx
  omega
theorem bhd_not {a n : Int} (x : Rte) (hx : bhd a n x = true) : notAt a n x = true := by
  simp only [bhd, decide_eq_true_eq] at hx
  simp only [notAt, Bool.not_eq_true', Bool.and_eq_false_iff, beq_eq_false_iff_ne]
  unfold aheadP at hx
  omega
theorem ins_rte (k : Nat) (F : List Rte) (i : Nat) (r : Rte) (hi : i ≤ F.length) (hl : F.length ≤ 1048576) : slices_Insert_impl_Route_impl_Route.f k F i [r] = some (F.take i ++ [r] ++ F.drop i) := by
  unfold slices_Insert_impl_Route_impl_Route.f
  rw [if_pos ⟨⟨by omega, by omega⟩, by simp, by simp only [List.length_singleton]; omega⟩, Int.toNat_natCast]
theorem put_fin (l : List Rte) (a n g : Int) (hl : l.length ≤ 1048576) (i : Nat) (hi : i ≤ (l.filter (notAt a n)).length) (h1 : ∀ j (h : j < (l.filter (notAt a n)).length), j < i → aheadP ((l.filter (notAt a n))[j]).1 ((l.filter (notAt a n))[j]).2.1 a n)
    (h2 : ∀ h : i < (l.filter (notAt a n)).length, ¬ aheadP ((l.filter (notAt a n))[i]).1 ((l.filter (notAt a n))[i]).2.1 a n) :
    Tells F0 (fun k => (slices_Insert_impl_Route_impl_Route.f k (l.filter (notAt a n)) i [(a, n, g)]).bind fun r4 => (impl_RoutesOk.f k l).bind fun r5 => (bif (!r5) then (impl_copyRoutes.f k l).bind fun r6 => some (r6, false) else (impl_RoutesOk.f k r4).bind fun r7 => (bif (!r7) then (impl_copyRoutes.f k l).bind fun r8 => some (r8, false) else some (r4, true)))) (· = putM l a n g) := by
  have hfl := List.length_filter_le (notAt a n) l
  simp only [ins_rte _ _ _ _ hi (by omega), Option.bind_some]
  unfold putM
  refine T_bind (impl_RoutesOk.ev l (by omega)) fun r hr => ?_
  cases r with
  | false => rw [if_neg fun c => by have := hr.2 c.1; cases this]; exact T_true rfl (T_bindE (impl_copyRoutes.ev l hl) (T_ret rfl))
  | true =>
    have hR := hr.1 rfl
    obtain ⟨s1, s2⟩ := put_split (F := l.filter (notAt a n)) (List.Pairwise.filter _ (rtes_pair hR)) (fun x hx => (List.mem_filter.1 hx).2) hi h1 h2
    have e : (l.filter (notAt a n)).take i ++ [(a, n, g)] ++ (l.filter (notAt a n)).drop i = putO l a n g := by
      unfold putO
      rw [← s1, ← s2, filt_not l ahd_not, filt_not l bhd_not]
    rw [e]
    have hol : (putO l a n g).length ≤ 1048600 := by rw [← e]; simp only [List.length_append, List.length_take, List.length_drop, List.length_singleton]; omega
    refine T_false rfl (T_bind (impl_RoutesOk.ev _ hol) fun r hr' => ?_)
    cases r with
    | false => rw [if_neg fun c => by have := hr'.2 c.2; cases this]; exact T_true rfl (T_bindE (impl_copyRoutes.ev l hl) (T_ret rfl))
    | true => rw [if_pos ⟨hR, hr'.1 rfl⟩]; exact T_false rfl (T_ret rfl)
theorem impl_PutRoute.ev (l : List Rte) (a n g : Int) (hl : l.length ≤ 1048576) : Tells F0 (fun k => impl_PutRoute.f k l a n g) (· = putM l a n g) := by
  have hfl := List.length_filter_le (notAt a n) l
  unfold impl_PutRoute.f
  refine T_bindE (impl_withoutPrefix.ev l a n hl) ?_
  have hb := @put_fin l a n g hl
  generalize hF : l.filter (notAt a n) = F at hb hfl
  have h := T_loops (F := F0) (fun k j (_ : Unit) i => impl_PutRoute.l0 k j ((i : Int), l, a, n, g, F)) F.length (fun i _ => ∀ j (h : j < F.length), j < i → aheadP (F[j]).1 (F[j]).2.1 a n) (fun _ _ r => r = putM l a n g) (fun i s hi hj he => by
    dsimp only [impl_PutRoute.l0, impl_PutRoute.s0]
    simp only [Int.toNat_natCast]
    rw [wrs hi (by omega)]
    refine T_pos (by omega) (T_get hi (T_bind (T_call (comparePrefixes.ev _ _ _ _) Prod.fst (fun _ _ h => h.1)) fun r hr => T_dec (fun e => he () fun j h h' => ?_) fun e => T_call (hb i (by omega) hj fun _ => hr.1 (by omega)) Prod.fst (fun _ _ h => h.1)))
    by_cases e' : j = i
    · subst e'; exact Classical.byContradiction fun c => by have := hr.2 c; omega
    · exact hj j h (by omega)) (fun s hj => by
    dsimp only [impl_PutRoute.l0, impl_PutRoute.s0]
    exact T_neg (by omega) (T_call (hb F.length (by omega) hj fun h => absurd h (by omega)) Prod.fst (fun _ _ h => h.1))) 0 () (Nat.zero_le _) (fun j _ h => absurd h (by omega))
  exact T_in (g := fun x j => impl_PutRoute.l0 x j _) (by simpa using h) (fun k => k) (fun _ _ h => h)
theorem spec_PutRoute.ev (l : List Rte) (a n g : Int) (hl : l.length ≤ 1048576) : Tells F0 (fun k => spec_PutRoute.f k l a n g) (· = putM l a n g) := by
  have h2 := T_loop (F := F0) (fun k j i => spec_PutRoute.l2 k j ((i : Int), l, a, n, g, l.filter (ahd a n) ++ [(a, n, g)] ++ (l.take i).filter (bhd a n))) l.length (fun _ r => r = putM l a n g) (fun i hi he => by
    dsimp only [spec_PutRoute.l2, spec_PutRoute.s2]
    simp only [Int.toNat_natCast]
    rw [wrs hi (by omega)]
    rw [take_filter_succ _ _ _ hi] at he
    have g1 := filter_len_take (bhd a n) l i
    have g2 := List.length_filter_le (ahd a n) l
    simp only [ahead_eq, Option.bind_some]
    refine T_pos (by omega) (T_get hi (T_dec (fun e => T_get hi (T_pos ?_ ?_)) fun e => ?_))
    · simp only [List.length_append, List.length_singleton]; omega
    · rw [if_pos (show bhd a n l[i] = true from decide_eq_true e), ← List.append_assoc] at he; exact he
    · rw [if_neg (by rw [show bhd a n l[i] = false from decide_eq_false e]; simp), List.append_nil] at he; exact he) (by
    dsimp only [spec_PutRoute.l2, spec_PutRoute.s2]
    have g1 := List.length_filter_le (bhd a n) l
    have g2 := List.length_filter_le (ahd a n) l
    rw [List.take_length]
    refine T_neg (by omega) (T_bind (T_call (spec_RoutesOk.ev l (by omega)) Prod.fst (fun _ _ h => h.1)) fun r hr => ?_)
    unfold putM
    cases r with
    | false => rw [if_neg fun c => by have := hr.2 c.1; cases this]; exact T_true rfl (T_pos (by simp; omega) (T_ret rfl))
    | true =>
      have hR := hr.1 rfl
      have h12 := hR.2
      refine T_false rfl (T_bind (T_call (spec_RoutesOk.ev (putO l a n g) (by unfold putO; simp only [List.length_append, List.length_singleton]; omega)) Prod.fst (fun _ _ h => h.1)) fun r hr' => ?_)
      cases r with
      | false => rw [if_neg fun c => by have := hr'.2 c.2; cases this]; exact T_true rfl (T_pos (by simp; omega) (T_ret rfl))
      | true => rw [if_pos ⟨hR, hr'.1 rfl⟩]; exact T_false rfl (T_ret rfl)) 0 (Nat.zero_le _)
  have h := T_loop (F := F0) (fun k j i => spec_PutRoute.l0 k j ((i : Int), l, a, n, g, (l.take i).filter (ahd a n))) l.length (fun _ r => r = putM l a n g) (fun i hi he => by
    dsimp only [spec_PutRoute.l0, spec_PutRoute.s0]
    simp only [Int.toNat_natCast]
    rw [wrs hi (by omega)]
    rw [take_filter_succ _ _ _ hi] at he
    have g1 := filter_len_take (ahd a n) l i
    simp only [ahead_eq, Option.bind_some]
    refine T_pos (by omega) (T_get hi (T_dec (fun e => T_get hi (T_pos ?_ ?_)) fun e => ?_))
    · simp only [List.length_singleton]; omega
    · rw [if_pos (show ahd a n l[i] = true from decide_eq_true e)] at he; exact he
    · rw [if_neg (by rw [show ahd a n l[i] = false from decide_eq_false e]; simp), List.append_nil] at he; exact he) (by
    dsimp only [spec_PutRoute.l0, spec_PutRoute.s0]
    have g2 := List.length_filter_le (ahd a n) l
    rw [List.take_length]
    refine T_neg (by omega) (T_pos (by simp only [List.length_singleton]; omega) ?_)
    exact T_call (T_in (g := fun x j => spec_PutRoute.l2 x j _) (by simpa using h2) (fun k => k) (fun _ _ h => h)) Prod.fst (fun _ _ h => h.1)) 0 (Nat.zero_le _)
  unfold spec_PutRoute.f
  exact T_in (g := fun x j => spec_PutRoute.l0 x j _) (by simpa using h) (fun k => k) (fun _ _ h => h)


theorem FnExactPutRoute : laws_FnExactPutRoute.Goal := by
  intro a0 a1_0 a1_1 a1_2 g_a0 g_a1_0 g_a1_1 g_a1_2
  replace g_a0 : a0.length ≤ maxLen ∧ True := ⟨g_a0.1, trivial⟩
  replace g_a1_0 := wf64 g_a1_0
  replace g_a1_1 := wf64 g_a1_1
  replace g_a1_2 := wf64 g_a1_2
  refine Tells.rounds ?_
  unfold laws_FnExactPutRoute.f
  refine T_bind (laws_szRouteS.ev a0 _ (by omega) (by omega) g_a0.1) fun v1 q1 => T_dec (fun _ => T_ret rfl) fun e1 => ?_
  obtain ⟨_, _, z_a0⟩ := q1.resolve_left (by omega)
  have b0 : (putM a0 a1_0 a1_1 a1_2).1.length ≤ 1048576 := put_len _ _ _ _ z_a0
  refine T_bindE (laws_toRouteS.ev a0 z_a0) ?_
  try simp only [laws_toRoute.one, Option.bind_some]
  refine T_bindE (spec_PutRoute.ev a0 a1_0 a1_1 a1_2 z_a0) ?_
  refine T_bindE (laws_toRouteS.ev a0 z_a0) ?_
  try simp only [laws_toRoute.one, Option.bind_some]
  refine T_bindE (impl_PutRoute.ev a0 a1_0 a1_1 a1_2 z_a0) ?_
  refine T_bindE (laws_eqRouteS.ev _ (by omega)) ?_
  refine T_same rfl ?_
  refine T_same (by simp) ?_
  refine T_bindE (laws_toRouteS.ev a0 z_a0) ?_
  refine T_bindE (laws_eqRouteS.ev a0 (by omega)) ?_
  refine T_same rfl ?_
  refine T_bindE (laws_markRouteS.ev a0 (1) (by omega)) ?_
  refine T_neg (by omega) ?_
  refine T_bindE (laws_eqRouteS.ev _ (by omega)) ?_
  refine T_same rfl ?_
  refine T_same (by simp) ?_
  refine T_bindE (laws_markRouteS.ev _ 1 ?_) ?_
  · omega
  refine T_bindE (laws_heldRouteS.ev _ 1 ?_) ?_
  · omega
  refine T_neg (by omega) ?_
  refine T_same (by simp) ?_
  refine T_bindE (laws_toRouteS.ev a0 z_a0) ?_
  try simp only [laws_toRoute.one, Option.bind_some]
  refine T_bindE (impl_PutRoute.ev a0 a1_0 a1_1 a1_2 z_a0) ?_
  refine T_bindE (laws_eqRouteS.ev _ (by omega)) ?_
  refine T_same rfl ?_
  refine T_same (by simp) ?_
  refine T_bindE (laws_heldRouteS.ev _ 1 ?_) ?_
  · omega
  refine T_neg (by omega) ?_
  refine T_same (by simp) ?_
  exact T_ret rfl
end Go.Proofs.Ytbddppnhpapfkaa.DI.Pure
