/- FnExactTrieOf, the plain part: from some fuel on the law answers true. -/
import Derived.Test.YtbddppnhpapfkaaGoalFnExactTrieOf
import Derived.Test.YtbddppnhpapfkaaKITE
namespace Go.Proofs.Ytbddppnhpapfkaa.DI.Pure
open Go Go.RowKit
set_option linter.unusedVariables false
set_option linter.unusedSimpArgs false
theorem laws_szRouteS.ev (l : List (Int × Int × Int)) (a : Int) (h0 : 0 ≤ a) (h1 : a ≤ 1048576) (hl : l.length ≤ maxLen) : Tells F0 (fun k => laws_szRouteS.f k l a) (fun v => v < 0 ∨ (0 ≤ v ∧ v ≤ a ∧ l.length ≤ 1048576)) := by
  unfold maxLen at hl
  unfold laws_szRouteS.f
  rw [wr64 (x := a - (l.length : Int)) (by omega) (by omega)]
  exact T_dec (fun _ => T_ret (.inl (by omega))) (fun h => T_ret (.inr ⟨by omega, by omega, by omega⟩))
theorem laws_toPrefix.one (k : Nat) (c0 : Int) (c1 : Int) : laws_toPrefix.f k c0 c1 = some (c0, c1) := rfl
theorem laws_toRoute.one (k : Nat) (c0 : Int) (c1 : Int) (c2 : Int) : laws_toRoute.f k c0 c1 c2 = some (c0, c1, c2) := rfl
theorem laws_toRouteS.ev (l : List (Int × Int × Int)) (hn : l.length ≤ 1048576) : Tells F0 (fun k => laws_toRouteS.f k l) (· = l) := by
  have h := T_loop (F := F0) (fun k j i => laws_toRouteS.l0 k j ((i : Int), l, l.take i ++ List.replicate (l.length - i) ((0 : Int), (0 : Int), (0 : Int)))) l.length (fun _ r => r = l) (fun i hi he => by
    dsimp only [laws_toRouteS.l0, laws_toRouteS.s0]
    simp only [laws_toRoute.one, Int.toNat_natCast, Option.bind_some]
    refine T_pos (by omega) (T_get hi (T_get (by simp; omega) ?_))
    rw [wrs hi (by omega)]
    have e := set_copy l ((0 : Int), (0 : Int), (0 : Int)) i hi
    refine T_eq (fun x => congrArg (fun q => laws_toRouteS.l0 x.1 x.2 (((i + 1 : Nat) : Int), l, q)) e) he) (by
    dsimp only [laws_toRouteS.l0, laws_toRouteS.s0]
    exact T_neg (by omega) (T_ret (by simp))) 0 (Nat.zero_le _)
  unfold laws_toRouteS.f
  refine T_and (by omega) (by omega) (T_in (g := fun x j => laws_toRouteS.l0 x j _) ?_ (fun k => k) (fun _ _ h => h))
  simpa using h
theorem laws_eqTwig.refl (k : Nat) (c0 : Int) (c1 : Int) (c2 : Int) : laws_eqTwig.f k c0 c1 c2 c0 c1 c2 = some true := by simp [laws_eqTwig.f]
theorem laws_eqTwigS.ev (l : List (Int × Int × Int)) (hn : l.length ≤ 1000000000000000000) : Tells F0 (fun k => laws_eqTwigS.f k l l) (· = true) := by
  have h := T_loop (F := F0) (fun k j i => laws_eqTwigS.l0 k j ((i : Int), l, l)) l.length (fun _ r => r = true) (fun i hi he => by
    dsimp only [laws_eqTwigS.l0, laws_eqTwigS.s0]
    simp only [Int.toNat_natCast]
    refine T_pos (by omega) (T_get hi (T_get hi ?_))
    simp only [laws_eqTwig.refl, Option.bind_some]
    refine T_same rfl ?_
    rw [wrs hi (by omega)]
    exact he) (by
    dsimp only [laws_eqTwigS.l0, laws_eqTwigS.s0]
    exact T_neg (by omega) (T_ret rfl)) 0 (Nat.zero_le _)
  unfold laws_eqTwigS.f
  exact T_same (by simp) (T_in (g := fun x j => laws_eqTwigS.l0 x j _) h (fun k => k) (fun _ _ h => h))
theorem laws_eqTrie.ev (c0 : List (Int × Int × Int)) (h0 : c0.length ≤ 1000000000000000000) : Tells F0 (fun k => laws_eqTrie.f k c0 c0) (· = true) := by
  unfold laws_eqTrie.f
  refine T_bindE (laws_eqTwigS.ev _ h0) ?_
  refine T_same rfl ?_
  exact T_ret rfl
theorem laws_eqPrefix.refl (k : Nat) (c0 : Int) (c1 : Int) : laws_eqPrefix.f k c0 c1 c0 c1 = some true := by simp [laws_eqPrefix.f]
theorem laws_eqRoute.refl (k : Nat) (c0 : Int) (c1 : Int) (c2 : Int) : laws_eqRoute.f k c0 c1 c2 c0 c1 c2 = some true := by simp [laws_eqRoute.f, laws_eqPrefix.refl]
theorem laws_eqRouteS.ev (l : List (Int × Int × Int)) (hn : l.length ≤ 1000000000000000000) : Tells F0 (fun k => laws_eqRouteS.f k l l) (· = true) := by
  have h := T_loop (F := F0) (fun k j i => laws_eqRouteS.l0 k j ((i : Int), l, l)) l.length (fun _ r => r = true) (fun i hi he => by
    dsimp only [laws_eqRouteS.l0, laws_eqRouteS.s0]
    simp only [Int.toNat_natCast]
    refine T_pos (by omega) (T_get hi (T_get hi ?_))
    simp only [laws_eqRoute.refl, Option.bind_some]
    refine T_same rfl ?_
    rw [wrs hi (by omega)]
    exact he) (by
    dsimp only [laws_eqRouteS.l0, laws_eqRouteS.s0]
    exact T_neg (by omega) (T_ret rfl)) 0 (Nat.zero_le _)
  unfold laws_eqRouteS.f
  exact T_same (by simp) (T_in (g := fun x j => laws_eqRouteS.l0 x j _) h (fun k => k) (fun _ _ h => h))
def mkd_Route (n m : Nat) : List (Int × Int × Int) := (List.range m).map fun i => (((n + 3 * i + 0 : Nat) : Int), ((n + 3 * i + 1 : Nat) : Int), ((n + 3 * i + 2 : Nat) : Int))
theorem laws_markRouteS.ev (l : List (Int × Int × Int)) (n : Nat) (hb : n + 3 * l.length ≤ 1000000000000000000) : Tells F0 (fun k => laws_markRouteS.f k l (n : Int)) (· = (((n + 3 * l.length : Nat) : Int), mkd_Route n l.length)) := by
  have hM : (mkd_Route n l.length).length = l.length := by simp [mkd_Route]
  have h := T_loop (F := F0) (fun k j i => laws_markRouteS.l0 k j (((n + 3 * i : Nat) : Int), (i : Int), (mkd_Route n l.length).take i ++ l.drop i)) l.length (fun _ r => r = (((n + 3 * l.length : Nat) : Int), mkd_Route n l.length)) (fun i hi he => by
    have hv : (mkd_Route n l.length)[i]? = some (((n + 3 * i + 0 : Nat) : Int), ((n + 3 * i + 1 : Nat) : Int), ((n + 3 * i + 2 : Nat) : Int)) := by simp [mkd_Route, hi]
    have hs := mark_step (mkd_Route n l.length) l i _ hM hi hv
    have hL : i < ((mkd_Route n l.length).take i ++ l.drop i).length := by simp; omega
    have w0 : IntKind.i64.wrap (((n + 3 * i : Nat) : Int) + 1) = ((n + 3 * i + 1 : Nat) : Int) := by rw [wr64 (by omega) (by omega)]; omega
    have w1 : IntKind.i64.wrap (((n + 3 * i + 1 : Nat) : Int) + 1) = ((n + 3 * i + 2 : Nat) : Int) := by rw [wr64 (by omega) (by omega)]; omega
    have w2 : IntKind.i64.wrap (((n + 3 * i + 2 : Nat) : Int) + 1) = ((n + 3 * (i + 1) : Nat) : Int) := by rw [wr64 (by omega) (by omega)]; omega
    dsimp only [laws_markRouteS.l0, laws_markRouteS.s0]
    simp only [Int.toNat_natCast, w0, w1, w2, wrs hi (show l.length ≤ 9223372036854775807 by omega)]
    refine T_pos (by omega) ?_
    refine T_get hL ?_
    refine T_got (by simpa using hL) ?_
    refine T_got (by simpa using hL) ?_
    refine T_eq (fun x => congrArg (fun q => laws_markRouteS.l0 x.1 x.2 (((n + 3 * (i + 1) : Nat) : Int), ((i + 1 : Nat) : Int), q)) ?_) he
    try simp only [List.set_set]
    exact hs) (by
    dsimp only [laws_markRouteS.l0, laws_markRouteS.s0]
    refine T_neg (by simp; omega) (T_ret ?_)
    rw [List.take_of_length_le (by omega), List.drop_length, List.append_nil]) 0 (Nat.zero_le _)
  unfold laws_markRouteS.f
  refine T_in (g := fun x j => laws_markRouteS.l0 x j _) ?_ (fun k => k) (fun _ _ h => h)
  simpa using h
def mkd_Twig (n m : Nat) : List (Int × Int × Int) := (List.range m).map fun i => (((n + 3 * i + 0 : Nat) : Int), ((n + 3 * i + 1 : Nat) : Int), ((n + 3 * i + 2 : Nat) : Int))
theorem laws_markTwigS.ev (l : List (Int × Int × Int)) (n : Nat) (hb : n + 3 * l.length ≤ 1000000000000000000) : Tells F0 (fun k => laws_markTwigS.f k l (n : Int)) (· = (((n + 3 * l.length : Nat) : Int), mkd_Twig n l.length)) := by
  have hM : (mkd_Twig n l.length).length = l.length := by simp [mkd_Twig]
  have h := T_loop (F := F0) (fun k j i => laws_markTwigS.l0 k j (((n + 3 * i : Nat) : Int), (i : Int), (mkd_Twig n l.length).take i ++ l.drop i)) l.length (fun _ r => r = (((n + 3 * l.length : Nat) : Int), mkd_Twig n l.length)) (fun i hi he => by
    have hv : (mkd_Twig n l.length)[i]? = some (((n + 3 * i + 0 : Nat) : Int), ((n + 3 * i + 1 : Nat) : Int), ((n + 3 * i + 2 : Nat) : Int)) := by simp [mkd_Twig, hi]
    have hs := mark_step (mkd_Twig n l.length) l i _ hM hi hv
    have hL : i < ((mkd_Twig n l.length).take i ++ l.drop i).length := by simp; omega
    have w0 : IntKind.i64.wrap (((n + 3 * i : Nat) : Int) + 1) = ((n + 3 * i + 1 : Nat) : Int) := by rw [wr64 (by omega) (by omega)]; omega
    have w1 : IntKind.i64.wrap (((n + 3 * i + 1 : Nat) : Int) + 1) = ((n + 3 * i + 2 : Nat) : Int) := by rw [wr64 (by omega) (by omega)]; omega
    have w2 : IntKind.i64.wrap (((n + 3 * i + 2 : Nat) : Int) + 1) = ((n + 3 * (i + 1) : Nat) : Int) := by rw [wr64 (by omega) (by omega)]; omega
    dsimp only [laws_markTwigS.l0, laws_markTwigS.s0]
    simp only [Int.toNat_natCast, w0, w1, w2, wrs hi (show l.length ≤ 9223372036854775807 by omega)]
    refine T_pos (by omega) ?_
    refine T_get hL ?_
    refine T_got (by simpa using hL) ?_
    refine T_got (by simpa using hL) ?_
    refine T_eq (fun x => congrArg (fun q => laws_markTwigS.l0 x.1 x.2 (((n + 3 * (i + 1) : Nat) : Int), ((i + 1 : Nat) : Int), q)) ?_) he
    try simp only [List.set_set]
    exact hs) (by
    dsimp only [laws_markTwigS.l0, laws_markTwigS.s0]
    refine T_neg (by simp; omega) (T_ret ?_)
    rw [List.take_of_length_le (by omega), List.drop_length, List.append_nil]) 0 (Nat.zero_le _)
  unfold laws_markTwigS.f
  refine T_in (g := fun x j => laws_markTwigS.l0 x j _) ?_ (fun k => k) (fun _ _ h => h)
  simpa using h
theorem laws_markTrie.ev (c0 : List (Int × Int × Int)) (n : Nat) (hb : n + 3 * c0.length ≤ 1000000000000000000) : Tells F0 (fun k => laws_markTrie.f k c0 (n : Int)) (· = (((n + 3 * c0.length : Nat) : Int), mkd_Twig n c0.length)) := by
  unfold laws_markTrie.f
  refine T_bindE (laws_markTwigS.ev _ n (by omega)) ?_
  exact T_ret rfl
theorem laws_heldTwigS.ev (m n : Nat) (hb : n + 3 * m ≤ 1000000000000000000) : Tells F0 (fun k => laws_heldTwigS.f k (mkd_Twig n m) (n : Int)) (· = ((n + 3 * m : Nat) : Int)) := by
  have hM : (mkd_Twig n m).length = m := by simp [mkd_Twig]
  have h := T_loop (F := F0) (fun k j i => laws_heldTwigS.l0 k j (((n + 3 * i : Nat) : Int), (i : Int), mkd_Twig n m)) m (fun _ r => r = ((n + 3 * m : Nat) : Int)) (fun i hi he => by
    have hL : i < (mkd_Twig n m).length := by omega
    have hv : (mkd_Twig n m)[i] = (((n + 3 * i + 0 : Nat) : Int), ((n + 3 * i + 1 : Nat) : Int), ((n + 3 * i + 2 : Nat) : Int)) := by simp [mkd_Twig]
    have w0 : IntKind.i64.wrap (((n + 3 * i : Nat) : Int) + 1) = ((n + 3 * i + 1 : Nat) : Int) := by rw [wr64 (by omega) (by omega)]; omega
    have w1 : IntKind.i64.wrap (((n + 3 * i + 1 : Nat) : Int) + 1) = ((n + 3 * i + 2 : Nat) : Int) := by rw [wr64 (by omega) (by omega)]; omega
    have w2 : IntKind.i64.wrap (((n + 3 * i + 2 : Nat) : Int) + 1) = ((n + 3 * (i + 1) : Nat) : Int) := by rw [wr64 (by omega) (by omega)]; omega
    dsimp only [laws_heldTwigS.l0, laws_heldTwigS.s0]
    simp only [Int.toNat_natCast, w0, w1, w2, wrs hi (show m ≤ 9223372036854775807 by omega)]
    refine T_pos (by omega) ?_
    refine T_get hL ?_; rw [hv]; (try dsimp only)
    refine T_same ?_ ?_
    · simp
    refine T_get hL ?_; rw [hv]; (try dsimp only)
    refine T_same ?_ ?_
    · simp
    refine T_get hL ?_; rw [hv]; (try dsimp only)
    refine T_same ?_ ?_
    · simp
    exact he) (by
    dsimp only [laws_heldTwigS.l0, laws_heldTwigS.s0]
    exact T_neg (by omega) (T_ret rfl)) 0 (Nat.zero_le _)
  unfold laws_heldTwigS.f
  exact T_in (g := fun x j => laws_heldTwigS.l0 x j _) (by simpa using h) (fun k => k) (fun _ _ h => h)
theorem laws_heldTrie.ev  (m0 n : Nat) (hb : n + 3 * m0 ≤ 1000000000000000000) : Tells F0 (fun k => laws_heldTrie.f k (mkd_Twig n m0) (n : Int)) (· = ((n + 3 * m0 : Nat) : Int)) := by
  unfold laws_heldTrie.f
  refine T_bindE (laws_heldTwigS.ev m0 n (by omega)) ?_
  refine T_neg (by omega) ?_
  exact T_ret rfl
theorem in_eq (k : Nat) (n a b : Int) : spec_l01In.f k n a b = some (decide (a ≤ n ∧ n ≤ b)) := by
  unfold spec_l01In.f
  by_cases h : n ≥ a <;> by_cases h' : n ≤ b <;> simp [h, h'] <;> omega
theorem within_eq (k : Nat) (n a b : Int) : impl_within.f k n a b = some (decide (a ≤ n ∧ n ≤ b)) := by
  unfold impl_within.f
  by_cases h : n ≥ a <;> by_cases h' : n ≤ b <;> simp [h, h'] <;> omega

def PfxP (a n : Int) : Prop := (0 ≤ a ∧ a ≤ 4294967295) ∧ (0 ≤ n ∧ n ≤ 32) ∧ a % 2 ^ (32 - n).toNat = 0
def InP (p n a : Int) : Prop := PfxP p n ∧ (0 ≤ a ∧ a ≤ 4294967295) ∧ a - a % 2 ^ (32 - n).toNat = p
instance decPfxP (a n : Int) : Decidable (PfxP a n) := by unfold PfxP; infer_instance
instance decInP (p n a : Int) : Decidable (InP p n a) := by unfold InP; infer_instance
theorem pow_rng (m : Nat) (h : m ≤ 32) : (1 : Int) ≤ 2 ^ m ∧ (2 : Int) ^ m ≤ 4294967296 := by
  have h1 : 2 ^ m ≤ 2 ^ 32 := Nat.pow_le_pow_right (by decide) h
  have h2 : 1 ≤ 2 ^ m := Nat.one_le_two_pow
  have e : ((2 ^ m : Nat) : Int) = (2 : Int) ^ m := by simp
  omega
theorem mask_nat (i : Nat) : ((2 : Int) ^ i - 1) = ((2 ^ i - 1 : Nat) : Int) := by
  have hpn : 1 ≤ 2 ^ i := Nat.one_le_two_pow
  rw [Int.natCast_sub hpn]; simp
theorem bv_nat (a : Nat) (h : a < 18446744073709551616) : (BitVec.ofInt IntKind.i64.bits (a : Int)).toNat = a := by
  show (BitVec.ofInt 64 (a : Int)).toNat = a
  rw [BitVec.ofInt_natCast, BitVec.toNat_ofNat, Nat.mod_eq_of_lt h]
theorem and_mask (i : Nat) (hi : i ≤ 32) (x : Int) (h₀ : 0 ≤ x) (h₁ : x ≤ 4294967295) : (((BitVec.ofInt IntKind.i64.bits x) &&& (BitVec.ofInt IntKind.i64.bits (2 ^ i - 1))).toNat : Int) = x % 2 ^ i := by
  obtain ⟨a, rfl⟩ := Int.eq_ofNat_of_zero_le h₀
  have hb : 2 ^ i ≤ 2 ^ 32 := Nat.pow_le_pow_right (by decide) hi
  rw [mask_nat, BitVec.toNat_and, bv_nat a (by omega), bv_nat _ (by omega), Nat.and_two_pow_sub_one_eq_mod]
  simp
theorem andNot_mask (i : Nat) (hi : i ≤ 32) (x : Int) (h₀ : 0 ≤ x) (h₁ : x ≤ 4294967295) : (((BitVec.ofInt IntKind.i64.bits x) &&& ~~~(BitVec.ofInt IntKind.i64.bits (2 ^ i - 1))).toNat : Int) = x - x % 2 ^ i := by
  have e1 := and_mask i hi x h₀ h₁
  obtain ⟨a, rfl⟩ := Int.eq_ofNat_of_zero_le h₀
  have hb : 2 ^ i ≤ 2 ^ 32 := Nat.pow_le_pow_right (by decide) hi
  have e2 : (BitVec.ofInt IntKind.i64.bits (a : Int) &&& BitVec.ofInt IntKind.i64.bits (2 ^ i - 1)) + (BitVec.ofInt IntKind.i64.bits (a : Int) &&& ~~~ (BitVec.ofInt IntKind.i64.bits (2 ^ i - 1))) = BitVec.ofInt IntKind.i64.bits (a : Int) := by
    generalize BitVec.ofInt IntKind.i64.bits (a : Int) = u
    generalize BitVec.ofInt IntKind.i64.bits (2 ^ i - 1) = v
    rw [BitVec.add_eq_or_of_and_eq_zero]
    · ext j h
      simp
      cases (u[j]) <;> simp
    · ext j h
      simp
      cases (u[j]) <;> simp
  have e3 := congrArg BitVec.toNat e2
  rw [BitVec.toNat_add, bv_nat a (by omega)] at e3
  have h4 : (BitVec.ofInt IntKind.i64.bits (a : Int) &&& ~~~ (BitVec.ofInt IntKind.i64.bits (2 ^ i - 1))).toNat ≤ a := by
    rw [BitVec.toNat_and, bv_nat a (by omega)]
    exact Nat.and_le_left
  have h5 : (a : Int) % 2 ^ i ≤ a := by
    have : ((a % 2 ^ i : Nat) : Int) = (a : Int) % 2 ^ i := by simp
    have := Nat.mod_le a (2 ^ i)
    omega
  have h6 : 0 ≤ (a : Int) % 2 ^ i := Int.emod_nonneg _ (by have := pow_rng i hi; omega)
  have e4 : (2 : Nat) ^ IntKind.i64.bits = 18446744073709551616 := by decide
  rw [e4] at e3
  rw [Nat.mod_eq_of_lt (by omega)] at e3
  omega
theorem or_mask (i : Nat) (hi : i ≤ 32) (x : Int) (h₀ : 0 ≤ x) (h₁ : x ≤ 4294967295) (hm : x % 2 ^ i = 0) : (((BitVec.ofInt IntKind.i64.bits x) ||| (BitVec.ofInt IntKind.i64.bits (2 ^ i - 1))).toNat : Int) = x + 2 ^ i - 1 := by
  obtain ⟨a, rfl⟩ := Int.eq_ofNat_of_zero_le h₀
  have hb : 2 ^ i ≤ 2 ^ 32 := Nat.pow_le_pow_right (by decide) hi
  have hpn : 1 ≤ 2 ^ i := Nat.one_le_two_pow
  have hmn : a % 2 ^ i = 0 := by
    have : ((a % 2 ^ i : Nat) : Int) = (a : Int) % 2 ^ i := by simp
    omega
  have hd : a = 2 ^ i * (a / 2 ^ i) := by have := Nat.div_add_mod a (2 ^ i); omega
  rw [mask_nat, BitVec.toNat_or, bv_nat a (by omega), bv_nat _ (by omega), hd, ← Nat.two_pow_add_eq_or_of_lt (by omega : 2 ^ i - 1 < 2 ^ i)]
  rw [← hd]
  have : ((2 ^ i : Nat) : Int) = (2 : Int) ^ i := by simp
  omega
theorem impl_AddrOk_eq (k : Nat) (a : Int) : impl_AddrOk.f k a = some (decide (0 ≤ a ∧ a ≤ 4294967295)) := by
  unfold impl_AddrOk.f
  rw [within_eq]; rfl
theorem spec_AddrOk_eq (k : Nat) (a : Int) : spec_AddrOk.f k a = some (decide (0 ≤ a ∧ a ≤ 4294967295)) := by
  unfold spec_AddrOk.f
  rw [in_eq]; rfl
theorem lastBits_eq (k : Nat) (n : Int) (h0 : 0 ≤ n) (h1 : n ≤ 32) : impl_lastBits.f k n = some (2 ^ (32 - n).toNat - 1) := by
  unfold impl_lastBits.f
  have hp := pow_rng (32 - n).toNat (by omega)
  rw [wr64 (x := 32 - n) (by omega) (by omega), show min (32 - n).toNat IntKind.i64.bits = (32 - n).toNat from Nat.min_eq_left (by show _ ≤ 64; omega), Int.one_mul, wr64 (x := 2 ^ (32 - n).toNat) (by omega) (by omega), wr64 (by omega) (by omega)]
  have : decide (32 - n < 0) = false := decide_eq_false (by omega)
  rw [this]; rfl
theorem impl_PrefixOk_eq (k : Nat) (a n : Int) : impl_PrefixOk.f k a n = some (decide (PfxP a n)) := by
  unfold impl_PrefixOk.f
  simp only [impl_AddrOk_eq, within_eq, Option.bind_some]
  by_cases h1 : 0 ≤ a ∧ a ≤ 4294967295
  · by_cases h2 : 0 ≤ n ∧ n ≤ 32
    · have hp := pow_rng (32 - n).toNat (by omega)
      have hm0 := Int.emod_nonneg a (show (2 : Int) ^ (32 - n).toNat ≠ 0 by omega)
      have hm1 := Int.emod_lt_of_pos a (show (0 : Int) < 2 ^ (32 - n).toNat by omega)
      rw [decide_eq_true h1, decide_eq_true h2]
      simp only [cond_true, lastBits_eq k n h2.1 h2.2, Option.bind_some]
      rw [and_mask _ (by omega) a h1.1 h1.2, wr64 (by omega) (by omega)]
      congr 1
      by_cases h3 : a % 2 ^ (32 - n).toNat = 0
      · rw [decide_eq_true (show PfxP a n from ⟨h1, h2, h3⟩)]; simp [h3]
      · rw [decide_eq_false (show ¬ PfxP a n from fun c => h3 c.2.2)]; simp [h3]
    · rw [decide_eq_true h1, decide_eq_false h2, decide_eq_false (show ¬ PfxP a n from fun c => h2 c.2.1)]; rfl
  · rw [decide_eq_false h1, decide_eq_false (show ¬ PfxP a n from fun c => h1 c.1)]; rfl
theorem spec_l08Size.ev (n : Int) (h0 : 0 ≤ n) (h1 : n ≤ 32) : Tells F0 (fun k => spec_l08Size.f k n) (· = 2 ^ (32 - n).toNat) := by
  obtain ⟨m, rfl⟩ := Int.eq_ofNat_of_zero_le h0
  have hd : ∀ j : Fin 32, IntKind.i64.wrap (2 * 2 ^ j.val) = 2 ^ (j.val + 1) := by decide +kernel
  have h := T_loop (F := F0) (fun k j i => spec_l08Size.l0 k j (2 ^ i, ((m + i : Nat) : Int))) (32 - m) (fun _ r => r = 2 ^ (32 - m)) (fun i hi he => by
    dsimp only [spec_l08Size.l0, spec_l08Size.s0]
    refine T_pos (by omega) ?_
    rw [hd ⟨i, by omega⟩, wrn (by omega)]
    exact he) (by
    dsimp only [spec_l08Size.l0, spec_l08Size.s0]
    exact T_neg (by omega) (T_ret rfl)) 0 (Nat.zero_le _)
  unfold spec_l08Size.f
  rw [show (32 - (m : Int)).toNat = 32 - m by omega]
  exact T_in (g := fun x j => spec_l08Size.l0 x j _) (by simpa using h) (fun k => k) (fun _ _ h => h)
theorem spec_PrefixOk.ev (a n : Int) : Tells F0 (fun k => spec_PrefixOk.f k a n) (· = decide (PfxP a n)) := by
  unfold spec_PrefixOk.f
  simp only [spec_AddrOk_eq, in_eq, Option.bind_some]
  refine T_dec (fun h1 => T_dec (fun h2 => ?_) fun h => T_ret (decide_eq_false fun c => h c.2.1).symm) fun h => T_ret (decide_eq_false fun c => h c.1).symm
  refine T_bindE (spec_l08Size.ev n h2.1 h2.2) ?_
  have hp := pow_rng (32 - n).toNat (by omega)
  refine T_false (by simp; omega) (T_ret ?_)
  rw [Int.tmod_eq_emod_of_nonneg h1.1]
  by_cases h3 : a % 2 ^ (32 - n).toNat = 0
  · rw [decide_eq_true (show PfxP a n from ⟨h1, h2, h3⟩)]; simp [h3]
  · rw [decide_eq_false (show ¬ PfxP a n from fun c => h3 c.2.2)]; simp [h3]
theorem isId_eq (k : Nat) (n : Int) : impl_isId.f k n = some (decide (1 ≤ n ∧ n ≤ 99)) := by
  unfold impl_isId.f
  rw [within_eq]; rfl

theorem T_getv {ι α β : Type} {F : Fu ι} {P : α → Prop} {l : List β} {i : Nat} {v : β} {f : ι → β → Option α} {g : ι → Option α} (h : i < l.length) (hv : l[i]? = some v) (hf : Tells F (fun x => f x v) P) : Tells F (fun x => bif (decide ((0 : Int) ≤ (i : Int)) && decide ((i : Int) < (l.length : Int))) then (l[i]?).bind (f x) else g x) P := by
  refine T_and (by omega) (by omega) ?_
  simp only [hv, Option.bind_some]
  exact hf
abbrev Twg := Int × Int × Int
def rd (u : List Int) (a : Int) : Int := u.getD a.toNat 0
theorem T_rd {ι α : Type} {F : Fu ι} {P : α → Prop} {u : List Int} {a : Int} {f : ι → Int → Option α} {g : ι → Option α} (h0 : 0 ≤ a) (h1 : a < u.length) (hf : Tells F (fun x => f x (rd u a)) P) : Tells F (fun x => bif (decide ((0 : Int) ≤ a) && decide (a < (u.length : Int))) then (u[a.toNat]?).bind (f x) else g x) P := by
  refine T_and h0 h1 ?_
  have : u[a.toNat]? = some (rd u a) := by
    unfold rd
    rw [List.getD_eq_getElem?_getD, List.getElem?_eq_getElem (by omega)]
    rfl
  simp only [this, Option.bind_some]
  exact hf
def bump (u : List Int) (a : Int) : List Int := if a = 0 then u else u.set a.toNat (rd u a + 1)
def upsOf (n : Nat) (t : List Twg) : List Int := t.foldl (fun u x => bump (bump u x.1) x.2.1) (List.replicate n 0)
def Kid (n i : Nat) (a : Int) : Prop := a = 0 ∨ ((i : Int) + 1 ≤ a ∧ a ≤ (n : Int) - 1)
def TwigC (n i : Nat) (x : Twg) : Prop := Kid n i x.1 ∧ Kid n i x.2.1 ∧ (0 ≤ x.2.2 ∧ x.2.2 ≤ 99)
def TrieP (t : List Twg) : Prop := (1 ≤ t.length ∧ t.length ≤ 400) ∧ (∀ i (h : i < t.length), TwigC t.length i t[i]) ∧ ∀ i : Nat, 1 ≤ i → i < t.length → rd (upsOf t.length t) (i : Int) = 1
theorem bump_len (u : List Int) (a : Int) : (bump u a).length = u.length := by unfold bump; split <;> simp
theorem rd_set (u : List Int) (j : Nat) (v a : Int) : rd (u.set j v) a = if j = a.toNat ∧ j < u.length then v else rd u a := by
  unfold rd
  simp only [List.getD_eq_getElem?_getD, List.getElem?_set]
  by_cases h : j = a.toNat
  · subst h
    by_cases h2 : a.toNat < u.length
    · simp [h2]
    · simp [h2]
  · simp [h]
theorem bump_rd_ne (u : List Int) (a b : Int) (h : a.toNat ≠ b.toNat ∨ a = 0) : rd (bump u a) b = rd u b := by
  unfold bump
  split
  · rfl
  · rw [rd_set, if_neg (fun k => by rcases h with h | h <;> omega)]
theorem bump_rng (u : List Int) (m : Int) (hm : 0 ≤ m) (h : ∀ a, 0 ≤ rd u a ∧ rd u a ≤ m) (b : Int) : ∀ a, 0 ≤ rd (bump u b) a ∧ rd (bump u b) a ≤ m + 1 := by
  intro a
  unfold bump
  split
  · have := h a
    omega
  · rw [rd_set]
    split
    · have := h b
      omega
    · have := h a
      omega
theorem ups_len (n : Nat) (t : List Twg) : (upsOf n t).length = n := by
  unfold upsOf
  have : ∀ (t : List Twg) (u : List Int), (t.foldl (fun u x => bump (bump u x.1) x.2.1) u).length = u.length := by
    intro t
    induction t with
    | nil => intro u; rfl
    | cons x t ih =>
      intro u
      rw [List.foldl_cons, ih, bump_len, bump_len]
  rw [this]
  simp
theorem ups_succ (n : Nat) (t : List Twg) (i : Nat) (h : i < t.length) : upsOf n (t.take (i + 1)) = bump (bump (upsOf n (t.take i)) t[i].1) t[i].2.1 := by
  unfold upsOf
  rw [List.take_succ_eq_append_getElem h, List.foldl_append]
  rfl
theorem ups_rng (n : Nat) (t : List Twg) (i : Nat) (hi : i ≤ t.length) : ∀ a, 0 ≤ rd (upsOf n (t.take i)) a ∧ rd (upsOf n (t.take i)) a ≤ 2 * (i : Int) := by
  induction i with
  | zero =>
    intro a
    have : rd (upsOf n (t.take 0)) a = 0 := by
      simp only [List.take_zero, upsOf, List.foldl_nil, rd, List.getD_eq_getElem?_getD, List.getElem?_replicate]
      split <;> rfl
    omega
  | succ i ih =>
    intro a
    rw [ups_succ n t i (by omega)]
    have := bump_rng _ _ (by omega) (bump_rng _ _ (by omega) (ih (by omega)) (t[i]'(by omega)).1) (t[i]'(by omega)).2.1 a
    omega
/-- Later twigs do not turn an earlier place's number. -/
theorem ups_later (t : List Twg) (hC : ∀ i (h : i < t.length), TwigC t.length i t[i]) (a : Nat) : ∀ d m, m + d = t.length → a < m → rd (upsOf t.length t) (a : Int) = rd (upsOf t.length (t.take m)) (a : Int) := by
  intro d
  induction d with
  | zero =>
    intro m hm _
    rw [List.take_of_length_le (by omega)]
  | succ d ih =>
    intro m hm ha
    have hlt : m < t.length := by omega
    rw [ih (m + 1) (by omega) (by omega), ups_succ _ _ _ hlt]
    obtain ⟨h0, h1, _⟩ := hC m hlt
    have h0' : (t[m]).1.toNat ≠ ((a : Int)).toNat ∨ (t[m]).1 = 0 := by rcases h0 with h0 | h0 <;> omega
    have h1' : (t[m]).2.1.toNat ≠ ((a : Int)).toNat ∨ (t[m]).2.1 = 0 := by rcases h1 with h1 | h1 <;> omega
    rw [bump_rd_ne _ _ _ h1', bump_rd_ne _ _ _ h0']

theorem fold_len : ∀ (c : List Int) (u : List Int), (c.foldl bump u).length = u.length
  | [], u => rfl
  | a :: r, u => by rw [List.foldl_cons, fold_len r, bump_len]
theorem fold_rng : ∀ (c : List Int) (u : List Int) (m : Int), 0 ≤ m → (∀ a, 0 ≤ rd u a ∧ rd u a ≤ m) → ∀ a, 0 ≤ rd (c.foldl bump u) a ∧ rd (c.foldl bump u) a ≤ m + c.length
  | [], u, m, _, h => fun a => by have := h a; simp only [List.foldl_nil, List.length_nil]; omega
  | b :: r, u, m, hm, h => fun a => by
    have := fold_rng r (bump u b) (m + 1) (by omega) (bump_rng u m hm h b) a
    simp only [List.foldl_cons, List.length_cons]
    omega
theorem take_fold (a b : Int) (U : List Int) (m : Nat) (hm : m < 2) : ([a, b].take (m + 1)).foldl bump U = bump (([a, b].take m).foldl bump U) ([a, b][m]'(by simpa using hm)) := by
  rw [List.take_succ_eq_append_getElem (by simpa using hm), List.foldl_append]
  rfl
theorem take_mem (a b : Int) {Q : Int → Prop} {m : Nat} (hm : m < 2) (h : ∀ c ∈ [a, b].take m, Q c) (hc : Q ([a, b][m]'(by simpa using hm))) : ∀ c ∈ [a, b].take (m + 1), Q c := by
  rw [List.take_succ_eq_append_getElem (by simpa using hm)]
  intro c hc'
  rcases List.mem_append.1 hc' with k | k
  · exact h c k
  · rw [List.mem_singleton] at k; rw [k]; exact hc
theorem pair_mem (a b : Int) {m : Nat} (hm : m < 2) : ([a, b][m]'(by simpa using hm)) = a ∨ ([a, b][m]'(by simpa using hm)) = b := by
  obtain rfl | rfl : m = 0 ∨ m = 1 := by omega
  · exact .inl rfl
  · exact .inr rfl
theorem spec_TrieOk.kids {t : List Twg} (hn : t.length ≤ 400) {U : List Int} (hu : U.length = t.length) (hr : ∀ a, 0 ≤ rd U a ∧ rd U a ≤ 10000) {i : Nat} (hi : i < t.length) (a b : Int) {P : Bool → Prop}
    (h1 : Kid t.length i a → Kid t.length i b → Tells (FS F0) (fun x => spec_TrieOk.l0 x.1 x.2 (((i + 1 : Nat) : Int), t, bump (bump U a) b)) P) (h2 : ¬ (Kid t.length i a ∧ Kid t.length i b) → P false) : Tells (FS F0) (fun x => spec_TrieOk.l2 x.1 (spec_TrieOk.l0 x.1 x.2) x.1 ((i : Int), (0 : Int), t, U, [a, b])) P := by
  refine T_in (F := FS F0) (g := fun x j => spec_TrieOk.l2 x.1 (spec_TrieOk.l0 x.1 x.2) j _) (T_loops (F := FS F0) (fun x j (s : List Int) m => spec_TrieOk.l2 x.1 (spec_TrieOk.l0 x.1 x.2) j ((i : Int), (m : Int), t, s, [a, b])) 2 (fun m s => s = ([a, b].take m).foldl bump U ∧ ∀ c ∈ [a, b].take m, Kid t.length i c) (fun _ _ => P) (fun m s hm hs he => ?_) (fun s hs => ?_) 0 U (Nat.zero_le _) ⟨rfl, by simp⟩) Prod.fst (fun _ _ h => h.1)
  · obtain ⟨hs, hk⟩ := hs
    have hsl : s.length = t.length := by rw [hs, fold_len, hu]
    have hsr : ∀ c, 0 ≤ rd s c ∧ rd s c ≤ 20000 := fun c => by
      have := fold_rng ([a, b].take m) U 10000 (by omega) hr c
      have hl : ([a, b].take m).length ≤ 2 := by rw [List.length_take]; simp; omega
      rw [hs]
      omega
    have hc := pair_mem a b hm
    have hf := take_fold a b U m hm
    have ht := fun q => take_mem a b (Q := Kid t.length i) hm hk q
    dsimp only [spec_TrieOk.l2, spec_TrieOk.s2]
    simp only [Int.toNat_natCast]
    rw [wrs hm (by omega)]
    have hm' : m < [a, b].length := by simpa using hm
    generalize hcc : [a, b][m]'hm' = c at hc hf ht
    refine T_pos (by omega) (T_getv hm' (v := c) (by rw [List.getElem?_eq_getElem hm', hcc]) (T_beq (fun e => he s ⟨?_, ht (.inl e)⟩) fun e => T_getv hm' (v := c) (by rw [List.getElem?_eq_getElem hm', hcc]) ?_))
    · rw [hf, ← hs]; unfold bump; rw [if_pos e]
    · rw [wrs hi (by omega), wr64 (x := (t.length : Int) - 1) (by omega) (by omega)]
      simp only [in_eq, Option.bind_some]
      refine T_ndec (fun h3 => T_getv hm' (v := c) (by rw [List.getElem?_eq_getElem hm', hcc]) (T_rd (by omega) (by omega) (T_rd (by omega) (by omega) (he _ ⟨?_, ht (.inr (by omega))⟩)))) fun h3 => T_ret (h2 fun k => h3 ?_)
      · rw [hf, ← hs]
        have := hsr c
        unfold bump
        rw [if_neg e, wr64 (by omega) (by omega)]
      · have : Kid t.length i c := hc.elim (fun e => e ▸ k.1) fun e => e ▸ k.2
        unfold Kid at this
        omega
  · obtain ⟨hs, hk⟩ := hs
    dsimp only [spec_TrieOk.l2, spec_TrieOk.s2]
    rw [wrs hi (by omega)]
    refine T_neg (by omega) ?_
    have := T_lift (h1 (hk a (by simp)) (hk b (by simp)))
    rw [hs]
    exact this
theorem spec_TrieOk.ev (t : List Twg) (hm : t.length ≤ 1048576) : Tells F0 (fun k => spec_TrieOk.f k t) (fun r => r = true ↔ TrieP t) := by
  unfold spec_TrieOk.f
  simp only [in_eq, Option.bind_some]
  refine T_ndec (fun h1 => T_and (by omega) (by omega) ?_) fun h1 => T_ret (by
    simp only [Bool.false_eq_true, false_iff]
    rintro ⟨h, _⟩
    omega)
  have hn : t.length ≤ 400 := by omega
  have hl : (1 ≤ t.length ∧ t.length ≤ 400) := by omega
  rw [Int.toNat_natCast]
  have main := T_loop (F := F0) (fun k j i => spec_TrieOk.l0 k j ((i : Int), t, upsOf t.length (t.take i))) t.length (fun i r => r = true ↔ (∀ j (h : j < t.length), i ≤ j → TwigC t.length j t[j]) ∧ ∀ j : Nat, 1 ≤ j → j < t.length → rd (upsOf t.length t) (j : Int) = 1) (fun i hi he => by
    dsimp only [spec_TrieOk.l0, spec_TrieOk.s0]
    simp only [Int.toNat_natCast, in_eq, Option.bind_some]
    refine T_pos (by omega) (T_get hi (T_ndec (fun h2 => ?_) fun h2 => T_ret ?_))
    · refine spec_TrieOk.kids hn (ups_len _ _) (fun a => by have := ups_rng t.length t i (by omega) a; omega) hi _ _ (fun ha hb => ?_) (fun hk => ?_)
      · rw [← ups_succ t.length t i hi]
        refine T_mono he fun r hr => ?_
        rw [hr]
        refine ⟨fun h => ⟨fun j hj hij => ?_, h.2⟩, fun h => ⟨fun j hj hij => h.1 j hj (by omega), h.2⟩⟩
        by_cases e : j = i
        · subst e
          exact ⟨ha, hb, h2⟩
        · exact h.1 j hj (by omega)
      · simp only [Bool.false_eq_true, false_iff]
        rintro ⟨h, _⟩
        exact hk ⟨(h i hi (Nat.le_refl _)).1, (h i hi (Nat.le_refl _)).2.1⟩
    · simp only [Bool.false_eq_true, false_iff]
      rintro ⟨h, _⟩
      exact h2 (h i hi (Nat.le_refl _)).2.2) (by
    dsimp only [spec_TrieOk.l0, spec_TrieOk.s0]
    refine T_neg (by omega) ?_
    have hul : (upsOf t.length t).length = t.length := ups_len _ _
    rw [List.take_length]
    have h4 := T_loop (F := F0) (fun k j i => spec_TrieOk.l4 k j ((i : Int), t, upsOf t.length t)) t.length (fun i r => r = true ↔ ∀ j : Nat, i ≤ j → j < t.length → rd (upsOf t.length t) (j : Int) = 1) (fun i hi he => by
      dsimp only [spec_TrieOk.l4, spec_TrieOk.s4]
      rw [wrs hi (by omega)]
      refine T_pos (by omega) (T_rd (by omega) (by omega) (T_bne (fun h => T_ret ?_) fun h => T_mono he fun r hr => ?_))
      · simp only [Bool.false_eq_true, false_iff]
        exact fun k => h (k i (Nat.le_refl _) hi)
      · rw [hr]
        refine ⟨fun k j a b => ?_, fun k j a b => k j (by omega) b⟩
        by_cases e : j = i
        · subst e; exact h
        · exact k j (by omega) b) (by
      dsimp only [spec_TrieOk.l4, spec_TrieOk.s4]
      exact T_neg (by omega) (T_ret (by simp; intro j a b; omega))) 1 (by omega)
    refine T_mono (T_call (T_in (g := fun x j => spec_TrieOk.l4 x j _) (by simpa using h4) (fun k => k) (fun _ _ h => h)) Prod.fst (fun _ _ h => h.1)) fun r hr => ?_
    rw [hr]
    exact ⟨fun k => ⟨fun j hj hjj => absurd hj (by omega), k⟩, fun k => k.2⟩) 0 (Nat.zero_le _)
  refine T_mono (T_in (g := fun x j => spec_TrieOk.l0 x j _) (by have h := main; rw [show upsOf t.length (t.take 0) = List.replicate t.length 0 from rfl] at h; simpa using h) (fun k => k) (fun _ _ h => h)) fun r hr => ?_
  rw [hr]
  exact ⟨fun h => ⟨hl, fun j hj => h.1 j hj, h.2⟩, fun h => ⟨fun j hj => h.2.1 j hj, h.2.2⟩⟩
theorem impl_TrieOk.kids {t : List Twg} (hn : t.length ≤ 400) {U : List Int} (hu : U.length = t.length) (hr : ∀ a, 0 ≤ rd U a ∧ rd U a ≤ 10000) {i : Nat} (hi : i < t.length) (a b c2 : Int) {P : Bool → Prop}
    (h1 : Kid t.length i a → Kid t.length i b → (0 ≤ c2 ∧ c2 ≤ 99) → (1 ≤ i → rd (bump (bump U a) b) (i : Int) = 1) → Tells (FS F0) (fun x => impl_TrieOk.l0 x.1 x.2 ((t.length : Int), (t.length : Int), ((i + 1 : Nat) : Int), t, bump (bump U a) b)) P) (h2 : ¬ (Kid t.length i a ∧ Kid t.length i b ∧ (0 ≤ c2 ∧ c2 ≤ 99) ∧ (1 ≤ i → rd (bump (bump U a) b) (i : Int) = 1)) → P false) :
    Tells (FS F0) (fun x => impl_TrieOk.l2 x.1 (impl_TrieOk.l0 x.1 x.2) x.1 ((t.length : Int), (i : Int), (t.length : Int), (i : Int), (2 : Int), (0 : Int), t, a, b, c2, U, [a, b])) P := by
  refine T_in (F := FS F0) (g := fun x j => impl_TrieOk.l2 x.1 (impl_TrieOk.l0 x.1 x.2) j _) (T_loops (F := FS F0) (fun x j (s : List Int) m => impl_TrieOk.l2 x.1 (impl_TrieOk.l0 x.1 x.2) j ((t.length : Int), (i : Int), (t.length : Int), (i : Int), (2 : Int), (m : Int), t, a, b, c2, s, [a, b])) 2 (fun m s => s = ([a, b].take m).foldl bump U ∧ ∀ c ∈ [a, b].take m, Kid t.length i c) (fun _ _ => P) (fun m s hm hs he => ?_) (fun s hs => ?_) 0 U (Nat.zero_le _) ⟨rfl, by simp⟩) Prod.fst (fun _ _ h => h.1)
  · obtain ⟨hs, hk⟩ := hs
    have hsl : s.length = t.length := by rw [hs, fold_len, hu]
    have hsr : ∀ c, 0 ≤ rd s c ∧ rd s c ≤ 20000 := fun c => by
      have := fold_rng ([a, b].take m) U 10000 (by omega) hr c
      have hl : ([a, b].take m).length ≤ 2 := by rw [List.length_take]; simp; omega
      rw [hs]
      omega
    have hc := pair_mem a b hm
    have hf := take_fold a b U m hm
    have ht := fun q => take_mem a b (Q := Kid t.length i) hm hk q
    dsimp only [impl_TrieOk.l2, impl_TrieOk.s2]
    simp only [Int.toNat_natCast]
    rw [wrs hm (by omega)]
    have hm' : m < [a, b].length := by simpa using hm
    generalize hcc : [a, b][m]'hm' = c at hc hf ht
    refine T_pos (by omega) (T_getv hm' (v := c) (by rw [List.getElem?_eq_getElem hm', hcc]) (T_bne (fun e => ?_) fun e => T_bne (fun e' => absurd e e') fun _ => he s ⟨?_, ht (.inl e)⟩))
    · rw [wrs hi (by omega), wr64 (x := (t.length : Int) - 1) (by omega) (by omega)]
      simp only [within_eq, Option.bind_some]
      refine T_ndec (fun h3 => T_bne (fun _ => T_rd (by omega) (by omega) (T_rd (by omega) (by omega) (he _ ⟨?_, ht (.inr (by omega))⟩))) fun e' => absurd e' e) fun h3 => T_ret (h2 fun k => h3 ?_)
      · rw [hf, ← hs]
        have := hsr c
        unfold bump
        rw [if_neg e, wr64 (by omega) (by omega)]
      · have : Kid t.length i c := hc.elim (fun e => e ▸ k.1) fun e => e ▸ k.2.1
        unfold Kid at this
        omega
    · rw [hf, ← hs]; unfold bump; rw [if_pos e]
  · obtain ⟨hs, hk⟩ := hs
    have ka := hk a (by simp)
    have kb := hk b (by simp)
    have hs : s = bump (bump U a) b := hs
    have hsl : s.length = t.length := by rw [hs, bump_len, bump_len, hu]
    dsimp only [impl_TrieOk.l2, impl_TrieOk.s2]
    simp only [within_eq, Option.bind_some]
    rw [wrs hi (by omega)]
    refine T_neg (by omega) (T_ndec (fun h3 => T_dec (fun h4 => T_rd (by omega) (by omega) (T_bne (fun h5 => T_ret (h2 fun k => h5 ?_)) fun h5 => ?_)) fun h4 => ?_) fun h3 => T_ret (h2 fun k => h3 k.2.2.1))
    · rw [hs]; exact k.2.2.2 (by omega)
    · rw [hs] at h5 ⊢
      exact T_lift (h1 ka kb h3 fun _ => h5)
    · rw [hs]
      exact T_lift (h1 ka kb h3 fun h => by omega)
theorem impl_TrieOk.ev (t : List Twg) (hm : t.length ≤ 1048576) : Tells F0 (fun k => impl_TrieOk.f k t) (fun r => r = true ↔ TrieP t) := by
  unfold impl_TrieOk.f
  simp only [within_eq, Option.bind_some]
  refine T_ndec (fun h1 => T_and (by omega) (by omega) ?_) fun h1 => T_ret (by
    simp only [Bool.false_eq_true, false_iff]
    rintro ⟨h, _⟩
    omega)
  have hn : t.length ≤ 400 := by omega
  have hl : (1 ≤ t.length ∧ t.length ≤ 400) := by omega
  rw [Int.toNat_natCast]
  have main := T_loop (F := F0) (fun k j i => impl_TrieOk.l0 k j ((t.length : Int), (t.length : Int), (i : Int), t, upsOf t.length (t.take i))) t.length
    (fun i r => r = true ↔ (∀ j (h : j < t.length), i ≤ j → TwigC t.length j t[j]) ∧ ∀ j : Nat, i ≤ j → 1 ≤ j → j < t.length → rd (upsOf t.length (t.take (j + 1))) (j : Int) = 1) (fun i hi he => by
    dsimp only [impl_TrieOk.l0, impl_TrieOk.s0]
    simp only [Int.toNat_natCast]
    have hup := ups_succ t.length t i hi
    refine T_pos (by omega) (T_get hi (impl_TrieOk.kids hn (ups_len _ _) (fun a => by have := ups_rng t.length t i (by omega) a; omega) hi _ _ _ (fun ha hb h2 h3 => ?_) fun hk => ?_))
    · rw [← hup] at h3 ⊢
      refine T_mono he fun r hr => ?_
      rw [hr]
      refine ⟨fun h => ⟨fun j hj hij => ?_, fun j hij h1 hj => ?_⟩, fun h => ⟨fun j hj hij => h.1 j hj (by omega), fun j hij h1 hj => h.2 j (by omega) h1 hj⟩⟩
      · by_cases e : j = i
        · subst e; exact ⟨ha, hb, h2⟩
        · exact h.1 j hj (by omega)
      · by_cases e : j = i
        · subst e; exact h3 h1
        · exact h.2 j (by omega) h1 hj
    · simp only [Bool.false_eq_true, false_iff]
      rintro ⟨h, h'⟩
      have hh := h i hi (Nat.le_refl _)
      refine hk ⟨hh.1, hh.2.1, hh.2.2, fun h1 => ?_⟩
      rw [← hup]
      exact h' i (Nat.le_refl _) h1 hi) (by
    dsimp only [impl_TrieOk.l0, impl_TrieOk.s0]
    exact T_neg (by omega) (T_ret (by
      simp only [true_iff]
      exact ⟨fun j hj hjj => absurd hj (by omega), fun j a b c => absurd c (by omega)⟩))) 0 (Nat.zero_le _)
  refine T_mono (T_in (g := fun x j => impl_TrieOk.l0 x j _) (by have h := main; rw [show upsOf t.length (t.take 0) = List.replicate t.length 0 from rfl] at h; simpa using h) (fun k => k) (fun _ _ h => h)) fun r hr => ?_
  rw [hr]
  refine ⟨fun h => ⟨hl, fun j hj => h.1 j hj, fun j h1 h2 => ?_⟩, fun h => ⟨fun j hj => h.2.1 j hj, fun j h1 h2 => ?_⟩⟩
  · rw [ups_later t (fun j hj => h.1 j hj) j (t.length - (j + 1)) (j + 1) (by omega) (by omega)]
    exact h.2 j h1 h2
  · rw [← ups_later t h.2.1 j (t.length - (j + 1)) (j + 1) (by omega) (by omega)]
    exact h.2.2 j h1 h2

def bitAt (a i : Int) : Int := a / 2 ^ (31 - i).toNat % 2
theorem bitAt_01 (a i : Int) : bitAt a i = 0 ∨ bitAt a i = 1 := by unfold bitAt; omega
theorem bitOf_eq (k : Nat) (a i : Int) (h0 : 0 ≤ a) (h1 : a ≤ 4294967295) (i0 : 0 ≤ i) (i1 : i ≤ 31) : impl_bitOf.f k a i = some (bitAt a i) := by
  unfold impl_bitOf.f bitAt
  rw [wr64 (x := 31 - i) (by omega) (by omega)]
  have hd : decide ((31 : Int) - i < 0) = false := by rw [decide_eq_false_iff_not]; omega
  rw [hd, cond_false]
  have hm : min (31 - i).toNat IntKind.i64.bits = (31 - i).toNat := Nat.min_eq_left (by show _ ≤ 64; omega)
  rw [hm]
  have hp := pow_rng (31 - i).toNat (by omega)
  have hq : a.fdiv (2 ^ (31 - i).toNat) = a / 2 ^ (31 - i).toNat := Int.fdiv_eq_ediv_of_nonneg a (by omega)
  rw [hq]
  have d0 : 0 ≤ a / 2 ^ (31 - i).toNat := Int.ediv_nonneg h0 (by omega)
  have d1 : a / 2 ^ (31 - i).toNat ≤ a := Int.ediv_le_self _ h0
  have m := and_mask 1 (by omega) (a / 2 ^ (31 - i).toNat) d0 (by omega)
  simp only [Int.pow_one] at m
  have e1 : (2 : Int) ^ 1 - 1 = 1 := rfl
  rw [show ((2 : Int) - 1) = 1 from rfl] at m
  rw [m, wr64 (by omega) (by omega)]
theorem l10Bit.ev (a i : Int) (h0 : 0 ≤ a) (h1 : a ≤ 4294967295) (i0 : 0 ≤ i) (i1 : i ≤ 31) : Tells F0 (fun k => spec_l10Bit.f k a i) (· = bitAt a i) := by
  unfold spec_l10Bit.f bitAt
  refine T_bindE (spec_l08Size.ev i i0 (by omega)) ?_
  have hp := pow_rng (31 - i).toNat (by omega)
  have e : (2 : Int) ^ (32 - i).toNat = 2 * 2 ^ (31 - i).toNat := by
    rw [show (32 - i).toNat = (31 - i).toNat + 1 by omega, Int.pow_succ, Int.mul_comm]
  have e2 : Int.tdiv (2 ^ (32 - i).toNat) 2 = 2 ^ (31 - i).toNat := by rw [Int.tdiv_eq_ediv_of_nonneg (by omega), e]; omega
  rw [e2, wr64 (x := 2 ^ (31 - i).toNat) (by omega) (by omega)]
  have d0 : 0 ≤ a / 2 ^ (31 - i).toNat := Int.ediv_nonneg h0 (by omega)
  have d1 : a / 2 ^ (31 - i).toNat ≤ a := Int.ediv_le_self _ h0
  refine T_beq (fun e => by omega) fun _ => T_ret ?_
  rw [Int.tdiv_eq_ediv_of_nonneg h0, wr64 (by omega) (by omega), Int.tmod_eq_emod_of_nonneg d0]
def tw (t : List Twg) (p : Int) : Twg := t.getD p.toNat (0, 0, 0)
theorem tw_at (t : List Twg) (i : Nat) (h : i < t.length) : tw t (i : Int) = t[i] := by simp [tw, List.getD_eq_getElem?_getD, h]
theorem T_tw {ι α : Type} {F : Fu ι} {P : α → Prop} {t : List Twg} {a : Int} {f : ι → Twg → Option α} {g : ι → Option α} (h0 : 0 ≤ a) (h1 : a < t.length) (hf : Tells F (fun x => f x (tw t a)) P) : Tells F (fun x => bif (decide ((0 : Int) ≤ a) && decide (a < (t.length : Int))) then (t[a.toNat]?).bind (f x) else g x) P := by
  refine T_and h0 h1 ?_
  have : t[a.toNat]? = some (tw t a) := by
    unfold tw
    rw [List.getD_eq_getElem?_getD, List.getElem?_eq_getElem (by omega)]
    rfl
  simp only [this, Option.bind_some]
  exact hf
def kidOf (t : List Twg) (p b : Int) : Int := if b = 1 then (tw t p).2.1 else (tw t p).1
def addKid (t : List Twg) (p b : Int) : List Twg := (t ++ [(0, 0, 0)]).set p.toNat (if b = 0 then ((t.length : Int), (tw t p).2) else ((tw t p).1, (t.length : Int), (tw t p).2.2))
def ins (a : Int) : Nat → Int → Int → List Twg → List Twg × Int
  | 0, _, p, t => (t, p)
  | d + 1, i, p, t => if kidOf t p (bitAt a i) = 0 then ins a d (i + 1) t.length (addKid t p (bitAt a i)) else ins a d (i + 1) (kidOf t p (bitAt a i)) t
def setVal (t : List Twg) (p o : Int) : List Twg := t.set p.toNat ((tw t p).1, (tw t p).2.1, o)
def KidsOk (t : List Twg) : Prop := ∀ x ∈ t, (0 ≤ x.1 ∧ x.1 < t.length) ∧ (0 ≤ x.2.1 ∧ x.2.1 < t.length)
theorem tw_mem (t : List Twg) (p : Int) (h0 : 0 ≤ p) (h1 : p < t.length) : tw t p ∈ t := by
  obtain ⟨m, rfl⟩ := Int.eq_ofNat_of_zero_le h0
  rw [tw_at t m (by omega)]
  exact List.getElem_mem _
theorem kid_rng {t : List Twg} (h : KidsOk t) {p : Int} (h0 : 0 ≤ p) (h1 : p < t.length) (b : Int) : 0 ≤ kidOf t p b ∧ kidOf t p b < t.length := by
  have := h _ (tw_mem t p h0 h1)
  unfold kidOf
  split
  · exact this.2
  · exact this.1
theorem addKid_len (t : List Twg) (p b : Int) : (addKid t p b).length = t.length + 1 := by simp [addKid]
theorem addKid_ok {t : List Twg} (h : KidsOk t) {p b : Int} (h0 : 0 ≤ p) (h1 : p < t.length) : KidsOk (addKid t p b) := by
  intro x hx
  rw [addKid_len]
  unfold addKid at hx
  have ht := h _ (tw_mem t p h0 h1)
  rcases List.mem_or_eq_of_mem_set hx with hx | hx
  · rcases List.mem_append.1 hx with hx | hx
    · have := h x hx
      omega
    · rw [List.mem_singleton] at hx
      rw [hx]
      dsimp only
      omega
  · rw [hx]
    split
    · dsimp only; omega
    · dsimp only; omega
theorem trie_kids {t : List Twg} (h : TrieP t) : KidsOk t := by
  intro x hx
  obtain ⟨i, hi, rfl⟩ := List.getElem_of_mem hx
  obtain ⟨k0, k1, _⟩ := h.2.1 i hi
  unfold Kid at k0 k1
  omega
open Classical in
noncomputable def triePut (t : List Twg) (a n o : Int) : List Twg × Bool :=
  if TrieP t ∧ PfxP a n ∧ (0 ≤ o ∧ o ≤ 99) then (if (ins a n.toNat 0 0 t).1.length > 400 then (t, false) else (setVal (ins a n.toNat 0 0 t).1 (ins a n.toNat 0 0 t).2 o, true)) else (t, false)
theorem triePut_len (t : List Twg) (a n o : Int) (h : t.length ≤ 1000) : (triePut t a n o).1.length ≤ 1000 := by
  unfold triePut
  split
  · split
    · exact h
    · rename_i h2
      simp only [setVal, List.length_set]
      omega
  · exact h
theorem copyTrie_eq (k : Nat) (t : List Twg) (h : t.length ≤ 1048576) : impl_copyTrie.f k t = some t := by
  unfold impl_copyTrie.f
  have : decide ((([] : List Twg).length + t.length) * 24 ≤ 140737488355328) = true := by simp; omega
  rw [this, cond_true]
  simp
theorem along_eq (k : Nat) (z o d b : Int) (hb : b = 0 ∨ b = 1) : impl_along.f k z o d b = some (if b = 1 then o else z) := by
  unfold impl_along.f
  rcases hb with rfl | rfl <;> simp
theorem set_len (t : List Twg) (i : Nat) (y : Twg) : (t.set i y).length = t.length := List.length_set
theorem tw_app (t : List Twg) (p : Int) (h0 : 0 ≤ p) (h1 : p < t.length) (y : Twg) : tw (t ++ [y]) p = tw t p := by
  obtain ⟨m, rfl⟩ := Int.eq_ofNat_of_zero_le h0
  rw [tw_at _ m (by simp; omega), List.getElem_append_left (by omega), tw_at t m (by omega)]
theorem impl_TriePut.ev (t : List Twg) (a n o : Int) (hm : t.length ≤ 1048576) : Tells F0 (fun k => impl_TriePut.f k t a n o) (· = triePut t a n o) := by
  have no : ¬ (TrieP t ∧ PfxP a n ∧ (0 ≤ o ∧ o ≤ 99)) → triePut t a n o = (t, false) := fun h => by unfold triePut; rw [if_neg h]
  unfold impl_TriePut.f
  simp only [impl_PrefixOk_eq, within_eq, copyTrie_eq _ t hm, Option.bind_some]
  refine T_bind (impl_TrieOk.ev t hm) fun q hq => ?_
  cases q with
  | false => exact T_true rfl (T_ret (no fun k => by have := hq.2 k.1; cases this).symm)
  | true =>
  have hT := hq.1 rfl
  refine T_false rfl (T_ndec (fun hP => T_ndec (fun ho => ?_) fun h => T_ret (no fun k => h k.2.2).symm) fun h => T_ret (no fun k => h k.2.1).symm)
  obtain ⟨m, rfl⟩ := Int.eq_ofNat_of_zero_le hP.2.1.1
  have hm32 : m ≤ 32 := by have := hP.2.1.2; omega
  have hl := hT.1
  have h := T_loops (F := F0) (fun k j (s : List Twg × Int) i => impl_TriePut.l0 k j (o, s.2, (m : Int), (i : Int), t, a, (m : Int), [], s.1)) m (fun i s => (0 ≤ s.2 ∧ s.2 < s.1.length) ∧ KidsOk s.1 ∧ s.1.length ≤ 1000 + i ∧ ins a (m - i) (i : Int) s.2 s.1 = ins a m 0 0 t) (fun _ _ r => r = triePut t a (m : Int) o) (fun i s hi hs he => by
    obtain ⟨u, p⟩ := s
    dsimp only at hs
    obtain ⟨⟨p0, p1⟩, hU, hul, hin⟩ := hs
    dsimp only [impl_TriePut.l0, impl_TriePut.s0]
    rw [wrs hi (by omega)]
    simp only [bitOf_eq _ a i hP.1.1 hP.1.2 (by omega) (by omega), along_eq _ _ _ _ _ (bitAt_01 a i), Option.bind_some]
    have e1 : m - i = (m - (i + 1)) + 1 := by omega
    rw [e1] at hin
    simp only [ins] at hin
    refine T_pos (by omega) (T_tw p0 p1 (T_beq (fun hb => ?_) fun hb => ?_))
    · have hb' : kidOf u p (bitAt a i) = 0 := hb
      rw [if_pos hb'] at hin
      have hg : ∀ v, v = addKid u p (bitAt a i) → Tells (FS F0) (fun x => impl_TriePut.l0 x.1 x.2 (o, (u.length : Int), (m : Int), ((i + 1 : Nat) : Int), t, a, (m : Int), [], v)) (fun r => r = triePut t a (m : Int) o) := by
        rintro v rfl
        exact he (addKid u p (bitAt a i), (u.length : Int)) ⟨⟨by dsimp only; omega, by dsimp only; rw [addKid_len]; omega⟩, addKid_ok hU p0 p1, by dsimp only; rw [addKid_len]; omega, hin⟩
      refine T_pos (by simp only [List.length_singleton]; omega) (T_beq (fun hb0 => T_tw p0 (by simp only [List.length_append, List.length_singleton]; omega) (hg _ ?_)) fun hb0 => T_tw p0 (by simp only [List.length_append, List.length_singleton]; omega) (hg _ ?_))
      · unfold addKid; rw [if_pos hb0, tw_app u p p0 p1]
      · unfold addKid; rw [if_neg hb0, tw_app u p p0 p1]
    · have hb' : ¬ kidOf u p (bitAt a i) = 0 := hb
      rw [if_neg hb'] at hin
      have hk := kid_rng hU p0 p1 (bitAt a i)
      exact he (u, kidOf u p (bitAt a i)) ⟨hk, hU, by dsimp only; omega, hin⟩) (fun s hs => by
    obtain ⟨u, p⟩ := s
    dsimp only at hs
    obtain ⟨⟨p0, p1⟩, hU, hul, hin⟩ := hs
    rw [Nat.sub_self] at hin
    have hin : (u, p) = ins a m 0 0 t := hin
    have eP : triePut t a (m : Int) o = if u.length > 400 then (t, false) else (setVal u p o, true) := by
      unfold triePut
      rw [if_pos ⟨hT, hP, ho⟩, Int.toNat_natCast, ← hin]
    rw [eP]
    dsimp only [impl_TriePut.l0, impl_TriePut.s0]
    simp only [copyTrie_eq _ t hm, Option.bind_some, List.length_set]
    refine T_neg (by omega) (T_tw p0 p1 (T_dec (fun h => ?_) fun h => ?_))
    · rw [if_pos (show u.length > 400 by omega)]
      exact T_ret rfl
    · rw [if_neg (show ¬ u.length > 400 by omega)]
      exact T_ret rfl) 0 (t, 0) (Nat.zero_le _) ⟨⟨Int.le_refl _, by dsimp only; omega⟩, trie_kids hT, by dsimp only; omega, rfl⟩
  exact T_in (g := fun x j => impl_TriePut.l0 x j _) (by simpa using h) (fun k => k) (fun _ _ h => h)
theorem spec_TriePut.ev (t : List Twg) (a n o : Int) (hm : t.length ≤ 1048576) : Tells F0 (fun k => spec_TriePut.f k t a n o) (· = triePut t a n o) := by
  have no : ¬ (TrieP t ∧ PfxP a n ∧ (0 ≤ o ∧ o ≤ 99)) → triePut t a n o = (t, false) := fun h => by unfold triePut; rw [if_neg h]
  unfold spec_TriePut.f
  simp only [in_eq, Option.bind_some, List.nil_append, List.length_nil, Nat.zero_add]
  refine T_pos (by omega) (T_bind (spec_TrieOk.ev t hm) fun q hq => ?_)
  cases q with
  | false => exact T_true rfl (T_ret (no fun k => by have := hq.2 k.1; cases this).symm)
  | true =>
  have hT := hq.1 rfl
  refine T_false rfl (T_bindE (spec_PrefixOk.ev a n) (T_ndec (fun hP => T_ndec (fun ho => T_pos (by omega) ?_) fun h => T_ret (no fun k => h k.2.2).symm) fun h => T_ret (no fun k => h k.2.1).symm))
  obtain ⟨m, rfl⟩ := Int.eq_ofNat_of_zero_le hP.2.1.1
  have hm32 : m ≤ 32 := by have := hP.2.1.2; omega
  have hl := hT.1
  have h := T_loops (F := F0) (fun k j (s : List Twg × Int) i => spec_TriePut.l0 k j (o, s.2, (i : Int), t, a, (m : Int), [], t, s.1)) m (fun i s => (0 ≤ s.2 ∧ s.2 < s.1.length) ∧ KidsOk s.1 ∧ s.1.length ≤ 1000 + i ∧ ins a (m - i) (i : Int) s.2 s.1 = ins a m 0 0 t) (fun _ _ r => r = triePut t a (m : Int) o) (fun i s hi hs he => by
    obtain ⟨u, p⟩ := s
    dsimp only at hs
    obtain ⟨⟨p0, p1⟩, hU, hul, hin⟩ := hs
    dsimp only [spec_TriePut.l0, spec_TriePut.s0]
    rw [wrs hi (by omega)]
    have e1 : m - i = (m - (i + 1)) + 1 := by omega
    rw [e1] at hin
    simp only [ins] at hin
    have hk := kid_rng hU p0 p1 (bitAt a i)
    have hbit := fun {α : Type} {Q : α → Prop} {f : Nat × Nat → Int → Option α} (h : Tells (FS F0) (fun x => f x (bitAt a i)) Q) => T_bindE (T_call (l10Bit.ev a i hP.1.1 hP.1.2 (by omega) (by omega)) Prod.fst (fun _ _ h => h.1) : Tells (FS F0) (fun x => spec_l10Bit.f x.1 a i) _) (f := f) h
    have new : kidOf u p (bitAt a i) = 0 → ∀ v, v = addKid u p (bitAt a i) → Tells (FS F0) (fun x => spec_TriePut.l0 x.1 x.2 (o, (u.length : Int), ((i + 1 : Nat) : Int), t, a, (m : Int), [], t, v)) (fun r => r = triePut t a (m : Int) o) := by
      rintro hb v rfl
      rw [if_pos hb] at hin
      exact he (addKid u p (bitAt a i), (u.length : Int)) ⟨⟨by dsimp only; omega, by dsimp only; rw [addKid_len]; omega⟩, addKid_ok hU p0 p1, by dsimp only; rw [addKid_len]; omega, hin⟩
    have old : kidOf u p (bitAt a i) ≠ 0 → Tells (FS F0) (fun x => spec_TriePut.l0 x.1 x.2 (o, kidOf u p (bitAt a i), ((i + 1 : Nat) : Int), t, a, (m : Int), [], t, u)) (fun r => r = triePut t a (m : Int) o) := by
      intro hb
      rw [if_neg hb] at hin
      exact he (u, kidOf u p (bitAt a i)) ⟨hk, hU, by dsimp only; omega, hin⟩
    have hset : ∀ y : Twg, u.set p.toNat y ++ [(0, 0, 0)] = (u ++ [(0, 0, 0)]).set p.toNat y := fun y => by rw [List.set_append_left _ _ (by omega)]
    refine T_pos (by omega) (T_tw p0 p1 (hbit (T_beq (fun hb => T_tw p0 p1 (T_beq (fun hz => hbit (T_beq (fun _ => T_tw p0 p1 (T_pos (by simp only [List.length_set, List.length_singleton]; omega) (new ?_ _ ?_))) fun hb' => absurd hb hb')) fun hz => ?_)) fun hb => T_beq (fun hz => hbit (T_beq (fun hb' => absurd hb' hb) fun _ => T_tw p0 p1 (T_pos (by simp only [List.length_set, List.length_singleton]; omega) (new ?_ _ ?_)))) fun hz => ?_)))
    · unfold kidOf; rw [if_pos hb]; exact hz
    · rw [hset]; unfold addKid; rw [if_neg (by omega)]
    · have := old (by unfold kidOf; rw [if_pos hb]; exact hz)
      unfold kidOf at this
      rw [if_pos hb] at this
      exact this
    · unfold kidOf; rw [if_neg hb]; exact hz
    · rw [hset]; unfold addKid; rw [if_pos (by have := bitAt_01 a i; omega)]
    · have := old (by unfold kidOf; rw [if_neg hb]; exact hz)
      unfold kidOf at this
      rw [if_neg hb] at this
      exact this) (fun s hs => by
    obtain ⟨u, p⟩ := s
    dsimp only at hs
    obtain ⟨⟨p0, p1⟩, hU, hul, hin⟩ := hs
    rw [Nat.sub_self] at hin
    have hin : (u, p) = ins a m 0 0 t := hin
    have eP : triePut t a (m : Int) o = if u.length > 400 then (t, false) else (setVal u p o, true) := by
      unfold triePut
      rw [if_pos ⟨hT, hP, ho⟩, Int.toNat_natCast, ← hin]
    rw [eP]
    dsimp only [spec_TriePut.l0, spec_TriePut.s0]
    refine T_neg (by omega) (T_dec (fun h => ?_) fun h => T_tw p0 p1 ?_)
    · rw [if_pos (show u.length > 400 by omega)]
      exact T_ret rfl
    · rw [if_neg (show ¬ u.length > 400 by omega)]
      exact T_ret rfl) 0 (t, 0) (Nat.zero_le _) ⟨⟨Int.le_refl _, by dsimp only; omega⟩, trie_kids hT, by dsimp only; omega, rfl⟩
  exact T_in (g := fun x j => spec_TriePut.l0 x j _) (by simpa using h) (fun k => k) (fun _ _ h => h)

abbrev Rte := Int × Int × Int
def aheadP (a b c d : Int) : Prop := a < c ∨ (a = c ∧ b < d)
instance (a b c d : Int) : Decidable (aheadP a b c d) := by unfold aheadP; infer_instance
theorem ahead_eq (k : Nat) (a b c d : Int) : spec_l09Ahead.f k a b c d = some (decide (aheadP a b c d)) := by
  unfold spec_l09Ahead.f aheadP
  by_cases h1 : a < c
  · simp [h1]
  · by_cases h2 : a = c
    · subst h2; simp
    · have : (a == c) = false := by simpa using h2
      simp only [h1, h2, this, decide_false, cond_false, false_or, false_and]
def cmpI (a b : Int) : Int := if a < b then -1 else if a > b then 1 else 0
theorem cmp_eq (k : Nat) (a b : Int) : cmp_Compare_int.f k a b = some (cmpI a b) := by
  unfold cmp_Compare_int.f cmp_isNaN_int.f cmpI
  by_cases h1 : a < b <;> by_cases h2 : a > b <;> simp [h1, h2]
theorem cmpOr.ev (a b : Int) : Tells F0 (fun k => cmp_Or_int.f k [a, b]) (· = if a ≠ 0 then a else b) := by
  have h := T_loop (F := F0) (fun k j i => cmp_Or_int.l0 k j ((0 : Int), (2 : Int), (i : Int), [a, b])) 2 (fun i r => r = if i = 0 ∧ a ≠ 0 then a else if i ≤ 1 then b else 0) (fun i hi he => by
    dsimp only [cmp_Or_int.l0, cmp_Or_int.s0]
    simp only [Int.toNat_natCast]
    rw [wrs hi (by omega)]
    refine T_pos (by omega) (T_get (l := [a, b]) (by simpa using hi) (T_bne (fun e => T_ret ?_) fun e => T_mono he fun r hr => ?_))
    · obtain rfl | rfl : i = 0 ∨ i = 1 := by omega
      · have e' : a ≠ 0 := e; simp [e']
      · simp
    · rw [hr]
      obtain rfl | rfl : i = 0 ∨ i = 1 := by omega
      · have e' : a = 0 := e; simp [e']
      · have e' : b = 0 := e; simp [e']) (by
    dsimp only [cmp_Or_int.l0, cmp_Or_int.s0]
    exact T_neg (by omega) (T_ret (by simp))) 0 (Nat.zero_le _)
  unfold cmp_Or_int.f
  exact T_in (g := fun x j => cmp_Or_int.l0 x j _) (by simpa using h) (fun k => k) (fun _ _ h => h)
theorem comparePrefixes.ev (a b c d : Int) : Tells F0 (fun k => impl_comparePrefixes.f k a b c d) (fun r => (r ≥ 0 ↔ ¬ aheadP a b c d)) := by
  unfold impl_comparePrefixes.f
  simp only [cmp_eq, Option.bind_some]
  refine T_bindE (cmpOr.ev _ _) (T_ret ?_)
  unfold cmpI aheadP
  (repeat' split) <;> omega
def RteC (l : List Rte) (i : Nat) : Prop := ∀ h : i < l.length, PfxP (l[i]).1 (l[i]).2.1 ∧ (1 ≤ (l[i]).2.2 ∧ (l[i]).2.2 ≤ 99) ∧ (0 < i → aheadP (l[i - 1]).1 (l[i - 1]).2.1 (l[i]).1 (l[i]).2.1)
def RtesP (l : List Rte) : Prop := (∀ i, i < l.length → RteC l i) ∧ l.length ≤ 12
theorem T_pre0 {ι α β : Type} {F : Fu ι} {P : α → Prop} {l : List β} {i : Nat} {f : ι → β → Option α} {g : ι → Option α} (h0 : 0 < i) (h : i < l.length) (hn : l.length ≤ 9223372036854775807) (hf : Tells F (fun x => f x l[i - 1]) P) :
    Tells F (fun x => bif (decide ((0 : Int) ≤ IntKind.i64.wrap ((i : Int) - 1)) && decide (IntKind.i64.wrap ((i : Int) - 1) < (l.length : Int))) then (l[(IntKind.i64.wrap ((i : Int) - 1)).toNat]?).bind (f x) else g x) P := T_pre h0 h hn hf
theorem spec_RoutesOk.ev (l : List Rte) (hn : l.length ≤ 1048600) : Tells F0 (fun k => spec_RoutesOk.f k l) (fun r => r = true ↔ RtesP l) := by
  have hh := T_body (F := F0) (fun k j i => spec_RoutesOk.l0 k j ((i : Int), l)) l.length (RteC l) (l.length ≤ 12) (fun i hi P go bad => by
    dsimp only [spec_RoutesOk.l0, spec_RoutesOk.s0]
    rw [wrs hi (by omega)]
    refine T_pos (by omega) (T_at hi (T_bindE (T_call (spec_PrefixOk.ev _ _) Prod.fst (fun _ _ h => h.1)) (T_ndec (fun a1 => T_at hi ?_) fun a1 => T_ret (bad fun c => a1 (c hi).1))))
    simp only [in_eq, ahead_eq, Option.bind_some]
    refine T_ndec (fun a2 => T_dec (fun a3 => T_pre (by omega) hi (by omega) (T_at hi (T_ndec (fun a4 => go fun _ => ⟨a1, a2, fun _ => a4⟩) fun a4 => T_ret (bad fun c => a4 ((c hi).2.2 (by omega)))))) fun a3 => go fun _ => ⟨a1, a2, fun h => absurd h (by omega)⟩) fun a2 => T_ret (bad fun c => a2 (c hi).2.1)) (by
    dsimp only [spec_RoutesOk.l0, spec_RoutesOk.s0]
    exact T_neg (by omega) (T_ret (by rw [decide_eq_true_eq]; omega)))
  unfold spec_RoutesOk.f
  exact T_in (g := fun x j => spec_RoutesOk.l0 x j _) hh (fun k => k) (fun _ _ h => h)
theorem impl_RoutesOk.ev (l : List Rte) (hn : l.length ≤ 1048600) : Tells F0 (fun k => impl_RoutesOk.f k l) (fun r => r = true ↔ RtesP l) := by
  have hh := T_body (F := F0) (fun k j i => impl_RoutesOk.l0 k j ((l.length : Int), (i : Int), l)) l.length (RteC l) (l.length ≤ 12) (fun i hi P go bad => by
    dsimp only [impl_RoutesOk.l0, impl_RoutesOk.s0]
    rw [wrs hi (by omega)]
    simp only [impl_PrefixOk_eq, isId_eq, Option.bind_some]
    refine T_pos (by omega) (T_at hi (T_ndec (fun a1 => T_ndec (fun a2 => T_dec (fun a3 => T_pre (by omega) hi (by omega) (T_bind (T_call (comparePrefixes.ev _ _ _ _) Prod.fst (fun _ _ h => h.1)) fun r hr => T_dec (fun a4 => T_ret (bad fun c => hr.1 a4 ((c hi).2.2 (by omega)))) fun a4 => ?_)) fun a3 => go fun _ => ⟨a1, a2, fun h => absurd h (by omega)⟩) fun a2 => T_ret (bad fun c => a2 (c hi).2.1)) fun a1 => T_ret (bad fun c => a1 (c hi).1)))
    exact go fun _ => ⟨a1, a2, fun _ => Classical.byContradiction fun h => a4 (hr.2 h)⟩) (by
    dsimp only [impl_RoutesOk.l0, impl_RoutesOk.s0]
    exact T_neg (by omega) (T_ret (by rw [decide_eq_true_eq]; omega)))
  unfold impl_RoutesOk.f
  exact T_in (g := fun x j => impl_RoutesOk.l0 x j _) hh (fun k => k) (fun _ _ h => h)

noncomputable def trieUp (rs : List Rte) : List Twg := rs.foldl (fun t r => (triePut t r.1 r.2.1 r.2.2).1) [(0, 0, 0)]
theorem trieUp_len : ∀ (rs : List Rte) (t : List Twg), t.length ≤ 1000 → (rs.foldl (fun t r => (triePut t r.1 r.2.1 r.2.2).1) t).length ≤ 1000
  | [], t, h => h
  | r :: rs, t, h => trieUp_len rs _ (triePut_len t _ _ _ h)
theorem trieUp_succ (rs : List Rte) (i : Nat) (h : i < rs.length) : trieUp (rs.take (i + 1)) = (triePut (trieUp (rs.take i)) rs[i].1 rs[i].2.1 rs[i].2.2).1 := by
  unfold trieUp
  rw [List.take_succ_eq_append_getElem h, List.foldl_append]
  rfl
open Classical in
noncomputable def trieOf (rs : List Rte) : List Twg := if RtesP rs then trieUp rs else [(0, 0, 0)]
theorem trieOf_len (rs : List Rte) : (trieOf rs).length ≤ 1048576 := by
  unfold trieOf
  split
  · exact Nat.le_trans (trieUp_len rs _ (by simp)) (by omega)
  · simp
theorem impl_TrieOf.ev (rs : List Rte) (hm : rs.length ≤ 1048576) : Tells F0 (fun k => impl_TrieOf.f k rs) (· = trieOf rs) := by
  unfold impl_TrieOf.f impl_TrieNew.f trieOf
  simp only [Option.bind_some]
  refine T_bind (impl_RoutesOk.ev rs (by omega)) fun q hq => ?_
  cases q with
  | false => rw [if_neg fun c => by have := hq.2 c; cases this]; exact T_true rfl (T_ret rfl)
  | true =>
    rw [if_pos (hq.1 rfl)]
    have h := T_loop (F := F0) (fun k j i => impl_TrieOf.l0 k j ((rs.length : Int), (i : Int), rs, [], trieUp (rs.take i))) rs.length (fun _ r => r = trieUp rs) (fun i hi he => by
      dsimp only [impl_TrieOf.l0, impl_TrieOf.s0]
      simp only [Int.toNat_natCast]
      rw [wrs hi (by omega)]
      rw [trieUp_succ rs i hi] at he
      exact T_pos (by omega) (T_get hi (T_bindE (T_call (impl_TriePut.ev _ _ _ _ (Nat.le_trans (trieUp_len _ _ (by simp)) (by omega))) Prod.fst (fun _ _ h => h.1)) he))) (by
      dsimp only [impl_TrieOf.l0, impl_TrieOf.s0]
      exact T_neg (by omega) (T_ret (by rw [List.take_length]))) 0 (Nat.zero_le _)
    exact T_false rfl (T_in (g := fun x j => impl_TrieOf.l0 x j _) (by simpa [trieUp] using h) (fun k => k) (fun _ _ h => h))
theorem spec_TrieOf.ev (rs : List Rte) (hm : rs.length ≤ 1048576) : Tells F0 (fun k => spec_TrieOf.f k rs) (· = trieOf rs) := by
  unfold spec_TrieOf.f spec_TrieNew.f trieOf
  simp only [Option.bind_some]
  by_cases hR : RtesP rs
  · rw [if_pos hR]
    have h := T_loop (F := F0) (fun k j i => spec_TrieOf.l0 k j ((i : Int), rs, [], trieUp (rs.take i))) rs.length (fun _ r => r = trieUp rs) (fun i hi he => by
      dsimp only [spec_TrieOf.l0, spec_TrieOf.s0]
      simp only [Int.toNat_natCast]
      rw [wrs hi (by omega)]
      rw [trieUp_succ rs i hi] at he
      refine T_pos (by omega) (T_bind (T_call (spec_RoutesOk.ev rs (by omega)) Prod.fst (fun _ _ h => h.1)) fun q hq => ?_)
      rw [hq.2 hR]
      exact T_true rfl (T_get hi (T_get hi (T_bindE (T_call (spec_TriePut.ev _ _ _ _ (Nat.le_trans (trieUp_len _ _ (by simp)) (by omega))) Prod.fst (fun _ _ h => h.1)) he)))) (by
      dsimp only [spec_TrieOf.l0, spec_TrieOf.s0]
      exact T_neg (by omega) (T_ret (by rw [List.take_length]))) 0 (Nat.zero_le _)
    exact T_in (g := fun x j => spec_TrieOf.l0 x j _) (by simpa [trieUp] using h) (fun k => k) (fun _ _ h => h)
  · rw [if_neg hR]
    have h : Tells (FS F0) (fun x => spec_TrieOf.l0 x.1 x.2 ((0 : Int), rs, [], [(0, 0, 0)])) (· = [(0, 0, 0)]) := T_step (g := fun x j => spec_TrieOf.l0 x j ((0 : Int), rs, [], [(0, 0, 0)])) (by
      dsimp only [spec_TrieOf.l0, spec_TrieOf.s0]
      refine T_dec (fun _ => T_bind (T_call (spec_RoutesOk.ev rs (by omega)) Prod.fst (fun _ _ h => h.1)) fun q hq => ?_) fun _ => T_ret rfl
      cases q with
      | false => exact T_false rfl (T_ret rfl)
      | true => exact absurd (hq.1 rfl) hR)
    exact T_in (g := fun x j => spec_TrieOf.l0 x j _) h (fun k => k) (fun _ _ h => h)

theorem FnExactTrieOf : laws_FnExactTrieOf.Goal := by
  intro a0 g_a0
  replace g_a0 : a0.length ≤ maxLen ∧ True := ⟨g_a0.1, trivial⟩
  refine Tells.rounds ?_
  unfold laws_FnExactTrieOf.f
  refine T_bind (laws_szRouteS.ev a0 _ (by omega) (by omega) g_a0.1) fun v1 q1 => T_dec (fun _ => T_ret rfl) fun e1 => ?_
  obtain ⟨_, _, z_a0⟩ := q1.resolve_left (by omega)
  have b0 : (trieOf a0).length ≤ 1048576 := trieOf_len _
  refine T_bindE (laws_toRouteS.ev a0 z_a0) ?_
  refine T_bindE (spec_TrieOf.ev a0 z_a0) ?_
  refine T_bindE (laws_toRouteS.ev a0 z_a0) ?_
  refine T_bindE (impl_TrieOf.ev a0 z_a0) ?_
  refine T_bindE (laws_eqTrie.ev _ (by omega)) ?_
  refine T_same rfl ?_
  refine T_bindE (laws_toRouteS.ev a0 z_a0) ?_
  refine T_bindE (laws_eqRouteS.ev a0 (by omega)) ?_
  refine T_same rfl ?_
  refine T_bindE (laws_markRouteS.ev a0 (1) (by omega)) ?_
  refine T_neg (by omega) ?_
  refine T_bindE (laws_eqTrie.ev _ (by omega)) ?_
  refine T_same rfl ?_
  refine T_bindE (laws_markTrie.ev _ 1 ?_) ?_
  · omega
  refine T_bindE (laws_heldTrie.ev _ 1 ?_) ?_
  · omega
  refine T_neg (by omega) ?_
  refine T_same (by simp) ?_
  refine T_bindE (laws_toRouteS.ev a0 z_a0) ?_
  refine T_bindE (impl_TrieOf.ev a0 z_a0) ?_
  refine T_bindE (laws_eqTrie.ev _ (by omega)) ?_
  refine T_same rfl ?_
  refine T_bindE (laws_heldTrie.ev _ 1 ?_) ?_
  · omega
  refine T_neg (by omega) ?_
  refine T_same (by simp) ?_
  exact T_ret rfl
end Go.Proofs.Ytbddppnhpapfkaa.DI.Pure
