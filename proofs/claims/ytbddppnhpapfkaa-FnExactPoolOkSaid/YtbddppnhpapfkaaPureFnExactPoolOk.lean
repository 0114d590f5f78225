/- FnExactPoolOk, the plain part: from some fuel on the law answers true. -/
import Derived.Test.YtbddppnhpapfkaaGoalFnExactPoolOk
import Derived.Test.YtbddppnhpapfkaaKITE
namespace Go.Proofs.Ytbddppnhpapfkaa.DI.Pure
open Go Go.RowKit
set_option linter.unusedVariables false
set_option linter.unusedSimpArgs false
theorem laws_szLeaseS.ev (l : List (Int × Int × Int)) (a : Int) (h0 : 0 ≤ a) (h1 : a ≤ 1048576) (hl : l.length ≤ maxLen) : Tells F0 (fun k => laws_szLeaseS.f k l a) (fun v => v < 0 ∨ (0 ≤ v ∧ v ≤ a ∧ l.length ≤ 1048576)) := by
  unfold maxLen at hl
  unfold laws_szLeaseS.f
  rw [wr64 (x := a - (l.length : Int)) (by omega) (by omega)]
  exact T_dec (fun _ => T_ret (.inl (by omega))) (fun h => T_ret (.inr ⟨by omega, by omega, by omega⟩))
theorem laws_szFixedS.ev (l : List (Int × Int)) (a : Int) (h0 : 0 ≤ a) (h1 : a ≤ 1048576) (hl : l.length ≤ maxLen) : Tells F0 (fun k => laws_szFixedS.f k l a) (fun v => v < 0 ∨ (0 ≤ v ∧ v ≤ a ∧ l.length ≤ 1048576)) := by
  unfold maxLen at hl
  unfold laws_szFixedS.f
  rw [wr64 (x := a - (l.length : Int)) (by omega) (by omega)]
  exact T_dec (fun _ => T_ret (.inl (by omega))) (fun h => T_ret (.inr ⟨by omega, by omega, by omega⟩))
theorem laws_szPool.ev (c0 : Int) (c1 : Int) (c2 : List (Int × Int × Int)) (c3 : List (Int × Int)) (a : Int) (h2 : c2.length ≤ maxLen) (h3 : c3.length ≤ maxLen) (hA : 0 ≤ a) (hB : a ≤ 1048576) : Tells F0 (fun k => laws_szPool.f k c0 c1 c2 c3 a) (fun v => v < 0 ∨ (0 ≤ v ∧ v ≤ a ∧ c2.length ≤ 1048576 ∧ c3.length ≤ 1048576)) := by
  unfold laws_szPool.f
  refine T_bind (laws_szLeaseS.ev c2 _ (by omega) (by omega) h2) fun v0 q0 => T_dec (fun h => T_ret (.inl (by omega))) fun e0 => ?_
  replace q0 := q0.resolve_left (by omega)
  refine T_bind (laws_szFixedS.ev c3 _ (by omega) (by omega) h3) fun v1 q1 => T_dec (fun h => T_ret (.inl (by omega))) fun e1 => ?_
  replace q1 := q1.resolve_left (by omega)
  exact T_ret (.inr ⟨by omega, by omega, by omega, by omega⟩)
theorem laws_toPrefix.one (k : Nat) (c0 : Int) (c1 : Int) : laws_toPrefix.f k c0 c1 = some (c0, c1) := rfl
theorem laws_toLease.one (k : Nat) (c0 : Int) (c1 : Int) (c2 : Int) : laws_toLease.f k c0 c1 c2 = some (c0, c1, c2) := rfl
theorem laws_toLeaseS.ev (l : List (Int × Int × Int)) (hn : l.length ≤ 1048576) : Tells F0 (fun k => laws_toLeaseS.f k l) (· = l) := by
  have h := T_loop (F := F0) (fun k j i => laws_toLeaseS.l0 k j ((i : Int), l, l.take i ++ List.replicate (l.length - i) ((0 : Int), (0 : Int), (0 : Int)))) l.length (fun _ r => r = l) (fun i hi he => by
    dsimp only [laws_toLeaseS.l0, laws_toLeaseS.s0]
    simp only [laws_toLease.one, Int.toNat_natCast, Option.bind_some]
    refine T_pos (by omega) (T_get hi (T_get (by simp; omega) ?_))
    rw [wrs hi (by omega)]
    have e := set_copy l ((0 : Int), (0 : Int), (0 : Int)) i hi
    refine T_eq (fun x => congrArg (fun q => laws_toLeaseS.l0 x.1 x.2 (((i + 1 : Nat) : Int), l, q)) e) he) (by
    dsimp only [laws_toLeaseS.l0, laws_toLeaseS.s0]
    exact T_neg (by omega) (T_ret (by simp))) 0 (Nat.zero_le _)
  unfold laws_toLeaseS.f
  refine T_and (by omega) (by omega) (T_in (g := fun x j => laws_toLeaseS.l0 x j _) ?_ (fun k => k) (fun _ _ h => h))
  simpa using h
theorem laws_toFixed.one (k : Nat) (c0 : Int) (c1 : Int) : laws_toFixed.f k c0 c1 = some (c0, c1) := rfl
theorem laws_toFixedS.ev (l : List (Int × Int)) (hn : l.length ≤ 1048576) : Tells F0 (fun k => laws_toFixedS.f k l) (· = l) := by
  have h := T_loop (F := F0) (fun k j i => laws_toFixedS.l0 k j ((i : Int), l, l.take i ++ List.replicate (l.length - i) ((0 : Int), (0 : Int)))) l.length (fun _ r => r = l) (fun i hi he => by
    dsimp only [laws_toFixedS.l0, laws_toFixedS.s0]
    simp only [laws_toFixed.one, Int.toNat_natCast, Option.bind_some]
    refine T_pos (by omega) (T_get hi (T_get (by simp; omega) ?_))
    rw [wrs hi (by omega)]
    have e := set_copy l ((0 : Int), (0 : Int)) i hi
    refine T_eq (fun x => congrArg (fun q => laws_toFixedS.l0 x.1 x.2 (((i + 1 : Nat) : Int), l, q)) e) he) (by
    dsimp only [laws_toFixedS.l0, laws_toFixedS.s0]
    exact T_neg (by omega) (T_ret (by simp))) 0 (Nat.zero_le _)
  unfold laws_toFixedS.f
  refine T_and (by omega) (by omega) (T_in (g := fun x j => laws_toFixedS.l0 x j _) ?_ (fun k => k) (fun _ _ h => h))
  simpa using h
theorem laws_toPool.ev (c0 : Int) (c1 : Int) (c2 : List (Int × Int × Int)) (c3 : List (Int × Int)) (h2 : c2.length ≤ 1048576) (h3 : c3.length ≤ 1048576) : Tells F0 (fun k => laws_toPool.f k c0 c1 c2 c3) (· = (c0, c1, c2, c3)) := by
  unfold laws_toPool.f
  simp only [laws_toPrefix.one, Option.bind_some]
  refine T_bindE (laws_toLeaseS.ev _ h2) ?_
  refine T_bindE (laws_toFixedS.ev _ h3) ?_
  exact T_ret rfl
theorem laws_eqPrefix.refl (k : Nat) (c0 : Int) (c1 : Int) : laws_eqPrefix.f k c0 c1 c0 c1 = some true := by simp [laws_eqPrefix.f]
theorem laws_eqLease.refl (k : Nat) (c0 : Int) (c1 : Int) (c2 : Int) : laws_eqLease.f k c0 c1 c2 c0 c1 c2 = some true := by simp [laws_eqLease.f]
theorem laws_eqLeaseS.ev (l : List (Int × Int × Int)) (hn : l.length ≤ 1000000000000000000) : Tells F0 (fun k => laws_eqLeaseS.f k l l) (· = true) := by
  have h := T_loop (F := F0) (fun k j i => laws_eqLeaseS.l0 k j ((i : Int), l, l)) l.length (fun _ r => r = true) (fun i hi he => by
    dsimp only [laws_eqLeaseS.l0, laws_eqLeaseS.s0]
    simp only [Int.toNat_natCast]
    refine T_pos (by omega) (T_get hi (T_get hi ?_))
    simp only [laws_eqLease.refl, Option.bind_some]
    refine T_same rfl ?_
    rw [wrs hi (by omega)]
    exact he) (by
    dsimp only [laws_eqLeaseS.l0, laws_eqLeaseS.s0]
    exact T_neg (by omega) (T_ret rfl)) 0 (Nat.zero_le _)
  unfold laws_eqLeaseS.f
  exact T_same (by simp) (T_in (g := fun x j => laws_eqLeaseS.l0 x j _) h (fun k => k) (fun _ _ h => h))
theorem laws_eqFixed.refl (k : Nat) (c0 : Int) (c1 : Int) : laws_eqFixed.f k c0 c1 c0 c1 = some true := by simp [laws_eqFixed.f]
theorem laws_eqFixedS.ev (l : List (Int × Int)) (hn : l.length ≤ 1000000000000000000) : Tells F0 (fun k => laws_eqFixedS.f k l l) (· = true) := by
  have h := T_loop (F := F0) (fun k j i => laws_eqFixedS.l0 k j ((i : Int), l, l)) l.length (fun _ r => r = true) (fun i hi he => by
    dsimp only [laws_eqFixedS.l0, laws_eqFixedS.s0]
    simp only [Int.toNat_natCast]
    refine T_pos (by omega) (T_get hi (T_get hi ?_))
    simp only [laws_eqFixed.refl, Option.bind_some]
    refine T_same rfl ?_
    rw [wrs hi (by omega)]
    exact he) (by
    dsimp only [laws_eqFixedS.l0, laws_eqFixedS.s0]
    exact T_neg (by omega) (T_ret rfl)) 0 (Nat.zero_le _)
  unfold laws_eqFixedS.f
  exact T_same (by simp) (T_in (g := fun x j => laws_eqFixedS.l0 x j _) h (fun k => k) (fun _ _ h => h))
theorem laws_eqPool.ev (c0 : Int) (c1 : Int) (c2 : List (Int × Int × Int)) (c3 : List (Int × Int)) (h2 : c2.length ≤ 1000000000000000000) (h3 : c3.length ≤ 1000000000000000000) : Tells F0 (fun k => laws_eqPool.f k c0 c1 c2 c3 c0 c1 c2 c3) (· = true) := by
  unfold laws_eqPool.f
  simp only [laws_eqPrefix.refl, Option.bind_some]
  refine T_same rfl ?_
  refine T_bindE (laws_eqLeaseS.ev _ h2) ?_
  refine T_same rfl ?_
  refine T_bindE (laws_eqFixedS.ev _ h3) ?_
  refine T_same rfl ?_
  exact T_ret rfl
theorem in_eq (k : Nat) (n a b : Int) : spec_l01In.f k n a b = some (decide (a ≤ n ∧ n ≤ b)) := by
  unfold spec_l01In.f
  by_cases h : n ≥ a <;> by_cases h' : n ≤ b <;> simp [h, h'] <;> omega
theorem within_eq (k : Nat) (n a b : Int) : impl_within.f k n a b = some (decide (a ≤ n ∧ n ≤ b)) := by
  unfold impl_within.f
  by_cases h : n ≥ a <;> by_cases h' : n ≤ b <;> simp [h, h'] <;> omega

def PfxP (a n : Int) : Prop := (0 ≤ a ∧ a ≤ 4294967295) ∧ (0 ≤ n ∧ n ≤ 32) ∧ a % 2 ^ (32 - n).toNat = 0
def InP (p n a : Int) : Prop := PfxP p n ∧ (0 ≤ a ∧ a ≤ 4294967295) ∧ a - a % 2 ^ (32 - n).toNat = p
instance decPfxP (a n : Int) : Decidable (PfxP a n) := by unfold PfxP; infer_instance
instance decInP (p n a : Int) : Decidable (InP p n a) := by unfold InP; infer_instance
theorem pow_rng (m : Nat) (h : m ≤ 32) : (1 : Int) ≤ 2 ^ m ∧ (2 : Int) ^ m ≤ 4294967296 := by
  have h1 : 2 ^ m ≤ 2 ^ 32 := Nat.pow_le_pow_right (by decide) h
  have h2 : 1 ≤ 2 ^ m := Nat.one_le_two_pow
  have e : ((2 ^ m : Nat) : Int) = (2 : Int) ^ m := by simp
  omega
theorem mask_nat (i : Nat) : ((2 : Int) ^ i - 1) = ((2 ^ i - 1 : Nat) : Int) := by
  have hpn : 1 ≤ 2 ^ i := Nat.one_le_two_pow
  rw [Int.natCast_sub hpn]; simp
theorem bv_nat (a : Nat) (h : a < 18446744073709551616) : (BitVec.ofInt IntKind.i64.bits (a : Int)).toNat = a := by
  show (BitVec.ofInt 64 (a : Int)).toNat = a
  rw [BitVec.ofInt_natCast, BitVec.toNat_ofNat, Nat.mod_eq_of_lt h]
theorem and_mask (i : Nat) (hi : i ≤ 32) (x : Int) (h₀ : 0 ≤ x) (h₁ : x ≤ 4294967295) : (((BitVec.ofInt IntKind.i64.bits x) &&& (BitVec.ofInt IntKind.i64.bits (2 ^ i - 1))).toNat : Int) = x % 2 ^ i := by
  obtain ⟨a, rfl⟩ := Int.eq_ofNat_of_zero_le h₀
  have hb : 2 ^ i ≤ 2 ^ 32 := Nat.pow_le_pow_right (by decide) hi
  rw [mask_nat, BitVec.toNat_and, bv_nat a (by omega), bv_nat _ (by omega), Nat.and_two_pow_sub_one_eq_mod]
  simp
theorem andNot_mask (i : Nat) (hi : i ≤ 32) (x : Int) (h₀ : 0 ≤ x) (h₁ : x ≤ 4294967295) : (((BitVec.ofInt IntKind.i64.bits x) &&& ~~~(BitVec.ofInt IntKind.i64.bits (2 ^ i - 1))).toNat : Int) = x - x % 2 ^ i := by
  have e1 := and_mask i hi x h₀ h₁
  obtain ⟨a, rfl⟩ := Int.eq_ofNat_of_zero_le h₀
  have hb : 2 ^ i ≤ 2 ^ 32 := Nat.pow_le_pow_right (by decide) hi
  have e2 : (BitVec.ofInt IntKind.i64.bits (a : Int) &&& BitVec.ofInt IntKind.i64.bits (2 ^ i - 1)) + (BitVec.ofInt IntKind.i64.bits (a : Int) &&& ~~~ (BitVec.ofInt IntKind.i64.bits (2 ^ i - 1))) = BitVec.ofInt IntKind.i64.bits (a : Int) := by
    generalize BitVec.ofInt IntKind.i64.bits (a : Int) = u
    generalize BitVec.ofInt IntKind.i64.bits (2 ^ i - 1) = v
    rw [BitVec.add_eq_or_of_and_eq_zero]
    · ext j h
      simp
      cases (u[j]) <;> simp
    · ext j h
      simp
      cases (u[j]) <;> simp
  have e3 := congrArg BitVec.toNat e2
  rw [BitVec.toNat_add, bv_nat a (by omega)] at e3
  have h4 : (BitVec.ofInt IntKind.i64.bits (a : Int) &&& ~~~ (BitVec.ofInt IntKind.i64.bits (2 ^ i - 1))).toNat ≤ a := by
    rw [BitVec.toNat_and, bv_nat a (by omega)]
    exact Nat.and_le_left
  have h5 : (a : Int) % 2 ^ i ≤ a := by
    have : ((a % 2 ^ i : Nat) : Int) = (a : Int) % 2 ^ i := by simp
    have := Nat.mod_le a (2 ^ i)
    omega
  have h6 : 0 ≤ (a : Int) % 2 ^ i := Int.emod_nonneg _ (by have := pow_rng i hi; omega)
  have e4 : (2 : Nat) ^ IntKind.i64.bits = 18446744073709551616 := by decide
  rw [e4] at e3
  rw [Nat.mod_eq_of_lt (by omega)] at e3
  omega
theorem or_mask (i : Nat) (hi : i ≤ 32) (x : Int) (h₀ : 0 ≤ x) (h₁ : x ≤ 4294967295) (hm : x % 2 ^ i = 0) : (((BitVec.ofInt IntKind.i64.bits x) ||| (BitVec.ofInt IntKind.i64.bits (2 ^ i - 1))).toNat : Int) = x + 2 ^ i - 1 := by
  obtain ⟨a, rfl⟩ := Int.eq_ofNat_of_zero_le h₀
  have hb : 2 ^ i ≤ 2 ^ 32 := Nat.pow_le_pow_right (by decide) hi
  have hpn : 1 ≤ 2 ^ i := Nat.one_le_two_pow
  have hmn : a % 2 ^ i = 0 := by
    have : ((a % 2 ^ i : Nat) : Int) = (a : Int) % 2 ^ i := by simp
    omega
  have hd : a = 2 ^ i * (a / 2 ^ i) := by have := Nat.div_add_mod a (2 ^ i); omega
  rw [mask_nat, BitVec.toNat_or, bv_nat a (by omega), bv_nat _ (by omega), hd, ← Nat.two_pow_add_eq_or_of_lt (by omega : 2 ^ i - 1 < 2 ^ i)]
  rw [← hd]
  have : ((2 ^ i : Nat) : Int) = (2 : Int) ^ i := by simp
  omega
theorem impl_AddrOk_eq (k : Nat) (a : Int) : impl_AddrOk.f k a = some (decide (0 ≤ a ∧ a ≤ 4294967295)) := by
  unfold impl_AddrOk.f
  rw [within_eq]; rfl
theorem spec_AddrOk_eq (k : Nat) (a : Int) : spec_AddrOk.f k a = some (decide (0 ≤ a ∧ a ≤ 4294967295)) := by
  unfold spec_AddrOk.f
  rw [in_eq]; rfl
theorem lastBits_eq (k : Nat) (n : Int) (h0 : 0 ≤ n) (h1 : n ≤ 32) : impl_lastBits.f k n = some (2 ^ (32 - n).toNat - 1) := by
  unfold impl_lastBits.f
  have hp := pow_rng (32 - n).toNat (by omega)
  rw [wr64 (x := 32 - n) (by omega) (by omega), show min (32 - n).toNat IntKind.i64.bits = (32 - n).toNat from Nat.min_eq_left (by show _ ≤ 64; omega), Int.one_mul, wr64 (x := 2 ^ (32 - n).toNat) (by omega) (by omega), wr64 (by omega) (by omega)]
  have : decide (32 - n < 0) = false := decide_eq_false (by omega)
  rw [this]; rfl
theorem impl_PrefixOk_eq (k : Nat) (a n : Int) : impl_PrefixOk.f k a n = some (decide (PfxP a n)) := by
  unfold impl_PrefixOk.f
  simp only [impl_AddrOk_eq, within_eq, Option.bind_some]
  by_cases h1 : 0 ≤ a ∧ a ≤ 4294967295
  · by_cases h2 : 0 ≤ n ∧ n ≤ 32
    · have hp := pow_rng (32 - n).toNat (by omega)
      have hm0 := Int.emod_nonneg a (show (2 : Int) ^ (32 - n).toNat ≠ 0 by omega)
      have hm1 := Int.emod_lt_of_pos a (show (0 : Int) < 2 ^ (32 - n).toNat by omega)
      rw [decide_eq_true h1, decide_eq_true h2]
      simp only [cond_true, lastBits_eq k n h2.1 h2.2, Option.bind_some]
      rw [and_mask _ (by omega) a h1.1 h1.2, wr64 (by omega) (by omega)]
      congr 1
      by_cases h3 : a % 2 ^ (32 - n).toNat = 0
      · rw [decide_eq_true (show PfxP a n from ⟨h1, h2, h3⟩)]; simp [h3]
      · rw [decide_eq_false (show ¬ PfxP a n from fun c => h3 c.2.2)]; simp [h3]
    · rw [decide_eq_true h1, decide_eq_false h2, decide_eq_false (show ¬ PfxP a n from fun c => h2 c.2.1)]; rfl
  · rw [decide_eq_false h1, decide_eq_false (show ¬ PfxP a n from fun c => h1 c.1)]; rfl
theorem impl_InPrefix_eq (k : Nat) (p n a : Int) : impl_InPrefix.f k p n a = some (decide (InP p n a)) := by
  unfold impl_InPrefix.f
  simp only [impl_PrefixOk_eq, impl_AddrOk_eq, Option.bind_some]
  by_cases h1 : PfxP p n
  · by_cases h2 : 0 ≤ a ∧ a ≤ 4294967295
    · have hn := h1.2.1
      have hp := pow_rng (32 - n).toNat (by omega)
      have hm0 := Int.emod_nonneg a (show (2 : Int) ^ (32 - n).toNat ≠ 0 by omega)
      have hm1 := Int.emod_lt_of_pos a (show (0 : Int) < 2 ^ (32 - n).toNat by omega)
      rw [decide_eq_true h1, decide_eq_true h2]
      simp only [cond_true, lastBits_eq k n hn.1 hn.2, Option.bind_some]
      rw [andNot_mask _ (by omega) a h2.1 h2.2, wr64 (by omega) (by omega)]
      congr 1
      by_cases h3 : a - a % 2 ^ (32 - n).toNat = p
      · rw [decide_eq_true (show InP p n a from ⟨h1, h2, h3⟩)]; simp [h3]
      · rw [decide_eq_false (show ¬ InP p n a from fun c => h3 c.2.2)]; simp [h3]
    · rw [decide_eq_true h1, decide_eq_false h2, decide_eq_false (show ¬ InP p n a from fun c => h2 c.2.1)]; rfl
  · rw [decide_eq_false h1, decide_eq_false (show ¬ InP p n a from fun c => h1 c.1)]; rfl
theorem spec_l08Size.ev (n : Int) (h0 : 0 ≤ n) (h1 : n ≤ 32) : Tells F0 (fun k => spec_l08Size.f k n) (· = 2 ^ (32 - n).toNat) := by
  obtain ⟨m, rfl⟩ := Int.eq_ofNat_of_zero_le h0
  have hd : ∀ j : Fin 32, IntKind.i64.wrap (2 * 2 ^ j.val) = 2 ^ (j.val + 1) := by decide +kernel
  have h := T_loop (F := F0) (fun k j i => spec_l08Size.l0 k j (2 ^ i, ((m + i : Nat) : Int))) (32 - m) (fun _ r => r = 2 ^ (32 - m)) (fun i hi he => by
    dsimp only [spec_l08Size.l0, spec_l08Size.s0]
    refine T_pos (by omega) ?_
    rw [hd ⟨i, by omega⟩, wrn (by omega)]
    exact he) (by
    dsimp only [spec_l08Size.l0, spec_l08Size.s0]
    exact T_neg (by omega) (T_ret rfl)) 0 (Nat.zero_le _)
  unfold spec_l08Size.f
  rw [show (32 - (m : Int)).toNat = 32 - m by omega]
  exact T_in (g := fun x j => spec_l08Size.l0 x j _) (by simpa using h) (fun k => k) (fun _ _ h => h)
theorem spec_PrefixOk.ev (a n : Int) : Tells F0 (fun k => spec_PrefixOk.f k a n) (· = decide (PfxP a n)) := by
  unfold spec_PrefixOk.f
  simp only [spec_AddrOk_eq, in_eq, Option.bind_some]
  refine T_dec (fun h1 => T_dec (fun h2 => ?_) fun h => T_ret (decide_eq_false fun c => h c.2.1).symm) fun h => T_ret (decide_eq_false fun c => h c.1).symm
  refine T_bindE (spec_l08Size.ev n h2.1 h2.2) ?_
  have hp := pow_rng (32 - n).toNat (by omega)
  refine T_false (by simp; omega) (T_ret ?_)
  rw [Int.tmod_eq_emod_of_nonneg h1.1]
  by_cases h3 : a % 2 ^ (32 - n).toNat = 0
  · rw [decide_eq_true (show PfxP a n from ⟨h1, h2, h3⟩)]; simp [h3]
  · rw [decide_eq_false (show ¬ PfxP a n from fun c => h3 c.2.2)]; simp [h3]
theorem spec_InPrefix.ev (p n a : Int) : Tells F0 (fun k => spec_InPrefix.f k p n a) (· = decide (InP p n a)) := by
  unfold spec_InPrefix.f
  refine T_bindE (spec_PrefixOk.ev p n) ?_
  simp only [spec_AddrOk_eq, Option.bind_some]
  refine T_dec (fun h1 => T_dec (fun h2 => ?_) fun h => T_ret (decide_eq_false fun c => h c.2.1).symm) fun h => T_ret (decide_eq_false fun c => h c.1).symm
  have hn := h1.2.1
  refine T_bindE (spec_l08Size.ev n hn.1 hn.2) ?_
  have hp := pow_rng (32 - n).toNat (by omega)
  have hm0 := Int.emod_nonneg a (show (2 : Int) ^ (32 - n).toNat ≠ 0 by omega)
  have hm1 := Int.emod_lt_of_pos a (show (0 : Int) < 2 ^ (32 - n).toNat by omega)
  refine T_false (by simp; omega) (T_ret ?_)
  rw [Int.tmod_eq_emod_of_nonneg h2.1, wr64 (by omega) (by omega)]
  by_cases h3 : a - a % 2 ^ (32 - n).toNat = p
  · rw [decide_eq_true (show InP p n a from ⟨h1, h2, h3⟩)]; simp [h3]
  · rw [decide_eq_false (show ¬ InP p n a from fun c => h3 c.2.2)]; simp [h3]

theorem isId_eq (k : Nat) (n : Int) : impl_isId.f k n = some (decide (1 ≤ n ∧ n ≤ 99)) := by
  unfold impl_isId.f
  rw [within_eq]; rfl

theorem take_filter_succ {α : Type} (p : α → Bool) (l : List α) (i : Nat) (h : i < l.length) : (l.take (i + 1)).filter p = (l.take i).filter p ++ (if p l[i] then [l[i]] else []) := by
  rw [List.take_succ_eq_append_getElem h, List.filter_append]
  cases e : p l[i] <;> simp [e]
theorem drop_get {α : Type} {l l' : List α} {j : Nat} (h : l'.drop j = l.drop j) (hj : j < l.length) (hj' : j < l'.length) : l'[j] = l[j] := by
  have := congrArg (fun x => x[0]?) h
  simp only [List.getElem?_drop, Nat.add_zero, List.getElem?_eq_getElem hj, List.getElem?_eq_getElem hj'] at this
  exact Option.some.inj this
theorem set_take_succ {α : Type} (l : List α) (i : Nat) (x : α) (h : i < l.length) : (l.set i x).take (i + 1) = l.take i ++ [x] := by
  rw [List.take_succ_eq_append_getElem (by simpa using h), List.take_set_of_le (Nat.le_refl _), List.getElem_set_self]

def impl_leaseOf_1.p (c0 : Int) (x : Int × Int × Int) : Bool := (x.2.1 == c0)
theorem impl_leaseOf_1.ev (k : Nat) (x : Int × Int × Int) (c0 : Int) : impl_leaseOf_1.f k x.1 x.2.1 x.2.2 c0 = some (impl_leaseOf_1.p c0 x, c0) := rfl
theorem slices_IndexFunc_impl_Lease_impl_Lease_f114.ev (l : List (Int × Int × Int)) (c0 : Int) (hn : l.length ≤ 1000000000000000000) : Tells F0 (fun k => slices_IndexFunc_impl_Lease_impl_Lease_f114.f k l c0) (· = (if l.findIdx (impl_leaseOf_1.p c0) = l.length then (-1 : Int) else (l.findIdx (impl_leaseOf_1.p c0) : Int), c0)) := by
  have h := T_loop (F := F0) (fun k j i => slices_IndexFunc_impl_Lease_impl_Lease_f114.l0 k j ((l.length : Int), (i : Int), l, c0)) l.length (fun i r => (∀ m (h : m < l.length), m < i → impl_leaseOf_1.p c0 l[m] = false) → r = (if l.findIdx (impl_leaseOf_1.p c0) = l.length then (-1 : Int) else (l.findIdx (impl_leaseOf_1.p c0) : Int), c0)) (fun i hi he => by
    dsimp only [slices_IndexFunc_impl_Lease_impl_Lease_f114.l0, slices_IndexFunc_impl_Lease_impl_Lease_f114.s0]
    simp only [Int.toNat_natCast, impl_leaseOf_1.ev, Option.bind_some]
    refine T_pos (by omega) (T_get hi (T_bif (fun hp => T_ret fun hm => ?_) fun hp => ?_))
    · have e : l.findIdx (impl_leaseOf_1.p c0) = i := (List.findIdx_eq hi).2 ⟨hp, fun j hj => hm j (by omega) hj⟩
      rw [e, if_neg (by omega)]
    · rw [wrs hi (by omega)]
      refine T_mono he fun r hr hm => hr fun m h hmi => ?_
      by_cases e : m = i
      · subst e; exact hp
      · exact hm m h (by omega)) (by
    dsimp only [slices_IndexFunc_impl_Lease_impl_Lease_f114.l0, slices_IndexFunc_impl_Lease_impl_Lease_f114.s0]
    refine T_neg (by omega) (T_ret fun hm => ?_)
    have e : l.findIdx (impl_leaseOf_1.p c0) = l.length := List.findIdx_eq_length.2 fun x hx => by
      obtain ⟨j, hj, rfl⟩ := List.mem_iff_getElem.1 hx
      exact hm j hj hj
    rw [if_pos e]) 0 (Nat.zero_le _)
  unfold slices_IndexFunc_impl_Lease_impl_Lease_f114.f
  exact T_in (g := fun x j => slices_IndexFunc_impl_Lease_impl_Lease_f114.l0 x j _) (T_mono h fun r hr => hr (fun m h hm => absurd hm (by omega))) (fun k => k) (fun _ _ h => h)
def leaseAt (ls : List (Int × Int × Int)) (who : Int) : Int := if ls.findIdx (impl_leaseOf_1.p who) = ls.length then (-1 : Int) else (ls.findIdx (impl_leaseOf_1.p who) : Int)
theorem impl_leaseOf.ev (pa pl : Int) (ls : List (Int × Int × Int)) (fx : List (Int × Int)) (who : Int) (h : ls.length ≤ 1048576) : Tells F0 (fun k => impl_leaseOf.f k pa pl ls fx who) (· = leaseAt ls who) := by
  unfold impl_leaseOf.f
  exact T_bindE (slices_IndexFunc_impl_Lease_impl_Lease_f114.ev ls who (by omega)) (T_ret rfl)
theorem findIdx_le' {α : Type} {p : α → Bool} {l : List α} {i : Nat} (h : i < l.length) (hp : p l[i] = true) : l.findIdx p ≤ i := by
  rcases Nat.lt_or_ge i (l.findIdx p) with k | k
  · have := List.not_of_lt_findIdx k
    rw [hp] at this; cases this
  · exact k
theorem leaseAt_iff (ls : List (Int × Int × Int)) (i : Nat) (h : i < ls.length) : leaseAt ls (ls[i]).2.1 = (i : Int) ↔ ∀ m (hm : m < i), (ls[m]).2.1 ≠ (ls[i]).2.1 := by
  have hp : impl_leaseOf_1.p (ls[i]).2.1 ls[i] = true := by simp [impl_leaseOf_1.p]
  have hle : ls.findIdx (impl_leaseOf_1.p (ls[i]).2.1) ≤ i := findIdx_le' h hp
  unfold leaseAt
  rw [if_neg (by omega)]
  constructor
  · intro e m hm c
    have e' : ls.findIdx (impl_leaseOf_1.p (ls[i]).2.1) = i := by omega
    have := ((List.findIdx_eq h).1 e').2 m hm
    simp [impl_leaseOf_1.p, c] at this
  · intro hh
    have := (List.findIdx_eq (p := impl_leaseOf_1.p (ls[i]).2.1) h).2 ⟨hp, fun j hj => by simpa [impl_leaseOf_1.p] using hh j hj⟩
    omega

abbrev Lse := Int × Int × Int
abbrev Fxd := Int × Int
def HostP (pa pl a : Int) : Prop := InP pa pl a ∧ a ≠ pa ∧ a ≠ pa + 2 ^ (32 - pl).toNat - 1
instance (pa pl a : Int) : Decidable (HostP pa pl a) := by unfold HostP; infer_instance
theorem impl_isHost_eq (k : Nat) (pa pl a : Int) : impl_isHost.f k pa pl a = some (decide (HostP pa pl a)) := by
  unfold impl_isHost.f
  simp only [impl_InPrefix_eq, Option.bind_some]
  by_cases h1 : InP pa pl a
  · have hn := h1.1.2.1
    have ha := h1.1.1
    have hp := pow_rng (32 - pl).toNat (by omega)
    rw [decide_eq_true h1]
    simp only [cond_true, lastBits_eq k pl hn.1 hn.2, Option.bind_some]
    rw [or_mask _ (by omega) pa ha.1 ha.2 h1.1.2.2, wr64 (by omega) (by omega)]
    by_cases h2 : a = pa
    · rw [decide_eq_false (show ¬ HostP pa pl a from fun c => c.2.1 h2)]; simp [h2]
    · have e2 : (a != pa) = true := by simpa using h2
      by_cases h3 : a = pa + 2 ^ (32 - pl).toNat - 1
      · rw [decide_eq_false (show ¬ HostP pa pl a from fun c => c.2.2 h3), e2]; simp [← h3]
      · rw [decide_eq_true (show HostP pa pl a from ⟨h1, h2, h3⟩), e2]
        have e3 : (a != pa + 2 ^ (32 - pl).toNat - 1) = true := by simpa using h3
        rw [e3]; rfl
  · rw [decide_eq_false h1, decide_eq_false (show ¬ HostP pa pl a from fun c => h1 c.1)]; rfl
theorem spec_l11Inside.ev (pa pl : Int) (ls : List Lse) (fx : List Fxd) (a : Int) : Tells F0 (fun k => spec_l11Inside.f k pa pl ls fx a) (· = decide (HostP pa pl a)) := by
  unfold spec_l11Inside.f
  refine T_bindE (spec_InPrefix.ev pa pl a) (T_dec (fun h1 => T_bne (fun h2 => ?_) fun h2 => T_ret (decide_eq_false fun c => c.2.1 h2).symm) fun h1 => T_ret (decide_eq_false fun c => h1 c.1).symm)
  have hn := h1.1.2.1
  have ha := h1.1.1
  have hp := pow_rng (32 - pl).toNat (by omega)
  refine T_bindE (spec_l08Size.ev pl hn.1 hn.2) (T_ret ?_)
  rw [wr64 (x := pa + 2 ^ (32 - pl).toNat) (by omega) (by omega), wr64 (by omega) (by omega)]
  by_cases h3 : a = pa + 2 ^ (32 - pl).toNat - 1
  · rw [decide_eq_false (show ¬ HostP pa pl a from fun c => c.2.2 h3)]; simp [← h3]
  · rw [decide_eq_true (show HostP pa pl a from ⟨h1, h2, h3⟩)]; simpa using h3
def fixFor (fx : List Fxd) (a : Int) : Int := match fx.find? (fun f => f.2 == a) with | some f => f.1 | none => 0
theorem spec_l11FixedFor.ev (pa pl : Int) (ls : List Lse) (fx : List Fxd) (a : Int) (h : fx.length ≤ 1048576) : Tells F0 (fun k => spec_l11FixedFor.f k pa pl ls fx a) (· = fixFor fx a) := by
  have hh := T_loop (F := F0) (fun k j i => spec_l11FixedFor.l0 k j (a, (i : Int), ls, fx, pa, pl)) fx.length (fun i r => r = match (fx.drop i).find? (fun f => f.2 == a) with | some f => f.1 | none => 0) (fun i hi he => by
    rw [find_step _ _ _ hi]
    dsimp only [spec_l11FixedFor.l0, spec_l11FixedFor.s0]
    simp only [Int.toNat_natCast]
    rw [wrs hi (by omega)]
    exact T_pos (by omega) (T_get hi (T_beq (fun e => T_get hi (T_ret (by simp [e]))) fun e => by rw [if_neg (by simpa using e)]; exact he))) (by
    dsimp only [spec_l11FixedFor.l0, spec_l11FixedFor.s0]
    exact T_neg (by omega) (T_ret (by simp))) 0 (Nat.zero_le _)
  unfold spec_l11FixedFor.f
  exact T_in (g := fun x j => spec_l11FixedFor.l0 x j _) hh (fun k => k) (fun _ _ h => h)
theorem impl_fixedFor.ev (pa pl : Int) (ls : List Lse) (fx : List Fxd) (a : Int) (h : fx.length ≤ 1048576) : Tells F0 (fun k => impl_fixedFor.f k pa pl ls fx a) (· = fixFor fx a) := by
  have hh := T_loop (F := F0) (fun k j i => impl_fixedFor.l0 k j (a, (fx.length : Int), (i : Int), ls, fx)) fx.length (fun i r => r = match (fx.drop i).find? (fun f => f.2 == a) with | some f => f.1 | none => 0) (fun i hi he => by
    rw [find_step _ _ _ hi]
    dsimp only [impl_fixedFor.l0, impl_fixedFor.s0]
    simp only [Int.toNat_natCast]
    rw [wrs hi (by omega)]
    exact T_pos (by omega) (T_get hi (T_beq (fun e => T_ret (by simp [e])) fun e => by rw [if_neg (by simpa using e)]; exact he))) (by
    dsimp only [impl_fixedFor.l0, impl_fixedFor.s0]
    exact T_neg (by omega) (T_ret (by simp))) 0 (Nat.zero_le _)
  unfold impl_fixedFor.f
  exact T_in (g := fun x j => impl_fixedFor.l0 x j _) hh (fun k => k) (fun _ _ h => h)
def FixC (pa pl : Int) (fx : List Fxd) (i : Nat) : Prop := ∀ h : i < fx.length, (1 ≤ (fx[i]).1 ∧ (fx[i]).1 ≤ 99) ∧ HostP pa pl (fx[i]).2 ∧ (0 < i → (fx[i - 1]).1 < (fx[i]).1) ∧ fixFor fx (fx[i]).2 = (fx[i]).1
def LeaseC (pa pl : Int) (ls : List Lse) (fx : List Fxd) (i : Nat) : Prop := ∀ h : i < ls.length, HostP pa pl (ls[i]).1 ∧ (1 ≤ (ls[i]).2.1 ∧ (ls[i]).2.1 ≤ 99) ∧ (0 ≤ (ls[i]).2.2 ∧ (ls[i]).2.2 ≤ 1000000000) ∧ (0 < i → (ls[i - 1]).1 < (ls[i]).1) ∧ (fixFor fx (ls[i]).1 = 0 ∨ fixFor fx (ls[i]).1 = (ls[i]).2.1) ∧ ∀ m (hm : m < i), (ls[m]).2.1 ≠ (ls[i]).2.1
def PoolP (pa pl : Int) (ls : List Lse) (fx : List Fxd) : Prop := PfxP pa pl ∧ (24 ≤ pl ∧ pl ≤ 30) ∧ ls.length ≤ 6 ∧ fx.length ≤ 4 ∧ (∀ i, i < fx.length → FixC pa pl fx i) ∧ ∀ i, i < ls.length → LeaseC pa pl ls fx i
section
variable (pa pl : Int) (ls : List Lse) (fx : List Fxd)
theorem spec_PoolOk.ev (h2 : ls.length ≤ 1048576) (h3 : fx.length ≤ 1048576) : Tells F0 (fun k => spec_PoolOk.f k pa pl ls fx) (fun r => r = true ↔ PoolP pa pl ls fx) := by
  have lease : Tells F0 (fun k => spec_PoolOk.l2 k k ((0 : Int), ls, fx, pa, pl)) (fun r => r = true ↔ ∀ i, i < ls.length → LeaseC pa pl ls fx i) := by
    have hh := T_body (F := F0) (fun k j i => spec_PoolOk.l2 k j ((i : Int), ls, fx, pa, pl)) ls.length (LeaseC pa pl ls fx) True (fun i hi P go bad => by
      dsimp only [spec_PoolOk.l2, spec_PoolOk.s2]
      simp only [in_eq, Option.bind_some]
      have inner : (HostP pa pl (ls[i]).1 ∧ (1 ≤ (ls[i]).2.1 ∧ (ls[i]).2.1 ≤ 99) ∧ (0 ≤ (ls[i]).2.2 ∧ (ls[i]).2.2 ≤ 1000000000) ∧ (0 < i → (ls[i - 1]).1 < (ls[i]).1) ∧ (fixFor fx (ls[i]).1 = 0 ∨ fixFor fx (ls[i]).1 = (ls[i]).2.1)) →
          Tells (FS F0) (fun x => spec_PoolOk.l4 x.1 (spec_PoolOk.l2 x.1 x.2) x.1 ((i : Int), (0 : Int), ls, fx, pa, pl, (ls[i]).1, (ls[i]).2.1, (ls[i]).2.2)) P := by
        rintro ⟨q1, q2, q3, q4, q5⟩
        refine T_in (F := FS F0) (g := fun x j => spec_PoolOk.l4 x.1 (spec_PoolOk.l2 x.1 x.2) j _) (T_inner (F := FS F0) (fun x j m => spec_PoolOk.l4 x.1 (spec_PoolOk.l2 x.1 x.2) j ((i : Int), (m : Int), ls, fx, pa, pl, (ls[i]).1, (ls[i]).2.1, (ls[i]).2.2)) i (fun m => ∀ h : m < ls.length, (ls[m]).2.1 ≠ (ls[i]).2.1) (fun m hm hI he => ?_) fun hI => ?_) Prod.fst (fun _ _ h => h.1)
        · dsimp only [spec_PoolOk.l4, spec_PoolOk.s4]
          have hm' : m < ls.length := by omega
          refine T_pos (by omega) (T_at hm' (T_beq (fun e => T_ret (bad fun c => (c hi).2.2.2.2.2 m hm e)) fun e => ?_))
          rw [wrs hm (by omega)]
          exact he fun _ => e
        · dsimp only [spec_PoolOk.l4, spec_PoolOk.s4]
          refine T_neg (by omega) ?_
          rw [wrs hi (by omega)]
          exact T_lift (go fun _ => ⟨q1, q2, q3, q4, q5, fun m hm => hI m hm (by omega)⟩)
      have fix : ∀ Q : Prop, (Q → HostP pa pl (ls[i]).1 ∧ (1 ≤ (ls[i]).2.1 ∧ (ls[i]).2.1 ≤ 99) ∧ (0 ≤ (ls[i]).2.2 ∧ (ls[i]).2.2 ≤ 1000000000) ∧ (0 < i → (ls[i - 1]).1 < (ls[i]).1)) → Q →
          Tells (FS F0) (fun x => (spec_l11FixedFor.f x.1 pa pl ls fx (ls[i]).1).bind fun r => bif r != 0 then (bif r != (ls[i]).2.1 then some false else spec_PoolOk.l4 x.1 (spec_PoolOk.l2 x.1 x.2) x.1 ((i : Int), (0 : Int), ls, fx, pa, pl, (ls[i]).1, (ls[i]).2.1, (ls[i]).2.2)) else spec_PoolOk.l4 x.1 (spec_PoolOk.l2 x.1 x.2) x.1 ((i : Int), (0 : Int), ls, fx, pa, pl, (ls[i]).1, (ls[i]).2.1, (ls[i]).2.2)) P := by
        intro Q hQ q
        obtain ⟨q1, q2, q3, q4⟩ := hQ q
        refine T_bindE (T_call (spec_l11FixedFor.ev pa pl ls fx _ h3) Prod.fst (fun _ _ h => h.1)) (T_bne (fun e => T_bne (fun e2 => T_ret (bad fun c => by have := (c hi).2.2.2.2.1; omega)) fun e2 => inner ⟨q1, q2, q3, q4, .inr e2⟩) fun e => inner ⟨q1, q2, q3, q4, .inl e⟩)
      refine T_pos (by omega) (T_at hi (T_bindE (T_call (spec_l11Inside.ev pa pl ls fx _) Prod.fst (fun _ _ h => h.1)) (T_ndec (fun a1 => T_ndec (fun a2 => T_ndec (fun a3 => T_dec (fun a4 => T_pre (by omega) hi (by omega) (T_dec (fun a5 => T_ret (bad fun c => by have := (c hi).2.2.2.1 (by omega); omega)) fun a5 => ?_)) fun a4 => ?_) fun a3 => T_ret (bad fun c => a3 (c hi).2.2.1)) fun a2 => T_ret (bad fun c => a2 (c hi).2.1)) fun a1 => T_ret (bad fun c => a1 (c hi).1))))
      · exact fix True (fun _ => ⟨a1, a2, a3, fun _ => by omega⟩) trivial
      · exact fix True (fun _ => ⟨a1, a2, a3, fun h => absurd h (by omega)⟩) trivial) (by
      dsimp only [spec_PoolOk.l2, spec_PoolOk.s2]
      exact T_neg (by omega) (T_ret (by simp)))
    exact T_in (g := fun x j => spec_PoolOk.l2 x j _) (T_mono hh fun r hr => by rw [hr]; exact ⟨fun h => h.1, fun h => ⟨h, trivial⟩⟩) (fun k => k) (fun _ _ h => h)
  have fixes := T_body (F := F0) (fun k j i => spec_PoolOk.l0 k j ((i : Int), ls, fx, pa, pl)) fx.length (FixC pa pl fx) (∀ i, i < ls.length → LeaseC pa pl ls fx i) (fun i hi P go bad => by
    dsimp only [spec_PoolOk.l0, spec_PoolOk.s0]
    simp only [in_eq, Option.bind_some]
    rw [wrs hi (by omega)]
    refine T_pos (by omega) (T_at hi (T_ndec (fun a1 => T_bindE (T_call (spec_l11Inside.ev pa pl ls fx _) Prod.fst (fun _ _ h => h.1)) (T_ndec (fun a2 => T_dec (fun a4 => T_pre (by omega) hi (by omega) (T_dec (fun a5 => T_ret (bad fun c => by have := (c hi).2.2.1 (by omega); omega)) fun a5 => T_bindE (T_call (spec_l11FixedFor.ev pa pl ls fx _ h3) Prod.fst (fun _ _ h => h.1)) (T_bne (fun e => T_ret (bad fun c => e (c hi).2.2.2)) fun e => go fun _ => ⟨a1, a2, fun _ => by omega, e⟩))) fun a4 => T_bindE (T_call (spec_l11FixedFor.ev pa pl ls fx _ h3) Prod.fst (fun _ _ h => h.1)) (T_bne (fun e => T_ret (bad fun c => e (c hi).2.2.2)) fun e => go fun _ => ⟨a1, a2, fun h => absurd h (by omega), e⟩)) fun a2 => T_ret (bad fun c => a2 (c hi).2.1))) fun a1 => T_ret (bad fun c => a1 (c hi).1)))) (by
    dsimp only [spec_PoolOk.l0, spec_PoolOk.s0]
    exact T_neg (by omega) (T_call lease Prod.fst (fun _ _ h => h.1)))
  unfold spec_PoolOk.f
  simp only [in_eq, Option.bind_some]
  refine T_bindE (spec_PrefixOk.ev pa pl) (T_ndec (fun a1 => T_ndec (fun a2 => T_dec (fun a3 => T_ret (no_iff fun c => by have := c.2.2.1; omega)) fun a3 => T_dec (fun a4 => T_ret (no_iff fun c => by have := c.2.2.2.1; omega)) fun a4 => T_mono (T_in (g := fun x j => spec_PoolOk.l0 x j _) fixes (fun k => k) (fun _ _ h => h)) fun r hr => ?_) fun a2 => T_ret (no_iff fun c => a2 c.2.1)) fun a1 => T_ret (no_iff fun c => a1 c.1))
  rw [hr]
  exact ⟨fun c => ⟨a1, a2, by omega, by omega, c⟩, fun c => c.2.2.2.2⟩
theorem impl_fixesOk.ev (h3 : fx.length ≤ 1048576) : Tells F0 (fun k => impl_fixesOk.f k pa pl ls fx) (fun r => r = true ↔ (∀ i, i < fx.length → FixC pa pl fx i) ∧ fx.length ≤ 4) := by
  have hh := T_body (F := F0) (fun k j i => impl_fixesOk.l0 k j ((fx.length : Int), (i : Int), ls, fx, pa, pl)) fx.length (FixC pa pl fx) (fx.length ≤ 4) (fun i hi P go bad => by
    dsimp only [impl_fixesOk.l0, impl_fixesOk.s0]
    simp only [isId_eq, impl_isHost_eq, Option.bind_some]
    rw [wrs hi (by omega)]
    exact T_pos (by omega) (T_at hi (T_ndec (fun a1 => T_ndec (fun a2 => T_dec (fun a4 => T_pre (by omega) hi (by omega) (T_dec (fun a5 => T_ret (bad fun c => by have := (c hi).2.2.1 (by omega); omega)) fun a5 => T_bindE (T_call (impl_fixedFor.ev pa pl ls fx _ h3) Prod.fst (fun _ _ h => h.1)) (T_bne (fun e => T_ret (bad fun c => e (c hi).2.2.2)) fun e => go fun _ => ⟨a1, a2, fun _ => by omega, e⟩))) fun a4 => T_bindE (T_call (impl_fixedFor.ev pa pl ls fx _ h3) Prod.fst (fun _ _ h => h.1)) (T_bne (fun e => T_ret (bad fun c => e (c hi).2.2.2)) fun e => go fun _ => ⟨a1, a2, fun h => absurd h (by omega), e⟩)) fun a2 => T_ret (bad fun c => a2 (c hi).2.1)) fun a1 => T_ret (bad fun c => a1 (c hi).1)))) (by
    dsimp only [impl_fixesOk.l0, impl_fixesOk.s0]
    exact T_neg (by omega) (T_ret (by rw [decide_eq_true_eq]; omega)))
  unfold impl_fixesOk.f
  exact T_in (g := fun x j => impl_fixesOk.l0 x j _) hh (fun k => k) (fun _ _ h => h)
theorem impl_PoolOk.ev (h2 : ls.length ≤ 1048576) (h3 : fx.length ≤ 1048576) : Tells F0 (fun k => impl_PoolOk.f k pa pl ls fx) (fun r => r = true ↔ PoolP pa pl ls fx) := by
  have hh := T_body (F := F0) (fun k j i => impl_PoolOk.l0 k j ((ls.length : Int), (i : Int), ls, fx, pa, pl)) ls.length (LeaseC pa pl ls fx) True (fun i hi P go bad => by
    dsimp only [impl_PoolOk.l0, impl_PoolOk.s0]
    simp only [isId_eq, within_eq, impl_isHost_eq, Option.bind_some]
    rw [wrs hi (by omega)]
    have last : (0 < i → (ls[i - 1]).1 < (ls[i]).1) → Tells (FS F0) (fun x => bif !decide (HostP pa pl (ls[i]).1) then some false else bif !decide (1 ≤ (ls[i]).2.1 ∧ (ls[i]).2.1 ≤ 99) then some false else bif !decide (0 ≤ (ls[i]).2.2 ∧ (ls[i]).2.2 ≤ 1000000000) then some false else
        (impl_fixedFor.f x.1 pa pl ls fx (ls[i]).1).bind fun r9 => (impl_leaseOf.f x.1 pa pl ls fx (ls[i]).2.1).bind fun r10 => bif r10 != (i : Int) then some false else bif r9 != 0 then (bif r9 != (ls[i]).2.1 then some false else impl_PoolOk.l0 x.1 x.2 ((ls.length : Int), ((i + 1 : Nat) : Int), ls, fx, pa, pl)) else impl_PoolOk.l0 x.1 x.2 ((ls.length : Int), ((i + 1 : Nat) : Int), ls, fx, pa, pl)) P := by
      intro a0
      refine T_ndec (fun a1 => T_ndec (fun a2 => T_ndec (fun a3 => T_bindE (T_call (impl_fixedFor.ev pa pl ls fx _ h3) Prod.fst (fun _ _ h => h.1)) (T_bindE (T_call (impl_leaseOf.ev pa pl ls fx _ h2) Prod.fst (fun _ _ h => h.1)) (T_bne (fun e => T_ret (bad fun c => e ((leaseAt_iff ls i hi).2 (c hi).2.2.2.2.2))) fun e => ?_))) fun a3 => T_ret (bad fun c => a3 (c hi).2.2.1)) fun a2 => T_ret (bad fun c => a2 (c hi).2.1)) fun a1 => T_ret (bad fun c => a1 (c hi).1)
      have e' := (leaseAt_iff ls i hi).1 e
      exact T_bne (fun e1 => T_bne (fun e2 => T_ret (bad fun c => by have := (c hi).2.2.2.2.1; omega)) fun e2 => go fun _ => ⟨a1, a2, a3, a0, .inr e2, e'⟩) fun e1 => go fun _ => ⟨a1, a2, a3, a0, .inl e1, e'⟩
    exact T_pos (by omega) (T_at hi (T_dec (fun a4 => T_pre (by omega) hi (by omega) (T_dec (fun a5 => T_ret (bad fun c => by have := (c hi).2.2.2.1 (by omega); omega)) fun a5 => last fun _ => by omega)) fun a4 => last fun h => absurd h (by omega)))) (by
    dsimp only [impl_PoolOk.l0, impl_PoolOk.s0]
    exact T_neg (by omega) (T_ret (by simp)))
  unfold impl_PoolOk.f
  simp only [within_eq, impl_PrefixOk_eq, Option.bind_some]
  refine T_ndec (fun a1 => T_ndec (fun a2 => T_bind (impl_fixesOk.ev pa pl ls fx h3) fun r hr => ?_) fun a2 => T_ret (no_iff fun c => a2 c.2.1)) fun a1 => T_ret (no_iff fun c => a1 c.1)
  cases r with
  | false => exact T_true rfl (T_ret (no_iff fun c => by have := hr.2 ⟨c.2.2.2.2.1, c.2.2.2.1⟩; cases this))
  | true =>
  refine T_false rfl (T_dec (fun a3 => T_ret (no_iff fun c => by have := c.2.2.1; omega)) fun a3 => T_mono (T_in (g := fun x j => impl_PoolOk.l0 x j _) hh (fun k => k) (fun _ _ h => h)) fun r2 hr2 => ?_)
  rw [hr2]
  have := hr.1 rfl
  exact ⟨fun c => ⟨a1, a2, by omega, this.2, this.1, c.1⟩, fun c => ⟨c.2.2.2.2.2, trivial⟩⟩
end

open Classical in
noncomputable def poolM (pa pl : Int) (ls : List Lse) (fx : List Fxd) : Bool := decide (PoolP pa pl ls fx)
open Classical in
theorem iff_poolM {pa pl : Int} {ls : List Lse} {fx : List Fxd} {r : Bool} (h : r = true ↔ PoolP pa pl ls fx) : r = poolM pa pl ls fx := by
  by_cases c : PoolP pa pl ls fx
  · have e := h.2 c; subst e; unfold poolM; simp [c]
  · have e : r = false := by
      cases r with
      | false => rfl
      | true => exact absurd (h.1 rfl) c
    subst e; unfold poolM; simp [c]
theorem spec_PoolOk.evM (pa pl : Int) (ls : List Lse) (fx : List Fxd) (h2 : ls.length ≤ 1048576) (h3 : fx.length ≤ 1048576) : Tells F0 (fun k => spec_PoolOk.f k pa pl ls fx) (· = poolM pa pl ls fx) := T_mono (spec_PoolOk.ev pa pl ls fx h2 h3) fun _ h => iff_poolM h
theorem impl_PoolOk.evM (pa pl : Int) (ls : List Lse) (fx : List Fxd) (h2 : ls.length ≤ 1048576) (h3 : fx.length ≤ 1048576) : Tells F0 (fun k => impl_PoolOk.f k pa pl ls fx) (· = poolM pa pl ls fx) := T_mono (impl_PoolOk.ev pa pl ls fx h2 h3) fun _ h => iff_poolM h


theorem FnExactPoolOk : laws_FnExactPoolOk.Goal := by
  intro a0_0 a0_1 a0_2 a0_3 g_a0_0 g_a0_1 g_a0_2 g_a0_3
  replace g_a0_0 := wf64 g_a0_0
  replace g_a0_1 := wf64 g_a0_1
  replace g_a0_2 : a0_2.length ≤ maxLen ∧ True := ⟨g_a0_2.1, trivial⟩
  replace g_a0_3 : a0_3.length ≤ maxLen ∧ True := ⟨g_a0_3.1, trivial⟩
  refine Tells.rounds ?_
  unfold laws_FnExactPoolOk.f
  refine T_bind (laws_szPool.ev a0_0 a0_1 a0_2 a0_3 _ g_a0_2.1 g_a0_3.1 (by omega) (by omega)) fun v1 q1 => T_dec (fun _ => T_ret rfl) fun e1 => ?_
  obtain ⟨_, _, z_a0_2, z_a0_3⟩ := q1.resolve_left (by omega)
  refine T_bindE (laws_toPool.ev a0_0 a0_1 a0_2 a0_3 z_a0_2 z_a0_3) ?_
  refine T_bindE (spec_PoolOk.evM a0_0 a0_1 a0_2 a0_3 z_a0_2 z_a0_3) ?_
  refine T_bindE (laws_toPool.ev a0_0 a0_1 a0_2 a0_3 z_a0_2 z_a0_3) ?_
  refine T_bindE (impl_PoolOk.evM a0_0 a0_1 a0_2 a0_3 z_a0_2 z_a0_3) ?_
  refine T_same (by simp) ?_
  refine T_bindE (laws_toPool.ev a0_0 a0_1 a0_2 a0_3 z_a0_2 z_a0_3) ?_
  refine T_bindE (laws_eqPool.ev a0_0 a0_1 a0_2 a0_3 (by omega) (by omega)) ?_
  refine T_same rfl ?_
  exact T_ret rfl
end Go.Proofs.Ytbddppnhpapfkaa.DI.Pure
