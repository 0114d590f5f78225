/- FnRoutes, the plain part: from some fuel on the law answers true. -/
import Derived.Test.YtfaeklomiofpdaaGoalFnRoutes
import Derived.Test.YtfaeklomiofpdaaKITE
namespace Go.Proofs.Ytfaeklomiofpdaa.DI.Pure
open Go Go.RowKit
set_option linter.unusedVariables false
set_option linter.unusedSimpArgs false
def CurOk (l : List Int) (i : Int) : Prop := 0 ≤ i ∧ i ≤ l.length ∧ l.length ≤ 1048576
theorem bits255 (x : BitVec IntKind.i64.bits) : 0 ≤ IntKind.i64.wrap ((x &&& BitVec.ofInt IntKind.i64.bits (255 : Int)).toNat : Int) ∧ IntKind.i64.wrap ((x &&& BitVec.ofInt IntKind.i64.bits (255 : Int)).toNat : Int) ≤ 255 := by
  have h : (x &&& BitVec.ofInt IntKind.i64.bits (255 : Int)).toNat ≤ 255 := by
    rw [BitVec.toNat_and]
    exact Nat.le_trans Nat.and_le_right (by decide)
  rw [wr64 (by omega) (by omega)]
  omega
theorem spec_l01Byte.ev (l : List Int) (i h : Int) (hc : CurOk l i) : Tells F0 (fun k => spec_l01Byte.f k l i h) (fun r => (0 ≤ r.1 ∧ r.1 ≤ 255) ∧ CurOk r.2.1 r.2.2.1) := by
  unfold spec_l01Byte.f
  obtain ⟨h0, h1, h2⟩ := hc
  obtain ⟨m, rfl⟩ := Int.eq_ofNat_of_zero_le h0
  refine T_dec (fun e => T_get (by omega) (T_ret ⟨bits255 _, ?_⟩)) fun e => T_ret ⟨bits255 _, h0, h1, h2⟩
  show CurOk l (IntKind.i64.wrap ((m : Int) + 1))
  rw [wr64 (by omega) (by omega)]
  exact ⟨by omega, by omega, h2⟩
theorem spec_l01Below.ev (l : List Int) (i h n : Int) (hc : CurOk l i) (hn : n ≤ 9223372036854775807) : Tells F0 (fun k => spec_l01Below.f k l i h n) (fun r => (0 ≤ r.1 ∧ (0 < n → r.1 < n) ∧ (n ≤ 0 → r.1 = 0)) ∧ CurOk r.2.1 r.2.2.1) := by
  unfold spec_l01Below.f
  refine T_dec (fun h1 => T_ret ⟨⟨Int.le_refl _, fun h => by omega, fun _ => rfl⟩, hc⟩) (fun h1 => T_dec (fun h2 => ?_) (fun h2 => ?_))
  · refine T_bind (spec_l01Byte.ev l i h hc) fun r hr => T_beq (fun e => by omega) fun _ => T_ret ⟨?_, hr.2⟩
    dsimp only
    rw [Int.tmod_eq_emod_of_nonneg hr.1.1]
    have a := Int.emod_nonneg r.1 (show n ≠ 0 by omega)
    have b := Int.emod_lt_of_pos r.1 (show 0 < n by omega)
    exact ⟨a, fun _ => b, fun h => by omega⟩
  · refine T_bind (spec_l01Byte.ev l i h hc) fun x hx => T_bind (spec_l01Byte.ev _ _ _ hx.2) fun y hy => T_bind (spec_l01Byte.ev _ _ _ hy.2) fun z hz => T_bind (spec_l01Byte.ev _ _ _ hz.2) fun w hw => T_beq (fun e => by omega) fun _ => T_ret ⟨?_, hw.2⟩
    dsimp only
    rw [wr64 (x := x.1 * 16777216) (by omega) (by omega), wr64 (x := y.1 * 65536) (by omega) (by omega), wr64 (x := z.1 * 256) (by omega) (by omega), wr64 (x := x.1 * 16777216 + y.1 * 65536) (by omega) (by omega), wr64 (x := x.1 * 16777216 + y.1 * 65536 + z.1 * 256) (by omega) (by omega), wr64 (x := x.1 * 16777216 + y.1 * 65536 + z.1 * 256 + w.1) (by omega) (by omega)]
    rw [Int.tmod_eq_emod_of_nonneg (by omega)]
    have a := Int.emod_nonneg (x.1 * 16777216 + y.1 * 65536 + z.1 * 256 + w.1) (show n ≠ 0 by omega)
    have b := Int.emod_lt_of_pos (x.1 * 16777216 + y.1 * 65536 + z.1 * 256 + w.1) (show 0 < n by omega)
    exact ⟨a, fun _ => b, fun h => by omega⟩
theorem spec_l01PickInt.ev (l : List Int) (i h : Int) (p : List Int) (hc : CurOk l i) (hp : 0 < p.length) (hp2 : p.length ≤ 1000) : Tells F0 (fun k => spec_l01PickInt.f k l i h p) (fun r => r.1 ∈ p ∧ CurOk r.2.1 r.2.2.1) := by
  unfold spec_l01PickInt.f
  refine T_bind (spec_l01Below.ev l i h _ hc (by omega)) fun r hr => ?_
  obtain ⟨r1, r2⟩ := r
  obtain ⟨⟨q0, q1, _⟩, q2⟩ := hr
  have q1 := q1 (by omega)
  dsimp only at q0 q1 q2 ⊢
  obtain ⟨m, rfl⟩ := Int.eq_ofNat_of_zero_le q0
  exact T_get (by omega) (T_ret ⟨List.getElem_mem _, q2⟩)
theorem spec_l01New.ev (l : List Int) (hn : l.length ≤ 1048576) : Tells F0 (fun k => spec_l01New.f k l) (fun r => r.1 = l ∧ CurOk r.1 r.2.1) := by
  unfold spec_l01New.f
  have h := T_loops (F := F0) (fun k j (s : Int) i => spec_l01New.l0 k j (s, (i : Int), l)) l.length (fun _ _ => True) (fun _ _ r => r.1 = l ∧ CurOk r.1 r.2.1) (fun i s hi _ he => by
    dsimp only [spec_l01New.l0, spec_l01New.s0]
    simp only [Int.toNat_natCast]
    rw [wrs hi (by omega)]
    exact T_pos (by omega) (T_dec (fun _ => T_get hi (he _ trivial)) fun _ => T_ret ⟨rfl, Int.le_refl _, by show (0 : Int) ≤ _; omega, hn⟩)) (fun s _ => by
    dsimp only [spec_l01New.l0, spec_l01New.s0]
    exact T_neg (by omega) (T_ret ⟨rfl, Int.le_refl _, by show (0 : Int) ≤ _; omega, hn⟩)) 0 (IntKind.i64.wrap ((36201 : Int) + (l.length : Int))) (Nat.zero_le _) trivial
  exact T_in (g := fun x j => spec_l01New.l0 x j _) (by simpa using h) (fun k => k) (fun _ _ h => h)
theorem laws_big.eq (k : Nat) (l : List Int) : laws_big.f k l = some (decide (l.length > 1048576)) := by
  unfold laws_big.f
  congr 1
  simp
  omega

theorem take_filter_succ {α : Type} (p : α → Bool) (l : List α) (i : Nat) (h : i < l.length) : (l.take (i + 1)).filter p = (l.take i).filter p ++ (if p l[i] then [l[i]] else []) := by
  rw [List.take_succ_eq_append_getElem h, List.filter_append]
  cases e : p l[i] <;> simp [e]
theorem drop_get {α : Type} {l l' : List α} {j : Nat} (h : l'.drop j = l.drop j) (hj : j < l.length) (hj' : j < l'.length) : l'[j] = l[j] := by
  have := congrArg (fun x => x[0]?) h
  simp only [List.getElem?_drop, Nat.add_zero, List.getElem?_eq_getElem hj, List.getElem?_eq_getElem hj'] at this
  exact Option.some.inj this
theorem set_take_succ {α : Type} (l : List α) (i : Nat) (x : α) (h : i < l.length) : (l.set i x).take (i + 1) = l.take i ++ [x] := by
  rw [List.take_succ_eq_append_getElem (by simpa using h), List.take_set_of_le (Nat.le_refl _), List.getElem_set_self]

theorem filter_len_take {α : Type} (p : α → Bool) (l : List α) (i : Nat) : ((l.take i).filter p).length ≤ l.length :=
  Nat.le_trans (List.length_filter_le _ _) (by simp; omega)

theorem in_eq (k : Nat) (n a b : Int) : spec_l01In.f k n a b = some (decide (a ≤ n ∧ n ≤ b)) := by
  unfold spec_l01In.f
  by_cases h : n ≥ a <;> by_cases h' : n ≤ b <;> simp [h, h'] <;> omega
theorem within_eq (k : Nat) (n a b : Int) : impl_within.f k n a b = some (decide (a ≤ n ∧ n ≤ b)) := by
  unfold impl_within.f
  by_cases h : n ≥ a <;> by_cases h' : n ≤ b <;> simp [h, h'] <;> omega

def PfxP (a n : Int) : Prop := (0 ≤ a ∧ a ≤ 4294967295) ∧ (0 ≤ n ∧ n ≤ 32) ∧ a % 2 ^ (32 - n).toNat = 0
def InP (p n a : Int) : Prop := PfxP p n ∧ (0 ≤ a ∧ a ≤ 4294967295) ∧ a - a % 2 ^ (32 - n).toNat = p
instance decPfxP (a n : Int) : Decidable (PfxP a n) := by unfold PfxP; infer_instance
instance decInP (p n a : Int) : Decidable (InP p n a) := by unfold InP; infer_instance
theorem pow_rng (m : Nat) (h : m ≤ 32) : (1 : Int) ≤ 2 ^ m ∧ (2 : Int) ^ m ≤ 4294967296 := by
  have h1 : 2 ^ m ≤ 2 ^ 32 := Nat.pow_le_pow_right (by decide) h
  have h2 : 1 ≤ 2 ^ m := Nat.one_le_two_pow
  have e : ((2 ^ m : Nat) : Int) = (2 : Int) ^ m := by simp
  omega
theorem mask_nat (i : Nat) : ((2 : Int) ^ i - 1) = ((2 ^ i - 1 : Nat) : Int) := by
  have hpn : 1 ≤ 2 ^ i := Nat.one_le_two_pow
  rw [Int.natCast_sub hpn]; simp
theorem bv_nat (a : Nat) (h : a < 18446744073709551616) : (BitVec.ofInt IntKind.i64.bits (a : Int)).toNat = a := by
  show (BitVec.ofInt 64 (a : Int)).toNat = a
  rw [BitVec.ofInt_natCast, BitVec.toNat_ofNat, Nat.mod_eq_of_lt h]
theorem and_mask (i : Nat) (hi : i ≤ 32) (x : Int) (h₀ : 0 ≤ x) (h₁ : x ≤ 4294967295) : (((BitVec.ofInt IntKind.i64.bits x) &&& (BitVec.ofInt IntKind.i64.bits (2 ^ i - 1))).toNat : Int) = x % 2 ^ i := by
  obtain ⟨a, rfl⟩ := Int.eq_ofNat_of_zero_le h₀
  have hb : 2 ^ i ≤ 2 ^ 32 := Nat.pow_le_pow_right (by decide) hi
  rw [mask_nat, BitVec.toNat_and, bv_nat a (by omega), bv_nat _ (by omega), Nat.and_two_pow_sub_one_eq_mod]
  simp
theorem andNot_mask (i : Nat) (hi : i ≤ 32) (x : Int) (h₀ : 0 ≤ x) (h₁ : x ≤ 4294967295) : (((BitVec.ofInt IntKind.i64.bits x) &&& ~~~(BitVec.ofInt IntKind.i64.bits (2 ^ i - 1))).toNat : Int) = x - x % 2 ^ i := by
  have e1 := and_mask i hi x h₀ h₁
  obtain ⟨a, rfl⟩ := Int.eq_ofNat_of_zero_le h₀
  have hb : 2 ^ i ≤ 2 ^ 32 := Nat.pow_le_pow_right (by decide) hi
  have e2 : (BitVec.ofInt IntKind.i64.bits (a : Int) &&& BitVec.ofInt IntKind.i64.bits (2 ^ i - 1)) + (BitVec.ofInt IntKind.i64.bits (a : Int) &&& ~~~ (BitVec.ofInt IntKind.i64.bits (2 ^ i - 1))) = BitVec.ofInt IntKind.i64.bits (a : Int) := by
    generalize BitVec.ofInt IntKind.i64.bits (a : Int) = u
    generalize BitVec.ofInt IntKind.i64.bits (2 ^ i - 1) = v
    rw [BitVec.add_eq_or_of_and_eq_zero]
    · ext j h
      simp
      cases (u[j]) <;> simp
    · ext j h
      simp
      cases (u[j]) <;> simp
  have e3 := congrArg BitVec.toNat e2
  rw [BitVec.toNat_add, bv_nat a (by omega)] at e3
  have h4 : (BitVec.ofInt IntKind.i64.bits (a : Int) &&& ~~~ (BitVec.ofInt IntKind.i64.bits (2 ^ i - 1))).toNat ≤ a := by
    rw [BitVec.toNat_and, bv_nat a (by omega)]
    exact Nat.and_le_left
  have h5 : (a : Int) % 2 ^ i ≤ a := by
    have : ((a % 2 ^ i : Nat) : Int) = (a : Int) % 2 ^ i := by simp
    have := Nat.mod_le a (2 ^ i)
    omega
  have h6 : 0 ≤ (a : Int) % 2 ^ i := Int.emod_nonneg _ (by have := pow_rng i hi; omega)
  have e4 : (2 : Nat) ^ IntKind.i64.bits = 18446744073709551616 := by decide
  rw [e4] at e3
  rw [Nat.mod_eq_of_lt (by omega)] at e3
  omega
theorem or_mask (i : Nat) (hi : i ≤ 32) (x : Int) (h₀ : 0 ≤ x) (h₁ : x ≤ 4294967295) (hm : x % 2 ^ i = 0) : (((BitVec.ofInt IntKind.i64.bits x) ||| (BitVec.ofInt IntKind.i64.bits (2 ^ i - 1))).toNat : Int) = x + 2 ^ i - 1 := by
  obtain ⟨a, rfl⟩ := Int.eq_ofNat_of_zero_le h₀
  have hb : 2 ^ i ≤ 2 ^ 32 := Nat.pow_le_pow_right (by decide) hi
  have hpn : 1 ≤ 2 ^ i := Nat.one_le_two_pow
  have hmn : a % 2 ^ i = 0 := by
    have : ((a % 2 ^ i : Nat) : Int) = (a : Int) % 2 ^ i := by simp
    omega
  have hd : a = 2 ^ i * (a / 2 ^ i) := by have := Nat.div_add_mod a (2 ^ i); omega
  rw [mask_nat, BitVec.toNat_or, bv_nat a (by omega), bv_nat _ (by omega), hd, ← Nat.two_pow_add_eq_or_of_lt (by omega : 2 ^ i - 1 < 2 ^ i)]
  rw [← hd]
  have : ((2 ^ i : Nat) : Int) = (2 : Int) ^ i := by simp
  omega
theorem impl_AddrOk_eq (k : Nat) (a : Int) : impl_AddrOk.f k a = some (decide (0 ≤ a ∧ a ≤ 4294967295)) := by
  unfold impl_AddrOk.f
  rw [within_eq]; rfl
theorem spec_AddrOk_eq (k : Nat) (a : Int) : spec_AddrOk.f k a = some (decide (0 ≤ a ∧ a ≤ 4294967295)) := by
  unfold spec_AddrOk.f
  rw [in_eq]; rfl
theorem lastBits_eq (k : Nat) (n : Int) (h0 : 0 ≤ n) (h1 : n ≤ 32) : impl_lastBits.f k n = some (2 ^ (32 - n).toNat - 1) := by
  unfold impl_lastBits.f
  have hp := pow_rng (32 - n).toNat (by omega)
  rw [wr64 (x := 32 - n) (by omega) (by omega), show min (32 - n).toNat IntKind.i64.bits = (32 - n).toNat from Nat.min_eq_left (by show _ ≤ 64; omega), Int.one_mul, wr64 (x := 2 ^ (32 - n).toNat) (by omega) (by omega), wr64 (by omega) (by omega)]
  have : decide (32 - n < 0) = false := decide_eq_false (by omega)
  rw [this]; rfl
theorem impl_PrefixOk_eq (k : Nat) (a n : Int) : impl_PrefixOk.f k a n = some (decide (PfxP a n)) := by
  unfold impl_PrefixOk.f
  simp only [impl_AddrOk_eq, within_eq, Option.bind_some]
  by_cases h1 : 0 ≤ a ∧ a ≤ 4294967295
  · by_cases h2 : 0 ≤ n ∧ n ≤ 32
    · have hp := pow_rng (32 - n).toNat (by omega)
      have hm0 := Int.emod_nonneg a (show (2 : Int) ^ (32 - n).toNat ≠ 0 by omega)
      have hm1 := Int.emod_lt_of_pos a (show (0 : Int) < 2 ^ (32 - n).toNat by omega)
      rw [decide_eq_true h1, decide_eq_true h2]
      simp only [cond_true, lastBits_eq k n h2.1 h2.2, Option.bind_some]
      rw [and_mask _ (by omega) a h1.1 h1.2, wr64 (by omega) (by omega)]
      congr 1
      by_cases h3 : a % 2 ^ (32 - n).toNat = 0
      · rw [decide_eq_true (show PfxP a n from ⟨h1, h2, h3⟩)]; simp [h3]
      · rw [decide_eq_false (show ¬ PfxP a n from fun c => h3 c.2.2)]; simp [h3]
    · rw [decide_eq_true h1, decide_eq_false h2, decide_eq_false (show ¬ PfxP a n from fun c => h2 c.2.1)]; rfl
  · rw [decide_eq_false h1, decide_eq_false (show ¬ PfxP a n from fun c => h1 c.1)]; rfl
theorem spec_l08Size.ev (n : Int) (h0 : 0 ≤ n) (h1 : n ≤ 32) : Tells F0 (fun k => spec_l08Size.f k n) (· = 2 ^ (32 - n).toNat) := by
  obtain ⟨m, rfl⟩ := Int.eq_ofNat_of_zero_le h0
  have hd : ∀ j : Fin 32, IntKind.i64.wrap (2 * 2 ^ j.val) = 2 ^ (j.val + 1) := by decide +kernel
  have h := T_loop (F := F0) (fun k j i => spec_l08Size.l0 k j (2 ^ i, ((m + i : Nat) : Int))) (32 - m) (fun _ r => r = 2 ^ (32 - m)) (fun i hi he => by
    dsimp only [spec_l08Size.l0, spec_l08Size.s0]
    refine T_pos (by omega) ?_
    rw [hd ⟨i, by omega⟩, wrn (by omega)]
    exact he) (by
    dsimp only [spec_l08Size.l0, spec_l08Size.s0]
    exact T_neg (by omega) (T_ret rfl)) 0 (Nat.zero_le _)
  unfold spec_l08Size.f
  rw [show (32 - (m : Int)).toNat = 32 - m by omega]
  exact T_in (g := fun x j => spec_l08Size.l0 x j _) (by simpa using h) (fun k => k) (fun _ _ h => h)
theorem spec_PrefixOk.ev (a n : Int) : Tells F0 (fun k => spec_PrefixOk.f k a n) (· = decide (PfxP a n)) := by
  unfold spec_PrefixOk.f
  simp only [spec_AddrOk_eq, in_eq, Option.bind_some]
  refine T_dec (fun h1 => T_dec (fun h2 => ?_) fun h => T_ret (decide_eq_false fun c => h c.2.1).symm) fun h => T_ret (decide_eq_false fun c => h c.1).symm
  refine T_bindE (spec_l08Size.ev n h2.1 h2.2) ?_
  have hp := pow_rng (32 - n).toNat (by omega)
  refine T_false (by simp; omega) (T_ret ?_)
  rw [Int.tmod_eq_emod_of_nonneg h1.1]
  by_cases h3 : a % 2 ^ (32 - n).toNat = 0
  · rw [decide_eq_true (show PfxP a n from ⟨h1, h2, h3⟩)]; simp [h3]
  · rw [decide_eq_false (show ¬ PfxP a n from fun c => h3 c.2.2)]; simp [h3]
theorem spec_InPrefix.ev (p n a : Int) : Tells F0 (fun k => spec_InPrefix.f k p n a) (· = decide (InP p n a)) := by
  unfold spec_InPrefix.f
  refine T_bindE (spec_PrefixOk.ev p n) ?_
  simp only [spec_AddrOk_eq, Option.bind_some]
  refine T_dec (fun h1 => T_dec (fun h2 => ?_) fun h => T_ret (decide_eq_false fun c => h c.2.1).symm) fun h => T_ret (decide_eq_false fun c => h c.1).symm
  have hn := h1.2.1
  refine T_bindE (spec_l08Size.ev n hn.1 hn.2) ?_
  have hp := pow_rng (32 - n).toNat (by omega)
  have hm0 := Int.emod_nonneg a (show (2 : Int) ^ (32 - n).toNat ≠ 0 by omega)
  have hm1 := Int.emod_lt_of_pos a (show (0 : Int) < 2 ^ (32 - n).toNat by omega)
  refine T_false (by simp; omega) (T_ret ?_)
  rw [Int.tmod_eq_emod_of_nonneg h2.1, wr64 (by omega) (by omega)]
  by_cases h3 : a - a % 2 ^ (32 - n).toNat = p
  · rw [decide_eq_true (show InP p n a from ⟨h1, h2, h3⟩)]; simp [h3]
  · rw [decide_eq_false (show ¬ InP p n a from fun c => h3 c.2.2)]; simp [h3]

abbrev Rte := Int × Int × Int
theorem isId_eq (k : Nat) (n : Int) : impl_isId.f k n = some (decide (1 ≤ n ∧ n ≤ 99)) := by
  unfold impl_isId.f
  rw [within_eq]; rfl

def aheadP (a b c d : Int) : Prop := a < c ∨ (a = c ∧ b < d)
instance (a b c d : Int) : Decidable (aheadP a b c d) := by unfold aheadP; infer_instance
theorem ahead_eq (k : Nat) (a b c d : Int) : spec_l09Ahead.f k a b c d = some (decide (aheadP a b c d)) := by
  unfold spec_l09Ahead.f aheadP
  by_cases h1 : a < c
  · simp [h1]
  · by_cases h2 : a = c
    · subst h2; simp
    · have : (a == c) = false := by simpa using h2
      simp only [h1, h2, this, decide_false, cond_false, false_or, false_and]
def cmpI (a b : Int) : Int := if a < b then -1 else if a > b then 1 else 0
theorem cmp_eq (k : Nat) (a b : Int) : cmp_Compare_int.f k a b = some (cmpI a b) := by
  unfold cmp_Compare_int.f cmp_isNaN_int.f cmpI
  by_cases h1 : a < b <;> by_cases h2 : a > b <;> simp [h1, h2]
theorem cmpOr.ev (a b : Int) : Tells F0 (fun k => cmp_Or_int.f k [a, b]) (· = if a ≠ 0 then a else b) := by
  have h := T_loop (F := F0) (fun k j i => cmp_Or_int.l0 k j ((0 : Int), (2 : Int), (i : Int), [a, b])) 2 (fun i r => r = if i = 0 ∧ a ≠ 0 then a else if i ≤ 1 then b else 0) (fun i hi he => by
    dsimp only [cmp_Or_int.l0, cmp_Or_int.s0]
    simp only [Int.toNat_natCast]
    rw [wrs hi (by omega)]
    refine T_pos (by omega) (T_get (l := [a, b]) (by simpa using hi) (T_bne (fun e => T_ret ?_) fun e => T_mono he fun r hr => ?_))
    · obtain rfl | rfl : i = 0 ∨ i = 1 := by omega
      · have e' : a ≠ 0 := e; simp [e']
      · simp
    · rw [hr]
      obtain rfl | rfl : i = 0 ∨ i = 1 := by omega
      · have e' : a = 0 := e; simp [e']
      · have e' : b = 0 := e; simp [e']) (by
    dsimp only [cmp_Or_int.l0, cmp_Or_int.s0]
    exact T_neg (by omega) (T_ret (by simp))) 0 (Nat.zero_le _)
  unfold cmp_Or_int.f
  exact T_in (g := fun x j => cmp_Or_int.l0 x j _) (by simpa using h) (fun k => k) (fun _ _ h => h)
theorem comparePrefixes.ev (a b c d : Int) : Tells F0 (fun k => impl_comparePrefixes.f k a b c d) (fun r => (r ≥ 0 ↔ ¬ aheadP a b c d)) := by
  unfold impl_comparePrefixes.f
  simp only [cmp_eq, Option.bind_some]
  refine T_bindE (cmpOr.ev _ _) (T_ret ?_)
  unfold cmpI aheadP
  (repeat' split) <;> omega
def RteC (l : List Rte) (i : Nat) : Prop := ∀ h : i < l.length, PfxP (l[i]).1 (l[i]).2.1 ∧ (1 ≤ (l[i]).2.2 ∧ (l[i]).2.2 ≤ 99) ∧ (0 < i → aheadP (l[i - 1]).1 (l[i - 1]).2.1 (l[i]).1 (l[i]).2.1)
def RtesP (l : List Rte) : Prop := (∀ i, i < l.length → RteC l i) ∧ l.length ≤ 12
theorem T_pre0 {ι α β : Type} {F : Fu ι} {P : α → Prop} {l : List β} {i : Nat} {f : ι → β → Option α} {g : ι → Option α} (h0 : 0 < i) (h : i < l.length) (hn : l.length ≤ 9223372036854775807) (hf : Tells F (fun x => f x l[i - 1]) P) :
    Tells F (fun x => bif (decide ((0 : Int) ≤ IntKind.i64.wrap ((i : Int) - 1)) && decide (IntKind.i64.wrap ((i : Int) - 1) < (l.length : Int))) then (l[(IntKind.i64.wrap ((i : Int) - 1)).toNat]?).bind (f x) else g x) P := T_pre h0 h hn hf
theorem spec_RoutesOk.ev (l : List Rte) (hn : l.length ≤ 1048600) : Tells F0 (fun k => spec_RoutesOk.f k l) (fun r => r = true ↔ RtesP l) := by
  have hh := T_body (F := F0) (fun k j i => spec_RoutesOk.l0 k j ((i : Int), l)) l.length (RteC l) (l.length ≤ 12) (fun i hi P go bad => by
    dsimp only [spec_RoutesOk.l0, spec_RoutesOk.s0]
    rw [wrs hi (by omega)]
    refine T_pos (by omega) (T_at hi (T_bindE (T_call (spec_PrefixOk.ev _ _) Prod.fst (fun _ _ h => h.1)) (T_ndec (fun a1 => T_at hi ?_) fun a1 => T_ret (bad fun c => a1 (c hi).1))))
    simp only [in_eq, ahead_eq, Option.bind_some]
    refine T_ndec (fun a2 => T_dec (fun a3 => T_pre (by omega) hi (by omega) (T_at hi (T_ndec (fun a4 => go fun _ => ⟨a1, a2, fun _ => a4⟩) fun a4 => T_ret (bad fun c => a4 ((c hi).2.2 (by omega)))))) fun a3 => go fun _ => ⟨a1, a2, fun h => absurd h (by omega)⟩) fun a2 => T_ret (bad fun c => a2 (c hi).2.1)) (by
    dsimp only [spec_RoutesOk.l0, spec_RoutesOk.s0]
    exact T_neg (by omega) (T_ret (by rw [decide_eq_true_eq]; omega)))
  unfold spec_RoutesOk.f
  exact T_in (g := fun x j => spec_RoutesOk.l0 x j _) hh (fun k => k) (fun _ _ h => h)
theorem impl_RoutesOk.ev (l : List Rte) (hn : l.length ≤ 1048600) : Tells F0 (fun k => impl_RoutesOk.f k l) (fun r => r = true ↔ RtesP l) := by
  have hh := T_body (F := F0) (fun k j i => impl_RoutesOk.l0 k j ((l.length : Int), (i : Int), l)) l.length (RteC l) (l.length ≤ 12) (fun i hi P go bad => by
    dsimp only [impl_RoutesOk.l0, impl_RoutesOk.s0]
    rw [wrs hi (by omega)]
    simp only [impl_PrefixOk_eq, isId_eq, Option.bind_some]
    refine T_pos (by omega) (T_at hi (T_ndec (fun a1 => T_ndec (fun a2 => T_dec (fun a3 => T_pre (by omega) hi (by omega) (T_bind (T_call (comparePrefixes.ev _ _ _ _) Prod.fst (fun _ _ h => h.1)) fun r hr => T_dec (fun a4 => T_ret (bad fun c => hr.1 a4 ((c hi).2.2 (by omega)))) fun a4 => ?_)) fun a3 => go fun _ => ⟨a1, a2, fun h => absurd h (by omega)⟩) fun a2 => T_ret (bad fun c => a2 (c hi).2.1)) fun a1 => T_ret (bad fun c => a1 (c hi).1)))
    exact go fun _ => ⟨a1, a2, fun _ => Classical.byContradiction fun h => a4 (hr.2 h)⟩) (by
    dsimp only [impl_RoutesOk.l0, impl_RoutesOk.s0]
    exact T_neg (by omega) (T_ret (by rw [decide_eq_true_eq]; omega)))
  unfold impl_RoutesOk.f
  exact T_in (g := fun x j => impl_RoutesOk.l0 x j _) hh (fun k => k) (fun _ _ h => h)

theorem impl_copyRoutes.ev (l : List (Int × Int × Int)) (h : l.length ≤ 1048576) : Tells F0 (fun k => impl_copyRoutes.f k l) (· = l) := by
  unfold impl_copyRoutes.f
  exact T_pos (by simp; omega) (T_ret rfl)

def impl_withoutPrefix_1.p (c0 : Int) (c1 : Int) (x : Int × Int × Int) : Bool := (x.1 == c0 && x.2.1 == c1)
theorem impl_withoutPrefix_1.ev (k : Nat) (x : Int × Int × Int) (c0 : Int) (c1 : Int) : impl_withoutPrefix_1.f k x.1 x.2.1 x.2.2 c0 c1 = some (impl_withoutPrefix_1.p c0 c1 x, c0, c1) := rfl
theorem slices_IndexFunc_impl_Route_impl_Route_f124_r.ev (l : List (Int × Int × Int)) (c0 : Int) (c1 : Int) (hn : l.length ≤ 1000000000000000000) : Tells F0 (fun k => slices_IndexFunc_impl_Route_impl_Route_f124_r.f k l c0 c1) (· = (if l.findIdx (impl_withoutPrefix_1.p c0 c1) = l.length then (-1 : Int) else (l.findIdx (impl_withoutPrefix_1.p c0 c1) : Int), l, c0, c1)) := by
  have h := T_loop (F := F0) (fun k j i => slices_IndexFunc_impl_Route_impl_Route_f124_r.l0 k j ((l.length : Int), (i : Int), l, c0, c1)) l.length (fun i r => (∀ m (h : m < l.length), m < i → impl_withoutPrefix_1.p c0 c1 l[m] = false) → r = (if l.findIdx (impl_withoutPrefix_1.p c0 c1) = l.length then (-1 : Int) else (l.findIdx (impl_withoutPrefix_1.p c0 c1) : Int), l, c0, c1)) (fun i hi he => by
    dsimp only [slices_IndexFunc_impl_Route_impl_Route_f124_r.l0, slices_IndexFunc_impl_Route_impl_Route_f124_r.s0]
    simp only [Int.toNat_natCast, impl_withoutPrefix_1.ev, Option.bind_some]
    refine T_pos (by omega) (T_get hi (T_bif (fun hp => T_ret fun hm => ?_) fun hp => ?_))
    · have e : l.findIdx (impl_withoutPrefix_1.p c0 c1) = i := (List.findIdx_eq hi).2 ⟨hp, fun j hj => hm j (by omega) hj⟩
      rw [e, if_neg (by omega)]
    · rw [wrs hi (by omega)]
      refine T_mono he fun r hr hm => hr fun m h hmi => ?_
      by_cases e : m = i
      · subst e; exact hp
      · exact hm m h (by omega)) (by
    dsimp only [slices_IndexFunc_impl_Route_impl_Route_f124_r.l0, slices_IndexFunc_impl_Route_impl_Route_f124_r.s0]
    refine T_neg (by omega) (T_ret fun hm => ?_)
    have e : l.findIdx (impl_withoutPrefix_1.p c0 c1) = l.length := List.findIdx_eq_length.2 fun x hx => by
      obtain ⟨j, hj, rfl⟩ := List.mem_iff_getElem.1 hx
      exact hm j hj hj
    rw [if_pos e]) 0 (Nat.zero_le _)
  unfold slices_IndexFunc_impl_Route_impl_Route_f124_r.f
  exact T_in (g := fun x j => slices_IndexFunc_impl_Route_impl_Route_f124_r.l0 x j _) (T_mono h fun r hr => hr (fun m h hm => absurd hm (by omega))) (fun k => k) (fun _ _ h => h)
theorem slices_DeleteFunc_impl_Route_impl_Route_f124.ev (l : List (Int × Int × Int)) (c0 : Int) (c1 : Int) (hn : l.length ≤ 1000000000000000000) : Tells F0 (fun k => slices_DeleteFunc_impl_Route_impl_Route_f124.f k l c0 c1) (· = (l.filter (fun x => !impl_withoutPrefix_1.p c0 c1 x), c0, c1)) := by
  have h := T_loops (F := F0) (fun k j (s : Int × List (Int × Int × Int)) i => slices_DeleteFunc_impl_Route_impl_Route_f124.l0 k j (s.1, (i : Int), c0, c1, s.2)) l.length
    (fun j s => ∃ i : Nat, s.1 = (i : Int) ∧ i ≤ j ∧ s.2.length = l.length ∧ s.2.take i = (l.take j).filter (fun x => !impl_withoutPrefix_1.p c0 c1 x) ∧ s.2.drop j = l.drop j) (fun _ _ r => r = (l.filter (fun x => !impl_withoutPrefix_1.p c0 c1 x), c0, c1)) (fun j s hj hs he => by
    obtain ⟨s1, l'⟩ := s
    obtain ⟨i, e1, hij, hl, ht, hd⟩ := hs
    simp only at e1 hl ht hd
    subst e1
    dsimp only [slices_DeleteFunc_impl_Route_impl_Route_f124.l0, slices_DeleteFunc_impl_Route_impl_Route_f124.s0]
    simp only [Int.toNat_natCast, impl_withoutPrefix_1.ev, Option.bind_some]
    have hj' : j < l'.length := by omega
    have hx := drop_get hd hj hj'
    have hd2 : l'.drop (j + 1) = l.drop (j + 1) := by rw [← List.drop_drop, ← List.drop_drop, hd]
    refine T_pos (by omega) (T_get hj' ?_)
    rw [hx]
    refine T_bif (fun hp => T_get (by omega : i < l'.length) ?_) fun hp => ?_
    · rw [wrs hj (by omega), wrs (show i < l.length by omega) (by omega)]
      refine he (((i + 1 : Nat) : Int), l'.set i l[j]) ⟨i + 1, rfl, by omega, by simpa using hl, ?_, ?_⟩
      · simp only
        rw [set_take_succ _ _ _ (by omega), ht, take_filter_succ _ _ _ hj, if_pos hp]
      · simp only
        rw [List.drop_set_of_lt (by omega), hd2]
    · rw [wrs hj (by omega)]
      refine he ((i : Int), l') ⟨i, rfl, by omega, hl, ?_, hd2⟩
      simp only
      rw [ht, take_filter_succ _ _ _ hj, if_neg (by simpa using hp), List.append_nil]) (fun s hs => by
    obtain ⟨s1, l'⟩ := s
    obtain ⟨i, e1, hij, hl, ht, hd⟩ := hs
    simp only at e1 hl ht hd
    subst e1
    dsimp only [slices_DeleteFunc_impl_Route_impl_Route_f124.l0, slices_DeleteFunc_impl_Route_impl_Route_f124.s0]
    simp only [Int.toNat_natCast]
    refine T_neg (by omega) (T_and (by omega) (by omega) (T_and (by omega) (by simp; omega) (T_ret ?_)))
    have h1 : (l'.take i).length = i := by simp; omega
    rw [List.take_append_of_le_length (by omega), List.take_take, Nat.min_self, ht, List.take_length])
  unfold slices_DeleteFunc_impl_Route_impl_Route_f124.f
  refine T_bindE (slices_IndexFunc_impl_Route_impl_Route_f124_r.ev l c0 c1 hn) ?_
  dsimp only
  by_cases e : l.findIdx (impl_withoutPrefix_1.p c0 c1) = l.length
  · rw [if_pos e]
    refine T_true rfl (T_ret ?_)
    have := List.findIdx_eq_length.1 e
    rw [List.filter_eq_self.2 fun x hx => by simp [this x hx]]
  · rw [if_neg e]
    have hlt : l.findIdx (impl_withoutPrefix_1.p c0 c1) < l.length := by have := List.findIdx_le_length (xs := l) (p := impl_withoutPrefix_1.p c0 c1); omega
    obtain ⟨hp, hm⟩ := (List.findIdx_eq hlt).1 rfl
    refine T_false (by simp) ?_
    rw [wrs hlt (by omega)]
    refine T_in (g := fun x j => slices_DeleteFunc_impl_Route_impl_Route_f124.l0 x j _) (h (l.findIdx (impl_withoutPrefix_1.p c0 c1) + 1) ((l.findIdx (impl_withoutPrefix_1.p c0 c1) : Int), l) (by omega) ⟨l.findIdx (impl_withoutPrefix_1.p c0 c1), rfl, by omega, rfl, ?_, rfl⟩) (fun k => k) (fun _ _ h => h)
    simp only
    rw [take_filter_succ _ _ _ hlt, if_neg (by simp [hp]), List.append_nil]
    refine (List.filter_eq_self.2 fun x hx => ?_).symm
    obtain ⟨j, hj, rfl⟩ := List.mem_iff_getElem.1 hx
    have hj2 : j < l.findIdx (impl_withoutPrefix_1.p c0 c1) := by simp at hj; omega
    rw [List.getElem_take]
    simp [hm j hj2]
def notAt (a n : Int) (x : Rte) : Bool := !(x.1 == a && x.2.1 == n)
theorem impl_withoutPrefix.ev (l : List Rte) (a n : Int) (h : l.length ≤ 1048576) : Tells F0 (fun k => impl_withoutPrefix.f k l a n) (· = l.filter (notAt a n)) := by
  unfold impl_withoutPrefix.f
  exact T_bindE (impl_copyRoutes.ev l h) (T_bindE (slices_DeleteFunc_impl_Route_impl_Route_f124.ev l a n (by omega)) (T_ret rfl))

def ahd (a n : Int) (x : Rte) : Bool := decide (aheadP x.1 x.2.1 a n)
def bhd (a n : Int) (x : Rte) : Bool := decide (aheadP a n x.1 x.2.1)
def putO (l : List Rte) (a n g : Int) : List Rte := l.filter (ahd a n) ++ [(a, n, g)] ++ l.filter (bhd a n)
open Classical in
noncomputable def putM (l : List Rte) (a n g : Int) : List Rte × Bool := if RtesP l ∧ RtesP (putO l a n g) then (putO l a n g, true) else (l, false)
theorem put_len (l : List Rte) (a n g : Int) (h : l.length ≤ 1048576) : (putM l a n g).1.length ≤ 1048576 := by
  unfold putM
  split
  · rename_i c; exact Nat.le_trans c.2.2 (by omega)
  · exact h
theorem rtes_pair {l : List Rte} (h : RtesP l) : l.Pairwise fun x y => aheadP x.1 x.2.1 y.1 y.2.1 := by
  have key : ∀ d i, (hh : i + d + 1 < l.length) → aheadP (l[i]).1 (l[i]).2.1 (l[i + d + 1]).1 (l[i + d + 1]).2.1 := by
    intro d
    induction d with
    | zero => intro i hh; exact (h.1 (i + 1) hh hh).2.2 (by omega)
    | succ d ih =>
      intro i hh
      have a1 := ih i (by omega)
      have a2 := (h.1 (i + (d + 1) + 1) hh hh).2.2 (by omega)
      simp only [Nat.add_sub_cancel] at a2
      have e : i + (d + 1) = i + d + 1 := by omega
      simp only [e] at a2 ⊢
      unfold aheadP at *
      omega
  rw [List.pairwise_iff_getElem]
  intro i j hi hj hij
  have := key (j - i - 1) i (by omega)
  have e : i + (j - i - 1) + 1 = j := by omega
  simp only [e] at this
  exact this
theorem put_split {F : List Rte} {a n : Int} (hp : F.Pairwise fun x y => aheadP x.1 x.2.1 y.1 y.2.1) (hn : ∀ x ∈ F, notAt a n x = true) {i : Nat} (hi : i ≤ F.length) (h1 : ∀ j (h : j < F.length), j < i → aheadP (F[j]).1 (F[j]).2.1 a n) (h2 : ∀ h : i < F.length, ¬ aheadP (F[i]).1 (F[i]).2.1 a n) :
    F.filter (ahd a n) = F.take i ∧ F.filter (bhd a n) = F.drop i := by
  have hx : ∀ p, F.filter p = (F.take i).filter p ++ (F.drop i).filter p := fun p => by rw [← List.filter_append, List.take_append_drop]
  have k1 : ∀ x ∈ F.take i, aheadP x.1 x.2.1 a n := by
    intro x hx
    obtain ⟨j, hj, rfl⟩ := List.mem_take_iff_getElem.1 hx
    exact h1 j (by omega) (by omega)
  have k2 : ∀ x ∈ F.drop i, aheadP a n x.1 x.2.1 := by
    intro x hx
    have hna := hn x (List.mem_of_mem_drop hx)
    obtain ⟨j, hj, rfl⟩ := List.mem_drop_iff_getElem.1 hx
    have b0 := hn F[i] (List.getElem_mem (by omega))
    have b1 := h2 (by omega)
    have b2 : j ≠ 0 → aheadP (F[i]).1 (F[i]).2.1 (F[i + j]).1 (F[i + j]).2.1 := fun h => (List.pairwise_iff_getElem.1 hp) i (i + j) (by omega) (by omega) (by omega)
    simp only [notAt, Bool.not_eq_true', Bool.and_eq_false_iff, beq_eq_false_iff_ne] at b0
    by_cases hj0 : j = 0
    · subst hj0
      simp only [Nat.add_zero]
      unfold aheadP at *
      omega
    · have b3 := b2 hj0
      unfold aheadP at *
      omega
  rw [hx, hx]
  refine ⟨?_, ?_⟩
  · rw [List.filter_eq_self.2 fun x hx => by have := k1 x hx; simpa [ahd] using this, List.filter_eq_nil_iff.2 fun x hx => by have := k2 x hx; unfold ahd; rw [decide_eq_true_eq]; unfold aheadP at *; omega, List.append_nil]
  · rw [List.filter_eq_nil_iff.2 fun x hx => by have := k1 x hx; unfold bhd; rw [decide_eq_true_eq]; unfold aheadP at *; omega, List.filter_eq_self.2 fun x hx => by have := k2 x hx; simpa [bhd] using this, List.nil_append]
theorem filt_not {p : Rte → Bool} {a n : Int} (l : List Rte) (h : ∀ x, p x = true → notAt a n x = true) : (l.filter (notAt a n)).filter p = l.filter p := by
  rw [List.filter_filter]
  refine List.filter_congr fun x _ => ?_
  cases hp : p x with
  | false => rfl
  | true => rw [h x hp]; rfl
theorem ahd_not {a n : Int} (x : Rte) (hx : ahd a n x = true) : notAt a n x = true := by
  simp only [ahd, decide_eq_true_eq] at hx
  simp only [notAt, Bool.not_eq_true', Bool.and_eq_false_iff, beq_eq_false_iff_ne]
  unfold aheadP at hx
  omega
theorem bhd_not {a n : Int} (x : Rte) (hx : bhd a n x = true) : notAt a n x = true := by
  simp only [bhd, decide_eq_true_eq] at hx
  simp only [notAt, Bool.not_eq_true', Bool.and_eq_false_iff, beq_eq_false_iff_ne]
  unfold aheadP at hx
  omega
theorem ins_rte (k : Nat) (F : List Rte) (i : Nat) (r : Rte) (hi : i ≤ F.length) (hl : F.length ≤ 1048576) : slices_Insert_impl_Route_impl_Route.f k F i [r] = some (F.take i ++ [r] ++ F.drop i) := by
  unfold slices_Insert_impl_Route_impl_Route.f
  rw [if_pos ⟨⟨by omega, by omega⟩, by simp, by simp only [List.length_singleton]; omega⟩, Int.toNat_natCast]
theorem put_fin (l : List Rte) (a n g : Int) (hl : l.length ≤ 1048576) (i : Nat) (hi : i ≤ (l.filter (notAt a n)).length) (h1 : ∀ j (h : j < (l.filter (notAt a n)).length), j < i → aheadP ((l.filter (notAt a n))[j]).1 ((l.filter (notAt a n))[j]).2.1 a n)
    (h2 : ∀ h : i < (l.filter (notAt a n)).length, ¬ aheadP ((l.filter (notAt a n))[i]).1 ((l.filter (notAt a n))[i]).2.1 a n) :
    Tells F0 (fun k => (slices_Insert_impl_Route_impl_Route.f k (l.filter (notAt a n)) i [(a, n, g)]).bind fun r4 => (impl_RoutesOk.f k l).bind fun r5 => (bif (!r5) then (impl_copyRoutes.f k l).bind fun r6 => some (r6, false) else (impl_RoutesOk.f k r4).bind fun r7 => (bif (!r7) then (impl_copyRoutes.f k l).bind fun r8 => some (r8, false) else some (r4, true)))) (· = putM l a n g) := by
  have hfl := List.length_filter_le (notAt a n) l
  simp only [ins_rte _ _ _ _ hi (by omega), Option.bind_some]
  unfold putM
  refine T_bind (impl_RoutesOk.ev l (by omega)) fun r hr => ?_
  cases r with
  | false => rw [if_neg fun c => by have := hr.2 c.1; cases this]; exact T_true rfl (T_bindE (impl_copyRoutes.ev l hl) (T_ret rfl))
  | true =>
    have hR := hr.1 rfl
    obtain ⟨s1, s2⟩ := put_split (F := l.filter (notAt a n)) (List.Pairwise.filter _ (rtes_pair hR)) (fun x hx => (List.mem_filter.1 hx).2) hi h1 h2
    have e : (l.filter (notAt a n)).take i ++ [(a, n, g)] ++ (l.filter (notAt a n)).drop i = putO l a n g := by
      unfold putO
      rw [← s1, ← s2, filt_not l ahd_not, filt_not l bhd_not]
    rw [e]
    have hol : (putO l a n g).length ≤ 1048600 := by rw [← e]; simp only [List.length_append, List.length_take, List.length_drop, List.length_singleton]; omega
    refine T_false rfl (T_bind (impl_RoutesOk.ev _ hol) fun r hr' => ?_)
    cases r with
    | false => rw [if_neg fun c => by have := hr'.2 c.2; cases this]; exact T_true rfl (T_bindE (impl_copyRoutes.ev l hl) (T_ret rfl))
    | true => rw [if_pos ⟨hR, hr'.1 rfl⟩]; exact T_false rfl (T_ret rfl)
theorem impl_PutRoute.ev (l : List Rte) (a n g : Int) (hl : l.length ≤ 1048576) : Tells F0 (fun k => impl_PutRoute.f k l a n g) (· = putM l a n g) := by
  have hfl := List.length_filter_le (notAt a n) l
  unfold impl_PutRoute.f
  refine T_bindE (impl_withoutPrefix.ev l a n hl) ?_
  have hb := @put_fin l a n g hl
  generalize hF : l.filter (notAt a n) = F at hb hfl
  have h := T_loops (F := F0) (fun k j (_ : Unit) i => impl_PutRoute.l0 k j ((i : Int), l, a, n, g, F)) F.length (fun i _ => ∀ j (h : j < F.length), j < i → aheadP (F[j]).1 (F[j]).2.1 a n) (fun _ _ r => r = putM l a n g) (fun i s hi hj he => by
    dsimp only [impl_PutRoute.l0, impl_PutRoute.s0]
    simp only [Int.toNat_natCast]
    rw [wrs hi (by omega)]
    refine T_pos (by omega) (T_get hi (T_bind (T_call (comparePrefixes.ev _ _ _ _) Prod.fst (fun _ _ h => h.1)) fun r hr => T_dec (fun e => he () fun j h h' => ?_) fun e => T_call (hb i (by omega) hj fun _ => hr.1 (by omega)) Prod.fst (fun _ _ h => h.1)))
    by_cases e' : j = i
    · subst e'; exact Classical.byContradiction fun c => by have := hr.2 c; omega
    · exact hj j h (by omega)) (fun s hj => by
    dsimp only [impl_PutRoute.l0, impl_PutRoute.s0]
    exact T_neg (by omega) (T_call (hb F.length (by omega) hj fun h => absurd h (by omega)) Prod.fst (fun _ _ h => h.1))) 0 () (Nat.zero_le _) (fun j _ h => absurd h (by omega))
  exact T_in (g := fun x j => impl_PutRoute.l0 x j _) (by simpa using h) (fun k => k) (fun _ _ h => h)
theorem spec_PutRoute.ev (l : List Rte) (a n g : Int) (hl : l.length ≤ 1048576) : Tells F0 (fun k => spec_PutRoute.f k l a n g) (· = putM l a n g) := by
  have h2 := T_loop (F := F0) (fun k j i => spec_PutRoute.l2 k j ((i : Int), l, a, n, g, l.filter (ahd a n) ++ [(a, n, g)] ++ (l.take i).filter (bhd a n))) l.length (fun _ r => r = putM l a n g) (fun i hi he => by
    dsimp only [spec_PutRoute.l2, spec_PutRoute.s2]
    simp only [Int.toNat_natCast]
    rw [wrs hi (by omega)]
    rw [take_filter_succ _ _ _ hi] at he
    have g1 := filter_len_take (bhd a n) l i
    have g2 := List.length_filter_le (ahd a n) l
    simp only [ahead_eq, Option.bind_some]
    refine T_pos (by omega) (T_get hi (T_dec (fun e => T_get hi (T_pos ?_ ?_)) fun e => ?_))
    · simp only [List.length_append, List.length_singleton]; omega
    · rw [if_pos (show bhd a n l[i] = true from decide_eq_true e), ← List.append_assoc] at he; exact he
    · rw [if_neg (by rw [show bhd a n l[i] = false from decide_eq_false e]; simp), List.append_nil] at he; exact he) (by
    dsimp only [spec_PutRoute.l2, spec_PutRoute.s2]
    have g1 := List.length_filter_le (bhd a n) l
    have g2 := List.length_filter_le (ahd a n) l
    rw [List.take_length]
    refine T_neg (by omega) (T_bind (T_call (spec_RoutesOk.ev l (by omega)) Prod.fst (fun _ _ h => h.1)) fun r hr => ?_)
    unfold putM
    cases r with
    | false => rw [if_neg fun c => by have := hr.2 c.1; cases this]; exact T_true rfl (T_pos (by simp; omega) (T_ret rfl))
    | true =>
      have hR := hr.1 rfl
      have h12 := hR.2
      refine T_false rfl (T_bind (T_call (spec_RoutesOk.ev (putO l a n g) (by unfold putO; simp only [List.length_append, List.length_singleton]; omega)) Prod.fst (fun _ _ h => h.1)) fun r hr' => ?_)
      cases r with
      | false => rw [if_neg fun c => by have := hr'.2 c.2; cases this]; exact T_true rfl (T_pos (by simp; omega) (T_ret rfl))
      | true => rw [if_pos ⟨hR, hr'.1 rfl⟩]; exact T_false rfl (T_ret rfl)) 0 (Nat.zero_le _)
  have h := T_loop (F := F0) (fun k j i => spec_PutRoute.l0 k j ((i : Int), l, a, n, g, (l.take i).filter (ahd a n))) l.length (fun _ r => r = putM l a n g) (fun i hi he => by
    dsimp only [spec_PutRoute.l0, spec_PutRoute.s0]
    simp only [Int.toNat_natCast]
    rw [wrs hi (by omega)]
    rw [take_filter_succ _ _ _ hi] at he
    have g1 := filter_len_take (ahd a n) l i
    simp only [ahead_eq, Option.bind_some]
    refine T_pos (by omega) (T_get hi (T_dec (fun e => T_get hi (T_pos ?_ ?_)) fun e => ?_))
    · simp only [List.length_singleton]; omega
    · rw [if_pos (show ahd a n l[i] = true from decide_eq_true e)] at he; exact he
    · rw [if_neg (by rw [show ahd a n l[i] = false from decide_eq_false e]; simp), List.append_nil] at he; exact he) (by
    dsimp only [spec_PutRoute.l0, spec_PutRoute.s0]
    have g2 := List.length_filter_le (ahd a n) l
    rw [List.take_length]
    refine T_neg (by omega) (T_pos (by simp only [List.length_singleton]; omega) ?_)
    exact T_call (T_in (g := fun x j => spec_PutRoute.l2 x j _) (by simpa using h2) (fun k => k) (fun _ _ h => h)) Prod.fst (fun _ _ h => h.1)) 0 (Nat.zero_le _)
  unfold spec_PutRoute.f
  exact T_in (g := fun x j => spec_PutRoute.l0 x j _) (by simpa using h) (fun k => k) (fun _ _ h => h)

theorem pfx_of (a n : Int) (h1 : 0 ≤ a ∧ a ≤ 4294967295) (h2 : 0 ≤ n ∧ n ≤ 32) : PfxP (a - a % 2 ^ (32 - n).toNat) n := by
  have hp := pow_rng (32 - n).toNat (by omega)
  have hm0 := Int.emod_nonneg a (show (2 : Int) ^ (32 - n).toNat ≠ 0 by omega)
  have hm1 := Int.emod_lt_of_pos a (show (0 : Int) < 2 ^ (32 - n).toNat by omega)
  have hd := Int.mul_ediv_add_emod a (2 ^ (32 - n).toNat)
  have e : a - a % 2 ^ (32 - n).toNat = 2 ^ (32 - n).toNat * (a / 2 ^ (32 - n).toNat) := by omega
  have hq := Int.mul_nonneg (show (0 : Int) ≤ 2 ^ (32 - n).toNat by omega) (Int.ediv_nonneg h1.1 (show (0 : Int) ≤ 2 ^ (32 - n).toNat by omega))
  exact ⟨by omega, h2, by rw [e]; exact Int.mul_emod_right _ _⟩
theorem spec_PrefixOf.ev (a n : Int) : Tells F0 (fun k => spec_PrefixOf.f k a n) (· = if (0 ≤ a ∧ a ≤ 4294967295) ∧ (0 ≤ n ∧ n ≤ 32) then (a - a % 2 ^ (32 - n).toNat, n, true) else (0, 0, false)) := by
  unfold spec_PrefixOf.f
  simp only [spec_AddrOk_eq, in_eq, Option.bind_some]
  refine T_ndec (fun h1 => T_ndec (fun h2 => ?_) (fun h2 => T_ret (by rw [if_neg (fun k => h2 k.2)]))) (fun h1 => T_ret (by rw [if_neg (fun k => h1 k.1)]))
  refine T_bindE (spec_l08Size.ev n h2.1 h2.2) ?_
  have hp := pow_rng (32 - n).toNat (by omega)
  refine T_beq (fun e => by omega) fun _ => T_ret ?_
  have hm0 := Int.emod_nonneg a (show (2 : Int) ^ (32 - n).toNat ≠ 0 by omega)
  have hm1 := Int.emod_lt_of_pos a (show (0 : Int) < 2 ^ (32 - n).toNat by omega)
  rw [if_pos ⟨h1, h2⟩, Int.tmod_eq_emod_of_nonneg h1.1, wr64 (by omega) (by omega)]
theorem spec_l08Prefix.ev (l : List Int) (i h : Int) (hc : CurOk l i) : Tells F0 (fun k => spec_l08Prefix.f k l i h) (fun r => PfxP r.1 r.2.1 ∧ CurOk r.2.2.1 r.2.2.2.1) := by
  unfold spec_l08Prefix.f
  refine T_bind (spec_l01Below.ev l i h 1024 hc (by omega)) fun x hx => T_bind (spec_l01PickInt.ev _ _ _ _ hx.2 (by simp) (by simp)) fun y hy => ?_
  have hb := hx.1.2.1 (by omega)
  rw [wr64 (x := 167772160 + x.1) (by have := hx.1.1; omega) (by omega)]
  have h1 : 0 ≤ 167772160 + x.1 ∧ 167772160 + x.1 ≤ 4294967295 := ⟨by have := hx.1.1; omega, by omega⟩
  have h2 : 0 ≤ y.1 ∧ y.1 ≤ 32 := by
    have := hy.1
    simp at this
    omega
  refine T_bindE (spec_PrefixOf.ev _ _) ?_
  rw [if_pos ⟨h1, h2⟩]
  exact T_ret ⟨pfx_of _ _ h1 h2, hy.2⟩
theorem rtes_nil : RtesP ([] : List Rte) := ⟨fun i hi => absurd hi (by simp), by simp⟩
def Drawn (l : List Rte) (j : Nat) : Prop := RtesP l ∧ l.length ≤ j ∧ ∀ x ∈ l, 1 ≤ x.2.2 ∧ x.2.2 ≤ 4
theorem put_le (l : List Rte) (a n g : Int) : (putO l a n g).length ≤ l.length + 1 := by
  unfold putO
  have : (l.filter (ahd a n)).length + (l.filter (bhd a n)).length ≤ l.length := by
    induction l with
    | nil => simp
    | cons x r ih =>
      have hx : ¬ (ahd a n x = true ∧ bhd a n x = true) := by
        simp only [ahd, bhd, decide_eq_true_eq]
        unfold aheadP
        omega
      simp only [List.filter_cons]
      by_cases h1 : ahd a n x = true <;> by_cases h2 : bhd a n x = true
      · exact absurd ⟨h1, h2⟩ hx
      all_goals simp only [h1, h2, if_true, if_false, List.length_cons, Bool.false_eq_true]; omega
  simp only [List.length_append, List.length_singleton]
  omega
theorem put_mem {l : List Rte} {a n g : Int} {x : Rte} (h : x ∈ putO l a n g) : x ∈ l ∨ x = (a, n, g) := by
  unfold putO at h
  simp only [List.mem_append, List.mem_singleton, List.mem_filter] at h
  rcases h with (h | h) | h
  · exact .inl h.1
  · exact .inr h
  · exact .inl h.1
theorem spec_l09Routes.ev (l : List Int) (i h : Int) (hc : CurOk l i) : Tells F0 (fun k => spec_l09Routes.f k l i h) (fun r => Drawn r.1 9 ∧ CurOk r.2.1 r.2.2.1) := by
  unfold spec_l09Routes.f
  have hh := T_loops (F := F0) (fun k j (s : List Rte × List Int × Int × Int) i => spec_l09Routes.l0 k j ((i : Int), s.2.2.1, s.2.2.2, l, s.2.1, s.1)) 9 (fun j s => Drawn s.1 j ∧ CurOk s.2.1 s.2.2.1) (fun _ _ r => Drawn r.1 9 ∧ CurOk r.2.1 r.2.2.1) (fun j s hj hs he => by
    obtain ⟨rs, cl, ci, ch⟩ := s
    obtain ⟨⟨hR, hL, hT⟩, hC⟩ := hs
    dsimp only at hR hL hC hT
    dsimp only [spec_l09Routes.l0, spec_l09Routes.s0]
    rw [wrs hj (by omega)]
    refine T_bind (T_call (spec_l01Below.ev cl ci ch 9 hC (by omega)) Prod.fst (fun _ _ h => h.1)) fun x hx => T_dec (fun h1 => ?_) fun h1 => T_ret ⟨⟨hR, by dsimp only; omega, hT⟩, hx.2⟩
    refine T_bind (T_call (spec_l08Prefix.ev _ _ _ hx.2) Prod.fst (fun _ _ h => h.1)) fun y hy => T_bind (T_call (spec_l01Below.ev _ _ _ 4 hy.2 (by omega)) Prod.fst (fun _ _ h => h.1)) fun z hz => ?_
    have hz1 := hz.1.1
    have hz2 := hz.1.2.1 (by omega)
    rw [wr64 (x := 1 + z.1) (by omega) (by omega)]
    refine T_bindE (T_call (spec_PutRoute.ev rs _ _ _ (by omega)) Prod.fst (fun _ _ h => h.1)) (T_bif (fun h2 => he (_, _, _, _) ⟨?_, hz.2⟩) fun _ => he (rs, _, _, _) ⟨⟨hR, by dsimp only; omega, hT⟩, hz.2⟩)
    unfold putM at h2 ⊢
    split at h2
    · rename_i hq
      rw [if_pos hq]
      refine ⟨hq.2, ?_, fun x hx => ?_⟩
      · have := put_le rs y.1 y.2.1 (1 + z.1)
        dsimp only
        omega
      · rcases put_mem hx with hx | rfl
        · exact hT x hx
        · dsimp only; omega
    · cases h2) (fun s hs => by
    obtain ⟨rs, cl, ci, ch⟩ := s
    obtain ⟨⟨hR, hL, hT⟩, hC⟩ := hs
    dsimp only at hR hL hC hT
    dsimp only [spec_l09Routes.l0, spec_l09Routes.s0]
    refine T_bind (T_call (spec_l01Below.ev cl ci ch 9 hC (by omega)) Prod.fst (fun _ _ h => h.1)) fun x hx => T_neg ?_ (T_ret ⟨⟨hR, hL, hT⟩, hx.2⟩)
    have := hx.1.2.1 (by omega)
    omega) 0 ([], l, i, h) (Nat.zero_le _) ⟨⟨rtes_nil, Nat.le_refl _, by simp⟩, hc⟩
  exact T_in (g := fun x j => spec_l09Routes.l0 x j _) (by simpa using hh) (fun k => k) (fun _ _ h => h)
theorem spec_DrawRoutes.ev (l : List Int) (hn : l.length ≤ 1048576) : Tells F0 (fun k => spec_DrawRoutes.f k l) (fun r => Drawn r.1 9 ∧ 0 ≤ r.2 ∧ r.2 ≤ 4294967295) := by
  unfold spec_DrawRoutes.f
  refine T_bind (spec_l01New.ev l hn) fun c hc => ?_
  refine T_bind (spec_l09Routes.ev _ _ _ hc.2) fun x hx => T_bind (spec_l01Below.ev _ _ _ 1100 hx.2 (by omega)) fun y hy => T_ret ⟨hx.1, ?_⟩
  have h1 := hy.1.1
  have h2 := hy.1.2.1 (by omega)
  dsimp only
  rw [wr64 (by omega) (by omega)]
  omega
theorem spec_DrawAddrs.ev (l : List Int) (hn : l.length ≤ 1048576) : Tells F0 (fun k => spec_DrawAddrs.f k l) (fun r => PfxP r.2.1 r.2.2) := by
  unfold spec_DrawAddrs.f
  refine T_bind (spec_l01New.ev l hn) fun c hc => ?_
  have hh := T_loops (F := F0) (fun k j (s : List Int × List Int × Int × Int) i => spec_DrawAddrs.l0 k j ((i : Int), l, (0 : Int), (0 : Int), s.2.2.1, s.2.2.2, s.2.1, s.1)) 6 (fun j s => s.1.length ≤ j ∧ CurOk s.2.1 s.2.2.1) (fun _ _ r => PfxP r.2.1 r.2.2) (fun j s hj hs he => by
    obtain ⟨rs, cl, ci, ch⟩ := s
    obtain ⟨hL, hC⟩ := hs
    dsimp only at hL hC
    dsimp only [spec_DrawAddrs.l0, spec_DrawAddrs.s0]
    rw [wrs hj (by omega)]
    refine T_pos (by omega) (T_bind (T_call (spec_l01Below.ev cl ci ch 1024 hC (by omega)) Prod.fst (fun _ _ h => h.1)) fun x hx => T_pos (by simp only [List.length_singleton]; omega) (he (_, _, _, _) ⟨by simp only [List.length_append, List.length_singleton]; omega, hx.2⟩))) (fun s hs => by
    obtain ⟨rs, cl, ci, ch⟩ := s
    obtain ⟨hL, hC⟩ := hs
    dsimp only at hL hC
    dsimp only [spec_DrawAddrs.l0, spec_DrawAddrs.s0]
    exact T_neg (by omega) (T_bind (T_call (spec_l08Prefix.ev _ _ _ hC) Prod.fst (fun _ _ h => h.1)) fun y hy => T_ret hy.1)) 0 ([], c.1, c.2.1, c.2.2) (Nat.zero_le _) ⟨by simp, hc.2⟩
  exact T_in (g := fun x j => spec_DrawAddrs.l0 x j _) (by simpa using hh) (fun k => k) (fun _ _ h => h)

def lu (a : Int) : List Rte → Int → Int → Int
  | [], _, dst => dst
  | x :: xs, best, dst => if InP x.1 x.2.1 a ∧ x.2.1 > best then lu a xs x.2.1 x.2.2 else lu a xs best dst
open Classical in
noncomputable def lookUp (l : List Rte) (a : Int) : Int := if RtesP l then lu a l (-1) 0 else 0
theorem spec_LookUp.ev (l : List Rte) (a : Int) (hn : l.length ≤ 1048576) : Tells F0 (fun k => spec_LookUp.f k l a) (· = lookUp l a) := by
  have h := T_loops (F := F0) (fun k j (s : Int × Int) i => spec_LookUp.l0 k j (a, s.1, s.2, (i : Int), l)) l.length (fun _ _ => True) (fun i s r => r = lu a (l.drop i) s.1 s.2) (fun i s hi _ he => by
    obtain ⟨b, d⟩ := s
    dsimp only [spec_LookUp.l0, spec_LookUp.s0]
    simp only [Int.toNat_natCast]
    rw [wrs hi (by omega)]
    have e : lu a (l.drop i) b d = if InP l[i].1 l[i].2.1 a ∧ l[i].2.1 > b then lu a (l.drop (i + 1)) l[i].2.1 l[i].2.2 else lu a (l.drop (i + 1)) b d := by rw [List.drop_eq_getElem_cons hi]; rfl
    rw [e]
    refine T_pos (by omega) (T_get hi (T_bindE (T_call (spec_InPrefix.ev _ _ _) Prod.fst (fun _ _ h => h.1)) (T_dec (fun h => T_get hi (T_dec (fun h2 => T_get hi (T_get hi ?_)) fun h2 => ?_)) fun h => ?_)))
    · rw [if_pos ⟨h, h2⟩]
      exact he (l[i].2.1, l[i].2.2) trivial
    · rw [if_neg (fun k => h2 k.2)]
      exact he (b, d) trivial
    · rw [if_neg (fun k => h k.1)]
      exact he (b, d) trivial) (fun s _ => by
    dsimp only [spec_LookUp.l0, spec_LookUp.s0]
    exact T_neg (by omega) (T_ret (by rw [List.drop_of_length_le (Nat.le_refl _)]; rfl))) 0 (-1, 0) (Nat.zero_le _) trivial
  unfold spec_LookUp.f lookUp
  refine T_bind (spec_RoutesOk.ev l (by omega)) fun r hr => ?_
  cases r with
  | false => rw [if_neg fun c => by have := hr.2 c; cases this]; exact T_true rfl (T_ret rfl)
  | true =>
    rw [if_pos (hr.1 rfl)]
    exact T_false rfl (T_in (g := fun x j => spec_LookUp.l0 x j _) (by simpa using h) (fun k => k) (fun _ _ h => h))

def impl_DropTo_1.p (c0 : Int) (x : Int × Int × Int) : Bool := (x.2.2 == c0)
theorem impl_DropTo_1.ev (k : Nat) (x : Int × Int × Int) (c0 : Int) : impl_DropTo_1.f k x.1 x.2.1 x.2.2 c0 = some (impl_DropTo_1.p c0 x, c0) := rfl
theorem slices_IndexFunc_impl_Route_impl_Route_f72_r.ev (l : List (Int × Int × Int)) (c0 : Int) (hn : l.length ≤ 1000000000000000000) : Tells F0 (fun k => slices_IndexFunc_impl_Route_impl_Route_f72_r.f k l c0) (· = (if l.findIdx (impl_DropTo_1.p c0) = l.length then (-1 : Int) else (l.findIdx (impl_DropTo_1.p c0) : Int), l, c0)) := by
  have h := T_loop (F := F0) (fun k j i => slices_IndexFunc_impl_Route_impl_Route_f72_r.l0 k j ((l.length : Int), (i : Int), l, c0)) l.length (fun i r => (∀ m (h : m < l.length), m < i → impl_DropTo_1.p c0 l[m] = false) → r = (if l.findIdx (impl_DropTo_1.p c0) = l.length then (-1 : Int) else (l.findIdx (impl_DropTo_1.p c0) : Int), l, c0)) (fun i hi he => by
    dsimp only [slices_IndexFunc_impl_Route_impl_Route_f72_r.l0, slices_IndexFunc_impl_Route_impl_Route_f72_r.s0]
    simp only [Int.toNat_natCast, impl_DropTo_1.ev, Option.bind_some]
    refine T_pos (by omega) (T_get hi (T_bif (fun hp => T_ret fun hm => ?_) fun hp => ?_))
    · have e : l.findIdx (impl_DropTo_1.p c0) = i := (List.findIdx_eq hi).2 ⟨hp, fun j hj => hm j (by omega) hj⟩
      rw [e, if_neg (by omega)]
    · rw [wrs hi (by omega)]
      refine T_mono he fun r hr hm => hr fun m h hmi => ?_
      by_cases e : m = i
      · subst e; exact hp
      · exact hm m h (by omega)) (by
    dsimp only [slices_IndexFunc_impl_Route_impl_Route_f72_r.l0, slices_IndexFunc_impl_Route_impl_Route_f72_r.s0]
    refine T_neg (by omega) (T_ret fun hm => ?_)
    have e : l.findIdx (impl_DropTo_1.p c0) = l.length := List.findIdx_eq_length.2 fun x hx => by
      obtain ⟨j, hj, rfl⟩ := List.mem_iff_getElem.1 hx
      exact hm j hj hj
    rw [if_pos e]) 0 (Nat.zero_le _)
  unfold slices_IndexFunc_impl_Route_impl_Route_f72_r.f
  exact T_in (g := fun x j => slices_IndexFunc_impl_Route_impl_Route_f72_r.l0 x j _) (T_mono h fun r hr => hr (fun m h hm => absurd hm (by omega))) (fun k => k) (fun _ _ h => h)
theorem slices_DeleteFunc_impl_Route_impl_Route_f72.ev (l : List (Int × Int × Int)) (c0 : Int) (hn : l.length ≤ 1000000000000000000) : Tells F0 (fun k => slices_DeleteFunc_impl_Route_impl_Route_f72.f k l c0) (· = (l.filter (fun x => !impl_DropTo_1.p c0 x), c0)) := by
  have h := T_loops (F := F0) (fun k j (s : Int × List (Int × Int × Int)) i => slices_DeleteFunc_impl_Route_impl_Route_f72.l0 k j (s.1, (i : Int), c0, s.2)) l.length
    (fun j s => ∃ i : Nat, s.1 = (i : Int) ∧ i ≤ j ∧ s.2.length = l.length ∧ s.2.take i = (l.take j).filter (fun x => !impl_DropTo_1.p c0 x) ∧ s.2.drop j = l.drop j) (fun _ _ r => r = (l.filter (fun x => !impl_DropTo_1.p c0 x), c0)) (fun j s hj hs he => by
    obtain ⟨s1, l'⟩ := s
    obtain ⟨i, e1, hij, hl, ht, hd⟩ := hs
    simp only at e1 hl ht hd
    subst e1
    dsimp only [slices_DeleteFunc_impl_Route_impl_Route_f72.l0, slices_DeleteFunc_impl_Route_impl_Route_f72.s0]
    simp only [Int.toNat_natCast, impl_DropTo_1.ev, Option.bind_some]
    have hj' : j < l'.length := by omega
    have hx := drop_get hd hj hj'
    have hd2 : l'.drop (j + 1) = l.drop (j + 1) := by rw [← List.drop_drop, ← List.drop_drop, hd]
    refine T_pos (by omega) (T_get hj' ?_)
    rw [hx]
    refine T_bif (fun hp => T_get (by omega : i < l'.length) ?_) fun hp => ?_
    · rw [wrs hj (by omega), wrs (show i < l.length by omega) (by omega)]
      refine he (((i + 1 : Nat) : Int), l'.set i l[j]) ⟨i + 1, rfl, by omega, by simpa using hl, ?_, ?_⟩
      · simp only
        rw [set_take_succ _ _ _ (by omega), ht, take_filter_succ _ _ _ hj, if_pos hp]
      · simp only
        rw [List.drop_set_of_lt (by omega), hd2]
    · rw [wrs hj (by omega)]
      refine he ((i : Int), l') ⟨i, rfl, by omega, hl, ?_, hd2⟩
      simp only
      rw [ht, take_filter_succ _ _ _ hj, if_neg (by simpa using hp), List.append_nil]) (fun s hs => by
    obtain ⟨s1, l'⟩ := s
    obtain ⟨i, e1, hij, hl, ht, hd⟩ := hs
    simp only at e1 hl ht hd
    subst e1
    dsimp only [slices_DeleteFunc_impl_Route_impl_Route_f72.l0, slices_DeleteFunc_impl_Route_impl_Route_f72.s0]
    simp only [Int.toNat_natCast]
    refine T_neg (by omega) (T_and (by omega) (by omega) (T_and (by omega) (by simp; omega) (T_ret ?_)))
    have h1 : (l'.take i).length = i := by simp; omega
    rw [List.take_append_of_le_length (by omega), List.take_take, Nat.min_self, ht, List.take_length])
  unfold slices_DeleteFunc_impl_Route_impl_Route_f72.f
  refine T_bindE (slices_IndexFunc_impl_Route_impl_Route_f72_r.ev l c0 hn) ?_
  dsimp only
  by_cases e : l.findIdx (impl_DropTo_1.p c0) = l.length
  · rw [if_pos e]
    refine T_true rfl (T_ret ?_)
    have := List.findIdx_eq_length.1 e
    rw [List.filter_eq_self.2 fun x hx => by simp [this x hx]]
  · rw [if_neg e]
    have hlt : l.findIdx (impl_DropTo_1.p c0) < l.length := by have := List.findIdx_le_length (xs := l) (p := impl_DropTo_1.p c0); omega
    obtain ⟨hp, hm⟩ := (List.findIdx_eq hlt).1 rfl
    refine T_false (by simp) ?_
    rw [wrs hlt (by omega)]
    refine T_in (g := fun x j => slices_DeleteFunc_impl_Route_impl_Route_f72.l0 x j _) (h (l.findIdx (impl_DropTo_1.p c0) + 1) ((l.findIdx (impl_DropTo_1.p c0) : Int), l) (by omega) ⟨l.findIdx (impl_DropTo_1.p c0), rfl, by omega, rfl, ?_, rfl⟩) (fun k => k) (fun _ _ h => h)
    simp only
    rw [take_filter_succ _ _ _ hlt, if_neg (by simp [hp]), List.append_nil]
    refine (List.filter_eq_self.2 fun x hx => ?_).symm
    obtain ⟨j, hj, rfl⟩ := List.mem_iff_getElem.1 hx
    have hj2 : j < l.findIdx (impl_DropTo_1.p c0) := by simp at hj; omega
    rw [List.getElem_take]
    simp [hm j hj2]
theorem impl_DropTo.ev (l : List (Int × Int × Int)) (to : Int) (h : l.length ≤ 1048576) : Tells F0 (fun k => impl_DropTo.f k l to) (· = l.filter (fun x => !(x.2.2 == to))) := by
  unfold impl_DropTo.f
  refine T_bindE (impl_copyRoutes.ev l h) ?_
  refine T_bindE (slices_DeleteFunc_impl_Route_impl_Route_f72.ev _ to (by omega)) ?_
  exact T_ret rfl
open Classical in
noncomputable def dropM (l : List Rte) (a n : Int) : List Rte × Bool := if RtesP l ∧ (l.filter (notAt a n)).length ≠ l.length then (l.filter (notAt a n), true) else (l, false)
theorem drop_len (l : List Rte) (a n : Int) : (dropM l a n).1.length ≤ l.length := by
  unfold dropM
  split
  · exact List.length_filter_le _ _
  · exact Nat.le_refl _
theorem impl_DropRoute.ev (l : List Rte) (a n : Int) (h : l.length ≤ 1048576) : Tells F0 (fun k => impl_DropRoute.f k l a n) (· = dropM l a n) := by
  unfold impl_DropRoute.f dropM
  refine T_bindE (impl_withoutPrefix.ev l a n h) (T_bind (impl_RoutesOk.ev l (by omega)) fun r hr => ?_)
  cases r with
  | false => rw [if_neg fun c => by have := hr.2 c.1; cases this]; exact T_true rfl (T_bindE (impl_copyRoutes.ev l h) (T_ret rfl))
  | true =>
    refine T_false rfl (T_beq (fun e => ?_) fun e => T_ret ?_)
    · rw [if_neg fun c => c.2 (by omega)]; exact T_bindE (impl_copyRoutes.ev l h) (T_ret rfl)
    · rw [if_pos ⟨hr.1 rfl, by omega⟩]
theorem laws_sameRoutes.ev (l : List Rte) (hn : l.length ≤ 1048576) : Tells F0 (fun k => laws_sameRoutes.f k l l) (· = true) := by
  have h := T_loop (F := F0) (fun k j i => laws_sameRoutes.l0 k j ((i : Int), l, l)) l.length (fun _ r => r = true) (fun i hi he => by
    dsimp only [laws_sameRoutes.l0, laws_sameRoutes.s0]
    simp only [Int.toNat_natCast]
    rw [wrs hi (by omega)]
    exact T_pos (by omega) (T_get hi (T_get hi (T_false (by simp) he)))) (by
    dsimp only [laws_sameRoutes.l0, laws_sameRoutes.s0]
    exact T_neg (by omega) (T_ret rfl)) 0 (Nat.zero_le _)
  unfold laws_sameRoutes.f
  exact T_false (by simp) (T_in (g := fun x j => laws_sameRoutes.l0 x j _) (by simpa using h) (fun k => k) (fun _ _ h => h))
theorem rtes_of {l : List Rte} (h1 : ∀ x ∈ l, PfxP x.1 x.2.1 ∧ 1 ≤ x.2.2 ∧ x.2.2 ≤ 99) (h2 : l.Pairwise fun x y => aheadP x.1 x.2.1 y.1 y.2.1) (h3 : l.length ≤ 12) : RtesP l := by
  refine ⟨fun i hi hi' => ⟨(h1 _ (List.getElem_mem hi')).1, (h1 _ (List.getElem_mem hi')).2, fun h0 => (List.pairwise_iff_getElem.1 h2) (i - 1) i (by omega) hi' (by omega)⟩, h3⟩
theorem rtes_mem {l : List Rte} (h : RtesP l) : ∀ x ∈ l, PfxP x.1 x.2.1 ∧ 1 ≤ x.2.2 ∧ x.2.2 ≤ 99 := by
  intro x hx
  obtain ⟨i, hi, rfl⟩ := List.getElem_of_mem hx
  have := h.1 i hi hi
  exact ⟨this.1, this.2.1⟩
theorem put_rtes {l : List Rte} {a n g : Int} (h : RtesP l) (hl : l.length ≤ 11) (hp : PfxP a n) (h1 : 1 ≤ g) (h2 : g ≤ 99) : RtesP (putO l a n g) := by
  refine rtes_of (fun x hx => ?_) ?_ ?_
  · rcases put_mem hx with hx | rfl
    · exact rtes_mem h x hx
    · exact ⟨hp, h1, h2⟩
  · unfold putO
    have hw := rtes_pair h
    rw [List.append_assoc, List.pairwise_append]
    refine ⟨hw.filter _, ?_, fun x hx y hy => ?_⟩
    · rw [List.singleton_append, List.pairwise_cons]
      exact ⟨fun y hy => of_decide_eq_true (List.mem_filter.1 hy).2, hw.filter _⟩
    · have a1 : aheadP x.1 x.2.1 a n := of_decide_eq_true (List.mem_filter.1 hx).2
      rw [List.singleton_append, List.mem_cons] at hy
      rcases hy with rfl | hy
      · exact a1
      · have a2 : aheadP a n y.1 y.2.1 := of_decide_eq_true (List.mem_filter.1 hy).2
        unfold aheadP at *
        omega
  · have := put_le l a n g
    omega
theorem put_not {l : List Rte} {a n : Int} (h : l.Pairwise fun x y => aheadP x.1 x.2.1 y.1 y.2.1) : l.filter (ahd a n) ++ l.filter (bhd a n) = l.filter (notAt a n) := by
  induction l with
  | nil => rfl
  | cons x r ih =>
    rw [List.pairwise_cons] at h
    have ih := ih h.2
    simp only [List.filter_cons]
    by_cases h1 : aheadP x.1 x.2.1 a n
    · have e1 : ahd a n x = true := decide_eq_true h1
      have e2 : bhd a n x = false := decide_eq_false (by unfold aheadP at *; omega)
      rw [e1, e2, ahd_not x e1]
      simp only [if_true, Bool.false_eq_true, if_false, List.cons_append, ih]
    · have e1 : ahd a n x = false := decide_eq_false h1
      by_cases h2 : aheadP a n x.1 x.2.1
      · have e2 : bhd a n x = true := decide_eq_true h2
        have e3 : r.filter (ahd a n) = [] := List.filter_eq_nil_iff.2 fun y hy => by
          have := h.1 y hy
          unfold ahd
          rw [decide_eq_true_eq]
          unfold aheadP at *
          omega
        rw [e3, List.nil_append] at ih
        rw [e1, e2, bhd_not x e2, e3]
        simp only [if_true, Bool.false_eq_true, if_false, List.nil_append, ih]
      · have e2 : bhd a n x = false := decide_eq_false h2
        have e3 : notAt a n x = false := by
          have : x.1 = a ∧ x.2.1 = n := by unfold aheadP at *; omega
          simp [notAt, this]
        rw [e1, e2, e3]
        simp only [Bool.false_eq_true, if_false, ih]
theorem FnRoutes : laws_FnRoutes.Goal := by
  rintro l ⟨hl, _, _⟩
  refine Tells.rounds ?_
  unfold laws_FnRoutes.f
  simp only [laws_big.eq, Option.bind_some]
  refine T_dec (fun _ => T_ret rfl) fun hbig => ?_
  have hn : l.length ≤ 1048576 := by omega
  refine T_bind (spec_DrawRoutes.ev l hn) fun d hd => T_bind (spec_DrawAddrs.ev l hn) fun p hp => ?_
  obtain ⟨rs, adr⟩ := d
  obtain ⟨ads, a, n⟩ := p
  obtain ⟨⟨hR, hL, hT⟩, _⟩ := hd
  dsimp only at hR hL hT hp ⊢
  have hO := put_rtes (g := 7) hR (by omega) hp (by omega) (by omega)
  have hM : putM rs a n 7 = (putO rs a n 7, true) := by unfold putM; rw [if_pos ⟨hR, hO⟩]
  have hOl := hO.2
  have hw := rtes_pair hR
  have hnot := put_not (a := a) (n := n) hw
  have hfl := List.length_filter_le (notAt a n) rs
  have hDO : (putO rs a n 7).filter (notAt a n) = rs.filter (notAt a n) := by
    unfold putO
    rw [List.filter_append, List.filter_append, List.filter_eq_self.2 fun x hx => ahd_not x (List.mem_filter.1 hx).2, List.filter_eq_self.2 fun x hx => bhd_not x (List.mem_filter.1 hx).2]
    have : [((a, n, 7) : Rte)].filter (notAt a n) = [] := by simp [notAt]
    rw [this, List.append_nil, hnot]
  have hlen : (rs.filter (notAt a n)).length + 1 = (putO rs a n 7).length := by
    rw [← hnot]
    unfold putO
    simp only [List.length_append, List.length_singleton]
    omega
  have hD : RtesP (rs.filter (notAt a n)) := rtes_of (fun x hx => rtes_mem hR x (List.mem_filter.1 hx).1) (hw.filter _) (by omega)
  have hd1 : dropM (putO rs a n 7) a n = (rs.filter (notAt a n), true) := by unfold dropM; rw [if_pos ⟨hO, by rw [hDO]; omega⟩, hDO]
  have hd2 : dropM (rs.filter (notAt a n)) a n = (rs.filter (notAt a n), false) := by
    unfold dropM
    rw [if_neg fun c => c.2 (by rw [List.filter_filter]; simp)]
  have ht : (putO rs a n 7).filter (fun x => !(x.2.2 == 7)) = rs.filter (notAt a n) := by
    have hk : ∀ q : Rte → Bool, (rs.filter q).filter (fun x => !(x.2.2 == 7)) = rs.filter q := fun q => List.filter_eq_self.2 fun x hx => by
      have := hT x (List.mem_filter.1 hx).1
      simp
      omega
    unfold putO
    rw [List.filter_append, List.filter_append, hk, hk]
    have : [((a, n, 7) : Rte)].filter (fun x => !(x.2.2 == 7)) = [] := by simp
    rw [this, List.append_nil, hnot]
  refine T_bindE (impl_PutRoute.ev rs a n 7 (by omega)) (T_bindE (spec_PutRoute.ev rs a n 7 (by omega)) ?_)
  rw [hM]
  dsimp only
  refine T_false (by simp) (T_bindE (laws_sameRoutes.ev _ (by omega)) (T_false rfl (T_bind (impl_RoutesOk.ev rs (by omega)) fun r1 hr1 => ?_)))
  rw [hr1.2 hR]
  refine T_false rfl (T_bind (impl_RoutesOk.ev _ (by omega)) fun r2 hr2 => ?_)
  rw [hr2.2 hO]
  refine T_false rfl (T_bindE (impl_DropRoute.ev _ a n (by omega)) ?_)
  rw [hd1]
  dsimp only
  refine T_bindE (impl_DropRoute.ev _ a n (by omega)) ?_
  rw [hd2]
  dsimp only
  generalize hDD : rs.filter (notAt a n) = D at *
  have h2 := T_loop (F := F0) (fun k j i => laws_FnRoutes.l2 k j (true, true, false, (i : Int), l, putO rs a n 7, D, D)) D.length (fun _ r => r = true) (fun i hi he => by
    dsimp only [laws_FnRoutes.l2, laws_FnRoutes.s2]
    simp only [Int.toNat_natCast]
    rw [wrs hi (by omega)]
    refine T_pos (by omega) (T_get hi (T_beq (fun e => ?_) fun _ => he))
    have hm : D[i] ∈ rs.filter (notAt a n) := hDD ▸ List.getElem_mem hi
    have := hT _ (List.mem_filter.1 hm).1
    omega) (by
    dsimp only [laws_FnRoutes.l2, laws_FnRoutes.s2]
    refine T_neg (by omega) (T_true rfl (T_true rfl (T_true rfl (T_true ?_ (T_bind (T_call (impl_RoutesOk.ev D (by omega)) Prod.fst (fun _ _ h => h.1)) fun r hr => ?_)))))
    · rw [wr64 (by omega) (by omega)]
      simp only [beq_iff_eq]
      omega
    · rw [hr.2 hD]
      exact T_true rfl (T_ret (by simp))) 0 (Nat.zero_le _)
  have h0 := T_loop (F := F0) (fun k j i => laws_FnRoutes.l0 k j (true, true, false, (i : Int), l, a, n, rs, putO rs a n 7, D)) rs.length (fun _ r => r = true) (fun i hi he => by
    dsimp only [laws_FnRoutes.l0, laws_FnRoutes.s0]
    simp only [Int.toNat_natCast]
    rw [wrs hi (by omega)]
    refine T_pos (by omega) (T_get hi (T_bif (fun _ => T_get hi (T_bindE (T_call (spec_LookUp.ev rs _ (by omega)) Prod.fst (fun _ _ h => h.1)) (T_get hi (T_bindE (T_call (spec_LookUp.ev D _ (by omega)) Prod.fst (fun _ _ h => h.1)) (T_bne (fun e => T_beq (fun e2 => ?_) fun _ => he) fun _ => he))))) fun _ => he))
    have hq : D = rs := by
      rw [← hDD]
      refine List.filter_eq_self.2 (List.length_filter_eq_length_iff.1 ?_)
      rw [hDD]
      omega
    exact absurd (by rw [hq]) e) (by
    dsimp only [laws_FnRoutes.l0, laws_FnRoutes.s0]
    refine T_neg (by omega) (T_bindE (T_call (impl_DropTo.ev (putO rs a n 7) 7 (by omega)) Prod.fst (fun _ _ h => h.1)) ?_)
    rw [ht]
    exact T_call (T_in (g := fun x j => laws_FnRoutes.l2 x j _) (by simpa using h2) (fun k => k) (fun _ _ h => h)) Prod.fst (fun _ _ h => h.1)) 0 (Nat.zero_le _)
  exact T_in (g := fun x j => laws_FnRoutes.l0 x j _) (by simpa using h0) (fun k => k) (fun _ _ h => h)

end Go.Proofs.Ytfaeklomiofpdaa.DI.Pure
