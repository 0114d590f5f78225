/- FnAddrs, the plain part: from some fuel on the law answers true. -/
import Derived.Test.YtpheniajdbbphaaDoorGoalFnAddrs
import Derived.Test.YtpheniajdbbphaaDoorKITE
namespace Go.Proofs.YtpheniajdbbphaaDoor.DI.Pure
open Go Go.RowKit
set_option linter.unusedVariables false
set_option linter.unusedSimpArgs false
theorem in_eq (k : Nat) (n a b : Int) : spec_l01In.f k n a b = some (decide (a ≤ n ∧ n ≤ b)) := by
  unfold spec_l01In.f
  by_cases h : n ≥ a <;> by_cases h' : n ≤ b <;> simp [h, h'] <;> omega
theorem within_eq (k : Nat) (n a b : Int) : impl_within.f k n a b = some (decide (a ≤ n ∧ n ≤ b)) := by
  unfold impl_within.f
  by_cases h : n ≥ a <;> by_cases h' : n ≤ b <;> simp [h, h'] <;> omega

def PfxP (a n : Int) : Prop := (0 ≤ a ∧ a ≤ 4294967295) ∧ (0 ≤ n ∧ n ≤ 32) ∧ a % 2 ^ (32 - n).toNat = 0
def InP (p n a : Int) : Prop := PfxP p n ∧ (0 ≤ a ∧ a ≤ 4294967295) ∧ a - a % 2 ^ (32 - n).toNat = p
instance decPfxP (a n : Int) : Decidable (PfxP a n) := by unfold PfxP; infer_instance
instance decInP (p n a : Int) : Decidable (InP p n a) := by unfold InP; infer_instance
theorem pow_rng (m : Nat) (h : m ≤ 32) : (1 : Int) ≤ 2 ^ m ∧ (2 : Int) ^ m ≤ 4294967296 := by
  have h1 : 2 ^ m ≤ 2 ^ 32 := Nat.pow_le_pow_right (by decide) h
  have h2 : 1 ≤ 2 ^ m := Nat.one_le_two_pow
  have e : ((2 ^ m : Nat) : Int) = (2 : Int) ^ m := by simp
  omega
theorem mask_nat (i : Nat) : ((2 : Int) ^ i - 1) = ((2 ^ i - 1 : Nat) : Int) := by
  have hpn : 1 ≤ 2 ^ i := Nat.one_le_two_pow
  rw [Int.natCast_sub hpn]; simp
theorem bv_nat (a : Nat) (h : a < 18446744073709551616) : (BitVec.ofInt IntKind.i64.bits (a : Int)).toNat = a := by
  show (BitVec.ofInt 64 (a : Int)).toNat = a
  rw [BitVec.ofInt_natCast, BitVec.toNat_ofNat, Nat.mod_eq_of_lt h]
theorem and_mask (i : Nat) (hi : i ≤ 32) (x : Int) (h₀ : 0 ≤ x) (h₁ : x ≤ 4294967295) : (((BitVec.ofInt IntKind.i64.bits x) &&& (BitVec.ofInt IntKind.i64.bits (2 ^ i - 1))).toNat : Int) = x % 2 ^ i := by
  obtain ⟨a, rfl⟩ := Int.eq_ofNat_of_zero_le h₀
  have hb : 2 ^ i ≤ 2 ^ 32 := Nat.pow_le_pow_right (by decide) hi
  rw [mask_nat, BitVec.toNat_and, bv_nat a (by omega), bv_nat _ (by omega), Nat.and_two_pow_sub_one_eq_mod]
  simp
theorem andNot_mask (i : Nat) (hi : i ≤ 32) (x : Int) (h₀ : 0 ≤ x) (h₁ : x ≤ 4294967295) : (((BitVec.ofInt IntKind.i64.bits x) &&& ~~~(BitVec.ofInt IntKind.i64.bits (2 ^ i - 1))).toNat : Int) = x - x % 2 ^ i := by
  have e1 := and_mask i hi x h₀ h₁
  obtain ⟨a, rfl⟩ := Int.eq_ofNat_of_zero_le h₀
  have hb : 2 ^ i ≤ 2 ^ 32 := Nat.pow_le_pow_right (by decide) hi
  have e2 : (BitVec.ofInt IntKind.i64.bits (a : Int) &&& BitVec.ofInt IntKind.i64.bits (2 ^ i - 1)) + (BitVec.ofInt IntKind.i64.bits (a : Int) &&& ~~~ (BitVec.ofInt IntKind.i64.bits (2 ^ i - 1))) = BitVec.ofInt IntKind.i64.bits (a : Int) := by
    generalize BitVec.ofInt IntKind.i64.bits (a : Int) = u
    generalize BitVec.ofInt IntKind.i64.bits (2 ^ i - 1) = v
    rw [BitVec.add_eq_or_of_and_eq_zero]
    · ext j h
      simp
      cases (u[j]) <;> simp
    · ext j h
      simp
      cases (u[j]) <;> simp
  have e3 := congrArg BitVec.toNat e2
  rw [BitVec.toNat_add, bv_nat a (by omega)] at e3
  have h4 : (BitVec.ofInt IntKind.i64.bits (a : Int) &&& ~~~ (BitVec.ofInt IntKind.i64.bits (2 ^ i - 1))).toNat ≤ a := by
    rw [BitVec.toNat_and, bv_nat a (by omega)]
    exact Nat.and_le_left
  have h5 : (a : Int) % 2 ^ i ≤ a := by
    have : ((a % 2 ^ i : Nat) : Int) = (a : Int) % 2 ^ i := by simp
    have := Nat.mod_le a (2 ^ i)
    omega
  have h6 : 0 ≤ (a : Int) % 2 ^ i := Int.emod_nonneg _ (by have := pow_rng i hi; omega)
  have e4 : (2 : Nat) ^ IntKind.i64.bits = 18446744073709551616 := by decide
  rw [e4] at e3
  rw [Nat.mod_eq_of_lt (by omega)] at e3
  omega
theorem or_mask (i : Nat) (hi : i ≤ 32) (x : Int) (h₀ : 0 ≤ x) (h₁ : x ≤ 4294967295) (hm : x % 2 ^ i = 0) : (((BitVec.ofInt IntKind.i64.bits x) ||| (BitVec.ofInt IntKind.i64.bits (2 ^ i - 1))).toNat : Int) = x + 2 ^ i - 1 := by
  obtain ⟨a, rfl⟩ := Int.eq_ofNat_of_zero_le h₀
  have hb : 2 ^ i ≤ 2 ^ 32 := Nat.pow_le_pow_right (by decide) hi
  have hpn : 1 ≤ 2 ^ i := Nat.one_le_two_pow
  have hmn : a % 2 ^ i = 0 := by
    have : ((a % 2 ^ i : Nat) : Int) = (a : Int) % 2 ^ i := by simp
    omega
  have hd : a = 2 ^ i * (a / 2 ^ i) := by have := Nat.div_add_mod a (2 ^ i); omega
  rw [mask_nat, BitVec.toNat_or, bv_nat a (by omega), bv_nat _ (by omega), hd, ← Nat.two_pow_add_eq_or_of_lt (by omega : 2 ^ i - 1 < 2 ^ i)]
  rw [← hd]
  have : ((2 ^ i : Nat) : Int) = (2 : Int) ^ i := by simp
  omega
theorem impl_AddrOk_eq (k : Nat) (a : Int) : impl_AddrOk.f k a = some (decide (0 ≤ a ∧ a ≤ 4294967295)) := by
  unfold impl_AddrOk.f
  rw [within_eq]; rfl
theorem spec_AddrOk_eq (k : Nat) (a : Int) : spec_AddrOk.f k a = some (decide (0 ≤ a ∧ a ≤ 4294967295)) := by
  unfold spec_AddrOk.f
  rw [in_eq]; rfl
theorem lastBits_eq (k : Nat) (n : Int) (h0 : 0 ≤ n) (h1 : n ≤ 32) : impl_lastBits.f k n = some (2 ^ (32 - n).toNat - 1) := by
  unfold impl_lastBits.f
  have hp := pow_rng (32 - n).toNat (by omega)
  rw [wr64 (x := 32 - n) (by omega) (by omega), show min (32 - n).toNat IntKind.i64.bits = (32 - n).toNat from Nat.min_eq_left (by show _ ≤ 64; omega), Int.one_mul, wr64 (x := 2 ^ (32 - n).toNat) (by omega) (by omega), wr64 (by omega) (by omega)]
  have : decide (32 - n < 0) = false := decide_eq_false (by omega)
  rw [this]; rfl
theorem impl_PrefixOk_eq (k : Nat) (a n : Int) : impl_PrefixOk.f k a n = some (decide (PfxP a n)) := by
  unfold impl_PrefixOk.f
  simp only [impl_AddrOk_eq, within_eq, Option.bind_some]
  by_cases h1 : 0 ≤ a ∧ a ≤ 4294967295
  · by_cases h2 : 0 ≤ n ∧ n ≤ 32
    · have hp := pow_rng (32 - n).toNat (by omega)
      have hm0 := Int.emod_nonneg a (show (2 : Int) ^ (32 - n).toNat ≠ 0 by omega)
      have hm1 := Int.emod_lt_of_pos a (show (0 : Int) < 2 ^ (32 - n).toNat by omega)
      rw [decide_eq_true h1, decide_eq_true h2]
      simp only [cond_true, lastBits_eq k n h2.1 h2.2, Option.bind_some]
      rw [and_mask _ (by omega) a h1.1 h1.2, wr64 (by omega) (by omega)]
      congr 1
      by_cases h3 : a % 2 ^ (32 - n).toNat = 0
      · rw [decide_eq_true (show PfxP a n from ⟨h1, h2, h3⟩)]; simp [h3]
      · rw [decide_eq_false (show ¬ PfxP a n from fun c => h3 c.2.2)]; simp [h3]
    · rw [decide_eq_true h1, decide_eq_false h2, decide_eq_false (show ¬ PfxP a n from fun c => h2 c.2.1)]; rfl
  · rw [decide_eq_false h1, decide_eq_false (show ¬ PfxP a n from fun c => h1 c.1)]; rfl
theorem impl_InPrefix_eq (k : Nat) (p n a : Int) : impl_InPrefix.f k p n a = some (decide (InP p n a)) := by
  unfold impl_InPrefix.f
  simp only [impl_PrefixOk_eq, impl_AddrOk_eq, Option.bind_some]
  by_cases h1 : PfxP p n
  · by_cases h2 : 0 ≤ a ∧ a ≤ 4294967295
    · have hn := h1.2.1
      have hp := pow_rng (32 - n).toNat (by omega)
      have hm0 := Int.emod_nonneg a (show (2 : Int) ^ (32 - n).toNat ≠ 0 by omega)
      have hm1 := Int.emod_lt_of_pos a (show (0 : Int) < 2 ^ (32 - n).toNat by omega)
      rw [decide_eq_true h1, decide_eq_true h2]
      simp only [cond_true, lastBits_eq k n hn.1 hn.2, Option.bind_some]
      rw [andNot_mask _ (by omega) a h2.1 h2.2, wr64 (by omega) (by omega)]
      congr 1
      by_cases h3 : a - a % 2 ^ (32 - n).toNat = p
      · rw [decide_eq_true (show InP p n a from ⟨h1, h2, h3⟩)]; simp [h3]
      · rw [decide_eq_false (show ¬ InP p n a from fun c => h3 c.2.2)]; simp [h3]
    · rw [decide_eq_true h1, decide_eq_false h2, decide_eq_false (show ¬ InP p n a from fun c => h2 c.2.1)]; rfl
  · rw [decide_eq_false h1, decide_eq_false (show ¬ InP p n a from fun c => h1 c.1)]; rfl
theorem spec_l08Size.ev (n : Int) (h0 : 0 ≤ n) (h1 : n ≤ 32) : Tells F0 (fun k => spec_l08Size.f k n) (· = 2 ^ (32 - n).toNat) := by
  obtain ⟨m, rfl⟩ := Int.eq_ofNat_of_zero_le h0
  have hd : ∀ j : Fin 32, IntKind.i64.wrap (2 * 2 ^ j.val) = 2 ^ (j.val + 1) := by decide +kernel
  have h := T_loop (F := F0) (fun k j i => spec_l08Size.l0 k j (2 ^ i, ((m + i : Nat) : Int))) (32 - m) (fun _ r => r = 2 ^ (32 - m)) (fun i hi he => by
    dsimp only [spec_l08Size.l0, spec_l08Size.s0]
    refine T_pos (by omega) ?_
    rw [hd ⟨i, by omega⟩, wrn (by omega)]
    exact he) (by
    dsimp only [spec_l08Size.l0, spec_l08Size.s0]
    exact T_neg (by omega) (T_ret rfl)) 0 (Nat.zero_le _)
  unfold spec_l08Size.f
  rw [show (32 - (m : Int)).toNat = 32 - m by omega]
  exact T_in (g := fun x j => spec_l08Size.l0 x j _) (by simpa using h) (fun k => k) (fun _ _ h => h)
theorem spec_PrefixOk.ev (a n : Int) : Tells F0 (fun k => spec_PrefixOk.f k a n) (· = decide (PfxP a n)) := by
  unfold spec_PrefixOk.f
  simp only [spec_AddrOk_eq, in_eq, Option.bind_some]
  refine T_dec (fun h1 => T_dec (fun h2 => ?_) fun h => T_ret (decide_eq_false fun c => h c.2.1).symm) fun h => T_ret (decide_eq_false fun c => h c.1).symm
  refine T_bindE (spec_l08Size.ev n h2.1 h2.2) ?_
  have hp := pow_rng (32 - n).toNat (by omega)
  refine T_false (by simp; omega) (T_ret ?_)
  rw [Int.tmod_eq_emod_of_nonneg h1.1]
  by_cases h3 : a % 2 ^ (32 - n).toNat = 0
  · rw [decide_eq_true (show PfxP a n from ⟨h1, h2, h3⟩)]; simp [h3]
  · rw [decide_eq_false (show ¬ PfxP a n from fun c => h3 c.2.2)]; simp [h3]
theorem spec_InPrefix.ev (p n a : Int) : Tells F0 (fun k => spec_InPrefix.f k p n a) (· = decide (InP p n a)) := by
  unfold spec_InPrefix.f
  refine T_bindE (spec_PrefixOk.ev p n) ?_
  simp only [spec_AddrOk_eq, Option.bind_some]
  refine T_dec (fun h1 => T_dec (fun h2 => ?_) fun h => T_ret (decide_eq_false fun c => h c.2.1).symm) fun h => T_ret (decide_eq_false fun c => h c.1).symm
  have hn := h1.2.1
  refine T_bindE (spec_l08Size.ev n hn.1 hn.2) ?_
  have hp := pow_rng (32 - n).toNat (by omega)
  have hm0 := Int.emod_nonneg a (show (2 : Int) ^ (32 - n).toNat ≠ 0 by omega)
  have hm1 := Int.emod_lt_of_pos a (show (0 : Int) < 2 ^ (32 - n).toNat by omega)
  refine T_false (by simp; omega) (T_ret ?_)
  rw [Int.tmod_eq_emod_of_nonneg h2.1, wr64 (by omega) (by omega)]
  by_cases h3 : a - a % 2 ^ (32 - n).toNat = p
  · rw [decide_eq_true (show InP p n a from ⟨h1, h2, h3⟩)]; simp [h3]
  · rw [decide_eq_false (show ¬ InP p n a from fun c => h3 c.2.2)]; simp [h3]

/-! Decimal texts. -/
def dig (d : Nat) : ByteArray := ⟨#[UInt8.ofNat (48 + d)]⟩
def decB (n : Nat) : ByteArray := ⟨(Lib.decDigits n).toArray⟩
theorem decB_small {n : Nat} (h : n < 10) : decB n = dig n := by unfold decB dig; rw [Lib.decDigits, dif_pos h]
theorem decB_big {n : Nat} (h : ¬ n < 10) : decB n = decB (n / 10) ++ dig (n % 10) := by
  apply ByteArray.ext
  unfold decB dig
  rw [Lib.decDigits, dif_neg h]
  simp
def decR (n : Nat) (s : ByteArray) : ByteArray := if n = 0 then s else decB n ++ s
theorem decR_step {n : Nat} (h : 0 < n) (s : ByteArray) : decR (n / 10) (dig (n % 10) ++ s) = decR n s := by
  unfold decR
  rw [if_neg (show n ≠ 0 by omega)]
  by_cases h1 : n < 10
  · rw [if_pos (by omega), decB_small h1, show n % 10 = n by omega]
  · rw [if_neg (by omega), decB_big h1, ByteArray.append_assoc]
theorem dig_str (d : Nat) : strOfNums [((48 + d : Nat) : Int)] = dig d := rfl
theorem dig_size (d : Nat) : (dig d).size = 1 := rfl
theorem impl_Decimal.ev {n : Nat} (h : n ≤ 9223372036854775807) : Tells F0 (fun k => impl_Decimal.f k (n : Int)) (· = decB n) := by
  unfold impl_Decimal.f strconv_Itoa.f itoaRun
  rw [if_pos ⟨by omega, by omega⟩]
  refine T_ret ?_
  unfold Lib.itoa decB
  rw [if_neg (by omega), Int.toNat_natCast]
theorem decDigits_len : ∀ (m n : Nat), n < 10 ^ (m + 1) → (Lib.decDigits n).length ≤ m + 1
  | 0, n, h => by
    rw [Lib.decDigits, dif_pos (by omega)]
    simp
  | m + 1, n, h => by
    rw [Lib.decDigits]
    split
    · simp
    · rw [List.length_append]
      have := decDigits_len m (n / 10) (by rw [Nat.pow_succ] at h; omega)
      simp only [List.length_singleton]
      omega
theorem decB_size {n : Nat} (h : n ≤ 9223372036854775807) : (decB n).size ≤ 19 := by
  have := decDigits_len 18 n (by omega)
  show (Lib.decDigits n).toArray.size ≤ 19
  simpa using this

theorem T_is {ι α : Type} {F : Fu ι} {g : ι → Option α} {v : α} (h : ∀ x, g x = some v) : Tells F g (· = v) := ⟨v, rfl, 0, fun x _ => h x⟩

/-! The text of an address. -/
def DOT : ByteArray := ⟨#[46]⟩
def quadB (d c b a : Nat) : ByteArray := (((((decB d ++ DOT) ++ decB c) ++ DOT) ++ decB b) ++ DOT) ++ decB a
def quadN (n : Nat) : ByteArray := quadB (n / 16777216) (n / 65536 % 256) (n / 256 % 256) (n % 256)
def atM (x : Int) : ByteArray := if 0 ≤ x ∧ x ≤ 4294967295 then quadN x.toNat else ByteArray.empty
theorem quad_size {d c b a : Nat} (hd : d ≤ 255) (hc : c ≤ 255) (hb : b ≤ 255) (ha : a ≤ 255) : (quadB d c b a).size ≤ 79 := by
  have h1 := decB_size (n := d) (by omega)
  have h2 := decB_size (n := c) (by omega)
  have h3 := decB_size (n := b) (by omega)
  have h4 := decB_size (n := a) (by omega)
  have y : DOT.size = 1 := rfl
  unfold quadB
  simp only [ByteArray.size_append]
  omega
theorem atM_size (x : Int) : (atM x).size ≤ 79 := by
  unfold atM
  split
  · exact quad_size (by omega) (by omega) (by omega) (by omega)
  · exact Nat.zero_le _
theorem and255 (x : Int) (h0 : 0 ≤ x) (h1 : x ≤ 4294967295) : IntKind.i64.wrap (((BitVec.ofInt IntKind.i64.bits x) &&& (BitVec.ofInt IntKind.i64.bits (255 : Int))).toNat : Int) = x % 256 := by
  have := and_mask 8 (by omega) x h0 h1
  rw [show ((2 : Int) ^ 8 - 1) = 255 from by decide, show ((2 : Int) ^ 8) = 256 from by decide] at this
  rw [this, wr64 (by omega) (by omega)]
theorem impl_AddrText.ev (x : Int) : Tells F0 (fun k => impl_AddrText.f k x) (· = atM x) := by
  unfold impl_AddrText.f atM
  simp only [impl_AddrOk_eq, Option.bind_some]
  refine T_ndec (fun g => ?_) fun g => T_ret (by rw [if_neg g])
  rw [if_pos g]
  obtain ⟨n, rfl⟩ : ∃ n : Nat, x = (n : Int) := ⟨x.toNat, by omega⟩
  have f1 : (n : Int).fdiv (2 ^ 24) = ((n / 16777216 : Nat) : Int) := by rw [Int.fdiv_eq_ediv_of_nonneg _ (by decide), show ((2 : Int) ^ 24) = 16777216 from by decide]; omega
  have f2 : (n : Int).fdiv (2 ^ 16) = ((n / 65536 : Nat) : Int) := by rw [Int.fdiv_eq_ediv_of_nonneg _ (by decide), show ((2 : Int) ^ 16) = 65536 from by decide]; omega
  have f3 : (n : Int).fdiv (2 ^ 8) = ((n / 256 : Nat) : Int) := by rw [Int.fdiv_eq_ediv_of_nonneg _ (by decide), show ((2 : Int) ^ 8) = 256 from by decide]; omega
  rw [f1, f2, f3, and255 _ (by omega) (by omega), and255 _ (by omega) (by omega), and255 _ (by omega) (by omega)]
  have e2 : ((n / 65536 : Nat) : Int) % 256 = ((n / 65536 % 256 : Nat) : Int) := by omega
  have e3 : ((n / 256 : Nat) : Int) % 256 = ((n / 256 % 256 : Nat) : Int) := by omega
  have e4 : (n : Int) % 256 = ((n % 256 : Nat) : Int) := by omega
  have h1 := decB_size (n := n / 16777216) (by omega)
  have h2 := decB_size (n := n / 65536 % 256) (by omega)
  have h3 := decB_size (n := n / 256 % 256) (by omega)
  have h4 := decB_size (n := n % 256) (by omega)
  have y : (⟨#[46]⟩ : ByteArray).size = 1 := rfl
  rw [e2, e3, e4]
  refine T_bindE (impl_Decimal.ev (by omega)) (T_pos (by omega) (T_bindE (impl_Decimal.ev (by omega)) (T_pos (by simp only [ByteArray.size_append]; omega) (T_pos (by simp only [ByteArray.size_append]; omega) (T_bindE (impl_Decimal.ev (by omega)) (T_pos (by simp only [ByteArray.size_append]; omega) (T_pos (by simp only [ByteArray.size_append]; omega) (T_bindE (impl_Decimal.ev (by omega)) (T_pos (by simp only [ByteArray.size_append]; omega) (T_ret rfl))))))))))
/-! The text of a prefix. -/
def SLA : ByteArray := ⟨#[47]⟩
open Classical in
noncomputable def ptM (a n : Int) : ByteArray × Bool := if PfxP a n then ((atM a ++ SLA) ++ decB n.toNat, true) else (ByteArray.empty, false)
theorem ptM_size (a n : Int) : (ptM a n).1.size ≤ 99 := by
  unfold ptM
  split
  · rename_i h
    have h1 := atM_size a
    have h2 := decB_size (n := n.toNat) (by have := h.2.1; omega)
    have y : SLA.size = 1 := rfl
    simp only [ByteArray.size_append]
    omega
  · exact Nat.zero_le _
theorem impl_PrefixText.ev (a n : Int) : Tells F0 (fun k => impl_PrefixText.f k a n) (· = ptM a n) := by
  unfold impl_PrefixText.f ptM
  simp only [impl_PrefixOk_eq, Option.bind_some]
  refine T_ndec (fun g => ?_) fun g => T_ret (by rw [if_neg g])
  rw [if_pos g]
  have g2 := g.2.1
  obtain ⟨m, rfl⟩ : ∃ m : Nat, n = (m : Int) := ⟨n.toNat, by omega⟩
  have h1 := atM_size a
  have h2 := decB_size (n := m) (by omega)
  have y : (⟨#[47]⟩ : ByteArray).size = 1 := rfl
  exact T_bindE (impl_AddrText.ev a) (T_pos (by omega) (T_bindE (impl_Decimal.ev (by omega)) (T_pos (by simp only [ByteArray.size_append]; omega) (T_ret rfl))))

/-! Decimal texts that are read. -/
theorem decB_toList (n : Nat) : (decB n).data.toList = Lib.decDigits n := rfl
/-- What the digits of a text come to. -/
def valL (acc : Nat) (l : List UInt8) : Nat := l.foldl (fun a c => a * 10 + (c.toNat - 48)) acc
theorem dig_nat {d : Nat} (h : d < 10) : (UInt8.ofNat (48 + d)).toNat = 48 + d := by
  simp only [UInt8.toNat_ofNat']
  omega
theorem digits_range : ∀ (u : Nat), ∀ c ∈ Lib.decDigits u, 48 ≤ c.toNat ∧ c.toNat ≤ 57 := by
  intro u
  induction u using Nat.strongRecOn with
  | ind u ih =>
    intro c hc
    rw [Lib.decDigits] at hc
    split at hc
    · simp only [List.mem_singleton] at hc
      rw [hc, dig_nat (by omega)]
      omega
    · rcases List.mem_append.1 hc with hc | hc
      · exact ih (u / 10) (by omega) c hc
      · simp only [List.mem_singleton] at hc
        rw [hc, dig_nat (by omega)]
        omega
theorem val_digits : ∀ (u : Nat), valL 0 (Lib.decDigits u) = u := by
  intro u
  induction u using Nat.strongRecOn with
  | ind u ih =>
    rw [Lib.decDigits]
    split
    · simp only [valL, List.foldl_cons, List.foldl_nil]
      rw [dig_nat (by omega)]
      omega
    · have := ih (u / 10) (by omega)
      unfold valL at this ⊢
      rw [List.foldl_append, this]
      simp only [List.foldl_cons, List.foldl_nil]
      rw [dig_nat (by omega)]
      omega
theorem decB_inj {m n : Nat} (h : decB m = decB n) : m = n := by
  have := congrArg (fun b : ByteArray => valL 0 b.data.toList) h
  simp only [decB_toList, val_digits] at this
  exact this
theorem decDigits_ne (n : Nat) : Lib.decDigits n ≠ [] := by
  rw [Lib.decDigits]
  split <;> simp
/-- The number of a text that is a number's. -/
noncomputable def rdM (s : ByteArray) : Int × Bool := @dite (Int × Bool) (∃ n : Nat, n ≤ 1000000000 ∧ s = decB n) (Classical.propDecidable _) (fun h => ((h.choose : Int), true)) (fun _ => (0, false))
theorem rdM_yes {n : Nat} (h : n ≤ 1000000000) : rdM (decB n) = ((n : Int), true) := by
  have hx : ∃ m : Nat, m ≤ 1000000000 ∧ decB n = decB m := ⟨n, h, rfl⟩
  unfold rdM
  rw [dif_pos hx]
  have := decB_inj hx.choose_spec.2
  rw [← this]
theorem rdM_no {s : ByteArray} (h : ¬ ∃ n : Nat, n ≤ 1000000000 ∧ s = decB n) : rdM s = (0, false) := by
  unfold rdM
  rw [dif_neg h]
theorem parse_digits : ∀ (l : List UInt8) (acc : Nat), (∀ c ∈ l, 48 ≤ c.toNat ∧ c.toNat ≤ 57) → valL acc l < 18446744073709551616 → Lib.parseUint10 acc l = .ok (valL acc l)
  | [], acc, _, _ => rfl
  | c :: r, acc, hd, hv => by
    have hc := hd c (by simp)
    have mono : ∀ (l : List UInt8) (a : Nat), a ≤ valL a l := by
      intro l
      induction l with
      | nil => intro a; exact Nat.le_refl _
      | cons x q ih =>
        intro a
        refine Nat.le_trans ?_ (ih (a * 10 + (x.toNat - 48)))
        omega
    have hm := mono r (acc * 10 + (c.toNat - 48))
    have hv' : valL (acc * 10 + (c.toNat - 48)) r < 18446744073709551616 := hv
    simp only [Lib.parseUint10]
    rw [if_pos hc, if_neg (by omega), if_neg (by omega)]
    exact parse_digits r _ (fun x hx => hd x (by simp [hx])) hv'
theorem atoi_dec {n : Nat} (h : n ≤ 1000000000) : Lib.atoiAll (Lib.decDigits n) = .ok (n : Int) := by
  have hp := parse_digits (Lib.decDigits n) 0 (digits_range n) (by rw [val_digits]; omega)
  rw [val_digits] at hp
  have hne := decDigits_ne n
  have hr := digits_range n
  match hl : Lib.decDigits n, hne with
  | c :: r, _ =>
    rw [hl] at hp hr
    have hc := hr c (by simp)
    unfold Lib.atoiAll
    simp only
    rw [if_neg (show ¬ (c.toNat = 43 ∨ c.toNat = 45) by omega)]
    unfold Lib.parseMag
    rw [if_neg (by simp), hp]
    simp only
    rw [if_neg (by omega), if_neg (by omega), if_neg (by omega)]
theorem readDM_eq (s : ByteArray) : readDM s = rdM s := by
  by_cases h : ∃ n : Nat, n ≤ 1000000000 ∧ s = decB n
  · obtain ⟨n, hn, rfl⟩ := h
    rw [rdM_yes hn]
    unfold readDM
    rw [decB_toList, atoi_dec hn]
    simp only
    rw [if_pos ⟨⟨by omega, by omega⟩, by unfold Lib.itoa; rw [if_neg (by omega), Int.toNat_natCast]⟩]
  · rw [rdM_no h]
    unfold readDM
    split
    · rename_i v hv
      rw [if_neg]
      rintro ⟨⟨h0, h1⟩, h2⟩
      refine h ⟨v.toNat, by omega, ?_⟩
      unfold Lib.itoa at h2
      rw [if_neg (by omega)] at h2
      apply ByteArray.ext
      apply Array.toList_inj.mp
      rw [← h2]
      rfl
    · rfl
theorem impl_ReadDecimal.ev (s : ByteArray) (h : s.size ≤ 281474976710656) : Tells F0 (fun k => impl_ReadDecimal.f k s) (· = rdM s) := by
  refine T_is fun k => ?_
  unfold impl_ReadDecimal.f readDRun
  rw [if_pos h, readDM_eq]
theorem valL_snoc (l : List UInt8) (c : UInt8) : valL 0 (l ++ [c]) = valL 0 l * 10 + (c.toNat - 48) := by unfold valL; rw [List.foldl_append]; rfl
theorem val_bound : ∀ (l : List UInt8), (∀ c ∈ l, 48 ≤ c.toNat ∧ c.toNat ≤ 57) → ∀ m, l.length ≤ m → ∀ a, valL a l + 1 ≤ (a + 1) * 10 ^ m
  | [], _, m, _, a => by
    have := Nat.one_le_pow m 10 (by omega)
    show a + 1 ≤ (a + 1) * 10 ^ m
    exact Nat.le_mul_of_pos_right _ this
  | c :: r, hd, 0, hl, a => by simp at hl
  | c :: r, hd, m + 1, hl, a => by
    have ih := val_bound r (fun x hx => hd x (by simp [hx])) m (by simpa using hl) (a * 10 + (c.toNat - 48))
    have hc := hd c (by simp)
    have e : valL a (c :: r) = valL (a * 10 + (c.toNat - 48)) r := rfl
    rw [e, Nat.pow_succ]
    refine Nat.le_trans ih ?_
    rw [Nat.mul_comm (10 ^ m) 10, ← Nat.mul_assoc]
    exact Nat.mul_le_mul_right _ (by omega)
/-! Texts split at a byte. -/
def splD (s : ByteArray) (c : UInt8) : Nat → Nat → Nat → List ByteArray
  | b, 0, _ => [s.extract b s.size]
  | b, d + 1, i => if s.data.toList[i]? = some c then s.extract b i :: splD s c (i + 1) d (i + 1) else splD s c b d (i + 1)
def splM (s : ByteArray) (c : UInt8) : List ByteArray := splD s c 0 s.size 0
theorem splD_len (s : ByteArray) (c : UInt8) : ∀ (d b i : Nat), 1 ≤ (splD s c b d i).length ∧ (splD s c b d i).length ≤ d + 1
  | 0, b, i => ⟨Nat.le_refl _, Nat.le_refl _⟩
  | d + 1, b, i => by
    unfold splD
    split
    · have := splD_len s c d (i + 1) (i + 1)
      simp only [List.length_cons]
      omega
    · have := splD_len s c d b (i + 1)
      omega
theorem splD_size (s : ByteArray) (c : UInt8) : ∀ (d b i : Nat), ∀ x ∈ splD s c b d i, ByteArray.size x ≤ s.size
  | 0, b, i, x, hx => by
    simp only [splD, List.mem_singleton] at hx
    rw [hx, ByteArray.size_extract]
    omega
  | d + 1, b, i, x, hx => by
    unfold splD at hx
    split at hx
    · rcases List.mem_cons.1 hx with rfl | hx
      · rw [ByteArray.size_extract]; omega
      · exact splD_size s c d _ _ x hx
    · exact splD_size s c d _ _ x hx
theorem splD_skip (s : ByteArray) (c : UInt8) (b : Nat) : ∀ (m d i : Nat), m ≤ d → (∀ k, k < m → s.data.toList[i + k]? ≠ some c) → splD s c b d i = splD s c b (d - m) (i + m)
  | 0, d, i, _, _ => rfl
  | m + 1, 0, i, h, _ => absurd h (by omega)
  | m + 1, d + 1, i, h, hk => by
    rw [splD, if_neg (show ¬ s.data.toList[i]? = some c from hk 0 (by omega)), splD_skip s c b m d (i + 1) (by omega) (fun k hk' => by rw [show i + 1 + k = i + (k + 1) from by omega]; exact hk (k + 1) (by omega))]
    rw [show d + 1 - (m + 1) = d - m from by omega, show i + 1 + m = i + (m + 1) from by omega]
/-- The first place of a byte behind a place. -/
theorem first_at (s : ByteArray) (c : UInt8) (b : Nat) (hb : b ≤ s.size) :
    (Lib.indexB (s.extract b s.size) ⟨#[c]⟩ = -1 ∧ splD s c b (s.size - b) b = [s.extract b s.size] ∧ ∀ k, b ≤ k → s.data.toList[k]? ≠ some c) ∨
    ∃ i : Nat, Lib.indexB (s.extract b s.size) ⟨#[c]⟩ = (i : Int) ∧ b + i < s.size ∧ splD s c b (s.size - b) b = s.extract b (b + i) :: splD s c (b + i + 1) (s.size - (b + i + 1)) (b + i + 1) := by
  have hl : s.data.toList.length = s.size := by rw [Array.length_toList]; rfl
  have e1 : Lib.indexB (s.extract b s.size) ⟨#[c]⟩ = Lib.indexByte (s.data.toList.drop b) c := by
    show Lib.index (s.extract b s.size).data.toList [c] = _
    rw [Lib.index_one, Lib.extract_data, List.take_of_length_le (by rw [List.length_drop]; omega)]
  have get : ∀ k, (s.data.toList.drop b)[k]? = s.data.toList[b + k]? := fun k => by rw [List.getElem?_drop]
  by_cases hn : Lib.indexByte (s.data.toList.drop b) c = -1
  · left
    have hno := Lib.indexByte_none hn
    refine ⟨by rw [e1, hn], ?_, fun k hk => by have := hno (k - b); rw [get, show b + (k - b) = k from by omega] at this; exact this⟩
    rw [splD_skip s c b (s.size - b) (s.size - b) b (Nat.le_refl _) (fun k _ => by rw [← get]; exact hno k), Nat.sub_self]
    rfl
  · right
    have hge := Lib.indexByte_ge (s.data.toList.drop b) c
    obtain ⟨i, hi⟩ : ∃ i : Nat, Lib.indexByte (s.data.toList.drop b) c = i := ⟨(Lib.indexByte (s.data.toList.drop b) c).toNat, by omega⟩
    obtain ⟨h1, h2⟩ := Lib.indexByte_some hi
    rw [get] at h1
    have hlt : b + i < s.size := by
      have := (List.getElem?_eq_some_iff.1 h1).1
      omega
    refine ⟨i, by rw [e1, hi], hlt, ?_⟩
    rw [splD_skip s c b i (s.size - b) b (by omega) (fun k hk => by rw [← get]; exact h2 k hk), show s.size - b - i = (s.size - (b + i + 1)) + 1 from by omega, splD, if_pos h1]
theorem extract_tail (s : ByteArray) (b j : Nat) (h : b + j ≤ s.size) : (s.extract b s.size).extract j (s.extract b s.size).size = s.extract (b + j) s.size := by
  rw [ByteArray.extract_extract, ByteArray.size_extract]
  congr 1
  omega
theorem extract_head (s : ByteArray) (b j : Nat) (h : b + j ≤ s.size) : (s.extract b s.size).extract 0 j = s.extract b (b + j) := by
  rw [ByteArray.extract_extract]
  congr 1
  omega
theorem splitB_eq (s : ByteArray) (c : UInt8) : ∀ (m b : Nat), s.size - b ≤ m → b ≤ s.size → Lib.splitB ⟨#[c]⟩ 0 (Lib.countB (s.extract b s.size) ⟨#[c]⟩) (s.extract b s.size) = splD s c b (s.size - b) b := by
  intro m
  induction m with
  | zero =>
    intro b hm hb
    rcases first_at s c b hb with ⟨h1, h2, _⟩ | ⟨i, h1, h2, h3⟩
    · rw [Lib.splitB_miss _ _ _ _ h1, h2]
    · omega
  | succ m ih =>
    intro b hm hb
    rcases first_at s c b hb with ⟨h1, h2, _⟩ | ⟨i, h1, h2, h3⟩
    · rw [Lib.splitB_miss _ _ _ _ h1, h2]
    · have z : (⟨#[c]⟩ : ByteArray).size = 1 := rfl
      rw [Lib.countB_hit _ _ i (by omega) h1, Nat.add_comm 1, Lib.splitB_hit _ _ _ _ i h1, h3, z, extract_tail s b (i + 1) (by omega), Nat.add_zero, extract_head s b i (by omega)]
      rw [show b + (i + 1) = b + i + 1 from by omega, ih (b + i + 1) (by omega) (by omega)]
theorem split_run (s : ByteArray) (c : UInt8) (h : s.size < 4294967281) : splitRun s ⟨#[c]⟩ = some (splM s c) := by
  unfold splitRun
  rw [if_pos ⟨h, by show 1 ≤ 1; omega⟩]
  have := splitB_eq s c s.size 0 (by omega) (by omega)
  have e : s.extract 0 s.size = s := ByteArray.extract_zero_size
  rw [e] at this
  rw [this]
  rfl
theorem cut_run (s : ByteArray) (c : UInt8) (h : s.size < 4294967281) :
    (cutRun s ⟨#[c]⟩ = some (s, ByteArray.empty, false) ∧ splM s c = [s] ∧ ∀ k : Nat, s.data.toList[k]? ≠ some c) ∨
    ∃ i : Nat, i < s.size ∧ cutRun s ⟨#[c]⟩ = some (s.extract 0 i, s.extract (i + 1) s.size, true) ∧ splM s c = s.extract 0 i :: splD s c (i + 1) (s.size - (i + 1)) (i + 1) := by
  have hl : s.data.toList.length = s.size := by rw [Array.length_toList]; rfl
  have e : s.extract 0 s.size = s := ByteArray.extract_zero_size
  have ei : Lib.index s.data.toList (⟨#[c]⟩ : ByteArray).data.toList = Lib.indexB (s.extract 0 s.size) ⟨#[c]⟩ := by rw [e]
  rcases first_at s c 0 (by omega) with ⟨h1, h2, h3⟩ | ⟨i, h1, h2, h3⟩
  · left
    refine ⟨?_, by unfold splM; rw [Nat.sub_zero] at h2; rw [h2, e], fun k => h3 k (Nat.zero_le _)⟩
    unfold cutRun Lib.cut
    rw [if_pos h, ei, h1, if_neg (by decide)]
    rfl
  · right
    rw [Nat.zero_add] at h2 h3
    refine ⟨i, h2, ?_, by unfold splM; rw [Nat.sub_zero] at h3; exact h3⟩
    unfold cutRun Lib.cut
    rw [if_pos h, ei, h1, if_pos (by omega)]
    congr 2
    · apply ByteArray.ext
      apply Array.toList_inj.mp
      rw [Lib.extract_data]
      simp
    · congr 1
      apply ByteArray.ext
      apply Array.toList_inj.mp
      rw [Lib.extract_data]
      have z : (⟨#[c]⟩ : ByteArray).data.toList.length = 1 := rfl
      simp only [Int.toNat_natCast, z]
      rw [List.take_of_length_le (by rw [List.length_drop]; omega)]

/-! Words of 32 bits, as naturals. -/
def rotr (x n : Nat) : Nat := x / 2 ^ n + (x % 2 ^ n) * 2 ^ (32 - n)
theorem rotr_lt {x n : Nat} (hx : x < 4294967296) (hn : n ≤ 32) : rotr x n < 4294967296 := by
  unfold rotr
  have h1 : x / 2 ^ n < 2 ^ (32 - n) := by
    rw [Nat.div_lt_iff_lt_mul (Nat.two_pow_pos n), ← Nat.pow_add]
    rw [show 32 - n + n = 32 from by omega]
    exact hx
  have h2 : x % 2 ^ n + 1 ≤ 2 ^ n := Nat.mod_lt _ (Nat.two_pow_pos n)
  have h3 := Nat.mul_le_mul_right (2 ^ (32 - n)) h2
  rw [← Nat.pow_add, show n + (32 - n) = 32 from by omega, Nat.add_mul] at h3
  omega
theorem rotr_or {x n : Nat} (hx : x < 4294967296) (hn : n ≤ 32) : (x / 2 ^ n ||| x * 2 ^ (32 - n)) % 4294967296 = rotr x n := by
  have h1 : x / 2 ^ n < 2 ^ (32 - n) := by
    rw [Nat.div_lt_iff_lt_mul (Nat.two_pow_pos n), ← Nat.pow_add]
    rw [show 32 - n + n = 32 from by omega]
    exact hx
  have h2 : x / 2 ^ n ||| x * 2 ^ (32 - n) = 2 ^ (32 - n) * x + x / 2 ^ n := by
    rw [Nat.two_pow_add_eq_or_of_lt h1, Nat.mul_comm x, Nat.or_comm]
  rw [h2]
  have h3 : 2 ^ (32 - n) * x = 4294967296 * (x / 2 ^ n) + (x % 2 ^ n) * 2 ^ (32 - n) := by
    have e : (4294967296 : Nat) = 2 ^ (32 - n) * 2 ^ n := by rw [← Nat.pow_add, show 32 - n + n = 32 from by omega]
    rw [e, Nat.mul_assoc, Nat.mul_comm (x % 2 ^ n), ← Nat.mul_add, Nat.div_add_mod]
  have h4 := rotr_lt hx hn
  unfold rotr at h4 ⊢
  omega
theorem xor64 {a b : Nat} (ha : a < 4294967296) (hb : b < 4294967296) : IntKind.i64.wrap (((BitVec.ofInt IntKind.i64.bits (a : Int)) ^^^ (BitVec.ofInt IntKind.i64.bits (b : Int))).toNat : Int) = ((a ^^^ b : Nat) : Int) := by
  show IntKind.i64.wrap (((BitVec.ofInt 64 (a : Int)) ^^^ (BitVec.ofInt 64 (b : Int))).toNat : Int) = _
  rw [BitVec.toNat_xor, BitVec.ofInt_natCast, BitVec.ofInt_natCast, BitVec.toNat_ofNat, BitVec.toNat_ofNat, Nat.mod_eq_of_lt (show a < 2 ^ 64 by omega), Nat.mod_eq_of_lt (show b < 2 ^ 64 by omega)]
  have := Nat.xor_lt_two_pow (n := 32) ha hb
  exact wr64 (by omega) (by omega)
theorem xor_lt {a b : Nat} (ha : a < 4294967296) (hb : b < 4294967296) : a ^^^ b < 4294967296 := Nat.xor_lt_two_pow (n := 32) ha hb
theorem and64 {a b : Nat} (ha : a < 9223372036854775808) (hb : b < 4294967296) : IntKind.i64.wrap (((BitVec.ofInt IntKind.i64.bits (a : Int)) &&& (BitVec.ofInt IntKind.i64.bits (b : Int))).toNat : Int) = ((a &&& b : Nat) : Int) := by
  show IntKind.i64.wrap (((BitVec.ofInt 64 (a : Int)) &&& (BitVec.ofInt 64 (b : Int))).toNat : Int) = _
  rw [BitVec.toNat_and, BitVec.ofInt_natCast, BitVec.ofInt_natCast, BitVec.toNat_ofNat, BitVec.toNat_ofNat, Nat.mod_eq_of_lt (show a < 2 ^ 64 by omega), Nat.mod_eq_of_lt (show b < 2 ^ 64 by omega)]
  have := Nat.and_le_right (n := a) (m := b)
  exact wr64 (by omega) (by omega)
theorem and_lt {a b : Nat} (hb : b < 4294967296) : a &&& b < 4294967296 := Nat.lt_of_le_of_lt Nat.and_le_right hb
theorem mask64 {a : Nat} (ha : a < 9223372036854775808) : IntKind.i64.wrap (((BitVec.ofInt IntKind.i64.bits (a : Int)) &&& (BitVec.ofInt IntKind.i64.bits (4294967295 : Int))).toNat : Int) = ((a % 4294967296 : Nat) : Int) := by
  have h := and64 ha (b := 4294967295) (by omega)
  rw [show a &&& 4294967295 = a % 4294967296 from Nat.and_two_pow_sub_one_eq_mod a 32] at h
  exact h
theorem or64 {a b : Nat} (ha : a < 9223372036854775808) (hb : b < 9223372036854775808) : IntKind.i64.wrap (((BitVec.ofInt IntKind.i64.bits (a : Int)) ||| (BitVec.ofInt IntKind.i64.bits (b : Int))).toNat : Int) = ((a ||| b : Nat) : Int) := by
  show IntKind.i64.wrap (((BitVec.ofInt 64 (a : Int)) ||| (BitVec.ofInt 64 (b : Int))).toNat : Int) = _
  rw [BitVec.toNat_or, BitVec.ofInt_natCast, BitVec.ofInt_natCast, BitVec.toNat_ofNat, BitVec.toNat_ofNat, Nat.mod_eq_of_lt (show a < 2 ^ 64 by omega), Nat.mod_eq_of_lt (show b < 2 ^ 64 by omega)]
  have := Nat.or_lt_two_pow (n := 63) (x := a) (y := b) (by omega) (by omega)
  exact wr64 (by omega) (by omega)
theorem or_lt63 {a b : Nat} (ha : a < 9223372036854775808) (hb : b < 9223372036854775808) : a ||| b < 9223372036854775808 := Nat.or_lt_two_pow (n := 63) ha hb
theorem wr32 (a : Nat) : IntKind.u32.wrap (a : Int) = ((a % 4294967296 : Nat) : Int) := by
  have e : IntKind.u32.wrap (a : Int) = if (false && decide ((a : Int) % 4294967296 ≥ 2147483648)) = true then (a : Int) % 4294967296 - 4294967296 else (a : Int) % 4294967296 := by kernel_rfl
  rw [e]
  simp
theorem xor32 {a b : Nat} (ha : a < 4294967296) (hb : b < 4294967296) : IntKind.u32.wrap (((BitVec.ofInt IntKind.u32.bits (a : Int)) ^^^ (BitVec.ofInt IntKind.u32.bits (b : Int))).toNat : Int) = ((a ^^^ b : Nat) : Int) := by
  show IntKind.u32.wrap (((BitVec.ofInt 32 (a : Int)) ^^^ (BitVec.ofInt 32 (b : Int))).toNat : Int) = _
  rw [BitVec.toNat_xor, BitVec.ofInt_natCast, BitVec.ofInt_natCast, BitVec.toNat_ofNat, BitVec.toNat_ofNat, Nat.mod_eq_of_lt (show a < 2 ^ 32 by omega), Nat.mod_eq_of_lt (show b < 2 ^ 32 by omega), wr32, Nat.mod_eq_of_lt (xor_lt ha hb)]
theorem and32 {a b : Nat} (ha : a < 4294967296) (hb : b < 4294967296) : IntKind.u32.wrap (((BitVec.ofInt IntKind.u32.bits (a : Int)) &&& (BitVec.ofInt IntKind.u32.bits (b : Int))).toNat : Int) = ((a &&& b : Nat) : Int) := by
  show IntKind.u32.wrap (((BitVec.ofInt 32 (a : Int)) &&& (BitVec.ofInt 32 (b : Int))).toNat : Int) = _
  rw [BitVec.toNat_and, BitVec.ofInt_natCast, BitVec.ofInt_natCast, BitVec.toNat_ofNat, BitVec.toNat_ofNat, Nat.mod_eq_of_lt (show a < 2 ^ 32 by omega), Nat.mod_eq_of_lt (show b < 2 ^ 32 by omega), wr32, Nat.mod_eq_of_lt (and_lt hb)]
theorem not32 {a : Nat} (ha : a < 4294967296) : IntKind.u32.wrap ((4294967295 : Int) - (a : Int)) = ((4294967295 - a : Nat) : Int) := by
  rw [show (4294967295 : Int) - (a : Int) = ((4294967295 - a : Nat) : Int) from by omega, wr32, Nat.mod_eq_of_lt (by omega)]
theorem xor_not {a : Nat} (ha : a < 4294967296) : 4294967295 ^^^ a = 4294967295 - a := by
  have h := BitVec.toNat_not (x := BitVec.ofNat 32 a)
  rw [BitVec.toNat_ofNat, Nat.mod_eq_of_lt (show a < 2 ^ 32 by omega)] at h
  have h2 : (~~~ (BitVec.ofNat 32 a)).toNat = (BitVec.allOnes 32 ^^^ BitVec.ofNat 32 a).toNat := by rw [BitVec.allOnes_xor]
  rw [BitVec.toNat_xor, BitVec.toNat_allOnes, BitVec.toNat_ofNat, Nat.mod_eq_of_lt (show a < 2 ^ 32 by omega)] at h2
  have h3 : 2 ^ 32 - 1 ^^^ a = 2 ^ 32 - 1 - a := h2.symm.trans h
  exact h3

/-! Addresses that are read. -/
def raS (p : ByteArray × Unit) : ByteArray := p.1
noncomputable def raL : List ByteArray → Nat → Option Nat
  | [], a => some a
  | p :: r, a => if (rdM p).2 = true ∧ (rdM p).1 ≤ 255 then raL r (256 * a + (rdM p).1.toNat) else none
noncomputable def raM (s : ByteArray) : Int × Bool := if (splM s 46).length = 4 then (match raL (splM s 46) 0 with | some a => ((a : Int), true) | none => (0, false)) else (0, false)
theorem rdM_range (s : ByteArray) : 0 ≤ (rdM s).1 ∧ (rdM s).1 ≤ 1000000000 := by
  by_cases h : ∃ n : Nat, n ≤ 1000000000 ∧ s = decB n
  · obtain ⟨n, hn, rfl⟩ := h
    rw [rdM_yes hn]
    exact ⟨by show (0 : Int) ≤ (n : Int); omega, by show (n : Int) ≤ 1000000000; omega⟩
  · rw [rdM_no h]
    exact ⟨Int.le_refl _, by decide⟩
theorem raL_drop {l : List ByteArray} {i : Nat} (h : i < l.length) (a : Nat) : raL (l.drop i) a = if (rdM l[i]).2 = true ∧ (rdM l[i]).1 ≤ 255 then raL (l.drop (i + 1)) (256 * a + (rdM l[i]).1.toNat) else none := by
  rw [List.drop_eq_getElem_cons h]
  rfl
def raR : Option Nat → Int × Bool | some a => ((a : Int), true) | none => (0, false)
theorem impl_or {a n : Nat} (ha : a < 16777216) (hn : n ≤ 255) : IntKind.i64.wrap (((BitVec.ofInt IntKind.i64.bits (IntKind.i64.wrap ((a : Int) * 2 ^ 8))) ||| (BitVec.ofInt IntKind.i64.bits (n : Int))).toNat : Int) = ((256 * a + n : Nat) : Int) := by
  have e1 : (a : Int) * 2 ^ 8 = ((a * 256 : Nat) : Int) := by simp
  rw [e1, wr64 (x := ((a * 256 : Nat) : Int)) (by omega) (by omega), or64 (a := a * 256) (b := n) (by omega) (by omega)]
  have e2 : a * 256 ||| n = 256 * a + n := by
    rw [show a * 256 = 2 ^ 8 * a from Nat.mul_comm _ _]
    exact (Nat.two_pow_add_eq_or_of_lt (by omega) a).symm
  rw [e2]
theorem impl_ReadAddr.ev (s : ByteArray) (h : s.size ≤ 1000000000) : Tells F0 (fun k => impl_ReadAddr.f k s) (· = raM s) := by
  unfold impl_ReadAddr.f raM
  have hz : ∀ x ∈ splM s 46, ByteArray.size x ≤ s.size := splD_size s 46 _ _ _
  have hln := splD_len s 46 s.size 0 0
  have hln : 1 ≤ (splM s 46).length ∧ (splM s 46).length ≤ s.size + 1 := hln
  refine T_bindE (T_is (v := splM s 46) fun k => by unfold strings_Split.f; exact split_run s 46 (by omega)) ?_
  by_cases e4 : (splM s 46).length = 4
  · rw [if_pos e4]
    have hh := T_loops (F := F0) (fun k j (a : Nat) i => impl_ReadAddr.l0 k j ((a : Int), ((splM s 46).length : Int), (i : Int), splM s 46, splM s 46)) 4 (fun i a => a < 256 ^ i) (fun i a r => r = raR (raL ((splM s 46).drop i) a)) (fun i a hi hI he => by
      dsimp only [impl_ReadAddr.l0, impl_ReadAddr.s0]
      simp only [Int.toNat_natCast]
      have hi' : i < (splM s 46).length := by omega
      rw [wrs hi (by omega), raL_drop hi']
      have hr := rdM_range (splM s 46)[i]
      have hp : 256 ^ i ≤ 256 ^ 3 := Nat.pow_le_pow_right (by omega) (by omega)
      have hsz := hz _ (List.getElem_mem hi')
      refine T_pos (by omega) (T_get hi' (T_bindE (T_call (impl_ReadDecimal.ev _ (by omega)) Prod.fst (fun _ _ h => h.1)) ?_))
      cases hb : (rdM (splM s 46)[i]).2 with
      | false => exact T_true rfl (T_ret (by rw [if_neg (fun k => by cases k.1)]; rfl))
      | true =>
        refine T_false rfl (T_dec (fun g => T_ret (by rw [if_neg (fun k => by omega)]; rfl)) fun g => T_false (by rw [e4]; rfl) ?_)
        rw [if_pos ⟨rfl, by omega⟩]
        generalize (rdM (splM s 46)[i]).1 = v at hr g
        obtain ⟨n, rfl⟩ : ∃ n : Nat, v = (n : Int) := ⟨v.toNat, by omega⟩
        rw [impl_or (by omega) (by omega), Int.toNat_natCast]
        exact he _ (by rw [Nat.pow_succ]; omega)) (fun a hI => by
      dsimp only [impl_ReadAddr.l0, impl_ReadAddr.s0]
      refine T_neg (by omega) (T_ret ?_)
      rw [List.drop_of_length_le (by omega)]
      rfl) 0 0 (Nat.zero_le _) (by simp)
    rw [List.drop_zero] at hh
    have e5 : raR (raL (splM s 46) 0) = (match raL (splM s 46) 0 with | some a => ((a : Int), true) | none => (0, false)) := by cases raL (splM s 46) 0 <;> rfl
    rw [e5] at hh
    exact T_in (F := F0) (g := fun x j => impl_ReadAddr.l0 x j ((0 : Int), ((splM s 46).length : Int), (0 : Int), splM s 46, splM s 46)) hh (fun k => k) (fun _ _ h => h)
  · rw [if_neg e4]
    refine T_in (F := F0) (g := fun x j => impl_ReadAddr.l0 x j ((0 : Int), ((splM s 46).length : Int), (0 : Int), splM s 46, splM s 46)) ?_ (fun k => k) (fun _ _ h => h)
    refine T_step (g := fun x j => impl_ReadAddr.l0 x j ((0 : Int), ((splM s 46).length : Int), (0 : Int), splM s 46, splM s 46)) ?_
    dsimp only [impl_ReadAddr.l0, impl_ReadAddr.s0]
    have h0 : 0 < (splM s 46).length := by omega
    have hsz := hz _ (List.getElem_mem h0)
    refine T_pos (by omega) (T_get (i := 0) h0 (T_bindE (T_call (impl_ReadDecimal.ev _ (by omega)) Prod.fst (fun _ _ h => h.1)) ?_))
    refine T_bif (fun _ => T_ret rfl) fun _ => T_dec (fun _ => T_ret rfl) fun _ => T_true (by simp only [bne_iff_ne, ne_eq]; omega) (T_ret rfl)
/-! Prefixes that are read. -/
open Classical in
noncomputable def rpA (a t : ByteArray) : Int × Int × Bool := if (raM a).2 = true ∧ (rdM t).2 = true ∧ PfxP (raM a).1 (rdM t).1 then ((raM a).1, (rdM t).1, true) else (0, 0, false)
open Classical in
noncomputable def rpM (s : ByteArray) : Int × Int × Bool := match cutRun s ⟨#[47]⟩ with | some r => rpA r.1 r.2.1 | none => (0, 0, false)
theorem rd_slash {t : ByteArray} {k : Nat} (h : t.data.toList[k]? = some 47) : rdM t = (0, false) := by
  refine rdM_no ?_
  rintro ⟨n, _, rfl⟩
  have := digits_range n 47 (List.mem_of_getElem? (by rw [← decB_toList]; exact h))
  have e : (47 : UInt8).toNat = 47 := rfl
  omega
theorem rd_empty : rdM ByteArray.empty = (0, false) := by
  refine rdM_no ?_
  rintro ⟨n, _, e⟩
  have := congrArg (fun b : ByteArray => b.data.toList) e
  exact decDigits_ne n this.symm
theorem impl_ReadPrefix.ev (s : ByteArray) (h : s.size ≤ 1000000000) : Tells F0 (fun k => impl_ReadPrefix.f k s) (· = rpM s) := by
  unfold impl_ReadPrefix.f rpM
  have key : ∀ r : ByteArray × ByteArray × Bool, r.1.size ≤ s.size → r.2.1.size ≤ s.size → cutRun s ⟨#[47]⟩ = some r → Tells F0 (fun k => (strings_Cut.f k s (⟨#[47]⟩ : ByteArray)).bind fun r1 => (impl_ReadAddr.f k r1.1).bind fun r2 => (impl_ReadDecimal.f k r1.2.1).bind fun r3 => (bif (!r2.2) then some ((0 : Int), (0 : Int), false) else (bif (!r3.2) then some ((0 : Int), (0 : Int), false) else (impl_PrefixOk.f k r2.1 r3.1).bind fun r4 => (bif (!r4) then some ((0 : Int), (0 : Int), false) else some (r2.1, r3.1, true))))) (· = rpA r.1 r.2.1) := by
    intro r h1 h2 hr
    refine T_bindE (T_is (v := r) fun k => by unfold strings_Cut.f; exact hr) (T_bindE (impl_ReadAddr.ev r.1 (by omega)) (T_bindE (impl_ReadDecimal.ev r.2.1 (by omega)) ?_))
    simp only [impl_PrefixOk_eq, Option.bind_some]
    unfold rpA
    cases ha : (raM r.1).2 with
    | false => exact T_true rfl (T_ret (by rw [if_neg (fun k => by cases k.1)]))
    | true =>
      refine T_false rfl ?_
      cases hd : (rdM r.2.1).2 with
      | false => exact T_true rfl (T_ret (by rw [if_neg (fun k => by cases k.2.1)]))
      | true => exact T_false rfl (T_ndec (fun g => T_ret (by rw [if_pos ⟨rfl, rfl, g⟩])) fun g => T_ret (by rw [if_neg (fun k => g k.2.2)]))
  rcases cut_run s 47 (by omega) with ⟨h1, _, _⟩ | ⟨i, hi, h1, _⟩
  · rw [h1]
    exact key _ (Nat.le_refl _) (Nat.zero_le _) h1
  · rw [h1]
    exact key _ (by rw [ByteArray.size_extract]; omega) (by rw [ByteArray.size_extract]; omega) h1
/-! The same on lists. -/
def bA (l : List UInt8) : ByteArray := ⟨l.toArray⟩
theorem bA_list (s : ByteArray) : bA s.data.toList = s := by apply ByteArray.ext; simp [bA]
theorem bA_app (a b : List UInt8) : bA (a ++ b) = bA a ++ bA b := by apply ByteArray.ext; simp [bA]
def splA (c : UInt8) (acc : List UInt8) : List UInt8 → List (List UInt8)
  | [] => [acc]
  | x :: r => if x = c then acc :: splA c [] r else splA c (acc ++ [x]) r
theorem splD_A (s : ByteArray) (c : UInt8) : ∀ (d b i : Nat), i + d = s.size → b ≤ i → splD s c b d i = (splA c ((s.data.toList.drop b).take (i - b)) (s.data.toList.drop i)).map bA
  | 0, b, i, h, hb => by
    have hl : s.data.toList.length = s.size := by rw [Array.length_toList]; rfl
    rw [List.drop_of_length_le (l := s.data.toList) (i := i) (by omega)]
    show [s.extract b s.size] = [bA _]
    congr 1
    apply ByteArray.ext
    apply Array.toList_inj.mp
    rw [Lib.extract_data]
    show _ = ((s.data.toList.drop b).take (i - b)).toArray.toList
    rw [show i = s.size from by omega]
  | d + 1, b, i, h, hb => by
    have hl : s.data.toList.length = s.size := by rw [Array.length_toList]; rfl
    have hi : i < s.data.toList.length := by omega
    have e1 : (s.data.toList.drop b).take (i + 1 - b) = (s.data.toList.drop b).take (i - b) ++ [s.data.toList[i]] := by
      rw [show i + 1 - b = (i - b) + 1 from by omega, List.take_succ_eq_append_getElem (by rw [List.length_drop]; omega)]
      congr 2
      rw [List.getElem_drop]
      congr 1
      omega
    rw [List.drop_eq_getElem_cons hi, splD, splA, List.getElem?_eq_getElem hi]
    by_cases hc : s.data.toList[i] = c
    · rw [if_pos (by rw [hc]), if_pos hc, splD_A s c d (i + 1) (i + 1) (by omega) (Nat.le_refl _), List.map_cons, Nat.sub_self, List.take_zero]
      congr 1
      apply ByteArray.ext
      apply Array.toList_inj.mp
      rw [Lib.extract_data]
      rfl
    · rw [if_neg (fun k => hc (Option.some.inj k)), if_neg hc, splD_A s c d b (i + 1) (by omega) (by omega), e1]
theorem splM_A (s : ByteArray) (c : UInt8) : splM s c = (splA c [] s.data.toList).map bA := by
  unfold splM
  rw [splD_A s c s.size 0 0 (by omega) (Nat.le_refl _), List.drop_zero, Nat.sub_self, List.take_zero]
theorem splA_none (c : UInt8) : ∀ (l acc : List UInt8), c ∉ l → splA c acc l = [acc ++ l]
  | [], acc, _ => by simp [splA]
  | x :: r, acc, h => by
    rw [splA, if_neg (fun k => h (by simp [k])), splA_none c r (acc ++ [x]) (fun k => h (by simp [k]))]
    simp
theorem splA_at (c : UInt8) (b : List UInt8) : ∀ (a acc : List UInt8), c ∉ a → splA c acc (a ++ c :: b) = (acc ++ a) :: splA c [] b
  | [], acc, _ => by simp [splA]
  | x :: r, acc, h => by
    rw [List.cons_append, splA, if_neg (fun k => h (by simp [k])), splA_at c b r (acc ++ [x]) (fun k => h (by simp [k]))]
    simp
theorem splM_none {s : ByteArray} {c : UInt8} (h : c ∉ s.data.toList) : splM s c = [s] := by
  rw [splM_A, splA_none c _ _ h]
  simp [bA_list]
theorem splM_at {a b : ByteArray} {c : UInt8} (h : c ∉ a.data.toList) : splM (a ++ (⟨#[c]⟩ ++ b)) c = a :: splM b c := by
  rw [splM_A, splM_A]
  have e : (a ++ (⟨#[c]⟩ ++ b)).data.toList = a.data.toList ++ c :: b.data.toList := by simp
  rw [e, splA_at c _ _ _ h, List.map_cons, List.nil_append, bA_list]

/-! Parts of texts. -/
theorem app_head (a b : ByteArray) : (a ++ b).extract 0 a.size = a := by
  have z : a.size = a.data.toList.length := by rw [Array.length_toList]; rfl
  apply ByteArray.ext
  apply Array.toList_inj.mp
  rw [Lib.extract_data, ByteArray.data_append, Array.toList_append, List.drop_zero, Nat.sub_zero, z, List.take_left]
theorem app_tail (a b : ByteArray) : (a ++ b).extract a.size (a ++ b).size = b := by
  have z : a.size = a.data.toList.length := by rw [Array.length_toList]; rfl
  have z2 : b.size = b.data.toList.length := by rw [Array.length_toList]; rfl
  apply ByteArray.ext
  apply Array.toList_inj.mp
  rw [Lib.extract_data, ByteArray.data_append, Array.toList_append, ByteArray.size_append, Nat.add_sub_cancel_left, z, List.drop_left, z2, List.take_length]

/-! Addresses and prefixes: the text is read back, what is read is the text. -/
def joinA (c : UInt8) : List (List UInt8) → List UInt8
  | [] => []
  | [x] => x
  | x :: y :: r => x ++ c :: joinA c (y :: r)
theorem joinA_cons (c : UInt8) (x : List UInt8) {l : List (List UInt8)} (h : l ≠ []) : joinA c (x :: l) = x ++ c :: joinA c l := by
  match l, h with
  | y :: r, _ => rfl
theorem splA_ne (c : UInt8) : ∀ (l acc : List UInt8), splA c acc l ≠ []
  | [], acc => by simp [splA]
  | x :: r, acc => by
    rw [splA]
    split
    · simp
    · exact splA_ne c r _
theorem joinA_splA (c : UInt8) : ∀ (l acc : List UInt8), joinA c (splA c acc l) = acc ++ l
  | [], acc => by simp [splA, joinA]
  | x :: r, acc => by
    rw [splA]
    split
    · rename_i e
      rw [joinA_cons c acc (splA_ne c r []), joinA_splA c r [], e]
      rfl
    · rw [joinA_splA c r (acc ++ [x])]
      simp
theorem splM_back (s : ByteArray) (c : UInt8) : joinA c ((splM s c).map (·.data.toList)) = s.data.toList := by
  rw [splM_A, List.map_map]
  have : ((fun x : ByteArray => x.data.toList) ∘ bA) = id := by funext x; rfl
  rw [this, List.map_id, joinA_splA]
  rfl
theorem rd_true {s : ByteArray} (h : (rdM s).2 = true) : s = decB (rdM s).1.toNat := by
  by_cases g : ∃ n : Nat, n ≤ 1000000000 ∧ s = decB n
  · obtain ⟨n, hn, rfl⟩ := g
    rw [rdM_yes hn]
    rfl
  · rw [rdM_no g] at h
    cases h
theorem dec_no (n : Nat) {c : UInt8} (h : c.toNat < 48) : c ∉ (decB n).data.toList := fun k => by
  have := digits_range n c k
  omega
theorem quad_split (d c b a : Nat) : splM (quadB d c b a) 46 = [decB d, decB c, decB b, decB a] := by
  have e : quadB d c b a = decB d ++ ((⟨#[46]⟩ : ByteArray) ++ (decB c ++ ((⟨#[46]⟩ : ByteArray) ++ (decB b ++ ((⟨#[46]⟩ : ByteArray) ++ decB a))))) := by
    unfold quadB DOT
    simp only [ByteArray.append_assoc]
  have h : (46 : UInt8).toNat < 48 := by decide
  rw [e, splM_at (dec_no d h), splM_at (dec_no c h), splM_at (dec_no b h), splM_none (dec_no a h)]
theorem raM_quad {d c b a : Nat} (hd : d ≤ 255) (hc : c ≤ 255) (hb : b ≤ 255) (ha : a ≤ 255) : raM (quadB d c b a) = (((256 * (256 * (256 * (256 * 0 + d) + c) + b) + a : Nat) : Int), true) := by
  unfold raM
  rw [quad_split, if_pos (show [decB d, decB c, decB b, decB a].length = 4 from rfl)]
  simp only [raL]
  rw [rdM_yes (n := d) (by omega), rdM_yes (n := c) (by omega), rdM_yes (n := b) (by omega), rdM_yes (n := a) (by omega)]
  have y1 : (d : Int) ≤ 255 := by omega
  have y2 : (c : Int) ≤ 255 := by omega
  have y3 : (b : Int) ≤ 255 := by omega
  have y4 : (a : Int) ≤ 255 := by omega
  simp only [y1, y2, y3, y4, and_self, if_true, Int.toNat_natCast]
theorem raM_text {x : Int} (h : 0 ≤ x ∧ x ≤ 4294967295) : raM (atM x) = (x, true) := by
  unfold atM quadN
  rw [if_pos h, raM_quad (by omega) (by omega) (by omega) (by omega)]
  exact Prod.ext (by dsimp only; omega) rfl
theorem raM_back {s : ByteArray} (h : (raM s).2 = true) : (0 ≤ (raM s).1 ∧ (raM s).1 ≤ 4294967295) ∧ atM (raM s).1 = s := by
  have hb := splM_back s 46
  unfold raM at h ⊢
  split at h
  · rename_i hl
    match hL : splM s 46, hl with
    | [p, q, r, t], _ =>
      rw [hL] at h hb
      rw [if_pos (show [p, q, r, t].length = 4 from rfl)]
      simp only [raL] at h ⊢
      by_cases g1 : (rdM p).2 = true ∧ (rdM p).1 ≤ 255
      · rw [if_pos g1] at h ⊢
        by_cases g2 : (rdM q).2 = true ∧ (rdM q).1 ≤ 255
        · rw [if_pos g2] at h ⊢
          by_cases g3 : (rdM r).2 = true ∧ (rdM r).1 ≤ 255
          · rw [if_pos g3] at h ⊢
            by_cases g4 : (rdM t).2 = true ∧ (rdM t).1 ≤ 255
            · rw [if_pos g4] at h ⊢
              have r1 := rdM_range p
              have r2 := rdM_range q
              have r3 := rdM_range r
              have r4 := rdM_range t
              have s1 := rd_true g1.1
              have s2 := rd_true g2.1
              have s3 := rd_true g3.1
              have s4 := rd_true g4.1
              obtain ⟨d, hd⟩ : ∃ d : Nat, (rdM p).1 = (d : Int) := ⟨(rdM p).1.toNat, by omega⟩
              obtain ⟨c, hc⟩ : ∃ d : Nat, (rdM q).1 = (d : Int) := ⟨(rdM q).1.toNat, by omega⟩
              obtain ⟨b, hb'⟩ : ∃ d : Nat, (rdM r).1 = (d : Int) := ⟨(rdM r).1.toNat, by omega⟩
              obtain ⟨a, ha⟩ : ∃ d : Nat, (rdM t).1 = (d : Int) := ⟨(rdM t).1.toNat, by omega⟩
              have g1 := g1.2
              have g2 := g2.2
              have g3 := g3.2
              have g4 := g4.2
              rw [hd, Int.toNat_natCast] at s1
              rw [hc, Int.toNat_natCast] at s2
              rw [hb', Int.toNat_natCast] at s3
              rw [ha, Int.toNat_natCast] at s4
              rw [hd] at g1 ⊢
              rw [hc] at g2 ⊢
              rw [hb'] at g3 ⊢
              rw [ha] at g4 ⊢
              simp only [Int.toNat_natCast]
              refine ⟨by omega, ?_⟩
              unfold atM
              rw [if_pos (by omega), Int.toNat_natCast]
              have e : quadN (256 * (256 * (256 * (256 * 0 + d) + c) + b) + a) = quadB d c b a := by
                have q1 : (256 * (256 * (256 * (256 * 0 + d) + c) + b) + a) / 16777216 = d := by omega
                have q2 : (256 * (256 * (256 * (256 * 0 + d) + c) + b) + a) / 65536 % 256 = c := by omega
                have q3 : (256 * (256 * (256 * (256 * 0 + d) + c) + b) + a) / 256 % 256 = b := by omega
                have q4 : (256 * (256 * (256 * (256 * 0 + d) + c) + b) + a) % 256 = a := by omega
                unfold quadN
                rw [q1, q2, q3, q4]
              rw [e]
              apply ByteArray.ext
              apply Array.toList_inj.mp
              rw [← hb]
              unfold quadB DOT
              rw [← s1, ← s2, ← s3, ← s4]
              simp [joinA, ByteArray.data_append, Array.toList_append, List.append_assoc]
            · rw [if_neg g4] at h
              cases h
          · rw [if_neg g3] at h
            cases h
        · rw [if_neg g2] at h
          cases h
      · rw [if_neg g1] at h
        cases h
  · cases h
theorem rpA_true {a t : ByteArray} (h : (rpA a t).2.2 = true) : ((raM a).2 = true ∧ (rdM t).2 = true ∧ PfxP (raM a).1 (rdM t).1) ∧ rpA a t = ((raM a).1, (rdM t).1, true) := by
  unfold rpA at h ⊢
  split at h
  · rename_i g
    exact ⟨g, if_pos g⟩
  · cases h
theorem rpM_back {s : ByteArray} (hs : s.size < 4294967281) (h : (rpM s).2.2 = true) : PfxP (rpM s).1 (rpM s).2.1 ∧ ptM (rpM s).1 (rpM s).2.1 = (s, true) := by
  have hl : s.data.toList.length = s.size := by rw [Array.length_toList]; rfl
  rcases cut_run s 47 hs with ⟨h1, _, _⟩ | ⟨i, hi, h1, h2⟩
  · unfold rpM at h
    rw [h1] at h
    have := (rpA_true h).1.2.1
    dsimp only at this
    rw [rd_empty] at this
    cases this
  · have e : rpM s = rpA (s.extract 0 i) (s.extract (i + 1) s.size) := by unfold rpM; rw [h1]
    rw [e] at h ⊢
    obtain ⟨⟨g1, g2, g3⟩, g4⟩ := rpA_true h
    rw [g4]
    dsimp only
    refine ⟨g3, ?_⟩
    unfold ptM
    rw [if_pos g3, (raM_back g1).2, ← rd_true g2]
    refine Prod.ext ?_ rfl
    dsimp only
    have hb := splM_back s 47
    have hne : (splD s 47 (i + 1) (s.size - (i + 1)) (i + 1)).map (·.data.toList) ≠ [] := by
      intro k
      have := (splD_len s 47 (s.size - (i + 1)) (i + 1) (i + 1)).1
      rw [← List.length_map (f := (·.data.toList)), k] at this
      simp at this
    rw [h2, List.map_cons, joinA_cons 47 _ hne] at hb
    have x1 : (s.extract 0 i).data.toList = s.data.toList.take i := by rw [Lib.extract_data]; simp
    have x2 : (s.extract (i + 1) s.size).data.toList = s.data.toList.drop (i + 1) := by rw [Lib.extract_data, List.take_of_length_le (by rw [List.length_drop]; omega)]
    apply ByteArray.ext
    apply Array.toList_inj.mp
    rw [ByteArray.data_append, Array.toList_append, ByteArray.data_append, Array.toList_append, x2]
    rw [x1] at hb ⊢
    have hd := congrArg (List.drop (i + 1)) hb
    have lt : (s.data.toList.take i).length = i := by rw [List.length_take]; omega
    have hd2 : (s.data.toList.take i ++ 47 :: joinA 47 (List.map (fun x => x.data.toList) (splD s 47 (i + 1) (s.size - (i + 1)) (i + 1)))).drop (i + 1) = joinA 47 (List.map (fun x => x.data.toList) (splD s 47 (i + 1) (s.size - (i + 1)) (i + 1))) := by
      rw [List.drop_append, lt, Nat.add_sub_cancel_left, List.drop_of_length_le (by omega)]
      rfl
    rw [hd2] at hd
    rw [← hd, List.append_assoc]
    exact hb
theorem rpM_text {a n : Int} (h : PfxP a n) : rpM (ptM a n).1 = (a, n, true) := by
  have hz := ptM_size a n
  have ht : (ptM a n).1 = (atM a ++ SLA) ++ decB n.toNat := by unfold ptM; rw [if_pos h]
  rw [ht] at hz ⊢
  have h47 : (47 : UInt8).toNat < 48 := by decide
  have hA : (47 : UInt8) ∉ (atM a).data.toList := by
    unfold atM
    rw [if_pos h.1]
    unfold quadN quadB
    simp only [ByteArray.data_append, Array.toList_append, List.mem_append, not_or]
    exact ⟨⟨⟨⟨⟨⟨dec_no _ h47, by decide⟩, dec_no _ h47⟩, by decide⟩, dec_no _ h47⟩, by decide⟩, dec_no _ h47⟩
  have hsp : splM ((atM a ++ SLA) ++ decB n.toNat) 47 = [atM a, decB n.toNat] := by
    rw [ByteArray.append_assoc, show SLA = (⟨#[47]⟩ : ByteArray) from rfl, splM_at hA, splM_none (dec_no _ h47)]
  have hn := h.2.1
  rcases cut_run ((atM a ++ SLA) ++ decB n.toNat) 47 (by omega) with ⟨_, h2, _⟩ | ⟨i, hi, h1, h2⟩
  · rw [hsp] at h2
    exact absurd (congrArg List.length h2) (by simp)
  · rw [hsp] at h2
    have e1 : atM a = ((atM a ++ SLA) ++ decB n.toNat).extract 0 i := (List.cons.inj h2).1
    have ei : (atM a).size = i := by
      have := congrArg ByteArray.size e1
      rw [ByteArray.size_extract] at this
      omega
    have e2 : ((atM a ++ SLA) ++ decB n.toNat).extract (i + 1) ((atM a ++ SLA) ++ decB n.toNat).size = decB n.toNat := by
      have z : (atM a ++ SLA).size = i + 1 := by rw [ByteArray.size_append, ei]; rfl
      rw [← z]
      exact app_tail _ _
    unfold rpM
    rw [h1]
    dsimp only
    rw [← e1, e2]
    unfold rpA
    rw [raM_text h.1, rdM_yes (by omega)]
    have en : ((n.toNat : Nat) : Int) = n := by omega
    dsimp only
    rw [en, if_pos ⟨rfl, rfl, h⟩]

def CurOk (l : List Int) (i : Int) : Prop := 0 ≤ i ∧ i ≤ l.length ∧ l.length ≤ 1048576
theorem bits255 (x : BitVec IntKind.i64.bits) : 0 ≤ IntKind.i64.wrap ((x &&& BitVec.ofInt IntKind.i64.bits (255 : Int)).toNat : Int) ∧ IntKind.i64.wrap ((x &&& BitVec.ofInt IntKind.i64.bits (255 : Int)).toNat : Int) ≤ 255 := by
  have h : (x &&& BitVec.ofInt IntKind.i64.bits (255 : Int)).toNat ≤ 255 := by
    rw [BitVec.toNat_and]
    exact Nat.le_trans Nat.and_le_right (by decide)
  rw [wr64 (by omega) (by omega)]
  omega
theorem spec_l01Byte.ev (l : List Int) (i h : Int) (hc : CurOk l i) : Tells F0 (fun k => spec_l01Byte.f k l i h) (fun r => (0 ≤ r.1 ∧ r.1 ≤ 255) ∧ CurOk r.2.1 r.2.2.1) := by
  unfold spec_l01Byte.f
  obtain ⟨h0, h1, h2⟩ := hc
  obtain ⟨m, rfl⟩ := Int.eq_ofNat_of_zero_le h0
  refine T_dec (fun e => T_get (by omega) (T_ret ⟨bits255 _, ?_⟩)) fun e => T_ret ⟨bits255 _, h0, h1, h2⟩
  show CurOk l (IntKind.i64.wrap ((m : Int) + 1))
  rw [wr64 (by omega) (by omega)]
  exact ⟨by omega, by omega, h2⟩
theorem spec_l01Below.ev (l : List Int) (i h n : Int) (hc : CurOk l i) (hn : n ≤ 9223372036854775807) : Tells F0 (fun k => spec_l01Below.f k l i h n) (fun r => (0 ≤ r.1 ∧ (0 < n → r.1 < n) ∧ (n ≤ 0 → r.1 = 0)) ∧ CurOk r.2.1 r.2.2.1) := by
  unfold spec_l01Below.f
  refine T_dec (fun h1 => T_ret ⟨⟨Int.le_refl _, fun h => by omega, fun _ => rfl⟩, hc⟩) (fun h1 => T_dec (fun h2 => ?_) (fun h2 => ?_))
  · refine T_bind (spec_l01Byte.ev l i h hc) fun r hr => T_beq (fun e => by omega) fun _ => T_ret ⟨?_, hr.2⟩
    dsimp only
    rw [Int.tmod_eq_emod_of_nonneg hr.1.1]
    have a := Int.emod_nonneg r.1 (show n ≠ 0 by omega)
    have b := Int.emod_lt_of_pos r.1 (show 0 < n by omega)
    exact ⟨a, fun _ => b, fun h => by omega⟩
  · refine T_bind (spec_l01Byte.ev l i h hc) fun x hx => T_bind (spec_l01Byte.ev _ _ _ hx.2) fun y hy => T_bind (spec_l01Byte.ev _ _ _ hy.2) fun z hz => T_bind (spec_l01Byte.ev _ _ _ hz.2) fun w hw => T_beq (fun e => by omega) fun _ => T_ret ⟨?_, hw.2⟩
    dsimp only
    rw [wr64 (x := x.1 * 16777216) (by omega) (by omega), wr64 (x := y.1 * 65536) (by omega) (by omega), wr64 (x := z.1 * 256) (by omega) (by omega), wr64 (x := x.1 * 16777216 + y.1 * 65536) (by omega) (by omega), wr64 (x := x.1 * 16777216 + y.1 * 65536 + z.1 * 256) (by omega) (by omega), wr64 (x := x.1 * 16777216 + y.1 * 65536 + z.1 * 256 + w.1) (by omega) (by omega)]
    rw [Int.tmod_eq_emod_of_nonneg (by omega)]
    have a := Int.emod_nonneg (x.1 * 16777216 + y.1 * 65536 + z.1 * 256 + w.1) (show n ≠ 0 by omega)
    have b := Int.emod_lt_of_pos (x.1 * 16777216 + y.1 * 65536 + z.1 * 256 + w.1) (show 0 < n by omega)
    exact ⟨a, fun _ => b, fun h => by omega⟩
theorem spec_l01PickInt.ev (l : List Int) (i h : Int) (p : List Int) (hc : CurOk l i) (hp : 0 < p.length) (hp2 : p.length ≤ 1000) : Tells F0 (fun k => spec_l01PickInt.f k l i h p) (fun r => r.1 ∈ p ∧ CurOk r.2.1 r.2.2.1) := by
  unfold spec_l01PickInt.f
  refine T_bind (spec_l01Below.ev l i h _ hc (by omega)) fun r hr => ?_
  obtain ⟨r1, r2⟩ := r
  obtain ⟨⟨q0, q1, _⟩, q2⟩ := hr
  have q1 := q1 (by omega)
  dsimp only at q0 q1 q2 ⊢
  obtain ⟨m, rfl⟩ := Int.eq_ofNat_of_zero_le q0
  exact T_get (by omega) (T_ret ⟨List.getElem_mem _, q2⟩)
theorem spec_l01New.ev (l : List Int) (hn : l.length ≤ 1048576) : Tells F0 (fun k => spec_l01New.f k l) (fun r => r.1 = l ∧ CurOk r.1 r.2.1) := by
  unfold spec_l01New.f
  have h := T_loops (F := F0) (fun k j (s : Int) i => spec_l01New.l0 k j (s, (i : Int), l)) l.length (fun _ _ => True) (fun _ _ r => r.1 = l ∧ CurOk r.1 r.2.1) (fun i s hi _ he => by
    dsimp only [spec_l01New.l0, spec_l01New.s0]
    simp only [Int.toNat_natCast]
    rw [wrs hi (by omega)]
    exact T_pos (by omega) (T_dec (fun _ => T_get hi (he _ trivial)) fun _ => T_ret ⟨rfl, Int.le_refl _, by show (0 : Int) ≤ _; omega, hn⟩)) (fun s _ => by
    dsimp only [spec_l01New.l0, spec_l01New.s0]
    exact T_neg (by omega) (T_ret ⟨rfl, Int.le_refl _, by show (0 : Int) ≤ _; omega, hn⟩)) 0 (IntKind.i64.wrap ((36201 : Int) + (l.length : Int))) (Nat.zero_le _) trivial
  exact T_in (g := fun x j => spec_l01New.l0 x j _) (by simpa using h) (fun k => k) (fun _ _ h => h)
theorem laws_big.eq (k : Nat) (l : List Int) : laws_big.f k l = some (decide (l.length > 1048576)) := by
  unfold laws_big.f
  congr 1
  simp
  omega

theorem pfx_of (a n : Int) (h1 : 0 ≤ a ∧ a ≤ 4294967295) (h2 : 0 ≤ n ∧ n ≤ 32) : PfxP (a - a % 2 ^ (32 - n).toNat) n := by
  have hp := pow_rng (32 - n).toNat (by omega)
  have hm0 := Int.emod_nonneg a (show (2 : Int) ^ (32 - n).toNat ≠ 0 by omega)
  have hm1 := Int.emod_lt_of_pos a (show (0 : Int) < 2 ^ (32 - n).toNat by omega)
  have hd := Int.mul_ediv_add_emod a (2 ^ (32 - n).toNat)
  have e : a - a % 2 ^ (32 - n).toNat = 2 ^ (32 - n).toNat * (a / 2 ^ (32 - n).toNat) := by omega
  have hq := Int.mul_nonneg (show (0 : Int) ≤ 2 ^ (32 - n).toNat by omega) (Int.ediv_nonneg h1.1 (show (0 : Int) ≤ 2 ^ (32 - n).toNat by omega))
  exact ⟨by omega, h2, by rw [e]; exact Int.mul_emod_right _ _⟩
theorem spec_PrefixOf.ev (a n : Int) : Tells F0 (fun k => spec_PrefixOf.f k a n) (· = if (0 ≤ a ∧ a ≤ 4294967295) ∧ (0 ≤ n ∧ n ≤ 32) then (a - a % 2 ^ (32 - n).toNat, n, true) else (0, 0, false)) := by
  unfold spec_PrefixOf.f
  simp only [spec_AddrOk_eq, in_eq, Option.bind_some]
  refine T_ndec (fun h1 => T_ndec (fun h2 => ?_) (fun h2 => T_ret (by rw [if_neg (fun k => h2 k.2)]))) (fun h1 => T_ret (by rw [if_neg (fun k => h1 k.1)]))
  refine T_bindE (spec_l08Size.ev n h2.1 h2.2) ?_
  have hp := pow_rng (32 - n).toNat (by omega)
  refine T_beq (fun e => by omega) fun _ => T_ret ?_
  have hm0 := Int.emod_nonneg a (show (2 : Int) ^ (32 - n).toNat ≠ 0 by omega)
  have hm1 := Int.emod_lt_of_pos a (show (0 : Int) < 2 ^ (32 - n).toNat by omega)
  rw [if_pos ⟨h1, h2⟩, Int.tmod_eq_emod_of_nonneg h1.1, wr64 (by omega) (by omega)]

/-! Prefixes that are drawn. -/
theorem spec_l08Prefix.ev (l : List Int) (i h : Int) (hc : CurOk l i) : Tells F0 (fun k => spec_l08Prefix.f k l i h) (fun r => PfxP r.1 r.2.1 ∧ CurOk r.2.2.1 r.2.2.2.1) := by
  unfold spec_l08Prefix.f
  refine T_bind (spec_l01Below.ev l i h 1024 hc (by omega)) fun x hx => T_bind (spec_l01PickInt.ev _ _ _ _ hx.2 (by simp) (by simp)) fun y hy => ?_
  have hb := hx.1.2.1 (by omega)
  rw [wr64 (x := 167772160 + x.1) (by have := hx.1.1; omega) (by omega)]
  have h1 : 0 ≤ 167772160 + x.1 ∧ 167772160 + x.1 ≤ 4294967295 := ⟨by have := hx.1.1; omega, by omega⟩
  have h2 : 0 ≤ y.1 ∧ y.1 ≤ 32 := by
    have := hy.1
    simp at this
    omega
  refine T_bindE (spec_PrefixOf.ev _ _) ?_
  rw [if_pos ⟨h1, h2⟩]
  exact T_ret ⟨pfx_of _ _ h1 h2, hy.2⟩

theorem impl_PrefixOf_eq (k : Nat) (a n : Int) (h1 : 0 ≤ a ∧ a ≤ 4294967295) (h2 : 0 ≤ n ∧ n ≤ 32) : impl_PrefixOf.f k a n = some (a - a % 2 ^ (32 - n).toNat, n, true) := by
  unfold impl_PrefixOf.f
  simp only [impl_AddrOk_eq, within_eq, Option.bind_some]
  have hp := pow_rng (32 - n).toNat (by omega)
  have hm0 := Int.emod_nonneg a (show (2 : Int) ^ (32 - n).toNat ≠ 0 by omega)
  have hm1 := Int.emod_lt_of_pos a (show (0 : Int) < 2 ^ (32 - n).toNat by omega)
  have hd := (pfx_of a n h1 h2).1
  rw [decide_eq_true h1, decide_eq_true h2]
  simp only [Bool.not_true, cond_false, lastBits_eq k n h2.1 h2.2, Option.bind_some]
  rw [andNot_mask _ (by omega) a h1.1 h1.2, wr64 (by omega) (by omega)]
theorem spec_DrawAddrs.evL (l : List Int) (hn : l.length ≤ 1048576) : Tells F0 (fun k => spec_DrawAddrs.f k l) (fun r => PfxP r.2.1 r.2.2 ∧ r.1.length ≤ 6 ∧ ∀ x ∈ r.1, 0 ≤ x ∧ x ≤ 4294967295) := by
  unfold spec_DrawAddrs.f
  refine T_bind (spec_l01New.ev l hn) fun c hc => ?_
  have hh := T_loops (F := F0) (fun k j (s : List Int × List Int × Int × Int) i => spec_DrawAddrs.l0 k j ((i : Int), l, (0 : Int), (0 : Int), s.2.2.1, s.2.2.2, s.2.1, s.1)) 6 (fun j s => (s.1.length ≤ j ∧ ∀ x ∈ s.1, 0 ≤ x ∧ x ≤ 4294967295) ∧ CurOk s.2.1 s.2.2.1) (fun _ _ r => PfxP r.2.1 r.2.2 ∧ r.1.length ≤ 6 ∧ ∀ x ∈ r.1, 0 ≤ x ∧ x ≤ 4294967295) (fun j s hj hs he => by
    obtain ⟨rs, cl, ci, ch⟩ := s
    obtain ⟨⟨hL, hX⟩, hC⟩ := hs
    dsimp only at hL hC hX
    dsimp only [spec_DrawAddrs.l0, spec_DrawAddrs.s0]
    rw [wrs hj (by omega)]
    refine T_pos (by omega) (T_bind (T_call (spec_l01Below.ev cl ci ch 1024 hC (by omega)) Prod.fst (fun _ _ h => h.1)) fun x hx => T_pos (by simp only [List.length_singleton]; omega) (he (_, _, _, _) ⟨⟨by simp only [List.length_append, List.length_singleton]; omega, fun y hy => ?_⟩, hx.2⟩))
    have b1 := hx.1.1
    have b2 := hx.1.2.1 (by omega)
    rw [wr64 (by omega) (by omega)] at hy
    rcases List.mem_append.1 hy with hy | hy
    · exact hX y hy
    · rw [List.mem_singleton.1 hy]; omega) (fun s hs => by
    obtain ⟨rs, cl, ci, ch⟩ := s
    obtain ⟨⟨hL, hX⟩, hC⟩ := hs
    dsimp only at hL hC hX
    dsimp only [spec_DrawAddrs.l0, spec_DrawAddrs.s0]
    exact T_neg (by omega) (T_bind (T_call (spec_l08Prefix.ev _ _ _ hC) Prod.fst (fun _ _ h => h.1)) fun y hy => T_ret ⟨hy.1, hL, hX⟩)) 0 ([], c.1, c.2.1, c.2.2) (Nat.zero_le _) ⟨⟨by simp, fun x hx => absurd hx List.not_mem_nil⟩, hc.2⟩
  exact T_in (g := fun x j => spec_DrawAddrs.l0 x j _) (by simpa using hh) (fun k => k) (fun _ _ h => h)
theorem last_text : atM 4294967295 = (⟨#[50, 53, 53, 46, 50, 53, 53, 46, 50, 53, 53, 46, 50, 53, 53]⟩ : ByteArray) := by
  unfold atM
  rw [if_pos (by omega), show (4294967295 : Int).toNat = 4294967295 from rfl]
  unfold quadN
  have e : decB 255 = (⟨#[50, 53, 53]⟩ : ByteArray) := by
    rw [decB_big (by omega), decB_big (by omega), decB_small (by omega)]
    decide
  rw [show 4294967295 / 16777216 = 255 from by decide, show 4294967295 / 65536 % 256 = 255 from by decide]
  unfold quadB
  rw [e]
  decide
theorem FnAddrs : laws_FnAddrs.Goal := by
  intro l _
  refine Tells.rounds ?_
  unfold laws_FnAddrs.f
  simp only [laws_big.eq, Option.bind_some]
  refine T_dec (fun _ => T_ret rfl) fun h1 => ?_
  refine T_bind (spec_DrawAddrs.evL l (by omega)) fun d hd => ?_
  obtain ⟨xs, pa, pn⟩ := d
  obtain ⟨hp, hl, hx⟩ := hd
  dsimp only at hp hl hx ⊢
  have hz := ptM_size pa pn
  refine T_bindE (impl_PrefixText.ev pa pn) (T_bindE (impl_ReadPrefix.ev _ (by omega)) ?_)
  rw [rpM_text hp]
  simp only [impl_PrefixOk_eq, Option.bind_some]
  have hpt : (ptM pa pn).2 = true := by unfold ptM; rw [if_pos hp]
  refine T_false (by rw [hpt]; rfl) (T_false rfl (T_false (by simp) (T_ndec (fun _ => ?_) fun k => absurd hp k)))
  have hh := T_loop (F := F0) (fun k j i => laws_FnAddrs.l0 k j ((i : Int), l, pa, pn, xs)) xs.length (fun _ r => r = true) (fun i hi he => by
    dsimp only [laws_FnAddrs.l0, laws_FnAddrs.s0]
    simp only [Int.toNat_natCast]
    rw [wrs hi (by omega)]
    have hv := hx xs[i] (List.getElem_mem _)
    have hn := hp.2.1
    have hin := pfx_of xs[i] pn hv hn
    have hp' := pow_rng (32 - pn).toNat (by omega)
    refine T_pos (by omega) (T_get hi (T_bindE (T_call (impl_AddrText.ev xs[i]) Prod.fst (fun _ _ h => h.1)) (T_bindE (T_call (impl_ReadAddr.ev _ (by have := atM_size xs[i]; omega)) Prod.fst (fun _ _ h => h.1)) (T_get hi ?_))))
    rw [raM_text hv]
    simp only [impl_PrefixOf_eq _ _ _ hv hn, impl_InPrefix_eq, impl_AddrOk_eq, Option.bind_some]
    refine T_false rfl (T_get hi (T_false (by simp) (T_false rfl (T_false ?_ (T_ndec (fun _ => T_bindE (T_call (spec_InPrefix.ev pa pn xs[i]) Prod.fst (fun _ _ h => h.1)) (T_false (by simp) (T_ndec (fun _ => he) fun k => absurd hv k))) fun k => absurd ⟨hin, hv, rfl⟩ k)))))
    by_cases g : xs[i] - xs[i] % 2 ^ (32 - pn).toNat = pa
    · rw [decide_eq_true (show InP pa pn xs[i] from ⟨hp, hv, g⟩), g]
      simp
    · rw [decide_eq_false (show ¬ InP pa pn xs[i] from fun k => g k.2.2)]
      simp [g]) (by
    dsimp only [laws_FnAddrs.l0, laws_FnAddrs.s0]
    refine T_neg (by omega) (T_bindE (T_call (impl_AddrText.ev _) Prod.fst (fun _ _ h => h.1)) ?_)
    simp only [beq_bytes_iff]
    refine T_pos last_text (T_bindE (T_call (impl_AddrText.ev _) Prod.fst (fun _ _ h => h.1)) (T_ret ?_))
    exact decide_eq_true (by unfold atM; rw [if_neg (by omega)])) 0 (Nat.zero_le _)
  exact T_in (g := fun x j => laws_FnAddrs.l0 x j _) (by simpa using hh) (fun k => k) (fun _ _ h => h)

end Go.Proofs.YtpheniajdbbphaaDoor.DI.Pure
