/- FnGrants, the plain part: from some fuel on the law answers true. -/
import Derived.Test.YtfaeklomiofpdaaGoalFnGrants
import Derived.Test.YtfaeklomiofpdaaKITE
namespace Go.Proofs.Ytfaeklomiofpdaa.DI.Pure
open Go Go.RowKit
set_option linter.unusedVariables false
set_option linter.unusedSimpArgs false
theorem in_eq (k : Nat) (n a b : Int) : spec_l01In.f k n a b = some (decide (a ≤ n ∧ n ≤ b)) := by
  unfold spec_l01In.f
  by_cases h : n ≥ a <;> by_cases h' : n ≤ b <;> simp [h, h'] <;> omega
theorem within_eq (k : Nat) (n a b : Int) : impl_within.f k n a b = some (decide (a ≤ n ∧ n ≤ b)) := by
  unfold impl_within.f
  by_cases h : n ≥ a <;> by_cases h' : n ≤ b <;> simp [h, h'] <;> omega

def PfxP (a n : Int) : Prop := (0 ≤ a ∧ a ≤ 4294967295) ∧ (0 ≤ n ∧ n ≤ 32) ∧ a % 2 ^ (32 - n).toNat = 0
def InP (p n a : Int) : Prop := PfxP p n ∧ (0 ≤ a ∧ a ≤ 4294967295) ∧ a - a % 2 ^ (32 - n).toNat = p
instance decPfxP (a n : Int) : Decidable (PfxP a n) := by unfold PfxP; infer_instance
instance decInP (p n a : Int) : Decidable (InP p n a) := by unfold InP; infer_instance
theorem pow_rng (m : Nat) (h : m ≤ 32) : (1 : Int) ≤ 2 ^ m ∧ (2 : Int) ^ m ≤ 4294967296 := by
  have h1 : 2 ^ m ≤ 2 ^ 32 := Nat.pow_le_pow_right (by decide) h
  have h2 : 1 ≤ 2 ^ m := Nat.one_le_two_pow
  have e : ((2 ^ m : Nat) : Int) = (2 : Int) ^ m := by simp
  omega
theorem mask_nat (i : Nat) : ((2 : Int) ^ i - 1) = ((2 ^ i - 1 : Nat) : Int) := by
  have hpn : 1 ≤ 2 ^ i := Nat.one_le_two_pow
  rw [Int.natCast_sub hpn]; simp
theorem bv_nat (a : Nat) (h : a < 18446744073709551616) : (BitVec.ofInt IntKind.i64.bits (a : Int)).toNat = a := by
  show (BitVec.ofInt 64 (a : Int)).toNat = a
  rw [BitVec.ofInt_natCast, BitVec.toNat_ofNat, Nat.mod_eq_of_lt h]
theorem and_mask (i : Nat) (hi : i ≤ 32) (x : Int) (h₀ : 0 ≤ x) (h₁ : x ≤ 4294967295) : (((BitVec.ofInt IntKind.i64.bits x) &&& (BitVec.ofInt IntKind.i64.bits (2 ^ i - 1))).toNat : Int) = x % 2 ^ i := by
  obtain ⟨a, rfl⟩ := Int.eq_ofNat_of_zero_le h₀
  have hb : 2 ^ i ≤ 2 ^ 32 := Nat.pow_le_pow_right (by decide) hi
  rw [mask_nat, BitVec.toNat_and, bv_nat a (by omega), bv_nat _ (by omega), Nat.and_two_pow_sub_one_eq_mod]
  simp
theorem andNot_mask (i : Nat) (hi : i ≤ 32) (x : Int) (h₀ : 0 ≤ x) (h₁ : x ≤ 4294967295) : (((BitVec.ofInt IntKind.i64.bits x) &&& ~~~(BitVec.ofInt IntKind.i64.bits (2 ^ i - 1))).toNat : Int) = x - x % 2 ^ i := by
  have e1 := and_mask i hi x h₀ h₁
  obtain ⟨a, rfl⟩ := Int.eq_ofNat_of_zero_le h₀
  have hb : 2 ^ i ≤ 2 ^ 32 := Nat.pow_le_pow_right (by decide) hi
  have e2 : (BitVec.ofInt IntKind.i64.bits (a : Int) &&& BitVec.ofInt IntKind.i64.bits (2 ^ i - 1)) + (BitVec.ofInt IntKind.i64.bits (a : Int) &&& ~~~ (BitVec.ofInt IntKind.i64.bits (2 ^ i - 1))) = BitVec.ofInt IntKind.i64.bits (a : Int) := by
    generalize BitVec.ofInt IntKind.i64.bits (a : Int) = u
    generalize BitVec.ofInt IntKind.i64.bits (2 ^ i - 1) = v
    rw [BitVec.add_eq_or_of_and_eq_zero]
    · ext j h
      simp
      cases (u[j]) <;> simp
    · ext j h
      simp
      cases (u[j]) <;> simp
  have e3 := congrArg BitVec.toNat e2
  rw [BitVec.toNat_add, bv_nat a (by omega)] at e3
  have h4 : (BitVec.ofInt IntKind.i64.bits (a : Int) &&& ~~~ (BitVec.ofInt IntKind.i64.bits (2 ^ i - 1))).toNat ≤ a := by
    rw [BitVec.toNat_and, bv_nat a (by omega)]
    exact Nat.and_le_left
  have h5 : (a : Int) % 2 ^ i ≤ a := by
    have : ((a % 2 ^ i : Nat) : Int) = (a : Int) % 2 ^ i := by simp
    have := Nat.mod_le a (2 ^ i)
    omega
  have h6 : 0 ≤ (a : Int) % 2 ^ i := Int.emod_nonneg _ (by have := pow_rng i hi; omega)
  have e4 : (2 : Nat) ^ IntKind.i64.bits = 18446744073709551616 := by decide
  rw [e4] at e3
  rw [Nat.mod_eq_of_lt (by omega)] at e3
  omega
theorem or_mask (i : Nat) (hi : i ≤ 32) (x : Int) (h₀ : 0 ≤ x) (h₁ : x ≤ 4294967295) (hm : x % 2 ^ i = 0) : (((BitVec.ofInt IntKind.i64.bits x) ||| (BitVec.ofInt IntKind.i64.bits (2 ^ i - 1))).toNat : Int) = x + 2 ^ i - 1 := by
  obtain ⟨a, rfl⟩ := Int.eq_ofNat_of_zero_le h₀
  have hb : 2 ^ i ≤ 2 ^ 32 := Nat.pow_le_pow_right (by decide) hi
  have hpn : 1 ≤ 2 ^ i := Nat.one_le_two_pow
  have hmn : a % 2 ^ i = 0 := by
    have : ((a % 2 ^ i : Nat) : Int) = (a : Int) % 2 ^ i := by simp
    omega
  have hd : a = 2 ^ i * (a / 2 ^ i) := by have := Nat.div_add_mod a (2 ^ i); omega
  rw [mask_nat, BitVec.toNat_or, bv_nat a (by omega), bv_nat _ (by omega), hd, ← Nat.two_pow_add_eq_or_of_lt (by omega : 2 ^ i - 1 < 2 ^ i)]
  rw [← hd]
  have : ((2 ^ i : Nat) : Int) = (2 : Int) ^ i := by simp
  omega
theorem impl_AddrOk_eq (k : Nat) (a : Int) : impl_AddrOk.f k a = some (decide (0 ≤ a ∧ a ≤ 4294967295)) := by
  unfold impl_AddrOk.f
  rw [within_eq]; rfl
theorem spec_AddrOk_eq (k : Nat) (a : Int) : spec_AddrOk.f k a = some (decide (0 ≤ a ∧ a ≤ 4294967295)) := by
  unfold spec_AddrOk.f
  rw [in_eq]; rfl
theorem lastBits_eq (k : Nat) (n : Int) (h0 : 0 ≤ n) (h1 : n ≤ 32) : impl_lastBits.f k n = some (2 ^ (32 - n).toNat - 1) := by
  unfold impl_lastBits.f
  have hp := pow_rng (32 - n).toNat (by omega)
  rw [wr64 (x := 32 - n) (by omega) (by omega), show min (32 - n).toNat IntKind.i64.bits = (32 - n).toNat from Nat.min_eq_left (by show _ ≤ 64; omega), Int.one_mul, wr64 (x := 2 ^ (32 - n).toNat) (by omega) (by omega), wr64 (by omega) (by omega)]
  have : decide (32 - n < 0) = false := decide_eq_false (by omega)
  rw [this]; rfl
theorem impl_PrefixOk_eq (k : Nat) (a n : Int) : impl_PrefixOk.f k a n = some (decide (PfxP a n)) := by
  unfold impl_PrefixOk.f
  simp only [impl_AddrOk_eq, within_eq, Option.bind_some]
  by_cases h1 : 0 ≤ a ∧ a ≤ 4294967295
  · by_cases h2 : 0 ≤ n ∧ n ≤ 32
    · have hp := pow_rng (32 - n).toNat (by omega)
      have hm0 := Int.emod_nonneg a (show (2 : Int) ^ (32 - n).toNat ≠ 0 by omega)
      have hm1 := Int.emod_lt_of_pos a (show (0 : Int) < 2 ^ (32 - n).toNat by omega)
      rw [decide_eq_true h1, decide_eq_true h2]
      simp only [cond_true, lastBits_eq k n h2.1 h2.2, Option.bind_some]
      rw [and_mask _ (by omega) a h1.1 h1.2, wr64 (by omega) (by omega)]
      congr 1
      by_cases h3 : a % 2 ^ (32 - n).toNat = 0
      · rw [decide_eq_true (show PfxP a n from ⟨h1, h2, h3⟩)]; simp [h3]
      · rw [decide_eq_false (show ¬ PfxP a n from fun c => h3 c.2.2)]; simp [h3]
    · rw [decide_eq_true h1, decide_eq_false h2, decide_eq_false (show ¬ PfxP a n from fun c => h2 c.2.1)]; rfl
  · rw [decide_eq_false h1, decide_eq_false (show ¬ PfxP a n from fun c => h1 c.1)]; rfl
theorem impl_InPrefix_eq (k : Nat) (p n a : Int) : impl_InPrefix.f k p n a = some (decide (InP p n a)) := by
  unfold impl_InPrefix.f
  simp only [impl_PrefixOk_eq, impl_AddrOk_eq, Option.bind_some]
  by_cases h1 : PfxP p n
  · by_cases h2 : 0 ≤ a ∧ a ≤ 4294967295
    · have hn := h1.2.1
      have hp := pow_rng (32 - n).toNat (by omega)
      have hm0 := Int.emod_nonneg a (show (2 : Int) ^ (32 - n).toNat ≠ 0 by omega)
      have hm1 := Int.emod_lt_of_pos a (show (0 : Int) < 2 ^ (32 - n).toNat by omega)
      rw [decide_eq_true h1, decide_eq_true h2]
      simp only [cond_true, lastBits_eq k n hn.1 hn.2, Option.bind_some]
      rw [andNot_mask _ (by omega) a h2.1 h2.2, wr64 (by omega) (by omega)]
      congr 1
      by_cases h3 : a - a % 2 ^ (32 - n).toNat = p
      · rw [decide_eq_true (show InP p n a from ⟨h1, h2, h3⟩)]; simp [h3]
      · rw [decide_eq_false (show ¬ InP p n a from fun c => h3 c.2.2)]; simp [h3]
    · rw [decide_eq_true h1, decide_eq_false h2, decide_eq_false (show ¬ InP p n a from fun c => h2 c.2.1)]; rfl
  · rw [decide_eq_false h1, decide_eq_false (show ¬ InP p n a from fun c => h1 c.1)]; rfl
theorem spec_l08Size.ev (n : Int) (h0 : 0 ≤ n) (h1 : n ≤ 32) : Tells F0 (fun k => spec_l08Size.f k n) (· = 2 ^ (32 - n).toNat) := by
  obtain ⟨m, rfl⟩ := Int.eq_ofNat_of_zero_le h0
  have hd : ∀ j : Fin 32, IntKind.i64.wrap (2 * 2 ^ j.val) = 2 ^ (j.val + 1) := by decide +kernel
  have h := T_loop (F := F0) (fun k j i => spec_l08Size.l0 k j (2 ^ i, ((m + i : Nat) : Int))) (32 - m) (fun _ r => r = 2 ^ (32 - m)) (fun i hi he => by
    dsimp only [spec_l08Size.l0, spec_l08Size.s0]
    refine T_pos (by omega) ?_
    rw [hd ⟨i, by omega⟩, wrn (by omega)]
    exact he) (by
    dsimp only [spec_l08Size.l0, spec_l08Size.s0]
    exact T_neg (by omega) (T_ret rfl)) 0 (Nat.zero_le _)
  unfold spec_l08Size.f
  rw [show (32 - (m : Int)).toNat = 32 - m by omega]
  exact T_in (g := fun x j => spec_l08Size.l0 x j _) (by simpa using h) (fun k => k) (fun _ _ h => h)
theorem spec_PrefixOk.ev (a n : Int) : Tells F0 (fun k => spec_PrefixOk.f k a n) (· = decide (PfxP a n)) := by
  unfold spec_PrefixOk.f
  simp only [spec_AddrOk_eq, in_eq, Option.bind_some]
  refine T_dec (fun h1 => T_dec (fun h2 => ?_) fun h => T_ret (decide_eq_false fun c => h c.2.1).symm) fun h => T_ret (decide_eq_false fun c => h c.1).symm
  refine T_bindE (spec_l08Size.ev n h2.1 h2.2) ?_
  have hp := pow_rng (32 - n).toNat (by omega)
  refine T_false (by simp; omega) (T_ret ?_)
  rw [Int.tmod_eq_emod_of_nonneg h1.1]
  by_cases h3 : a % 2 ^ (32 - n).toNat = 0
  · rw [decide_eq_true (show PfxP a n from ⟨h1, h2, h3⟩)]; simp [h3]
  · rw [decide_eq_false (show ¬ PfxP a n from fun c => h3 c.2.2)]; simp [h3]
theorem spec_InPrefix.ev (p n a : Int) : Tells F0 (fun k => spec_InPrefix.f k p n a) (· = decide (InP p n a)) := by
  unfold spec_InPrefix.f
  refine T_bindE (spec_PrefixOk.ev p n) ?_
  simp only [spec_AddrOk_eq, Option.bind_some]
  refine T_dec (fun h1 => T_dec (fun h2 => ?_) fun h => T_ret (decide_eq_false fun c => h c.2.1).symm) fun h => T_ret (decide_eq_false fun c => h c.1).symm
  have hn := h1.2.1
  refine T_bindE (spec_l08Size.ev n hn.1 hn.2) ?_
  have hp := pow_rng (32 - n).toNat (by omega)
  have hm0 := Int.emod_nonneg a (show (2 : Int) ^ (32 - n).toNat ≠ 0 by omega)
  have hm1 := Int.emod_lt_of_pos a (show (0 : Int) < 2 ^ (32 - n).toNat by omega)
  refine T_false (by simp; omega) (T_ret ?_)
  rw [Int.tmod_eq_emod_of_nonneg h2.1, wr64 (by omega) (by omega)]
  by_cases h3 : a - a % 2 ^ (32 - n).toNat = p
  · rw [decide_eq_true (show InP p n a from ⟨h1, h2, h3⟩)]; simp [h3]
  · rw [decide_eq_false (show ¬ InP p n a from fun c => h3 c.2.2)]; simp [h3]

theorem isId_eq (k : Nat) (n : Int) : impl_isId.f k n = some (decide (1 ≤ n ∧ n ≤ 99)) := by
  unfold impl_isId.f
  rw [within_eq]; rfl

theorem take_filter_succ {α : Type} (p : α → Bool) (l : List α) (i : Nat) (h : i < l.length) : (l.take (i + 1)).filter p = (l.take i).filter p ++ (if p l[i] then [l[i]] else []) := by
  rw [List.take_succ_eq_append_getElem h, List.filter_append]
  cases e : p l[i] <;> simp [e]
theorem drop_get {α : Type} {l l' : List α} {j : Nat} (h : l'.drop j = l.drop j) (hj : j < l.length) (hj' : j < l'.length) : l'[j] = l[j] := by
  have := congrArg (fun x => x[0]?) h
  simp only [List.getElem?_drop, Nat.add_zero, List.getElem?_eq_getElem hj, List.getElem?_eq_getElem hj'] at this
  exact Option.some.inj this
theorem set_take_succ {α : Type} (l : List α) (i : Nat) (x : α) (h : i < l.length) : (l.set i x).take (i + 1) = l.take i ++ [x] := by
  rw [List.take_succ_eq_append_getElem (by simpa using h), List.take_set_of_le (Nat.le_refl _), List.getElem_set_self]

def impl_leaseOf_1.p (c0 : Int) (x : Int × Int × Int) : Bool := (x.2.1 == c0)
theorem impl_leaseOf_1.ev (k : Nat) (x : Int × Int × Int) (c0 : Int) : impl_leaseOf_1.f k x.1 x.2.1 x.2.2 c0 = some (impl_leaseOf_1.p c0 x, c0) := rfl
theorem slices_IndexFunc_impl_Lease_impl_Lease_f141.ev (l : List (Int × Int × Int)) (c0 : Int) (hn : l.length ≤ 1000000000000000000) : Tells F0 (fun k => slices_IndexFunc_impl_Lease_impl_Lease_f141.f k l c0) (· = (if l.findIdx (impl_leaseOf_1.p c0) = l.length then (-1 : Int) else (l.findIdx (impl_leaseOf_1.p c0) : Int), c0)) := by
  have h := T_loop (F := F0) (fun k j i => slices_IndexFunc_impl_Lease_impl_Lease_f141.l0 k j ((l.length : Int), (i : Int), l, c0)) l.length (fun i r => (∀ m (h : m < l.length), m < i → impl_leaseOf_1.p c0 l[m] = false) → r = (if l.findIdx (impl_leaseOf_1.p c0) = l.length then (-1 : Int) else (l.findIdx (impl_leaseOf_1.p c0) : Int), c0)) (fun i hi he => by
    dsimp only [slices_IndexFunc_impl_Lease_impl_Lease_f141.l0, slices_IndexFunc_impl_Lease_impl_Lease_f141.s0]
    simp only [Int.toNat_natCast, impl_leaseOf_1.ev, Option.bind_some]
    refine T_pos (by omega) (T_get hi (T_bif (fun hp => T_ret fun hm => ?_) fun hp => ?_))
    · have e : l.findIdx (impl_leaseOf_1.p c0) = i := (List.findIdx_eq hi).2 ⟨hp, fun j hj => hm j (by omega) hj⟩
      rw [e, if_neg (by omega)]
    · rw [wrs hi (by omega)]
      refine T_mono he fun r hr hm => hr fun m h hmi => ?_
      by_cases e : m = i
      · subst e; exact hp
      · exact hm m h (by omega)) (by
    dsimp only [slices_IndexFunc_impl_Lease_impl_Lease_f141.l0, slices_IndexFunc_impl_Lease_impl_Lease_f141.s0]
    refine T_neg (by omega) (T_ret fun hm => ?_)
    have e : l.findIdx (impl_leaseOf_1.p c0) = l.length := List.findIdx_eq_length.2 fun x hx => by
      obtain ⟨j, hj, rfl⟩ := List.mem_iff_getElem.1 hx
      exact hm j hj hj
    rw [if_pos e]) 0 (Nat.zero_le _)
  unfold slices_IndexFunc_impl_Lease_impl_Lease_f141.f
  exact T_in (g := fun x j => slices_IndexFunc_impl_Lease_impl_Lease_f141.l0 x j _) (T_mono h fun r hr => hr (fun m h hm => absurd hm (by omega))) (fun k => k) (fun _ _ h => h)
def leaseAt (ls : List (Int × Int × Int)) (who : Int) : Int := if ls.findIdx (impl_leaseOf_1.p who) = ls.length then (-1 : Int) else (ls.findIdx (impl_leaseOf_1.p who) : Int)
theorem impl_leaseOf.ev (pa pl : Int) (ls : List (Int × Int × Int)) (fx : List (Int × Int)) (who : Int) (h : ls.length ≤ 1048576) : Tells F0 (fun k => impl_leaseOf.f k pa pl ls fx who) (· = leaseAt ls who) := by
  unfold impl_leaseOf.f
  exact T_bindE (slices_IndexFunc_impl_Lease_impl_Lease_f141.ev ls who (by omega)) (T_ret rfl)
theorem findIdx_le' {α : Type} {p : α → Bool} {l : List α} {i : Nat} (h : i < l.length) (hp : p l[i] = true) : l.findIdx p ≤ i := by
  rcases Nat.lt_or_ge i (l.findIdx p) with k | k
  · have := List.not_of_lt_findIdx k
    rw [hp] at this; cases this
  · exact k
theorem leaseAt_iff (ls : List (Int × Int × Int)) (i : Nat) (h : i < ls.length) : leaseAt ls (ls[i]).2.1 = (i : Int) ↔ ∀ m (hm : m < i), (ls[m]).2.1 ≠ (ls[i]).2.1 := by
  have hp : impl_leaseOf_1.p (ls[i]).2.1 ls[i] = true := by simp [impl_leaseOf_1.p]
  have hle : ls.findIdx (impl_leaseOf_1.p (ls[i]).2.1) ≤ i := findIdx_le' h hp
  unfold leaseAt
  rw [if_neg (by omega)]
  constructor
  · intro e m hm c
    have e' : ls.findIdx (impl_leaseOf_1.p (ls[i]).2.1) = i := by omega
    have := ((List.findIdx_eq h).1 e').2 m hm
    simp [impl_leaseOf_1.p, c] at this
  · intro hh
    have := (List.findIdx_eq (p := impl_leaseOf_1.p (ls[i]).2.1) h).2 ⟨hp, fun j hj => by simpa [impl_leaseOf_1.p] using hh j hj⟩
    omega

abbrev Lse := Int × Int × Int
abbrev Fxd := Int × Int

def HostP (pa pl a : Int) : Prop := InP pa pl a ∧ a ≠ pa ∧ a ≠ pa + 2 ^ (32 - pl).toNat - 1
instance (pa pl a : Int) : Decidable (HostP pa pl a) := by unfold HostP; infer_instance
theorem impl_isHost_eq (k : Nat) (pa pl a : Int) : impl_isHost.f k pa pl a = some (decide (HostP pa pl a)) := by
  unfold impl_isHost.f
  simp only [impl_InPrefix_eq, Option.bind_some]
  by_cases h1 : InP pa pl a
  · have hn := h1.1.2.1
    have ha := h1.1.1
    have hp := pow_rng (32 - pl).toNat (by omega)
    rw [decide_eq_true h1]
    simp only [cond_true, lastBits_eq k pl hn.1 hn.2, Option.bind_some]
    rw [or_mask _ (by omega) pa ha.1 ha.2 h1.1.2.2, wr64 (by omega) (by omega)]
    by_cases h2 : a = pa
    · rw [decide_eq_false (show ¬ HostP pa pl a from fun c => c.2.1 h2)]; simp [h2]
    · have e2 : (a != pa) = true := by simpa using h2
      by_cases h3 : a = pa + 2 ^ (32 - pl).toNat - 1
      · rw [decide_eq_false (show ¬ HostP pa pl a from fun c => c.2.2 h3), e2]; simp [← h3]
      · rw [decide_eq_true (show HostP pa pl a from ⟨h1, h2, h3⟩), e2]
        have e3 : (a != pa + 2 ^ (32 - pl).toNat - 1) = true := by simpa using h3
        rw [e3]; rfl
  · rw [decide_eq_false h1, decide_eq_false (show ¬ HostP pa pl a from fun c => h1 c.1)]; rfl
theorem spec_l11Inside.ev (pa pl : Int) (ls : List Lse) (fx : List Fxd) (a : Int) : Tells F0 (fun k => spec_l11Inside.f k pa pl ls fx a) (· = decide (HostP pa pl a)) := by
  unfold spec_l11Inside.f
  refine T_bindE (spec_InPrefix.ev pa pl a) (T_dec (fun h1 => T_bne (fun h2 => ?_) fun h2 => T_ret (decide_eq_false fun c => c.2.1 h2).symm) fun h1 => T_ret (decide_eq_false fun c => h1 c.1).symm)
  have hn := h1.1.2.1
  have ha := h1.1.1
  have hp := pow_rng (32 - pl).toNat (by omega)
  refine T_bindE (spec_l08Size.ev pl hn.1 hn.2) (T_ret ?_)
  rw [wr64 (x := pa + 2 ^ (32 - pl).toNat) (by omega) (by omega), wr64 (by omega) (by omega)]
  by_cases h3 : a = pa + 2 ^ (32 - pl).toNat - 1
  · rw [decide_eq_false (show ¬ HostP pa pl a from fun c => c.2.2 h3)]; simp [← h3]
  · rw [decide_eq_true (show HostP pa pl a from ⟨h1, h2, h3⟩)]; simpa using h3
def fixFor (fx : List Fxd) (a : Int) : Int := match fx.find? (fun f => f.2 == a) with | some f => f.1 | none => 0
theorem spec_l11FixedFor.ev (pa pl : Int) (ls : List Lse) (fx : List Fxd) (a : Int) (h : fx.length ≤ 1048576) : Tells F0 (fun k => spec_l11FixedFor.f k pa pl ls fx a) (· = fixFor fx a) := by
  have hh := T_loop (F := F0) (fun k j i => spec_l11FixedFor.l0 k j (a, (i : Int), ls, fx, pa, pl)) fx.length (fun i r => r = match (fx.drop i).find? (fun f => f.2 == a) with | some f => f.1 | none => 0) (fun i hi he => by
    rw [find_step _ _ _ hi]
    dsimp only [spec_l11FixedFor.l0, spec_l11FixedFor.s0]
    simp only [Int.toNat_natCast]
    rw [wrs hi (by omega)]
    exact T_pos (by omega) (T_get hi (T_beq (fun e => T_get hi (T_ret (by simp [e]))) fun e => by rw [if_neg (by simpa using e)]; exact he))) (by
    dsimp only [spec_l11FixedFor.l0, spec_l11FixedFor.s0]
    exact T_neg (by omega) (T_ret (by simp))) 0 (Nat.zero_le _)
  unfold spec_l11FixedFor.f
  exact T_in (g := fun x j => spec_l11FixedFor.l0 x j _) hh (fun k => k) (fun _ _ h => h)
theorem impl_fixedFor.ev (pa pl : Int) (ls : List Lse) (fx : List Fxd) (a : Int) (h : fx.length ≤ 1048576) : Tells F0 (fun k => impl_fixedFor.f k pa pl ls fx a) (· = fixFor fx a) := by
  have hh := T_loop (F := F0) (fun k j i => impl_fixedFor.l0 k j (a, (fx.length : Int), (i : Int), ls, fx)) fx.length (fun i r => r = match (fx.drop i).find? (fun f => f.2 == a) with | some f => f.1 | none => 0) (fun i hi he => by
    rw [find_step _ _ _ hi]
    dsimp only [impl_fixedFor.l0, impl_fixedFor.s0]
    simp only [Int.toNat_natCast]
    rw [wrs hi (by omega)]
    exact T_pos (by omega) (T_get hi (T_beq (fun e => T_ret (by simp [e])) fun e => by rw [if_neg (by simpa using e)]; exact he))) (by
    dsimp only [impl_fixedFor.l0, impl_fixedFor.s0]
    exact T_neg (by omega) (T_ret (by simp))) 0 (Nat.zero_le _)
  unfold impl_fixedFor.f
  exact T_in (g := fun x j => impl_fixedFor.l0 x j _) hh (fun k => k) (fun _ _ h => h)
def FixC (pa pl : Int) (fx : List Fxd) (i : Nat) : Prop := ∀ h : i < fx.length, (1 ≤ (fx[i]).1 ∧ (fx[i]).1 ≤ 99) ∧ HostP pa pl (fx[i]).2 ∧ (0 < i → (fx[i - 1]).1 < (fx[i]).1) ∧ fixFor fx (fx[i]).2 = (fx[i]).1
def LeaseC (pa pl : Int) (ls : List Lse) (fx : List Fxd) (i : Nat) : Prop := ∀ h : i < ls.length, HostP pa pl (ls[i]).1 ∧ (1 ≤ (ls[i]).2.1 ∧ (ls[i]).2.1 ≤ 99) ∧ (0 ≤ (ls[i]).2.2 ∧ (ls[i]).2.2 ≤ 1000000000) ∧ (0 < i → (ls[i - 1]).1 < (ls[i]).1) ∧ (fixFor fx (ls[i]).1 = 0 ∨ fixFor fx (ls[i]).1 = (ls[i]).2.1) ∧ ∀ m (hm : m < i), (ls[m]).2.1 ≠ (ls[i]).2.1
def PoolP (pa pl : Int) (ls : List Lse) (fx : List Fxd) : Prop := PfxP pa pl ∧ (24 ≤ pl ∧ pl ≤ 30) ∧ ls.length ≤ 6 ∧ fx.length ≤ 4 ∧ (∀ i, i < fx.length → FixC pa pl fx i) ∧ ∀ i, i < ls.length → LeaseC pa pl ls fx i
section
variable (pa pl : Int) (ls : List Lse) (fx : List Fxd)
theorem spec_PoolOk.ev (h2 : ls.length ≤ 1048576) (h3 : fx.length ≤ 1048576) : Tells F0 (fun k => spec_PoolOk.f k pa pl ls fx) (fun r => r = true ↔ PoolP pa pl ls fx) := by
  have lease : Tells F0 (fun k => spec_PoolOk.l2 k k ((0 : Int), ls, fx, pa, pl)) (fun r => r = true ↔ ∀ i, i < ls.length → LeaseC pa pl ls fx i) := by
    have hh := T_body (F := F0) (fun k j i => spec_PoolOk.l2 k j ((i : Int), ls, fx, pa, pl)) ls.length (LeaseC pa pl ls fx) True (fun i hi P go bad => by
      dsimp only [spec_PoolOk.l2, spec_PoolOk.s2]
      simp only [in_eq, Option.bind_some]
      have inner : (HostP pa pl (ls[i]).1 ∧ (1 ≤ (ls[i]).2.1 ∧ (ls[i]).2.1 ≤ 99) ∧ (0 ≤ (ls[i]).2.2 ∧ (ls[i]).2.2 ≤ 1000000000) ∧ (0 < i → (ls[i - 1]).1 < (ls[i]).1) ∧ (fixFor fx (ls[i]).1 = 0 ∨ fixFor fx (ls[i]).1 = (ls[i]).2.1)) →
          Tells (FS F0) (fun x => spec_PoolOk.l4 x.1 (spec_PoolOk.l2 x.1 x.2) x.1 ((i : Int), (0 : Int), ls, fx, pa, pl, (ls[i]).1, (ls[i]).2.1, (ls[i]).2.2)) P := by
        rintro ⟨q1, q2, q3, q4, q5⟩
        refine T_in (F := FS F0) (g := fun x j => spec_PoolOk.l4 x.1 (spec_PoolOk.l2 x.1 x.2) j _) (T_inner (F := FS F0) (fun x j m => spec_PoolOk.l4 x.1 (spec_PoolOk.l2 x.1 x.2) j ((i : Int), (m : Int), ls, fx, pa, pl, (ls[i]).1, (ls[i]).2.1, (ls[i]).2.2)) i (fun m => ∀ h : m < ls.length, (ls[m]).2.1 ≠ (ls[i]).2.1) (fun m hm hI he => ?_) fun hI => ?_) Prod.fst (fun _ _ h => h.1)
        · dsimp only [spec_PoolOk.l4, spec_PoolOk.s4]
          have hm' : m < ls.length := by omega
          refine T_pos (by omega) (T_at hm' (T_beq (fun e => T_ret (bad fun c => (c hi).2.2.2.2.2 m hm e)) fun e => ?_))
          rw [wrs hm (by omega)]
          exact he fun _ => e
        · dsimp only [spec_PoolOk.l4, spec_PoolOk.s4]
          refine T_neg (by omega) ?_
          rw [wrs hi (by omega)]
          exact T_lift (go fun _ => ⟨q1, q2, q3, q4, q5, fun m hm => hI m hm (by omega)⟩)
      have fix : ∀ Q : Prop, (Q → HostP pa pl (ls[i]).1 ∧ (1 ≤ (ls[i]).2.1 ∧ (ls[i]).2.1 ≤ 99) ∧ (0 ≤ (ls[i]).2.2 ∧ (ls[i]).2.2 ≤ 1000000000) ∧ (0 < i → (ls[i - 1]).1 < (ls[i]).1)) → Q →
          Tells (FS F0) (fun x => (spec_l11FixedFor.f x.1 pa pl ls fx (ls[i]).1).bind fun r => bif r != 0 then (bif r != (ls[i]).2.1 then some false else spec_PoolOk.l4 x.1 (spec_PoolOk.l2 x.1 x.2) x.1 ((i : Int), (0 : Int), ls, fx, pa, pl, (ls[i]).1, (ls[i]).2.1, (ls[i]).2.2)) else spec_PoolOk.l4 x.1 (spec_PoolOk.l2 x.1 x.2) x.1 ((i : Int), (0 : Int), ls, fx, pa, pl, (ls[i]).1, (ls[i]).2.1, (ls[i]).2.2)) P := by
        intro Q hQ q
        obtain ⟨q1, q2, q3, q4⟩ := hQ q
        refine T_bindE (T_call (spec_l11FixedFor.ev pa pl ls fx _ h3) Prod.fst (fun _ _ h => h.1)) (T_bne (fun e => T_bne (fun e2 => T_ret (bad fun c => by have := (c hi).2.2.2.2.1; omega)) fun e2 => inner ⟨q1, q2, q3, q4, .inr e2⟩) fun e => inner ⟨q1, q2, q3, q4, .inl e⟩)
      refine T_pos (by omega) (T_at hi (T_bindE (T_call (spec_l11Inside.ev pa pl ls fx _) Prod.fst (fun _ _ h => h.1)) (T_ndec (fun a1 => T_ndec (fun a2 => T_ndec (fun a3 => T_dec (fun a4 => T_pre (by omega) hi (by omega) (T_dec (fun a5 => T_ret (bad fun c => by have := (c hi).2.2.2.1 (by omega); omega)) fun a5 => ?_)) fun a4 => ?_) fun a3 => T_ret (bad fun c => a3 (c hi).2.2.1)) fun a2 => T_ret (bad fun c => a2 (c hi).2.1)) fun a1 => T_ret (bad fun c => a1 (c hi).1))))
      · exact fix True (fun _ => ⟨a1, a2, a3, fun _ => by omega⟩) trivial
      · exact fix True (fun _ => ⟨a1, a2, a3, fun h => absurd h (by omega)⟩) trivial) (by
      dsimp only [spec_PoolOk.l2, spec_PoolOk.s2]
      exact T_neg (by omega) (T_ret (by simp)))
    exact T_in (g := fun x j => spec_PoolOk.l2 x j _) (T_mono hh fun r hr => by rw [hr]; exact ⟨fun h => h.1, fun h => ⟨h, trivial⟩⟩) (fun k => k) (fun _ _ h => h)
  have fixes := T_body (F := F0) (fun k j i => spec_PoolOk.l0 k j ((i : Int), ls, fx, pa, pl)) fx.length (FixC pa pl fx) (∀ i, i < ls.length → LeaseC pa pl ls fx i) (fun i hi P go bad => by
    dsimp only [spec_PoolOk.l0, spec_PoolOk.s0]
    simp only [in_eq, Option.bind_some]
    rw [wrs hi (by omega)]
    refine T_pos (by omega) (T_at hi (T_ndec (fun a1 => T_bindE (T_call (spec_l11Inside.ev pa pl ls fx _) Prod.fst (fun _ _ h => h.1)) (T_ndec (fun a2 => T_dec (fun a4 => T_pre (by omega) hi (by omega) (T_dec (fun a5 => T_ret (bad fun c => by have := (c hi).2.2.1 (by omega); omega)) fun a5 => T_bindE (T_call (spec_l11FixedFor.ev pa pl ls fx _ h3) Prod.fst (fun _ _ h => h.1)) (T_bne (fun e => T_ret (bad fun c => e (c hi).2.2.2)) fun e => go fun _ => ⟨a1, a2, fun _ => by omega, e⟩))) fun a4 => T_bindE (T_call (spec_l11FixedFor.ev pa pl ls fx _ h3) Prod.fst (fun _ _ h => h.1)) (T_bne (fun e => T_ret (bad fun c => e (c hi).2.2.2)) fun e => go fun _ => ⟨a1, a2, fun h => absurd h (by omega), e⟩)) fun a2 => T_ret (bad fun c => a2 (c hi).2.1))) fun a1 => T_ret (bad fun c => a1 (c hi).1)))) (by
    dsimp only [spec_PoolOk.l0, spec_PoolOk.s0]
    exact T_neg (by omega) (T_call lease Prod.fst (fun _ _ h => h.1)))
  unfold spec_PoolOk.f
  simp only [in_eq, Option.bind_some]
  refine T_bindE (spec_PrefixOk.ev pa pl) (T_ndec (fun a1 => T_ndec (fun a2 => T_dec (fun a3 => T_ret (no_iff fun c => by have := c.2.2.1; omega)) fun a3 => T_dec (fun a4 => T_ret (no_iff fun c => by have := c.2.2.2.1; omega)) fun a4 => T_mono (T_in (g := fun x j => spec_PoolOk.l0 x j _) fixes (fun k => k) (fun _ _ h => h)) fun r hr => ?_) fun a2 => T_ret (no_iff fun c => a2 c.2.1)) fun a1 => T_ret (no_iff fun c => a1 c.1))
  rw [hr]
  exact ⟨fun c => ⟨a1, a2, by omega, by omega, c⟩, fun c => c.2.2.2.2⟩
theorem impl_fixesOk.ev (h3 : fx.length ≤ 1048576) : Tells F0 (fun k => impl_fixesOk.f k pa pl ls fx) (fun r => r = true ↔ (∀ i, i < fx.length → FixC pa pl fx i) ∧ fx.length ≤ 4) := by
  have hh := T_body (F := F0) (fun k j i => impl_fixesOk.l0 k j ((fx.length : Int), (i : Int), ls, fx, pa, pl)) fx.length (FixC pa pl fx) (fx.length ≤ 4) (fun i hi P go bad => by
    dsimp only [impl_fixesOk.l0, impl_fixesOk.s0]
    simp only [isId_eq, impl_isHost_eq, Option.bind_some]
    rw [wrs hi (by omega)]
    exact T_pos (by omega) (T_at hi (T_ndec (fun a1 => T_ndec (fun a2 => T_dec (fun a4 => T_pre (by omega) hi (by omega) (T_dec (fun a5 => T_ret (bad fun c => by have := (c hi).2.2.1 (by omega); omega)) fun a5 => T_bindE (T_call (impl_fixedFor.ev pa pl ls fx _ h3) Prod.fst (fun _ _ h => h.1)) (T_bne (fun e => T_ret (bad fun c => e (c hi).2.2.2)) fun e => go fun _ => ⟨a1, a2, fun _ => by omega, e⟩))) fun a4 => T_bindE (T_call (impl_fixedFor.ev pa pl ls fx _ h3) Prod.fst (fun _ _ h => h.1)) (T_bne (fun e => T_ret (bad fun c => e (c hi).2.2.2)) fun e => go fun _ => ⟨a1, a2, fun h => absurd h (by omega), e⟩)) fun a2 => T_ret (bad fun c => a2 (c hi).2.1)) fun a1 => T_ret (bad fun c => a1 (c hi).1)))) (by
    dsimp only [impl_fixesOk.l0, impl_fixesOk.s0]
    exact T_neg (by omega) (T_ret (by rw [decide_eq_true_eq]; omega)))
  unfold impl_fixesOk.f
  exact T_in (g := fun x j => impl_fixesOk.l0 x j _) hh (fun k => k) (fun _ _ h => h)
theorem impl_PoolOk.ev (h2 : ls.length ≤ 1048576) (h3 : fx.length ≤ 1048576) : Tells F0 (fun k => impl_PoolOk.f k pa pl ls fx) (fun r => r = true ↔ PoolP pa pl ls fx) := by
  have hh := T_body (F := F0) (fun k j i => impl_PoolOk.l0 k j ((ls.length : Int), (i : Int), ls, fx, pa, pl)) ls.length (LeaseC pa pl ls fx) True (fun i hi P go bad => by
    dsimp only [impl_PoolOk.l0, impl_PoolOk.s0]
    simp only [isId_eq, within_eq, impl_isHost_eq, Option.bind_some]
    rw [wrs hi (by omega)]
    have last : (0 < i → (ls[i - 1]).1 < (ls[i]).1) → Tells (FS F0) (fun x => bif !decide (HostP pa pl (ls[i]).1) then some false else bif !decide (1 ≤ (ls[i]).2.1 ∧ (ls[i]).2.1 ≤ 99) then some false else bif !decide (0 ≤ (ls[i]).2.2 ∧ (ls[i]).2.2 ≤ 1000000000) then some false else
        (impl_fixedFor.f x.1 pa pl ls fx (ls[i]).1).bind fun r9 => (impl_leaseOf.f x.1 pa pl ls fx (ls[i]).2.1).bind fun r10 => bif r10 != (i : Int) then some false else bif r9 != 0 then (bif r9 != (ls[i]).2.1 then some false else impl_PoolOk.l0 x.1 x.2 ((ls.length : Int), ((i + 1 : Nat) : Int), ls, fx, pa, pl)) else impl_PoolOk.l0 x.1 x.2 ((ls.length : Int), ((i + 1 : Nat) : Int), ls, fx, pa, pl)) P := by
      intro a0
      refine T_ndec (fun a1 => T_ndec (fun a2 => T_ndec (fun a3 => T_bindE (T_call (impl_fixedFor.ev pa pl ls fx _ h3) Prod.fst (fun _ _ h => h.1)) (T_bindE (T_call (impl_leaseOf.ev pa pl ls fx _ h2) Prod.fst (fun _ _ h => h.1)) (T_bne (fun e => T_ret (bad fun c => e ((leaseAt_iff ls i hi).2 (c hi).2.2.2.2.2))) fun e => ?_))) fun a3 => T_ret (bad fun c => a3 (c hi).2.2.1)) fun a2 => T_ret (bad fun c => a2 (c hi).2.1)) fun a1 => T_ret (bad fun c => a1 (c hi).1)
      have e' := (leaseAt_iff ls i hi).1 e
      exact T_bne (fun e1 => T_bne (fun e2 => T_ret (bad fun c => by have := (c hi).2.2.2.2.1; omega)) fun e2 => go fun _ => ⟨a1, a2, a3, a0, .inr e2, e'⟩) fun e1 => go fun _ => ⟨a1, a2, a3, a0, .inl e1, e'⟩
    exact T_pos (by omega) (T_at hi (T_dec (fun a4 => T_pre (by omega) hi (by omega) (T_dec (fun a5 => T_ret (bad fun c => by have := (c hi).2.2.2.1 (by omega); omega)) fun a5 => last fun _ => by omega)) fun a4 => last fun h => absurd h (by omega)))) (by
    dsimp only [impl_PoolOk.l0, impl_PoolOk.s0]
    exact T_neg (by omega) (T_ret (by simp)))
  unfold impl_PoolOk.f
  simp only [within_eq, impl_PrefixOk_eq, Option.bind_some]
  refine T_ndec (fun a1 => T_ndec (fun a2 => T_bind (impl_fixesOk.ev pa pl ls fx h3) fun r hr => ?_) fun a2 => T_ret (no_iff fun c => a2 c.2.1)) fun a1 => T_ret (no_iff fun c => a1 c.1)
  cases r with
  | false => exact T_true rfl (T_ret (no_iff fun c => by have := hr.2 ⟨c.2.2.2.2.1, c.2.2.2.1⟩; cases this))
  | true =>
  refine T_false rfl (T_dec (fun a3 => T_ret (no_iff fun c => by have := c.2.2.1; omega)) fun a3 => T_mono (T_in (g := fun x j => impl_PoolOk.l0 x j _) hh (fun k => k) (fun _ _ h => h)) fun r2 hr2 => ?_)
  rw [hr2]
  have := hr.1 rfl
  exact ⟨fun c => ⟨a1, a2, by omega, this.2, this.1, c.1⟩, fun c => ⟨c.2.2.2.2.2, trivial⟩⟩
end

def holder (ls : List Lse) (a : Int) : Int := match ls.find? (fun x => x.1 == a) with | some x => x.2.1 | none => 0
theorem holder_drop (ls : List Lse) (a : Int) (i : Nat) (h : i < ls.length) : holder (ls.drop i) a = if ls[i].1 = a then ls[i].2.1 else holder (ls.drop (i + 1)) a := by
  unfold holder
  rw [find_step _ _ _ h]
  by_cases e : ls[i].1 = a
  · simp [e]
  · simp [e]
theorem spec_HolderOf.ev (pa pl : Int) (ls : List Lse) (fx : List Fxd) (a : Int) (h2 : ls.length ≤ 1048576) : Tells F0 (fun k => spec_HolderOf.f k pa pl ls fx a) (· = holder ls a) := by
  have h := T_loop (F := F0) (fun k j i => spec_HolderOf.l0 k j (a, (i : Int), ls, fx, pa, pl)) ls.length (fun i r => r = holder (ls.drop i) a) (fun i hi he => by
    dsimp only [spec_HolderOf.l0, spec_HolderOf.s0]
    simp only [Int.toNat_natCast]
    rw [wrs hi (by omega), holder_drop ls a i hi]
    refine T_pos (by omega) (T_get hi (T_beq (fun e => T_get hi (T_ret ?_)) fun e => ?_))
    · rw [if_pos e]
    · rw [if_neg e]; exact he) (by
    dsimp only [spec_HolderOf.l0, spec_HolderOf.s0]
    exact T_neg (by omega) (T_ret (by rw [List.drop_length]; rfl))) 0 (Nat.zero_le _)
  unfold spec_HolderOf.f
  exact T_in (g := fun x j => spec_HolderOf.l0 x j _) (by simpa using h) (fun k => k) (fun _ _ h => h)
theorem impl_HolderOf.ev (pa pl : Int) (ls : List Lse) (fx : List Fxd) (a : Int) (h2 : ls.length ≤ 1048576) : Tells F0 (fun k => impl_HolderOf.f k pa pl ls fx a) (· = holder ls a) := by
  have h := T_loop (F := F0) (fun k j i => impl_HolderOf.l0 k j (a, (ls.length : Int), (i : Int), ls, fx)) ls.length (fun i r => r = holder (ls.drop i) a) (fun i hi he => by
    dsimp only [impl_HolderOf.l0, impl_HolderOf.s0]
    simp only [Int.toNat_natCast]
    rw [wrs hi (by omega), holder_drop ls a i hi]
    refine T_pos (by omega) (T_get hi (T_beq (fun e => T_ret ?_) fun e => ?_))
    · rw [if_pos e]
    · rw [if_neg e]; exact he) (by
    dsimp only [impl_HolderOf.l0, impl_HolderOf.s0]
    exact T_neg (by omega) (T_ret (by rw [List.drop_length]; rfl))) 0 (Nat.zero_le _)
  unfold impl_HolderOf.f
  exact T_in (g := fun x j => impl_HolderOf.l0 x j _) (by simpa using h) (fun k => k) (fun _ _ h => h)
theorem holder_zero {ls : List Lse} {a : Int} (h : holder ls a = 0) (hp : ∀ x ∈ ls, 1 ≤ x.2.1) : ∀ x ∈ ls, x.1 ≠ a := by
  intro x hx e
  unfold holder at h
  split at h
  · rename_i y hy
    have := hp y (List.mem_of_find?_eq_some hy)
    omega
  · rename_i hn
    have := List.find?_eq_none.1 hn x hx
    simp [e] at this
def srch (good : Int → Bool) : Nat → Int → Option Int
  | 0, _ => none
  | d + 1, a => if good a then some a else srch good d (a + 1)
theorem srch_some {good : Int → Bool} : ∀ {d : Nat} {a b : Int}, srch good d a = some b → good b = true ∧ a ≤ b ∧ b < a + d
  | 0, _, _, h => by cases h
  | d + 1, a, b, h => by
    simp only [srch] at h
    split at h
    · rename_i e; cases h; exact ⟨e, by omega, by omega⟩
    · obtain ⟨g1, g2, g3⟩ := srch_some h
      exact ⟨g1, by omega, by omega⟩
def isFree (ls : List Lse) (fx : List Fxd) (a : Int) : Bool := decide (holder ls a = 0) && decide (fixFor fx a = 0)
def adrM (pa pl : Int) (ls : List Lse) (fx : List Fxd) (who : Int) : Option Int := match fx.find? (fun f => f.1 == who) with | some f => some f.2 | none => srch (isFree ls fx) (2 ^ (32 - pl).toNat - 2 : Int).toNat (pa + 1)
theorem host_iff {pa pl : Int} (hp : PfxP pa pl) (h : 24 ≤ pl ∧ pl ≤ 30) (i : Nat) (hi : (i : Int) ≤ 2 ^ (32 - pl).toNat - 2) : HostP pa pl (pa + 1 + i) ↔ (i : Int) < 2 ^ (32 - pl).toNat - 2 := by
  unfold HostP InP
  have hP := hp
  obtain ⟨h1, h2, h3⟩ := hp
  refine ⟨fun k => by omega, fun k => ⟨⟨hP, ?_⟩, by omega, by omega⟩⟩
  obtain rfl | rfl | rfl | rfl | rfl | rfl | rfl : pl = 24 ∨ pl = 25 ∨ pl = 26 ∨ pl = 27 ∨ pl = 28 ∨ pl = 29 ∨ pl = 30 := by omega
  · have e : (2 : Int) ^ ((32 : Int) - 24).toNat = 256 := by decide
    simp only [e] at hi k h3 ⊢; omega
  · have e : (2 : Int) ^ ((32 : Int) - 25).toNat = 128 := by decide
    simp only [e] at hi k h3 ⊢; omega
  · have e : (2 : Int) ^ ((32 : Int) - 26).toNat = 64 := by decide
    simp only [e] at hi k h3 ⊢; omega
  · have e : (2 : Int) ^ ((32 : Int) - 27).toNat = 32 := by decide
    simp only [e] at hi k h3 ⊢; omega
  · have e : (2 : Int) ^ ((32 : Int) - 28).toNat = 16 := by decide
    simp only [e] at hi k h3 ⊢; omega
  · have e : (2 : Int) ^ ((32 : Int) - 29).toNat = 8 := by decide
    simp only [e] at hi k h3 ⊢; omega
  · have e : (2 : Int) ^ ((32 : Int) - 30).toNat = 4 := by decide
    simp only [e] at hi k h3 ⊢; omega
theorem size_rng {pl : Int} (h : 24 ≤ pl ∧ pl ≤ 30) : (4 : Int) ≤ 2 ^ (32 - pl).toNat ∧ (2 : Int) ^ (32 - pl).toNat ≤ 256 := by
  obtain rfl | rfl | rfl | rfl | rfl | rfl | rfl : pl = 24 ∨ pl = 25 ∨ pl = 26 ∨ pl = 27 ∨ pl = 28 ∨ pl = 29 ∨ pl = 30 := by omega
  all_goals decide
theorem host_pos {pa pl a : Int} (hp : HostP pa pl a) : 0 < a := by
  obtain ⟨⟨⟨h1, _, _⟩, h2, h3⟩, h4, _⟩ := hp
  have : 0 ≤ a % 2 ^ (32 - pl).toNat := Int.emod_nonneg _ (by have := Int.pow_pos (n := 2) (m := (32 - pl).toNat) (by omega); omega)
  omega
theorem impl_addrFor.ev {pa pl : Int} {ls : List Lse} {fx : List Fxd} (who : Int) (hp : PoolP pa pl ls fx) : Tells F0 (fun k => impl_addrFor.f k pa pl ls fx who) (· = (adrM pa pl ls fx who).getD (-1)) := by
  obtain ⟨hP, hl, h2, h3, _, _⟩ := hp
  have hs := size_rng hl
  have hh := fun i => host_iff hP hl i
  generalize hsz : (2 : Int) ^ (32 - pl).toNat = sz at hs hh
  have hpa := hP.1
  have hf2 := T_loop (F := F0) (fun k j i => impl_addrFor.l2 k j (pa + 1 + (i : Int), ls, fx, pa, pl)) (sz - 2).toNat (fun i r => r = (srch (isFree ls fx) ((sz - 2).toNat - i) (pa + 1 + (i : Int))).getD (-1)) (fun i hi he => by
    dsimp only [impl_addrFor.l2, impl_addrFor.s2]
    rw [wr64 (x := pa + 1 + (i : Int) + 1) (by omega) (by omega)]
    have e1 : (sz - 2).toNat - i = ((sz - 2).toNat - (i + 1)) + 1 := by omega
    have e2 : pa + 1 + (i : Int) + 1 = pa + 1 + ((i + 1 : Nat) : Int) := by omega
    rw [e1]
    simp only [impl_isHost_eq, Option.bind_some, srch]
    rw [e2]
    refine T_pos ((hh i (by omega)).2 (by omega)) (T_bindE (T_call (impl_HolderOf.ev pa pl ls fx _ (by omega)) Prod.fst (fun _ _ h => h.1)) (T_beq (fun a1 => T_bindE (T_call (impl_fixedFor.ev pa pl ls fx _ (by omega)) Prod.fst (fun _ _ h => h.1)) (T_beq (fun a2 => T_ret ?_) fun a2 => ?_)) fun a1 => ?_))
    · rw [if_pos (by simp [isFree, a1, a2])]; rfl
    · rw [if_neg (by simp [isFree, a2])]; exact he
    · rw [if_neg (by simp [isFree, a1])]; exact he) (by
    dsimp only [impl_addrFor.l2, impl_addrFor.s2]
    simp only [impl_isHost_eq, Option.bind_some]
    refine T_neg (fun k => ?_) (T_ret (by rw [Nat.sub_self]; rfl))
    have := (hh _ (by omega)).1 k
    omega) 0 (Nat.zero_le _)
  have h := T_loop (F := F0) (fun k j i => impl_addrFor.l0 k j (who, (fx.length : Int), (i : Int), ls, fx, pa, pl)) fx.length (fun i r => r = (match (fx.drop i).find? (fun f : Fxd => f.1 == who) with | some f => some f.2 | none => srch (isFree ls fx) (sz - 2).toNat (pa + 1)).getD (-1)) (fun i hi he => by
    dsimp only [impl_addrFor.l0, impl_addrFor.s0]
    simp only [Int.toNat_natCast]
    rw [wrs hi (by omega), find_step _ _ _ hi]
    refine T_pos (by omega) (T_get hi (T_beq (fun e => T_ret ?_) fun e => ?_))
    · rw [if_pos (by simpa using e)]; rfl
    · rw [if_neg (by simpa using e)]; exact he) (by
    dsimp only [impl_addrFor.l0, impl_addrFor.s0]
    rw [wr64 (x := pa + 1) (by omega) (by omega), List.drop_length]
    exact T_neg (by omega) (T_call (T_in (g := fun x j => impl_addrFor.l2 x j _) (by simpa using hf2) (fun k => k) (fun _ _ h => h)) Prod.fst (fun _ _ h => h.1))) 0 (Nat.zero_le _)
  unfold impl_addrFor.f adrM
  rw [hsz]
  exact T_in (g := fun x j => impl_addrFor.l0 x j _) (by simpa using h) (fun k => k) (fun _ _ h => h)
theorem spec_l11Free.ev {pa pl : Int} {ls : List Lse} {fx : List Fxd} (who : Int) (hp : PoolP pa pl ls fx) : Tells F0 (fun k => spec_l11Free.f k pa pl ls fx who) (· = (adrM pa pl ls fx who).getD 0) := by
  obtain ⟨hP, hl, h2, h3, _, _⟩ := hp
  have hs := size_rng hl
  have hpa := hP.1
  have hsize := spec_l08Size.ev pl hP.2.1.1 hP.2.1.2
  generalize hsz : (2 : Int) ^ (32 - pl).toNat = sz at hs hsize
  have hf2 := T_loop (F := F0) (fun k j i => spec_l11Free.l2 k j (pa + 1 + (i : Int), ls, fx, pa, pl)) (sz - 2).toNat (fun i r => r = (srch (isFree ls fx) ((sz - 2).toNat - i) (pa + 1 + (i : Int))).getD 0) (fun i hi he => by
    dsimp only [spec_l11Free.l2, spec_l11Free.s2]
    rw [wr64 (x := pa + 1 + (i : Int) + 1) (by omega) (by omega)]
    have e1 : (sz - 2).toNat - i = ((sz - 2).toNat - (i + 1)) + 1 := by omega
    have e2 : pa + 1 + (i : Int) + 1 = pa + 1 + ((i + 1 : Nat) : Int) := by omega
    rw [e1]
    simp only [srch]
    rw [e2]
    refine T_bindE (T_call hsize Prod.fst (fun _ _ h => h.1)) ?_
    rw [wr64 (x := pa + sz) (by omega) (by omega), wr64 (x := pa + sz - 1) (by omega) (by omega)]
    refine T_pos (by omega) (T_bindE (T_call (spec_HolderOf.ev pa pl ls fx _ (by omega)) Prod.fst (fun _ _ h => h.1)) (T_beq (fun a1 => T_bindE (T_call (spec_l11FixedFor.ev pa pl ls fx _ (by omega)) Prod.fst (fun _ _ h => h.1)) (T_beq (fun a2 => T_ret ?_) fun a2 => ?_)) fun a1 => ?_))
    · rw [if_pos (by simp [isFree, a1, a2])]; rfl
    · rw [if_neg (by simp [isFree, a2])]; exact he
    · rw [if_neg (by simp [isFree, a1])]; exact he) (by
    dsimp only [spec_l11Free.l2, spec_l11Free.s2]
    refine T_bindE (T_call hsize Prod.fst (fun _ _ h => h.1)) ?_
    rw [wr64 (x := pa + sz) (by omega) (by omega), wr64 (x := pa + sz - 1) (by omega) (by omega)]
    exact T_neg (by omega) (T_ret (by rw [Nat.sub_self]; rfl))) 0 (Nat.zero_le _)
  have h := T_loop (F := F0) (fun k j i => spec_l11Free.l0 k j (who, (i : Int), ls, fx, pa, pl)) fx.length (fun i r => r = (match (fx.drop i).find? (fun f : Fxd => f.1 == who) with | some f => some f.2 | none => srch (isFree ls fx) (sz - 2).toNat (pa + 1)).getD 0) (fun i hi he => by
    dsimp only [spec_l11Free.l0, spec_l11Free.s0]
    simp only [Int.toNat_natCast]
    rw [wrs hi (by omega), find_step _ _ _ hi]
    refine T_pos (by omega) (T_get hi (T_beq (fun e => T_get hi (T_ret ?_)) fun e => ?_))
    · rw [if_pos (by simpa using e)]; rfl
    · rw [if_neg (by simpa using e)]; exact he) (by
    dsimp only [spec_l11Free.l0, spec_l11Free.s0]
    rw [wr64 (x := pa + 1) (by omega) (by omega), List.drop_length]
    exact T_neg (by omega) (T_call (T_in (g := fun x j => spec_l11Free.l2 x j _) (by simpa using hf2) (fun k => k) (fun _ _ h => h)) Prod.fst (fun _ _ h => h.1))) 0 (Nat.zero_le _)
  unfold spec_l11Free.f adrM
  rw [hsz]
  exact T_in (g := fun x j => spec_l11Free.l0 x j _) (by simpa using h) (fun k => k) (fun _ _ h => h)

theorem filter_len_take {α : Type} (p : α → Bool) (l : List α) (i : Nat) : ((l.take i).filter p).length ≤ l.length :=
  Nat.le_trans (List.length_filter_le _ _) (by simp; omega)

theorem impl_copyPool.ev (c0 c1 : Int) (c2 : List Lse) (c3 : List (Int × Int)) (h2 : c2.length ≤ 1048576) (h3 : c3.length ≤ 1048576) : Tells F0 (fun k => impl_copyPool.f k c0 c1 c2 c3) (· = (c0, c1, c2, c3)) := by
  unfold impl_copyPool.f
  exact T_pos (by simp; omega) (T_pos (by simp; omega) (T_ret rfl))
theorem spec_l11Copy.ev (c0 c1 : Int) (c2 : List Lse) (c3 : List (Int × Int)) (h2 : c2.length ≤ 1048576) (h3 : c3.length ≤ 1048576) : Tells F0 (fun k => spec_l11Copy.f k c0 c1 c2 c3) (· = (c0, c1, c2, c3)) := by
  unfold spec_l11Copy.f
  exact T_pos (by simp; omega) (T_pos (by simp; omega) (T_ret rfl))
def live (now : Int) (x : Lse) : Bool := decide (x.2.2 > now)
def gone (now : Int) (l : List Lse) : List Int := (l.filter fun x => !live now x).map (·.2.1)
theorem gone_take (now : Int) (l : List Lse) (i : Nat) (h : i < l.length) : gone now (l.take (i + 1)) = gone now (l.take i) ++ (if live now l[i] then [] else [l[i].2.1]) := by
  unfold gone
  rw [take_filter_succ _ _ _ h, List.map_append]
  cases live now l[i] <;> rfl
theorem gone_len (now : Int) (l : List Lse) (i : Nat) : (gone now (l.take i)).length ≤ l.length := by
  unfold gone
  rw [List.length_map]
  exact filter_len_take _ _ _
def expM (c0 c1 : Int) (c2 : List Lse) (c3 : List (Int × Int)) (now : Int) : Int × Int × List Lse × List (Int × Int) × List Int := (c0, c1, c2.filter (live now), c3, gone now c2)
theorem lse_pair {pa pl : Int} {ls : List Lse} {fx : List Fxd} (h : PoolP pa pl ls fx) : ls.Pairwise fun x y => x.1 < y.1 := by
  have hC := h.2.2.2.2.2
  have key : ∀ d i, (hh : i + d + 1 < ls.length) → (ls[i]).1 < (ls[i + d + 1]).1 := by
    intro d
    induction d with
    | zero => intro i hh; exact (hC (i + 1) hh hh).2.2.2.1 (by omega)
    | succ d ih =>
      intro i hh
      have a1 := ih i (by omega)
      have a2 := (hC (i + (d + 1) + 1) hh hh).2.2.2.1 (by omega)
      simp only [Nat.add_sub_cancel] at a2
      have e : i + (d + 1) = i + d + 1 := by omega
      simp only [e] at a2 ⊢
      omega
  rw [List.pairwise_iff_getElem]
  intro i j hi hj hij
  have := key (j - i - 1) i (by omega)
  have e : i + (j - i - 1) + 1 = j := by omega
  simp only [e] at this
  exact this
def lowr (a : Int) (x : Lse) : Bool := decide (x.1 < a)
def hghr (a : Int) (x : Lse) : Bool := decide (x.1 > a)
theorem lse_split {F : List Lse} {a : Int} (hp : F.Pairwise fun x y => x.1 < y.1) (hn : ∀ x ∈ F, x.1 ≠ a) {i : Nat} (hi : i ≤ F.length) (h1 : ∀ j (h : j < F.length), j < i → (F[j]).1 < a) (h2 : ∀ h : i < F.length, ¬ (F[i]).1 < a) :
    F.filter (lowr a) = F.take i ∧ F.filter (hghr a) = F.drop i := by
  have hx : ∀ p, F.filter p = (F.take i).filter p ++ (F.drop i).filter p := fun p => by rw [← List.filter_append, List.take_append_drop]
  have k1 : ∀ x ∈ F.take i, x.1 < a := by
    intro x hx
    obtain ⟨j, hj, rfl⟩ := List.mem_take_iff_getElem.1 hx
    exact h1 j (by omega) (by omega)
  have k2 : ∀ x ∈ F.drop i, x.1 > a := by
    intro x hx
    have hna := hn x (List.mem_of_mem_drop hx)
    obtain ⟨j, hj, rfl⟩ := List.mem_drop_iff_getElem.1 hx
    have b1 := h2 (by omega)
    have b2 : j ≠ 0 → (F[i]).1 < (F[i + j]).1 := fun h => (List.pairwise_iff_getElem.1 hp) i (i + j) (by omega) (by omega) (by omega)
    by_cases hj0 : j = 0
    · subst hj0
      simp only [Nat.add_zero] at hna ⊢
      omega
    · have b3 := b2 hj0
      omega
  rw [hx, hx]
  refine ⟨?_, ?_⟩
  · rw [List.filter_eq_self.2 fun x hx => by have := k1 x hx; simpa [lowr] using this, List.filter_eq_nil_iff.2 fun x hx => by have := k2 x hx; unfold lowr; rw [decide_eq_true_eq]; omega, List.append_nil]
  · rw [List.filter_eq_nil_iff.2 fun x hx => by have := k1 x hx; unfold hghr; rw [decide_eq_true_eq]; omega, List.filter_eq_self.2 fun x hx => by have := k2 x hx; simpa [hghr] using this, List.nil_append]
theorem ins_lse (k : Nat) (F : List Lse) (i : Nat) (r : Lse) (hi : i ≤ F.length) (hl : F.length ≤ 1048576) : slices_Insert_impl_Lease_impl_Lease.f k F i [r] = some (F.take i ++ [r] ++ F.drop i) := by
  unfold slices_Insert_impl_Lease_impl_Lease.f
  rw [if_pos ⟨⟨by omega, by omega⟩, by simp, by simp only [List.length_singleton]; omega⟩, Int.toNat_natCast]
def grtO (ls : List Lse) (a who now : Int) : List Lse := ls.filter (lowr a) ++ [(a, who, now + 20)] ++ ls.filter (hghr a)
open Classical in
noncomputable def grantM (pa pl : Int) (ls : List Lse) (fx : List Fxd) (who now : Int) : Int × Int × List Lse × List Fxd × Int × Bool :=
  if PoolP pa pl ls fx ∧ (1 ≤ who ∧ who ≤ 99) ∧ (0 ≤ now ∧ now ≤ 999999980) then
    (if h : ls.findIdx (impl_leaseOf_1.p who) < ls.length then (pa, pl, ls.set (ls.findIdx (impl_leaseOf_1.p who)) ((ls[ls.findIdx (impl_leaseOf_1.p who)]).1, (ls[ls.findIdx (impl_leaseOf_1.p who)]).2.1, now + 20), fx, (ls[ls.findIdx (impl_leaseOf_1.p who)]).1, true)
     else if ls.length < 6 then (match adrM pa pl ls fx who with | some a => (pa, pl, grtO ls a who now, fx, a, true) | none => (pa, pl, ls, fx, 0, false)) else (pa, pl, ls, fx, 0, false))
  else (pa, pl, ls, fx, 0, false)
theorem grt_len (ls : List Lse) (a who now : Int) : (grtO ls a who now).length ≤ ls.length + 1 := by
  unfold grtO
  have : (ls.filter (lowr a)).length + (ls.filter (hghr a)).length ≤ ls.length := by
    induction ls with
    | nil => simp
    | cons x r ih =>
      have hx : ¬ (lowr a x = true ∧ hghr a x = true) := by
        simp only [lowr, hghr, decide_eq_true_eq]
        omega
      simp only [List.filter_cons]
      by_cases h1 : lowr a x = true <;> by_cases h2 : hghr a x = true
      · exact absurd ⟨h1, h2⟩ hx
      all_goals simp only [h1, h2, if_true, if_false, List.length_cons, Bool.false_eq_true]; omega
  simp only [List.length_append, List.length_singleton]
  omega
theorem grant_len (pa pl : Int) (ls : List Lse) (fx : List Fxd) (who now : Int) (h : ls.length ≤ 1048576) : (grantM pa pl ls fx who now).2.2.1.length ≤ 1048576 := by
  unfold grantM
  split
  · split
    · simpa using h
    · split
      · split
        · have := grt_len ls (by assumption) who now
          dsimp only
          omega
        · exact h
      · exact h
  · exact h
theorem grant_fix (pa pl : Int) (ls : List Lse) (fx : List Fxd) (who now : Int) : (grantM pa pl ls fx who now).2.2.2.1 = fx := by
  unfold grantM
  split
  · split
    · rfl
    · split
      · split <;> rfl
      · rfl
  · rfl
/-- Who has no lease gets an address that has none. -/
theorem adr_free {pa pl : Int} {ls : List Lse} {fx : List Fxd} {who a : Int} (hp : PoolP pa pl ls fx) (hno : ∀ x ∈ ls, x.2.1 ≠ who) (h : adrM pa pl ls fx who = some a) : (∀ x ∈ ls, x.1 ≠ a) ∧ 0 < a := by
  obtain ⟨hP, hl, h2, h3, hF, hL⟩ := hp
  unfold adrM at h
  split at h
  · rename_i f hf
    cases h
    have hw : f.1 = who := by simpa using List.find?_some hf
    obtain ⟨i, hi, rfl⟩ := List.getElem_of_mem (List.mem_of_find?_eq_some hf)
    have hc := hF i hi hi
    refine ⟨fun x hx e => ?_, host_pos hc.2.1⟩
    obtain ⟨j, hj, rfl⟩ := List.getElem_of_mem hx
    have hd := (hL j hj hj).2.2.2.2.1
    rw [e, hc.2.2.2] at hd
    have := hno _ (List.getElem_mem hj)
    have := hc.1
    omega
  · have := srch_some h
    simp only [isFree, Bool.and_eq_true, decide_eq_true_eq] at this
    refine ⟨holder_zero this.1.1 fun x hx => ?_, by have := hP.1; omega⟩
    obtain ⟨j, hj, rfl⟩ := List.getElem_of_mem hx
    exact (hL j hj hj).2.1.1
theorem idx_none {ls : List Lse} {who : Int} (h : ¬ ls.findIdx (impl_leaseOf_1.p who) < ls.length) : ∀ x ∈ ls, x.2.1 ≠ who := by
  intro x hx e
  exact h (List.findIdx_lt_length_of_exists ⟨x, hx, by simp [impl_leaseOf_1.p, e]⟩)
theorem impl_Grant.ev (pa pl : Int) (ls : List Lse) (fx : List Fxd) (who now : Int) (h2 : ls.length ≤ 1048576) (h3 : fx.length ≤ 1048576) : Tells F0 (fun k => impl_Grant.f k pa pl ls fx who now) (· = grantM pa pl ls fx who now) := by
  unfold impl_Grant.f
  simp only [isId_eq, within_eq, Option.bind_some]
  refine T_bindE (impl_copyPool.ev pa pl ls fx h2 h3) (T_bind (impl_PoolOk.ev pa pl ls fx h2 h3) fun q hq => ?_)
  dsimp only
  unfold grantM
  cases q with
  | false => rw [if_neg fun c => by have := hq.2 c.1; cases this]; exact T_true rfl (T_ret rfl)
  | true =>
  have hp := hq.1 rfl
  have h6 := hp.2.2.1
  refine T_false rfl (T_ndec (fun hw => T_ndec (fun hn => ?_) fun hn => T_ret (by rw [if_neg fun c => hn c.2.2])) fun hw => T_ret (by rw [if_neg fun c => hw c.2.1]))
  rw [if_pos ⟨hp, hw, hn⟩]
  refine T_bindE (impl_leaseOf.ev pa pl ls fx who h2) ?_
  unfold leaseAt
  have hle := List.findIdx_le_length (p := impl_leaseOf_1.p who) (xs := ls)
  have hno := @idx_none ls who
  generalize ls.findIdx (impl_leaseOf_1.p who) = m at *
  by_cases hm : m < ls.length
  · rw [if_neg (by omega), dif_pos hm]
    simp only [Int.toNat_natCast]
    refine T_pos (by omega) (T_get hm (T_get hm (T_ret ?_)))
    rw [wr64 (by omega) (by omega)]
  · rw [if_pos (by omega), dif_neg hm]
    refine T_neg (by omega) (T_bindE (impl_addrFor.ev who hp) (T_dec (fun e => T_ret ?_) fun e => ?_))
    · rw [if_neg (by omega)]
    · rw [if_pos (by omega)]
      cases had : adrM pa pl ls fx who with
      | none => exact T_pos (by simp) (T_ret rfl)
      | some a =>
      obtain ⟨hfr, ha0⟩ := adr_free hp (hno hm) had
      refine T_neg (show ¬ a < 0 by omega) ?_
      have fin : ∀ i, i ≤ ls.length → (∀ j (h : j < ls.length), j < i → (ls[j]).1 < a) → (∀ h : i < ls.length, ¬ (ls[i]).1 < a) → Tells (FS F0) (fun x : Nat × Nat => (slices_Insert_impl_Lease_impl_Lease.f x.1 ls i [(a, who, (IntKind.i64.wrap (now + (20 : Int))))]).bind fun r10 => some (pa, pl, r10, fx, a, true)) (· = (pa, pl, grtO ls a who now, fx, a, true)) := by
        intro i hi h1 h2'
        obtain ⟨s1, s2⟩ := lse_split (lse_pair hp) hfr hi h1 h2'
        simp only [ins_lse _ _ _ _ hi h2, Option.bind_some]
        refine T_ret ?_
        rw [wr64 (by omega) (by omega)]
        unfold grtO
        rw [s1, s2]
      have h := T_loops (F := F0) (fun k j (_ : Unit) i => impl_Grant.l0 k j (who, now, a, (i : Int), ls, fx, 0, 0, pa, pl, [], [], ls, fx)) ls.length (fun i _ => ∀ j (h : j < ls.length), j < i → (ls[j]).1 < a) (fun _ _ r => r = (pa, pl, grtO ls a who now, fx, a, true)) (fun i s hi hj he => by
        dsimp only [impl_Grant.l0, impl_Grant.s0]
        simp only [Int.toNat_natCast]
        rw [wrs hi (by omega)]
        refine T_pos (by omega) (T_get hi (T_dec (fun e => he () fun j h h' => ?_) fun e => fin i (by omega) hj fun _ => e))
        by_cases e' : j = i
        · subst e'; exact e
        · exact hj j h (by omega)) (fun s hj => by
        dsimp only [impl_Grant.l0, impl_Grant.s0]
        exact T_neg (by omega) (fin ls.length (by omega) hj fun h => absurd h (by omega))) 0 () (Nat.zero_le _) (fun j _ h => absurd h (by omega))
      exact T_in (g := fun x j => impl_Grant.l0 x j _) (by simpa using h) (fun k => k) (fun _ _ h => h)
theorem find_lse (who : Int) {ls : List Lse} {i : Nat} (hi : i < ls.length) (h1 : (ls[i]).2.1 = who) (h0 : ∀ j (h : j < ls.length), j < i → (ls[j]).2.1 ≠ who) : ls.findIdx (impl_leaseOf_1.p who) = i := (List.findIdx_eq hi).2 ⟨by simp [impl_leaseOf_1.p, h1], fun j hj => by simpa [impl_leaseOf_1.p] using h0 j (by omega) hj⟩
theorem spec_Grant.ev (pa pl : Int) (ls : List Lse) (fx : List Fxd) (who now : Int) (h2 : ls.length ≤ 1048576) (h3 : fx.length ≤ 1048576) : Tells F0 (fun k => spec_Grant.f k pa pl ls fx who now) (· = grantM pa pl ls fx who now) := by
  unfold spec_Grant.f
  simp only [in_eq, Option.bind_some]
  refine T_bindE (spec_l11Copy.ev pa pl ls fx h2 h3) (T_bind (spec_PoolOk.ev pa pl ls fx h2 h3) fun q hq => ?_)
  dsimp only
  cases q with
  | false => exact T_true rfl (T_ret (by unfold grantM; rw [if_neg fun c => by have := hq.2 c.1; cases this]))
  | true =>
  have hp := hq.1 rfl
  have h6 := hp.2.2.1
  refine T_false rfl (T_ndec (fun hw => T_ndec (fun hn => ?_) fun hn => T_ret (by unfold grantM; rw [if_neg fun c => hn c.2.2])) fun hw => T_ret (by unfold grantM; rw [if_neg fun c => hw c.2.1]))
  have h := T_loops (F := F0) (fun k j (_ : Unit) i => spec_Grant.l0 k j (who, now, (i : Int), ls, fx, pa, pl, 0, 0, pa, pl, [], [], ls, fx)) ls.length (fun i _ => ∀ j (h : j < ls.length), j < i → (ls[j]).2.1 ≠ who) (fun _ _ r => r = grantM pa pl ls fx who now) (fun i s hi hj he => by
    dsimp only [spec_Grant.l0, spec_Grant.s0]
    simp only [Int.toNat_natCast]
    rw [wrs hi (by omega)]
    refine T_pos (by omega) (T_get hi (T_beq (fun e => T_get hi (T_got hi (T_ret ?_))) fun e => he () fun j h h' => ?_))
    · have hf := find_lse who hi e hj
      unfold grantM
      rw [if_pos ⟨hp, hw, hn⟩, dif_pos (by omega)]
      simp only [hf]
      rw [wr64 (by omega) (by omega)]
    · by_cases e' : j = i
      · subst e'; exact e
      · exact hj j h (by omega)) (fun s hj => by
    dsimp only [spec_Grant.l0, spec_Grant.s0]
    have hno : ∀ x ∈ ls, x.2.1 ≠ who := fun x hx => by
      obtain ⟨j, hj', rfl⟩ := List.getElem_of_mem hx
      exact hj j hj' hj'
    have hni : ¬ ls.findIdx (impl_leaseOf_1.p who) < ls.length := fun h => by
      have := List.findIdx_getElem (w := h)
      exact hno _ (List.getElem_mem h) (by simpa [impl_leaseOf_1.p] using this)
    unfold grantM
    rw [if_pos ⟨hp, hw, hn⟩, dif_neg hni]
    refine T_neg (by omega) (T_bindE (T_call (spec_l11Free.ev who hp) Prod.fst (fun _ _ h => h.1)) (T_beq (fun e => T_ret ?_) fun e => ?_))
    · rw [if_neg (by omega)]
    · rw [if_pos (by omega)]
      cases had : adrM pa pl ls fx who with
      | none => exact T_true (by simp) (T_ret rfl)
      | some a =>
      obtain ⟨hfr, ha0⟩ := adr_free hp hno had
      refine T_beq (fun c => by have c : a = 0 := c; omega) fun _ => ?_
      have h4 := T_loop (F := F0) (fun k j i => spec_Grant.l4 k j (a, (i : Int), ls, fx, pa, pl, 0, 0, pa, pl, [], [], ls, fx, ls.filter (lowr a) ++ [(a, who, now + 20)] ++ (ls.take i).filter (hghr a))) ls.length (fun _ r => r = (pa, pl, grtO ls a who now, fx, a, true)) (fun i hi he => by
        dsimp only [spec_Grant.l4, spec_Grant.s4]
        simp only [Int.toNat_natCast]
        rw [wrs hi (by omega)]
        rw [take_filter_succ _ _ _ hi] at he
        have g1 := filter_len_take (hghr a) ls i
        have g2 := List.length_filter_le (lowr a) ls
        refine T_pos (by omega) (T_get hi (T_dec (fun e => T_get hi (T_pos ?_ ?_)) fun e => ?_))
        · simp only [List.length_append, List.length_singleton]; omega
        · rw [if_pos (show hghr a ls[i] = true from decide_eq_true e), ← List.append_assoc] at he; exact he
        · rw [if_neg (by rw [show hghr a ls[i] = false from decide_eq_false e]; simp), List.append_nil] at he; exact he) (by
        dsimp only [spec_Grant.l4, spec_Grant.s4]
        exact T_neg (by omega) (T_ret (by rw [List.take_length]; rfl))) 0 (Nat.zero_le _)
      have h2l := T_loop (F := F0) (fun k j i => spec_Grant.l2 k j (who, now, a, (i : Int), ls, fx, pa, pl, 0, 0, pa, pl, [], [], ls, fx, (ls.take i).filter (lowr a))) ls.length (fun _ r => r = (pa, pl, grtO ls a who now, fx, a, true)) (fun i hi he => by
        dsimp only [spec_Grant.l2, spec_Grant.s2]
        simp only [Int.toNat_natCast]
        rw [wrs hi (by omega)]
        rw [take_filter_succ _ _ _ hi] at he
        have g1 := filter_len_take (lowr a) ls i
        refine T_pos (by omega) (T_get hi (T_dec (fun e => T_get hi (T_pos ?_ ?_)) fun e => ?_))
        · simp only [List.length_singleton]; omega
        · rw [if_pos (show lowr a ls[i] = true from decide_eq_true e)] at he; exact he
        · rw [if_neg (by rw [show lowr a ls[i] = false from decide_eq_false e]; simp), List.append_nil] at he; exact he) (by
        dsimp only [spec_Grant.l2, spec_Grant.s2]
        have g2 := List.length_filter_le (lowr a) ls
        rw [List.take_length, wr64 (x := now + 20) (by omega) (by omega)]
        refine T_neg (by omega) (T_pos (by simp only [List.length_singleton]; omega) ?_)
        exact T_call (T_in (g := fun x j => spec_Grant.l4 x j _) (by simpa using h4) (fun k => k) (fun _ _ h => h)) Prod.fst (fun _ _ h => h.1)) 0 (Nat.zero_le _)
      exact T_call (T_in (g := fun x j => spec_Grant.l2 x j _) (by simpa using h2l) (fun k => k) (fun _ _ h => h)) Prod.fst (fun _ _ h => h.1)) 0 () (Nat.zero_le _) (fun j _ h => absurd h (by omega))
  exact T_in (g := fun x j => spec_Grant.l0 x j _) (by simpa using h) (fun k => k) (fun _ _ h => h)

def CurOk (l : List Int) (i : Int) : Prop := 0 ≤ i ∧ i ≤ l.length ∧ l.length ≤ 1048576
theorem bits255 (x : BitVec IntKind.i64.bits) : 0 ≤ IntKind.i64.wrap ((x &&& BitVec.ofInt IntKind.i64.bits (255 : Int)).toNat : Int) ∧ IntKind.i64.wrap ((x &&& BitVec.ofInt IntKind.i64.bits (255 : Int)).toNat : Int) ≤ 255 := by
  have h : (x &&& BitVec.ofInt IntKind.i64.bits (255 : Int)).toNat ≤ 255 := by
    rw [BitVec.toNat_and]
    exact Nat.le_trans Nat.and_le_right (by decide)
  rw [wr64 (by omega) (by omega)]
  omega
theorem spec_l01Byte.ev (l : List Int) (i h : Int) (hc : CurOk l i) : Tells F0 (fun k => spec_l01Byte.f k l i h) (fun r => (0 ≤ r.1 ∧ r.1 ≤ 255) ∧ CurOk r.2.1 r.2.2.1) := by
  unfold spec_l01Byte.f
  obtain ⟨h0, h1, h2⟩ := hc
  obtain ⟨m, rfl⟩ := Int.eq_ofNat_of_zero_le h0
  refine T_dec (fun e => T_get (by omega) (T_ret ⟨bits255 _, ?_⟩)) fun e => T_ret ⟨bits255 _, h0, h1, h2⟩
  show CurOk l (IntKind.i64.wrap ((m : Int) + 1))
  rw [wr64 (by omega) (by omega)]
  exact ⟨by omega, by omega, h2⟩
theorem spec_l01Below.ev (l : List Int) (i h n : Int) (hc : CurOk l i) (hn : n ≤ 9223372036854775807) : Tells F0 (fun k => spec_l01Below.f k l i h n) (fun r => (0 ≤ r.1 ∧ (0 < n → r.1 < n) ∧ (n ≤ 0 → r.1 = 0)) ∧ CurOk r.2.1 r.2.2.1) := by
  unfold spec_l01Below.f
  refine T_dec (fun h1 => T_ret ⟨⟨Int.le_refl _, fun h => by omega, fun _ => rfl⟩, hc⟩) (fun h1 => T_dec (fun h2 => ?_) (fun h2 => ?_))
  · refine T_bind (spec_l01Byte.ev l i h hc) fun r hr => T_beq (fun e => by omega) fun _ => T_ret ⟨?_, hr.2⟩
    dsimp only
    rw [Int.tmod_eq_emod_of_nonneg hr.1.1]
    have a := Int.emod_nonneg r.1 (show n ≠ 0 by omega)
    have b := Int.emod_lt_of_pos r.1 (show 0 < n by omega)
    exact ⟨a, fun _ => b, fun h => by omega⟩
  · refine T_bind (spec_l01Byte.ev l i h hc) fun x hx => T_bind (spec_l01Byte.ev _ _ _ hx.2) fun y hy => T_bind (spec_l01Byte.ev _ _ _ hy.2) fun z hz => T_bind (spec_l01Byte.ev _ _ _ hz.2) fun w hw => T_beq (fun e => by omega) fun _ => T_ret ⟨?_, hw.2⟩
    dsimp only
    rw [wr64 (x := x.1 * 16777216) (by omega) (by omega), wr64 (x := y.1 * 65536) (by omega) (by omega), wr64 (x := z.1 * 256) (by omega) (by omega), wr64 (x := x.1 * 16777216 + y.1 * 65536) (by omega) (by omega), wr64 (x := x.1 * 16777216 + y.1 * 65536 + z.1 * 256) (by omega) (by omega), wr64 (x := x.1 * 16777216 + y.1 * 65536 + z.1 * 256 + w.1) (by omega) (by omega)]
    rw [Int.tmod_eq_emod_of_nonneg (by omega)]
    have a := Int.emod_nonneg (x.1 * 16777216 + y.1 * 65536 + z.1 * 256 + w.1) (show n ≠ 0 by omega)
    have b := Int.emod_lt_of_pos (x.1 * 16777216 + y.1 * 65536 + z.1 * 256 + w.1) (show 0 < n by omega)
    exact ⟨a, fun _ => b, fun h => by omega⟩
theorem spec_l01PickInt.ev (l : List Int) (i h : Int) (p : List Int) (hc : CurOk l i) (hp : 0 < p.length) (hp2 : p.length ≤ 1000) : Tells F0 (fun k => spec_l01PickInt.f k l i h p) (fun r => r.1 ∈ p ∧ CurOk r.2.1 r.2.2.1) := by
  unfold spec_l01PickInt.f
  refine T_bind (spec_l01Below.ev l i h _ hc (by omega)) fun r hr => ?_
  obtain ⟨r1, r2⟩ := r
  obtain ⟨⟨q0, q1, _⟩, q2⟩ := hr
  have q1 := q1 (by omega)
  dsimp only at q0 q1 q2 ⊢
  obtain ⟨m, rfl⟩ := Int.eq_ofNat_of_zero_le q0
  exact T_get (by omega) (T_ret ⟨List.getElem_mem _, q2⟩)
theorem spec_l01New.ev (l : List Int) (hn : l.length ≤ 1048576) : Tells F0 (fun k => spec_l01New.f k l) (fun r => r.1 = l ∧ CurOk r.1 r.2.1) := by
  unfold spec_l01New.f
  have h := T_loops (F := F0) (fun k j (s : Int) i => spec_l01New.l0 k j (s, (i : Int), l)) l.length (fun _ _ => True) (fun _ _ r => r.1 = l ∧ CurOk r.1 r.2.1) (fun i s hi _ he => by
    dsimp only [spec_l01New.l0, spec_l01New.s0]
    simp only [Int.toNat_natCast]
    rw [wrs hi (by omega)]
    exact T_pos (by omega) (T_dec (fun _ => T_get hi (he _ trivial)) fun _ => T_ret ⟨rfl, Int.le_refl _, by show (0 : Int) ≤ _; omega, hn⟩)) (fun s _ => by
    dsimp only [spec_l01New.l0, spec_l01New.s0]
    exact T_neg (by omega) (T_ret ⟨rfl, Int.le_refl _, by show (0 : Int) ≤ _; omega, hn⟩)) 0 (IntKind.i64.wrap ((36201 : Int) + (l.length : Int))) (Nat.zero_le _) trivial
  exact T_in (g := fun x j => spec_l01New.l0 x j _) (by simpa using h) (fun k => k) (fun _ _ h => h)
theorem laws_big.eq (k : Nat) (l : List Int) : laws_big.f k l = some (decide (l.length > 1048576)) := by
  unfold laws_big.f
  congr 1
  simp
  omega

theorem pfx_of (a n : Int) (h1 : 0 ≤ a ∧ a ≤ 4294967295) (h2 : 0 ≤ n ∧ n ≤ 32) : PfxP (a - a % 2 ^ (32 - n).toNat) n := by
  have hp := pow_rng (32 - n).toNat (by omega)
  have hm0 := Int.emod_nonneg a (show (2 : Int) ^ (32 - n).toNat ≠ 0 by omega)
  have hm1 := Int.emod_lt_of_pos a (show (0 : Int) < 2 ^ (32 - n).toNat by omega)
  have hd := Int.mul_ediv_add_emod a (2 ^ (32 - n).toNat)
  have e : a - a % 2 ^ (32 - n).toNat = 2 ^ (32 - n).toNat * (a / 2 ^ (32 - n).toNat) := by omega
  have hq := Int.mul_nonneg (show (0 : Int) ≤ 2 ^ (32 - n).toNat by omega) (Int.ediv_nonneg h1.1 (show (0 : Int) ≤ 2 ^ (32 - n).toNat by omega))
  exact ⟨by omega, h2, by rw [e]; exact Int.mul_emod_right _ _⟩
theorem spec_PrefixOf.ev (a n : Int) : Tells F0 (fun k => spec_PrefixOf.f k a n) (· = if (0 ≤ a ∧ a ≤ 4294967295) ∧ (0 ≤ n ∧ n ≤ 32) then (a - a % 2 ^ (32 - n).toNat, n, true) else (0, 0, false)) := by
  unfold spec_PrefixOf.f
  simp only [spec_AddrOk_eq, in_eq, Option.bind_some]
  refine T_ndec (fun h1 => T_ndec (fun h2 => ?_) (fun h2 => T_ret (by rw [if_neg (fun k => h2 k.2)]))) (fun h1 => T_ret (by rw [if_neg (fun k => h1 k.1)]))
  refine T_bindE (spec_l08Size.ev n h2.1 h2.2) ?_
  have hp := pow_rng (32 - n).toNat (by omega)
  refine T_beq (fun e => by omega) fun _ => T_ret ?_
  have hm0 := Int.emod_nonneg a (show (2 : Int) ^ (32 - n).toNat ≠ 0 by omega)
  have hm1 := Int.emod_lt_of_pos a (show (0 : Int) < 2 ^ (32 - n).toNat by omega)
  rw [if_pos ⟨h1, h2⟩, Int.tmod_eq_emod_of_nonneg h1.1, wr64 (by omega) (by omega)]

def LsOk (pa pl : Int) (fx : List Fxd) (ls : List Lse) : Prop := (∀ x ∈ ls, HostP pa pl x.1 ∧ (1 ≤ x.2.1 ∧ x.2.1 ≤ 99) ∧ (0 ≤ x.2.2 ∧ x.2.2 ≤ 1000000000) ∧ (fixFor fx x.1 = 0 ∨ fixFor fx x.1 = x.2.1)) ∧ (ls.Pairwise fun x y => x.1 < y.1) ∧ ls.Pairwise fun x y => x.2.1 ≠ y.2.1
theorem ls_of {pa pl : Int} {ls : List Lse} {fx : List Fxd} (h : PoolP pa pl ls fx) : LsOk pa pl fx ls := by
  have hC := h.2.2.2.2.2
  refine ⟨fun x hx => ?_, lse_pair h, ?_⟩
  · obtain ⟨i, hi, rfl⟩ := List.getElem_of_mem hx
    have := hC i hi hi
    exact ⟨this.1, this.2.1, this.2.2.1, this.2.2.2.2.1⟩
  · rw [List.pairwise_iff_getElem]
    intro i j hi hj hij
    exact (hC j hj hj).2.2.2.2.2 i hij
theorem ls_to {pa pl : Int} {ls : List Lse} {fx : List Fxd} (h : LsOk pa pl fx ls) : ∀ i, i < ls.length → LeaseC pa pl ls fx i := by
  intro i _ hi
  have h1 := h.1 _ (List.getElem_mem hi)
  exact ⟨h1.1, h1.2.1, h1.2.2.1, fun h0 => (List.pairwise_iff_getElem.1 h.2.1) (i - 1) i (by omega) hi (by omega), h1.2.2.2, fun m hm => (List.pairwise_iff_getElem.1 h.2.2) m i (by omega) hi hm⟩
theorem pool_ls {pa pl : Int} {ls ls' : List Lse} {fx : List Fxd} (h : PoolP pa pl ls fx) (hl : ls'.length ≤ 6) (h' : LsOk pa pl fx ls') : PoolP pa pl ls' fx := ⟨h.1, h.2.1, hl, h.2.2.2.1, h.2.2.2.2.1, ls_to h'⟩
theorem ls_filter {pa pl : Int} {ls : List Lse} {fx : List Fxd} (h : LsOk pa pl fx ls) (p : Lse → Bool) : LsOk pa pl fx (ls.filter p) := ⟨fun x hx => h.1 x (List.mem_filter.1 hx).1, h.2.1.filter _, h.2.2.filter _⟩
theorem pool_filter {pa pl : Int} {ls : List Lse} {fx : List Fxd} (h : PoolP pa pl ls fx) (p : Lse → Bool) : PoolP pa pl (ls.filter p) fx := pool_ls h (Nat.le_trans (List.length_filter_le _ _) h.2.2.1) (ls_filter (ls_of h) p)
theorem who_ne {pa pl : Int} {ls : List Lse} {fx : List Fxd} (h : LsOk pa pl fx ls) {x y : Lse} (hx : x ∈ ls) (hy : y ∈ ls) (hne : x.1 ≠ y.1) : x.2.1 ≠ y.2.1 := by
  obtain ⟨i, hi, rfl⟩ := List.getElem_of_mem hx
  obtain ⟨j, hj, rfl⟩ := List.getElem_of_mem hy
  rcases Nat.lt_trichotomy i j with k | k | k
  · exact (List.pairwise_iff_getElem.1 h.2.2) i j hi hj k
  · subst k; exact absurd rfl hne
  · exact ((List.pairwise_iff_getElem.1 h.2.2) j i hj hi k).symm
theorem adr_host {pa pl : Int} {ls : List Lse} {fx : List Fxd} {who a : Int} (hp : PoolP pa pl ls fx) (h : adrM pa pl ls fx who = some a) : HostP pa pl a ∧ (fixFor fx a = 0 ∨ fixFor fx a = who) := by
  obtain ⟨hP, hl, h2, h3, hF, hL⟩ := hp
  unfold adrM at h
  split at h
  · rename_i f hf
    cases h
    have hw : f.1 = who := by simpa using List.find?_some hf
    obtain ⟨i, hi, rfl⟩ := List.getElem_of_mem (List.mem_of_find?_eq_some hf)
    have hc := hF i hi hi
    exact ⟨hc.2.1, .inr (hc.2.2.2.trans hw)⟩
  · have hs := srch_some h
    have hsz := size_rng hl
    simp only [isFree, Bool.and_eq_true, decide_eq_true_eq] at hs
    refine ⟨?_, .inl hs.1.2⟩
    have hh := host_iff hP hl (a - pa - 1).toNat (by omega)
    rw [show pa + 1 + ((a - pa - 1).toNat : Int) = a by omega] at hh
    exact hh.2 (by omega)
theorem grant_ok {pa pl : Int} {ls : List Lse} {fx : List Fxd} (who now : Int) (h : PoolP pa pl ls fx) : PoolP pa pl (grantM pa pl ls fx who now).2.2.1 fx := by
  unfold grantM
  split
  · rename_i hc
    have hL := ls_of h
    have hno := @idx_none ls who
    have hfnd : ∀ hm : ls.findIdx (impl_leaseOf_1.p who) < ls.length, True := fun _ => trivial
    generalize ls.findIdx (impl_leaseOf_1.p who) = m at *
    split
    · rename_i hm
      refine pool_ls h (by simpa using h.2.2.1) ⟨fun x hx => ?_, ?_, ?_⟩
      · rcases List.mem_or_eq_of_mem_set hx with hx | hx
        · exact hL.1 x hx
        · have := hL.1 _ (List.getElem_mem hm)
          rw [hx]
          exact ⟨this.1, this.2.1, by dsimp only; omega, this.2.2.2⟩
      · rw [List.pairwise_iff_getElem]
        intro i j hi hj hij
        have := (List.pairwise_iff_getElem.1 hL.2.1) i j (by simpa using hi) (by simpa using hj) hij
        simp only [List.getElem_set]
        split <;> split <;> rename_i a1 a2 <;> (try subst a1) <;> (try subst a2) <;> exact this
      · rw [List.pairwise_iff_getElem]
        intro i j hi hj hij
        have := (List.pairwise_iff_getElem.1 hL.2.2) i j (by simpa using hi) (by simpa using hj) hij
        simp only [List.getElem_set]
        split <;> split <;> rename_i a1 a2 <;> (try subst a1) <;> (try subst a2) <;> exact this
    · rename_i hm
      split
      · rename_i h6
        split
        · rename_i a had
          obtain ⟨hfr, ha0⟩ := adr_free h (hno hm) had
          obtain ⟨hh, hf⟩ := adr_host h had
          have hnw := hno hm
          refine pool_ls h (by have := grt_len ls a who now; dsimp only; omega) ⟨fun x hx => ?_, ?_, ?_⟩
          · unfold grtO at hx
            simp only [List.mem_append, List.mem_singleton, List.mem_filter] at hx
            rcases hx with (hx | hx) | hx
            · exact hL.1 x hx.1
            · rw [hx]; exact ⟨hh, hc.2.1, by dsimp only; omega, hf⟩
            · exact hL.1 x hx.1
          · unfold grtO
            rw [List.append_assoc, List.pairwise_append]
            refine ⟨hL.2.1.filter _, ?_, fun x hx y hy => ?_⟩
            · rw [List.singleton_append, List.pairwise_cons]
              exact ⟨fun y hy => of_decide_eq_true (List.mem_filter.1 hy).2, hL.2.1.filter _⟩
            · have a1 : x.1 < a := of_decide_eq_true (List.mem_filter.1 hx).2
              rw [List.singleton_append, List.mem_cons] at hy
              rcases hy with rfl | hy
              · exact a1
              · have a2 : y.1 > a := of_decide_eq_true (List.mem_filter.1 hy).2
                omega
          · unfold grtO
            rw [List.append_assoc, List.pairwise_append]
            refine ⟨hL.2.2.filter _, ?_, fun x hx y hy => ?_⟩
            · rw [List.singleton_append, List.pairwise_cons]
              exact ⟨fun y hy => (hnw y (List.mem_filter.1 hy).1).symm, hL.2.2.filter _⟩
            · have a1 : x.1 < a := of_decide_eq_true (List.mem_filter.1 hx).2
              rw [List.singleton_append, List.mem_cons] at hy
              rcases hy with rfl | hy
              · exact hnw x (List.mem_filter.1 hx).1
              · have a2 : y.1 > a := of_decide_eq_true (List.mem_filter.1 hy).2
                exact who_ne hL (List.mem_filter.1 hx).1 (List.mem_filter.1 hy).1 (by omega)
        · exact h
      · exact h
  · exact h
theorem grant_net (pa pl : Int) (ls : List Lse) (fx : List Fxd) (who now : Int) : (grantM pa pl ls fx who now).1 = pa ∧ (grantM pa pl ls fx who now).2.1 = pl := by
  unfold grantM
  split
  · split
    · exact ⟨rfl, rfl⟩
    · split
      · split <;> exact ⟨rfl, rfl⟩
      · exact ⟨rfl, rfl⟩
  · exact ⟨rfl, rfl⟩
def other (who : Int) (x : Lse) : Bool := x.2.1 != who
open Classical in
noncomputable def releaseM (pa pl : Int) (ls : List Lse) (fx : List Fxd) (who : Int) : Int × Int × List Lse × List Fxd × Bool := if PoolP pa pl ls fx ∧ (ls.filter (other who)).length ≠ ls.length then (pa, pl, ls.filter (other who), fx, true) else (pa, pl, ls, fx, false)
theorem spec_Release.ev (pa pl : Int) (ls : List Lse) (fx : List Fxd) (who : Int) (h2 : ls.length ≤ 1048576) (h3 : fx.length ≤ 1048576) : Tells F0 (fun k => spec_Release.f k pa pl ls fx who) (· = releaseM pa pl ls fx who) := by
  unfold spec_Release.f
  refine T_bindE (spec_l11Copy.ev pa pl ls fx h2 h3) ?_
  have h := T_loop (F := F0) (fun k j i => spec_Release.l0 k j (who, (i : Int), ls, fx, pa, pl, 0, 0, pa, pl, [], [], ls, fx, (ls.take i).filter (other who))) ls.length (fun _ r => r = releaseM pa pl ls fx who) (fun i hi he => by
    dsimp only [spec_Release.l0, spec_Release.s0]
    simp only [Int.toNat_natCast]
    rw [wrs hi (by omega)]
    rw [take_filter_succ _ _ _ hi] at he
    have g1 := filter_len_take (other who) ls i
    refine T_pos (by omega) (T_get hi (T_bif (fun e => T_get hi (T_pos ?_ ?_)) fun e => ?_))
    · simp only [List.length_singleton]; omega
    · rw [if_pos (show other who ls[i] = true from e)] at he; exact he
    · rw [if_neg (by rw [show other who ls[i] = false from e]; simp), List.append_nil] at he; exact he) (by
    dsimp only [spec_Release.l0, spec_Release.s0]
    rw [List.take_length]
    refine T_neg (by omega) (T_bind (T_call (spec_PoolOk.ev pa pl ls fx h2 h3) Prod.fst (fun _ _ h => h.1)) fun q hq => ?_)
    unfold releaseM
    cases q with
    | false => rw [if_neg fun c => by have := hq.2 c.1; cases this]; exact T_true rfl (T_ret rfl)
    | true =>
      refine T_false rfl (T_beq (fun e => T_ret ?_) fun e => T_ret ?_)
      · rw [if_neg fun c => c.2 (by omega)]
      · rw [if_pos ⟨hq.1 rfl, by omega⟩]) 0 (Nat.zero_le _)
  exact T_in (g := fun x j => spec_Release.l0 x j _) (by simpa using h) (fun k => k) (fun _ _ h => h)
theorem release_ok {pa pl : Int} {ls : List Lse} {fx : List Fxd} (who : Int) (h : PoolP pa pl ls fx) : PoolP pa pl (releaseM pa pl ls fx who).2.2.1 fx := by
  unfold releaseM
  split
  · exact pool_filter h _
  · exact h
theorem release_net (pa pl : Int) (ls : List Lse) (fx : List Fxd) (who : Int) : (releaseM pa pl ls fx who).1 = pa ∧ (releaseM pa pl ls fx who).2.1 = pl ∧ (releaseM pa pl ls fx who).2.2.2.1 = fx := by
  unfold releaseM
  split <;> exact ⟨rfl, rfl, rfl⟩
def FxsOk (pa pl : Int) (fx : List Fxd) (j : Nat) : Prop := fx.length ≤ j ∧ (∀ i, i < fx.length → FixC pa pl fx i) ∧ ∀ x ∈ fx, x.1 ≤ 3 * j
theorem fixFor_app {fx : List Fxd} {f : Fxd} (hp : ∀ x ∈ fx, 1 ≤ x.1) (h0 : fixFor fx f.2 = 0) : (∀ x ∈ fx, fixFor (fx ++ [f]) x.2 = fixFor fx x.2) ∧ fixFor (fx ++ [f]) f.2 = f.1 := by
  have hn : fx.find? (fun x => x.2 == f.2) = none := by
    cases hh : fx.find? (fun x => x.2 == f.2) with
    | none => rfl
    | some y =>
      have : fixFor fx f.2 = y.1 := by unfold fixFor; rw [hh]
      have := hp y (List.mem_of_find?_eq_some hh)
      omega
  refine ⟨fun x hx => ?_, ?_⟩
  · unfold fixFor
    rw [List.find?_append]
    cases hh : fx.find? (fun y => y.2 == x.2) with
    | none => exact absurd (List.find?_eq_none.1 hh x hx) (by simp)
    | some y => rfl
  · unfold fixFor
    rw [List.find?_append, hn]
    simp
theorem fxs_app {pa pl : Int} {fx : List Fxd} {j : Nat} {f : Fxd} (h : FxsOk pa pl fx j) (hj : j ≤ 3) (h1 : 3 * (j : Int) + 1 ≤ f.1 ∧ f.1 ≤ 3 * j + 3) (h2 : HostP pa pl f.2) (h0 : fixFor fx f.2 = 0) : FxsOk pa pl (fx ++ [f]) (j + 1) := by
  obtain ⟨a1, a2, a3⟩ := h
  have hp : ∀ x ∈ fx, 1 ≤ x.1 := fun x hx => by
    obtain ⟨i, hi, rfl⟩ := List.getElem_of_mem hx
    exact (a2 i hi hi).1.1
  obtain ⟨k1, k2⟩ := fixFor_app hp h0
  refine ⟨by simp; omega, fun i hi hi' => ?_, fun x hx => ?_⟩
  · by_cases e : i < fx.length
    · have hc := a2 i e e
      simp only [List.getElem_append_left e]
      refine ⟨hc.1, hc.2.1, fun h => ?_, (k1 _ (List.getElem_mem e)).trans hc.2.2.2⟩
      have hh : i - 1 < fx.length := by omega
      rw [List.getElem_append_left hh]
      exact hc.2.2.1 h
    · have ei : i = fx.length := by simp at hi'; omega
      subst ei
      simp only [List.getElem_append_right (Nat.le_refl _), Nat.sub_self, List.getElem_singleton]
      refine ⟨by omega, h2, fun h => ?_, k2⟩
      have hh : fx.length - 1 < fx.length := by omega
      rw [List.getElem_append_left hh]
      have := a3 _ (List.getElem_mem hh)
      omega
  · rcases List.mem_append.1 hx with hx | hx
    · have := a3 x hx
      omega
    · rw [List.mem_singleton] at hx
      rw [hx]
      omega
theorem fxs_le {pa pl : Int} {fx : List Fxd} {j : Nat} (h : FxsOk pa pl fx j) : FxsOk pa pl fx (j + 1) := ⟨by have := h.1; omega, h.2.1, fun x hx => by have := h.2.2 x hx; omega⟩
theorem spec_l01Once.ev (l : List Int) (i h n : Int) (hc : CurOk l i) (hn : n ≤ 9223372036854775807) : Tells F0 (fun k => spec_l01Once.f k l i h n) (fun r => CurOk r.2.1 r.2.2.1) := by
  unfold spec_l01Once.f
  exact T_bind (spec_l01Below.ev l i h n hc hn) fun r hr => T_ret hr.2
theorem spec_l11Pool.ev (l : List Int) (i h : Int) (hc : CurOk l i) : Tells F0 (fun k => spec_l11Pool.f k l i h) (fun r => PoolP r.1 r.2.1 r.2.2.1 r.2.2.2.1 ∧ CurOk r.2.2.2.2.1 r.2.2.2.2.2.1) := by
  unfold spec_l11Pool.f
  refine T_bind (spec_l01PickInt.ev l i h _ hc (by simp) (by simp)) fun y hy => ?_
  have hyr : 24 ≤ y.1 ∧ y.1 ≤ 30 := by
    have := hy.1
    simp at this
    omega
  refine T_bindE (spec_PrefixOf.ev _ _) ?_
  rw [if_pos ⟨by omega, by omega⟩]
  have hP := pfx_of 167772160 y.1 (by omega) (by omega)
  dsimp only
  obtain ⟨pl, cl, ci, ch⟩ := y
  dsimp only at hyr hP hy ⊢
  have hC := hy.2
  clear hy
  generalize (167772160 : Int) - 167772160 % 2 ^ ((32 : Int) - pl).toNat = pa at hP
  have hpa := hP.1
  have second : ∀ (fx : List Fxd) (cl : List Int) (ci ch : Int), FxsOk pa pl fx 3 → CurOk cl ci → Tells F0 (fun k => spec_l11Pool.l2 k k ((0 : Int), ci, ch, l, (0 : Int), (0 : Int), pa, pl, [], [], [], fx, cl)) (fun r => PoolP r.1 r.2.1 r.2.2.1 r.2.2.2.1 ∧ CurOk r.2.2.2.2.1 r.2.2.2.2.2.1) := by
    intro fx cl ci ch hF hC
    have hh := T_loops (F := F0) (fun k j (s : List Lse × List Int × Int × Int) i => spec_l11Pool.l2 k j ((i : Int), s.2.2.1, s.2.2.2, l, (0 : Int), (0 : Int), pa, pl, [], [], s.1, fx, s.2.1)) 9 (fun _ s => PoolP pa pl s.1 fx ∧ CurOk s.2.1 s.2.2.1) (fun _ _ r => PoolP r.1 r.2.1 r.2.2.1 r.2.2.2.1 ∧ CurOk r.2.2.2.2.1 r.2.2.2.2.2.1) (fun j s hj hs he => by
      obtain ⟨ls, cl, ci, ch⟩ := s
      obtain ⟨hp, hC⟩ := hs
      dsimp only at hp hC
      have h6 := hp.2.2.1
      have h4 := hp.2.2.2.1
      dsimp only [spec_l11Pool.l2, spec_l11Pool.s2]
      rw [wrs hj (by omega)]
      refine T_bind (T_call (spec_l01Below.ev cl ci ch 9 hC (by omega)) Prod.fst (fun _ _ h => h.1)) fun x hx => T_dec (fun _ => ?_) fun _ => T_ret ⟨hp, hx.2⟩
      refine T_bind (T_call (spec_l01Once.ev _ _ _ 4 hx.2 (by omega)) Prod.fst (fun _ _ h => h.1)) fun o ho => T_bif (fun _ => ?_) fun _ => ?_
      · refine T_bind (T_call (spec_l01Below.ev _ _ _ 8 ho (by omega)) Prod.fst (fun _ _ h => h.1)) fun z hz => T_bindE (T_call (spec_Release.ev pa pl ls fx _ (by omega) (by omega)) Prod.fst (fun _ _ h => h.1)) ?_
        obtain ⟨n1, n2, n3⟩ := release_net pa pl ls fx (IntKind.i64.wrap (1 + z.1))
        rw [n1, n2, n3]
        exact he (_, _, _, _) ⟨release_ok _ hp, hz.2⟩
      · refine T_bind (T_call (spec_l01Below.ev _ _ _ 8 ho (by omega)) Prod.fst (fun _ _ h => h.1)) fun z hz => T_bind (T_call (spec_l01Below.ev _ _ _ 30 hz.2 (by omega)) Prod.fst (fun _ _ h => h.1)) fun w hw => T_bindE (T_call (spec_Grant.ev pa pl ls fx _ _ (by omega) (by omega)) Prod.fst (fun _ _ h => h.1)) ?_
        obtain ⟨n1, n2⟩ := grant_net pa pl ls fx (IntKind.i64.wrap (1 + z.1)) w.1
        rw [n1, n2, grant_fix]
        exact he (_, _, _, _) ⟨grant_ok _ _ hp, hw.2⟩) (fun s hs => by
      obtain ⟨ls, cl, ci, ch⟩ := s
      obtain ⟨hp, hC⟩ := hs
      dsimp only at hp hC
      dsimp only [spec_l11Pool.l2, spec_l11Pool.s2]
      refine T_bind (T_call (spec_l01Below.ev cl ci ch 9 hC (by omega)) Prod.fst (fun _ _ h => h.1)) fun x hx => T_neg ?_ (T_ret ⟨hp, hx.2⟩)
      have := hx.1.2.1 (by omega)
      omega) 0 ([], cl, ci, ch) (Nat.zero_le _) ⟨⟨hP, hyr, by simp, by have := hF.1; omega, hF.2.1, fun i hi => absurd hi (by simp)⟩, hC⟩
    exact T_in (g := fun x j => spec_l11Pool.l2 x j _) (by simpa using hh) (fun k => k) (fun _ _ h => h)
  have hh := T_loops (F := F0) (fun k j (s : List Fxd × List Int × Int × Int) i => spec_l11Pool.l0 k j ((i : Int), s.2.2.1, s.2.2.2, l, (0 : Int), (0 : Int), pa, pl, pa, pl, [], [], [], s.1, s.2.1)) 3 (fun j s => FxsOk pa pl s.1 j ∧ CurOk s.2.1 s.2.2.1) (fun _ _ r => PoolP r.1 r.2.1 r.2.2.1 r.2.2.2.1 ∧ CurOk r.2.2.2.2.1 r.2.2.2.2.2.1) (fun j s hj hs he => by
    obtain ⟨fx, cl, ci, ch⟩ := s
    obtain ⟨hF, hC⟩ := hs
    dsimp only at hF hC
    have hfl := hF.1
    dsimp only [spec_l11Pool.l0, spec_l11Pool.s0]
    rw [wrs hj (by omega)]
    refine T_bind (T_call (spec_l01Below.ev cl ci ch 3 hC (by omega)) Prod.fst (fun _ _ h => h.1)) fun x hx => T_dec (fun _ => ?_) fun _ => T_call (second fx _ _ _ ⟨by omega, hF.2.1, fun y hy => by have := hF.2.2 y hy; omega⟩ hx.2) Prod.fst (fun _ _ h => h.1)
    refine T_bind (T_call (spec_l01Below.ev _ _ _ 3 hx.2 (by omega)) Prod.fst (fun _ _ h => h.1)) fun z hz => T_bind (T_call (spec_l01Below.ev _ _ _ 5 hz.2 (by omega)) Prod.fst (fun _ _ h => h.1)) fun w hw => ?_
    have z1 := hz.1.1
    have z2 := hz.1.2.1 (by omega)
    have w1 := hw.1.1
    have w2 := hw.1.2.1 (by omega)
    rw [wr64 (x := pa + 1) (by omega) (by omega), wr64 (x := pa + 1 + w.1) (by omega) (by omega), wr64 (x := 3 * (j : Int)) (by omega) (by omega), wr64 (x := 3 * (j : Int) + 1) (by omega) (by omega), wr64 (x := 3 * (j : Int) + 1 + z.1) (by omega) (by omega)]
    refine T_bindE (T_call (spec_l11Inside.ev pa pl [] fx _) Prod.fst (fun _ _ h => h.1)) (T_dec (fun q1 => T_bindE (T_call (spec_l11FixedFor.ev pa pl [] fx _ (by omega)) Prod.fst (fun _ _ h => h.1)) (T_beq (fun q2 => T_pos (by simp only [List.length_singleton]; omega) (he (_, _, _, _) ⟨?_, hw.2⟩)) fun _ => he (fx, _, _, _) ⟨fxs_le hF, hw.2⟩)) fun _ => he (fx, _, _, _) ⟨fxs_le hF, hw.2⟩)
    exact fxs_app hF (by omega) (by dsimp only; omega) q1 q2) (fun s hs => by
    obtain ⟨fx, cl, ci, ch⟩ := s
    obtain ⟨hF, hC⟩ := hs
    dsimp only at hF hC
    dsimp only [spec_l11Pool.l0, spec_l11Pool.s0]
    refine T_bind (T_call (spec_l01Below.ev cl ci ch 3 hC (by omega)) Prod.fst (fun _ _ h => h.1)) fun x hx => T_neg ?_ (T_call (second fx _ _ _ hF hx.2) Prod.fst (fun _ _ h => h.1))
    have := hx.1.2.1 (by omega)
    omega) 0 ([], cl, ci, ch) (Nat.zero_le _) ⟨⟨by simp, fun i hi => absurd hi (by simp), by simp⟩, hC⟩
  exact T_in (g := fun x j => spec_l11Pool.l0 x j _) (by simpa using hh) (fun k => k) (fun _ _ h => h)
theorem spec_DrawPool.ev (l : List Int) (hn : l.length ≤ 1048576) : Tells F0 (fun k => spec_DrawPool.f k l) (fun r => PoolP r.1 r.2.1 r.2.2.1 r.2.2.2) := by
  unfold spec_DrawPool.f
  exact T_bind (spec_l01New.ev l hn) fun c hc => T_bind (spec_l11Pool.ev _ _ _ hc.2) fun x hx => T_ret hx.1
theorem spec_DrawPlaces.ev (l : List Int) (hn : l.length ≤ 1048576) : Tells F0 (fun k => spec_DrawPlaces.f k l) (fun r => 0 < r.length ∧ ∀ x ∈ r, 0 ≤ x ∧ x ≤ 10000) := by
  unfold spec_DrawPlaces.f
  refine T_bind (spec_l01New.ev l hn) fun c hc => T_bind (spec_l01Byte.ev _ _ _ hc.2) fun b hb => ?_
  have hh := T_loops (F := F0) (fun k j (s : List Int × List Int × Int × Int) i => spec_DrawPlaces.l0 k j ((i : Int), l, s.2.2.1, s.2.2.2, s.2.1, s.1)) 12 (fun j s => s.1.length = j ∧ (∀ x ∈ s.1, 0 ≤ x ∧ x ≤ 10000) ∧ CurOk s.2.1 s.2.2.1) (fun _ _ r => 0 < r.length ∧ ∀ x ∈ r, 0 ≤ x ∧ x ≤ 10000) (fun j s hj hs he => by
    obtain ⟨rs, cl, ci, ch⟩ := s
    obtain ⟨hL, hA, hC⟩ := hs
    dsimp only at hL hA hC
    dsimp only [spec_DrawPlaces.l0, spec_DrawPlaces.s0]
    rw [wrs hj (by omega)]
    refine T_pos (by omega) (T_bind (T_call (spec_l01Below.ev cl ci ch 10000 hC (by omega)) Prod.fst (fun _ _ h => h.1)) fun x hx => T_pos (by simp only [List.length_singleton]; omega) (he (_, _, _, _) ⟨by simp only [List.length_append, List.length_singleton]; omega, fun y hy => ?_, hx.2⟩))
    rcases List.mem_append.1 hy with hy | hy
    · exact hA y hy
    · rw [List.mem_singleton] at hy
      have := hx.1.1
      have := hx.1.2.1 (by omega)
      omega) (fun s hs => by
    obtain ⟨rs, cl, ci, ch⟩ := s
    obtain ⟨hL, hA, hC⟩ := hs
    dsimp only at hL hA hC
    dsimp only [spec_DrawPlaces.l0, spec_DrawPlaces.s0]
    exact T_neg (by omega) (T_ret ⟨by omega, hA⟩)) 0 ([], b.2.1, b.2.2.1, b.2.2.2) (Nat.zero_le _) ⟨rfl, by simp, hb.2⟩
  exact T_in (g := fun x j => spec_DrawPlaces.l0 x j _) (by simpa using hh) (fun k => k) (fun _ _ h => h)

theorem laws_samePool.ev (pa pl : Int) (ls : List Lse) (fx : List Fxd) (hn : ls.length ≤ 1048576) : Tells F0 (fun k => laws_samePool.f k pa pl ls fx pa pl ls fx) (· = true) := by
  have h := T_loop (F := F0) (fun k j i => laws_samePool.l0 k j ((i : Int), ls, fx, ls, fx, pa, pl, pa, pl)) ls.length (fun _ r => r = true) (fun i hi he => by
    dsimp only [laws_samePool.l0, laws_samePool.s0]
    simp only [Int.toNat_natCast]
    rw [wrs hi (by omega)]
    exact T_pos (by omega) (T_get hi (T_get hi (T_false (by simp) he)))) (by
    dsimp only [laws_samePool.l0, laws_samePool.s0]
    exact T_neg (by omega) (T_ret rfl)) 0 (Nat.zero_le _)
  unfold laws_samePool.f
  exact T_false (by simp) (T_false (by simp) (T_false (by simp) (T_in (g := fun x j => laws_samePool.l0 x j _) (by simpa using h) (fun k => k) (fun _ _ h => h))))
theorem holder_of {ls : List Lse} (hp : ls.Pairwise fun x y => x.1 < y.1) {x : Lse} (hx : x ∈ ls) : holder ls x.1 = x.2.1 := by
  unfold holder
  cases hh : ls.find? (fun y => y.1 == x.1) with
  | none => exact absurd (List.find?_eq_none.1 hh x hx) (by simp)
  | some y =>
    have h1 : y.1 = x.1 := by simpa using List.find?_some hh
    have h2 := List.mem_of_find?_eq_some hh
    obtain ⟨i, hi, rfl⟩ := List.getElem_of_mem hx
    obtain ⟨j, hj, rfl⟩ := List.getElem_of_mem h2
    rcases Nat.lt_trichotomy i j with k | k | k
    · have := (List.pairwise_iff_getElem.1 hp) i j hi hj k; omega
    · subst k; rfl
    · have := (List.pairwise_iff_getElem.1 hp) j i hj hi k; omega
theorem holder_none {ls : List Lse} {a : Int} (h : ∀ x ∈ ls, x.1 ≠ a) : holder ls a = 0 := by
  unfold holder
  rw [List.find?_eq_none.2 fun x hx => by simpa using h x hx]
theorem addr_inj {ls : List Lse} (hp : ls.Pairwise fun x y => x.1 < y.1) {x y : Lse} (hx : x ∈ ls) (hy : y ∈ ls) (h : x.1 = y.1) : x = y := by
  obtain ⟨i, hi, rfl⟩ := List.getElem_of_mem hx
  obtain ⟨j, hj, rfl⟩ := List.getElem_of_mem hy
  rcases Nat.lt_trichotomy i j with k | k | k
  · have := (List.pairwise_iff_getElem.1 hp) i j hi hj k; omega
  · subst k; rfl
  · have := (List.pairwise_iff_getElem.1 hp) j i hj hi k; omega
theorem who_inj {ls : List Lse} (hp : ls.Pairwise fun x y => x.2.1 ≠ y.2.1) {x y : Lse} (hx : x ∈ ls) (hy : y ∈ ls) (h : x.2.1 = y.2.1) : x = y := by
  obtain ⟨i, hi, rfl⟩ := List.getElem_of_mem hx
  obtain ⟨j, hj, rfl⟩ := List.getElem_of_mem hy
  rcases Nat.lt_trichotomy i j with k | k | k
  · exact absurd h ((List.pairwise_iff_getElem.1 hp) i j hi hj k)
  · subst k; rfl
  · exact absurd h.symm ((List.pairwise_iff_getElem.1 hp) j i hj hi k)
theorem filter_both {α : Type} (p : α → Bool) (l : List α) : (l.filter p).length + (l.filter fun x => !p x).length = l.length := by
  induction l with
  | nil => rfl
  | cons x r ih =>
    simp only [List.filter_cons]
    cases p x <;> simp <;> omega

theorem del_lse (k : Nat) (F : List Lse) (i : Nat) (hi : i < F.length) (hl : F.length ≤ 1048576) : slices_Delete_impl_Lease_impl_Lease.f k F i ((i + 1 : Nat) : Int) = some (F.take i ++ F.drop (i + 1)) := by
  unfold slices_Delete_impl_Lease_impl_Lease.f
  rw [if_pos ⟨⟨by omega, by omega⟩, by omega, by omega⟩, Int.toNat_natCast, Int.toNat_natCast]
theorem del_split {pa pl : Int} {ls : List Lse} {fx : List Fxd} {who : Int} {i : Nat} (h : LsOk pa pl fx ls) (hi : i < ls.length) (hw : (ls[i]).2.1 = who) : ls.filter (other who) = ls.take i ++ ls.drop (i + 1) := by
  have hx : ls = ls.take i ++ (ls[i] :: ls.drop (i + 1)) := by rw [List.getElem_cons_drop, List.take_append_drop]
  have e : ls.filter (other who) = (ls.take i).filter (other who) ++ ([ls[i]].filter (other who) ++ (ls.drop (i + 1)).filter (other who)) := by
    rw [← List.filter_append, ← List.filter_append, List.singleton_append, ← hx]
  have k1 : ∀ x ∈ ls.take i, other who x = true := by
    intro x hx
    obtain ⟨j, hj, rfl⟩ := List.mem_take_iff_getElem.1 hx
    have := (List.pairwise_iff_getElem.1 h.2.2) j i (by omega) hi (by omega)
    unfold other
    simp only [bne_iff_ne, ne_eq]
    intro c
    exact this (c.trans hw.symm)
  have k2 : ∀ x ∈ ls.drop (i + 1), other who x = true := by
    intro x hx
    obtain ⟨j, hj, rfl⟩ := List.mem_drop_iff_getElem.1 hx
    have := (List.pairwise_iff_getElem.1 h.2.2) i (i + 1 + j) hi (by omega) (by omega)
    unfold other
    simp only [bne_iff_ne, ne_eq]
    intro c
    exact this (hw.trans c.symm)
  rw [e, List.filter_eq_self.2 k1, List.filter_eq_self.2 k2]
  have : [ls[i]].filter (other who) = [] := by simp [other, hw]
  rw [this, List.nil_append]
theorem impl_Release.ev (pa pl : Int) (ls : List Lse) (fx : List Fxd) (who : Int) (h2 : ls.length ≤ 1048576) (h3 : fx.length ≤ 1048576) : Tells F0 (fun k => impl_Release.f k pa pl ls fx who) (· = releaseM pa pl ls fx who) := by
  unfold impl_Release.f
  refine T_bindE (impl_copyPool.ev pa pl ls fx h2 h3) (T_bindE (impl_leaseOf.ev pa pl ls fx who h2) (T_bind (impl_PoolOk.ev pa pl ls fx h2 h3) fun q hq => ?_))
  dsimp only
  unfold releaseM
  cases q with
  | false => rw [if_neg fun c => by have := hq.2 c.1; cases this]; exact T_true rfl (T_ret rfl)
  | true =>
  have hp := hq.1 rfl
  have hL := ls_of hp
  refine T_false rfl ?_
  unfold leaseAt
  have hle := List.findIdx_le_length (p := impl_leaseOf_1.p who) (xs := ls)
  have hno := @idx_none ls who
  by_cases hm : ls.findIdx (impl_leaseOf_1.p who) < ls.length
  · have hw : (ls[ls.findIdx (impl_leaseOf_1.p who)]).2.1 = who := by
      have := List.findIdx_getElem (w := hm)
      simpa [impl_leaseOf_1.p] using this
    generalize ls.findIdx (impl_leaseOf_1.p who) = m at *
    have hs := del_split hL hm hw
    have hlen : (ls.filter (other who)).length + 1 = ls.length := by
      rw [hs]
      simp only [List.length_append, List.length_take, List.length_drop]
      omega
    rw [if_neg (by omega), if_pos ⟨hp, by omega⟩, wrn (by omega), hs]
    refine T_neg (by omega) ?_
    simp only [del_lse _ _ _ hm h2, Option.bind_some]
    exact T_ret rfl
  · have hnw := hno hm
    have hs : ls.filter (other who) = ls := List.filter_eq_self.2 fun x hx => by
      unfold other
      simpa using hnw x hx
    rw [if_pos (by omega), if_neg fun c => c.2 (by rw [hs])]
    exact T_pos (by omega) (T_ret rfl)
theorem release_len (pa pl : Int) (ls : List Lse) (fx : List Fxd) (who : Int) (h : ls.length ≤ 1048576) : (releaseM pa pl ls fx who).2.2.1.length ≤ 1048576 := by
  unfold releaseM
  split
  · exact Nat.le_trans (List.length_filter_le _ _) h
  · exact h

theorem grant_spec {pa pl : Int} {ls : List Lse} {fx : List Fxd} {who now : Int} (hp : PoolP pa pl ls fx) : ((grantM pa pl ls fx who now).2.2.2.2.2 = true → (HostP pa pl (grantM pa pl ls fx who now).2.2.2.2.1 ∧ ∃ x ∈ (grantM pa pl ls fx who now).2.2.1, x.1 = (grantM pa pl ls fx who now).2.2.2.2.1 ∧ x.2.1 = who) ∧ ∀ y ∈ ls, y.2.1 ≠ who → y ∈ (grantM pa pl ls fx who now).2.2.1) ∧ ((grantM pa pl ls fx who now).2.2.2.2.2 = false → (grantM pa pl ls fx who now).2.2.1 = ls) := by
  unfold grantM
  split
  · rename_i hc
    have hL := ls_of hp
    have hno := @idx_none ls who
    have hyes : ∀ h : ls.findIdx (impl_leaseOf_1.p who) < ls.length, (ls[ls.findIdx (impl_leaseOf_1.p who)]).2.1 = who := fun h => by
      have := List.findIdx_getElem (w := h)
      simpa [impl_leaseOf_1.p] using this
    generalize ls.findIdx (impl_leaseOf_1.p who) = m at *
    split
    · rename_i hm
      have hw := hyes hm
      refine ⟨fun _ => ⟨⟨(hL.1 _ (List.getElem_mem hm)).1, _, List.mem_iff_getElem.2 ⟨m, by simpa using hm, List.getElem_set_self _⟩, rfl, hw⟩, fun y hy hne => ?_⟩, fun h => by cases h⟩
      obtain ⟨j, hj, rfl⟩ := List.getElem_of_mem hy
      have hjm : m ≠ j := fun e => by subst e; exact hne hw
      exact List.mem_iff_getElem.2 ⟨j, by simpa using hj, by rw [List.getElem_set_ne hjm]⟩
    · rename_i hm
      split
      · split
        · rename_i a had
          obtain ⟨hfr, ha0⟩ := adr_free hp (hno hm) had
          obtain ⟨hh, hf⟩ := adr_host hp had
          refine ⟨fun _ => ⟨⟨hh, (a, who, now + 20), by unfold grtO; simp, rfl, rfl⟩, fun y hy _ => ?_⟩, fun h => by cases h⟩
          have := hfr y hy
          unfold grtO lowr hghr
          simp only [List.mem_append, List.mem_filter, List.mem_singleton, decide_eq_true_eq]
          rcases Int.lt_or_gt_of_ne this with h | h
          · exact .inl (.inl ⟨hy, h⟩)
          · exact .inr ⟨hy, h⟩
        · exact ⟨fun h => (by cases h), fun _ => rfl⟩
      · exact ⟨fun h => (by cases h), fun _ => rfl⟩
  · exact ⟨fun h => (by cases h), fun _ => rfl⟩
theorem grant_again {pa pl : Int} {ls : List Lse} {fx : List Fxd} {who now : Int} (hp : PoolP pa pl ls fx) (hw : 1 ≤ who ∧ who ≤ 99) (hn : 0 ≤ now ∧ now ≤ 999999980) {x : Lse} (hx : x ∈ ls) (hxw : x.2.1 = who) : (grantM pa pl ls fx who now).2.2.2.2 = (x.1, true) := by
  have hm : ls.findIdx (impl_leaseOf_1.p who) < ls.length := List.findIdx_lt_length_of_exists ⟨x, hx, by simp [impl_leaseOf_1.p, hxw]⟩
  have h1 : (ls[ls.findIdx (impl_leaseOf_1.p who)]).2.1 = who := by
    have := List.findIdx_getElem (w := hm)
    simpa [impl_leaseOf_1.p] using this
  have h2 := who_inj (ls_of hp).2.2 (List.getElem_mem hm) hx (h1.trans hxw.symm)
  unfold grantM
  rw [if_pos ⟨hp, hw, hn⟩, dif_pos hm]
  simp only [h2]
theorem FnGrants : laws_FnGrants.Goal := by
  rintro l ⟨hl, _, _⟩
  refine Tells.rounds ?_
  unfold laws_FnGrants.f
  simp only [laws_big.eq, Option.bind_some]
  refine T_dec (fun _ => T_ret rfl) fun hbig => ?_
  have hn : l.length ≤ 1048576 := by omega
  refine T_bind (spec_DrawPool.ev l hn) fun d hd => T_bind (spec_DrawPlaces.ev l hn) fun q hq => ?_
  obtain ⟨pa, pl, ls, fx⟩ := d
  dsimp only at hd ⊢
  obtain ⟨hq0, hqa⟩ := hq
  have h6 := hd.2.2.1
  have h4 := hd.2.2.2.1
  refine T_true (by simp; omega) ?_
  have e0 : q[0]? = some q[0] := List.getElem?_eq_getElem hq0
  simp only [e0, Option.bind_some]
  have hqr := hqa _ (List.getElem_mem hq0)
  have hwr : (0 : Int) ≤ q[0].tmod (9 : Int) ∧ q[0].tmod (9 : Int) < 9 := by
    rw [Int.tmod_eq_emod_of_nonneg hqr.1]
    omega
  rw [wr64 (x := (1 : Int) + q[0].tmod (9 : Int)) (by omega) (by omega)]
  have hwho : 1 ≤ (1 : Int) + q[0].tmod (9 : Int) ∧ (1 : Int) + q[0].tmod (9 : Int) ≤ 99 := by omega
  generalize (1 : Int) + q[0].tmod (9 : Int) = who at hwho
  clear hwr
  refine T_bindE (impl_Grant.ev pa pl ls fx who 50 (by omega) (by omega)) (T_bindE (spec_Grant.ev pa pl ls fx who 50 (by omega) (by omega)) ?_)
  have hg := grant_ok who 50 hd
  have hs := @grant_spec pa pl ls fx who 50 hd
  obtain ⟨n1, n2⟩ := grant_net pa pl ls fx who 50
  have n3 := grant_fix pa pl ls fx who 50
  generalize grantM pa pl ls fx who 50 = G at *
  obtain ⟨g1, g2, L1, g3, addr, ok⟩ := G
  dsimp only at hg hs n1 n2 n3 ⊢
  subst n1; subst n2; subst n3
  have h61 := hg.2.2.1
  have hL := ls_of hd
  have hL1 := ls_of hg
  refine T_false (by simp) (T_false (by simp) (T_bindE (laws_samePool.ev g1 g2 L1 g3 (by omega)) (T_false rfl (T_bind (impl_PoolOk.ev g1 g2 ls g3 (by omega) (by omega)) fun r1 hr1 => ?_))))
  rw [hr1.2 hd]
  refine T_false rfl (T_bind (impl_PoolOk.ev g1 g2 L1 g3 (by omega) (by omega)) fun r2 hr2 => ?_)
  rw [hr2.2 hg]
  refine T_false rfl ?_
  cases ok with
  | false =>
    have hs2 := hs.2 rfl
    rw [hs2]
    exact T_true rfl (T_bindE (laws_samePool.ev g1 g2 ls g3 (by omega)) (T_ret rfl))
  | true =>
  obtain ⟨⟨hhost, x, hx, hx1, hx2⟩, hkeep⟩ := hs.1 rfl
  refine T_false rfl (T_bindE (impl_Grant.ev g1 g2 L1 g3 who 60 (by omega) (by omega)) ?_)
  have hc := grant_ok who 60 hg
  have hag := grant_again hg hwho (now := 60) (by omega) hx hx2
  have hcs := (@grant_spec g1 g2 L1 g3 who 60 hg).1 (by rw [hag])
  obtain ⟨m1, m2⟩ := grant_net g1 g2 L1 g3 who 60
  have m3 := grant_fix g1 g2 L1 g3 who 60
  generalize grantM g1 g2 L1 g3 who 60 = C at *
  obtain ⟨c1, c2, L2, c3, caddr, cok⟩ := C
  dsimp only at hc hcs m1 m2 m3 hag ⊢
  subst m1; subst m2; subst m3
  obtain ⟨rfl, rfl⟩ : caddr = x.1 ∧ cok = true := by
    injection hag with a b
    exact ⟨a, b⟩
  have hx1' := hx1
  subst hx1'
  obtain ⟨⟨_, y, hy, hy1, hy2⟩, _⟩ := hcs
  have h62 := hc.2.2.1
  have hL2 := ls_of hc
  refine T_bindE (impl_Release.ev c1 c2 L2 c3 who (by omega) (by omega)) ?_
  have hdd := release_ok who hc
  have hlen : (L2.filter (other who)).length ≠ L2.length := fun h => by
    have := List.length_filter_eq_length_iff.1 h y hy
    simp [other, hy2] at this
  have hrel : releaseM c1 c2 L2 c3 who = (c1, c2, L2.filter (other who), c3, true) := by unfold releaseM; rw [if_pos ⟨hc, hlen⟩]
  rw [hrel] at hdd ⊢
  dsimp only at hdd ⊢
  have h63 := hdd.2.2.1
  have hh2 : holder L2 x.1 = who := by rw [← hy1, holder_of hL2.2.1 hy, hy2]
  have hh3 : holder (L2.filter (other who)) x.1 = 0 := holder_none fun z hz e => by
    have hz' := List.mem_filter.1 hz
    have := addr_inj hL2.2.1 hz'.1 hy (e.trans hy1.symm)
    subst this
    have := hz'.2
    simp [other, hy2] at this
  have h0 := T_loop (F := F0) (fun k j i => laws_FnGrants.l0 k j (who, x.1, x.1, true, true, (i : Int), l, c1, c2, c1, c2, c1, c2, c1, c2, ls, c3, L1, c3, L2, c3, L2.filter (other who), c3)) ls.length (fun _ r => r = true) (fun i hi he => by
    dsimp only [laws_FnGrants.l0, laws_FnGrants.s0]
    simp only [Int.toNat_natCast]
    rw [wrs hi (by omega)]
    refine T_pos (by omega) (T_get hi (T_bne (fun e => T_get hi (T_bindE (T_call (impl_HolderOf.ev c1 c2 L1 c3 _ (by omega)) Prod.fst (fun _ _ h => h.1)) (T_get hi (T_false ?_ he)))) fun _ => he))
    rw [holder_of hL1.2.1 (hkeep _ (List.getElem_mem hi) e)]
    simp) (by
    dsimp only [laws_FnGrants.l0, laws_FnGrants.s0]
    refine T_neg (by omega) (T_true rfl (T_true (by simp) (T_bindE (T_call (impl_HolderOf.ev c1 c2 L2 c3 _ (by omega)) Prod.fst (fun _ _ h => h.1)) (T_true (by rw [hh2]; simp) (T_true rfl (T_bindE (T_call (impl_HolderOf.ev c1 c2 (L2.filter (other who)) c3 _ (by omega)) Prod.fst (fun _ _ h => h.1)) (T_true (by rw [hh3]; simp) (T_bind (T_call (impl_PoolOk.ev c1 c2 (L2.filter (other who)) c3 (by omega) (by omega)) Prod.fst (fun _ _ h => h.1)) fun r hr => ?_))))))))
    rw [hr.2 hdd]
    exact T_true rfl (T_bindE (T_call (spec_InPrefix.ev _ _ _) Prod.fst (fun _ _ h => h.1)) (T_ret (decide_eq_true hhost.1)))) 0 (Nat.zero_le _)
  exact T_in (g := fun x j => laws_FnGrants.l0 x j _) (by simpa using h0) (fun k => k) (fun _ _ h => h)

end Go.Proofs.Ytfaeklomiofpdaa.DI.Pure
