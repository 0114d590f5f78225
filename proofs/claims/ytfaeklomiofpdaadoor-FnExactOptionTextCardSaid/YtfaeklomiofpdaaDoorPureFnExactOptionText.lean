/- FnExactOptionText, the plain part: from some fuel on the law answers true. -/
import Derived.Test.YtfaeklomiofpdaaDoorGoalFnExactOptionText
import Derived.Test.YtfaeklomiofpdaaDoorKITE
namespace Go.Proofs.YtfaeklomiofpdaaDoor.DI.Pure
open Go Go.RowKit
set_option linter.unusedVariables false
set_option linter.unusedSimpArgs false
theorem laws_szStringS.ev (l : List (ByteArray)) (a : Int) (h0 : 0 ≤ a) (h1 : a ≤ 1048576) (hl : l.length ≤ maxLen) (hs : ∀ x ∈ l, ByteArray.size x ≤ 140737488351232) : Tells F0 (fun k => laws_szStringS.f k l a) (fun v => v < 0 ∨ (0 ≤ v ∧ v ≤ a ∧ l.length ≤ 1048576 ∧ ∀ j (h : j < l.length), ByteArray.size (l[j]) ≤ 1048576)) := by
  unfold maxLen at hl
  unfold laws_szStringS.f
  rw [wr64 (x := a - (l.length : Int)) (by omega) (by omega)]
  refine T_dec (fun _ => T_ret (.inl (by omega))) (fun h => ?_)
  have key := T_loops (F := F0) (fun k j (v : Int) i => laws_szStringS.l0 k j (v, (i : Int), l)) l.length (fun i v => 0 ≤ v ∧ v ≤ a - l.length ∧ ∀ j (h : j < l.length), j < i → ByteArray.size (l[j]) ≤ 1048576) (fun _ _ r => r < 0 ∨ (0 ≤ r ∧ r ≤ a ∧ l.length ≤ 1048576 ∧ ∀ j (h : j < l.length), ByteArray.size (l[j]) ≤ 1048576)) (fun i v hi hv he => by
    dsimp only [laws_szStringS.l0, laws_szStringS.s0]
    refine T_pos (by omega) (T_at hi ?_)
    have hx := hs _ (List.getElem_mem hi)
    rw [wrs hi (by omega), wr64 (x := v - ((l[i]).size : Int)) (by omega) (by omega)]
    exact T_dec (fun _ => T_ret (.inl (by omega))) (fun h => he _ ⟨by omega, by omega, fun j hj hji => by
      by_cases e : j = i
      · subst e; omega
      · exact hv.2.2 j hj (by omega)⟩)) (fun v hv => by
    dsimp only [laws_szStringS.l0, laws_szStringS.s0]
    exact T_neg (by omega) (T_ret (.inr ⟨hv.1, by omega, by omega, fun j hj => hv.2.2 j hj hj⟩))) 0 (a - l.length) (Nat.zero_le _) ⟨by omega, by omega, fun j _ hj => absurd hj (by omega)⟩
  exact T_in (g := fun x j => laws_szStringS.l0 x j _) key (fun k => k) (fun _ _ h => h)
theorem laws_szOptions.ev (c0 : Int) (c1 : List (ByteArray)) (c2 : Bool) (a : Int) (h1 : c1.length ≤ maxLen) (g1 : ∀ x ∈ c1, ByteArray.size x ≤ 140737488351232) (hA : 0 ≤ a) (hB : a ≤ 1048576) : Tells F0 (fun k => laws_szOptions.f k c0 c1 c2 a) (fun v => v < 0 ∨ (0 ≤ v ∧ v ≤ a ∧ c1.length ≤ 1048576 ∧ (∀ j (h : j < c1.length), ByteArray.size (c1[j]) ≤ 1048576))) := by
  unfold laws_szOptions.f
  refine T_bind (laws_szStringS.ev c1 _ (by omega) (by omega) h1 g1) fun v0 q0 => T_dec (fun h => T_ret (.inl (by omega))) fun e0 => ?_
  replace q0 := q0.resolve_left (by omega)
  exact T_ret (.inr ⟨by omega, by omega, by omega, q0.2.2.2⟩)
theorem laws_toStringS.ev (l : List (ByteArray)) (hn : l.length ≤ 1048576) : Tells F0 (fun k => laws_toStringS.f k l) (· = l) := by
  have h := T_loop (F := F0) (fun k j i => laws_toStringS.l0 k j ((i : Int), l, l.take i ++ List.replicate (l.length - i) ByteArray.empty)) l.length (fun _ r => r = l) (fun i hi he => by
    dsimp only [laws_toStringS.l0, laws_toStringS.s0]
    simp only [Int.toNat_natCast, Option.bind_some]
    refine T_pos (by omega) (T_get hi (T_get (by simp; omega) ?_))
    rw [wrs hi (by omega)]
    have e := set_copy l ByteArray.empty i hi
    refine T_eq (fun x => congrArg (fun q => laws_toStringS.l0 x.1 x.2 (((i + 1 : Nat) : Int), l, q)) e) he) (by
    dsimp only [laws_toStringS.l0, laws_toStringS.s0]
    exact T_neg (by omega) (T_ret (by simp))) 0 (Nat.zero_le _)
  unfold laws_toStringS.f
  refine T_and (by omega) (by omega) (T_in (g := fun x j => laws_toStringS.l0 x j _) ?_ (fun k => k) (fun _ _ h => h))
  simpa using h
theorem laws_toOptions.ev (c0 : Int) (c1 : List (ByteArray)) (c2 : Bool) (h1 : c1.length ≤ 1048576) : Tells F0 (fun k => laws_toOptions.f k c0 c1 c2) (· = (c0, c1, c2)) := by
  unfold laws_toOptions.f
  refine T_bindE (laws_toStringS.ev _ h1) ?_
  exact T_ret rfl
theorem laws_eqStringS.ev (l : List (ByteArray)) (hn : l.length ≤ 1000000000000000000) : Tells F0 (fun k => laws_eqStringS.f k l l) (· = true) := by
  have h := T_loop (F := F0) (fun k j i => laws_eqStringS.l0 k j ((i : Int), l, l)) l.length (fun _ r => r = true) (fun i hi he => by
    dsimp only [laws_eqStringS.l0, laws_eqStringS.s0]
    simp only [Int.toNat_natCast]
    refine T_pos (by omega) (T_get hi (T_get hi ?_))
    refine T_same (by simp) ?_
    rw [wrs hi (by omega)]
    exact he) (by
    dsimp only [laws_eqStringS.l0, laws_eqStringS.s0]
    exact T_neg (by omega) (T_ret rfl)) 0 (Nat.zero_le _)
  unfold laws_eqStringS.f
  exact T_same (by simp) (T_in (g := fun x j => laws_eqStringS.l0 x j _) h (fun k => k) (fun _ _ h => h))
theorem laws_eqOptions.ev (c0 : Int) (c1 : List (ByteArray)) (c2 : Bool) (h1 : c1.length ≤ 1000000000000000000) : Tells F0 (fun k => laws_eqOptions.f k c0 c1 c2 c0 c1 c2) (· = true) := by
  unfold laws_eqOptions.f
  refine T_same (by simp) ?_
  refine T_bindE (laws_eqStringS.ev _ h1) ?_
  refine T_same rfl ?_
  refine T_same (by simp) ?_
  exact T_ret rfl
theorem in_eq (k : Nat) (n a b : Int) : spec_l01In.f k n a b = some (decide (a ≤ n ∧ n ≤ b)) := by
  unfold spec_l01In.f
  by_cases h : n ≥ a <;> by_cases h' : n ≤ b <;> simp [h, h'] <;> omega
theorem within_eq (k : Nat) (n a b : Int) : impl_within.f k n a b = some (decide (a ≤ n ∧ n ≤ b)) := by
  unfold impl_within.f
  by_cases h : n ≥ a <;> by_cases h' : n ≤ b <;> simp [h, h'] <;> omega

def wayC (b : UInt8) : Bool := decide (97 ≤ b.toNat ∧ b.toNat ≤ 122) || decide (48 ≤ b.toNat ∧ b.toNat ≤ 57)
def wayB (s : ByteArray) : Bool := s.data.toList.all wayC && decide (1 ≤ s.size ∧ s.size ≤ 8)
theorem byte_get (s : ByteArray) (i : Nat) (h : i < s.data.toList.length) : s.data.toList[i] = s[i]'(by rw [Array.length_toList] at h; exact h) := by rw [Array.getElem_toList]; rfl
theorem wrb (b : UInt8) : IntKind.i64.wrap (b.toNat : Int) = (b.toNat : Int) := by have := b.toNat_lt; exact wr64 (by omega) (by omega)
theorem spec_l15Way.ev (s : ByteArray) (h : s.size ≤ 140737488351232) : Tells F0 (fun k => spec_l15Way.f k s) (· = wayB s) := by
  have hl : s.data.toList.length = s.size := by rw [Array.length_toList]; rfl
  have hh := T_alls (F := F0) (fun k j i => spec_l15Way.l0 k j (s, (i : Int))) s.data.toList wayC (decide (1 ≤ s.size ∧ s.size ≤ 8)) (fun i hi P go bad => by
    have hi' : i < s.size := by omega
    rw [byte_get] at go bad
    dsimp only [spec_l15Way.l0, spec_l15Way.s0]
    simp only [Int.toNat_natCast]
    rw [wrs hi (by omega)]
    have y : (97 ≤ s[i].toNat ∧ s[i].toNat ≤ 122) ∨ (48 ≤ s[i].toNat ∧ s[i].toNat ≤ 57) → wayC s[i] = true := fun h => by simp only [wayC, Bool.or_eq_true, decide_eq_true_eq]; exact h
    have n : ¬ ((97 ≤ s[i].toNat ∧ s[i].toNat ≤ 122) ∨ (48 ≤ s[i].toNat ∧ s[i].toNat ≤ 57)) → wayC s[i] = false := fun h => by
      cases e : wayC s[i] with
      | false => rfl
      | true => simp only [wayC, Bool.or_eq_true, decide_eq_true_eq] at e; exact absurd e h
    refine T_pos (by omega) (T_byte hi' (T_dec (fun a => T_byte hi' (T_dec (fun b => T_ret (bad (n (by omega)))) fun b => T_byte hi' (T_dec (fun c => T_ret (bad (n (by omega)))) fun c => go (y (by omega))))) fun a => T_byte hi' (T_dec (fun b => T_byte hi' (T_dec (fun c => T_ret (bad (n (by omega)))) fun c => T_byte hi' (T_dec (fun d => T_ret (bad (n (by omega)))) fun d => go (y (by omega))))) fun b => go (y (by omega)))))) (by
    dsimp only [spec_l15Way.l0, spec_l15Way.s0]
    simp only [in_eq, Option.bind_some]
    refine T_neg (by omega) (T_ret ?_)
    rw [decide_eq_decide]; omega)
  unfold spec_l15Way.f
  exact T_in (g := fun x j => spec_l15Way.l0 x j _) hh (fun k => k) (fun _ _ h => h)
theorem impl_wayOk.ev (s : ByteArray) (h : s.size ≤ 140737488351232) : Tells F0 (fun k => impl_wayOk.f k s) (· = wayB s) := by
  have hl : s.data.toList.length = s.size := by rw [Array.length_toList]; rfl
  have hh := T_alls (F := F0) (fun k j i => impl_wayOk.l0 k j (s, (i : Int))) s.data.toList wayC (decide (1 ≤ s.size ∧ s.size ≤ 8)) (fun i hi P go bad => by
    have hi' : i < s.size := by omega
    rw [byte_get] at go bad
    dsimp only [impl_wayOk.l0, impl_wayOk.s0]
    simp only [Int.toNat_natCast, within_eq, Option.bind_some, wrb]
    rw [wrs hi (by omega)]
    have y : (97 ≤ s[i].toNat ∧ s[i].toNat ≤ 122) ∨ (48 ≤ s[i].toNat ∧ s[i].toNat ≤ 57) → wayC s[i] = true := fun h => by simp only [wayC, Bool.or_eq_true, decide_eq_true_eq]; exact h
    have n : ¬ ((97 ≤ s[i].toNat ∧ s[i].toNat ≤ 122) ∨ (48 ≤ s[i].toNat ∧ s[i].toNat ≤ 57)) → wayC s[i] = false := fun h => by
      cases e : wayC s[i] with
      | false => rfl
      | true => simp only [wayC, Bool.or_eq_true, decide_eq_true_eq] at e; exact absurd e h
    refine T_pos (by omega) (T_byte hi' (T_ndec (fun a => go (y (by omega))) fun a => T_byte hi' (T_ndec (fun b => go (y (by omega))) fun b => T_ret (bad (n (by omega))))))) (by
    dsimp only [impl_wayOk.l0, impl_wayOk.s0]
    simp only [within_eq, Option.bind_some]
    refine T_neg (by omega) (T_ret ?_)
    rw [decide_eq_decide]; omega)
  unfold impl_wayOk.f
  exact T_in (g := fun x j => impl_wayOk.l0 x j _) hh (fun k => k) (fun _ _ h => h)
theorem spec_l15Has.ev (l : List ByteArray) (x : ByteArray) (h : l.length ≤ 1048576) : Tells F0 (fun k => spec_l15Has.f k l x) (fun r => r = true ↔ x ∈ l) := by
  have hh := T_loop (F := F0) (fun k j i => spec_l15Has.l0 k j (x, (i : Int), l)) l.length (fun i r => r = true ↔ x ∈ l.drop i) (fun i hi he => by
    rw [List.drop_eq_getElem_cons hi, List.mem_cons]
    dsimp only [spec_l15Has.l0, spec_l15Has.s0]
    simp only [Int.toNat_natCast, beq_bytes_iff]
    rw [wrs hi (by omega)]
    refine T_pos (by omega) (T_get hi (T_dec (fun e => T_ret (yes_iff (.inl e.symm))) fun e => T_mono he fun r hr => hr.trans ⟨.inr, fun h => h.resolve_left fun k => e k.symm⟩))) (by
    dsimp only [spec_l15Has.l0, spec_l15Has.s0]
    exact T_neg (by omega) (T_ret (no_iff (by simp)))) 0 (Nat.zero_le _)
  unfold spec_l15Has.f
  exact T_in (g := fun x j => spec_l15Has.l0 x j _) (by simpa using hh) (fun k => k) (fun _ _ h => h)
theorem slices_Index_string_string.ev (l : List ByteArray) (x : ByteArray) (h : l.length ≤ 1048576) : Tells F0 (fun k => slices_Index_string_string.f k l x) (fun r => r ≥ 0 ↔ x ∈ l) := by
  have hh := T_loop (F := F0) (fun k j i => slices_Index_string_string.l0 k j (x, (l.length : Int), (i : Int), l)) l.length (fun i r => r ≥ 0 ↔ x ∈ l.drop i) (fun i hi he => by
    rw [List.drop_eq_getElem_cons hi, List.mem_cons]
    dsimp only [slices_Index_string_string.l0, slices_Index_string_string.s0]
    simp only [Int.toNat_natCast, beq_bytes_iff]
    rw [wrs hi (by omega)]
    refine T_pos (by omega) (T_get hi (T_dec (fun e => T_ret ⟨fun _ => .inl e, fun _ => by omega⟩) fun e => T_mono he fun r hr => hr.trans ⟨.inr, fun h => h.resolve_left e⟩))) (by
    dsimp only [slices_Index_string_string.l0, slices_Index_string_string.s0]
    exact T_neg (by omega) (T_ret (by simp))) 0 (Nat.zero_le _)
  unfold slices_Index_string_string.f
  exact T_in (g := fun x j => slices_Index_string_string.l0 x j _) (by simpa using hh) (fun k => k) (fun _ _ h => h)
theorem slices_Contains_string_string.ev (l : List ByteArray) (x : ByteArray) (h : l.length ≤ 1048576) : Tells F0 (fun k => slices_Contains_string_string.f k l x) (fun r => r = true ↔ x ∈ l) := by
  unfold slices_Contains_string_string.f
  refine T_bind (slices_Index_string_string.ev l x h) fun r hr => T_ret ?_
  rw [decide_eq_true_eq]
  exact hr
def OptC (ws : List ByteArray) (i : Nat) : Prop := ∀ h : i < ws.length, wayB ws[i] = true ∧ ws[i] ∉ ws.take i
def OptP (sz : Int) (ws : List ByteArray) : Prop := (∀ i, i < ws.length → OptC ws i) ∧ ((20 ≤ sz ∧ sz ≤ 60) ∧ 1 ≤ ws.length ∧ ws.length ≤ 4)
theorem spec_OptionsOk.ev (sz : Int) (ws : List ByteArray) (pc : Bool) (h : ws.length ≤ 1048576) (hs : ∀ j (h : j < ws.length), ByteArray.size ws[j] ≤ 1048576) : Tells F0 (fun k => spec_OptionsOk.f k sz ws pc) (fun r => r = true ↔ OptP sz ws) := by
  have hh := T_body (F := F0) (fun k j i => spec_OptionsOk.l0 k j ((i : Int), ws, sz, pc)) ws.length (OptC ws) ((20 ≤ sz ∧ sz ≤ 60) ∧ 1 ≤ ws.length ∧ ws.length ≤ 4) (fun i hi P go bad => by
    dsimp only [spec_OptionsOk.l0, spec_OptionsOk.s0]
    simp only [Int.toNat_natCast]
    rw [wrs hi (by omega)]
    have := hs i hi
    refine T_pos (by omega) (T_get hi (T_bindE (T_call (spec_l15Way.ev _ (by omega)) Prod.fst (fun _ _ h => h.1)) ?_))
    cases e : wayB ws[i] with
    | false => exact T_true rfl (T_ret (bad fun c => by have := (c hi).1; rw [e] at this; cases this))
    | true =>
      refine T_false rfl (T_and (by omega) (by omega) (T_get hi (T_bind (T_call (spec_l15Has.ev (ws.take i) ws[i] (by simp; omega)) Prod.fst (fun _ _ h => h.1)) fun r hr => ?_)))
      cases r with
      | true => exact T_true rfl (T_ret (bad fun c => (c hi).2 (hr.1 rfl)))
      | false => exact T_false rfl (go fun _ => ⟨e, fun c => by have := hr.2 c; cases this⟩)) (by
    dsimp only [spec_OptionsOk.l0, spec_OptionsOk.s0]
    simp only [in_eq, Option.bind_some]
    refine T_neg (by omega) (T_dec (fun a => T_ret ?_) fun a => T_ret (no_iff fun c => a c.1))
    rw [decide_eq_true_eq]; omega)
  unfold spec_OptionsOk.f
  exact T_in (g := fun x j => spec_OptionsOk.l0 x j _) hh (fun k => k) (fun _ _ h => h)
theorem impl_OptionsOk.ev (sz : Int) (ws : List ByteArray) (pc : Bool) (h : ws.length ≤ 1048576) (hs : ∀ j (h : j < ws.length), ByteArray.size ws[j] ≤ 1048576) : Tells F0 (fun k => impl_OptionsOk.f k sz ws pc) (fun r => r = true ↔ OptP sz ws) := by
  have hh := T_body (F := F0) (fun k j i => impl_OptionsOk.l0 k j ((ws.length : Int), (i : Int), ws, sz, pc)) ws.length (OptC ws) ((20 ≤ sz ∧ sz ≤ 60) ∧ 1 ≤ ws.length ∧ ws.length ≤ 4) (fun i hi P go bad => by
    dsimp only [impl_OptionsOk.l0, impl_OptionsOk.s0]
    simp only [Int.toNat_natCast]
    rw [wrs hi (by omega)]
    have := hs i hi
    refine T_pos (by omega) (T_get hi (T_bindE (T_call (impl_wayOk.ev _ (by omega)) Prod.fst (fun _ _ h => h.1)) ?_))
    cases e : wayB ws[i] with
    | false => exact T_true rfl (T_ret (bad fun c => by have := (c hi).1; rw [e] at this; cases this))
    | true =>
      refine T_false rfl (T_and (by omega) (by omega) (T_bind (T_call (slices_Contains_string_string.ev (ws.take i) ws[i] (by simp; omega)) Prod.fst (fun _ _ h => h.1)) fun r hr => ?_))
      cases r with
      | true => exact T_true rfl (T_ret (bad fun c => (c hi).2 (hr.1 rfl)))
      | false => exact T_false rfl (go fun _ => ⟨e, fun c => by have := hr.2 c; cases this⟩)) (by
    dsimp only [impl_OptionsOk.l0, impl_OptionsOk.s0]
    simp only [within_eq, Option.bind_some]
    refine T_neg (by omega) (T_dec (fun a => T_ret ?_) fun a => T_ret (no_iff fun c => a c.1))
    rw [decide_eq_true_eq]; omega)
  unfold impl_OptionsOk.f
  exact T_in (g := fun x j => impl_OptionsOk.l0 x j _) hh (fun k => k) (fun _ _ h => h)

/-! Decimal texts. -/
def dig (d : Nat) : ByteArray := ⟨#[UInt8.ofNat (48 + d)]⟩
def decB (n : Nat) : ByteArray := ⟨(Lib.decDigits n).toArray⟩
theorem decB_small {n : Nat} (h : n < 10) : decB n = dig n := by unfold decB dig; rw [Lib.decDigits, dif_pos h]
theorem decB_big {n : Nat} (h : ¬ n < 10) : decB n = decB (n / 10) ++ dig (n % 10) := by
  apply ByteArray.ext
  unfold decB dig
  rw [Lib.decDigits, dif_neg h]
  simp
def decR (n : Nat) (s : ByteArray) : ByteArray := if n = 0 then s else decB n ++ s
theorem decR_step {n : Nat} (h : 0 < n) (s : ByteArray) : decR (n / 10) (dig (n % 10) ++ s) = decR n s := by
  unfold decR
  rw [if_neg (show n ≠ 0 by omega)]
  by_cases h1 : n < 10
  · rw [if_pos (by omega), decB_small h1, show n % 10 = n by omega]
  · rw [if_neg (by omega), decB_big h1, ByteArray.append_assoc]
theorem figure_eq (k : Nat) {d : Nat} (h : d < 10) : spec_l01Figure.f k (d : Int) = some ((48 + d : Nat) : Int) := by
  unfold spec_l01Figure.f
  rw [decide_eq_true (by omega), cond_true, wr64 (by omega) (by omega)]
  have e : IntKind.u8.wrap ((48 : Int) + (d : Int)) = if (false && decide (((48 : Int) + (d : Int)) % 256 ≥ 128)) = true then ((48 : Int) + (d : Int)) % 256 - 256 else ((48 : Int) + (d : Int)) % 256 := by kernel_rfl
  rw [e]
  simp only [Bool.false_and, Bool.false_eq_true, if_false]
  congr 1
  omega
theorem dig_str (d : Nat) : strOfNums [((48 + d : Nat) : Int)] = dig d := rfl
theorem dig_size (d : Nat) : (dig d).size = 1 := rfl
theorem spec_decL.ev : ∀ (m n : Nat) (s : ByteArray), n < 10 ^ m → s.size + m ≤ 1000 → n ≤ 9223372036854775807 → Tells (FS F0) (fun x => spec_Decimal.l0 x.1 x.2 ((n : Int), false, s)) (· = decR n s) := by
  intro m
  induction m with
  | zero =>
    intro n s hn hs h63
    obtain rfl : n = 0 := by simpa using hn
    refine T_step (g := fun x j => spec_Decimal.l0 x j (((0 : Nat) : Int), false, s)) ?_
    dsimp only [spec_Decimal.l0, spec_Decimal.s0]
    exact T_false rfl (T_false rfl (T_ret rfl))
  | succ m ih =>
    intro n s hn hs h63
    refine T_step (g := fun x j => spec_Decimal.l0 x j ((n : Int), false, s)) ?_
    dsimp only [spec_Decimal.l0, spec_Decimal.s0]
    have d1 : (n : Int).tmod (10 : Int) = ((n % 10 : Nat) : Int) := rfl
    have d2 : (n : Int).tdiv (10 : Int) = ((n / 10 : Nat) : Int) := rfl
    rw [d1, d2, wr64 (x := ((n / 10 : Nat) : Int)) (by omega) (by omega)]
    refine T_bne (fun h0 => T_neg (by omega) ?_) fun h0 => T_false rfl (T_ret ?_)
    · simp only [figure_eq _ (show n % 10 < 10 by omega), Option.bind_some, dig_str]
      refine T_pos (by rw [dig_size]; omega) ?_
      rw [← decR_step (by omega) s]
      exact ih (n / 10) (dig (n % 10) ++ s) (by rw [Nat.pow_succ] at hn; omega) (by rw [ByteArray.size_append, dig_size]; omega) (by omega)
    · obtain rfl : n = 0 := by omega
      rfl
theorem spec_Decimal.ev {n : Nat} (h : n ≤ 9223372036854775807) : Tells F0 (fun k => spec_Decimal.f k (n : Int)) (· = decB n) := by
  unfold spec_Decimal.f
  refine T_beq (fun e => T_ret ?_) fun e => ?_
  · obtain rfl : n = 0 := by omega
    rw [decB_small (by omega)]
    rfl
  · rw [decide_eq_false (show ¬ ((n : Int) < 0) by omega)]
    have hh := spec_decL.ev 19 n ByteArray.empty (by omega) (by show 0 + 19 ≤ 1000; omega) h
    have e2 : decR n ByteArray.empty = decB n := by unfold decR; rw [if_neg (by omega), ByteArray.append_empty]
    rw [e2] at hh
    exact T_in (F := F0) (g := fun x j => spec_Decimal.l0 x j ((n : Int), false, ByteArray.empty)) hh (fun k => k) (fun _ _ h => h)
theorem impl_Decimal.ev {n : Nat} (h : n ≤ 9223372036854775807) : Tells F0 (fun k => impl_Decimal.f k (n : Int)) (· = decB n) := by
  unfold impl_Decimal.f strconv_Itoa.f itoaRun
  rw [if_pos ⟨by omega, by omega⟩]
  refine T_ret ?_
  unfold Lib.itoa decB
  rw [if_neg (by omega), Int.toNat_natCast]
theorem decDigits_len : ∀ (m n : Nat), n < 10 ^ (m + 1) → (Lib.decDigits n).length ≤ m + 1
  | 0, n, h => by
    rw [Lib.decDigits, dif_pos (by omega)]
    simp
  | m + 1, n, h => by
    rw [Lib.decDigits]
    split
    · simp
    · rw [List.length_append]
      have := decDigits_len m (n / 10) (by rw [Nat.pow_succ] at h; omega)
      simp only [List.length_singleton]
      omega
theorem decB_size {n : Nat} (h : n ≤ 9223372036854775807) : (decB n).size ≤ 19 := by
  have := decDigits_len 18 n (by omega)
  show (Lib.decDigits n).toArray.size ≤ 19
  simpa using this

/-! The text of options. -/
theorem T_is {ι α : Type} {F : Fu ι} {g : ι → Option α} {v : α} (h : ∀ x, g x = some v) : Tells F g (· = v) := ⟨v, rfl, 0, fun x _ => h x⟩
def jn (l : List ByteArray) : ByteArray := ⟨(Lib.join (l.map (·.data.toList)) (⟨#[44]⟩ : ByteArray).data.toList).toArray⟩
theorem jn_nil : jn [] = ByteArray.empty := rfl
theorem jn_one (x : ByteArray) : jn [x] = x := by
  unfold jn
  apply ByteArray.ext
  simp [Lib.join_one]
theorem jn_snoc (l : List ByteArray) (x : ByteArray) (h : l ≠ []) : jn (l ++ [x]) = (jn l ++ (⟨#[44]⟩ : ByteArray)) ++ x := by
  cases l with
  | nil => exact absurd rfl h
  | cons y r =>
    apply ByteArray.ext
    unfold jn
    simp only [List.cons_append, List.map_cons, List.map_append, List.map_nil, Lib.join_cons, Lib.joinTail, List.flatten_append, List.flatten_cons, List.flatten_nil, List.append_nil]
    simp
theorem jn_take (l : List ByteArray) (i : Nat) (h : i < l.length) : jn (l.take (i + 1)) = if i = 0 then l[i] else (jn (l.take i) ++ (⟨#[44]⟩ : ByteArray)) ++ l[i] := by
  rw [List.take_succ_eq_append_getElem h]
  split
  · rename_i e
    subst e
    rw [List.take_zero, List.nil_append, jn_one]
  · rename_i e
    exact jn_snoc _ _ (fun k => e (by have := congrArg List.length k; rw [List.length_take, List.length_nil] at this; omega))
theorem jn_size (l : List ByteArray) (hl : ∀ x ∈ l, ByteArray.size x ≤ 8) : ∀ n, n ≤ l.length → (jn (l.take n)).size ≤ 9 * n
  | 0, _ => Nat.zero_le _
  | n + 1, h => by
    have h1 := jn_size l hl n (by omega)
    have h2 := hl l[n] (List.getElem_mem _)
    have z : (⟨#[44]⟩ : ByteArray).size = 1 := rfl
    rw [jn_take l n (by omega)]
    split
    · omega
    · rw [ByteArray.size_append, ByteArray.size_append]
      omega
def S1 : ByteArray := ⟨#[115, 105, 122, 101, 32]⟩
def S2 : ByteArray := ⟨#[59, 119, 97, 121, 115, 32]⟩
def S3 : ByteArray := ⟨#[59, 112, 105, 101, 99, 101, 115]⟩
def optB (sz : Int) (ws : List ByteArray) (pc : Bool) : ByteArray := (((S1 ++ decB sz.toNat) ++ S2) ++ jn ws) ++ (if pc then S3 else ByteArray.empty)
open Classical in
noncomputable def optM (sz : Int) (ws : List ByteArray) (pc : Bool) : ByteArray × Bool := if OptP sz ws then (optB sz ws pc, true) else (ByteArray.empty, false)
theorem OptP.ways {sz : Int} {ws : List ByteArray} (h : OptP sz ws) : (∀ x ∈ ws, ByteArray.size x ≤ 8) ∧ (20 ≤ sz ∧ sz ≤ 60) ∧ ws.length ≤ 4 := by
  obtain ⟨h1, h2, h3, h4⟩ := h
  refine ⟨fun x hx => ?_, h2, h4⟩
  obtain ⟨i, hi, rfl⟩ := List.getElem_of_mem hx
  have := (h1 i hi hi).1
  unfold wayB at this
  simp only [Bool.and_eq_true, decide_eq_true_eq] at this
  exact this.2.2
theorem optB_size {sz : Int} {ws : List ByteArray} (pc : Bool) (h : OptP sz ws) : (jn ws).size ≤ 36 ∧ (decB sz.toNat).size ≤ 19 := by
  obtain ⟨h1, h2, h3⟩ := h.ways
  have a := jn_size ws h1 ws.length (Nat.le_refl _)
  rw [List.take_length] at a
  exact ⟨by omega, decB_size (by omega)⟩
theorem impl_OptionText.ev (sz : Int) (ws : List ByteArray) (pc : Bool) (h : ws.length ≤ 1048576) (hs : ∀ j (h : j < ws.length), ByteArray.size ws[j] ≤ 1048576) : Tells F0 (fun k => impl_OptionText.f k sz ws pc) (· = optM sz ws pc) := by
  unfold impl_OptionText.f optM
  refine T_bind (impl_OptionsOk.ev sz ws pc h hs) fun r hr => ?_
  cases r with
  | false => rw [if_neg fun c => by have := hr.2 c; cases this]; exact T_true rfl (T_ret rfl)
  | true =>
    have ho := hr.1 rfl
    rw [if_pos ho]
    obtain ⟨z1, z2⟩ := optB_size pc ho
    obtain ⟨h1, h2, h3⟩ := ho.ways
    obtain ⟨n, rfl⟩ : ∃ n : Nat, sz = (n : Int) := ⟨sz.toNat, by omega⟩
    rw [Int.toNat_natCast] at z2
    have y1 : (⟨#[115, 105, 122, 101, 32]⟩ : ByteArray).size = 5 := rfl
    have y2 : (⟨#[59, 119, 97, 121, 115, 32]⟩ : ByteArray).size = 6 := rfl
    have y3 : (⟨#[59, 112, 105, 101, 99, 101, 115]⟩ : ByteArray).size = 7 := rfl
    have hj : ∀ k, strings_Join.f k ws (⟨#[44]⟩ : ByteArray) = some (jn ws) := fun k => by
      unfold strings_Join.f joinRun
      refine if_pos ⟨by omega, ?_⟩
      have : (jn ws).size = (Lib.join (ws.map (·.data.toList)) (⟨#[44]⟩ : ByteArray).data.toList).length := by unfold jn; simp [ByteArray.size]
      omega
    refine T_false rfl (T_bindE (impl_Decimal.ev (by omega)) (T_pos (by omega) (T_pos (by rw [ByteArray.size_append]; omega) (T_bindE (T_is hj) (T_pos (by rw [ByteArray.size_append, ByteArray.size_append]; omega) ?_)))))
    cases pc with
    | true => exact T_true rfl (T_pos (by rw [ByteArray.size_append, ByteArray.size_append, ByteArray.size_append]; omega) (T_ret rfl))
    | false => exact T_false rfl (T_ret (by unfold optB; rw [if_neg (by decide), ByteArray.append_empty]; rfl))
theorem spec_OptionText.ev (sz : Int) (ws : List ByteArray) (pc : Bool) (h : ws.length ≤ 1048576) (hs : ∀ j (h : j < ws.length), ByteArray.size ws[j] ≤ 1048576) : Tells F0 (fun k => spec_OptionText.f k sz ws pc) (· = optM sz ws pc) := by
  unfold spec_OptionText.f optM
  refine T_bind (spec_OptionsOk.ev sz ws pc h hs) fun r hr => ?_
  cases r with
  | false => rw [if_neg fun c => by have := hr.2 c; cases this]; exact T_true rfl (T_ret rfl)
  | true =>
    have ho := hr.1 rfl
    rw [if_pos ho]
    obtain ⟨z1, z2⟩ := optB_size pc ho
    obtain ⟨h1, h2, h3⟩ := ho.ways
    obtain ⟨n, rfl⟩ : ∃ n : Nat, sz = (n : Int) := ⟨sz.toNat, by omega⟩
    rw [Int.toNat_natCast] at z2
    have y1 : (⟨#[115, 105, 122, 101, 32]⟩ : ByteArray).size = 5 := rfl
    have y2 : (⟨#[59, 119, 97, 121, 115, 32]⟩ : ByteArray).size = 6 := rfl
    have y3 : (⟨#[59, 112, 105, 101, 99, 101, 115]⟩ : ByteArray).size = 7 := rfl
    have y4 : (⟨#[44]⟩ : ByteArray).size = 1 := rfl
    have hB : ((S1 ++ decB n) ++ S2).size ≤ 30 := by
      rw [ByteArray.size_append, ByteArray.size_append]
      show 5 + (decB n).size + 6 ≤ 30
      omega
    have hh := T_loop (F := F0) (fun k j i => spec_OptionText.l0 k j (((S1 ++ decB n) ++ S2) ++ jn (ws.take i), (i : Int), ws, (n : Int), pc)) ws.length (fun _ r => r = (optB (n : Int) ws pc, true)) (fun i hi he => by
      dsimp only [spec_OptionText.l0, spec_OptionText.s0]
      simp only [Int.toNat_natCast]
      rw [wrs hi (by omega)]
      have hz := jn_size ws h1 i (by omega)
      have hw := h1 ws[i] (List.getElem_mem _)
      rw [jn_take ws i hi] at he
      refine T_pos (by omega) (T_dec (fun g => T_pos (by rw [ByteArray.size_append]; omega) (T_get hi (T_pos (by rw [ByteArray.size_append, ByteArray.size_append]; omega) ?_))) (fun g => T_get hi (T_pos (by rw [ByteArray.size_append]; omega) ?_)))
      · rw [if_neg (by omega)] at he
        rw [ByteArray.append_assoc, ByteArray.append_assoc, ← ByteArray.append_assoc (a := jn (ws.take i))]
        exact he
      · obtain rfl : i = 0 := by omega
        rw [if_pos rfl] at he
        rw [List.take_zero, jn_nil, ByteArray.append_empty]
        exact he) (by
      dsimp only [spec_OptionText.l0, spec_OptionText.s0]
      rw [List.take_length]
      refine T_neg (by omega) ?_
      cases pc with
      | true => exact T_true rfl (T_pos (by rw [ByteArray.size_append]; omega) (T_ret rfl))
      | false => exact T_false rfl (T_ret (by unfold optB; rw [if_neg (by decide), ByteArray.append_empty]; rfl))) 0 (Nat.zero_le _)
    rw [List.take_zero, jn_nil, ByteArray.append_empty] at hh
    refine T_false rfl (T_bindE (spec_Decimal.ev (by omega)) (T_pos (by omega) (T_pos (by rw [ByteArray.size_append]; omega) ?_)))
    exact T_in (F := F0) (g := fun x j => spec_OptionText.l0 x j (((S1 ++ decB n) ++ S2), (0 : Int), ws, (n : Int), pc)) hh (fun k => k) (fun _ _ h => h)


theorem FnExactOptionText : laws_FnExactOptionText.Goal := by
  intro a0_0 a0_1 a0_2 g_a0_0 g_a0_1 g_a0_2
  replace g_a0_0 := wf64 g_a0_0
  have s_a0_1 : ∀ x ∈ a0_1, ByteArray.size x ≤ 140737488351232 := fun x hx => g_a0_1.2.2 x hx
  replace g_a0_1 : a0_1.length ≤ maxLen ∧ True := ⟨g_a0_1.1, trivial⟩
  refine Tells.rounds ?_
  unfold laws_FnExactOptionText.f
  refine T_bind (laws_szOptions.ev a0_0 a0_1 a0_2 _ g_a0_1.1 (s_a0_1) (by omega) (by omega)) fun v1 q1 => T_dec (fun _ => T_ret rfl) fun e1 => ?_
  obtain ⟨_, _, z_a0_1, t_a0_1⟩ := q1.resolve_left (by omega)
  refine T_bindE (laws_toOptions.ev a0_0 a0_1 a0_2 z_a0_1) ?_
  refine T_bindE (spec_OptionText.ev a0_0 a0_1 a0_2 z_a0_1 t_a0_1) ?_
  refine T_bindE (laws_toOptions.ev a0_0 a0_1 a0_2 z_a0_1) ?_
  refine T_bindE (impl_OptionText.ev a0_0 a0_1 a0_2 z_a0_1 t_a0_1) ?_
  refine T_same (by simp) ?_
  refine T_same (by simp) ?_
  refine T_bindE (laws_toOptions.ev a0_0 a0_1 a0_2 z_a0_1) ?_
  refine T_bindE (laws_eqOptions.ev a0_0 a0_1 a0_2 (by omega)) ?_
  refine T_same rfl ?_
  exact T_ret rfl
end Go.Proofs.YtfaeklomiofpdaaDoor.DI.Pure
