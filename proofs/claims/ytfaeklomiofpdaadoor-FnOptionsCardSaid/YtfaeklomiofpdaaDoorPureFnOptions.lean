/- FnOptions, the plain part: from some fuel on the law answers true. -/
import Derived.Test.YtfaeklomiofpdaaDoorGoalFnOptions
import Derived.Test.YtfaeklomiofpdaaDoorKITE
namespace Go.Proofs.YtfaeklomiofpdaaDoor.DI.Pure
open Go Go.RowKit
set_option linter.unusedVariables false
set_option linter.unusedSimpArgs false
theorem in_eq (k : Nat) (n a b : Int) : spec_l01In.f k n a b = some (decide (a ≤ n ∧ n ≤ b)) := by
  unfold spec_l01In.f
  by_cases h : n ≥ a <;> by_cases h' : n ≤ b <;> simp [h, h'] <;> omega
theorem within_eq (k : Nat) (n a b : Int) : impl_within.f k n a b = some (decide (a ≤ n ∧ n ≤ b)) := by
  unfold impl_within.f
  by_cases h : n ≥ a <;> by_cases h' : n ≤ b <;> simp [h, h'] <;> omega

def wayC (b : UInt8) : Bool := decide (97 ≤ b.toNat ∧ b.toNat ≤ 122) || decide (48 ≤ b.toNat ∧ b.toNat ≤ 57)
def wayB (s : ByteArray) : Bool := s.data.toList.all wayC && decide (1 ≤ s.size ∧ s.size ≤ 8)
theorem byte_get (s : ByteArray) (i : Nat) (h : i < s.data.toList.length) : s.data.toList[i] = s[i]'(by rw [Array.length_toList] at h; exact h) := by rw [Array.getElem_toList]; rfl
theorem wrb (b : UInt8) : IntKind.i64.wrap (b.toNat : Int) = (b.toNat : Int) := by have := b.toNat_lt; exact wr64 (by omega) (by omega)
theorem spec_l15Way.ev (s : ByteArray) (h : s.size ≤ 140737488351232) : Tells F0 (fun k => spec_l15Way.f k s) (· = wayB s) := by
  have hl : s.data.toList.length = s.size := by rw [Array.length_toList]; rfl
  have hh := T_alls (F := F0) (fun k j i => spec_l15Way.l0 k j (s, (i : Int))) s.data.toList wayC (decide (1 ≤ s.size ∧ s.size ≤ 8)) (fun i hi P go bad => by
    have hi' : i < s.size := by omega
    rw [byte_get] at go bad
    dsimp only [spec_l15Way.l0, spec_l15Way.s0]
    simp only [Int.toNat_natCast]
    rw [wrs hi (by omega)]
    have y : (97 ≤ s[i].toNat ∧ s[i].toNat ≤ 122) ∨ (48 ≤ s[i].toNat ∧ s[i].toNat ≤ 57) → wayC s[i] = true := fun h => by simp only [wayC, Bool.or_eq_true, decide_eq_true_eq]; exact h
    have n : ¬ ((97 ≤ s[i].toNat ∧ s[i].toNat ≤ 122) ∨ (48 ≤ s[i].toNat ∧ s[i].toNat ≤ 57)) → wayC s[i] = false := fun h => by
      cases e : wayC s[i] with
      | false => rfl
      | true => simp only [wayC, Bool.or_eq_true, decide_eq_true_eq] at e; exact absurd e h
    refine T_pos (by omega) (T_byte hi' (T_dec (fun a => T_byte hi' (T_dec (fun b => T_ret (bad (n (by omega)))) fun b => T_byte hi' (T_dec (fun c => T_ret (bad (n (by omega)))) fun c => go (y (by omega))))) fun a => T_byte hi' (T_dec (fun b => T_byte hi' (T_dec (fun c => T_ret (bad (n (by omega)))) fun c => T_byte hi' (T_dec (fun d => T_ret (bad (n (by omega)))) fun d => go (y (by omega))))) fun b => go (y (by omega)))))) (by
    dsimp only [spec_l15Way.l0, spec_l15Way.s0]
    simp only [in_eq, Option.bind_some]
    refine T_neg (by omega) (T_ret ?_)
    rw [decide_eq_decide]; omega)
  unfold spec_l15Way.f
  exact T_in (g := fun x j => spec_l15Way.l0 x j _) hh (fun k => k) (fun _ _ h => h)
theorem impl_wayOk.ev (s : ByteArray) (h : s.size ≤ 140737488351232) : Tells F0 (fun k => impl_wayOk.f k s) (· = wayB s) := by
  have hl : s.data.toList.length = s.size := by rw [Array.length_toList]; rfl
  have hh := T_alls (F := F0) (fun k j i => impl_wayOk.l0 k j (s, (i : Int))) s.data.toList wayC (decide (1 ≤ s.size ∧ s.size ≤ 8)) (fun i hi P go bad => by
    have hi' : i < s.size := by omega
    rw [byte_get] at go bad
    dsimp only [impl_wayOk.l0, impl_wayOk.s0]
    simp only [Int.toNat_natCast, within_eq, Option.bind_some, wrb]
    rw [wrs hi (by omega)]
    have y : (97 ≤ s[i].toNat ∧ s[i].toNat ≤ 122) ∨ (48 ≤ s[i].toNat ∧ s[i].toNat ≤ 57) → wayC s[i] = true := fun h => by simp only [wayC, Bool.or_eq_true, decide_eq_true_eq]; exact h
    have n : ¬ ((97 ≤ s[i].toNat ∧ s[i].toNat ≤ 122) ∨ (48 ≤ s[i].toNat ∧ s[i].toNat ≤ 57)) → wayC s[i] = false := fun h => by
      cases e : wayC s[i] with
      | false => rfl
      | true => simp only [wayC, Bool.or_eq_true, decide_eq_true_eq] at e; exact absurd e h
    refine T_pos (by omega) (T_byte hi' (T_ndec (fun a => go (y (by omega))) fun a => T_byte hi' (T_ndec (fun b => go (y (by omega))) fun b => T_ret (bad (n (by omega))))))) (by
    dsimp only [impl_wayOk.l0, impl_wayOk.s0]
    simp only [within_eq, Option.bind_some]
    refine T_neg (by omega) (T_ret ?_)
    rw [decide_eq_decide]; omega)
  unfold impl_wayOk.f
  exact T_in (g := fun x j => impl_wayOk.l0 x j _) hh (fun k => k) (fun _ _ h => h)
theorem spec_l15Has.ev (l : List ByteArray) (x : ByteArray) (h : l.length ≤ 1048576) : Tells F0 (fun k => spec_l15Has.f k l x) (fun r => r = true ↔ x ∈ l) := by
  have hh := T_loop (F := F0) (fun k j i => spec_l15Has.l0 k j (x, (i : Int), l)) l.length (fun i r => r = true ↔ x ∈ l.drop i) (fun i hi he => by
    rw [List.drop_eq_getElem_cons hi, List.mem_cons]
    dsimp only [spec_l15Has.l0, spec_l15Has.s0]
    simp only [Int.toNat_natCast, beq_bytes_iff]
    rw [wrs hi (by omega)]
    refine T_pos (by omega) (T_get hi (T_dec (fun e => T_ret (yes_iff (.inl e.symm))) fun e => T_mono he fun r hr => hr.trans ⟨.inr, fun h => h.resolve_left fun k => e k.symm⟩))) (by
    dsimp only [spec_l15Has.l0, spec_l15Has.s0]
    exact T_neg (by omega) (T_ret (no_iff (by simp)))) 0 (Nat.zero_le _)
  unfold spec_l15Has.f
  exact T_in (g := fun x j => spec_l15Has.l0 x j _) (by simpa using hh) (fun k => k) (fun _ _ h => h)
theorem slices_Index_string_string.ev (l : List ByteArray) (x : ByteArray) (h : l.length ≤ 1048576) : Tells F0 (fun k => slices_Index_string_string.f k l x) (fun r => r ≥ 0 ↔ x ∈ l) := by
  have hh := T_loop (F := F0) (fun k j i => slices_Index_string_string.l0 k j (x, (l.length : Int), (i : Int), l)) l.length (fun i r => r ≥ 0 ↔ x ∈ l.drop i) (fun i hi he => by
    rw [List.drop_eq_getElem_cons hi, List.mem_cons]
    dsimp only [slices_Index_string_string.l0, slices_Index_string_string.s0]
    simp only [Int.toNat_natCast, beq_bytes_iff]
    rw [wrs hi (by omega)]
    refine T_pos (by omega) (T_get hi (T_dec (fun e => T_ret ⟨fun _ => .inl e, fun _ => by omega⟩) fun e => T_mono he fun r hr => hr.trans ⟨.inr, fun h => h.resolve_left e⟩))) (by
    dsimp only [slices_Index_string_string.l0, slices_Index_string_string.s0]
    exact T_neg (by omega) (T_ret (by simp))) 0 (Nat.zero_le _)
  unfold slices_Index_string_string.f
  exact T_in (g := fun x j => slices_Index_string_string.l0 x j _) (by simpa using hh) (fun k => k) (fun _ _ h => h)
theorem slices_Contains_string_string.ev (l : List ByteArray) (x : ByteArray) (h : l.length ≤ 1048576) : Tells F0 (fun k => slices_Contains_string_string.f k l x) (fun r => r = true ↔ x ∈ l) := by
  unfold slices_Contains_string_string.f
  refine T_bind (slices_Index_string_string.ev l x h) fun r hr => T_ret ?_
  rw [decide_eq_true_eq]
  exact hr
def OptC (ws : List ByteArray) (i : Nat) : Prop := ∀ h : i < ws.length, wayB ws[i] = true ∧ ws[i] ∉ ws.take i
def OptP (sz : Int) (ws : List ByteArray) : Prop := (∀ i, i < ws.length → OptC ws i) ∧ ((20 ≤ sz ∧ sz ≤ 60) ∧ 1 ≤ ws.length ∧ ws.length ≤ 4)
theorem spec_OptionsOk.ev (sz : Int) (ws : List ByteArray) (pc : Bool) (h : ws.length ≤ 1048576) (hs : ∀ j (h : j < ws.length), ByteArray.size ws[j] ≤ 1048576) : Tells F0 (fun k => spec_OptionsOk.f k sz ws pc) (fun r => r = true ↔ OptP sz ws) := by
  have hh := T_body (F := F0) (fun k j i => spec_OptionsOk.l0 k j ((i : Int), ws, sz, pc)) ws.length (OptC ws) ((20 ≤ sz ∧ sz ≤ 60) ∧ 1 ≤ ws.length ∧ ws.length ≤ 4) (fun i hi P go bad => by
    dsimp only [spec_OptionsOk.l0, spec_OptionsOk.s0]
    simp only [Int.toNat_natCast]
    rw [wrs hi (by omega)]
    have := hs i hi
    refine T_pos (by omega) (T_get hi (T_bindE (T_call (spec_l15Way.ev _ (by omega)) Prod.fst (fun _ _ h => h.1)) ?_))
    cases e : wayB ws[i] with
    | false => exact T_true rfl (T_ret (bad fun c => by have := (c hi).1; rw [e] at this; cases this))
    | true =>
      refine T_false rfl (T_and (by omega) (by omega) (T_get hi (T_bind (T_call (spec_l15Has.ev (ws.take i) ws[i] (by simp; omega)) Prod.fst (fun _ _ h => h.1)) fun r hr => ?_)))
      cases r with
      | true => exact T_true rfl (T_ret (bad fun c => (c hi).2 (hr.1 rfl)))
      | false => exact T_false rfl (go fun _ => ⟨e, fun c => by have := hr.2 c; cases this⟩)) (by
    dsimp only [spec_OptionsOk.l0, spec_OptionsOk.s0]
    simp only [in_eq, Option.bind_some]
    refine T_neg (by omega) (T_dec (fun a => T_ret ?_) fun a => T_ret (no_iff fun c => a c.1))
    rw [decide_eq_true_eq]; omega)
  unfold spec_OptionsOk.f
  exact T_in (g := fun x j => spec_OptionsOk.l0 x j _) hh (fun k => k) (fun _ _ h => h)
theorem impl_OptionsOk.ev (sz : Int) (ws : List ByteArray) (pc : Bool) (h : ws.length ≤ 1048576) (hs : ∀ j (h : j < ws.length), ByteArray.size ws[j] ≤ 1048576) : Tells F0 (fun k => impl_OptionsOk.f k sz ws pc) (fun r => r = true ↔ OptP sz ws) := by
  have hh := T_body (F := F0) (fun k j i => impl_OptionsOk.l0 k j ((ws.length : Int), (i : Int), ws, sz, pc)) ws.length (OptC ws) ((20 ≤ sz ∧ sz ≤ 60) ∧ 1 ≤ ws.length ∧ ws.length ≤ 4) (fun i hi P go bad => by
    dsimp only [impl_OptionsOk.l0, impl_OptionsOk.s0]
    simp only [Int.toNat_natCast]
    rw [wrs hi (by omega)]
    have := hs i hi
    refine T_pos (by omega) (T_get hi (T_bindE (T_call (impl_wayOk.ev _ (by omega)) Prod.fst (fun _ _ h => h.1)) ?_))
    cases e : wayB ws[i] with
    | false => exact T_true rfl (T_ret (bad fun c => by have := (c hi).1; rw [e] at this; cases this))
    | true =>
      refine T_false rfl (T_and (by omega) (by omega) (T_bind (T_call (slices_Contains_string_string.ev (ws.take i) ws[i] (by simp; omega)) Prod.fst (fun _ _ h => h.1)) fun r hr => ?_))
      cases r with
      | true => exact T_true rfl (T_ret (bad fun c => (c hi).2 (hr.1 rfl)))
      | false => exact T_false rfl (go fun _ => ⟨e, fun c => by have := hr.2 c; cases this⟩)) (by
    dsimp only [impl_OptionsOk.l0, impl_OptionsOk.s0]
    simp only [within_eq, Option.bind_some]
    refine T_neg (by omega) (T_dec (fun a => T_ret ?_) fun a => T_ret (no_iff fun c => a c.1))
    rw [decide_eq_true_eq]; omega)
  unfold impl_OptionsOk.f
  exact T_in (g := fun x j => impl_OptionsOk.l0 x j _) hh (fun k => k) (fun _ _ h => h)

/-! Decimal texts. -/
def dig (d : Nat) : ByteArray := ⟨#[UInt8.ofNat (48 + d)]⟩
def decB (n : Nat) : ByteArray := ⟨(Lib.decDigits n).toArray⟩
theorem decB_small {n : Nat} (h : n < 10) : decB n = dig n := by unfold decB dig; rw [Lib.decDigits, dif_pos h]
theorem decB_big {n : Nat} (h : ¬ n < 10) : decB n = decB (n / 10) ++ dig (n % 10) := by
  apply ByteArray.ext
  unfold decB dig
  rw [Lib.decDigits, dif_neg h]
  simp
def decR (n : Nat) (s : ByteArray) : ByteArray := if n = 0 then s else decB n ++ s
theorem decR_step {n : Nat} (h : 0 < n) (s : ByteArray) : decR (n / 10) (dig (n % 10) ++ s) = decR n s := by
  unfold decR
  rw [if_neg (show n ≠ 0 by omega)]
  by_cases h1 : n < 10
  · rw [if_pos (by omega), decB_small h1, show n % 10 = n by omega]
  · rw [if_neg (by omega), decB_big h1, ByteArray.append_assoc]
theorem figure_eq (k : Nat) {d : Nat} (h : d < 10) : spec_l01Figure.f k (d : Int) = some ((48 + d : Nat) : Int) := by
  unfold spec_l01Figure.f
  rw [decide_eq_true (by omega), cond_true, wr64 (by omega) (by omega)]
  have e : IntKind.u8.wrap ((48 : Int) + (d : Int)) = if (false && decide (((48 : Int) + (d : Int)) % 256 ≥ 128)) = true then ((48 : Int) + (d : Int)) % 256 - 256 else ((48 : Int) + (d : Int)) % 256 := by kernel_rfl
  rw [e]
  simp only [Bool.false_and, Bool.false_eq_true, if_false]
  congr 1
  omega
theorem dig_str (d : Nat) : strOfNums [((48 + d : Nat) : Int)] = dig d := rfl
theorem dig_size (d : Nat) : (dig d).size = 1 := rfl
theorem spec_decL.ev : ∀ (m n : Nat) (s : ByteArray), n < 10 ^ m → s.size + m ≤ 1000 → n ≤ 9223372036854775807 → Tells (FS F0) (fun x => spec_Decimal.l0 x.1 x.2 ((n : Int), false, s)) (· = decR n s) := by
  intro m
  induction m with
  | zero =>
    intro n s hn hs h63
    obtain rfl : n = 0 := by simpa using hn
    refine T_step (g := fun x j => spec_Decimal.l0 x j (((0 : Nat) : Int), false, s)) ?_
    dsimp only [spec_Decimal.l0, spec_Decimal.s0]
    exact T_false rfl (T_false rfl (T_ret rfl))
  | succ m ih =>
    intro n s hn hs h63
    refine T_step (g := fun x j => spec_Decimal.l0 x j ((n : Int), false, s)) ?_
    dsimp only [spec_Decimal.l0, spec_Decimal.s0]
    have d1 : (n : Int).tmod (10 : Int) = ((n % 10 : Nat) : Int) := rfl
    have d2 : (n : Int).tdiv (10 : Int) = ((n / 10 : Nat) : Int) := rfl
    rw [d1, d2, wr64 (x := ((n / 10 : Nat) : Int)) (by omega) (by omega)]
    refine T_bne (fun h0 => T_neg (by omega) ?_) fun h0 => T_false rfl (T_ret ?_)
    · simp only [figure_eq _ (show n % 10 < 10 by omega), Option.bind_some, dig_str]
      refine T_pos (by rw [dig_size]; omega) ?_
      rw [← decR_step (by omega) s]
      exact ih (n / 10) (dig (n % 10) ++ s) (by rw [Nat.pow_succ] at hn; omega) (by rw [ByteArray.size_append, dig_size]; omega) (by omega)
    · obtain rfl : n = 0 := by omega
      rfl
theorem spec_Decimal.ev {n : Nat} (h : n ≤ 9223372036854775807) : Tells F0 (fun k => spec_Decimal.f k (n : Int)) (· = decB n) := by
  unfold spec_Decimal.f
  refine T_beq (fun e => T_ret ?_) fun e => ?_
  · obtain rfl : n = 0 := by omega
    rw [decB_small (by omega)]
    rfl
  · rw [decide_eq_false (show ¬ ((n : Int) < 0) by omega)]
    have hh := spec_decL.ev 19 n ByteArray.empty (by omega) (by show 0 + 19 ≤ 1000; omega) h
    have e2 : decR n ByteArray.empty = decB n := by unfold decR; rw [if_neg (by omega), ByteArray.append_empty]
    rw [e2] at hh
    exact T_in (F := F0) (g := fun x j => spec_Decimal.l0 x j ((n : Int), false, ByteArray.empty)) hh (fun k => k) (fun _ _ h => h)
theorem impl_Decimal.ev {n : Nat} (h : n ≤ 9223372036854775807) : Tells F0 (fun k => impl_Decimal.f k (n : Int)) (· = decB n) := by
  unfold impl_Decimal.f strconv_Itoa.f itoaRun
  rw [if_pos ⟨by omega, by omega⟩]
  refine T_ret ?_
  unfold Lib.itoa decB
  rw [if_neg (by omega), Int.toNat_natCast]
theorem decDigits_len : ∀ (m n : Nat), n < 10 ^ (m + 1) → (Lib.decDigits n).length ≤ m + 1
  | 0, n, h => by
    rw [Lib.decDigits, dif_pos (by omega)]
    simp
  | m + 1, n, h => by
    rw [Lib.decDigits]
    split
    · simp
    · rw [List.length_append]
      have := decDigits_len m (n / 10) (by rw [Nat.pow_succ] at h; omega)
      simp only [List.length_singleton]
      omega
theorem decB_size {n : Nat} (h : n ≤ 9223372036854775807) : (decB n).size ≤ 19 := by
  have := decDigits_len 18 n (by omega)
  show (Lib.decDigits n).toArray.size ≤ 19
  simpa using this

theorem T_is {ι α : Type} {F : Fu ι} {g : ι → Option α} {v : α} (h : ∀ x, g x = some v) : Tells F g (· = v) := ⟨v, rfl, 0, fun x _ => h x⟩

/-! The text of options. -/
def jn (l : List ByteArray) : ByteArray := ⟨(Lib.join (l.map (·.data.toList)) (⟨#[44]⟩ : ByteArray).data.toList).toArray⟩
theorem jn_nil : jn [] = ByteArray.empty := rfl
theorem jn_one (x : ByteArray) : jn [x] = x := by
  unfold jn
  apply ByteArray.ext
  simp [Lib.join_one]
theorem jn_snoc (l : List ByteArray) (x : ByteArray) (h : l ≠ []) : jn (l ++ [x]) = (jn l ++ (⟨#[44]⟩ : ByteArray)) ++ x := by
  cases l with
  | nil => exact absurd rfl h
  | cons y r =>
    apply ByteArray.ext
    unfold jn
    simp only [List.cons_append, List.map_cons, List.map_append, List.map_nil, Lib.join_cons, Lib.joinTail, List.flatten_append, List.flatten_cons, List.flatten_nil, List.append_nil]
    simp
theorem jn_take (l : List ByteArray) (i : Nat) (h : i < l.length) : jn (l.take (i + 1)) = if i = 0 then l[i] else (jn (l.take i) ++ (⟨#[44]⟩ : ByteArray)) ++ l[i] := by
  rw [List.take_succ_eq_append_getElem h]
  split
  · rename_i e
    subst e
    rw [List.take_zero, List.nil_append, jn_one]
  · rename_i e
    exact jn_snoc _ _ (fun k => e (by have := congrArg List.length k; rw [List.length_take, List.length_nil] at this; omega))
theorem jn_size (l : List ByteArray) (hl : ∀ x ∈ l, ByteArray.size x ≤ 8) : ∀ n, n ≤ l.length → (jn (l.take n)).size ≤ 9 * n
  | 0, _ => Nat.zero_le _
  | n + 1, h => by
    have h1 := jn_size l hl n (by omega)
    have h2 := hl l[n] (List.getElem_mem _)
    have z : (⟨#[44]⟩ : ByteArray).size = 1 := rfl
    rw [jn_take l n (by omega)]
    split
    · omega
    · rw [ByteArray.size_append, ByteArray.size_append]
      omega
def S1 : ByteArray := ⟨#[115, 105, 122, 101, 32]⟩
def S2 : ByteArray := ⟨#[59, 119, 97, 121, 115, 32]⟩
def S3 : ByteArray := ⟨#[59, 112, 105, 101, 99, 101, 115]⟩
def optB (sz : Int) (ws : List ByteArray) (pc : Bool) : ByteArray := (((S1 ++ decB sz.toNat) ++ S2) ++ jn ws) ++ (if pc then S3 else ByteArray.empty)
open Classical in
noncomputable def optM (sz : Int) (ws : List ByteArray) (pc : Bool) : ByteArray × Bool := if OptP sz ws then (optB sz ws pc, true) else (ByteArray.empty, false)
theorem OptP.ways {sz : Int} {ws : List ByteArray} (h : OptP sz ws) : (∀ x ∈ ws, ByteArray.size x ≤ 8) ∧ (20 ≤ sz ∧ sz ≤ 60) ∧ ws.length ≤ 4 := by
  obtain ⟨h1, h2, h3, h4⟩ := h
  refine ⟨fun x hx => ?_, h2, h4⟩
  obtain ⟨i, hi, rfl⟩ := List.getElem_of_mem hx
  have := (h1 i hi hi).1
  unfold wayB at this
  simp only [Bool.and_eq_true, decide_eq_true_eq] at this
  exact this.2.2
theorem optB_size {sz : Int} {ws : List ByteArray} (pc : Bool) (h : OptP sz ws) : (jn ws).size ≤ 36 ∧ (decB sz.toNat).size ≤ 19 := by
  obtain ⟨h1, h2, h3⟩ := h.ways
  have a := jn_size ws h1 ws.length (Nat.le_refl _)
  rw [List.take_length] at a
  exact ⟨by omega, decB_size (by omega)⟩
theorem impl_OptionText.ev (sz : Int) (ws : List ByteArray) (pc : Bool) (h : ws.length ≤ 1048576) (hs : ∀ j (h : j < ws.length), ByteArray.size ws[j] ≤ 1048576) : Tells F0 (fun k => impl_OptionText.f k sz ws pc) (· = optM sz ws pc) := by
  unfold impl_OptionText.f optM
  refine T_bind (impl_OptionsOk.ev sz ws pc h hs) fun r hr => ?_
  cases r with
  | false => rw [if_neg fun c => by have := hr.2 c; cases this]; exact T_true rfl (T_ret rfl)
  | true =>
    have ho := hr.1 rfl
    rw [if_pos ho]
    obtain ⟨z1, z2⟩ := optB_size pc ho
    obtain ⟨h1, h2, h3⟩ := ho.ways
    obtain ⟨n, rfl⟩ : ∃ n : Nat, sz = (n : Int) := ⟨sz.toNat, by omega⟩
    rw [Int.toNat_natCast] at z2
    have y1 : (⟨#[115, 105, 122, 101, 32]⟩ : ByteArray).size = 5 := rfl
    have y2 : (⟨#[59, 119, 97, 121, 115, 32]⟩ : ByteArray).size = 6 := rfl
    have y3 : (⟨#[59, 112, 105, 101, 99, 101, 115]⟩ : ByteArray).size = 7 := rfl
    have hj : ∀ k, strings_Join.f k ws (⟨#[44]⟩ : ByteArray) = some (jn ws) := fun k => by
      unfold strings_Join.f joinRun
      refine if_pos ⟨by omega, ?_⟩
      have : (jn ws).size = (Lib.join (ws.map (·.data.toList)) (⟨#[44]⟩ : ByteArray).data.toList).length := by unfold jn; simp [ByteArray.size]
      omega
    refine T_false rfl (T_bindE (impl_Decimal.ev (by omega)) (T_pos (by omega) (T_pos (by rw [ByteArray.size_append]; omega) (T_bindE (T_is hj) (T_pos (by rw [ByteArray.size_append, ByteArray.size_append]; omega) ?_)))))
    cases pc with
    | true => exact T_true rfl (T_pos (by rw [ByteArray.size_append, ByteArray.size_append, ByteArray.size_append]; omega) (T_ret rfl))
    | false => exact T_false rfl (T_ret (by unfold optB; rw [if_neg (by decide), ByteArray.append_empty]; rfl))
theorem spec_OptionText.ev (sz : Int) (ws : List ByteArray) (pc : Bool) (h : ws.length ≤ 1048576) (hs : ∀ j (h : j < ws.length), ByteArray.size ws[j] ≤ 1048576) : Tells F0 (fun k => spec_OptionText.f k sz ws pc) (· = optM sz ws pc) := by
  unfold spec_OptionText.f optM
  refine T_bind (spec_OptionsOk.ev sz ws pc h hs) fun r hr => ?_
  cases r with
  | false => rw [if_neg fun c => by have := hr.2 c; cases this]; exact T_true rfl (T_ret rfl)
  | true =>
    have ho := hr.1 rfl
    rw [if_pos ho]
    obtain ⟨z1, z2⟩ := optB_size pc ho
    obtain ⟨h1, h2, h3⟩ := ho.ways
    obtain ⟨n, rfl⟩ : ∃ n : Nat, sz = (n : Int) := ⟨sz.toNat, by omega⟩
    rw [Int.toNat_natCast] at z2
    have y1 : (⟨#[115, 105, 122, 101, 32]⟩ : ByteArray).size = 5 := rfl
    have y2 : (⟨#[59, 119, 97, 121, 115, 32]⟩ : ByteArray).size = 6 := rfl
    have y3 : (⟨#[59, 112, 105, 101, 99, 101, 115]⟩ : ByteArray).size = 7 := rfl
    have y4 : (⟨#[44]⟩ : ByteArray).size = 1 := rfl
    have hB : ((S1 ++ decB n) ++ S2).size ≤ 30 := by
      rw [ByteArray.size_append, ByteArray.size_append]
      show 5 + (decB n).size + 6 ≤ 30
      omega
    have hh := T_loop (F := F0) (fun k j i => spec_OptionText.l0 k j (((S1 ++ decB n) ++ S2) ++ jn (ws.take i), (i : Int), ws, (n : Int), pc)) ws.length (fun _ r => r = (optB (n : Int) ws pc, true)) (fun i hi he => by
      dsimp only [spec_OptionText.l0, spec_OptionText.s0]
      simp only [Int.toNat_natCast]
      rw [wrs hi (by omega)]
      have hz := jn_size ws h1 i (by omega)
      have hw := h1 ws[i] (List.getElem_mem _)
      rw [jn_take ws i hi] at he
      refine T_pos (by omega) (T_dec (fun g => T_pos (by rw [ByteArray.size_append]; omega) (T_get hi (T_pos (by rw [ByteArray.size_append, ByteArray.size_append]; omega) ?_))) (fun g => T_get hi (T_pos (by rw [ByteArray.size_append]; omega) ?_)))
      · rw [if_neg (by omega)] at he
        rw [ByteArray.append_assoc, ByteArray.append_assoc, ← ByteArray.append_assoc (a := jn (ws.take i))]
        exact he
      · obtain rfl : i = 0 := by omega
        rw [if_pos rfl] at he
        rw [List.take_zero, jn_nil, ByteArray.append_empty]
        exact he) (by
      dsimp only [spec_OptionText.l0, spec_OptionText.s0]
      rw [List.take_length]
      refine T_neg (by omega) ?_
      cases pc with
      | true => exact T_true rfl (T_pos (by rw [ByteArray.size_append]; omega) (T_ret rfl))
      | false => exact T_false rfl (T_ret (by unfold optB; rw [if_neg (by decide), ByteArray.append_empty]; rfl))) 0 (Nat.zero_le _)
    rw [List.take_zero, jn_nil, ByteArray.append_empty] at hh
    refine T_false rfl (T_bindE (spec_Decimal.ev (by omega)) (T_pos (by omega) (T_pos (by rw [ByteArray.size_append]; omega) ?_)))
    exact T_in (F := F0) (g := fun x j => spec_OptionText.l0 x j (((S1 ++ decB n) ++ S2), (0 : Int), ws, (n : Int), pc)) hh (fun k => k) (fun _ _ h => h)

/-! Decimal texts that are read. -/
theorem decB_toList (n : Nat) : (decB n).data.toList = Lib.decDigits n := rfl
/-- What the digits of a text come to. -/
def valL (acc : Nat) (l : List UInt8) : Nat := l.foldl (fun a c => a * 10 + (c.toNat - 48)) acc
theorem dig_nat {d : Nat} (h : d < 10) : (UInt8.ofNat (48 + d)).toNat = 48 + d := by
  simp only [UInt8.toNat_ofNat']
  omega
theorem digits_range : ∀ (u : Nat), ∀ c ∈ Lib.decDigits u, 48 ≤ c.toNat ∧ c.toNat ≤ 57 := by
  intro u
  induction u using Nat.strongRecOn with
  | ind u ih =>
    intro c hc
    rw [Lib.decDigits] at hc
    split at hc
    · simp only [List.mem_singleton] at hc
      rw [hc, dig_nat (by omega)]
      omega
    · rcases List.mem_append.1 hc with hc | hc
      · exact ih (u / 10) (by omega) c hc
      · simp only [List.mem_singleton] at hc
        rw [hc, dig_nat (by omega)]
        omega
theorem val_digits : ∀ (u : Nat), valL 0 (Lib.decDigits u) = u := by
  intro u
  induction u using Nat.strongRecOn with
  | ind u ih =>
    rw [Lib.decDigits]
    split
    · simp only [valL, List.foldl_cons, List.foldl_nil]
      rw [dig_nat (by omega)]
      omega
    · have := ih (u / 10) (by omega)
      unfold valL at this ⊢
      rw [List.foldl_append, this]
      simp only [List.foldl_cons, List.foldl_nil]
      rw [dig_nat (by omega)]
      omega
theorem decB_inj {m n : Nat} (h : decB m = decB n) : m = n := by
  have := congrArg (fun b : ByteArray => valL 0 b.data.toList) h
  simp only [decB_toList, val_digits] at this
  exact this
theorem decDigits_ne (n : Nat) : Lib.decDigits n ≠ [] := by
  rw [Lib.decDigits]
  split <;> simp
/-- The number of a text that is a number's. -/
noncomputable def rdM (s : ByteArray) : Int × Bool := @dite (Int × Bool) (∃ n : Nat, n ≤ 1000000000 ∧ s = decB n) (Classical.propDecidable _) (fun h => ((h.choose : Int), true)) (fun _ => (0, false))
theorem rdM_yes {n : Nat} (h : n ≤ 1000000000) : rdM (decB n) = ((n : Int), true) := by
  have hx : ∃ m : Nat, m ≤ 1000000000 ∧ decB n = decB m := ⟨n, h, rfl⟩
  unfold rdM
  rw [dif_pos hx]
  have := decB_inj hx.choose_spec.2
  rw [← this]
theorem rdM_no {s : ByteArray} (h : ¬ ∃ n : Nat, n ≤ 1000000000 ∧ s = decB n) : rdM s = (0, false) := by
  unfold rdM
  rw [dif_neg h]
theorem parse_digits : ∀ (l : List UInt8) (acc : Nat), (∀ c ∈ l, 48 ≤ c.toNat ∧ c.toNat ≤ 57) → valL acc l < 18446744073709551616 → Lib.parseUint10 acc l = .ok (valL acc l)
  | [], acc, _, _ => rfl
  | c :: r, acc, hd, hv => by
    have hc := hd c (by simp)
    have mono : ∀ (l : List UInt8) (a : Nat), a ≤ valL a l := by
      intro l
      induction l with
      | nil => intro a; exact Nat.le_refl _
      | cons x q ih =>
        intro a
        refine Nat.le_trans ?_ (ih (a * 10 + (x.toNat - 48)))
        omega
    have hm := mono r (acc * 10 + (c.toNat - 48))
    have hv' : valL (acc * 10 + (c.toNat - 48)) r < 18446744073709551616 := hv
    simp only [Lib.parseUint10]
    rw [if_pos hc, if_neg (by omega), if_neg (by omega)]
    exact parse_digits r _ (fun x hx => hd x (by simp [hx])) hv'
theorem atoi_dec {n : Nat} (h : n ≤ 1000000000) : Lib.atoiAll (Lib.decDigits n) = .ok (n : Int) := by
  have hp := parse_digits (Lib.decDigits n) 0 (digits_range n) (by rw [val_digits]; omega)
  rw [val_digits] at hp
  have hne := decDigits_ne n
  have hr := digits_range n
  match hl : Lib.decDigits n, hne with
  | c :: r, _ =>
    rw [hl] at hp hr
    have hc := hr c (by simp)
    unfold Lib.atoiAll
    simp only
    rw [if_neg (show ¬ (c.toNat = 43 ∨ c.toNat = 45) by omega)]
    unfold Lib.parseMag
    rw [if_neg (by simp), hp]
    simp only
    rw [if_neg (by omega), if_neg (by omega), if_neg (by omega)]
theorem readDM_eq (s : ByteArray) : readDM s = rdM s := by
  by_cases h : ∃ n : Nat, n ≤ 1000000000 ∧ s = decB n
  · obtain ⟨n, hn, rfl⟩ := h
    rw [rdM_yes hn]
    unfold readDM
    rw [decB_toList, atoi_dec hn]
    simp only
    rw [if_pos ⟨⟨by omega, by omega⟩, by unfold Lib.itoa; rw [if_neg (by omega), Int.toNat_natCast]⟩]
  · rw [rdM_no h]
    unfold readDM
    split
    · rename_i v hv
      rw [if_neg]
      rintro ⟨⟨h0, h1⟩, h2⟩
      refine h ⟨v.toNat, by omega, ?_⟩
      unfold Lib.itoa at h2
      rw [if_neg (by omega)] at h2
      apply ByteArray.ext
      apply Array.toList_inj.mp
      rw [← h2]
      rfl
    · rfl
theorem impl_ReadDecimal.ev (s : ByteArray) (h : s.size ≤ 281474976710656) : Tells F0 (fun k => impl_ReadDecimal.f k s) (· = rdM s) := by
  refine T_is fun k => ?_
  unfold impl_ReadDecimal.f readDRun
  rw [if_pos h, readDM_eq]
theorem valL_snoc (l : List UInt8) (c : UInt8) : valL 0 (l ++ [c]) = valL 0 l * 10 + (c.toNat - 48) := by unfold valL; rw [List.foldl_append]; rfl
theorem val_bound : ∀ (l : List UInt8), (∀ c ∈ l, 48 ≤ c.toNat ∧ c.toNat ≤ 57) → ∀ m, l.length ≤ m → ∀ a, valL a l + 1 ≤ (a + 1) * 10 ^ m
  | [], _, m, _, a => by
    have := Nat.one_le_pow m 10 (by omega)
    show a + 1 ≤ (a + 1) * 10 ^ m
    exact Nat.le_mul_of_pos_right _ this
  | c :: r, hd, 0, hl, a => by simp at hl
  | c :: r, hd, m + 1, hl, a => by
    have ih := val_bound r (fun x hx => hd x (by simp [hx])) m (by simpa using hl) (a * 10 + (c.toNat - 48))
    have hc := hd c (by simp)
    have e : valL a (c :: r) = valL (a * 10 + (c.toNat - 48)) r := rfl
    rw [e, Nat.pow_succ]
    refine Nat.le_trans ih ?_
    rw [Nat.mul_comm (10 ^ m) 10, ← Nat.mul_assoc]
    exact Nat.mul_le_mul_right _ (by omega)
theorem spec_ReadDecimal.ev (s : ByteArray) (h : s.size ≤ 140737488351232) : Tells F0 (fun k => spec_ReadDecimal.f k s) (· = rdM s) := by
  have hl : s.data.toList.length = s.size := by rw [Array.length_toList]; rfl
  unfold spec_ReadDecimal.f
  refine T_dec (fun g => T_ret ?_) fun g => ?_
  · rw [rdM_no]
    rintro ⟨n, hn, rfl⟩
    have := decDigits_len 9 n (by omega)
    rw [← decB_toList, hl] at this
    omega
  · have hh := T_loops (F := F0) (fun k j (_ : Unit) i => spec_ReadDecimal.l0 k j (s, (valL 0 (s.data.toList.take i) : Int), (i : Int))) s.size (fun i _ => ∀ c ∈ s.data.toList.take i, 48 ≤ c.toNat ∧ c.toNat ≤ 57) (fun _ _ r => r = rdM s) (fun i _ hi hI he => by
      dsimp only [spec_ReadDecimal.l0, spec_ReadDecimal.s0]
      simp only [Int.toNat_natCast]
      rw [wrs hi (by omega)]
      have hb := val_bound _ hI i (by rw [List.length_take]; omega) 0
      have hp : 10 ^ i ≤ 10 ^ 10 := Nat.pow_le_pow_right (by omega) (by omega)
      have gi : s.data.toList.take (i + 1) = s.data.toList.take i ++ [s[i]] := by
        rw [List.take_succ_eq_append_getElem (by omega)]
        rfl
      have bad : ¬ (48 ≤ s[i].toNat ∧ s[i].toNat ≤ 57) → ((0 : Int), false) = rdM s := fun hn => by
        rw [rdM_no]
        rintro ⟨n, _, e⟩
        refine hn (digits_range n _ ?_)
        rw [← decB_toList, ← e]
        exact List.mem_of_getElem? (i := i) (by rw [List.getElem?_eq_getElem (by omega)]; rfl)
      refine T_pos (by omega) (T_byte hi (T_dec (fun a => T_ret (bad (by omega))) fun a => T_byte hi (T_dec (fun b => T_ret (bad (by omega))) fun b => T_byte hi ?_)))
      have hu := s[i].toNat_lt
      have e1 : IntKind.i64.wrap ((IntKind.i64.wrap ((IntKind.i64.wrap ((10 : Int) * (valL 0 (s.data.toList.take i) : Int))) + (IntKind.i64.wrap (s[i].toNat : Int)))) - (48 : Int)) = ((valL 0 (s.data.toList.take (i + 1)) : Nat) : Int) := by
        rw [gi, valL_snoc]
        generalize valL 0 (s.data.toList.take i) = x at hb
        rw [wr64 (x := (10 : Int) * (x : Int)) (by omega) (by omega), wr64 (x := (s[i].toNat : Int)) (by omega) (by omega), wr64 (x := (10 : Int) * (x : Int) + (s[i].toNat : Int)) (by omega) (by omega), wr64 (by omega) (by omega)]
        omega
      rw [e1]
      refine he () fun c hc => ?_
      rw [gi] at hc
      rcases List.mem_append.1 hc with hc | hc
      · exact hI c hc
      · simp only [List.mem_singleton] at hc
        rw [hc]
        omega) (fun _ hI => by
      dsimp only [spec_ReadDecimal.l0, spec_ReadDecimal.s0]
      rw [List.take_of_length_le (by omega)] at hI ⊢
      refine T_neg (by omega) ?_
      have hb := val_bound _ hI s.size (by omega) 0
      have hp : 10 ^ s.size ≤ 10 ^ 10 := Nat.pow_le_pow_right (by omega) (by omega)
      generalize hv : valL 0 s.data.toList = v at hb
      refine T_dec (fun a => T_ret ?_) fun a => T_bindE (T_call (spec_Decimal.ev (by omega)) Prod.fst (fun _ _ h => h.1)) ?_
      · rw [rdM_no]
        rintro ⟨n, hn, rfl⟩
        rw [decB_toList, val_digits] at hv
        omega
      · rw [beq_bytes_iff]
        refine T_ndec (fun e => T_ret ?_) fun e => T_ret ?_
        · rw [← e, rdM_yes (by omega)]
        · rw [rdM_no]
          rintro ⟨n, hn, rfl⟩
          rw [decB_toList, val_digits] at hv
          exact e (by rw [hv])) 0 () (Nat.zero_le _) (fun c hc => by simp at hc)
    exact T_in (F := F0) (g := fun x j => spec_ReadDecimal.l0 x j (s, (0 : Int), (0 : Int))) hh (fun k => k) (fun _ _ h => h)

/-! Texts split at a byte. -/
def splD (s : ByteArray) (c : UInt8) : Nat → Nat → Nat → List ByteArray
  | b, 0, _ => [s.extract b s.size]
  | b, d + 1, i => if s.data.toList[i]? = some c then s.extract b i :: splD s c (i + 1) d (i + 1) else splD s c b d (i + 1)
def splM (s : ByteArray) (c : UInt8) : List ByteArray := splD s c 0 s.size 0
theorem splD_len (s : ByteArray) (c : UInt8) : ∀ (d b i : Nat), 1 ≤ (splD s c b d i).length ∧ (splD s c b d i).length ≤ d + 1
  | 0, b, i => ⟨Nat.le_refl _, Nat.le_refl _⟩
  | d + 1, b, i => by
    unfold splD
    split
    · have := splD_len s c d (i + 1) (i + 1)
      simp only [List.length_cons]
      omega
    · have := splD_len s c d b (i + 1)
      omega
theorem splD_size (s : ByteArray) (c : UInt8) : ∀ (d b i : Nat), ∀ x ∈ splD s c b d i, ByteArray.size x ≤ s.size
  | 0, b, i, x, hx => by
    simp only [splD, List.mem_singleton] at hx
    rw [hx, ByteArray.size_extract]
    omega
  | d + 1, b, i, x, hx => by
    unfold splD at hx
    split at hx
    · rcases List.mem_cons.1 hx with rfl | hx
      · rw [ByteArray.size_extract]; omega
      · exact splD_size s c d _ _ x hx
    · exact splD_size s c d _ _ x hx
theorem spec_l08Split.ev (s : ByteArray) (c : UInt8) (h : s.size ≤ 1000000000) : Tells F0 (fun k => spec_l08Split.f k s (c.toNat : Int)) (· = splM s c) := by
  have hl : s.data.toList.length = s.size := by rw [Array.length_toList]; rfl
  have hh := T_loops (F := F0) (fun k j (st : Nat × List ByteArray) i => spec_l08Split.l0 k j (s, (c.toNat : Int), (st.1 : Int), (i : Int), st.2)) (s.size + 1) (fun i st => st.1 ≤ i ∧ st.2.length ≤ i)
    (fun i st r => r = if i ≤ s.size then st.2 ++ splD s c st.1 (s.size - i) i else st.2) (fun i st hi hI he => by
    dsimp only [spec_l08Split.l0, spec_l08Split.s0]
    simp only [Int.toNat_natCast]
    obtain ⟨b, out⟩ := st
    obtain ⟨h1, h2⟩ := hI
    have h1 : b ≤ i := h1
    have h2 : out.length ≤ i := h2
    rw [wrs hi (by omega)]
    rw [if_pos (by omega)]
    refine T_pos (by omega) (T_beq (fun e => ?_) fun e => ?_)
    · refine T_true (by simp only [Bool.and_eq_true, decide_eq_true_eq]; omega) (T_pos (by simp only [List.length_singleton]; omega) ?_)
      have e : i = s.size := by omega
      subst e
      have he := he (s.size + 1, out ++ [s.extract b s.size]) ⟨Nat.le_refl _, by simp only [List.length_append, List.length_singleton]; omega⟩
      refine T_mono he fun r hr => ?_
      rw [hr, if_neg (by omega), Nat.sub_self]
      rfl
    · have hi2 : i < s.size := by omega
      have ed : s.size - i = (s.size - (i + 1)) + 1 := by omega
      have gi : s.data.toList[i]? = some s[i] := by rw [List.getElem?_eq_getElem (by omega)]; rfl
      refine T_byte hi2 (T_beq (fun g => ?_) fun g => ?_)
      · have gc : s[i] = c := UInt8.toNat_inj.1 (by omega)
        refine T_true (by simp only [Bool.and_eq_true, decide_eq_true_eq]; omega) (T_pos (by simp only [List.length_singleton]; omega) ?_)
        refine T_mono (he (i + 1, out ++ [s.extract b i]) ⟨Nat.le_refl _, by simp only [List.length_append, List.length_singleton]; omega⟩) fun r hr => ?_
        rw [hr, if_pos (by omega), ed, splD, gi, if_pos (by rw [gc])]
        simp
      · refine T_mono (he (b, out) ⟨by omega, by omega⟩) fun r hr => ?_
        rw [hr, if_pos (by omega), ed, splD, gi, if_neg (fun k => g (by rw [Option.some.inj k]))]) (fun st _ => by
    dsimp only [spec_l08Split.l0, spec_l08Split.s0]
    exact T_neg (by omega) (T_ret (by rw [if_neg (by omega)]))) 0 (0, []) (Nat.zero_le _) ⟨Nat.le_refl _, Nat.le_refl _⟩
  unfold spec_l08Split.f
  rw [if_pos (Nat.zero_le _)] at hh
  exact T_in (F := F0) (g := fun x j => spec_l08Split.l0 x j (s, (c.toNat : Int), (0 : Int), (0 : Int), ([] : List ByteArray))) hh (fun k => k) (fun _ _ h => h)
theorem splD_skip (s : ByteArray) (c : UInt8) (b : Nat) : ∀ (m d i : Nat), m ≤ d → (∀ k, k < m → s.data.toList[i + k]? ≠ some c) → splD s c b d i = splD s c b (d - m) (i + m)
  | 0, d, i, _, _ => rfl
  | m + 1, 0, i, h, _ => absurd h (by omega)
  | m + 1, d + 1, i, h, hk => by
    rw [splD, if_neg (show ¬ s.data.toList[i]? = some c from hk 0 (by omega)), splD_skip s c b m d (i + 1) (by omega) (fun k hk' => by rw [show i + 1 + k = i + (k + 1) from by omega]; exact hk (k + 1) (by omega))]
    rw [show d + 1 - (m + 1) = d - m from by omega, show i + 1 + m = i + (m + 1) from by omega]
/-- The first place of a byte behind a place. -/
theorem first_at (s : ByteArray) (c : UInt8) (b : Nat) (hb : b ≤ s.size) :
    (Lib.indexB (s.extract b s.size) ⟨#[c]⟩ = -1 ∧ splD s c b (s.size - b) b = [s.extract b s.size] ∧ ∀ k, b ≤ k → s.data.toList[k]? ≠ some c) ∨
    ∃ i : Nat, Lib.indexB (s.extract b s.size) ⟨#[c]⟩ = (i : Int) ∧ b + i < s.size ∧ splD s c b (s.size - b) b = s.extract b (b + i) :: splD s c (b + i + 1) (s.size - (b + i + 1)) (b + i + 1) := by
  have hl : s.data.toList.length = s.size := by rw [Array.length_toList]; rfl
  have e1 : Lib.indexB (s.extract b s.size) ⟨#[c]⟩ = Lib.indexByte (s.data.toList.drop b) c := by
    show Lib.index (s.extract b s.size).data.toList [c] = _
    rw [Lib.index_one, Lib.extract_data, List.take_of_length_le (by rw [List.length_drop]; omega)]
  have get : ∀ k, (s.data.toList.drop b)[k]? = s.data.toList[b + k]? := fun k => by rw [List.getElem?_drop]
  by_cases hn : Lib.indexByte (s.data.toList.drop b) c = -1
  · left
    have hno := Lib.indexByte_none hn
    refine ⟨by rw [e1, hn], ?_, fun k hk => by have := hno (k - b); rw [get, show b + (k - b) = k from by omega] at this; exact this⟩
    rw [splD_skip s c b (s.size - b) (s.size - b) b (Nat.le_refl _) (fun k _ => by rw [← get]; exact hno k), Nat.sub_self]
    rfl
  · right
    have hge := Lib.indexByte_ge (s.data.toList.drop b) c
    obtain ⟨i, hi⟩ : ∃ i : Nat, Lib.indexByte (s.data.toList.drop b) c = i := ⟨(Lib.indexByte (s.data.toList.drop b) c).toNat, by omega⟩
    obtain ⟨h1, h2⟩ := Lib.indexByte_some hi
    rw [get] at h1
    have hlt : b + i < s.size := by
      have := (List.getElem?_eq_some_iff.1 h1).1
      omega
    refine ⟨i, by rw [e1, hi], hlt, ?_⟩
    rw [splD_skip s c b i (s.size - b) b (by omega) (fun k hk => by rw [← get]; exact h2 k hk), show s.size - b - i = (s.size - (b + i + 1)) + 1 from by omega, splD, if_pos h1]
theorem extract_tail (s : ByteArray) (b j : Nat) (h : b + j ≤ s.size) : (s.extract b s.size).extract j (s.extract b s.size).size = s.extract (b + j) s.size := by
  rw [ByteArray.extract_extract, ByteArray.size_extract]
  congr 1
  omega
theorem extract_head (s : ByteArray) (b j : Nat) (h : b + j ≤ s.size) : (s.extract b s.size).extract 0 j = s.extract b (b + j) := by
  rw [ByteArray.extract_extract]
  congr 1
  omega
theorem splitB_eq (s : ByteArray) (c : UInt8) : ∀ (m b : Nat), s.size - b ≤ m → b ≤ s.size → Lib.splitB ⟨#[c]⟩ 0 (Lib.countB (s.extract b s.size) ⟨#[c]⟩) (s.extract b s.size) = splD s c b (s.size - b) b := by
  intro m
  induction m with
  | zero =>
    intro b hm hb
    rcases first_at s c b hb with ⟨h1, h2, _⟩ | ⟨i, h1, h2, h3⟩
    · rw [Lib.splitB_miss _ _ _ _ h1, h2]
    · omega
  | succ m ih =>
    intro b hm hb
    rcases first_at s c b hb with ⟨h1, h2, _⟩ | ⟨i, h1, h2, h3⟩
    · rw [Lib.splitB_miss _ _ _ _ h1, h2]
    · have z : (⟨#[c]⟩ : ByteArray).size = 1 := rfl
      rw [Lib.countB_hit _ _ i (by omega) h1, Nat.add_comm 1, Lib.splitB_hit _ _ _ _ i h1, h3, z, extract_tail s b (i + 1) (by omega), Nat.add_zero, extract_head s b i (by omega)]
      rw [show b + (i + 1) = b + i + 1 from by omega, ih (b + i + 1) (by omega) (by omega)]
theorem split_run (s : ByteArray) (c : UInt8) (h : s.size < 4294967281) : splitRun s ⟨#[c]⟩ = some (splM s c) := by
  unfold splitRun
  rw [if_pos ⟨h, by show 1 ≤ 1; omega⟩]
  have := splitB_eq s c s.size 0 (by omega) (by omega)
  have e : s.extract 0 s.size = s := ByteArray.extract_zero_size
  rw [e] at this
  rw [this]
  rfl
theorem cut_run (s : ByteArray) (c : UInt8) (h : s.size < 4294967281) :
    (cutRun s ⟨#[c]⟩ = some (s, ByteArray.empty, false) ∧ splM s c = [s] ∧ ∀ k : Nat, s.data.toList[k]? ≠ some c) ∨
    ∃ i : Nat, i < s.size ∧ cutRun s ⟨#[c]⟩ = some (s.extract 0 i, s.extract (i + 1) s.size, true) ∧ splM s c = s.extract 0 i :: splD s c (i + 1) (s.size - (i + 1)) (i + 1) := by
  have hl : s.data.toList.length = s.size := by rw [Array.length_toList]; rfl
  have e : s.extract 0 s.size = s := ByteArray.extract_zero_size
  have ei : Lib.index s.data.toList (⟨#[c]⟩ : ByteArray).data.toList = Lib.indexB (s.extract 0 s.size) ⟨#[c]⟩ := by rw [e]
  rcases first_at s c 0 (by omega) with ⟨h1, h2, h3⟩ | ⟨i, h1, h2, h3⟩
  · left
    refine ⟨?_, by unfold splM; rw [Nat.sub_zero] at h2; rw [h2, e], fun k => h3 k (Nat.zero_le _)⟩
    unfold cutRun Lib.cut
    rw [if_pos h, ei, h1, if_neg (by decide)]
    rfl
  · right
    rw [Nat.zero_add] at h2 h3
    refine ⟨i, h2, ?_, by unfold splM; rw [Nat.sub_zero] at h3; exact h3⟩
    unfold cutRun Lib.cut
    rw [if_pos h, ei, h1, if_pos (by omega)]
    congr 2
    · apply ByteArray.ext
      apply Array.toList_inj.mp
      rw [Lib.extract_data]
      simp
    · congr 1
      apply ByteArray.ext
      apply Array.toList_inj.mp
      rw [Lib.extract_data]
      have z : (⟨#[c]⟩ : ByteArray).data.toList.length = 1 := rfl
      simp only [Int.toNat_natCast, z]
      rw [List.take_of_length_le (by rw [List.length_drop]; omega)]

/-! The same on lists. -/
def bA (l : List UInt8) : ByteArray := ⟨l.toArray⟩
theorem bA_list (s : ByteArray) : bA s.data.toList = s := by apply ByteArray.ext; simp [bA]
theorem bA_app (a b : List UInt8) : bA (a ++ b) = bA a ++ bA b := by apply ByteArray.ext; simp [bA]
def splA (c : UInt8) (acc : List UInt8) : List UInt8 → List (List UInt8)
  | [] => [acc]
  | x :: r => if x = c then acc :: splA c [] r else splA c (acc ++ [x]) r
theorem splD_A (s : ByteArray) (c : UInt8) : ∀ (d b i : Nat), i + d = s.size → b ≤ i → splD s c b d i = (splA c ((s.data.toList.drop b).take (i - b)) (s.data.toList.drop i)).map bA
  | 0, b, i, h, hb => by
    have hl : s.data.toList.length = s.size := by rw [Array.length_toList]; rfl
    rw [List.drop_of_length_le (l := s.data.toList) (i := i) (by omega)]
    show [s.extract b s.size] = [bA _]
    congr 1
    apply ByteArray.ext
    apply Array.toList_inj.mp
    rw [Lib.extract_data]
    show _ = ((s.data.toList.drop b).take (i - b)).toArray.toList
    rw [show i = s.size from by omega]
  | d + 1, b, i, h, hb => by
    have hl : s.data.toList.length = s.size := by rw [Array.length_toList]; rfl
    have hi : i < s.data.toList.length := by omega
    have e1 : (s.data.toList.drop b).take (i + 1 - b) = (s.data.toList.drop b).take (i - b) ++ [s.data.toList[i]] := by
      rw [show i + 1 - b = (i - b) + 1 from by omega, List.take_succ_eq_append_getElem (by rw [List.length_drop]; omega)]
      congr 2
      rw [List.getElem_drop]
      congr 1
      omega
    rw [List.drop_eq_getElem_cons hi, splD, splA, List.getElem?_eq_getElem hi]
    by_cases hc : s.data.toList[i] = c
    · rw [if_pos (by rw [hc]), if_pos hc, splD_A s c d (i + 1) (i + 1) (by omega) (Nat.le_refl _), List.map_cons, Nat.sub_self, List.take_zero]
      congr 1
      apply ByteArray.ext
      apply Array.toList_inj.mp
      rw [Lib.extract_data]
      rfl
    · rw [if_neg (fun k => hc (Option.some.inj k)), if_neg hc, splD_A s c d b (i + 1) (by omega) (by omega), e1]
theorem splM_A (s : ByteArray) (c : UInt8) : splM s c = (splA c [] s.data.toList).map bA := by
  unfold splM
  rw [splD_A s c s.size 0 0 (by omega) (Nat.le_refl _), List.drop_zero, Nat.sub_self, List.take_zero]
theorem splA_none (c : UInt8) : ∀ (l acc : List UInt8), c ∉ l → splA c acc l = [acc ++ l]
  | [], acc, _ => by simp [splA]
  | x :: r, acc, h => by
    rw [splA, if_neg (fun k => h (by simp [k])), splA_none c r (acc ++ [x]) (fun k => h (by simp [k]))]
    simp
theorem splA_at (c : UInt8) (b : List UInt8) : ∀ (a acc : List UInt8), c ∉ a → splA c acc (a ++ c :: b) = (acc ++ a) :: splA c [] b
  | [], acc, _ => by simp [splA]
  | x :: r, acc, h => by
    rw [List.cons_append, splA, if_neg (fun k => h (by simp [k])), splA_at c b r (acc ++ [x]) (fun k => h (by simp [k]))]
    simp
theorem splM_none {s : ByteArray} {c : UInt8} (h : c ∉ s.data.toList) : splM s c = [s] := by
  rw [splM_A, splA_none c _ _ h]
  simp [bA_list]
theorem splM_at {a b : ByteArray} {c : UInt8} (h : c ∉ a.data.toList) : splM (a ++ (⟨#[c]⟩ ++ b)) c = a :: splM b c := by
  rw [splM_A, splM_A]
  have e : (a ++ (⟨#[c]⟩ ++ b)).data.toList = a.data.toList ++ c :: b.data.toList := by simp
  rw [e, splA_at c _ _ _ h, List.map_cons, List.nil_append, bA_list]

/-! Parts of texts. -/
theorem app_head (a b : ByteArray) : (a ++ b).extract 0 a.size = a := by
  have z : a.size = a.data.toList.length := by rw [Array.length_toList]; rfl
  apply ByteArray.ext
  apply Array.toList_inj.mp
  rw [Lib.extract_data, ByteArray.data_append, Array.toList_append, List.drop_zero, Nat.sub_zero, z, List.take_left]
theorem app_tail (a b : ByteArray) : (a ++ b).extract a.size (a ++ b).size = b := by
  have z : a.size = a.data.toList.length := by rw [Array.length_toList]; rfl
  have z2 : b.size = b.data.toList.length := by rw [Array.length_toList]; rfl
  apply ByteArray.ext
  apply Array.toList_inj.mp
  rw [Lib.extract_data, ByteArray.data_append, Array.toList_append, ByteArray.size_append, Nat.add_sub_cancel_left, z, List.drop_left, z2, List.take_length]

/-! The text of options is read. -/
def WW : ByteArray := ⟨#[119, 97, 121, 115, 32]⟩
def PP : ByteArray := ⟨#[112, 105, 101, 99, 101, 115]⟩
theorem jn_cons (x y : ByteArray) (r : List ByteArray) : jn (x :: y :: r) = x ++ ((⟨#[44]⟩ : ByteArray) ++ jn (y :: r)) := by
  apply ByteArray.ext
  unfold jn
  simp only [List.map_cons, Lib.join_cons, Lib.joinTail, List.flatten_cons]
  simp
theorem jn_split : ∀ ws : List ByteArray, ws ≠ [] → (∀ x ∈ ws, (44 : UInt8) ∉ x.data.toList) → splM (jn ws) 44 = ws
  | [], h, _ => absurd rfl h
  | [x], _, h => by rw [jn_one]; exact splM_none (h x (by simp))
  | x :: y :: r, _, h => by
    rw [jn_cons, splM_at (h x (by simp)), jn_split (y :: r) (by simp) (fun z hz => h z (List.mem_cons_of_mem _ hz))]
theorem jn_mem (c : UInt8) (hc : c ≠ 44) : ∀ ws : List ByteArray, (∀ x ∈ ws, c ∉ x.data.toList) → c ∉ (jn ws).data.toList
  | [], _ => by rw [jn_nil]; simp
  | [x], h => by rw [jn_one]; exact h x (by simp)
  | x :: y :: r, h => by
    have ih := jn_mem c hc (y :: r) (fun z hz => h z (List.mem_cons_of_mem _ hz))
    have hx := h x (by simp)
    have e : (x ++ ((⟨#[44]⟩ : ByteArray) ++ jn (y :: r))).data.toList = x.data.toList ++ (44 : UInt8) :: (jn (y :: r)).data.toList := by simp
    rw [jn_cons, e]
    simp only [List.mem_append, List.mem_cons, not_or]
    exact ⟨hx, hc, ih⟩
theorem wayB_no {s : ByteArray} (h : wayB s = true) : (44 : UInt8) ∉ s.data.toList ∧ (59 : UInt8) ∉ s.data.toList ∧ 1 ≤ s.size := by
  unfold wayB at h
  simp only [Bool.and_eq_true, List.all_eq_true, decide_eq_true_eq] at h
  exact ⟨fun k => absurd (h.1 44 k) (by decide), fun k => absurd (h.1 59 k) (by decide), h.2.1⟩
theorem OptP.no {sz : Int} {ws : List ByteArray} (h : OptP sz ws) : ws ≠ [] ∧ ∀ x ∈ ws, (44 : UInt8) ∉ x.data.toList ∧ (59 : UInt8) ∉ x.data.toList ∧ 1 ≤ ByteArray.size x := by
  obtain ⟨h1, h2, h3, h4⟩ := h
  refine ⟨fun k => by rw [k] at h3; simp at h3, fun x hx => ?_⟩
  obtain ⟨i, hi, rfl⟩ := List.getElem_of_mem hx
  exact wayB_no (h1 i hi hi).1
theorem jn_pos {ws : List ByteArray} (h : ws ≠ []) (hs : ∀ x ∈ ws, 1 ≤ ByteArray.size x) : 1 ≤ (jn ws).size := by
  match ws, h with
  | [x], _ => rw [jn_one]; exact hs x (by simp)
  | x :: y :: r, _ =>
    have := hs x (by simp)
    rw [jn_cons, ByteArray.size_append]
    omega
theorem dec_no59 (n : Nat) : (59 : UInt8) ∉ (decB n).data.toList := fun k => by
  have := digits_range n 59 k
  have e : (59 : UInt8).toNat = 59 := rfl
  omega
theorem sep_uniq {c : UInt8} : ∀ {a a' b b' : List UInt8}, c ∉ a → c ∉ a' → a ++ c :: b = a' ++ c :: b' → a = a' ∧ b = b'
  | [], [], b, b', _, _, e => ⟨rfl, by simpa using e⟩
  | [], x :: r, b, b', _, h, e => by
    rw [List.nil_append, List.cons_append] at e
    exact absurd (List.cons.inj e).1 (fun k => h (by simp [k]))
  | x :: r, [], b, b', h, _, e => by
    rw [List.nil_append, List.cons_append] at e
    exact absurd (List.cons.inj e).1 (fun k => h (by simp [k]))
  | x :: r, y :: q, b, b', h, h', e => by
    rw [List.cons_append, List.cons_append] at e
    obtain ⟨e1, e2⟩ := List.cons.inj e
    obtain ⟨i1, i2⟩ := sep_uniq (fun k => h (by simp [k])) (fun k => h' (by simp [k])) e2
    exact ⟨by rw [e1, i1], i2⟩
/-- What the text is on lists. -/
theorem optB_list (n : Int) (ws : List ByteArray) (pc : Bool) : (optB n ws pc).data.toList = (S1.data.toList ++ (decB n.toNat).data.toList) ++ (59 : UInt8) :: (WW.data.toList ++ (jn ws).data.toList ++ (if pc then S3 else ByteArray.empty).data.toList) := by
  unfold optB S2 WW
  simp [ByteArray.data_append, Array.toList_append, List.append_assoc]
theorem head_no59 (n : Nat) : (59 : UInt8) ∉ S1.data.toList ++ (decB n).data.toList := by
  intro k
  rcases List.mem_append.1 k with k | k
  · exact absurd k (by decide)
  · exact dec_no59 n k
theorem body_no59 {n : Int} {ws : List ByteArray} (h : OptP n ws) : (59 : UInt8) ∉ WW.data.toList ++ (jn ws).data.toList := by
  intro k
  rcases List.mem_append.1 k with k | k
  · exact absurd k (by decide)
  · exact jn_mem 59 (by decide) ws (fun x hx => (h.no.2 x hx).2.1) k
theorem opt_split {n : Int} {ws : List ByteArray} {pc : Bool} (h : OptP n ws) : splM (optB n ws pc) 59 = [S1 ++ decB n.toNat, WW ++ jn ws] ++ if pc then [PP] else [] := by
  have hb := body_no59 h
  have hh := head_no59 n.toNat
  have e : optB n ws pc = (S1 ++ decB n.toNat) ++ ((⟨#[59]⟩ : ByteArray) ++ ((WW ++ jn ws) ++ (if pc then S3 else ByteArray.empty))) := by
    apply ByteArray.ext
    apply Array.toList_inj.mp
    rw [optB_list]
    simp [ByteArray.data_append, Array.toList_append, List.append_assoc]
  rw [e, splM_at (by simpa [ByteArray.data_append, Array.toList_append] using hh)]
  have hb' : (59 : UInt8) ∉ (WW ++ jn ws).data.toList := by simpa [ByteArray.data_append, Array.toList_append] using hb
  cases pc with
  | false =>
    rw [if_neg (by decide), if_neg (by decide), ByteArray.append_empty, splM_none hb']
    rfl
  | true =>
    rw [if_pos rfl, if_pos rfl, show S3 = (⟨#[59]⟩ : ByteArray) ++ PP from rfl, splM_at hb', splM_none (by decide)]
    rfl
noncomputable def prM (s : ByteArray) : Int × List ByteArray × Bool :=
  ((rdM ⟨(Lib.trimPrefix (Lib.cut (Lib.trimSuffix s.data.toList S3.data.toList) S2.data.toList).1 S1.data.toList).toArray⟩).1,
   splM ⟨(Lib.cut (Lib.trimSuffix s.data.toList S3.data.toList) S2.data.toList).2.1.toArray⟩ 44, Lib.hasSuffix s.data.toList S3.data.toList)
open Classical in
noncomputable def roM (s : ByteArray) : Int × List ByteArray × Bool × Bool := if OptP (prM s).1 (prM s).2.1 ∧ optB (prM s).1 (prM s).2.1 (prM s).2.2 = s then ((prM s).1, (prM s).2.1, (prM s).2.2, true) else (0, [], false, false)
theorem opt_suffix {n : Int} {ws : List ByteArray} {pc : Bool} (h : OptP n ws) : Lib.hasSuffix (optB n ws pc).data.toList S3.data.toList = pc ∧ Lib.trimSuffix (optB n ws pc).data.toList S3.data.toList = (S1.data.toList ++ (decB n.toNat).data.toList) ++ (S2.data.toList ++ (jn ws).data.toList) := by
  have e : (optB n ws pc).data.toList = ((S1.data.toList ++ (decB n.toNat).data.toList) ++ (S2.data.toList ++ (jn ws).data.toList)) ++ (if pc then S3 else ByteArray.empty).data.toList := by
    unfold optB
    simp [ByteArray.data_append, Array.toList_append, List.append_assoc]
  have hs : Lib.hasSuffix (optB n ws pc).data.toList S3.data.toList = pc := by
    unfold Lib.hasSuffix
    cases pc with
    | true =>
      rw [e, List.isSuffixOf_iff_suffix]
      exact ⟨_, rfl⟩
    | false =>
      rw [Bool.eq_false_iff]
      intro k
      rw [List.isSuffixOf_iff_suffix] at k
      obtain ⟨t, ht⟩ := k
      rw [optB_list] at ht
      have hr := congrArg List.reverse ht
      have hb := body_no59 h
      have e0 : (if false = true then S3 else ByteArray.empty).data.toList = [] := rfl
      rw [e0, List.append_nil, show S3.data.toList = (59 : UInt8) :: PP.data.toList from rfl] at hr
      simp only [List.reverse_append, List.reverse_cons, List.append_assoc, List.singleton_append] at hr
      rw [← List.append_assoc (jn ws).data.toList.reverse] at hr
      have := (sep_uniq (by decide) (by simpa [List.mem_append, or_comm] using hb) hr).1
      have := congrArg List.reverse this
      simp only [List.reverse_append, List.reverse_reverse] at this
      exact absurd (congrArg List.head? this) (by simp [PP, WW])
  refine ⟨hs, ?_⟩
  unfold Lib.trimSuffix
  rw [hs, e]
  cases pc with
  | true =>
    rw [if_pos rfl, if_pos rfl, List.length_append, Nat.add_sub_cancel, List.take_left']
    rfl
  | false =>
    rw [if_neg (by decide), if_neg (by decide)]
    exact List.append_nil _
theorem opt_cut {A J : List UInt8} (h : (59 : UInt8) ∉ A) : Lib.cut (A ++ (S2.data.toList ++ J)) S2.data.toList = (A, J, true) := by
  have hi : Lib.index (A ++ (S2.data.toList ++ J)) S2.data.toList = A.length := by
    refine Lib.index_hit (fun j hj => ?_) (by rw [List.length_append]; omega) ?_
    · cases ho : Lib.occAt (A ++ (S2.data.toList ++ J)) S2.data.toList j with
      | false => rfl
      | true =>
        have := Lib.occAt_head (show S2.data.toList = (59 : UInt8) :: WW.data.toList from rfl) ho
        rw [List.getElem?_append_left hj] at this
        exact absurd (List.mem_of_getElem? this) h
    · unfold Lib.occAt
      rw [List.drop_left, List.isPrefixOf_iff_prefix]
      exact ⟨J, rfl⟩
  unfold Lib.cut
  rw [hi, if_pos (by omega), Int.toNat_natCast, List.take_left, ← List.drop_drop, List.drop_left, List.drop_left]
theorem prM_opt {n : Int} {ws : List ByteArray} {pc : Bool} (h : OptP n ws) : prM (optB n ws pc) = (n, ws, pc) := by
  obtain ⟨h1, h2⟩ := opt_suffix (pc := pc) h
  unfold prM
  rw [h2, h1, opt_cut (head_no59 n.toNat)]
  have e1 : Lib.trimPrefix (S1.data.toList ++ (decB n.toNat).data.toList) S1.data.toList = (decB n.toNat).data.toList := by
    unfold Lib.trimPrefix Lib.hasPrefix
    rw [if_pos (List.isPrefixOf_iff_prefix.2 ⟨_, rfl⟩), List.drop_left]
  have hb := h.2.1
  show ((rdM ⟨(Lib.trimPrefix (S1.data.toList ++ (decB n.toNat).data.toList) S1.data.toList).toArray⟩).1, splM ⟨(jn ws).data.toList.toArray⟩ 44, pc) = _
  rw [e1]
  have e2 : (⟨(decB n.toNat).data.toList.toArray⟩ : ByteArray) = decB n.toNat := rfl
  have e3 : (⟨(jn ws).data.toList.toArray⟩ : ByteArray) = jn ws := rfl
  rw [e2, e3, rdM_yes (by omega), jn_split ws h.no.1 (fun x hx => (h.no.2 x hx).1)]
  exact Prod.ext (by show ((n.toNat : Nat) : Int) = n; omega) rfl
theorem roM_yes {n : Int} {ws : List ByteArray} {pc : Bool} (h : OptP n ws) : roM (optB n ws pc) = (n, ws, pc, true) := by
  unfold roM
  rw [prM_opt h, if_pos ⟨h, rfl⟩]
theorem roM_no {s : ByteArray} (h : ∀ n ws pc, OptP n ws → optB n ws pc = s → False) : (0, [], false, false) = roM s := by
  unfold roM
  rw [if_neg fun k => h _ _ _ k.1 k.2]
theorem roM_len (s : ByteArray) : (roM s).2.1.length ≤ 4 := by
  unfold roM
  split
  · rename_i h
    exact h.1.2.2.2
  · exact Nat.zero_le _
theorem splM_len (s : ByteArray) (c : UInt8) : (splM s c).length ≤ s.size + 1 := (splD_len s c s.size 0 0).2
theorem splM_size (s : ByteArray) (c : UInt8) : ∀ x ∈ splM s c, ByteArray.size x ≤ s.size := splD_size s c s.size 0 0
theorem ro_tail (s : ByteArray) (n : Int) (ws : List ByteArray) (pc : Bool) (hp : prM s = (n, ws, pc)) : Tells F0 (fun _ : Nat => bif !(optM n ws pc).2 then some ((0 : Int), ([] : List ByteArray), false, false) else (bif !((optM n ws pc).1.toList == s.toList) then some ((0 : Int), ([] : List ByteArray), false, false) else some (n, ws, pc, true))) (· = roM s) := by
  unfold roM
  rw [hp, beq_bytes_iff]
  unfold optM
  by_cases ho : OptP n ws
  · rw [if_pos ho]
    refine T_false rfl (T_ndec (fun e => T_ret ?_) fun e => T_ret ?_)
    · rw [if_pos ⟨ho, e⟩]
    · rw [if_neg fun k => e k.2]
  · rw [if_neg ho]
    refine T_true rfl (T_ret ?_)
    rw [if_neg fun k => ho k.1]
theorem impl_ReadOption.ev (s : ByteArray) (h : s.size ≤ 1048576) : Tells F0 (fun k => impl_ReadOption.f k s) (· = roM s) := by
  have hl : s.data.toList.length = s.size := by rw [Array.length_toList]; rfl
  have t1 : (Lib.trimSuffix s.data.toList S3.data.toList).length ≤ s.size := by
    unfold Lib.trimSuffix
    split
    · rw [List.length_take]; omega
    · omega
  have t2 : ∀ l : List UInt8, l.length ≤ s.size → (Lib.cut l S2.data.toList).1.length ≤ s.size ∧ (Lib.cut l S2.data.toList).2.1.length ≤ s.size - 1 := fun l hl => by
    unfold Lib.cut
    split
    · refine ⟨by rw [List.length_take]; omega, ?_⟩
      rw [List.length_drop]
      have : S2.data.toList.length = 6 := rfl
      omega
    · exact ⟨hl, Nat.zero_le _⟩
  obtain ⟨t3, t4⟩ := t2 _ t1
  have t5 : ∀ l : List UInt8, l.length ≤ s.size → (Lib.trimPrefix l S1.data.toList).length ≤ s.size := fun l hl => by
    unfold Lib.trimPrefix
    split
    · rw [List.length_drop]; omega
    · exact hl
  have t6 := t5 _ t3
  unfold impl_ReadOption.f
  refine T_bindE (T_is fun k => by unfold strings_CutSuffix.f cutSRun; exact if_pos (by omega)) ?_
  refine T_bindE (T_is fun k => by unfold strings_Cut.f cutRun; exact if_pos (show (Lib.trimSuffix s.data.toList S3.data.toList).toArray.size < _ by rw [List.size_toArray]; omega)) ?_
  refine T_bindE (T_is fun k => by unfold strings_TrimPrefix.f trimPRun; rfl) ?_
  refine T_bindE (impl_ReadDecimal.ev _ (show (Lib.trimPrefix (Lib.cut (Lib.trimSuffix s.data.toList S3.data.toList) S2.data.toList).1 S1.data.toList).toArray.size ≤ _ by rw [List.size_toArray]; omega)) ?_
  have z : (⟨(Lib.cut (Lib.trimSuffix s.data.toList S3.data.toList) S2.data.toList).2.1.toArray⟩ : ByteArray).size ≤ s.size - 1 := by show (Lib.cut (Lib.trimSuffix s.data.toList S3.data.toList) S2.data.toList).2.1.toArray.size ≤ _; rw [List.size_toArray]; omega
  refine T_bindE (T_is fun k => by unfold strings_Split.f; exact split_run ⟨(Lib.cut (Lib.trimSuffix s.data.toList S3.data.toList) S2.data.toList).2.1.toArray⟩ 44 (by omega)) ?_
  have q1 := splM_len ⟨(Lib.cut (Lib.trimSuffix s.data.toList S3.data.toList) S2.data.toList).2.1.toArray⟩ 44
  have q2 := splM_size ⟨(Lib.cut (Lib.trimSuffix s.data.toList S3.data.toList) S2.data.toList).2.1.toArray⟩ 44
  refine T_bindE (T_call (impl_OptionText.ev _ _ _ (Nat.le_trans q1 (by omega)) (fun j hj => Nat.le_trans (q2 _ (List.getElem_mem _)) (by omega))) (fun k => k) (fun _ _ h => h)) ?_
  exact ro_tail s _ _ _ rfl
theorem spec_ReadOption.ev (s : ByteArray) (h : s.size ≤ 1048576) : Tells F0 (fun k => spec_ReadOption.f k s) (· = roM s) := by
  unfold spec_ReadOption.f
  refine T_bindE (spec_l08Split.ev s 59 (by omega)) ?_
  have key : ∀ n ws pc, OptP n ws → optB n ws pc = s → splM s 59 = [S1 ++ decB n.toNat, WW ++ jn ws] ++ if pc then [PP] else [] := fun n ws pc ho e => by rw [← e]; exact opt_split ho
  have hz := splM_size s 59
  generalize splM s 59 = L at key hz
  have bad : (∀ n ws pc, OptP n ws → L = [S1 ++ decB n.toNat, WW ++ jn ws] ++ (if pc = true then [PP] else []) → False) → ((0 : Int), ([] : List ByteArray), false, false) = roM s := fun hn => roM_no fun n ws pc ho e => hn n ws pc ho (key n ws pc ho e)
  have badl : ¬ (2 ≤ L.length ∧ L.length ≤ 3) → ((0 : Int), ([] : List ByteArray), false, false) = roM s := fun hn => bad fun n ws pc _ e => hn (by rw [e]; cases pc <;> simp)
  refine T_dec (fun g => T_ret (badl (by omega))) fun g => T_dec (fun g2 => T_ret (badl (by omega))) fun g2 => ?_
  rcases L with _ | ⟨a, _ | ⟨b, t⟩⟩
  · exact absurd g (by simp)
  · exact absurd g (by simp)
  · have hd : ∀ n ws pc, OptP n ws → a :: b :: t = [S1 ++ decB n.toNat, WW ++ jn ws] ++ (if pc = true then [PP] else []) → a = S1 ++ decB n.toNat ∧ b = WW ++ jn ws ∧ t = (if pc = true then [PP] else []) := fun n ws pc ho e => by
      simp only [List.cons_append, List.nil_append, List.cons.injEq] at e
      exact e
    have za := hz a (by simp)
    have zb := hz b (by simp)
    have c0 : ((0 : Int) < ((a :: b :: t).length : Int)) := by simp only [List.length_cons]; omega
    have c1 : ((1 : Int) < ((a :: b :: t).length : Int)) := by simp only [List.length_cons]; omega
    have z1 : S1.size = 5 := rfl
    have z2 : WW.size = 5 := rfl
    have r1 : ∀ n : Int, 1 ≤ (decB n.toNat).size := fun n => by
      have := decDigits_ne n.toNat
      have e : (decB n.toNat).size = (Lib.decDigits n.toNat).length := rfl
      have := List.length_pos_iff.2 this
      omega
    simp only [List.getElem?_cons_zero, List.getElem?_cons_succ, Option.bind_some, beq_bytes_iff, Bool.true_and]
    refine T_pos c0 (T_dec (fun g => T_ret (bad fun n ws pc ho e => ?_)) fun g3 => T_pos c1 (T_dec (fun g => T_ret (bad fun n ws pc ho e => ?_)) fun g4 => T_pos c0 (T_pos (by omega) (T_ndec (fun e1 => T_pos c1 (T_pos (by omega) (T_ndec (fun e2 => T_pos c0 (T_pos (by omega) (T_bindE (T_call (spec_ReadDecimal.ev _ (by rw [ByteArray.size_extract]; omega)) (fun k => k) (fun _ _ h => h)) (T_pos c1 (T_pos (by omega) (T_bindE (T_call (spec_l08Split.ev _ 44 (by rw [ByteArray.size_extract]; omega)) (fun k => k) (fun _ _ h => h)) ?_)))))) fun e2 => T_ret (bad fun n ws pc ho e => ?_)))) fun e1 => T_ret (bad fun n ws pc ho e => ?_)))))
    · have := (hd n ws pc ho e).1
      have := r1 n
      rw [‹a = _›, ByteArray.size_append] at g
      omega
    · have hb := (hd n ws pc ho e).2.1
      have := jn_pos ho.no.1 (fun x hx => (ho.no.2 x hx).2.2)
      rw [hb, ByteArray.size_append] at g
      omega
    · have q1 := splM_len (b.extract 5 b.size) 44
      have q2 := splM_size (b.extract 5 b.size) 44
      rw [ByteArray.size_extract] at q1 q2
      refine T_bindE (T_call (spec_OptionText.ev _ _ _ (by omega) (fun j hj => Nat.le_trans (q2 _ (List.getElem_mem _)) (by omega))) (fun k => k) (fun _ _ h => h)) ?_
      have good : ∀ n ws pc, OptP n ws → optB n ws pc = s → rdM (a.extract 5 a.size) = (n, true) ∧ splM (b.extract 5 b.size) 44 = ws ∧ (((a :: b :: t).length : Int) == 3) = pc := fun n ws pc ho e => by
        obtain ⟨h1, h2, h3⟩ := hd n ws pc ho (key n ws pc ho e)
        refine ⟨?_, ?_, ?_⟩
        · have := ho.2.1
          rw [h1, ← z1, app_tail, rdM_yes (by omega)]
          exact Prod.ext (by show ((n.toNat : Nat) : Int) = n; omega) rfl
        · rw [h2, ← z2, app_tail, jn_split ws ho.no.1 (fun x hx => (ho.no.2 x hx).1)]
        · rw [h3]
          cases pc <;> rfl
      generalize rdM (a.extract 5 a.size) = r at good
      generalize splM (b.extract 5 b.size) 44 = ws' at good
      generalize (((a :: b :: t).length : Int) == 3) = pc' at good
      have no : ¬ (r.2 = true ∧ OptP r.1 ws' ∧ optB r.1 ws' pc' = s) → ((0 : Int), ([] : List ByteArray), false, false) = roM s := fun hn => roM_no fun n ws pc ho e => by
        obtain ⟨h1, h2, h3⟩ := good n ws pc ho e
        subst h2 h3
        rw [h1] at hn
        exact hn ⟨rfl, ho, e⟩
      obtain ⟨n, ok⟩ := r
      cases ok with
      | false => exact T_true rfl (T_ret (no fun k => absurd k.1 (by simp)))
      | true =>
        refine T_false rfl ?_
        unfold optM
        by_cases ho : OptP n ws'
        · rw [if_pos ho]
          refine T_false rfl (T_ndec (fun e => T_ret ?_) fun e => T_ret (no fun k => e k.2.2))
          rw [← e, roM_yes ho]
        · rw [if_neg ho]
          exact T_true rfl (T_ret (no fun k => ho k.2.1))
    · have hb := (hd n ws pc ho e).2.1
      exact e2 (by rw [hb, ← z2, app_head]; rfl)
    · have ha := (hd n ws pc ho e).1
      exact e1 (by rw [ha, ← z1, app_head]; rfl)

noncomputable def inB (wb : List ByteArray) (w : ByteArray) : Bool := @decide (w ∈ wb) (Classical.propDecidable _)
theorem inB_iff {wb : List ByteArray} {w : ByteArray} : inB wb w = true ↔ w ∈ wb := @decide_eq_true_iff _ (Classical.propDecidable _)
def agreeF (sa : Int) (wa : List ByteArray) (pa : Bool) (sb : Int) (wb : List ByteArray) (pb : Bool) : Option ByteArray → Int × List ByteArray × Bool × Bool
  | some w => (if sb < sa then sb else sa, [w], pa && pb, true)
  | none => (0, [], false, false)
open Classical in
noncomputable def agreeM (sa : Int) (wa : List ByteArray) (pa : Bool) (sb : Int) (wb : List ByteArray) (pb : Bool) : Int × List ByteArray × Bool × Bool :=
  if OptP sa wa ∧ OptP sb wb then agreeF sa wa pa sb wb pb (wa.find? (inB wb)) else (0, [], false, false)
section
variable (sa : Int) (wa : List ByteArray) (pa : Bool) (sb : Int) (wb : List ByteArray) (pb : Bool)
theorem agree_len : (agreeM sa wa pa sb wb pb).2.1.length ≤ 1 := by
  unfold agreeM
  split
  · cases (wa.find? (inB wb)) <;> simp [agreeF]
  · simp
theorem spec_Agree.ev (ha : wa.length ≤ 1048576) (hsa : ∀ j (h : j < wa.length), ByteArray.size wa[j] ≤ 1048576) (hb : wb.length ≤ 1048576) (hsb : ∀ j (h : j < wb.length), ByteArray.size wb[j] ≤ 1048576) : Tells F0 (fun k => spec_Agree.f k sa wa pa sb wb pb) (· = agreeM sa wa pa sb wb pb) := by
  have hh : ∀ s p, Tells F0 (fun k => spec_Agree.l0 k k ((0 : Int), wa, wb, sa, pa, sb, pb, (0 : Int), false, s, p, [], [])) (· = (match (wa.find? (inB wb)) with | some w => (s, [w], p, true) | none => (0, [], false, false))) := by
    intro s p
    have hh := T_loop (F := F0) (fun k j i => spec_Agree.l0 k j ((i : Int), wa, wb, sa, pa, sb, pb, (0 : Int), false, s, p, [], [])) wa.length (fun i r => r = (match ((wa.drop i).find? (inB wb)) with | some w => (s, [w], p, true) | none => (0, [], false, false))) (fun i hi he => by
      rw [find_step _ _ _ hi]
      dsimp only [spec_Agree.l0, spec_Agree.s0]
      simp only [Int.toNat_natCast]
      rw [wrs hi (by omega)]
      refine T_pos (by omega) (T_get hi (T_bind (T_call (spec_l15Has.ev wb wa[i] hb) Prod.fst (fun _ _ h => h.1)) fun r hr => ?_))
      cases r with
      | true => rw [if_pos (inB_iff.2 (hr.1 rfl))]; exact T_true rfl (T_get hi (T_ret rfl))
      | false => rw [if_neg (fun c => by have := hr.2 (inB_iff.1 c); cases this)]; exact T_false rfl he) (by
      dsimp only [spec_Agree.l0, spec_Agree.s0]
      exact T_neg (by omega) (T_ret (by rw [List.drop_length]; rfl))) 0 (Nat.zero_le _)
    exact T_in (g := fun x j => spec_Agree.l0 x j _) hh (fun k => k) (fun _ _ h => h)
  unfold spec_Agree.f agreeM
  refine T_bind (spec_OptionsOk.ev sa wa pa ha hsa) fun r hr => ?_
  cases r with
  | false => rw [if_neg fun c => by have := hr.2 c.1; cases this]; exact T_true rfl (T_ret rfl)
  | true =>
  refine T_false rfl (T_bind (spec_OptionsOk.ev sb wb pb hb hsb) fun r2 hr2 => ?_)
  cases r2 with
  | false => rw [if_neg fun c => by have := hr2.2 c.2; cases this]; exact T_true rfl (T_ret rfl)
  | true =>
  rw [if_pos ⟨hr.1 rfl, hr2.1 rfl⟩]
  refine T_false rfl (T_bif (fun e => T_dec (fun c => T_mono (hh sb pb) ?_) fun c => T_mono (hh sa pb) ?_) fun e => T_dec (fun c => T_mono (hh sb false) ?_) fun c => T_mono (hh sa false) ?_)
  all_goals
    rintro _ rfl
    cases (wa.find? (inB wb)) <;> simp [agreeF, c, e]
theorem impl_Agree.ev (ha : wa.length ≤ 1048576) (hsa : ∀ j (h : j < wa.length), ByteArray.size wa[j] ≤ 1048576) (hb : wb.length ≤ 1048576) (hsb : ∀ j (h : j < wb.length), ByteArray.size wb[j] ≤ 1048576) : Tells F0 (fun k => impl_Agree.f k sa wa pa sb wb pb) (· = agreeM sa wa pa sb wb pb) := by
  have hh : Tells F0 (fun k => impl_Agree.l0 k k ((wa.length : Int), (0 : Int), wa, wb, sa, pa, sb, pb, (0 : Int), false, [])) (· = agreeF sa wa pa sb wb pb (wa.find? (inB wb))) := by
    have hh := T_loop (F := F0) (fun k j i => impl_Agree.l0 k j ((wa.length : Int), (i : Int), wa, wb, sa, pa, sb, pb, (0 : Int), false, [])) wa.length (fun i r => r = agreeF sa wa pa sb wb pb ((wa.drop i).find? (inB wb))) (fun i hi he => by
      rw [find_step _ _ _ hi]
      dsimp only [impl_Agree.l0, impl_Agree.s0]
      simp only [Int.toNat_natCast]
      rw [wrs hi (by omega)]
      refine T_pos (by omega) (T_get hi (T_bind (T_call (slices_Contains_string_string.ev wb wa[i] hb) Prod.fst (fun _ _ h => h.1)) fun r hr => ?_))
      cases r with
      | true =>
        rw [if_pos (inB_iff.2 (hr.1 rfl))]
        have e1 : (bif decide (sb < sa) then sb else sa) = if sb < sa then sb else sa := by by_cases h : sb < sa <;> simp [h]
        exact T_true rfl (T_bif (fun e => T_ret (by simp [agreeF, e, e1])) fun e => T_ret (by simp [agreeF, e, e1]))
      | false => rw [if_neg (fun c => by have := hr.2 (inB_iff.1 c); cases this)]; exact T_false rfl he) (by
      dsimp only [impl_Agree.l0, impl_Agree.s0]
      exact T_neg (by omega) (T_ret (by rw [List.drop_length]; rfl))) 0 (Nat.zero_le _)
    exact T_in (g := fun x j => impl_Agree.l0 x j _) hh (fun k => k) (fun _ _ h => h)
  unfold impl_Agree.f agreeM
  refine T_bind (impl_OptionsOk.ev sa wa pa ha hsa) fun r hr => ?_
  cases r with
  | false => rw [if_neg fun c => by have := hr.2 c.1; cases this]; exact T_true rfl (T_ret rfl)
  | true =>
  refine T_false rfl (T_bind (impl_OptionsOk.ev sb wb pb hb hsb) fun r2 hr2 => ?_)
  cases r2 with
  | false => rw [if_neg fun c => by have := hr2.2 c.2; cases this]; exact T_true rfl (T_ret rfl)
  | true =>
  rw [if_pos ⟨hr.1 rfl, hr2.1 rfl⟩]
  exact T_false rfl hh
end

def CurOk (l : List Int) (i : Int) : Prop := 0 ≤ i ∧ i ≤ l.length ∧ l.length ≤ 1048576
theorem bits255 (x : BitVec IntKind.i64.bits) : 0 ≤ IntKind.i64.wrap ((x &&& BitVec.ofInt IntKind.i64.bits (255 : Int)).toNat : Int) ∧ IntKind.i64.wrap ((x &&& BitVec.ofInt IntKind.i64.bits (255 : Int)).toNat : Int) ≤ 255 := by
  have h : (x &&& BitVec.ofInt IntKind.i64.bits (255 : Int)).toNat ≤ 255 := by
    rw [BitVec.toNat_and]
    exact Nat.le_trans Nat.and_le_right (by decide)
  rw [wr64 (by omega) (by omega)]
  omega
theorem spec_l01Byte.ev (l : List Int) (i h : Int) (hc : CurOk l i) : Tells F0 (fun k => spec_l01Byte.f k l i h) (fun r => (0 ≤ r.1 ∧ r.1 ≤ 255) ∧ CurOk r.2.1 r.2.2.1) := by
  unfold spec_l01Byte.f
  obtain ⟨h0, h1, h2⟩ := hc
  obtain ⟨m, rfl⟩ := Int.eq_ofNat_of_zero_le h0
  refine T_dec (fun e => T_get (by omega) (T_ret ⟨bits255 _, ?_⟩)) fun e => T_ret ⟨bits255 _, h0, h1, h2⟩
  show CurOk l (IntKind.i64.wrap ((m : Int) + 1))
  rw [wr64 (by omega) (by omega)]
  exact ⟨by omega, by omega, h2⟩
theorem spec_l01Below.ev (l : List Int) (i h n : Int) (hc : CurOk l i) (hn : n ≤ 9223372036854775807) : Tells F0 (fun k => spec_l01Below.f k l i h n) (fun r => (0 ≤ r.1 ∧ (0 < n → r.1 < n) ∧ (n ≤ 0 → r.1 = 0)) ∧ CurOk r.2.1 r.2.2.1) := by
  unfold spec_l01Below.f
  refine T_dec (fun h1 => T_ret ⟨⟨Int.le_refl _, fun h => by omega, fun _ => rfl⟩, hc⟩) (fun h1 => T_dec (fun h2 => ?_) (fun h2 => ?_))
  · refine T_bind (spec_l01Byte.ev l i h hc) fun r hr => T_beq (fun e => by omega) fun _ => T_ret ⟨?_, hr.2⟩
    dsimp only
    rw [Int.tmod_eq_emod_of_nonneg hr.1.1]
    have a := Int.emod_nonneg r.1 (show n ≠ 0 by omega)
    have b := Int.emod_lt_of_pos r.1 (show 0 < n by omega)
    exact ⟨a, fun _ => b, fun h => by omega⟩
  · refine T_bind (spec_l01Byte.ev l i h hc) fun x hx => T_bind (spec_l01Byte.ev _ _ _ hx.2) fun y hy => T_bind (spec_l01Byte.ev _ _ _ hy.2) fun z hz => T_bind (spec_l01Byte.ev _ _ _ hz.2) fun w hw => T_beq (fun e => by omega) fun _ => T_ret ⟨?_, hw.2⟩
    dsimp only
    rw [wr64 (x := x.1 * 16777216) (by omega) (by omega), wr64 (x := y.1 * 65536) (by omega) (by omega), wr64 (x := z.1 * 256) (by omega) (by omega), wr64 (x := x.1 * 16777216 + y.1 * 65536) (by omega) (by omega), wr64 (x := x.1 * 16777216 + y.1 * 65536 + z.1 * 256) (by omega) (by omega), wr64 (x := x.1 * 16777216 + y.1 * 65536 + z.1 * 256 + w.1) (by omega) (by omega)]
    rw [Int.tmod_eq_emod_of_nonneg (by omega)]
    have a := Int.emod_nonneg (x.1 * 16777216 + y.1 * 65536 + z.1 * 256 + w.1) (show n ≠ 0 by omega)
    have b := Int.emod_lt_of_pos (x.1 * 16777216 + y.1 * 65536 + z.1 * 256 + w.1) (show 0 < n by omega)
    exact ⟨a, fun _ => b, fun h => by omega⟩
theorem spec_l01PickInt.ev (l : List Int) (i h : Int) (p : List Int) (hc : CurOk l i) (hp : 0 < p.length) (hp2 : p.length ≤ 1000) : Tells F0 (fun k => spec_l01PickInt.f k l i h p) (fun r => r.1 ∈ p ∧ CurOk r.2.1 r.2.2.1) := by
  unfold spec_l01PickInt.f
  refine T_bind (spec_l01Below.ev l i h _ hc (by omega)) fun r hr => ?_
  obtain ⟨r1, r2⟩ := r
  obtain ⟨⟨q0, q1, _⟩, q2⟩ := hr
  have q1 := q1 (by omega)
  dsimp only at q0 q1 q2 ⊢
  obtain ⟨m, rfl⟩ := Int.eq_ofNat_of_zero_le q0
  exact T_get (by omega) (T_ret ⟨List.getElem_mem _, q2⟩)
theorem spec_l01New.ev (l : List Int) (hn : l.length ≤ 1048576) : Tells F0 (fun k => spec_l01New.f k l) (fun r => r.1 = l ∧ CurOk r.1 r.2.1) := by
  unfold spec_l01New.f
  have h := T_loops (F := F0) (fun k j (s : Int) i => spec_l01New.l0 k j (s, (i : Int), l)) l.length (fun _ _ => True) (fun _ _ r => r.1 = l ∧ CurOk r.1 r.2.1) (fun i s hi _ he => by
    dsimp only [spec_l01New.l0, spec_l01New.s0]
    simp only [Int.toNat_natCast]
    rw [wrs hi (by omega)]
    exact T_pos (by omega) (T_dec (fun _ => T_get hi (he _ trivial)) fun _ => T_ret ⟨rfl, Int.le_refl _, by show (0 : Int) ≤ _; omega, hn⟩)) (fun s _ => by
    dsimp only [spec_l01New.l0, spec_l01New.s0]
    exact T_neg (by omega) (T_ret ⟨rfl, Int.le_refl _, by show (0 : Int) ≤ _; omega, hn⟩)) 0 (IntKind.i64.wrap ((36201 : Int) + (l.length : Int))) (Nat.zero_le _) trivial
  exact T_in (g := fun x j => spec_l01New.l0 x j _) (by simpa using h) (fun k => k) (fun _ _ h => h)
theorem laws_big.eq (k : Nat) (l : List Int) : laws_big.f k l = some (decide (l.length > 1048576)) := by
  unfold laws_big.f
  congr 1
  simp
  omega

/-! Texts that are drawn. -/
theorem strn_size (l : List Int) : (strOfNums l).size = l.length := by simp [strOfNums, ByteArray.size]
theorem spec_l01Text.ev (l : List Int) (i h n : Int) (hc : CurOk l i) (h0 : 0 ≤ n) (hn : n ≤ 5000) : Tells F0 (fun k => spec_l01Text.f k l i h n) (fun r => (r.1.size : Int) = n ∧ CurOk r.2.1 r.2.2.1) := by
  obtain ⟨m, rfl⟩ := Int.eq_ofNat_of_zero_le h0
  have hh := T_loops (F := F0) (fun k j (s : List Int × List Int × Int × Int) a => spec_l01Text.l0 k j ((m : Int), (a : Int), s.2.2.1, s.2.2.2, l, s.2.1, s.1)) m (fun a s => s.1.length = a ∧ CurOk s.2.1 s.2.2.1) (fun _ _ r => (r.1.size : Int) = (m : Int) ∧ CurOk r.2.1 r.2.2.1) (fun a s ha hs he => by
    obtain ⟨o, cl, ci, ch⟩ := s
    obtain ⟨h1, h2⟩ := hs
    dsimp only at h1 h2
    dsimp only [spec_l01Text.l0, spec_l01Text.s0]
    rw [wrs ha (by omega)]
    exact T_pos (by omega) (T_bind (T_call (spec_l01Byte.ev cl ci ch h2) Prod.fst (fun _ _ h => h.1)) fun r hr => T_pos (by simp only [List.length_singleton]; omega) (he (_, _, _, _) ⟨by simp only [List.length_append, List.length_singleton]; omega, hr.2⟩))) (fun s hs => by
    obtain ⟨o, cl, ci, ch⟩ := s
    obtain ⟨h1, h2⟩ := hs
    dsimp only at h1 h2
    dsimp only [spec_l01Text.l0, spec_l01Text.s0]
    exact T_neg (by omega) (T_ret ⟨by dsimp only; rw [strn_size, h1], h2⟩)) 0 ([], l, i, h) (Nat.zero_le _) ⟨rfl, hc⟩
  unfold spec_l01Text.f
  exact T_neg (by omega) (T_in (g := fun x j => spec_l01Text.l0 x j _) (by simpa using hh) (fun k => k) (fun _ _ h => h))
theorem spec_l01Pick.ev (l : List Int) (i h : Int) (p : List ByteArray) (hc : CurOk l i) (hp : 0 < p.length) (hp2 : p.length ≤ 1000) : Tells F0 (fun k => spec_l01Pick.f k l i h p) (fun r => r.1 ∈ p ∧ CurOk r.2.1 r.2.2.1) := by
  unfold spec_l01Pick.f
  refine T_bind (spec_l01Below.ev l i h _ hc (by omega)) fun r hr => ?_
  obtain ⟨r1, r2⟩ := r
  obtain ⟨⟨q0, q1, _⟩, q2⟩ := hr
  have q1 := q1 (by omega)
  dsimp only at q0 q1 q2 ⊢
  obtain ⟨m, rfl⟩ := Int.eq_ofNat_of_zero_le q0
  exact T_get (by omega) (T_ret ⟨List.getElem_mem _, q2⟩)
theorem spec_l02Spoilt.ev (l : List Int) (i h : Int) (s : ByteArray) (hc : CurOk l i) (hs : s.size ≤ 1000000) : Tells F0 (fun k => spec_l02Spoilt.f k l i h s) (fun r => r.1.size ≤ s.size + 1 ∧ CurOk r.2.1 r.2.2.1) := by
  have mid : ∀ (l : List Int) (i h : Int), CurOk l i → Tells F0 (fun k => bif (decide ((s.size : Int) > (0 : Int))) then (spec_l01Below.f k l i h (s.size : Int)).bind fun r4 => (bif ((decide ((0 : Int) ≤ r4.1)) && (decide (r4.1 ≤ (s.size : Int)))) then (spec_l01Text.f k r4.2.1 r4.2.2.1 r4.2.2.2 (1 : Int)).bind fun r5 => (bif decide ((s.extract 0 r4.1.toNat).size + r5.1.size ≤ 140737488351232) then (bif ((decide ((0 : Int) ≤ (IntKind.i64.wrap (r4.1 + (1 : Int))))) && (decide ((IntKind.i64.wrap (r4.1 + (1 : Int))) ≤ (s.size : Int)))) then (bif decide (((s.extract 0 r4.1.toNat) ++ r5.1).size + (s.extract (IntKind.i64.wrap (r4.1 + (1 : Int))).toNat s.size).size ≤ 140737488351232) then some ((((s.extract 0 r4.1.toNat) ++ r5.1) ++ (s.extract (IntKind.i64.wrap (r4.1 + (1 : Int))).toNat s.size)), r5.2.1, r5.2.2.1, r5.2.2.2) else none) else none) else none) else none) else some (s, l, i, h)) (fun r => r.1.size ≤ s.size + 1 ∧ CurOk r.2.1 r.2.2.1) := by
    intro l i h hc
    refine T_dec (fun g => T_bind (spec_l01Below.ev l i h _ hc (by omega)) fun r4 h4 => ?_) fun g => T_ret ⟨by dsimp only; omega, hc⟩
    obtain ⟨r41, r42⟩ := r4
    obtain ⟨⟨q0, q1, _⟩, q2⟩ := h4
    have q1 := q1 (by omega)
    dsimp only at q0 q1 q2 ⊢
    obtain ⟨m, rfl⟩ := Int.eq_ofNat_of_zero_le q0
    refine T_and (by omega) (by omega) (T_bind (spec_l01Text.ev _ _ _ 1 q2 (by omega) (by omega)) fun r5 h5 => ?_)
    obtain ⟨z5, c5⟩ := h5
    have hm : m < s.size := by omega
    have z5 : r5.1.size = 1 := by omega
    have e : IntKind.i64.wrap (((m : Nat) : Int) + 1) = ((m + 1 : Nat) : Int) := by rw [wr64 (by omega) (by omega)]; omega
    have z1 : (s.extract 0 m).size = m := by rw [ByteArray.size_extract]; omega
    have z2 : (s.extract (m + 1) s.size).size = s.size - (m + 1) := by rw [ByteArray.size_extract]; omega
    rw [e]
    simp only [Int.ofNat_eq_natCast, Int.toNat_natCast]
    refine T_pos (by omega) (T_and (by omega) (by omega) (T_pos (by rw [ByteArray.size_append]; omega) (T_ret ⟨?_, c5⟩)))
    dsimp only
    rw [ByteArray.size_append, ByteArray.size_append]
    omega
  unfold spec_l02Spoilt.f
  refine T_bind (spec_l01Below.ev l i h 12 hc (by omega)) fun r1 h1 => ?_
  refine T_beq (fun _ => T_bind (spec_l01Text.ev _ _ _ 1 h1.2 (by omega) (by omega)) fun r2 h2 => T_pos (by omega) (T_ret ⟨by dsimp only; rw [ByteArray.size_append]; omega, h2.2⟩)) fun _ => ?_
  refine T_beq (fun _ => T_bind (spec_l01Below.ev _ _ _ _ h1.2 (by rw [wr64 (by omega) (by omega)]; omega)) fun r3 h3 => ?_) fun _ => ?_
  · obtain ⟨⟨q0, q1, _⟩, q2⟩ := h3
    rw [wr64 (by omega) (by omega)] at q1
    have q1 := q1 (by omega)
    exact T_and (by omega) (by omega) (T_ret ⟨by dsimp only; rw [ByteArray.size_extract]; omega, q2⟩)
  · refine T_beq (fun e => ?_) fun _ => T_beq (fun _ => mid _ _ _ h1.2) fun _ => T_ret ⟨by dsimp only; omega, h1.2⟩
    exact T_beq (fun _ => mid _ _ _ h1.2) fun k => absurd e k

theorem spec_l01Once.ev (l : List Int) (i h n : Int) (hc : CurOk l i) (hn : n ≤ 9223372036854775807) : Tells F0 (fun k => spec_l01Once.f k l i h n) (fun r => CurOk r.2.1 r.2.2.1) := by
  unfold spec_l01Once.f
  exact T_bind (spec_l01Below.ev l i h n hc hn) fun r hr => T_ret hr.2
theorem optP_of {n : Int} {ws : List ByteArray} (hn : 20 ≤ n ∧ n ≤ 60) (h1 : 1 ≤ ws.length) (h4 : ws.length ≤ 4) (hw : ∀ x ∈ ws, wayB x = true) (hd : ws.Nodup) : OptP n ws := by
  refine ⟨fun i hi hi' => ⟨hw _ (List.getElem_mem _), fun hm => ?_⟩, hn, h1, h4⟩
  obtain ⟨j, hj, e⟩ := List.getElem_of_mem hm
  rw [List.length_take] at hj
  rw [List.getElem_take] at e
  exact (List.pairwise_iff_getElem.1 hd) j i (by omega) hi (by omega) e
theorem spec_l15Options.ev (l : List Int) (i h : Int) (hc : CurOk l i) : Tells F0 (fun k => spec_l15Options.f k l i h) (fun r => OptP r.1 r.2.1 ∧ CurOk r.2.2.2.1 r.2.2.2.2.1) := by
  unfold spec_l15Options.f
  refine T_bind (spec_l01Below.ev l i h 41 hc (by omega)) fun r1 h1 => T_bind (spec_l01Once.ev _ _ _ 2 h1.2 (by omega)) fun r2 h2 => ?_
  have b0 := h1.1.1
  have b1 := h1.1.2.1 (by omega)
  rw [wr64 (by omega) (by omega)]
  generalize hz : (20 : Int) + r1.1 = sz
  generalize r2.1 = pc
  have hh := T_loops (F := F0) (fun k j (s : List ByteArray × List Int × Int × Int) a => spec_l15Options.l0 k j ((a : Int), s.2.2.1, s.2.2.2, l, (0 : Int), false, sz, pc, ([] : List ByteArray), s.1, s.2.1)) 4 (fun a s => (s.1.length ≤ a ∧ (1 ≤ a → 1 ≤ s.1.length) ∧ (∀ x ∈ s.1, wayB x = true) ∧ s.1.Nodup) ∧ CurOk s.2.1 s.2.2.1) (fun _ _ r => OptP r.1 r.2.1 ∧ CurOk r.2.2.2.1 r.2.2.2.2.1) (fun a s ha hs he => by
    obtain ⟨ws, cl, ci, ch⟩ := s
    obtain ⟨⟨g1, g2, g3, g4⟩, hC⟩ := hs
    dsimp only at g1 g2 g3 g4 hC
    dsimp only [spec_l15Options.l0, spec_l15Options.s0]
    rw [wrs ha (by omega)]
    refine T_bind (T_call (spec_l01Below.ev cl ci ch 4 hC (by omega)) Prod.fst (fun _ _ h => h.1)) fun r3 h3 => ?_
    have c0 := h3.1.1
    have c1 := h3.1.2.1 (by omega)
    rw [wr64 (x := 1 + r3.1) (by omega) (by omega)]
    refine T_dec (fun g => T_bind (T_call (spec_l01Pick.ev _ _ _ _ h3.2 (by decide) (by decide)) Prod.fst (fun _ _ h => h.1)) fun r4 h4 => T_bind (T_call (spec_l15Has.ev ws r4.1 (by omega)) Prod.fst (fun _ _ h => h.1)) fun r5 h5 => ?_) fun g => T_ret ⟨optP_of ⟨by dsimp only; omega, by dsimp only; omega⟩ (g2 (by omega)) (by dsimp only; omega) g3 g4, h3.2⟩
    cases r5 with
    | true =>
      have hm := h5.1 rfl
      have hp := List.length_pos_of_mem hm
      exact T_false rfl (he (_, _, _, _) ⟨⟨by dsimp only; omega, fun _ => hp, g3, g4⟩, h4.2⟩)
    | false =>
      have hm : r4.1 ∉ ws := fun k => by have := h5.2 k; cases this
      have hv : wayB r4.1 = true := (show ∀ x ∈ [(⟨#[97, 49]⟩ : ByteArray), (⟨#[98, 50]⟩ : ByteArray), (⟨#[99, 51]⟩ : ByteArray), (⟨#[100, 100]⟩ : ByteArray)], wayB x = true by decide) _ h4.1
      refine T_true rfl (T_pos (by simp only [List.length_singleton]; omega) (he (_, _, _, _) ⟨⟨by simp only [List.length_append, List.length_singleton]; omega, fun _ => by simp only [List.length_append, List.length_singleton]; omega, fun x hx => ?_, ?_⟩, h4.2⟩))
      · rcases List.mem_append.1 hx with hx | hx
        · exact g3 x hx
        · rw [List.mem_singleton.1 hx]; exact hv
      · refine List.nodup_append.2 ⟨g4, by simp, fun x hx y hy => ?_⟩
        rw [List.mem_singleton.1 hy]
        exact fun k => hm (k ▸ hx)) (fun s hs => by
    obtain ⟨ws, cl, ci, ch⟩ := s
    obtain ⟨⟨g1, g2, g3, g4⟩, hC⟩ := hs
    dsimp only at g1 g2 g3 g4 hC
    dsimp only [spec_l15Options.l0, spec_l15Options.s0]
    refine T_bind (T_call (spec_l01Below.ev cl ci ch 4 hC (by omega)) Prod.fst (fun _ _ h => h.1)) fun r3 h3 => ?_
    have c0 := h3.1.1
    have c1 := h3.1.2.1 (by omega)
    rw [wr64 (x := 1 + r3.1) (by omega) (by omega)]
    exact T_neg (by omega) (T_ret ⟨optP_of ⟨by dsimp only; omega, by dsimp only; omega⟩ (g2 (by omega)) (by dsimp only; omega) g3 g4, h3.2⟩)) 0 ([], r2.2.1, r2.2.2.1, r2.2.2.2) (Nat.zero_le _) ⟨⟨by simp, fun k => absurd k (by omega), fun x hx => absurd hx List.not_mem_nil, List.nodup_nil⟩, h2⟩
  exact T_in (g := fun x j => spec_l15Options.l0 x j _) (by simpa using hh) (fun k => k) (fun _ _ h => h)
theorem spec_DrawOptions.ev (l : List Int) (hn : l.length ≤ 1048576) : Tells F0 (fun k => spec_DrawOptions.f k l) (fun r => OptP r.1 r.2.1 ∧ OptP r.2.2.2.1 r.2.2.2.2.1) := by
  unfold spec_DrawOptions.f
  exact T_bind (spec_l01New.ev l hn) fun c hc => T_bind (spec_l15Options.ev _ _ _ hc.2) fun r2 h2 => T_bind (spec_l15Options.ev _ _ _ h2.2) fun r3 h3 => T_ret ⟨h2.1, h3.1⟩
theorem wayB_size {s : ByteArray} (h : wayB s = true) : s.size ≤ 8 := by
  unfold wayB at h
  simp only [Bool.and_eq_true, decide_eq_true_eq] at h
  exact h.2.2
theorem OptP.sizes {n : Int} {ws : List ByteArray} (h : OptP n ws) : ws.length ≤ 4 ∧ ∀ x ∈ ws, ByteArray.size x ≤ 8 := ⟨h.2.2.2, fun x hx => h.ways.1 x hx⟩
theorem spec_l15Any.ev (l : List Int) (i h : Int) (hc : CurOk l i) : Tells F0 (fun k => spec_l15Any.f k l i h) (fun r => (r.2.1.length ≤ 5 ∧ ∀ x ∈ r.2.1, ByteArray.size x ≤ 9) ∧ CurOk r.2.2.2.1 r.2.2.2.2.1) := by
  unfold spec_l15Any.f
  refine T_bind (spec_l15Options.ev l i h hc) fun r1 h1 => T_bind (spec_l01Below.ev _ _ _ 12 h1.2 (by omega)) fun r2 h2 => ?_
  obtain ⟨z1, z2⟩ := h1.1.sizes
  have z3 : ∀ x ∈ r1.2.1, ByteArray.size x ≤ 9 := fun x hx => Nat.le_trans (z2 x hx) (by omega)
  refine T_beq (fun _ => T_bind (spec_l01PickInt.ev _ _ _ _ h2.2 (by decide) (by decide)) fun r3 h3 => T_ret ⟨⟨by dsimp only; omega, z3⟩, h3.2⟩) fun _ => ?_
  refine T_beq (fun _ => T_bind (spec_l01Pick.ev _ _ _ _ h2.2 (by decide) (by decide)) fun r4 h4 => T_pos (by simp only [List.length_singleton]; omega) (T_ret ⟨⟨by simp only [List.length_append, List.length_singleton]; omega, fun x hx => ?_⟩, h4.2⟩)) fun _ => ?_
  · rcases List.mem_append.1 hx with hx | hx
    · exact z3 x hx
    · rw [List.mem_singleton.1 hx]
      exact (show ∀ x ∈ [ByteArray.empty, (⟨#[65]⟩ : ByteArray), (⟨#[97, 49]⟩ : ByteArray), (⟨#[97, 98, 99, 100, 101, 102, 103, 104, 105]⟩ : ByteArray)], ByteArray.size x ≤ 9 by decide) _ h4.1
  · exact T_beq (fun _ => T_ret ⟨⟨Nat.zero_le _, fun x hx => absurd hx List.not_mem_nil⟩, h2.2⟩) fun _ => T_ret ⟨⟨by dsimp only; omega, z3⟩, h2.2⟩
theorem optM_size (n : Int) (ws : List ByteArray) (pc : Bool) : (optM n ws pc).1.size ≤ 99 := by
  unfold optM
  split
  · rename_i h
    obtain ⟨z1, z2⟩ := optB_size pc h
    have y1 : S1.size = 5 := rfl
    have y2 : S2.size = 6 := rfl
    have y3 : (if pc = true then S3 else ByteArray.empty).size ≤ 7 := by cases pc <;> decide
    unfold optB
    simp only [ByteArray.size_append]
    omega
  · exact Nat.zero_le _
theorem spec_DrawReadOption.ev (l : List Int) (hn : l.length ≤ 1048576) : Tells F0 (fun k => spec_DrawReadOption.f k l) (fun r => r.size ≤ 999) := by
  unfold spec_DrawReadOption.f
  refine T_bind (spec_l01New.ev l hn) fun c hc => T_bind (spec_l15Any.ev _ _ _ hc.2) fun r2 h2 => T_bindE (spec_OptionText.ev _ _ _ (by have := h2.1.1; omega) (fun j hj => Nat.le_trans (h2.1.2 _ (List.getElem_mem _)) (by omega))) (T_bind (spec_l01Below.ev _ _ _ 6 h2.2 (by omega)) fun r4 h4 => ?_)
  have hz := optM_size r2.1 r2.2.1 r2.2.2.1
  refine T_beq (fun _ => T_bind (spec_l01Pick.ev _ _ _ _ h4.2 (by decide) (by decide)) fun r5 h5 => T_ret ?_) fun _ => T_beq (fun _ => T_bind (spec_l02Spoilt.ev _ _ _ _ h4.2 (by omega)) fun r6 h6 => T_ret (by have := h6.1; omega)) fun _ => T_ret (by omega)
  exact (show ∀ x ∈ [ByteArray.empty, (⟨#[115, 105, 122, 101, 32, 51, 48]⟩ : ByteArray), (⟨#[115, 105, 122, 101, 32, 51, 48, 59, 119, 97, 121, 115]⟩ : ByteArray), (⟨#[115, 105, 122, 101, 32, 51, 48, 59, 119, 97, 121, 115, 32, 97, 59, 112, 105, 101, 99, 101, 115, 59]⟩ : ByteArray), (⟨#[115, 105, 122, 101, 32, 48, 51, 48, 59, 119, 97, 121, 115, 32, 97]⟩ : ByteArray), (⟨#[119, 97, 121, 115, 32, 97, 59, 115, 105, 122, 101, 32, 51, 48]⟩ : ByteArray), (⟨#[115, 105, 122, 101, 32, 51, 48, 59, 119, 97, 121, 115, 32, 97, 59, 112, 105, 101, 99, 101, 115]⟩ : ByteArray)], ByteArray.size x ≤ 999 by decide) _ h5.1
theorem laws_sameTexts.ev (l : List ByteArray) (hn : l.length ≤ 1048576) : Tells F0 (fun k => laws_sameTexts.f k l l) (· = true) := by
  have h := T_loop (F := F0) (fun k j i => laws_sameTexts.l0 k j ((i : Int), l, l)) l.length (fun _ r => r = true) (fun i hi he => by
    dsimp only [laws_sameTexts.l0, laws_sameTexts.s0]
    simp only [Int.toNat_natCast]
    rw [wrs hi (by omega)]
    exact T_pos (by omega) (T_get hi (T_get hi (T_false (by simp) he)))) (by
    dsimp only [laws_sameTexts.l0, laws_sameTexts.s0]
    exact T_neg (by omega) (T_ret rfl)) 0 (Nat.zero_le _)
  unfold laws_sameTexts.f
  exact T_false (by simp) (T_in (g := fun x j => laws_sameTexts.l0 x j _) (by simpa using h) (fun k => k) (fun _ _ h => h))
theorem agree_yes {sa : Int} {wa : List ByteArray} {pa : Bool} {sb : Int} {wb : List ByteArray} {pb : Bool} (ha : OptP sa wa) (hb : OptP sb wb) : (agreeM sa wa pa sb wb pb = (0, [], false, false) ∧ ∀ w ∈ wa, w ∉ wb) ∨ ∃ w, w ∈ wa ∧ w ∈ wb ∧ agreeM sa wa pa sb wb pb = (if sb < sa then sb else sa, [w], pa && pb, true) := by
  unfold agreeM
  rw [if_pos ⟨ha, hb⟩]
  cases hf : wa.find? (inB wb) with
  | none => exact Or.inl ⟨rfl, fun w hw k => List.find?_eq_none.1 hf w hw (inB_iff.2 k)⟩
  | some w => exact Or.inr ⟨w, List.mem_of_find?_eq_some hf, inB_iff.1 (List.find?_some hf), rfl⟩
theorem FnOptions : laws_FnOptions.Goal := by
  intro l _
  refine Tells.rounds ?_
  unfold laws_FnOptions.f
  simp only [laws_big.eq, Option.bind_some]
  refine T_dec (fun _ => T_ret rfl) fun h1 => ?_
  refine T_bind (spec_DrawOptions.ev l (by omega)) fun d hd => ?_
  obtain ⟨sa, wa, pa, sb, wb, pb⟩ := d
  obtain ⟨ha, hb⟩ := hd
  dsimp only at ha hb ⊢
  obtain ⟨la, za⟩ := ha.sizes
  obtain ⟨lb, zb⟩ := hb.sizes
  have za' : ∀ j (h : j < wa.length), ByteArray.size wa[j] ≤ 1048576 := fun j h => Nat.le_trans (za _ (List.getElem_mem _)) (by omega)
  have zb' : ∀ j (h : j < wb.length), ByteArray.size wb[j] ≤ 1048576 := fun j h => Nat.le_trans (zb _ (List.getElem_mem _)) (by omega)
  have hz := optM_size sa wa pa
  have ho : optM sa wa pa = (optB sa wa pa, true) := by unfold optM; rw [if_pos ha]
  refine T_bindE (impl_OptionText.ev sa wa pa (by omega) za') ?_
  rw [ho] at hz ⊢
  dsimp only at hz ⊢
  refine T_bindE (impl_ReadOption.ev _ (by omega)) ?_
  rw [roM_yes ha]
  dsimp only
  refine T_bindE (impl_Agree.ev sa wa pa sb wb pb (by omega) za' (by omega) zb') (T_bindE (impl_Agree.ev sb wb pb sa wa pa (by omega) zb' (by omega) za') (T_bindE (spec_Agree.ev sa wa pa sb wb pb (by omega) za' (by omega) zb') ?_))
  have hsame : (agreeM sb wb pb sa wa pa).2.2.2 = (agreeM sa wa pa sb wb pb).2.2.2 := by
    rcases agree_yes (pa := pa) (pb := pb) ha hb with ⟨e1, n1⟩ | ⟨w, w1, w2, e1⟩ <;> rcases agree_yes (pa := pb) (pb := pa) hb ha with ⟨e2, n2⟩ | ⟨v, v1, v2, e2⟩
    · rw [e1, e2]
    · exact absurd v1 (n1 v v2)
    · exact absurd w1 (n2 w w2)
    · rw [e1, e2]
  refine T_false rfl (T_false rfl (T_false (by simp) (T_false (by simp) (T_bindE (laws_sameTexts.ev wa (by omega)) (T_false rfl (T_false (by simp) (T_false (by rw [hsame]; simp) (T_bind (spec_DrawReadOption.ev l (by omega)) fun t ht => T_bindE (impl_ReadOption.ev t (by omega)) (T_bindE (spec_ReadOption.ev t (by omega)) ?_)))))))))
  have hr := roM_len t
  have hro : (roM t).2.2.2 = true → OptP (roM t).1 (roM t).2.1 ∧ optB (roM t).1 (roM t).2.1 (roM t).2.2.1 = t := by
    unfold roM
    split
    · rename_i h
      exact fun _ => h
    · exact fun k => absurd k (by decide)
  have hrs : ∀ j (h : j < (roM t).2.1.length), ByteArray.size (roM t).2.1[j] ≤ 1048576 := by
    unfold roM
    split
    · rename_i h
      exact fun j hj => Nat.le_trans (h.1.sizes.2 _ (List.getElem_mem _)) (by omega)
    · exact fun j hj => absurd hj (by simp)
  refine T_bindE (impl_OptionText.ev _ _ _ (by omega) hrs) (T_false (by simp) ?_)
  have rest : Tells F0 (fun k => bif !(agreeM sa wa pa sb wb pb).2.2.2 then some (((agreeM sa wa pa sb wb pb).2.1.length : Int) == (0 : Int)) else laws_FnOptions.l0 k k (false, false, (0 : Int), l, sa, pa, sb, pb, (agreeM sa wa pa sb wb pb).1, (agreeM sa wa pa sb wb pb).2.2.1, (agreeM sb wb pb sa wa pa).1, (agreeM sb wb pb sa wa pa).2.2.1, wa, wb, (agreeM sa wa pa sb wb pb).2.1, (agreeM sb wb pb sa wa pa).2.1)) (· = true) := by
    rcases agree_yes (pa := pa) (pb := pb) ha hb with ⟨e1, n1⟩ | ⟨w, w1, w2, e1⟩
    · rw [e1]
      exact T_true rfl (T_ret rfl)
    · rcases agree_yes (pa := pb) (pb := pa) hb ha with ⟨e2, n2⟩ | ⟨v, v1, v2, e2⟩
      · exact absurd w1 (n2 w w2)
      · rw [e1, e2]
        dsimp only
        have hm : OptP (if sb < sa then sb else sa) [w] := by
          obtain ⟨i, hi, rfl⟩ := List.getElem_of_mem w1
          have q1 := ha.2.1
          have q2 := hb.2.1
          exact optP_of ⟨by split <;> omega, by split <;> omega⟩ (by simp) (by simp) (fun x hx => by rw [List.mem_singleton.1 hx]; exact (ha.1 i hi hi).1) (by simp)
        have h8 : ∀ j (h : j < [w].length), ByteArray.size [w][j] ≤ 1048576 := fun j hj => Nat.le_trans (za _ (by have := List.getElem_mem hj; rw [List.mem_singleton.1 this]; exact w1)) (by omega)
        have hsz : (if sa < sb then sa else sb) = (if sb < sa then sb else sa) := by split <;> split <;> omega
        have hs1 : (if sb < sa then sb else sa) ≤ sa ∧ (if sb < sa then sb else sa) ≤ sb := by split <;> omega
        rw [hsz]
        generalize (if sb < sa then sb else sa) = m at hm hs1
        have hl2 := T_loops (F := F0) (fun k j (b : Bool) i => laws_FnOptions.l2 k j (true, b, (i : Int), l, sa, pa, sb, pb, m, (pa && pb), m, (pb && pa), wa, wb, [w], [v])) wb.length (fun i b => b = true ↔ w ∈ wb.take i) (fun _ _ r => r = true) (fun i b hi hs he => by
          dsimp only [laws_FnOptions.l2, laws_FnOptions.s2]
          simp only [Int.toNat_natCast, List.getElem?_cons_zero, Option.bind_some, beq_bytes_iff]
          rw [wrs hi (by omega)]
          refine T_pos (by omega) (T_bif (fun hb' => he true ⟨fun _ => ?_, fun _ => rfl⟩) fun hb' => T_get hi (T_true (by simp) (he _ ?_)))
          · rw [List.take_succ_eq_append_getElem hi]
            exact List.mem_append_left _ (hs.1 hb')
          · rw [List.take_succ_eq_append_getElem hi, decide_eq_true_eq, List.mem_append, List.mem_singleton]
            exact ⟨fun e => Or.inr e.symm, fun e => e.elim (fun k => absurd (hs.2 k) (by rw [hb']; decide)) fun k => k.symm⟩) (fun b hs => by
          dsimp only [laws_FnOptions.l2, laws_FnOptions.s2]
          rw [List.take_length] at hs
          rw [hs.2 w2]
          have hop : Tells (FS F0) (fun x : Nat × Nat => (impl_OptionsOk.f x.1 m [w] (pa && pb)).bind fun r17 => some r17) (· = true) := T_bind (T_call (impl_OptionsOk.ev m [w] (pa && pb) (by simp) h8) Prod.fst (fun _ _ h => h.1)) fun r hr => T_ret (hr.2 hm)
          refine T_neg (by omega) (T_true rfl (T_true rfl (T_pos hs1.1 (T_pos hs1.2 (T_true (by simp) (T_true (by cases pa <;> cases pb <;> rfl) ?_))))))
          cases pa with
          | true => exact T_true rfl (T_true (by simp) hop)
          | false => exact T_false rfl (T_true rfl hop)) 0 false (Nat.zero_le _) (by simp)
        have hl0 := T_loops (F := F0) (fun k j (b : Bool) i => laws_FnOptions.l0 k j (b, false, (i : Int), l, sa, pa, sb, pb, m, (pa && pb), m, (pb && pa), wa, wb, [w], [v])) wa.length (fun i b => b = true ↔ w ∈ wa.take i) (fun _ _ r => r = true) (fun i b hi hs he => by
          dsimp only [laws_FnOptions.l0, laws_FnOptions.s0]
          simp only [Int.toNat_natCast, List.getElem?_cons_zero, Option.bind_some, beq_bytes_iff]
          rw [wrs hi (by omega)]
          refine T_pos (by omega) (T_bif (fun hb' => he true ⟨fun _ => ?_, fun _ => rfl⟩) fun hb' => T_get hi (T_true (by simp) (he _ ?_)))
          · rw [List.take_succ_eq_append_getElem hi]
            exact List.mem_append_left _ (hs.1 hb')
          · rw [List.take_succ_eq_append_getElem hi, decide_eq_true_eq, List.mem_append, List.mem_singleton]
            exact ⟨fun e => Or.inr e.symm, fun e => e.elim (fun k => absurd (hs.2 k) (by rw [hb']; decide)) fun k => k.symm⟩) (fun b hs => by
          dsimp only [laws_FnOptions.l0, laws_FnOptions.s0]
          rw [List.take_length] at hs
          rw [hs.2 w1]
          exact T_neg (by omega) (T_call (T_in (g := fun x j => laws_FnOptions.l2 x j _) (by simpa using hl2) (fun k => k) (fun _ _ h => h)) Prod.fst (fun _ _ h => h.1))) 0 false (Nat.zero_le _) (by simp)
        exact T_false rfl (T_in (g := fun x j => laws_FnOptions.l0 x j _) (by simpa using hl0) (fun k => k) (fun _ _ h => h))
  refine T_bif (fun g => ?_) fun _ => rest
  obtain ⟨g1, g2⟩ := hro g
  refine T_false ?_ rest
  unfold optM
  rw [if_pos g1, g2]
  simp

end Go.Proofs.YtfaeklomiofpdaaDoor.DI.Pure
