/- FnExactAgree, the plain part: from some fuel on the law answers true. -/
import Derived.Test.YtfaeklomiofpdaaGoalFnExactAgree
import Derived.Test.YtfaeklomiofpdaaKITE
namespace Go.Proofs.Ytfaeklomiofpdaa.DI.Pure
open Go Go.RowKit
set_option linter.unusedVariables false
set_option linter.unusedSimpArgs false
theorem strn_size (l : List Int) : (strOfNums l).size = l.length := by simp [strOfNums, ByteArray.size]
theorem markText_l0 : ∀ (d : Nat) (n : Int) (b : ByteArray), 0 ≤ n → n ≤ 1000000000000000000 → n < 10 ^ d → b.size + d ≤ 1000 → ∃ r, Tells (FS F0) (fun x => laws_markText.l0 x.1 x.2 (n, b)) (· = r) := by
  intro d
  induction d with
  | zero =>
    intro n b h0 hx h1 hb
    have hn : n = 0 := by simp at h1; omega
    refine ⟨(⟨#[109]⟩ : ByteArray) ++ b, T_step (g := fun k j => laws_markText.l0 k j (n, b)) ?_⟩
    dsimp only [laws_markText.l0, laws_markText.s0]
    exact T_neg (by omega) (T_pos (by show 1 + b.size ≤ _; omega) (T_ret rfl))
  | succ d ih =>
    intro n b h0 hx h1 hb
    have h2 : (10 : Int) ^ (d + 1) = 10 ^ d * 10 := Int.pow_succ _ _
    by_cases hn : n > 0
    · have et : IntKind.i64.wrap (Int.tdiv n 10) = n / 10 := by rw [Int.tdiv_eq_ediv_of_nonneg h0]; exact wr64 (by omega) (by omega)
      have hs := fun x : Int => strn_size [x]
      obtain ⟨r, hr⟩ := ih (n / 10) (strOfNums [IntKind.u8.wrap (IntKind.i64.wrap (48 + Int.tmod n 10))] ++ b) (by omega) (by omega) (by omega) (by rw [ByteArray.size_append, hs]; simp; omega)
      refine ⟨r, T_step (g := fun k j => laws_markText.l0 k j (n, b)) ?_⟩
      dsimp only [laws_markText.l0, laws_markText.s0]
      rw [et]
      exact T_pos hn (T_pos (by rw [hs]; simp; omega) hr)
    · refine ⟨(⟨#[109]⟩ : ByteArray) ++ b, T_step (g := fun k j => laws_markText.l0 k j (n, b)) ?_⟩
      dsimp only [laws_markText.l0, laws_markText.s0]
      exact T_neg hn (T_pos (by show 1 + b.size ≤ _; omega) (T_ret rfl))
open Classical in
noncomputable def mtxt (n : Nat) : ByteArray := if h : ∃ r, Tells F0 (fun k => laws_markText.f k (n : Int)) (· = r) then h.choose else ⟨#[]⟩
theorem laws_markText.ev (n : Nat) (h1 : n ≤ 1000000000000000000) : Tells F0 (fun k => laws_markText.f k (n : Int)) (· = mtxt n) := by
  have h : ∃ r, Tells F0 (fun k => laws_markText.f k (n : Int)) (· = r) := by
    by_cases hn : (n : Int) ≤ 0
    · refine ⟨(⟨#[109, 48]⟩ : ByteArray), ?_⟩
      unfold laws_markText.f
      exact T_pos hn (T_ret rfl)
    · obtain ⟨r, hr⟩ := markText_l0 19 n ByteArray.empty (by omega) (by omega) (by omega) (by decide)
      refine ⟨r, ?_⟩
      unfold laws_markText.f
      exact T_neg hn (T_in (g := fun x j => laws_markText.l0 x j _) hr (fun k => k) (fun _ _ h => h))
  unfold mtxt
  rw [dif_pos h]
  exact h.choose_spec
theorem laws_szStringS.ev (l : List (ByteArray)) (a : Int) (h0 : 0 ≤ a) (h1 : a ≤ 1048576) (hl : l.length ≤ maxLen) (hs : ∀ x ∈ l, ByteArray.size x ≤ 140737488351232) : Tells F0 (fun k => laws_szStringS.f k l a) (fun v => v < 0 ∨ (0 ≤ v ∧ v ≤ a ∧ l.length ≤ 1048576 ∧ ∀ j (h : j < l.length), ByteArray.size (l[j]) ≤ 1048576)) := by
  unfold maxLen at hl
  unfold laws_szStringS.f
  rw [wr64 (x := a - (l.length : Int)) (by omega) (by omega)]
  refine T_dec (fun _ => T_ret (.inl (by omega))) (fun h => ?_)
  have key := T_loops (F := F0) (fun k j (v : Int) i => laws_szStringS.l0 k j (v, (i : Int), l)) l.length (fun i v => 0 ≤ v ∧ v ≤ a - l.length ∧ ∀ j (h : j < l.length), j < i → ByteArray.size (l[j]) ≤ 1048576) (fun _ _ r => r < 0 ∨ (0 ≤ r ∧ r ≤ a ∧ l.length ≤ 1048576 ∧ ∀ j (h : j < l.length), ByteArray.size (l[j]) ≤ 1048576)) (fun i v hi hv he => by
    dsimp only [laws_szStringS.l0, laws_szStringS.s0]
    refine T_pos (by omega) (T_at hi ?_)
    have hx := hs _ (List.getElem_mem hi)
    rw [wrs hi (by omega), wr64 (x := v - ((l[i]).size : Int)) (by omega) (by omega)]
    exact T_dec (fun _ => T_ret (.inl (by omega))) (fun h => he _ ⟨by omega, by omega, fun j hj hji => by
      by_cases e : j = i
      · subst e; omega
      · exact hv.2.2 j hj (by omega)⟩)) (fun v hv => by
    dsimp only [laws_szStringS.l0, laws_szStringS.s0]
    exact T_neg (by omega) (T_ret (.inr ⟨hv.1, by omega, by omega, fun j hj => hv.2.2 j hj hj⟩))) 0 (a - l.length) (Nat.zero_le _) ⟨by omega, by omega, fun j _ hj => absurd hj (by omega)⟩
  exact T_in (g := fun x j => laws_szStringS.l0 x j _) key (fun k => k) (fun _ _ h => h)
theorem laws_szOptions.ev (c0 : Int) (c1 : List (ByteArray)) (c2 : Bool) (a : Int) (h1 : c1.length ≤ maxLen) (g1 : ∀ x ∈ c1, ByteArray.size x ≤ 140737488351232) (hA : 0 ≤ a) (hB : a ≤ 1048576) : Tells F0 (fun k => laws_szOptions.f k c0 c1 c2 a) (fun v => v < 0 ∨ (0 ≤ v ∧ v ≤ a ∧ c1.length ≤ 1048576 ∧ (∀ j (h : j < c1.length), ByteArray.size (c1[j]) ≤ 1048576))) := by
  unfold laws_szOptions.f
  refine T_bind (laws_szStringS.ev c1 _ (by omega) (by omega) h1 g1) fun v0 q0 => T_dec (fun h => T_ret (.inl (by omega))) fun e0 => ?_
  replace q0 := q0.resolve_left (by omega)
  exact T_ret (.inr ⟨by omega, by omega, by omega, q0.2.2.2⟩)
theorem laws_toStringS.ev (l : List (ByteArray)) (hn : l.length ≤ 1048576) : Tells F0 (fun k => laws_toStringS.f k l) (· = l) := by
  have h := T_loop (F := F0) (fun k j i => laws_toStringS.l0 k j ((i : Int), l, l.take i ++ List.replicate (l.length - i) ByteArray.empty)) l.length (fun _ r => r = l) (fun i hi he => by
    dsimp only [laws_toStringS.l0, laws_toStringS.s0]
    simp only [Int.toNat_natCast, Option.bind_some]
    refine T_pos (by omega) (T_get hi (T_get (by simp; omega) ?_))
    rw [wrs hi (by omega)]
    have e := set_copy l ByteArray.empty i hi
    refine T_eq (fun x => congrArg (fun q => laws_toStringS.l0 x.1 x.2 (((i + 1 : Nat) : Int), l, q)) e) he) (by
    dsimp only [laws_toStringS.l0, laws_toStringS.s0]
    exact T_neg (by omega) (T_ret (by simp))) 0 (Nat.zero_le _)
  unfold laws_toStringS.f
  refine T_and (by omega) (by omega) (T_in (g := fun x j => laws_toStringS.l0 x j _) ?_ (fun k => k) (fun _ _ h => h))
  simpa using h
theorem laws_toOptions.ev (c0 : Int) (c1 : List (ByteArray)) (c2 : Bool) (h1 : c1.length ≤ 1048576) : Tells F0 (fun k => laws_toOptions.f k c0 c1 c2) (· = (c0, c1, c2)) := by
  unfold laws_toOptions.f
  refine T_bindE (laws_toStringS.ev _ h1) ?_
  exact T_ret rfl
theorem laws_eqStringS.ev (l : List (ByteArray)) (hn : l.length ≤ 1000000000000000000) : Tells F0 (fun k => laws_eqStringS.f k l l) (· = true) := by
  have h := T_loop (F := F0) (fun k j i => laws_eqStringS.l0 k j ((i : Int), l, l)) l.length (fun _ r => r = true) (fun i hi he => by
    dsimp only [laws_eqStringS.l0, laws_eqStringS.s0]
    simp only [Int.toNat_natCast]
    refine T_pos (by omega) (T_get hi (T_get hi ?_))
    refine T_same (by simp) ?_
    rw [wrs hi (by omega)]
    exact he) (by
    dsimp only [laws_eqStringS.l0, laws_eqStringS.s0]
    exact T_neg (by omega) (T_ret rfl)) 0 (Nat.zero_le _)
  unfold laws_eqStringS.f
  exact T_same (by simp) (T_in (g := fun x j => laws_eqStringS.l0 x j _) h (fun k => k) (fun _ _ h => h))
theorem laws_eqOptions.ev (c0 : Int) (c1 : List (ByteArray)) (c2 : Bool) (h1 : c1.length ≤ 1000000000000000000) : Tells F0 (fun k => laws_eqOptions.f k c0 c1 c2 c0 c1 c2) (· = true) := by
  unfold laws_eqOptions.f
  refine T_same (by simp) ?_
  refine T_bindE (laws_eqStringS.ev _ h1) ?_
  refine T_same rfl ?_
  refine T_same (by simp) ?_
  exact T_ret rfl
noncomputable def mkd_String (n m : Nat) : List (ByteArray) := (List.range m).map fun i => (mtxt (n + 1 * i + 0))
theorem laws_markStringS.ev (l : List (ByteArray)) (n : Nat) (hb : n + 1 * l.length ≤ 1000000000000000000) : Tells F0 (fun k => laws_markStringS.f k l (n : Int)) (· = (((n + 1 * l.length : Nat) : Int), mkd_String n l.length)) := by
  have hM : (mkd_String n l.length).length = l.length := by simp [mkd_String]
  have h := T_loop (F := F0) (fun k j i => laws_markStringS.l0 k j (((n + 1 * i : Nat) : Int), (i : Int), (mkd_String n l.length).take i ++ l.drop i)) l.length (fun _ r => r = (((n + 1 * l.length : Nat) : Int), mkd_String n l.length)) (fun i hi he => by
    have hv : (mkd_String n l.length)[i]? = some (mtxt (n + 1 * i + 0)) := by simp [mkd_String, hi]
    have hs := mark_step (mkd_String n l.length) l i _ hM hi hv
    have hL : i < ((mkd_String n l.length).take i ++ l.drop i).length := by simp; omega
    have w0 : IntKind.i64.wrap (((n + 1 * i : Nat) : Int) + 1) = ((n + 1 * (i + 1) : Nat) : Int) := by rw [wr64 (by omega) (by omega)]; omega
    dsimp only [laws_markStringS.l0, laws_markStringS.s0]
    simp only [Int.toNat_natCast, w0, wrs hi (show l.length ≤ 9223372036854775807 by omega)]
    refine T_pos (by omega) ?_
    first | (refine T_bindE (T_call (laws_markText.ev (n + 1 * i) (by omega)) Prod.fst (fun _ _ h => h.1)) ?_; refine T_get hL ?_) | (refine T_get hL ?_; refine T_bindE (T_call (laws_markText.ev (n + 1 * i) (by omega)) Prod.fst (fun _ _ h => h.1)) ?_)
    refine T_eq (fun x => congrArg (fun q => laws_markStringS.l0 x.1 x.2 (((n + 1 * (i + 1) : Nat) : Int), ((i + 1 : Nat) : Int), q)) ?_) he
    try simp only [List.set_set]
    exact hs) (by
    dsimp only [laws_markStringS.l0, laws_markStringS.s0]
    refine T_neg (by simp; omega) (T_ret ?_)
    rw [List.take_of_length_le (by omega), List.drop_length, List.append_nil]) 0 (Nat.zero_le _)
  unfold laws_markStringS.f
  refine T_in (g := fun x j => laws_markStringS.l0 x j _) ?_ (fun k => k) (fun _ _ h => h)
  simpa using h
theorem laws_markOptions.ev (c0 : Int) (c1 : List (ByteArray)) (c2 : Bool) (n : Nat) (hb : n + 1 * c1.length ≤ 1000000000000000000) : Tells F0 (fun k => laws_markOptions.f k c0 c1 c2 (n : Int)) (· = (((n + 1 * c1.length : Nat) : Int), mkd_String n c1.length)) := by
  unfold laws_markOptions.f
  refine T_bindE (laws_markStringS.ev _ n (by omega)) ?_
  exact T_ret rfl
theorem laws_heldStringS.ev (m n : Nat) (hb : n + 1 * m ≤ 1000000000000000000) : Tells F0 (fun k => laws_heldStringS.f k (mkd_String n m) (n : Int)) (· = ((n + 1 * m : Nat) : Int)) := by
  have hM : (mkd_String n m).length = m := by simp [mkd_String]
  have h := T_loop (F := F0) (fun k j i => laws_heldStringS.l0 k j (((n + 1 * i : Nat) : Int), (i : Int), mkd_String n m)) m (fun _ r => r = ((n + 1 * m : Nat) : Int)) (fun i hi he => by
    have hL : i < (mkd_String n m).length := by omega
    have hv : (mkd_String n m)[i] = (mtxt (n + 1 * i + 0)) := by simp [mkd_String]
    have w0 : IntKind.i64.wrap (((n + 1 * i : Nat) : Int) + 1) = ((n + 1 * (i + 1) : Nat) : Int) := by rw [wr64 (by omega) (by omega)]; omega
    dsimp only [laws_heldStringS.l0, laws_heldStringS.s0]
    simp only [Int.toNat_natCast, w0, wrs hi (show m ≤ 9223372036854775807 by omega)]
    refine T_pos (by omega) ?_
    first | (refine T_bindE (T_call (laws_markText.ev (n + 1 * i) (by omega)) Prod.fst (fun _ _ h => h.1)) ?_; refine T_get hL ?_; rw [hv]; (try dsimp only)) | (refine T_get hL ?_; rw [hv]; (try dsimp only); refine T_bindE (T_call (laws_markText.ev (n + 1 * i) (by omega)) Prod.fst (fun _ _ h => h.1)) ?_)
    refine T_same ?_ ?_
    · simp
    exact he) (by
    dsimp only [laws_heldStringS.l0, laws_heldStringS.s0]
    exact T_neg (by omega) (T_ret rfl)) 0 (Nat.zero_le _)
  unfold laws_heldStringS.f
  exact T_in (g := fun x j => laws_heldStringS.l0 x j _) (by simpa using h) (fun k => k) (fun _ _ h => h)
theorem laws_heldOptions.ev (c0 : Int) (c2 : Bool) (m1 n : Nat) (hb : n + 1 * m1 ≤ 1000000000000000000) : Tells F0 (fun k => laws_heldOptions.f k c0 (mkd_String n m1) c2 (n : Int)) (· = ((n + 1 * m1 : Nat) : Int)) := by
  unfold laws_heldOptions.f
  refine T_bindE (laws_heldStringS.ev m1 n (by omega)) ?_
  refine T_neg (by omega) ?_
  exact T_ret rfl
theorem in_eq (k : Nat) (n a b : Int) : spec_l01In.f k n a b = some (decide (a ≤ n ∧ n ≤ b)) := by
  unfold spec_l01In.f
  by_cases h : n ≥ a <;> by_cases h' : n ≤ b <;> simp [h, h'] <;> omega
theorem within_eq (k : Nat) (n a b : Int) : impl_within.f k n a b = some (decide (a ≤ n ∧ n ≤ b)) := by
  unfold impl_within.f
  by_cases h : n ≥ a <;> by_cases h' : n ≤ b <;> simp [h, h'] <;> omega

def wayC (b : UInt8) : Bool := decide (97 ≤ b.toNat ∧ b.toNat ≤ 122) || decide (48 ≤ b.toNat ∧ b.toNat ≤ 57)
def wayB (s : ByteArray) : Bool := s.data.toList.all wayC && decide (1 ≤ s.size ∧ s.size ≤ 8)
theorem byte_get (s : ByteArray) (i : Nat) (h : i < s.data.toList.length) : s.data.toList[i] = s[i]'(by rw [Array.length_toList] at h; exact h) := by rw [Array.getElem_toList]; rfl
theorem wrb (b : UInt8) : IntKind.i64.wrap (b.toNat : Int) = (b.toNat : Int) := by have := b.toNat_lt; exact wr64 (by omega) (by omega)
theorem spec_l15Way.ev (s : ByteArray) (h : s.size ≤ 140737488351232) : Tells F0 (fun k => spec_l15Way.f k s) (· = wayB s) := by
  have hl : s.data.toList.length = s.size := by rw [Array.length_toList]; rfl
  have hh := T_alls (F := F0) (fun k j i => spec_l15Way.l0 k j (s, (i : Int))) s.data.toList wayC (decide (1 ≤ s.size ∧ s.size ≤ 8)) (fun i hi P go bad => by
    have hi' : i < s.size := by omega
    rw [byte_get] at go bad
    dsimp only [spec_l15Way.l0, spec_l15Way.s0]
    simp only [Int.toNat_natCast]
    rw [wrs hi (by omega)]
    have y : (97 ≤ s[i].toNat ∧ s[i].toNat ≤ 122) ∨ (48 ≤ s[i].toNat ∧ s[i].toNat ≤ 57) → wayC s[i] = true := fun h => by simp only [wayC, Bool.or_eq_true, decide_eq_true_eq]; exact h
    have n : ¬ ((97 ≤ s[i].toNat ∧ s[i].toNat ≤ 122) ∨ (48 ≤ s[i].toNat ∧ s[i].toNat ≤ 57)) → wayC s[i] = false := fun h => by
      cases e : wayC s[i] with
      | false => rfl
      | true => simp only [wayC, Bool.or_eq_true, decide_eq_true_eq] at e; exact absurd e h
    refine T_pos (by omega) (T_byte hi' (T_dec (fun a => T_byte hi' (T_dec (fun b => T_ret (bad (n (by omega)))) fun b => T_byte hi' (T_dec (fun c => T_ret (bad (n (by omega)))) fun c => go (y (by omega))))) fun a => T_byte hi' (T_dec (fun b => T_byte hi' (T_dec (fun c => T_ret (bad (n (by omega)))) fun c => T_byte hi' (T_dec (fun d => T_ret (bad (n (by omega)))) fun d => go (y (by omega))))) fun b => go (y (by omega)))))) (by
    dsimp only [spec_l15Way.l0, spec_l15Way.s0]
    simp only [in_eq, Option.bind_some]
    refine T_neg (by omega) (T_ret ?_)
    rw [decide_eq_decide]; omega)
  unfold spec_l15Way.f
  exact T_in (g := fun x j => spec_l15Way.l0 x j _) hh (fun k => k) (fun _ _ h => h)
theorem impl_wayOk.ev (s : ByteArray) (h : s.size ≤ 140737488351232) : Tells F0 (fun k => impl_wayOk.f k s) (· = wayB s) := by
  have hl : s.data.toList.length = s.size := by rw [Array.length_toList]; rfl
  have hh := T_alls (F := F0) (fun k j i => impl_wayOk.l0 k j (s, (i : Int))) s.data.toList wayC (decide (1 ≤ s.size ∧ s.size ≤ 8)) (fun i hi P go bad => by
    have hi' : i < s.size := by omega
    rw [byte_get] at go bad
    dsimp only [impl_wayOk.l0, impl_wayOk.s0]
    simp only [Int.toNat_natCast, within_eq, Option.bind_some, wrb]
    rw [wrs hi (by omega)]
    have y : (97 ≤ s[i].toNat ∧ s[i].toNat ≤ 122) ∨ (48 ≤ s[i].toNat ∧ s[i].toNat ≤ 57) → wayC s[i] = true := fun h => by simp only [wayC, Bool.or_eq_true, decide_eq_true_eq]; exact h
    have n : ¬ ((97 ≤ s[i].toNat ∧ s[i].toNat ≤ 122) ∨ (48 ≤ s[i].toNat ∧ s[i].toNat ≤ 57)) → wayC s[i] = false := fun h => by
      cases e : wayC s[i] with
      | false => rfl
      | true => simp only [wayC, Bool.or_eq_true, decide_eq_true_eq] at e; exact absurd e h
    refine T_pos (by omega) (T_byte hi' (T_ndec (fun a => go (y (by omega))) fun a => T_byte hi' (T_ndec (fun b => go (y (by omega))) fun b => T_ret (bad (n (by omega))))))) (by
    dsimp only [impl_wayOk.l0, impl_wayOk.s0]
    simp only [within_eq, Option.bind_some]
    refine T_neg (by omega) (T_ret ?_)
    rw [decide_eq_decide]; omega)
  unfold impl_wayOk.f
  exact T_in (g := fun x j => impl_wayOk.l0 x j _) hh (fun k => k) (fun _ _ h => h)
theorem spec_l15Has.ev (l : List ByteArray) (x : ByteArray) (h : l.length ≤ 1048576) : Tells F0 (fun k => spec_l15Has.f k l x) (fun r => r = true ↔ x ∈ l) := by
  have hh := T_loop (F := F0) (fun k j i => spec_l15Has.l0 k j (x, (i : Int), l)) l.length (fun i r => r = true ↔ x ∈ l.drop i) (fun i hi he => by
    rw [List.drop_eq_getElem_cons hi, List.mem_cons]
    dsimp only [spec_l15Has.l0, spec_l15Has.s0]
    simp only [Int.toNat_natCast, beq_bytes_iff]
    rw [wrs hi (by omega)]
    refine T_pos (by omega) (T_get hi (T_dec (fun e => T_ret (yes_iff (.inl e.symm))) fun e => T_mono he fun r hr => hr.trans ⟨.inr, fun h => h.resolve_left fun k => e k.symm⟩))) (by
    dsimp only [spec_l15Has.l0, spec_l15Has.s0]
    exact T_neg (by omega) (T_ret (no_iff (by simp)))) 0 (Nat.zero_le _)
  unfold spec_l15Has.f
  exact T_in (g := fun x j => spec_l15Has.l0 x j _) (by simpa using hh) (fun k => k) (fun _ _ h => h)
theorem slices_Index_string_string.ev (l : List ByteArray) (x : ByteArray) (h : l.length ≤ 1048576) : Tells F0 (fun k => slices_Index_string_string.f k l x) (fun r => r ≥ 0 ↔ x ∈ l) := by
  have hh := T_loop (F := F0) (fun k j i => slices_Index_string_string.l0 k j (x, (l.length : Int), (i : Int), l)) l.length (fun i r => r ≥ 0 ↔ x ∈ l.drop i) (fun i hi he => by
    rw [List.drop_eq_getElem_cons hi, List.mem_cons]
    dsimp only [slices_Index_string_string.l0, slices_Index_string_string.s0]
    simp only [Int.toNat_natCast, beq_bytes_iff]
    rw [wrs hi (by omega)]
    refine T_pos (by omega) (T_get hi (T_dec (fun e => T_ret ⟨fun _ => .inl e, fun _ => by omega⟩) fun e => T_mono he fun r hr => hr.trans ⟨.inr, fun h => h.resolve_left e⟩))) (by
    dsimp only [slices_Index_string_string.l0, slices_Index_string_string.s0]
    exact T_neg (by omega) (T_ret (by simp))) 0 (Nat.zero_le _)
  unfold slices_Index_string_string.f
  exact T_in (g := fun x j => slices_Index_string_string.l0 x j _) (by simpa using hh) (fun k => k) (fun _ _ h => h)
theorem slices_Contains_string_string.ev (l : List ByteArray) (x : ByteArray) (h : l.length ≤ 1048576) : Tells F0 (fun k => slices_Contains_string_string.f k l x) (fun r => r = true ↔ x ∈ l) := by
  unfold slices_Contains_string_string.f
  refine T_bind (slices_Index_string_string.ev l x h) fun r hr => T_ret ?_
  rw [decide_eq_true_eq]
  exact hr
def OptC (ws : List ByteArray) (i : Nat) : Prop := ∀ h : i < ws.length, wayB ws[i] = true ∧ ws[i] ∉ ws.take i
def OptP (sz : Int) (ws : List ByteArray) : Prop := (∀ i, i < ws.length → OptC ws i) ∧ ((20 ≤ sz ∧ sz ≤ 60) ∧ 1 ≤ ws.length ∧ ws.length ≤ 4)
theorem spec_OptionsOk.ev (sz : Int) (ws : List ByteArray) (pc : Bool) (h : ws.length ≤ 1048576) (hs : ∀ j (h : j < ws.length), ByteArray.size ws[j] ≤ 1048576) : Tells F0 (fun k => spec_OptionsOk.f k sz ws pc) (fun r => r = true ↔ OptP sz ws) := by
  have hh := T_body (F := F0) (fun k j i => spec_OptionsOk.l0 k j ((i : Int), ws, sz, pc)) ws.length (OptC ws) ((20 ≤ sz ∧ sz ≤ 60) ∧ 1 ≤ ws.length ∧ ws.length ≤ 4) (fun i hi P go bad => by
    dsimp only [spec_OptionsOk.l0, spec_OptionsOk.s0]
    simp only [Int.toNat_natCast]
    rw [wrs hi (by omega)]
    have := hs i hi
    refine T_pos (by omega) (T_get hi (T_bindE (T_call (spec_l15Way.ev _ (by omega)) Prod.fst (fun _ _ h => h.1)) ?_))
    cases e : wayB ws[i] with
    | false => exact T_true rfl (T_ret (bad fun c => by have := (c hi).1; rw [e] at this; cases this))
    | true =>
      refine T_false rfl (T_and (by omega) (by omega) (T_get hi (T_bind (T_call (spec_l15Has.ev (ws.take i) ws[i] (by simp; omega)) Prod.fst (fun _ _ h => h.1)) fun r hr => ?_)))
      cases r with
      | true => exact T_true rfl (T_ret (bad fun c => (c hi).2 (hr.1 rfl)))
      | false => exact T_false rfl (go fun _ => ⟨e, fun c => by have := hr.2 c; cases this⟩)) (by
    dsimp only [spec_OptionsOk.l0, spec_OptionsOk.s0]
    simp only [in_eq, Option.bind_some]
    refine T_neg (by omega) (T_dec (fun a => T_ret ?_) fun a => T_ret (no_iff fun c => a c.1))
    rw [decide_eq_true_eq]; omega)
  unfold spec_OptionsOk.f
  exact T_in (g := fun x j => spec_OptionsOk.l0 x j _) hh (fun k => k) (fun _ _ h => h)
theorem impl_OptionsOk.ev (sz : Int) (ws : List ByteArray) (pc : Bool) (h : ws.length ≤ 1048576) (hs : ∀ j (h : j < ws.length), ByteArray.size ws[j] ≤ 1048576) : Tells F0 (fun k => impl_OptionsOk.f k sz ws pc) (fun r => r = true ↔ OptP sz ws) := by
  have hh := T_body (F := F0) (fun k j i => impl_OptionsOk.l0 k j ((ws.length : Int), (i : Int), ws, sz, pc)) ws.length (OptC ws) ((20 ≤ sz ∧ sz ≤ 60) ∧ 1 ≤ ws.length ∧ ws.length ≤ 4) (fun i hi P go bad => by
    dsimp only [impl_OptionsOk.l0, impl_OptionsOk.s0]
    simp only [Int.toNat_natCast]
    rw [wrs hi (by omega)]
    have := hs i hi
    refine T_pos (by omega) (T_get hi (T_bindE (T_call (impl_wayOk.ev _ (by omega)) Prod.fst (fun _ _ h => h.1)) ?_))
    cases e : wayB ws[i] with
    | false => exact T_true rfl (T_ret (bad fun c => by have := (c hi).1; rw [e] at this; cases this))
    | true =>
      refine T_false rfl (T_and (by omega) (by omega) (T_bind (T_call (slices_Contains_string_string.ev (ws.take i) ws[i] (by simp; omega)) Prod.fst (fun _ _ h => h.1)) fun r hr => ?_))
      cases r with
      | true => exact T_true rfl (T_ret (bad fun c => (c hi).2 (hr.1 rfl)))
      | false => exact T_false rfl (go fun _ => ⟨e, fun c => by have := hr.2 c; cases this⟩)) (by
    dsimp only [impl_OptionsOk.l0, impl_OptionsOk.s0]
    simp only [within_eq, Option.bind_some]
    refine T_neg (by omega) (T_dec (fun a => T_ret ?_) fun a => T_ret (no_iff fun c => a c.1))
    rw [decide_eq_true_eq]; omega)
  unfold impl_OptionsOk.f
  exact T_in (g := fun x j => impl_OptionsOk.l0 x j _) hh (fun k => k) (fun _ _ h => h)

noncomputable def inB (wb : List ByteArray) (w : ByteArray) : Bool := @decide (w ∈ wb) (Classical.propDecidable _)
theorem inB_iff {wb : List ByteArray} {w : ByteArray} : inB wb w = true ↔ w ∈ wb := @decide_eq_true_iff _ (Classical.propDecidable _)
def agreeF (sa : Int) (wa : List ByteArray) (pa : Bool) (sb : Int) (wb : List ByteArray) (pb : Bool) : Option ByteArray → Int × List ByteArray × Bool × Bool
  | some w => (if sb < sa then sb else sa, [w], pa && pb, true)
  | none => (0, [], false, false)
open Classical in
noncomputable def agreeM (sa : Int) (wa : List ByteArray) (pa : Bool) (sb : Int) (wb : List ByteArray) (pb : Bool) : Int × List ByteArray × Bool × Bool :=
  if OptP sa wa ∧ OptP sb wb then agreeF sa wa pa sb wb pb (wa.find? (inB wb)) else (0, [], false, false)
section
variable (sa : Int) (wa : List ByteArray) (pa : Bool) (sb : Int) (wb : List ByteArray) (pb : Bool)
theorem agree_len : (agreeM sa wa pa sb wb pb).2.1.length ≤ 1 := by
  unfold agreeM
  split
  · cases (wa.find? (inB wb)) <;> simp [agreeF]
  · simp
theorem spec_Agree.ev (ha : wa.length ≤ 1048576) (hsa : ∀ j (h : j < wa.length), ByteArray.size wa[j] ≤ 1048576) (hb : wb.length ≤ 1048576) (hsb : ∀ j (h : j < wb.length), ByteArray.size wb[j] ≤ 1048576) : Tells F0 (fun k => spec_Agree.f k sa wa pa sb wb pb) (· = agreeM sa wa pa sb wb pb) := by
  have hh : ∀ s p, Tells F0 (fun k => spec_Agree.l0 k k ((0 : Int), wa, wb, sa, pa, sb, pb, (0 : Int), false, s, p, [], [])) (· = (match (wa.find? (inB wb)) with | some w => (s, [w], p, true) | none => (0, [], false, false))) := by
    intro s p
    have hh := T_loop (F := F0) (fun k j i => spec_Agree.l0 k j ((i : Int), wa, wb, sa, pa, sb, pb, (0 : Int), false, s, p, [], [])) wa.length (fun i r => r = (match ((wa.drop i).find? (inB wb)) with | some w => (s, [w], p, true) | none => (0, [], false, false))) (fun i hi he => by
      rw [find_step _ _ _ hi]
      dsimp only [spec_Agree.l0, spec_Agree.s0]
      simp only [Int.toNat_natCast]
      rw [wrs hi (by omega)]
      refine T_pos (by omega) (T_get hi (T_bind (T_call (spec_l15Has.ev wb wa[i] hb) Prod.fst (fun _ _ h => h.1)) fun r hr => ?_))
      cases r with
      | true => rw [if_pos (inB_iff.2 (hr.1 rfl))]; exact T_true rfl (T_get hi (T_ret rfl))
      | false => rw [if_neg (fun c => by have := hr.2 (inB_iff.1 c); cases this)]; exact T_false rfl he) (by
      dsimp only [spec_Agree.l0, spec_Agree.s0]
      exact T_neg (by omega) (T_ret (by rw [List.drop_length]; rfl))) 0 (Nat.zero_le _)
    exact T_in (g := fun x j => spec_Agree.l0 x j _) hh (fun k => k) (fun _ _ h => h)
  unfold spec_Agree.f agreeM
  refine T_bind (spec_OptionsOk.ev sa wa pa ha hsa) fun r hr => ?_
  cases r with
  | false => rw [if_neg fun c => by have := hr.2 c.1; cases this]; exact T_true rfl (T_ret rfl)
  | true =>
  refine T_false rfl (T_bind (spec_OptionsOk.ev sb wb pb hb hsb) fun r2 hr2 => ?_)
  cases r2 with
  | false => rw [if_neg fun c => by have := hr2.2 c.2; cases this]; exact T_true rfl (T_ret rfl)
  | true =>
  rw [if_pos ⟨hr.1 rfl, hr2.1 rfl⟩]
  refine T_false rfl (T_bif (fun e => T_dec (fun c => T_mono (hh sb pb) ?_) fun c => T_mono (hh sa pb) ?_) fun e => T_dec (fun c => T_mono (hh sb false) ?_) fun c => T_mono (hh sa false) ?_)
  all_goals
    rintro _ rfl
    cases (wa.find? (inB wb)) <;> simp [agreeF, c, e]
theorem impl_Agree.ev (ha : wa.length ≤ 1048576) (hsa : ∀ j (h : j < wa.length), ByteArray.size wa[j] ≤ 1048576) (hb : wb.length ≤ 1048576) (hsb : ∀ j (h : j < wb.length), ByteArray.size wb[j] ≤ 1048576) : Tells F0 (fun k => impl_Agree.f k sa wa pa sb wb pb) (· = agreeM sa wa pa sb wb pb) := by
  have hh : Tells F0 (fun k => impl_Agree.l0 k k ((wa.length : Int), (0 : Int), wa, wb, sa, pa, sb, pb, (0 : Int), false, [])) (· = agreeF sa wa pa sb wb pb (wa.find? (inB wb))) := by
    have hh := T_loop (F := F0) (fun k j i => impl_Agree.l0 k j ((wa.length : Int), (i : Int), wa, wb, sa, pa, sb, pb, (0 : Int), false, [])) wa.length (fun i r => r = agreeF sa wa pa sb wb pb ((wa.drop i).find? (inB wb))) (fun i hi he => by
      rw [find_step _ _ _ hi]
      dsimp only [impl_Agree.l0, impl_Agree.s0]
      simp only [Int.toNat_natCast]
      rw [wrs hi (by omega)]
      refine T_pos (by omega) (T_get hi (T_bind (T_call (slices_Contains_string_string.ev wb wa[i] hb) Prod.fst (fun _ _ h => h.1)) fun r hr => ?_))
      cases r with
      | true =>
        rw [if_pos (inB_iff.2 (hr.1 rfl))]
        have e1 : (bif decide (sb < sa) then sb else sa) = if sb < sa then sb else sa := by by_cases h : sb < sa <;> simp [h]
        exact T_true rfl (T_bif (fun e => T_ret (by simp [agreeF, e, e1])) fun e => T_ret (by simp [agreeF, e, e1]))
      | false => rw [if_neg (fun c => by have := hr.2 (inB_iff.1 c); cases this)]; exact T_false rfl he) (by
      dsimp only [impl_Agree.l0, impl_Agree.s0]
      exact T_neg (by omega) (T_ret (by rw [List.drop_length]; rfl))) 0 (Nat.zero_le _)
    exact T_in (g := fun x j => impl_Agree.l0 x j _) hh (fun k => k) (fun _ _ h => h)
  unfold impl_Agree.f agreeM
  refine T_bind (impl_OptionsOk.ev sa wa pa ha hsa) fun r hr => ?_
  cases r with
  | false => rw [if_neg fun c => by have := hr.2 c.1; cases this]; exact T_true rfl (T_ret rfl)
  | true =>
  refine T_false rfl (T_bind (impl_OptionsOk.ev sb wb pb hb hsb) fun r2 hr2 => ?_)
  cases r2 with
  | false => rw [if_neg fun c => by have := hr2.2 c.2; cases this]; exact T_true rfl (T_ret rfl)
  | true =>
  rw [if_pos ⟨hr.1 rfl, hr2.1 rfl⟩]
  exact T_false rfl hh
end


theorem FnExactAgree : laws_FnExactAgree.Goal := by
  intro a0_0 a0_1 a0_2 a1_0 a1_1 a1_2 g_a0_0 g_a0_1 g_a0_2 g_a1_0 g_a1_1 g_a1_2
  replace g_a0_0 := wf64 g_a0_0
  have s_a0_1 : ∀ x ∈ a0_1, ByteArray.size x ≤ 140737488351232 := fun x hx => g_a0_1.2.2 x hx
  replace g_a0_1 : a0_1.length ≤ maxLen ∧ True := ⟨g_a0_1.1, trivial⟩
  replace g_a1_0 := wf64 g_a1_0
  have s_a1_1 : ∀ x ∈ a1_1, ByteArray.size x ≤ 140737488351232 := fun x hx => g_a1_1.2.2 x hx
  replace g_a1_1 : a1_1.length ≤ maxLen ∧ True := ⟨g_a1_1.1, trivial⟩
  refine Tells.rounds ?_
  unfold laws_FnExactAgree.f
  refine T_bind (laws_szOptions.ev a0_0 a0_1 a0_2 _ g_a0_1.1 (s_a0_1) (by omega) (by omega)) fun v1 q1 => T_dec (fun _ => T_ret rfl) fun e1 => ?_
  obtain ⟨_, _, z_a0_1, t_a0_1⟩ := q1.resolve_left (by omega)
  refine T_bind (laws_szOptions.ev a1_0 a1_1 a1_2 _ g_a1_1.1 (s_a1_1) (by omega) (by omega)) fun v2 q2 => T_dec (fun _ => T_ret rfl) fun e2 => ?_
  obtain ⟨_, _, z_a1_1, t_a1_1⟩ := q2.resolve_left (by omega)
  have b1 := agree_len a0_0 a0_1 a0_2 a1_0 a1_1 a1_2
  refine T_bindE (laws_toOptions.ev a0_0 a0_1 a0_2 z_a0_1) ?_
  refine T_bindE (laws_toOptions.ev a1_0 a1_1 a1_2 z_a1_1) ?_
  refine T_bindE (spec_Agree.ev a0_0 a0_1 a0_2 a1_0 a1_1 a1_2 z_a0_1 t_a0_1 z_a1_1 t_a1_1) ?_
  refine T_bindE (laws_toOptions.ev a0_0 a0_1 a0_2 z_a0_1) ?_
  refine T_bindE (laws_toOptions.ev a1_0 a1_1 a1_2 z_a1_1) ?_
  refine T_bindE (impl_Agree.ev a0_0 a0_1 a0_2 a1_0 a1_1 a1_2 z_a0_1 t_a0_1 z_a1_1 t_a1_1) ?_
  refine T_bindE (laws_eqOptions.ev _ _ _ (by omega)) ?_
  refine T_same rfl ?_
  refine T_same (by simp) ?_
  refine T_bindE (laws_toOptions.ev a0_0 a0_1 a0_2 z_a0_1) ?_
  refine T_bindE (laws_eqOptions.ev a0_0 a0_1 a0_2 (by omega)) ?_
  refine T_same rfl ?_
  refine T_bindE (laws_toOptions.ev a1_0 a1_1 a1_2 z_a1_1) ?_
  refine T_bindE (laws_eqOptions.ev a1_0 a1_1 a1_2 (by omega)) ?_
  refine T_same rfl ?_
  refine T_bindE (laws_markOptions.ev a0_0 a0_1 a0_2 (1) (by omega)) ?_
  refine T_bindE (laws_markOptions.ev a1_0 a1_1 a1_2 (1 + 1 * a0_1.length) (by omega)) ?_
  refine T_neg (by omega) ?_
  refine T_bindE (laws_eqOptions.ev _ _ _ (by omega)) ?_
  refine T_same rfl ?_
  refine T_same (by simp) ?_
  refine T_bindE (laws_markOptions.ev _ _ _ 1 ?_) ?_
  · omega
  refine T_bindE (laws_heldOptions.ev _ _ _ 1 ?_) ?_
  · omega
  refine T_neg (by omega) ?_
  refine T_same (by simp) ?_
  refine T_bindE (laws_toOptions.ev a0_0 a0_1 a0_2 z_a0_1) ?_
  refine T_bindE (laws_toOptions.ev a1_0 a1_1 a1_2 z_a1_1) ?_
  refine T_bindE (impl_Agree.ev a0_0 a0_1 a0_2 a1_0 a1_1 a1_2 z_a0_1 t_a0_1 z_a1_1 t_a1_1) ?_
  refine T_bindE (laws_eqOptions.ev _ _ _ (by omega)) ?_
  refine T_same rfl ?_
  refine T_same (by simp) ?_
  refine T_bindE (laws_heldOptions.ev _ _ _ 1 ?_) ?_
  · omega
  refine T_neg (by omega) ?_
  refine T_same (by simp) ?_
  exact T_ret rfl
end Go.Proofs.Ytfaeklomiofpdaa.DI.Pure
