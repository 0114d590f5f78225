/- FnExactRelease, the plain part: from some fuel on the law answers true. -/
import Derived.Test.YtfaeklomiofpdaaGoalFnExactRelease
import Derived.Test.YtfaeklomiofpdaaKITE
namespace Go.Proofs.Ytfaeklomiofpdaa.DI.Pure
open Go Go.RowKit
set_option linter.unusedVariables false
set_option linter.unusedSimpArgs false
theorem laws_szLeaseS.ev (l : List (Int × Int × Int)) (a : Int) (h0 : 0 ≤ a) (h1 : a ≤ 1048576) (hl : l.length ≤ maxLen) : Tells F0 (fun k => laws_szLeaseS.f k l a) (fun v => v < 0 ∨ (0 ≤ v ∧ v ≤ a ∧ l.length ≤ 1048576)) := by
  unfold maxLen at hl
  unfold laws_szLeaseS.f
  rw [wr64 (x := a - (l.length : Int)) (by omega) (by omega)]
  exact T_dec (fun _ => T_ret (.inl (by omega))) (fun h => T_ret (.inr ⟨by omega, by omega, by omega⟩))
theorem laws_szFixedS.ev (l : List (Int × Int)) (a : Int) (h0 : 0 ≤ a) (h1 : a ≤ 1048576) (hl : l.length ≤ maxLen) : Tells F0 (fun k => laws_szFixedS.f k l a) (fun v => v < 0 ∨ (0 ≤ v ∧ v ≤ a ∧ l.length ≤ 1048576)) := by
  unfold maxLen at hl
  unfold laws_szFixedS.f
  rw [wr64 (x := a - (l.length : Int)) (by omega) (by omega)]
  exact T_dec (fun _ => T_ret (.inl (by omega))) (fun h => T_ret (.inr ⟨by omega, by omega, by omega⟩))
theorem laws_szPool.ev (c0 : Int) (c1 : Int) (c2 : List (Int × Int × Int)) (c3 : List (Int × Int)) (a : Int) (h2 : c2.length ≤ maxLen) (h3 : c3.length ≤ maxLen) (hA : 0 ≤ a) (hB : a ≤ 1048576) : Tells F0 (fun k => laws_szPool.f k c0 c1 c2 c3 a) (fun v => v < 0 ∨ (0 ≤ v ∧ v ≤ a ∧ c2.length ≤ 1048576 ∧ c3.length ≤ 1048576)) := by
  unfold laws_szPool.f
  refine T_bind (laws_szLeaseS.ev c2 _ (by omega) (by omega) h2) fun v0 q0 => T_dec (fun h => T_ret (.inl (by omega))) fun e0 => ?_
  replace q0 := q0.resolve_left (by omega)
  refine T_bind (laws_szFixedS.ev c3 _ (by omega) (by omega) h3) fun v1 q1 => T_dec (fun h => T_ret (.inl (by omega))) fun e1 => ?_
  replace q1 := q1.resolve_left (by omega)
  exact T_ret (.inr ⟨by omega, by omega, by omega, by omega⟩)
theorem laws_toPrefix.one (k : Nat) (c0 : Int) (c1 : Int) : laws_toPrefix.f k c0 c1 = some (c0, c1) := rfl
theorem laws_toLease.one (k : Nat) (c0 : Int) (c1 : Int) (c2 : Int) : laws_toLease.f k c0 c1 c2 = some (c0, c1, c2) := rfl
theorem laws_toLeaseS.ev (l : List (Int × Int × Int)) (hn : l.length ≤ 1048576) : Tells F0 (fun k => laws_toLeaseS.f k l) (· = l) := by
  have h := T_loop (F := F0) (fun k j i => laws_toLeaseS.l0 k j ((i : Int), l, l.take i ++ List.replicate (l.length - i) ((0 : Int), (0 : Int), (0 : Int)))) l.length (fun _ r => r = l) (fun i hi he => by
    dsimp only [laws_toLeaseS.l0, laws_toLeaseS.s0]
    simp only [laws_toLease.one, Int.toNat_natCast, Option.bind_some]
    refine T_pos (by omega) (T_get hi (T_get (by simp; omega) ?_))
    rw [wrs hi (by omega)]
    have e := set_copy l ((0 : Int), (0 : Int), (0 : Int)) i hi
    refine T_eq (fun x => congrArg (fun q => laws_toLeaseS.l0 x.1 x.2 (((i + 1 : Nat) : Int), l, q)) e) he) (by
    dsimp only [laws_toLeaseS.l0, laws_toLeaseS.s0]
    exact T_neg (by omega) (T_ret (by simp))) 0 (Nat.zero_le _)
  unfold laws_toLeaseS.f
  refine T_and (by omega) (by omega) (T_in (g := fun x j => laws_toLeaseS.l0 x j _) ?_ (fun k => k) (fun _ _ h => h))
  simpa using h
theorem laws_toFixed.one (k : Nat) (c0 : Int) (c1 : Int) : laws_toFixed.f k c0 c1 = some (c0, c1) := rfl
theorem laws_toFixedS.ev (l : List (Int × Int)) (hn : l.length ≤ 1048576) : Tells F0 (fun k => laws_toFixedS.f k l) (· = l) := by
  have h := T_loop (F := F0) (fun k j i => laws_toFixedS.l0 k j ((i : Int), l, l.take i ++ List.replicate (l.length - i) ((0 : Int), (0 : Int)))) l.length (fun _ r => r = l) (fun i hi he => by
    dsimp only [laws_toFixedS.l0, laws_toFixedS.s0]
    simp only [laws_toFixed.one, Int.toNat_natCast, Option.bind_some]
    refine T_pos (by omega) (T_get hi (T_get (by simp; omega) ?_))
    rw [wrs hi (by omega)]
    have e := set_copy l ((0 : Int), (0 : Int)) i hi
    refine T_eq (fun x => congrArg (fun q => laws_toFixedS.l0 x.1 x.2 (((i + 1 : Nat) : Int), l, q)) e) he) (by
    dsimp only [laws_toFixedS.l0, laws_toFixedS.s0]
    exact T_neg (by omega) (T_ret (by simp))) 0 (Nat.zero_le _)
  unfold laws_toFixedS.f
  refine T_and (by omega) (by omega) (T_in (g := fun x j => laws_toFixedS.l0 x j _) ?_ (fun k => k) (fun _ _ h => h))
  simpa using h
theorem laws_toPool.ev (c0 : Int) (c1 : Int) (c2 : List (Int × Int × Int)) (c3 : List (Int × Int)) (h2 : c2.length ≤ 1048576) (h3 : c3.length ≤ 1048576) : Tells F0 (fun k => laws_toPool.f k c0 c1 c2 c3) (· = (c0, c1, c2, c3)) := by
  unfold laws_toPool.f
  simp only [laws_toPrefix.one, Option.bind_some]
  refine T_bindE (laws_toLeaseS.ev _ h2) ?_
  refine T_bindE (laws_toFixedS.ev _ h3) ?_
  exact T_ret rfl
theorem laws_eqPrefix.refl (k : Nat) (c0 : Int) (c1 : Int) : laws_eqPrefix.f k c0 c1 c0 c1 = some true := by simp [laws_eqPrefix.f]
theorem laws_eqLease.refl (k : Nat) (c0 : Int) (c1 : Int) (c2 : Int) : laws_eqLease.f k c0 c1 c2 c0 c1 c2 = some true := by simp [laws_eqLease.f]
theorem laws_eqLeaseS.ev (l : List (Int × Int × Int)) (hn : l.length ≤ 1000000000000000000) : Tells F0 (fun k => laws_eqLeaseS.f k l l) (· = true) := by
  have h := T_loop (F := F0) (fun k j i => laws_eqLeaseS.l0 k j ((i : Int), l, l)) l.length (fun _ r => r = true) (fun i hi he => by
    dsimp only [laws_eqLeaseS.l0, laws_eqLeaseS.s0]
    simp only [Int.toNat_natCast]
    refine T_pos (by omega) (T_get hi (T_get hi ?_))
    simp only [laws_eqLease.refl, Option.bind_some]
    refine T_same rfl ?_
    rw [wrs hi (by omega)]
    exact he) (by
    dsimp only [laws_eqLeaseS.l0, laws_eqLeaseS.s0]
    exact T_neg (by omega) (T_ret rfl)) 0 (Nat.zero_le _)
  unfold laws_eqLeaseS.f
  exact T_same (by simp) (T_in (g := fun x j => laws_eqLeaseS.l0 x j _) h (fun k => k) (fun _ _ h => h))
theorem laws_eqFixed.refl (k : Nat) (c0 : Int) (c1 : Int) : laws_eqFixed.f k c0 c1 c0 c1 = some true := by simp [laws_eqFixed.f]
theorem laws_eqFixedS.ev (l : List (Int × Int)) (hn : l.length ≤ 1000000000000000000) : Tells F0 (fun k => laws_eqFixedS.f k l l) (· = true) := by
  have h := T_loop (F := F0) (fun k j i => laws_eqFixedS.l0 k j ((i : Int), l, l)) l.length (fun _ r => r = true) (fun i hi he => by
    dsimp only [laws_eqFixedS.l0, laws_eqFixedS.s0]
    simp only [Int.toNat_natCast]
    refine T_pos (by omega) (T_get hi (T_get hi ?_))
    simp only [laws_eqFixed.refl, Option.bind_some]
    refine T_same rfl ?_
    rw [wrs hi (by omega)]
    exact he) (by
    dsimp only [laws_eqFixedS.l0, laws_eqFixedS.s0]
    exact T_neg (by omega) (T_ret rfl)) 0 (Nat.zero_le _)
  unfold laws_eqFixedS.f
  exact T_same (by simp) (T_in (g := fun x j => laws_eqFixedS.l0 x j _) h (fun k => k) (fun _ _ h => h))
theorem laws_eqPool.ev (c0 : Int) (c1 : Int) (c2 : List (Int × Int × Int)) (c3 : List (Int × Int)) (h2 : c2.length ≤ 1000000000000000000) (h3 : c3.length ≤ 1000000000000000000) : Tells F0 (fun k => laws_eqPool.f k c0 c1 c2 c3 c0 c1 c2 c3) (· = true) := by
  unfold laws_eqPool.f
  simp only [laws_eqPrefix.refl, Option.bind_some]
  refine T_same rfl ?_
  refine T_bindE (laws_eqLeaseS.ev _ h2) ?_
  refine T_same rfl ?_
  refine T_bindE (laws_eqFixedS.ev _ h3) ?_
  refine T_same rfl ?_
  exact T_ret rfl
def mkd_Lease (n m : Nat) : List (Int × Int × Int) := (List.range m).map fun i => (((n + 3 * i + 0 : Nat) : Int), ((n + 3 * i + 1 : Nat) : Int), ((n + 3 * i + 2 : Nat) : Int))
theorem laws_markLeaseS.ev (l : List (Int × Int × Int)) (n : Nat) (hb : n + 3 * l.length ≤ 1000000000000000000) : Tells F0 (fun k => laws_markLeaseS.f k l (n : Int)) (· = (((n + 3 * l.length : Nat) : Int), mkd_Lease n l.length)) := by
  have hM : (mkd_Lease n l.length).length = l.length := by simp [mkd_Lease]
  have h := T_loop (F := F0) (fun k j i => laws_markLeaseS.l0 k j (((n + 3 * i : Nat) : Int), (i : Int), (mkd_Lease n l.length).take i ++ l.drop i)) l.length (fun _ r => r = (((n + 3 * l.length : Nat) : Int), mkd_Lease n l.length)) (fun i hi he => by
    have hv : (mkd_Lease n l.length)[i]? = some (((n + 3 * i + 0 : Nat) : Int), ((n + 3 * i + 1 : Nat) : Int), ((n + 3 * i + 2 : Nat) : Int)) := by simp [mkd_Lease, hi]
    have hs := mark_step (mkd_Lease n l.length) l i _ hM hi hv
    have hL : i < ((mkd_Lease n l.length).take i ++ l.drop i).length := by simp; omega
    have w0 : IntKind.i64.wrap (((n + 3 * i : Nat) : Int) + 1) = ((n + 3 * i + 1 : Nat) : Int) := by rw [wr64 (by omega) (by omega)]; omega
    have w1 : IntKind.i64.wrap (((n + 3 * i + 1 : Nat) : Int) + 1) = ((n + 3 * i + 2 : Nat) : Int) := by rw [wr64 (by omega) (by omega)]; omega
    have w2 : IntKind.i64.wrap (((n + 3 * i + 2 : Nat) : Int) + 1) = ((n + 3 * (i + 1) : Nat) : Int) := by rw [wr64 (by omega) (by omega)]; omega
    dsimp only [laws_markLeaseS.l0, laws_markLeaseS.s0]
    simp only [Int.toNat_natCast, w0, w1, w2, wrs hi (show l.length ≤ 9223372036854775807 by omega)]
    refine T_pos (by omega) ?_
    refine T_get hL ?_
    refine T_got (by simpa using hL) ?_
    refine T_got (by simpa using hL) ?_
    refine T_eq (fun x => congrArg (fun q => laws_markLeaseS.l0 x.1 x.2 (((n + 3 * (i + 1) : Nat) : Int), ((i + 1 : Nat) : Int), q)) ?_) he
    try simp only [List.set_set]
    exact hs) (by
    dsimp only [laws_markLeaseS.l0, laws_markLeaseS.s0]
    refine T_neg (by simp; omega) (T_ret ?_)
    rw [List.take_of_length_le (by omega), List.drop_length, List.append_nil]) 0 (Nat.zero_le _)
  unfold laws_markLeaseS.f
  refine T_in (g := fun x j => laws_markLeaseS.l0 x j _) ?_ (fun k => k) (fun _ _ h => h)
  simpa using h
def mkd_Fixed (n m : Nat) : List (Int × Int) := (List.range m).map fun i => (((n + 2 * i + 0 : Nat) : Int), ((n + 2 * i + 1 : Nat) : Int))
theorem laws_markFixedS.ev (l : List (Int × Int)) (n : Nat) (hb : n + 2 * l.length ≤ 1000000000000000000) : Tells F0 (fun k => laws_markFixedS.f k l (n : Int)) (· = (((n + 2 * l.length : Nat) : Int), mkd_Fixed n l.length)) := by
  have hM : (mkd_Fixed n l.length).length = l.length := by simp [mkd_Fixed]
  have h := T_loop (F := F0) (fun k j i => laws_markFixedS.l0 k j (((n + 2 * i : Nat) : Int), (i : Int), (mkd_Fixed n l.length).take i ++ l.drop i)) l.length (fun _ r => r = (((n + 2 * l.length : Nat) : Int), mkd_Fixed n l.length)) (fun i hi he => by
    have hv : (mkd_Fixed n l.length)[i]? = some (((n + 2 * i + 0 : Nat) : Int), ((n + 2 * i + 1 : Nat) : Int)) := by simp [mkd_Fixed, hi]
    have hs := mark_step (mkd_Fixed n l.length) l i _ hM hi hv
    have hL : i < ((mkd_Fixed n l.length).take i ++ l.drop i).length := by simp; omega
    have w0 : IntKind.i64.wrap (((n + 2 * i : Nat) : Int) + 1) = ((n + 2 * i + 1 : Nat) : Int) := by rw [wr64 (by omega) (by omega)]; omega
    have w1 : IntKind.i64.wrap (((n + 2 * i + 1 : Nat) : Int) + 1) = ((n + 2 * (i + 1) : Nat) : Int) := by rw [wr64 (by omega) (by omega)]; omega
    dsimp only [laws_markFixedS.l0, laws_markFixedS.s0]
    simp only [Int.toNat_natCast, w0, w1, wrs hi (show l.length ≤ 9223372036854775807 by omega)]
    refine T_pos (by omega) ?_
    refine T_get hL ?_
    refine T_got (by simpa using hL) ?_
    refine T_eq (fun x => congrArg (fun q => laws_markFixedS.l0 x.1 x.2 (((n + 2 * (i + 1) : Nat) : Int), ((i + 1 : Nat) : Int), q)) ?_) he
    try simp only [List.set_set]
    exact hs) (by
    dsimp only [laws_markFixedS.l0, laws_markFixedS.s0]
    refine T_neg (by simp; omega) (T_ret ?_)
    rw [List.take_of_length_le (by omega), List.drop_length, List.append_nil]) 0 (Nat.zero_le _)
  unfold laws_markFixedS.f
  refine T_in (g := fun x j => laws_markFixedS.l0 x j _) ?_ (fun k => k) (fun _ _ h => h)
  simpa using h
theorem laws_markPool.ev (c0 : Int) (c1 : Int) (c2 : List (Int × Int × Int)) (c3 : List (Int × Int)) (n : Nat) (hb : n + 3 * c2.length + 2 * c3.length ≤ 1000000000000000000) : Tells F0 (fun k => laws_markPool.f k c0 c1 c2 c3 (n : Int)) (· = (((n + 3 * c2.length + 2 * c3.length : Nat) : Int), mkd_Lease n c2.length, mkd_Fixed (n + 3 * c2.length) c3.length)) := by
  unfold laws_markPool.f
  refine T_bindE (laws_markLeaseS.ev _ n (by omega)) ?_
  refine T_bindE (laws_markFixedS.ev _ (n + 3 * c2.length) (by omega)) ?_
  exact T_ret rfl
theorem laws_heldLeaseS.ev (m n : Nat) (hb : n + 3 * m ≤ 1000000000000000000) : Tells F0 (fun k => laws_heldLeaseS.f k (mkd_Lease n m) (n : Int)) (· = ((n + 3 * m : Nat) : Int)) := by
  have hM : (mkd_Lease n m).length = m := by simp [mkd_Lease]
  have h := T_loop (F := F0) (fun k j i => laws_heldLeaseS.l0 k j (((n + 3 * i : Nat) : Int), (i : Int), mkd_Lease n m)) m (fun _ r => r = ((n + 3 * m : Nat) : Int)) (fun i hi he => by
    have hL : i < (mkd_Lease n m).length := by omega
    have hv : (mkd_Lease n m)[i] = (((n + 3 * i + 0 : Nat) : Int), ((n + 3 * i + 1 : Nat) : Int), ((n + 3 * i + 2 : Nat) : Int)) := by simp [mkd_Lease]
    have w0 : IntKind.i64.wrap (((n + 3 * i : Nat) : Int) + 1) = ((n + 3 * i + 1 : Nat) : Int) := by rw [wr64 (by omega) (by omega)]; omega
    have w1 : IntKind.i64.wrap (((n + 3 * i + 1 : Nat) : Int) + 1) = ((n + 3 * i + 2 : Nat) : Int) := by rw [wr64 (by omega) (by omega)]; omega
    have w2 : IntKind.i64.wrap (((n + 3 * i + 2 : Nat) : Int) + 1) = ((n + 3 * (i + 1) : Nat) : Int) := by rw [wr64 (by omega) (by omega)]; omega
    dsimp only [laws_heldLeaseS.l0, laws_heldLeaseS.s0]
    simp only [Int.toNat_natCast, w0, w1, w2, wrs hi (show m ≤ 9223372036854775807 by omega)]
    refine T_pos (by omega) ?_
    refine T_get hL ?_; rw [hv]; (try dsimp only)
    refine T_same ?_ ?_
    · simp
    refine T_get hL ?_; rw [hv]; (try dsimp only)
    refine T_same ?_ ?_
    · simp
    refine T_get hL ?_; rw [hv]; (try dsimp only)
    refine T_same ?_ ?_
    · simp
    exact he) (by
    dsimp only [laws_heldLeaseS.l0, laws_heldLeaseS.s0]
    exact T_neg (by omega) (T_ret rfl)) 0 (Nat.zero_le _)
  unfold laws_heldLeaseS.f
  exact T_in (g := fun x j => laws_heldLeaseS.l0 x j _) (by simpa using h) (fun k => k) (fun _ _ h => h)
theorem laws_heldFixedS.ev (m n : Nat) (hb : n + 2 * m ≤ 1000000000000000000) : Tells F0 (fun k => laws_heldFixedS.f k (mkd_Fixed n m) (n : Int)) (· = ((n + 2 * m : Nat) : Int)) := by
  have hM : (mkd_Fixed n m).length = m := by simp [mkd_Fixed]
  have h := T_loop (F := F0) (fun k j i => laws_heldFixedS.l0 k j (((n + 2 * i : Nat) : Int), (i : Int), mkd_Fixed n m)) m (fun _ r => r = ((n + 2 * m : Nat) : Int)) (fun i hi he => by
    have hL : i < (mkd_Fixed n m).length := by omega
    have hv : (mkd_Fixed n m)[i] = (((n + 2 * i + 0 : Nat) : Int), ((n + 2 * i + 1 : Nat) : Int)) := by simp [mkd_Fixed]
    have w0 : IntKind.i64.wrap (((n + 2 * i : Nat) : Int) + 1) = ((n + 2 * i + 1 : Nat) : Int) := by rw [wr64 (by omega) (by omega)]; omega
    have w1 : IntKind.i64.wrap (((n + 2 * i + 1 : Nat) : Int) + 1) = ((n + 2 * (i + 1) : Nat) : Int) := by rw [wr64 (by omega) (by omega)]; omega
    dsimp only [laws_heldFixedS.l0, laws_heldFixedS.s0]
    simp only [Int.toNat_natCast, w0, w1, wrs hi (show m ≤ 9223372036854775807 by omega)]
    refine T_pos (by omega) ?_
    refine T_get hL ?_; rw [hv]; (try dsimp only)
    refine T_same ?_ ?_
    · simp
    refine T_get hL ?_; rw [hv]; (try dsimp only)
    refine T_same ?_ ?_
    · simp
    exact he) (by
    dsimp only [laws_heldFixedS.l0, laws_heldFixedS.s0]
    exact T_neg (by omega) (T_ret rfl)) 0 (Nat.zero_le _)
  unfold laws_heldFixedS.f
  exact T_in (g := fun x j => laws_heldFixedS.l0 x j _) (by simpa using h) (fun k => k) (fun _ _ h => h)
theorem laws_heldPool.ev (c0 : Int) (c1 : Int) (m2 m3 n : Nat) (hb : n + 3 * m2 + 2 * m3 ≤ 1000000000000000000) : Tells F0 (fun k => laws_heldPool.f k c0 c1 (mkd_Lease n m2) (mkd_Fixed (n + 3 * m2) m3) (n : Int)) (· = ((n + 3 * m2 + 2 * m3 : Nat) : Int)) := by
  unfold laws_heldPool.f
  refine T_bindE (laws_heldLeaseS.ev m2 n (by omega)) ?_
  refine T_neg (by omega) ?_
  refine T_bindE (laws_heldFixedS.ev m3 (n + 3 * m2) (by omega)) ?_
  refine T_neg (by omega) ?_
  exact T_ret rfl
theorem in_eq (k : Nat) (n a b : Int) : spec_l01In.f k n a b = some (decide (a ≤ n ∧ n ≤ b)) := by
  unfold spec_l01In.f
  by_cases h : n ≥ a <;> by_cases h' : n ≤ b <;> simp [h, h'] <;> omega
theorem within_eq (k : Nat) (n a b : Int) : impl_within.f k n a b = some (decide (a ≤ n ∧ n ≤ b)) := by
  unfold impl_within.f
  by_cases h : n ≥ a <;> by_cases h' : n ≤ b <;> simp [h, h'] <;> omega

def PfxP (a n : Int) : Prop := (0 ≤ a ∧ a ≤ 4294967295) ∧ (0 ≤ n ∧ n ≤ 32) ∧ a % 2 ^ (32 - n).toNat = 0
def InP (p n a : Int) : Prop := PfxP p n ∧ (0 ≤ a ∧ a ≤ 4294967295) ∧ a - a % 2 ^ (32 - n).toNat = p
instance decPfxP (a n : Int) : Decidable (PfxP a n) := by unfold PfxP; infer_instance
instance decInP (p n a : Int) : Decidable (InP p n a) := by unfold InP; infer_instance
theorem pow_rng (m : Nat) (h : m ≤ 32) : (1 : Int) ≤ 2 ^ m ∧ (2 : Int) ^ m ≤ 4294967296 := by
  have h1 : 2 ^ m ≤ 2 ^ 32 := Nat.pow_le_pow_right (by decide) h
  have h2 : 1 ≤ 2 ^ m := Nat.one_le_two_pow
  have e : ((2 ^ m : Nat) : Int) = (2 : Int) ^ m := by simp
  omega
theorem mask_nat (i : Nat) : ((2 : Int) ^ i - 1) = ((2 ^ i - 1 : Nat) : Int) := by
  have hpn : 1 ≤ 2 ^ i := Nat.one_le_two_pow
  rw [Int.natCast_sub hpn]; simp
theorem bv_nat (a : Nat) (h : a < 18446744073709551616) : (BitVec.ofInt IntKind.i64.bits (a : Int)).toNat = a := by
  show (BitVec.ofInt 64 (a : Int)).toNat = a
  rw [BitVec.ofInt_natCast, BitVec.toNat_ofNat, Nat.mod_eq_of_lt h]
theorem and_mask (i : Nat) (hi : i ≤ 32) (x : Int) (h₀ : 0 ≤ x) (h₁ : x ≤ 4294967295) : (((BitVec.ofInt IntKind.i64.bits x) &&& (BitVec.ofInt IntKind.i64.bits (2 ^ i - 1))).toNat : Int) = x % 2 ^ i := by
  obtain ⟨a, rfl⟩ := Int.eq_ofNat_of_zero_le h₀
  have hb : 2 ^ i ≤ 2 ^ 32 := Nat.pow_le_pow_right (by decide) hi
  rw [mask_nat, BitVec.toNat_and, bv_nat a (by omega), bv_nat _ (by omega), Nat.and_two_pow_sub_one_eq_mod]
  simp
theorem andNot_mask (i : Nat) (hi : i ≤ 32) (x : Int) (h₀ : 0 ≤ x) (h₁ : x ≤ 4294967295) : (((BitVec.ofInt IntKind.i64.bits x) &&& ~~~(BitVec.ofInt IntKind.i64.bits (2 ^ i - 1))).toNat : Int) = x - x % 2 ^ i := by
  have e1 := and_mask i hi x h₀ h₁
  obtain ⟨a, rfl⟩ := Int.eq_ofNat_of_zero_le h₀
  have hb : 2 ^ i ≤ 2 ^ 32 := Nat.pow_le_pow_right (by decide) hi
  have e2 : (BitVec.ofInt IntKind.i64.bits (a : Int) &&& BitVec.ofInt IntKind.i64.bits (2 ^ i - 1)) + (BitVec.ofInt IntKind.i64.bits (a : Int) &&& ~~~ (BitVec.ofInt IntKind.i64.bits (2 ^ i - 1))) = BitVec.ofInt IntKind.i64.bits (a : Int) := by
    generalize BitVec.ofInt IntKind.i64.bits (a : Int) = u
    generalize BitVec.ofInt IntKind.i64.bits (2 ^ i - 1) = v
    rw [BitVec.add_eq_or_of_and_eq_zero]
    · ext j h
      simp
      cases (u[j]) <;> simp
    · ext j h
      simp
      cases (u[j]) <;> simp
  have e3 := congrArg BitVec.toNat e2
  rw [BitVec.toNat_add, bv_nat a (by omega)] at e3
  have h4 : (BitVec.ofInt IntKind.i64.bits (a : Int) &&& ~~~ (BitVec.ofInt IntKind.i64.bits (2 ^ i - 1))).toNat ≤ a := by
    rw [BitVec.toNat_and, bv_nat a (by omega)]
    exact Nat.and_le_left
  have h5 : (a : Int) % 2 ^ i ≤ a := by
    have : ((a % 2 ^ i : Nat) : Int) = (a : Int) % 2 ^ i := by simp
    have := Nat.mod_le a (2 ^ i)
    omega
  have h6 : 0 ≤ (a : Int) % 2 ^ i := Int.emod_nonneg _ (by have := pow_rng i hi; omega)
  have e4 : (2 : Nat) ^ IntKind.i64.bits = 18446744073709551616 := by decide
  rw [e4] at e3
  rw [Nat.mod_eq_of_lt (by omega)] at e3
  omega
theorem or_mask (i : Nat) (hi : i ≤ 32) (x : Int) (h₀ : 0 ≤ x) (h₁ : x ≤ 4294967295) (hm : x % 2 ^ i = 0) : (((BitVec.ofInt IntKind.i64.bits x) ||| (BitVec.ofInt IntKind.i64.bits (2 ^ i - 1))).toNat : Int) = x + 2 ^ i - 1 := by
  obtain ⟨a, rfl⟩ := Int.eq_ofNat_of_zero_le h₀
  have hb : 2 ^ i ≤ 2 ^ 32 := Nat.pow_le_pow_right (by decide) hi
  have hpn : 1 ≤ 2 ^ i := Nat.one_le_two_pow
  have hmn : a % 2 ^ i = 0 := by
    have : ((a % 2 ^ i : Nat) : Int) = (a : Int) % 2 ^ i := by simp
    omega
  have hd : a = 2 ^ i * (a / 2 ^ i) := by have := Nat.div_add_mod a (2 ^ i); omega
  rw [mask_nat, BitVec.toNat_or, bv_nat a (by omega), bv_nat _ (by omega), hd, ← Nat.two_pow_add_eq_or_of_lt (by omega : 2 ^ i - 1 < 2 ^ i)]
  rw [← hd]
  have : ((2 ^ i : Nat) : Int) = (2 : Int) ^ i := by simp
  omega
theorem impl_AddrOk_eq (k : Nat) (a : Int) : impl_AddrOk.f k a = some (decide (0 ≤ a ∧ a ≤ 4294967295)) := by
  unfold impl_AddrOk.f
  rw [within_eq]; rfl
theorem spec_AddrOk_eq (k : Nat) (a : Int) : spec_AddrOk.f k a = some (decide (0 ≤ a ∧ a ≤ 4294967295)) := by
  unfold spec_AddrOk.f
  rw [in_eq]; rfl
theorem lastBits_eq (k : Nat) (n : Int) (h0 : 0 ≤ n) (h1 : n ≤ 32) : impl_lastBits.f k n = some (2 ^ (32 - n).toNat - 1) := by
  unfold impl_lastBits.f
  have hp := pow_rng (32 - n).toNat (by omega)
  rw [wr64 (x := 32 - n) (by omega) (by omega), show min (32 - n).toNat IntKind.i64.bits = (32 - n).toNat from Nat.min_eq_left (by show _ ≤ 64; omega), Int.one_mul, wr64 (x := 2 ^ (32 - n).toNat) (by omega) (by omega), wr64 (by omega) (by omega)]
  have : decide (32 - n < 0) = false := decide_eq_false (by omega)
  rw [this]; rfl
theorem impl_PrefixOk_eq (k : Nat) (a n : Int) : impl_PrefixOk.f k a n = some (decide (PfxP a n)) := by
  unfold impl_PrefixOk.f
  simp only [impl_AddrOk_eq, within_eq, Option.bind_some]
  by_cases h1 : 0 ≤ a ∧ a ≤ 4294967295
  · by_cases h2 : 0 ≤ n ∧ n ≤ 32
    · have hp := pow_rng (32 - n).toNat (by omega)
      have hm0 := Int.emod_nonneg a (show (2 : Int) ^ (32 - n).toNat ≠ 0 by omega)
      have hm1 := Int.emod_lt_of_pos a (show (0 : Int) < 2 ^ (32 - n).toNat by omega)
      rw [decide_eq_true h1, decide_eq_true h2]
      simp only [cond_true, lastBits_eq k n h2.1 h2.2, Option.bind_some]
      rw [and_mask _ (by omega) a h1.1 h1.2, wr64 (by omega) (by omega)]
      congr 1
      by_cases h3 : a % 2 ^ (32 - n).toNat = 0
      · rw [decide_eq_true (show PfxP a n from ⟨h1, h2, h3⟩)]; simp [h3]
      · rw [decide_eq_false (show ¬ PfxP a n from fun c => h3 c.2.2)]; simp [h3]
    · rw [decide_eq_true h1, decide_eq_false h2, decide_eq_false (show ¬ PfxP a n from fun c => h2 c.2.1)]; rfl
  · rw [decide_eq_false h1, decide_eq_false (show ¬ PfxP a n from fun c => h1 c.1)]; rfl
theorem impl_InPrefix_eq (k : Nat) (p n a : Int) : impl_InPrefix.f k p n a = some (decide (InP p n a)) := by
  unfold impl_InPrefix.f
  simp only [impl_PrefixOk_eq, impl_AddrOk_eq, Option.bind_some]
  by_cases h1 : PfxP p n
  · by_cases h2 : 0 ≤ a ∧ a ≤ 4294967295
    · have hn := h1.2.1
      have hp := pow_rng (32 - n).toNat (by omega)
      have hm0 := Int.emod_nonneg a (show (2 : Int) ^ (32 - n).toNat ≠ 0 by omega)
      have hm1 := Int.emod_lt_of_pos a (show (0 : Int) < 2 ^ (32 - n).toNat by omega)
      rw [decide_eq_true h1, decide_eq_true h2]
      simp only [cond_true, lastBits_eq k n hn.1 hn.2, Option.bind_some]
      rw [andNot_mask _ (by omega) a h2.1 h2.2, wr64 (by omega) (by omega)]
      congr 1
      by_cases h3 : a - a % 2 ^ (32 - n).toNat = p
      · rw [decide_eq_true (show InP p n a from ⟨h1, h2, h3⟩)]; simp [h3]
      · rw [decide_eq_false (show ¬ InP p n a from fun c => h3 c.2.2)]; simp [h3]
    · rw [decide_eq_true h1, decide_eq_false h2, decide_eq_false (show ¬ InP p n a from fun c => h2 c.2.1)]; rfl
  · rw [decide_eq_false h1, decide_eq_false (show ¬ InP p n a from fun c => h1 c.1)]; rfl
theorem spec_l08Size.ev (n : Int) (h0 : 0 ≤ n) (h1 : n ≤ 32) : Tells F0 (fun k => spec_l08Size.f k n) (· = 2 ^ (32 - n).toNat) := by
  obtain ⟨m, rfl⟩ := Int.eq_ofNat_of_zero_le h0
  have hd : ∀ j : Fin 32, IntKind.i64.wrap (2 * 2 ^ j.val) = 2 ^ (j.val + 1) := by decide +kernel
  have h := T_loop (F := F0) (fun k j i => spec_l08Size.l0 k j (2 ^ i, ((m + i : Nat) : Int))) (32 - m) (fun _ r => r = 2 ^ (32 - m)) (fun i hi he => by
    dsimp only [spec_l08Size.l0, spec_l08Size.s0]
    refine T_pos (by omega) ?_
    rw [hd ⟨i, by omega⟩, wrn (by omega)]
    exact he) (by
    dsimp only [spec_l08Size.l0, spec_l08Size.s0]
    exact T_neg (by omega) (T_ret rfl)) 0 (Nat.zero_le _)
  unfold spec_l08Size.f
  rw [show (32 - (m : Int)).toNat = 32 - m by omega]
  exact T_in (g := fun x j => spec_l08Size.l0 x j _) (by simpa using h) (fun k => k) (fun _ _ h => h)
theorem spec_PrefixOk.ev (a n : Int) : Tells F0 (fun k => spec_PrefixOk.f k a n) (· = decide (PfxP a n)) := by
  unfold spec_PrefixOk.f
  simp only [spec_AddrOk_eq, in_eq, Option.bind_some]
  refine T_dec (fun h1 => T_dec (fun h2 => ?_) fun h => T_ret (decide_eq_false fun c => h c.2.1).symm) fun h => T_ret (decide_eq_false fun c => h c.1).symm
  refine T_bindE (spec_l08Size.ev n h2.1 h2.2) ?_
  have hp := pow_rng (32 - n).toNat (by omega)
  refine T_false (by simp; omega) (T_ret ?_)
  rw [Int.tmod_eq_emod_of_nonneg h1.1]
  by_cases h3 : a % 2 ^ (32 - n).toNat = 0
  · rw [decide_eq_true (show PfxP a n from ⟨h1, h2, h3⟩)]; simp [h3]
  · rw [decide_eq_false (show ¬ PfxP a n from fun c => h3 c.2.2)]; simp [h3]
theorem spec_InPrefix.ev (p n a : Int) : Tells F0 (fun k => spec_InPrefix.f k p n a) (· = decide (InP p n a)) := by
  unfold spec_InPrefix.f
  refine T_bindE (spec_PrefixOk.ev p n) ?_
  simp only [spec_AddrOk_eq, Option.bind_some]
  refine T_dec (fun h1 => T_dec (fun h2 => ?_) fun h => T_ret (decide_eq_false fun c => h c.2.1).symm) fun h => T_ret (decide_eq_false fun c => h c.1).symm
  have hn := h1.2.1
  refine T_bindE (spec_l08Size.ev n hn.1 hn.2) ?_
  have hp := pow_rng (32 - n).toNat (by omega)
  have hm0 := Int.emod_nonneg a (show (2 : Int) ^ (32 - n).toNat ≠ 0 by omega)
  have hm1 := Int.emod_lt_of_pos a (show (0 : Int) < 2 ^ (32 - n).toNat by omega)
  refine T_false (by simp; omega) (T_ret ?_)
  rw [Int.tmod_eq_emod_of_nonneg h2.1, wr64 (by omega) (by omega)]
  by_cases h3 : a - a % 2 ^ (32 - n).toNat = p
  · rw [decide_eq_true (show InP p n a from ⟨h1, h2, h3⟩)]; simp [h3]
  · rw [decide_eq_false (show ¬ InP p n a from fun c => h3 c.2.2)]; simp [h3]

theorem isId_eq (k : Nat) (n : Int) : impl_isId.f k n = some (decide (1 ≤ n ∧ n ≤ 99)) := by
  unfold impl_isId.f
  rw [within_eq]; rfl

theorem take_filter_succ {α : Type} (p : α → Bool) (l : List α) (i : Nat) (h : i < l.length) : (l.take (i + 1)).filter p = (l.take i).filter p ++ (if p l[i] then [l[i]] else []) := by
  rw [List.take_succ_eq_append_getElem h, List.filter_append]
  cases e : p l[i] <;> simp [e]
theorem drop_get {α : Type} {l l' : List α} {j : Nat} (h : l'.drop j = l.drop j) (hj : j < l.length) (hj' : j < l'.length) : l'[j] = l[j] := by
  have := congrArg (fun x => x[0]?) h
  simp only [List.getElem?_drop, Nat.add_zero, List.getElem?_eq_getElem hj, List.getElem?_eq_getElem hj'] at this
  exact Option.some.inj this
theorem set_take_succ {α : Type} (l : List α) (i : Nat) (x : α) (h : i < l.length) : (l.set i x).take (i + 1) = l.take i ++ [x] := by
  rw [List.take_succ_eq_append_getElem (by simpa using h), List.take_set_of_le (Nat.le_refl _), List.getElem_set_self]

def impl_leaseOf_1.p (c0 : Int) (x : Int × Int × Int) : Bool := (x.2.1 == c0)
theorem impl_leaseOf_1.ev (k : Nat) (x : Int × Int × Int) (c0 : Int) : impl_leaseOf_1.f k x.1 x.2.1 x.2.2 c0 = some (impl_leaseOf_1.p c0 x, c0) := rfl
theorem slices_IndexFunc_impl_Lease_impl_Lease_f141.ev (l : List (Int × Int × Int)) (c0 : Int) (hn : l.length ≤ 1000000000000000000) : Tells F0 (fun k => slices_IndexFunc_impl_Lease_impl_Lease_f141.f k l c0) (· = (if l.findIdx (impl_leaseOf_1.p c0) = l.length then (-1 : Int) else (l.findIdx (impl_leaseOf_1.p c0) : Int), c0)) := by
  have h := T_loop (F := F0) (fun k j i => slices_IndexFunc_impl_Lease_impl_Lease_f141.l0 k j ((l.length : Int), (i : Int), l, c0)) l.length (fun i r => (∀ m (h : m < l.length), m < i → impl_leaseOf_1.p c0 l[m] = false) → r = (if l.findIdx (impl_leaseOf_1.p c0) = l.length then (-1 : Int) else (l.findIdx (impl_leaseOf_1.p c0) : Int), c0)) (fun i hi he => by
    dsimp only [slices_IndexFunc_impl_Lease_impl_Lease_f141.l0, slices_IndexFunc_impl_Lease_impl_Lease_f141.s0]
    simp only [Int.toNat_natCast, impl_leaseOf_1.ev, Option.bind_some]
    refine T_pos (by omega) (T_get hi (T_bif (fun hp => T_ret fun hm => ?_) fun hp => ?_))
    · have e : l.findIdx (impl_leaseOf_1.p c0) = i := (List.findIdx_eq hi).2 ⟨hp, fun j hj => hm j (by omega) hj⟩
      rw [e, if_neg (by omega)]
    · rw [wrs hi (by omega)]
      refine T_mono he fun r hr hm => hr fun m h hmi => ?_
      by_cases e : m = i
      · subst e; exact hp
      · exact hm m h (by omega)) (by
    dsimp only [slices_IndexFunc_impl_Lease_impl_Lease_f141.l0, slices_IndexFunc_impl_Lease_impl_Lease_f141.s0]
    refine T_neg (by omega) (T_ret fun hm => ?_)
    have e : l.findIdx (impl_leaseOf_1.p c0) = l.length := List.findIdx_eq_length.2 fun x hx => by
      obtain ⟨j, hj, rfl⟩ := List.mem_iff_getElem.1 hx
      exact hm j hj hj
    rw [if_pos e]) 0 (Nat.zero_le _)
  unfold slices_IndexFunc_impl_Lease_impl_Lease_f141.f
  exact T_in (g := fun x j => slices_IndexFunc_impl_Lease_impl_Lease_f141.l0 x j _) (T_mono h fun r hr => hr (fun m h hm => absurd hm (by omega))) (fun k => k) (fun _ _ h => h)
def leaseAt (ls : List (Int × Int × Int)) (who : Int) : Int := if ls.findIdx (impl_leaseOf_1.p who) = ls.length then (-1 : Int) else (ls.findIdx (impl_leaseOf_1.p who) : Int)
theorem impl_leaseOf.ev (pa pl : Int) (ls : List (Int × Int × Int)) (fx : List (Int × Int)) (who : Int) (h : ls.length ≤ 1048576) : Tells F0 (fun k => impl_leaseOf.f k pa pl ls fx who) (· = leaseAt ls who) := by
  unfold impl_leaseOf.f
  exact T_bindE (slices_IndexFunc_impl_Lease_impl_Lease_f141.ev ls who (by omega)) (T_ret rfl)
theorem findIdx_le' {α : Type} {p : α → Bool} {l : List α} {i : Nat} (h : i < l.length) (hp : p l[i] = true) : l.findIdx p ≤ i := by
  rcases Nat.lt_or_ge i (l.findIdx p) with k | k
  · have := List.not_of_lt_findIdx k
    rw [hp] at this; cases this
  · exact k
theorem leaseAt_iff (ls : List (Int × Int × Int)) (i : Nat) (h : i < ls.length) : leaseAt ls (ls[i]).2.1 = (i : Int) ↔ ∀ m (hm : m < i), (ls[m]).2.1 ≠ (ls[i]).2.1 := by
  have hp : impl_leaseOf_1.p (ls[i]).2.1 ls[i] = true := by simp [impl_leaseOf_1.p]
  have hle : ls.findIdx (impl_leaseOf_1.p (ls[i]).2.1) ≤ i := findIdx_le' h hp
  unfold leaseAt
  rw [if_neg (by omega)]
  constructor
  · intro e m hm c
    have e' : ls.findIdx (impl_leaseOf_1.p (ls[i]).2.1) = i := by omega
    have := ((List.findIdx_eq h).1 e').2 m hm
    simp [impl_leaseOf_1.p, c] at this
  · intro hh
    have := (List.findIdx_eq (p := impl_leaseOf_1.p (ls[i]).2.1) h).2 ⟨hp, fun j hj => by simpa [impl_leaseOf_1.p] using hh j hj⟩
    omega

abbrev Lse := Int × Int × Int
abbrev Fxd := Int × Int

def HostP (pa pl a : Int) : Prop := InP pa pl a ∧ a ≠ pa ∧ a ≠ pa + 2 ^ (32 - pl).toNat - 1
instance (pa pl a : Int) : Decidable (HostP pa pl a) := by unfold HostP; infer_instance
theorem impl_isHost_eq (k : Nat) (pa pl a : Int) : impl_isHost.f k pa pl a = some (decide (HostP pa pl a)) := by
  unfold impl_isHost.f
  simp only [impl_InPrefix_eq, Option.bind_some]
  by_cases h1 : InP pa pl a
  · have hn := h1.1.2.1
    have ha := h1.1.1
    have hp := pow_rng (32 - pl).toNat (by omega)
    rw [decide_eq_true h1]
    simp only [cond_true, lastBits_eq k pl hn.1 hn.2, Option.bind_some]
    rw [or_mask _ (by omega) pa ha.1 ha.2 h1.1.2.2, wr64 (by omega) (by omega)]
    by_cases h2 : a = pa
    · rw [decide_eq_false (show ¬ HostP pa pl a from fun c => c.2.1 h2)]; simp [h2]
    · have e2 : (a != pa) = true := by simpa using h2
      by_cases h3 : a = pa + 2 ^ (32 - pl).toNat - 1
      · rw [decide_eq_false (show ¬ HostP pa pl a from fun c => c.2.2 h3), e2]; simp [← h3]
      · rw [decide_eq_true (show HostP pa pl a from ⟨h1, h2, h3⟩), e2]
        have e3 : (a != pa + 2 ^ (32 - pl).toNat - 1) = true := by simpa using h3
        rw [e3]; rfl
  · rw [decide_eq_false h1, decide_eq_false (show ¬ HostP pa pl a from fun c => h1 c.1)]; rfl
theorem spec_l11Inside.ev (pa pl : Int) (ls : List Lse) (fx : List Fxd) (a : Int) : Tells F0 (fun k => spec_l11Inside.f k pa pl ls fx a) (· = decide (HostP pa pl a)) := by
  unfold spec_l11Inside.f
  refine T_bindE (spec_InPrefix.ev pa pl a) (T_dec (fun h1 => T_bne (fun h2 => ?_) fun h2 => T_ret (decide_eq_false fun c => c.2.1 h2).symm) fun h1 => T_ret (decide_eq_false fun c => h1 c.1).symm)
  have hn := h1.1.2.1
  have ha := h1.1.1
  have hp := pow_rng (32 - pl).toNat (by omega)
  refine T_bindE (spec_l08Size.ev pl hn.1 hn.2) (T_ret ?_)
  rw [wr64 (x := pa + 2 ^ (32 - pl).toNat) (by omega) (by omega), wr64 (by omega) (by omega)]
  by_cases h3 : a = pa + 2 ^ (32 - pl).toNat - 1
  · rw [decide_eq_false (show ¬ HostP pa pl a from fun c => c.2.2 h3)]; simp [← h3]
  · rw [decide_eq_true (show HostP pa pl a from ⟨h1, h2, h3⟩)]; simpa using h3
def fixFor (fx : List Fxd) (a : Int) : Int := match fx.find? (fun f => f.2 == a) with | some f => f.1 | none => 0
theorem spec_l11FixedFor.ev (pa pl : Int) (ls : List Lse) (fx : List Fxd) (a : Int) (h : fx.length ≤ 1048576) : Tells F0 (fun k => spec_l11FixedFor.f k pa pl ls fx a) (· = fixFor fx a) := by
  have hh := T_loop (F := F0) (fun k j i => spec_l11FixedFor.l0 k j (a, (i : Int), ls, fx, pa, pl)) fx.length (fun i r => r = match (fx.drop i).find? (fun f => f.2 == a) with | some f => f.1 | none => 0) (fun i hi he => by
    rw [find_step _ _ _ hi]
    dsimp only [spec_l11FixedFor.l0, spec_l11FixedFor.s0]
    simp only [Int.toNat_natCast]
    rw [wrs hi (by omega)]
    exact T_pos (by omega) (T_get hi (T_beq (fun e => T_get hi (T_ret (by simp [e]))) fun e => by rw [if_neg (by simpa using e)]; exact he))) (by
    dsimp only [spec_l11FixedFor.l0, spec_l11FixedFor.s0]
    exact T_neg (by omega) (T_ret (by simp))) 0 (Nat.zero_le _)
  unfold spec_l11FixedFor.f
  exact T_in (g := fun x j => spec_l11FixedFor.l0 x j _) hh (fun k => k) (fun _ _ h => h)
theorem impl_fixedFor.ev (pa pl : Int) (ls : List Lse) (fx : List Fxd) (a : Int) (h : fx.length ≤ 1048576) : Tells F0 (fun k => impl_fixedFor.f k pa pl ls fx a) (· = fixFor fx a) := by
  have hh := T_loop (F := F0) (fun k j i => impl_fixedFor.l0 k j (a, (fx.length : Int), (i : Int), ls, fx)) fx.length (fun i r => r = match (fx.drop i).find? (fun f => f.2 == a) with | some f => f.1 | none => 0) (fun i hi he => by
    rw [find_step _ _ _ hi]
    dsimp only [impl_fixedFor.l0, impl_fixedFor.s0]
    simp only [Int.toNat_natCast]
    rw [wrs hi (by omega)]
    exact T_pos (by omega) (T_get hi (T_beq (fun e => T_ret (by simp [e])) fun e => by rw [if_neg (by simpa using e)]; exact he))) (by
    dsimp only [impl_fixedFor.l0, impl_fixedFor.s0]
    exact T_neg (by omega) (T_ret (by simp))) 0 (Nat.zero_le _)
  unfold impl_fixedFor.f
  exact T_in (g := fun x j => impl_fixedFor.l0 x j _) hh (fun k => k) (fun _ _ h => h)
def FixC (pa pl : Int) (fx : List Fxd) (i : Nat) : Prop := ∀ h : i < fx.length, (1 ≤ (fx[i]).1 ∧ (fx[i]).1 ≤ 99) ∧ HostP pa pl (fx[i]).2 ∧ (0 < i → (fx[i - 1]).1 < (fx[i]).1) ∧ fixFor fx (fx[i]).2 = (fx[i]).1
def LeaseC (pa pl : Int) (ls : List Lse) (fx : List Fxd) (i : Nat) : Prop := ∀ h : i < ls.length, HostP pa pl (ls[i]).1 ∧ (1 ≤ (ls[i]).2.1 ∧ (ls[i]).2.1 ≤ 99) ∧ (0 ≤ (ls[i]).2.2 ∧ (ls[i]).2.2 ≤ 1000000000) ∧ (0 < i → (ls[i - 1]).1 < (ls[i]).1) ∧ (fixFor fx (ls[i]).1 = 0 ∨ fixFor fx (ls[i]).1 = (ls[i]).2.1) ∧ ∀ m (hm : m < i), (ls[m]).2.1 ≠ (ls[i]).2.1
def PoolP (pa pl : Int) (ls : List Lse) (fx : List Fxd) : Prop := PfxP pa pl ∧ (24 ≤ pl ∧ pl ≤ 30) ∧ ls.length ≤ 6 ∧ fx.length ≤ 4 ∧ (∀ i, i < fx.length → FixC pa pl fx i) ∧ ∀ i, i < ls.length → LeaseC pa pl ls fx i
section
variable (pa pl : Int) (ls : List Lse) (fx : List Fxd)
theorem spec_PoolOk.ev (h2 : ls.length ≤ 1048576) (h3 : fx.length ≤ 1048576) : Tells F0 (fun k => spec_PoolOk.f k pa pl ls fx) (fun r => r = true ↔ PoolP pa pl ls fx) := by
  have lease : Tells F0 (fun k => spec_PoolOk.l2 k k ((0 : Int), ls, fx, pa, pl)) (fun r => r = true ↔ ∀ i, i < ls.length → LeaseC pa pl ls fx i) := by
    have hh := T_body (F := F0) (fun k j i => spec_PoolOk.l2 k j ((i : Int), ls, fx, pa, pl)) ls.length (LeaseC pa pl ls fx) True (fun i hi P go bad => by
      dsimp only [spec_PoolOk.l2, spec_PoolOk.s2]
      simp only [in_eq, Option.bind_some]
      have inner : (HostP pa pl (ls[i]).1 ∧ (1 ≤ (ls[i]).2.1 ∧ (ls[i]).2.1 ≤ 99) ∧ (0 ≤ (ls[i]).2.2 ∧ (ls[i]).2.2 ≤ 1000000000) ∧ (0 < i → (ls[i - 1]).1 < (ls[i]).1) ∧ (fixFor fx (ls[i]).1 = 0 ∨ fixFor fx (ls[i]).1 = (ls[i]).2.1)) →
          Tells (FS F0) (fun x => spec_PoolOk.l4 x.1 (spec_PoolOk.l2 x.1 x.2) x.1 ((i : Int), (0 : Int), ls, fx, pa, pl, (ls[i]).1, (ls[i]).2.1, (ls[i]).2.2)) P := by
        rintro ⟨q1, q2, q3, q4, q5⟩
        refine T_in (F := FS F0) (g := fun x j => spec_PoolOk.l4 x.1 (spec_PoolOk.l2 x.1 x.2) j _) (T_inner (F := FS F0) (fun x j m => spec_PoolOk.l4 x.1 (spec_PoolOk.l2 x.1 x.2) j ((i : Int), (m : Int), ls, fx, pa, pl, (ls[i]).1, (ls[i]).2.1, (ls[i]).2.2)) i (fun m => ∀ h : m < ls.length, (ls[m]).2.1 ≠ (ls[i]).2.1) (fun m hm hI he => ?_) fun hI => ?_) Prod.fst (fun _ _ h => h.1)
        · dsimp only [spec_PoolOk.l4, spec_PoolOk.s4]
          have hm' : m < ls.length := by omega
          refine T_pos (by omega) (T_at hm' (T_beq (fun e => T_ret (bad fun c => (c hi).2.2.2.2.2 m hm e)) fun e => ?_))
          rw [wrs hm (by omega)]
          exact he fun _ => e
        · dsimp only [spec_PoolOk.l4, spec_PoolOk.s4]
          refine T_neg (by omega) ?_
          rw [wrs hi (by omega)]
          exact T_lift (go fun _ => ⟨q1, q2, q3, q4, q5, fun m hm => hI m hm (by omega)⟩)
      have fix : ∀ Q : Prop, (Q → HostP pa pl (ls[i]).1 ∧ (1 ≤ (ls[i]).2.1 ∧ (ls[i]).2.1 ≤ 99) ∧ (0 ≤ (ls[i]).2.2 ∧ (ls[i]).2.2 ≤ 1000000000) ∧ (0 < i → (ls[i - 1]).1 < (ls[i]).1)) → Q →
          Tells (FS F0) (fun x => (spec_l11FixedFor.f x.1 pa pl ls fx (ls[i]).1).bind fun r => bif r != 0 then (bif r != (ls[i]).2.1 then some false else spec_PoolOk.l4 x.1 (spec_PoolOk.l2 x.1 x.2) x.1 ((i : Int), (0 : Int), ls, fx, pa, pl, (ls[i]).1, (ls[i]).2.1, (ls[i]).2.2)) else spec_PoolOk.l4 x.1 (spec_PoolOk.l2 x.1 x.2) x.1 ((i : Int), (0 : Int), ls, fx, pa, pl, (ls[i]).1, (ls[i]).2.1, (ls[i]).2.2)) P := by
        intro Q hQ q
        obtain ⟨q1, q2, q3, q4⟩ := hQ q
        refine T_bindE (T_call (spec_l11FixedFor.ev pa pl ls fx _ h3) Prod.fst (fun _ _ h => h.1)) (T_bne (fun e => T_bne (fun e2 => T_ret (bad fun c => by have := (c hi).2.2.2.2.1; omega)) fun e2 => inner ⟨q1, q2, q3, q4, .inr e2⟩) fun e => inner ⟨q1, q2, q3, q4, .inl e⟩)
      refine T_pos (by omega) (T_at hi (T_bindE (T_call (spec_l11Inside.ev pa pl ls fx _) Prod.fst (fun _ _ h => h.1)) (T_ndec (fun a1 => T_ndec (fun a2 => T_ndec (fun a3 => T_dec (fun a4 => T_pre (by omega) hi (by omega) (T_dec (fun a5 => T_ret (bad fun c => by have := (c hi).2.2.2.1 (by omega); omega)) fun a5 => ?_)) fun a4 => ?_) fun a3 => T_ret (bad fun c => a3 (c hi).2.2.1)) fun a2 => T_ret (bad fun c => a2 (c hi).2.1)) fun a1 => T_ret (bad fun c => a1 (c hi).1))))
      · exact fix True (fun _ => ⟨a1, a2, a3, fun _ => by omega⟩) trivial
      · exact fix True (fun _ => ⟨a1, a2, a3, fun h => absurd h (by omega)⟩) trivial) (by
      dsimp only [spec_PoolOk.l2, spec_PoolOk.s2]
      exact T_neg (by omega) (T_ret (by simp)))
    exact T_in (g := fun x j => spec_PoolOk.l2 x j _) (T_mono hh fun r hr => by rw [hr]; exact ⟨fun h => h.1, fun h => ⟨h, trivial⟩⟩) (fun k => k) (fun _ _ h => h)
  have fixes := T_body (F := F0) (fun k j i => spec_PoolOk.l0 k j ((i : Int), ls, fx, pa, pl)) fx.length (FixC pa pl fx) (∀ i, i < ls.length → LeaseC pa pl ls fx i) (fun i hi P go bad => by
    dsimp only [spec_PoolOk.l0, spec_PoolOk.s0]
    simp only [in_eq, Option.bind_some]
    rw [wrs hi (by omega)]
    refine T_pos (by omega) (T_at hi (T_ndec (fun a1 => T_bindE (T_call (spec_l11Inside.ev pa pl ls fx _) Prod.fst (fun _ _ h => h.1)) (T_ndec (fun a2 => T_dec (fun a4 => T_pre (by omega) hi (by omega) (T_dec (fun a5 => T_ret (bad fun c => by have := (c hi).2.2.1 (by omega); omega)) fun a5 => T_bindE (T_call (spec_l11FixedFor.ev pa pl ls fx _ h3) Prod.fst (fun _ _ h => h.1)) (T_bne (fun e => T_ret (bad fun c => e (c hi).2.2.2)) fun e => go fun _ => ⟨a1, a2, fun _ => by omega, e⟩))) fun a4 => T_bindE (T_call (spec_l11FixedFor.ev pa pl ls fx _ h3) Prod.fst (fun _ _ h => h.1)) (T_bne (fun e => T_ret (bad fun c => e (c hi).2.2.2)) fun e => go fun _ => ⟨a1, a2, fun h => absurd h (by omega), e⟩)) fun a2 => T_ret (bad fun c => a2 (c hi).2.1))) fun a1 => T_ret (bad fun c => a1 (c hi).1)))) (by
    dsimp only [spec_PoolOk.l0, spec_PoolOk.s0]
    exact T_neg (by omega) (T_call lease Prod.fst (fun _ _ h => h.1)))
  unfold spec_PoolOk.f
  simp only [in_eq, Option.bind_some]
  refine T_bindE (spec_PrefixOk.ev pa pl) (T_ndec (fun a1 => T_ndec (fun a2 => T_dec (fun a3 => T_ret (no_iff fun c => by have := c.2.2.1; omega)) fun a3 => T_dec (fun a4 => T_ret (no_iff fun c => by have := c.2.2.2.1; omega)) fun a4 => T_mono (T_in (g := fun x j => spec_PoolOk.l0 x j _) fixes (fun k => k) (fun _ _ h => h)) fun r hr => ?_) fun a2 => T_ret (no_iff fun c => a2 c.2.1)) fun a1 => T_ret (no_iff fun c => a1 c.1))
  rw [hr]
  exact ⟨fun c => ⟨a1, a2, by omega, by omega, c⟩, fun c => c.2.2.2.2⟩
theorem impl_fixesOk.ev (h3 : fx.length ≤ 1048576) : Tells F0 (fun k => impl_fixesOk.f k pa pl ls fx) (fun r => r = true ↔ (∀ i, i < fx.length → FixC pa pl fx i) ∧ fx.length ≤ 4) := by
  have hh := T_body (F := F0) (fun k j i => impl_fixesOk.l0 k j ((fx.length : Int), (i : Int), ls, fx, pa, pl)) fx.length (FixC pa pl fx) (fx.length ≤ 4) (fun i hi P go bad => by
    dsimp only [impl_fixesOk.l0, impl_fixesOk.s0]
    simp only [isId_eq, impl_isHost_eq, Option.bind_some]
    rw [wrs hi (by omega)]
    exact T_pos (by omega) (T_at hi (T_ndec (fun a1 => T_ndec (fun a2 => T_dec (fun a4 => T_pre (by omega) hi (by omega) (T_dec (fun a5 => T_ret (bad fun c => by have := (c hi).2.2.1 (by omega); omega)) fun a5 => T_bindE (T_call (impl_fixedFor.ev pa pl ls fx _ h3) Prod.fst (fun _ _ h => h.1)) (T_bne (fun e => T_ret (bad fun c => e (c hi).2.2.2)) fun e => go fun _ => ⟨a1, a2, fun _ => by omega, e⟩))) fun a4 => T_bindE (T_call (impl_fixedFor.ev pa pl ls fx _ h3) Prod.fst (fun _ _ h => h.1)) (T_bne (fun e => T_ret (bad fun c => e (c hi).2.2.2)) fun e => go fun _ => ⟨a1, a2, fun h => absurd h (by omega), e⟩)) fun a2 => T_ret (bad fun c => a2 (c hi).2.1)) fun a1 => T_ret (bad fun c => a1 (c hi).1)))) (by
    dsimp only [impl_fixesOk.l0, impl_fixesOk.s0]
    exact T_neg (by omega) (T_ret (by rw [decide_eq_true_eq]; omega)))
  unfold impl_fixesOk.f
  exact T_in (g := fun x j => impl_fixesOk.l0 x j _) hh (fun k => k) (fun _ _ h => h)
theorem impl_PoolOk.ev (h2 : ls.length ≤ 1048576) (h3 : fx.length ≤ 1048576) : Tells F0 (fun k => impl_PoolOk.f k pa pl ls fx) (fun r => r = true ↔ PoolP pa pl ls fx) := by
  have hh := T_body (F := F0) (fun k j i => impl_PoolOk.l0 k j ((ls.length : Int), (i : Int), ls, fx, pa, pl)) ls.length (LeaseC pa pl ls fx) True (fun i hi P go bad => by
    dsimp only [impl_PoolOk.l0, impl_PoolOk.s0]
    simp only [isId_eq, within_eq, impl_isHost_eq, Option.bind_some]
    rw [wrs hi (by omega)]
    have last : (0 < i → (ls[i - 1]).1 < (ls[i]).1) → Tells (FS F0) (fun x => bif !decide (HostP pa pl (ls[i]).1) then some false else bif !decide (1 ≤ (ls[i]).2.1 ∧ (ls[i]).2.1 ≤ 99) then some false else bif !decide (0 ≤ (ls[i]).2.2 ∧ (ls[i]).2.2 ≤ 1000000000) then some false else
        (impl_fixedFor.f x.1 pa pl ls fx (ls[i]).1).bind fun r9 => (impl_leaseOf.f x.1 pa pl ls fx (ls[i]).2.1).bind fun r10 => bif r10 != (i : Int) then some false else bif r9 != 0 then (bif r9 != (ls[i]).2.1 then some false else impl_PoolOk.l0 x.1 x.2 ((ls.length : Int), ((i + 1 : Nat) : Int), ls, fx, pa, pl)) else impl_PoolOk.l0 x.1 x.2 ((ls.length : Int), ((i + 1 : Nat) : Int), ls, fx, pa, pl)) P := by
      intro a0
      refine T_ndec (fun a1 => T_ndec (fun a2 => T_ndec (fun a3 => T_bindE (T_call (impl_fixedFor.ev pa pl ls fx _ h3) Prod.fst (fun _ _ h => h.1)) (T_bindE (T_call (impl_leaseOf.ev pa pl ls fx _ h2) Prod.fst (fun _ _ h => h.1)) (T_bne (fun e => T_ret (bad fun c => e ((leaseAt_iff ls i hi).2 (c hi).2.2.2.2.2))) fun e => ?_))) fun a3 => T_ret (bad fun c => a3 (c hi).2.2.1)) fun a2 => T_ret (bad fun c => a2 (c hi).2.1)) fun a1 => T_ret (bad fun c => a1 (c hi).1)
      have e' := (leaseAt_iff ls i hi).1 e
      exact T_bne (fun e1 => T_bne (fun e2 => T_ret (bad fun c => by have := (c hi).2.2.2.2.1; omega)) fun e2 => go fun _ => ⟨a1, a2, a3, a0, .inr e2, e'⟩) fun e1 => go fun _ => ⟨a1, a2, a3, a0, .inl e1, e'⟩
    exact T_pos (by omega) (T_at hi (T_dec (fun a4 => T_pre (by omega) hi (by omega) (T_dec (fun a5 => T_ret (bad fun c => by have := (c hi).2.2.2.1 (by omega); omega)) fun a5 => last fun _ => by omega)) fun a4 => last fun h => absurd h (by omega)))) (by
    dsimp only [impl_PoolOk.l0, impl_PoolOk.s0]
    exact T_neg (by omega) (T_ret (by simp)))
  unfold impl_PoolOk.f
  simp only [within_eq, impl_PrefixOk_eq, Option.bind_some]
  refine T_ndec (fun a1 => T_ndec (fun a2 => T_bind (impl_fixesOk.ev pa pl ls fx h3) fun r hr => ?_) fun a2 => T_ret (no_iff fun c => a2 c.2.1)) fun a1 => T_ret (no_iff fun c => a1 c.1)
  cases r with
  | false => exact T_true rfl (T_ret (no_iff fun c => by have := hr.2 ⟨c.2.2.2.2.1, c.2.2.2.1⟩; cases this))
  | true =>
  refine T_false rfl (T_dec (fun a3 => T_ret (no_iff fun c => by have := c.2.2.1; omega)) fun a3 => T_mono (T_in (g := fun x j => impl_PoolOk.l0 x j _) hh (fun k => k) (fun _ _ h => h)) fun r2 hr2 => ?_)
  rw [hr2]
  have := hr.1 rfl
  exact ⟨fun c => ⟨a1, a2, by omega, this.2, this.1, c.1⟩, fun c => ⟨c.2.2.2.2.2, trivial⟩⟩
end

def holder (ls : List Lse) (a : Int) : Int := match ls.find? (fun x => x.1 == a) with | some x => x.2.1 | none => 0
theorem holder_drop (ls : List Lse) (a : Int) (i : Nat) (h : i < ls.length) : holder (ls.drop i) a = if ls[i].1 = a then ls[i].2.1 else holder (ls.drop (i + 1)) a := by
  unfold holder
  rw [find_step _ _ _ h]
  by_cases e : ls[i].1 = a
  · simp [e]
  · simp [e]
theorem holder_zero {ls : List Lse} {a : Int} (h : holder ls a = 0) (hp : ∀ x ∈ ls, 1 ≤ x.2.1) : ∀ x ∈ ls, x.1 ≠ a := by
  intro x hx e
  unfold holder at h
  split at h
  · rename_i y hy
    have := hp y (List.mem_of_find?_eq_some hy)
    omega
  · rename_i hn
    have := List.find?_eq_none.1 hn x hx
    simp [e] at this
def srch (good : Int → Bool) : Nat → Int → Option Int
  | 0, _ => none
  | d + 1, a => if good a then some a else srch good d (a + 1)
theorem srch_some {good : Int → Bool} : ∀ {d : Nat} {a b : Int}, srch good d a = some b → good b = true ∧ a ≤ b ∧ b < a + d
  | 0, _, _, h => by cases h
  | d + 1, a, b, h => by
    simp only [srch] at h
    split at h
    · rename_i e; cases h; exact ⟨e, by omega, by omega⟩
    · obtain ⟨g1, g2, g3⟩ := srch_some h
      exact ⟨g1, by omega, by omega⟩
def isFree (ls : List Lse) (fx : List Fxd) (a : Int) : Bool := decide (holder ls a = 0) && decide (fixFor fx a = 0)
def adrM (pa pl : Int) (ls : List Lse) (fx : List Fxd) (who : Int) : Option Int := match fx.find? (fun f => f.1 == who) with | some f => some f.2 | none => srch (isFree ls fx) (2 ^ (32 - pl).toNat - 2 : Int).toNat (pa + 1)
theorem host_iff {pa pl : Int} (hp : PfxP pa pl) (h : 24 ≤ pl ∧ pl ≤ 30) (i : Nat) (hi : (i : Int) ≤ 2 ^ (32 - pl).toNat - 2) : HostP pa pl (pa + 1 + i) ↔ (i : Int) < 2 ^ (32 - pl).toNat - 2 := by
  unfold HostP InP
  have hP := hp
  obtain ⟨h1, h2, h3⟩ := hp
  refine ⟨fun k => by omega, fun k => ⟨⟨hP, ?_⟩, by omega, by omega⟩⟩
  obtain rfl | rfl | rfl | rfl | rfl | rfl | rfl : pl = 24 ∨ pl = 25 ∨ pl = 26 ∨ pl = 27 ∨ pl = 28 ∨ pl = 29 ∨ pl = 30 := by omega
  · have e : (2 : Int) ^ ((32 : Int) - 24).toNat = 256 := by decide
    simp only [e] at hi k h3 ⊢; omega
  · have e : (2 : Int) ^ ((32 : Int) - 25).toNat = 128 := by decide
    simp only [e] at hi k h3 ⊢; omega
  · have e : (2 : Int) ^ ((32 : Int) - 26).toNat = 64 := by decide
    simp only [e] at hi k h3 ⊢; omega
  · have e : (2 : Int) ^ ((32 : Int) - 27).toNat = 32 := by decide
    simp only [e] at hi k h3 ⊢; omega
  · have e : (2 : Int) ^ ((32 : Int) - 28).toNat = 16 := by decide
    simp only [e] at hi k h3 ⊢; omega
  · have e : (2 : Int) ^ ((32 : Int) - 29).toNat = 8 := by decide
    simp only [e] at hi k h3 ⊢; omega
  · have e : (2 : Int) ^ ((32 : Int) - 30).toNat = 4 := by decide
    simp only [e] at hi k h3 ⊢; omega
theorem size_rng {pl : Int} (h : 24 ≤ pl ∧ pl ≤ 30) : (4 : Int) ≤ 2 ^ (32 - pl).toNat ∧ (2 : Int) ^ (32 - pl).toNat ≤ 256 := by
  obtain rfl | rfl | rfl | rfl | rfl | rfl | rfl : pl = 24 ∨ pl = 25 ∨ pl = 26 ∨ pl = 27 ∨ pl = 28 ∨ pl = 29 ∨ pl = 30 := by omega
  all_goals decide
theorem host_pos {pa pl a : Int} (hp : HostP pa pl a) : 0 < a := by
  obtain ⟨⟨⟨h1, _, _⟩, h2, h3⟩, h4, _⟩ := hp
  have : 0 ≤ a % 2 ^ (32 - pl).toNat := Int.emod_nonneg _ (by have := Int.pow_pos (n := 2) (m := (32 - pl).toNat) (by omega); omega)
  omega
theorem filter_len_take {α : Type} (p : α → Bool) (l : List α) (i : Nat) : ((l.take i).filter p).length ≤ l.length :=
  Nat.le_trans (List.length_filter_le _ _) (by simp; omega)

theorem impl_copyPool.ev (c0 c1 : Int) (c2 : List Lse) (c3 : List (Int × Int)) (h2 : c2.length ≤ 1048576) (h3 : c3.length ≤ 1048576) : Tells F0 (fun k => impl_copyPool.f k c0 c1 c2 c3) (· = (c0, c1, c2, c3)) := by
  unfold impl_copyPool.f
  exact T_pos (by simp; omega) (T_pos (by simp; omega) (T_ret rfl))
theorem spec_l11Copy.ev (c0 c1 : Int) (c2 : List Lse) (c3 : List (Int × Int)) (h2 : c2.length ≤ 1048576) (h3 : c3.length ≤ 1048576) : Tells F0 (fun k => spec_l11Copy.f k c0 c1 c2 c3) (· = (c0, c1, c2, c3)) := by
  unfold spec_l11Copy.f
  exact T_pos (by simp; omega) (T_pos (by simp; omega) (T_ret rfl))
def live (now : Int) (x : Lse) : Bool := decide (x.2.2 > now)
def gone (now : Int) (l : List Lse) : List Int := (l.filter fun x => !live now x).map (·.2.1)
theorem gone_take (now : Int) (l : List Lse) (i : Nat) (h : i < l.length) : gone now (l.take (i + 1)) = gone now (l.take i) ++ (if live now l[i] then [] else [l[i].2.1]) := by
  unfold gone
  rw [take_filter_succ _ _ _ h, List.map_append]
  cases live now l[i] <;> rfl
theorem gone_len (now : Int) (l : List Lse) (i : Nat) : (gone now (l.take i)).length ≤ l.length := by
  unfold gone
  rw [List.length_map]
  exact filter_len_take _ _ _
def expM (c0 c1 : Int) (c2 : List Lse) (c3 : List (Int × Int)) (now : Int) : Int × Int × List Lse × List (Int × Int) × List Int := (c0, c1, c2.filter (live now), c3, gone now c2)
theorem lse_pair {pa pl : Int} {ls : List Lse} {fx : List Fxd} (h : PoolP pa pl ls fx) : ls.Pairwise fun x y => x.1 < y.1 := by
  have hC := h.2.2.2.2.2
  have key : ∀ d i, (hh : i + d + 1 < ls.length) → (ls[i]).1 < (ls[i + d + 1]).1 := by
    intro d
    induction d with
    | zero => intro i hh; exact (hC (i + 1) hh hh).2.2.2.1 (by omega)
    | succ d ih =>
      intro i hh
      have a1 := ih i (by omega)
      have a2 := (hC (i + (d + 1) + 1) hh hh).2.2.2.1 (by omega)
      simp only [Nat.add_sub_cancel] at a2
      have e : i + (d + 1) = i + d + 1 := by omega
      simp only [e] at a2 ⊢
      omega
  rw [List.pairwise_iff_getElem]
  intro i j hi hj hij
  have := key (j - i - 1) i (by omega)
  have e : i + (j - i - 1) + 1 = j := by omega
  simp only [e] at this
  exact this
def lowr (a : Int) (x : Lse) : Bool := decide (x.1 < a)
def hghr (a : Int) (x : Lse) : Bool := decide (x.1 > a)
theorem lse_split {F : List Lse} {a : Int} (hp : F.Pairwise fun x y => x.1 < y.1) (hn : ∀ x ∈ F, x.1 ≠ a) {i : Nat} (hi : i ≤ F.length) (h1 : ∀ j (h : j < F.length), j < i → (F[j]).1 < a) (h2 : ∀ h : i < F.length, ¬ (F[i]).1 < a) :
    F.filter (lowr a) = F.take i ∧ F.filter (hghr a) = F.drop i := by
  have hx : ∀ p, F.filter p = (F.take i).filter p ++ (F.drop i).filter p := fun p => by rw [← List.filter_append, List.take_append_drop]
  have k1 : ∀ x ∈ F.take i, x.1 < a := by
    intro x hx
    obtain ⟨j, hj, rfl⟩ := List.mem_take_iff_getElem.1 hx
    exact h1 j (by omega) (by omega)
  have k2 : ∀ x ∈ F.drop i, x.1 > a := by
    intro x hx
    have hna := hn x (List.mem_of_mem_drop hx)
    obtain ⟨j, hj, rfl⟩ := List.mem_drop_iff_getElem.1 hx
    have b1 := h2 (by omega)
    have b2 : j ≠ 0 → (F[i]).1 < (F[i + j]).1 := fun h => (List.pairwise_iff_getElem.1 hp) i (i + j) (by omega) (by omega) (by omega)
    by_cases hj0 : j = 0
    · subst hj0
      simp only [Nat.add_zero] at hna ⊢
      omega
    · have b3 := b2 hj0
      omega
  rw [hx, hx]
  refine ⟨?_, ?_⟩
  · rw [List.filter_eq_self.2 fun x hx => by have := k1 x hx; simpa [lowr] using this, List.filter_eq_nil_iff.2 fun x hx => by have := k2 x hx; unfold lowr; rw [decide_eq_true_eq]; omega, List.append_nil]
  · rw [List.filter_eq_nil_iff.2 fun x hx => by have := k1 x hx; unfold hghr; rw [decide_eq_true_eq]; omega, List.filter_eq_self.2 fun x hx => by have := k2 x hx; simpa [hghr] using this, List.nil_append]
def grtO (ls : List Lse) (a who now : Int) : List Lse := ls.filter (lowr a) ++ [(a, who, now + 20)] ++ ls.filter (hghr a)
open Classical in
noncomputable def grantM (pa pl : Int) (ls : List Lse) (fx : List Fxd) (who now : Int) : Int × Int × List Lse × List Fxd × Int × Bool :=
  if PoolP pa pl ls fx ∧ (1 ≤ who ∧ who ≤ 99) ∧ (0 ≤ now ∧ now ≤ 999999980) then
    (if h : ls.findIdx (impl_leaseOf_1.p who) < ls.length then (pa, pl, ls.set (ls.findIdx (impl_leaseOf_1.p who)) ((ls[ls.findIdx (impl_leaseOf_1.p who)]).1, (ls[ls.findIdx (impl_leaseOf_1.p who)]).2.1, now + 20), fx, (ls[ls.findIdx (impl_leaseOf_1.p who)]).1, true)
     else if ls.length < 6 then (match adrM pa pl ls fx who with | some a => (pa, pl, grtO ls a who now, fx, a, true) | none => (pa, pl, ls, fx, 0, false)) else (pa, pl, ls, fx, 0, false))
  else (pa, pl, ls, fx, 0, false)
theorem grt_len (ls : List Lse) (a who now : Int) : (grtO ls a who now).length ≤ ls.length + 1 := by
  unfold grtO
  have : (ls.filter (lowr a)).length + (ls.filter (hghr a)).length ≤ ls.length := by
    induction ls with
    | nil => simp
    | cons x r ih =>
      have hx : ¬ (lowr a x = true ∧ hghr a x = true) := by
        simp only [lowr, hghr, decide_eq_true_eq]
        omega
      simp only [List.filter_cons]
      by_cases h1 : lowr a x = true <;> by_cases h2 : hghr a x = true
      · exact absurd ⟨h1, h2⟩ hx
      all_goals simp only [h1, h2, if_true, if_false, List.length_cons, Bool.false_eq_true]; omega
  simp only [List.length_append, List.length_singleton]
  omega
theorem grant_len (pa pl : Int) (ls : List Lse) (fx : List Fxd) (who now : Int) (h : ls.length ≤ 1048576) : (grantM pa pl ls fx who now).2.2.1.length ≤ 1048576 := by
  unfold grantM
  split
  · split
    · simpa using h
    · split
      · split
        · have := grt_len ls (by assumption) who now
          dsimp only
          omega
        · exact h
      · exact h
  · exact h
theorem grant_fix (pa pl : Int) (ls : List Lse) (fx : List Fxd) (who now : Int) : (grantM pa pl ls fx who now).2.2.2.1 = fx := by
  unfold grantM
  split
  · split
    · rfl
    · split
      · split <;> rfl
      · rfl
  · rfl
/-- Who has no lease gets an address that has none. -/
theorem adr_free {pa pl : Int} {ls : List Lse} {fx : List Fxd} {who a : Int} (hp : PoolP pa pl ls fx) (hno : ∀ x ∈ ls, x.2.1 ≠ who) (h : adrM pa pl ls fx who = some a) : (∀ x ∈ ls, x.1 ≠ a) ∧ 0 < a := by
  obtain ⟨hP, hl, h2, h3, hF, hL⟩ := hp
  unfold adrM at h
  split at h
  · rename_i f hf
    cases h
    have hw : f.1 = who := by simpa using List.find?_some hf
    obtain ⟨i, hi, rfl⟩ := List.getElem_of_mem (List.mem_of_find?_eq_some hf)
    have hc := hF i hi hi
    refine ⟨fun x hx e => ?_, host_pos hc.2.1⟩
    obtain ⟨j, hj, rfl⟩ := List.getElem_of_mem hx
    have hd := (hL j hj hj).2.2.2.2.1
    rw [e, hc.2.2.2] at hd
    have := hno _ (List.getElem_mem hj)
    have := hc.1
    omega
  · have := srch_some h
    simp only [isFree, Bool.and_eq_true, decide_eq_true_eq] at this
    refine ⟨holder_zero this.1.1 fun x hx => ?_, by have := hP.1; omega⟩
    obtain ⟨j, hj, rfl⟩ := List.getElem_of_mem hx
    exact (hL j hj hj).2.1.1
theorem idx_none {ls : List Lse} {who : Int} (h : ¬ ls.findIdx (impl_leaseOf_1.p who) < ls.length) : ∀ x ∈ ls, x.2.1 ≠ who := by
  intro x hx e
  exact h (List.findIdx_lt_length_of_exists ⟨x, hx, by simp [impl_leaseOf_1.p, e]⟩)
theorem find_lse (who : Int) {ls : List Lse} {i : Nat} (hi : i < ls.length) (h1 : (ls[i]).2.1 = who) (h0 : ∀ j (h : j < ls.length), j < i → (ls[j]).2.1 ≠ who) : ls.findIdx (impl_leaseOf_1.p who) = i := (List.findIdx_eq hi).2 ⟨by simp [impl_leaseOf_1.p, h1], fun j hj => by simpa [impl_leaseOf_1.p] using h0 j (by omega) hj⟩
def CurOk (l : List Int) (i : Int) : Prop := 0 ≤ i ∧ i ≤ l.length ∧ l.length ≤ 1048576
theorem bits255 (x : BitVec IntKind.i64.bits) : 0 ≤ IntKind.i64.wrap ((x &&& BitVec.ofInt IntKind.i64.bits (255 : Int)).toNat : Int) ∧ IntKind.i64.wrap ((x &&& BitVec.ofInt IntKind.i64.bits (255 : Int)).toNat : Int) ≤ 255 := by
  have h : (x &&& BitVec.ofInt IntKind.i64.bits (255 : Int)).toNat ≤ 255 := by
    rw [BitVec.toNat_and]
    exact Nat.le_trans Nat.and_le_right (by decide)
  rw [wr64 (by omega) (by omega)]
  omega
theorem pfx_of (a n : Int) (h1 : 0 ≤ a ∧ a ≤ 4294967295) (h2 : 0 ≤ n ∧ n ≤ 32) : PfxP (a - a % 2 ^ (32 - n).toNat) n := by
  have hp := pow_rng (32 - n).toNat (by omega)
  have hm0 := Int.emod_nonneg a (show (2 : Int) ^ (32 - n).toNat ≠ 0 by omega)
  have hm1 := Int.emod_lt_of_pos a (show (0 : Int) < 2 ^ (32 - n).toNat by omega)
  have hd := Int.mul_ediv_add_emod a (2 ^ (32 - n).toNat)
  have e : a - a % 2 ^ (32 - n).toNat = 2 ^ (32 - n).toNat * (a / 2 ^ (32 - n).toNat) := by omega
  have hq := Int.mul_nonneg (show (0 : Int) ≤ 2 ^ (32 - n).toNat by omega) (Int.ediv_nonneg h1.1 (show (0 : Int) ≤ 2 ^ (32 - n).toNat by omega))
  exact ⟨by omega, h2, by rw [e]; exact Int.mul_emod_right _ _⟩
def LsOk (pa pl : Int) (fx : List Fxd) (ls : List Lse) : Prop := (∀ x ∈ ls, HostP pa pl x.1 ∧ (1 ≤ x.2.1 ∧ x.2.1 ≤ 99) ∧ (0 ≤ x.2.2 ∧ x.2.2 ≤ 1000000000) ∧ (fixFor fx x.1 = 0 ∨ fixFor fx x.1 = x.2.1)) ∧ (ls.Pairwise fun x y => x.1 < y.1) ∧ ls.Pairwise fun x y => x.2.1 ≠ y.2.1
theorem ls_of {pa pl : Int} {ls : List Lse} {fx : List Fxd} (h : PoolP pa pl ls fx) : LsOk pa pl fx ls := by
  have hC := h.2.2.2.2.2
  refine ⟨fun x hx => ?_, lse_pair h, ?_⟩
  · obtain ⟨i, hi, rfl⟩ := List.getElem_of_mem hx
    have := hC i hi hi
    exact ⟨this.1, this.2.1, this.2.2.1, this.2.2.2.2.1⟩
  · rw [List.pairwise_iff_getElem]
    intro i j hi hj hij
    exact (hC j hj hj).2.2.2.2.2 i hij
theorem ls_to {pa pl : Int} {ls : List Lse} {fx : List Fxd} (h : LsOk pa pl fx ls) : ∀ i, i < ls.length → LeaseC pa pl ls fx i := by
  intro i _ hi
  have h1 := h.1 _ (List.getElem_mem hi)
  exact ⟨h1.1, h1.2.1, h1.2.2.1, fun h0 => (List.pairwise_iff_getElem.1 h.2.1) (i - 1) i (by omega) hi (by omega), h1.2.2.2, fun m hm => (List.pairwise_iff_getElem.1 h.2.2) m i (by omega) hi hm⟩
theorem pool_ls {pa pl : Int} {ls ls' : List Lse} {fx : List Fxd} (h : PoolP pa pl ls fx) (hl : ls'.length ≤ 6) (h' : LsOk pa pl fx ls') : PoolP pa pl ls' fx := ⟨h.1, h.2.1, hl, h.2.2.2.1, h.2.2.2.2.1, ls_to h'⟩
theorem ls_filter {pa pl : Int} {ls : List Lse} {fx : List Fxd} (h : LsOk pa pl fx ls) (p : Lse → Bool) : LsOk pa pl fx (ls.filter p) := ⟨fun x hx => h.1 x (List.mem_filter.1 hx).1, h.2.1.filter _, h.2.2.filter _⟩
theorem pool_filter {pa pl : Int} {ls : List Lse} {fx : List Fxd} (h : PoolP pa pl ls fx) (p : Lse → Bool) : PoolP pa pl (ls.filter p) fx := pool_ls h (Nat.le_trans (List.length_filter_le _ _) h.2.2.1) (ls_filter (ls_of h) p)
theorem who_ne {pa pl : Int} {ls : List Lse} {fx : List Fxd} (h : LsOk pa pl fx ls) {x y : Lse} (hx : x ∈ ls) (hy : y ∈ ls) (hne : x.1 ≠ y.1) : x.2.1 ≠ y.2.1 := by
  obtain ⟨i, hi, rfl⟩ := List.getElem_of_mem hx
  obtain ⟨j, hj, rfl⟩ := List.getElem_of_mem hy
  rcases Nat.lt_trichotomy i j with k | k | k
  · exact (List.pairwise_iff_getElem.1 h.2.2) i j hi hj k
  · subst k; exact absurd rfl hne
  · exact ((List.pairwise_iff_getElem.1 h.2.2) j i hj hi k).symm
theorem adr_host {pa pl : Int} {ls : List Lse} {fx : List Fxd} {who a : Int} (hp : PoolP pa pl ls fx) (h : adrM pa pl ls fx who = some a) : HostP pa pl a ∧ (fixFor fx a = 0 ∨ fixFor fx a = who) := by
  obtain ⟨hP, hl, h2, h3, hF, hL⟩ := hp
  unfold adrM at h
  split at h
  · rename_i f hf
    cases h
    have hw : f.1 = who := by simpa using List.find?_some hf
    obtain ⟨i, hi, rfl⟩ := List.getElem_of_mem (List.mem_of_find?_eq_some hf)
    have hc := hF i hi hi
    exact ⟨hc.2.1, .inr (hc.2.2.2.trans hw)⟩
  · have hs := srch_some h
    have hsz := size_rng hl
    simp only [isFree, Bool.and_eq_true, decide_eq_true_eq] at hs
    refine ⟨?_, .inl hs.1.2⟩
    have hh := host_iff hP hl (a - pa - 1).toNat (by omega)
    rw [show pa + 1 + ((a - pa - 1).toNat : Int) = a by omega] at hh
    exact hh.2 (by omega)
theorem grant_ok {pa pl : Int} {ls : List Lse} {fx : List Fxd} (who now : Int) (h : PoolP pa pl ls fx) : PoolP pa pl (grantM pa pl ls fx who now).2.2.1 fx := by
  unfold grantM
  split
  · rename_i hc
    have hL := ls_of h
    have hno := @idx_none ls who
    have hfnd : ∀ hm : ls.findIdx (impl_leaseOf_1.p who) < ls.length, True := fun _ => trivial
    generalize ls.findIdx (impl_leaseOf_1.p who) = m at *
    split
    · rename_i hm
      refine pool_ls h (by simpa using h.2.2.1) ⟨fun x hx => ?_, ?_, ?_⟩
      · rcases List.mem_or_eq_of_mem_set hx with hx | hx
        · exact hL.1 x hx
        · have := hL.1 _ (List.getElem_mem hm)
          rw [hx]
          exact ⟨this.1, this.2.1, by dsimp only; omega, this.2.2.2⟩
      · rw [List.pairwise_iff_getElem]
        intro i j hi hj hij
        have := (List.pairwise_iff_getElem.1 hL.2.1) i j (by simpa using hi) (by simpa using hj) hij
        simp only [List.getElem_set]
        split <;> split <;> rename_i a1 a2 <;> (try subst a1) <;> (try subst a2) <;> exact this
      · rw [List.pairwise_iff_getElem]
        intro i j hi hj hij
        have := (List.pairwise_iff_getElem.1 hL.2.2) i j (by simpa using hi) (by simpa using hj) hij
        simp only [List.getElem_set]
        split <;> split <;> rename_i a1 a2 <;> (try subst a1) <;> (try subst a2) <;> exact this
    · rename_i hm
      split
      · rename_i h6
        split
        · rename_i a had
          obtain ⟨hfr, ha0⟩ := adr_free h (hno hm) had
          obtain ⟨hh, hf⟩ := adr_host h had
          have hnw := hno hm
          refine pool_ls h (by have := grt_len ls a who now; dsimp only; omega) ⟨fun x hx => ?_, ?_, ?_⟩
          · unfold grtO at hx
            simp only [List.mem_append, List.mem_singleton, List.mem_filter] at hx
            rcases hx with (hx | hx) | hx
            · exact hL.1 x hx.1
            · rw [hx]; exact ⟨hh, hc.2.1, by dsimp only; omega, hf⟩
            · exact hL.1 x hx.1
          · unfold grtO
            rw [List.append_assoc, List.pairwise_append]
            refine ⟨hL.2.1.filter _, ?_, fun x hx y hy => ?_⟩
            · rw [List.singleton_append, List.pairwise_cons]
              exact ⟨fun y hy => of_decide_eq_true (List.mem_filter.1 hy).2, hL.2.1.filter _⟩
            · have a1 : x.1 < a := of_decide_eq_true (List.mem_filter.1 hx).2
              rw [List.singleton_append, List.mem_cons] at hy
              rcases hy with rfl | hy
              · exact a1
              · have a2 : y.1 > a := of_decide_eq_true (List.mem_filter.1 hy).2
                omega
          · unfold grtO
            rw [List.append_assoc, List.pairwise_append]
            refine ⟨hL.2.2.filter _, ?_, fun x hx y hy => ?_⟩
            · rw [List.singleton_append, List.pairwise_cons]
              exact ⟨fun y hy => (hnw y (List.mem_filter.1 hy).1).symm, hL.2.2.filter _⟩
            · have a1 : x.1 < a := of_decide_eq_true (List.mem_filter.1 hx).2
              rw [List.singleton_append, List.mem_cons] at hy
              rcases hy with rfl | hy
              · exact hnw x (List.mem_filter.1 hx).1
              · have a2 : y.1 > a := of_decide_eq_true (List.mem_filter.1 hy).2
                exact who_ne hL (List.mem_filter.1 hx).1 (List.mem_filter.1 hy).1 (by omega)
        · exact h
      · exact h
  · exact h
theorem grant_net (pa pl : Int) (ls : List Lse) (fx : List Fxd) (who now : Int) : (grantM pa pl ls fx who now).1 = pa ∧ (grantM pa pl ls fx who now).2.1 = pl := by
  unfold grantM
  split
  · split
    · exact ⟨rfl, rfl⟩
    · split
      · split <;> exact ⟨rfl, rfl⟩
      · exact ⟨rfl, rfl⟩
  · exact ⟨rfl, rfl⟩
def other (who : Int) (x : Lse) : Bool := x.2.1 != who
open Classical in
noncomputable def releaseM (pa pl : Int) (ls : List Lse) (fx : List Fxd) (who : Int) : Int × Int × List Lse × List Fxd × Bool := if PoolP pa pl ls fx ∧ (ls.filter (other who)).length ≠ ls.length then (pa, pl, ls.filter (other who), fx, true) else (pa, pl, ls, fx, false)
theorem spec_Release.ev (pa pl : Int) (ls : List Lse) (fx : List Fxd) (who : Int) (h2 : ls.length ≤ 1048576) (h3 : fx.length ≤ 1048576) : Tells F0 (fun k => spec_Release.f k pa pl ls fx who) (· = releaseM pa pl ls fx who) := by
  unfold spec_Release.f
  refine T_bindE (spec_l11Copy.ev pa pl ls fx h2 h3) ?_
  have h := T_loop (F := F0) (fun k j i => spec_Release.l0 k j (who, (i : Int), ls, fx, pa, pl, 0, 0, pa, pl, [], [], ls, fx, (ls.take i).filter (other who))) ls.length (fun _ r => r = releaseM pa pl ls fx who) (fun i hi he => by
    dsimp only [spec_Release.l0, spec_Release.s0]
    simp only [Int.toNat_natCast]
    rw [wrs hi (by omega)]
    rw [take_filter_succ _ _ _ hi] at he
    have g1 := filter_len_take (other who) ls i
    refine T_pos (by omega) (T_get hi (T_bif (fun e => T_get hi (T_pos ?_ ?_)) fun e => ?_))
    · simp only [List.length_singleton]; omega
    · rw [if_pos (show other who ls[i] = true from e)] at he; exact he
    · rw [if_neg (by rw [show other who ls[i] = false from e]; simp), List.append_nil] at he; exact he) (by
    dsimp only [spec_Release.l0, spec_Release.s0]
    rw [List.take_length]
    refine T_neg (by omega) (T_bind (T_call (spec_PoolOk.ev pa pl ls fx h2 h3) Prod.fst (fun _ _ h => h.1)) fun q hq => ?_)
    unfold releaseM
    cases q with
    | false => rw [if_neg fun c => by have := hq.2 c.1; cases this]; exact T_true rfl (T_ret rfl)
    | true =>
      refine T_false rfl (T_beq (fun e => T_ret ?_) fun e => T_ret ?_)
      · rw [if_neg fun c => c.2 (by omega)]
      · rw [if_pos ⟨hq.1 rfl, by omega⟩]) 0 (Nat.zero_le _)
  exact T_in (g := fun x j => spec_Release.l0 x j _) (by simpa using h) (fun k => k) (fun _ _ h => h)
theorem release_ok {pa pl : Int} {ls : List Lse} {fx : List Fxd} (who : Int) (h : PoolP pa pl ls fx) : PoolP pa pl (releaseM pa pl ls fx who).2.2.1 fx := by
  unfold releaseM
  split
  · exact pool_filter h _
  · exact h
theorem release_net (pa pl : Int) (ls : List Lse) (fx : List Fxd) (who : Int) : (releaseM pa pl ls fx who).1 = pa ∧ (releaseM pa pl ls fx who).2.1 = pl ∧ (releaseM pa pl ls fx who).2.2.2.1 = fx := by
  unfold releaseM
  split <;> exact ⟨rfl, rfl, rfl⟩
def FxsOk (pa pl : Int) (fx : List Fxd) (j : Nat) : Prop := fx.length ≤ j ∧ (∀ i, i < fx.length → FixC pa pl fx i) ∧ ∀ x ∈ fx, x.1 ≤ 3 * j
theorem fixFor_app {fx : List Fxd} {f : Fxd} (hp : ∀ x ∈ fx, 1 ≤ x.1) (h0 : fixFor fx f.2 = 0) : (∀ x ∈ fx, fixFor (fx ++ [f]) x.2 = fixFor fx x.2) ∧ fixFor (fx ++ [f]) f.2 = f.1 := by
  have hn : fx.find? (fun x => x.2 == f.2) = none := by
    cases hh : fx.find? (fun x => x.2 == f.2) with
    | none => rfl
    | some y =>
      have : fixFor fx f.2 = y.1 := by unfold fixFor; rw [hh]
      have := hp y (List.mem_of_find?_eq_some hh)
      omega
  refine ⟨fun x hx => ?_, ?_⟩
  · unfold fixFor
    rw [List.find?_append]
    cases hh : fx.find? (fun y => y.2 == x.2) with
    | none => exact absurd (List.find?_eq_none.1 hh x hx) (by simp)
    | some y => rfl
  · unfold fixFor
    rw [List.find?_append, hn]
    simp
theorem fxs_app {pa pl : Int} {fx : List Fxd} {j : Nat} {f : Fxd} (h : FxsOk pa pl fx j) (hj : j ≤ 3) (h1 : 3 * (j : Int) + 1 ≤ f.1 ∧ f.1 ≤ 3 * j + 3) (h2 : HostP pa pl f.2) (h0 : fixFor fx f.2 = 0) : FxsOk pa pl (fx ++ [f]) (j + 1) := by
  obtain ⟨a1, a2, a3⟩ := h
  have hp : ∀ x ∈ fx, 1 ≤ x.1 := fun x hx => by
    obtain ⟨i, hi, rfl⟩ := List.getElem_of_mem hx
    exact (a2 i hi hi).1.1
  obtain ⟨k1, k2⟩ := fixFor_app hp h0
  refine ⟨by simp; omega, fun i hi hi' => ?_, fun x hx => ?_⟩
  · by_cases e : i < fx.length
    · have hc := a2 i e e
      simp only [List.getElem_append_left e]
      refine ⟨hc.1, hc.2.1, fun h => ?_, (k1 _ (List.getElem_mem e)).trans hc.2.2.2⟩
      have hh : i - 1 < fx.length := by omega
      rw [List.getElem_append_left hh]
      exact hc.2.2.1 h
    · have ei : i = fx.length := by simp at hi'; omega
      subst ei
      simp only [List.getElem_append_right (Nat.le_refl _), Nat.sub_self, List.getElem_singleton]
      refine ⟨by omega, h2, fun h => ?_, k2⟩
      have hh : fx.length - 1 < fx.length := by omega
      rw [List.getElem_append_left hh]
      have := a3 _ (List.getElem_mem hh)
      omega
  · rcases List.mem_append.1 hx with hx | hx
    · have := a3 x hx
      omega
    · rw [List.mem_singleton] at hx
      rw [hx]
      omega
theorem fxs_le {pa pl : Int} {fx : List Fxd} {j : Nat} (h : FxsOk pa pl fx j) : FxsOk pa pl fx (j + 1) := ⟨by have := h.1; omega, h.2.1, fun x hx => by have := h.2.2 x hx; omega⟩
theorem del_lse (k : Nat) (F : List Lse) (i : Nat) (hi : i < F.length) (hl : F.length ≤ 1048576) : slices_Delete_impl_Lease_impl_Lease.f k F i ((i + 1 : Nat) : Int) = some (F.take i ++ F.drop (i + 1)) := by
  unfold slices_Delete_impl_Lease_impl_Lease.f
  rw [if_pos ⟨⟨by omega, by omega⟩, by omega, by omega⟩, Int.toNat_natCast, Int.toNat_natCast]
theorem del_split {pa pl : Int} {ls : List Lse} {fx : List Fxd} {who : Int} {i : Nat} (h : LsOk pa pl fx ls) (hi : i < ls.length) (hw : (ls[i]).2.1 = who) : ls.filter (other who) = ls.take i ++ ls.drop (i + 1) := by
  have hx : ls = ls.take i ++ (ls[i] :: ls.drop (i + 1)) := by rw [List.getElem_cons_drop, List.take_append_drop]
  have e : ls.filter (other who) = (ls.take i).filter (other who) ++ ([ls[i]].filter (other who) ++ (ls.drop (i + 1)).filter (other who)) := by
    rw [← List.filter_append, ← List.filter_append, List.singleton_append, ← hx]
  have k1 : ∀ x ∈ ls.take i, other who x = true := by
    intro x hx
    obtain ⟨j, hj, rfl⟩ := List.mem_take_iff_getElem.1 hx
    have := (List.pairwise_iff_getElem.1 h.2.2) j i (by omega) hi (by omega)
    unfold other
    simp only [bne_iff_ne, ne_eq]
    intro c
    exact this (c.trans hw.symm)
  have k2 : ∀ x ∈ ls.drop (i + 1), other who x = true := by
    intro x hx
    obtain ⟨j, hj, rfl⟩ := List.mem_drop_iff_getElem.1 hx
    have := (List.pairwise_iff_getElem.1 h.2.2) i (i + 1 + j) hi (by omega) (by omega)
    unfold other
    simp only [bne_iff_ne, ne_eq]
    intro c
    exact this (hw.trans c.symm)
  rw [e, List.filter_eq_self.2 k1, List.filter_eq_self.2 k2]
  have : [ls[i]].filter (other who) = [] := by simp [other, hw]
  rw [this, List.nil_append]
theorem impl_Release.ev (pa pl : Int) (ls : List Lse) (fx : List Fxd) (who : Int) (h2 : ls.length ≤ 1048576) (h3 : fx.length ≤ 1048576) : Tells F0 (fun k => impl_Release.f k pa pl ls fx who) (· = releaseM pa pl ls fx who) := by
  unfold impl_Release.f
  refine T_bindE (impl_copyPool.ev pa pl ls fx h2 h3) (T_bindE (impl_leaseOf.ev pa pl ls fx who h2) (T_bind (impl_PoolOk.ev pa pl ls fx h2 h3) fun q hq => ?_))
  dsimp only
  unfold releaseM
  cases q with
  | false => rw [if_neg fun c => by have := hq.2 c.1; cases this]; exact T_true rfl (T_ret rfl)
  | true =>
  have hp := hq.1 rfl
  have hL := ls_of hp
  refine T_false rfl ?_
  unfold leaseAt
  have hle := List.findIdx_le_length (p := impl_leaseOf_1.p who) (xs := ls)
  have hno := @idx_none ls who
  by_cases hm : ls.findIdx (impl_leaseOf_1.p who) < ls.length
  · have hw : (ls[ls.findIdx (impl_leaseOf_1.p who)]).2.1 = who := by
      have := List.findIdx_getElem (w := hm)
      simpa [impl_leaseOf_1.p] using this
    generalize ls.findIdx (impl_leaseOf_1.p who) = m at *
    have hs := del_split hL hm hw
    have hlen : (ls.filter (other who)).length + 1 = ls.length := by
      rw [hs]
      simp only [List.length_append, List.length_take, List.length_drop]
      omega
    rw [if_neg (by omega), if_pos ⟨hp, by omega⟩, wrn (by omega), hs]
    refine T_neg (by omega) ?_
    simp only [del_lse _ _ _ hm h2, Option.bind_some]
    exact T_ret rfl
  · have hnw := hno hm
    have hs : ls.filter (other who) = ls := List.filter_eq_self.2 fun x hx => by
      unfold other
      simpa using hnw x hx
    rw [if_pos (by omega), if_neg fun c => c.2 (by rw [hs])]
    exact T_pos (by omega) (T_ret rfl)
theorem release_len (pa pl : Int) (ls : List Lse) (fx : List Fxd) (who : Int) (h : ls.length ≤ 1048576) : (releaseM pa pl ls fx who).2.2.1.length ≤ 1048576 := by
  unfold releaseM
  split
  · exact Nat.le_trans (List.length_filter_le _ _) h
  · exact h


theorem FnExactRelease : laws_FnExactRelease.Goal := by
  intro a0_0 a0_1 a0_2 a0_3 a1 g_a0_0 g_a0_1 g_a0_2 g_a0_3 g_a1
  replace g_a0_0 := wf64 g_a0_0
  replace g_a0_1 := wf64 g_a0_1
  replace g_a0_2 : a0_2.length ≤ maxLen ∧ True := ⟨g_a0_2.1, trivial⟩
  replace g_a0_3 : a0_3.length ≤ maxLen ∧ True := ⟨g_a0_3.1, trivial⟩
  replace g_a1 := wf64 g_a1
  refine Tells.rounds ?_
  unfold laws_FnExactRelease.f
  refine T_bind (laws_szPool.ev a0_0 a0_1 a0_2 a0_3 _ g_a0_2.1 g_a0_3.1 (by omega) (by omega)) fun v1 q1 => T_dec (fun _ => T_ret rfl) fun e1 => ?_
  obtain ⟨_, _, z_a0_2, z_a0_3⟩ := q1.resolve_left (by omega)
  have b2 : (releaseM a0_0 a0_1 a0_2 a0_3 a1).2.2.1.length ≤ 1048576 := release_len _ _ _ _ _ z_a0_2
  have b3 : (releaseM a0_0 a0_1 a0_2 a0_3 a1).2.2.2.1.length ≤ 1048576 := by rw [(release_net _ _ _ _ _).2.2]; exact z_a0_3
  refine T_bindE (laws_toPool.ev a0_0 a0_1 a0_2 a0_3 z_a0_2 z_a0_3) ?_
  refine T_bindE (spec_Release.ev a0_0 a0_1 a0_2 a0_3 a1 z_a0_2 z_a0_3) ?_
  refine T_bindE (laws_toPool.ev a0_0 a0_1 a0_2 a0_3 z_a0_2 z_a0_3) ?_
  refine T_bindE (impl_Release.ev a0_0 a0_1 a0_2 a0_3 a1 z_a0_2 z_a0_3) ?_
  refine T_bindE (laws_eqPool.ev _ _ _ _ (by omega) (by omega)) ?_
  refine T_same rfl ?_
  refine T_same (by simp) ?_
  refine T_bindE (laws_toPool.ev a0_0 a0_1 a0_2 a0_3 z_a0_2 z_a0_3) ?_
  refine T_bindE (laws_eqPool.ev a0_0 a0_1 a0_2 a0_3 (by omega) (by omega)) ?_
  refine T_same rfl ?_
  refine T_bindE (laws_markPool.ev a0_0 a0_1 a0_2 a0_3 (1) (by omega)) ?_
  refine T_neg (by omega) ?_
  refine T_bindE (laws_eqPool.ev _ _ _ _ (by omega) (by omega)) ?_
  refine T_same rfl ?_
  refine T_same (by simp) ?_
  refine T_bindE (laws_markPool.ev _ _ _ _ 1 ?_) ?_
  · omega
  refine T_bindE (laws_heldPool.ev _ _ _ _ 1 ?_) ?_
  · omega
  refine T_neg (by omega) ?_
  refine T_same (by simp) ?_
  refine T_bindE (laws_toPool.ev a0_0 a0_1 a0_2 a0_3 z_a0_2 z_a0_3) ?_
  refine T_bindE (impl_Release.ev a0_0 a0_1 a0_2 a0_3 a1 z_a0_2 z_a0_3) ?_
  refine T_bindE (laws_eqPool.ev _ _ _ _ (by omega) (by omega)) ?_
  refine T_same rfl ?_
  refine T_same (by simp) ?_
  refine T_bindE (laws_heldPool.ev _ _ _ _ 1 ?_) ?_
  · omega
  refine T_neg (by omega) ?_
  refine T_same (by simp) ?_
  exact T_ret rfl
end Go.Proofs.Ytfaeklomiofpdaa.DI.Pure
