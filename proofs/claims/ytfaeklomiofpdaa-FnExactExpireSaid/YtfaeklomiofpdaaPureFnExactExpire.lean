/- FnExactExpire, the plain part: from some fuel on the law answers true. -/
import Derived.Test.YtfaeklomiofpdaaGoalFnExactExpire
import Derived.Test.YtfaeklomiofpdaaKITE
namespace Go.Proofs.Ytfaeklomiofpdaa.DI.Pure
open Go Go.RowKit
set_option linter.unusedVariables false
set_option linter.unusedSimpArgs false
theorem laws_szLeaseS.ev (l : List (Int × Int × Int)) (a : Int) (h0 : 0 ≤ a) (h1 : a ≤ 1048576) (hl : l.length ≤ maxLen) : Tells F0 (fun k => laws_szLeaseS.f k l a) (fun v => v < 0 ∨ (0 ≤ v ∧ v ≤ a ∧ l.length ≤ 1048576)) := by
  unfold maxLen at hl
  unfold laws_szLeaseS.f
  rw [wr64 (x := a - (l.length : Int)) (by omega) (by omega)]
  exact T_dec (fun _ => T_ret (.inl (by omega))) (fun h => T_ret (.inr ⟨by omega, by omega, by omega⟩))
theorem laws_szFixedS.ev (l : List (Int × Int)) (a : Int) (h0 : 0 ≤ a) (h1 : a ≤ 1048576) (hl : l.length ≤ maxLen) : Tells F0 (fun k => laws_szFixedS.f k l a) (fun v => v < 0 ∨ (0 ≤ v ∧ v ≤ a ∧ l.length ≤ 1048576)) := by
  unfold maxLen at hl
  unfold laws_szFixedS.f
  rw [wr64 (x := a - (l.length : Int)) (by omega) (by omega)]
  exact T_dec (fun _ => T_ret (.inl (by omega))) (fun h => T_ret (.inr ⟨by omega, by omega, by omega⟩))
theorem laws_szPool.ev (c0 : Int) (c1 : Int) (c2 : List (Int × Int × Int)) (c3 : List (Int × Int)) (a : Int) (h2 : c2.length ≤ maxLen) (h3 : c3.length ≤ maxLen) (hA : 0 ≤ a) (hB : a ≤ 1048576) : Tells F0 (fun k => laws_szPool.f k c0 c1 c2 c3 a) (fun v => v < 0 ∨ (0 ≤ v ∧ v ≤ a ∧ c2.length ≤ 1048576 ∧ c3.length ≤ 1048576)) := by
  unfold laws_szPool.f
  refine T_bind (laws_szLeaseS.ev c2 _ (by omega) (by omega) h2) fun v0 q0 => T_dec (fun h => T_ret (.inl (by omega))) fun e0 => ?_
  replace q0 := q0.resolve_left (by omega)
  refine T_bind (laws_szFixedS.ev c3 _ (by omega) (by omega) h3) fun v1 q1 => T_dec (fun h => T_ret (.inl (by omega))) fun e1 => ?_
  replace q1 := q1.resolve_left (by omega)
  exact T_ret (.inr ⟨by omega, by omega, by omega, by omega⟩)
theorem laws_toPrefix.one (k : Nat) (c0 : Int) (c1 : Int) : laws_toPrefix.f k c0 c1 = some (c0, c1) := rfl
theorem laws_toLease.one (k : Nat) (c0 : Int) (c1 : Int) (c2 : Int) : laws_toLease.f k c0 c1 c2 = some (c0, c1, c2) := rfl
theorem laws_toLeaseS.ev (l : List (Int × Int × Int)) (hn : l.length ≤ 1048576) : Tells F0 (fun k => laws_toLeaseS.f k l) (· = l) := by
  have h := T_loop (F := F0) (fun k j i => laws_toLeaseS.l0 k j ((i : Int), l, l.take i ++ List.replicate (l.length - i) ((0 : Int), (0 : Int), (0 : Int)))) l.length (fun _ r => r = l) (fun i hi he => by
    dsimp only [laws_toLeaseS.l0, laws_toLeaseS.s0]
    simp only [laws_toLease.one, Int.toNat_natCast, Option.bind_some]
    refine T_pos (by omega) (T_get hi (T_get (by simp; omega) ?_))
    rw [wrs hi (by omega)]
    have e := set_copy l ((0 : Int), (0 : Int), (0 : Int)) i hi
    refine T_eq (fun x => congrArg (fun q => laws_toLeaseS.l0 x.1 x.2 (((i + 1 : Nat) : Int), l, q)) e) he) (by
    dsimp only [laws_toLeaseS.l0, laws_toLeaseS.s0]
    exact T_neg (by omega) (T_ret (by simp))) 0 (Nat.zero_le _)
  unfold laws_toLeaseS.f
  refine T_and (by omega) (by omega) (T_in (g := fun x j => laws_toLeaseS.l0 x j _) ?_ (fun k => k) (fun _ _ h => h))
  simpa using h
theorem laws_toFixed.one (k : Nat) (c0 : Int) (c1 : Int) : laws_toFixed.f k c0 c1 = some (c0, c1) := rfl
theorem laws_toFixedS.ev (l : List (Int × Int)) (hn : l.length ≤ 1048576) : Tells F0 (fun k => laws_toFixedS.f k l) (· = l) := by
  have h := T_loop (F := F0) (fun k j i => laws_toFixedS.l0 k j ((i : Int), l, l.take i ++ List.replicate (l.length - i) ((0 : Int), (0 : Int)))) l.length (fun _ r => r = l) (fun i hi he => by
    dsimp only [laws_toFixedS.l0, laws_toFixedS.s0]
    simp only [laws_toFixed.one, Int.toNat_natCast, Option.bind_some]
    refine T_pos (by omega) (T_get hi (T_get (by simp; omega) ?_))
    rw [wrs hi (by omega)]
    have e := set_copy l ((0 : Int), (0 : Int)) i hi
    refine T_eq (fun x => congrArg (fun q => laws_toFixedS.l0 x.1 x.2 (((i + 1 : Nat) : Int), l, q)) e) he) (by
    dsimp only [laws_toFixedS.l0, laws_toFixedS.s0]
    exact T_neg (by omega) (T_ret (by simp))) 0 (Nat.zero_le _)
  unfold laws_toFixedS.f
  refine T_and (by omega) (by omega) (T_in (g := fun x j => laws_toFixedS.l0 x j _) ?_ (fun k => k) (fun _ _ h => h))
  simpa using h
theorem laws_toPool.ev (c0 : Int) (c1 : Int) (c2 : List (Int × Int × Int)) (c3 : List (Int × Int)) (h2 : c2.length ≤ 1048576) (h3 : c3.length ≤ 1048576) : Tells F0 (fun k => laws_toPool.f k c0 c1 c2 c3) (· = (c0, c1, c2, c3)) := by
  unfold laws_toPool.f
  simp only [laws_toPrefix.one, Option.bind_some]
  refine T_bindE (laws_toLeaseS.ev _ h2) ?_
  refine T_bindE (laws_toFixedS.ev _ h3) ?_
  exact T_ret rfl
theorem laws_eqPrefix.refl (k : Nat) (c0 : Int) (c1 : Int) : laws_eqPrefix.f k c0 c1 c0 c1 = some true := by simp [laws_eqPrefix.f]
theorem laws_eqLease.refl (k : Nat) (c0 : Int) (c1 : Int) (c2 : Int) : laws_eqLease.f k c0 c1 c2 c0 c1 c2 = some true := by simp [laws_eqLease.f]
theorem laws_eqLeaseS.ev (l : List (Int × Int × Int)) (hn : l.length ≤ 1000000000000000000) : Tells F0 (fun k => laws_eqLeaseS.f k l l) (· = true) := by
  have h := T_loop (F := F0) (fun k j i => laws_eqLeaseS.l0 k j ((i : Int), l, l)) l.length (fun _ r => r = true) (fun i hi he => by
    dsimp only [laws_eqLeaseS.l0, laws_eqLeaseS.s0]
    simp only [Int.toNat_natCast]
    refine T_pos (by omega) (T_get hi (T_get hi ?_))
    simp only [laws_eqLease.refl, Option.bind_some]
    refine T_same rfl ?_
    rw [wrs hi (by omega)]
    exact he) (by
    dsimp only [laws_eqLeaseS.l0, laws_eqLeaseS.s0]
    exact T_neg (by omega) (T_ret rfl)) 0 (Nat.zero_le _)
  unfold laws_eqLeaseS.f
  exact T_same (by simp) (T_in (g := fun x j => laws_eqLeaseS.l0 x j _) h (fun k => k) (fun _ _ h => h))
theorem laws_eqFixed.refl (k : Nat) (c0 : Int) (c1 : Int) : laws_eqFixed.f k c0 c1 c0 c1 = some true := by simp [laws_eqFixed.f]
theorem laws_eqFixedS.ev (l : List (Int × Int)) (hn : l.length ≤ 1000000000000000000) : Tells F0 (fun k => laws_eqFixedS.f k l l) (· = true) := by
  have h := T_loop (F := F0) (fun k j i => laws_eqFixedS.l0 k j ((i : Int), l, l)) l.length (fun _ r => r = true) (fun i hi he => by
    dsimp only [laws_eqFixedS.l0, laws_eqFixedS.s0]
    simp only [Int.toNat_natCast]
    refine T_pos (by omega) (T_get hi (T_get hi ?_))
    simp only [laws_eqFixed.refl, Option.bind_some]
    refine T_same rfl ?_
    rw [wrs hi (by omega)]
    exact he) (by
    dsimp only [laws_eqFixedS.l0, laws_eqFixedS.s0]
    exact T_neg (by omega) (T_ret rfl)) 0 (Nat.zero_le _)
  unfold laws_eqFixedS.f
  exact T_same (by simp) (T_in (g := fun x j => laws_eqFixedS.l0 x j _) h (fun k => k) (fun _ _ h => h))
theorem laws_eqPool.ev (c0 : Int) (c1 : Int) (c2 : List (Int × Int × Int)) (c3 : List (Int × Int)) (h2 : c2.length ≤ 1000000000000000000) (h3 : c3.length ≤ 1000000000000000000) : Tells F0 (fun k => laws_eqPool.f k c0 c1 c2 c3 c0 c1 c2 c3) (· = true) := by
  unfold laws_eqPool.f
  simp only [laws_eqPrefix.refl, Option.bind_some]
  refine T_same rfl ?_
  refine T_bindE (laws_eqLeaseS.ev _ h2) ?_
  refine T_same rfl ?_
  refine T_bindE (laws_eqFixedS.ev _ h3) ?_
  refine T_same rfl ?_
  exact T_ret rfl
theorem laws_eqIntS.ev (l : List (Int)) (hn : l.length ≤ 1000000000000000000) : Tells F0 (fun k => laws_eqIntS.f k l l) (· = true) := by
  have h := T_loop (F := F0) (fun k j i => laws_eqIntS.l0 k j ((i : Int), l, l)) l.length (fun _ r => r = true) (fun i hi he => by
    dsimp only [laws_eqIntS.l0, laws_eqIntS.s0]
    simp only [Int.toNat_natCast]
    refine T_pos (by omega) (T_get hi (T_get hi ?_))
    refine T_same (by simp) ?_
    rw [wrs hi (by omega)]
    exact he) (by
    dsimp only [laws_eqIntS.l0, laws_eqIntS.s0]
    exact T_neg (by omega) (T_ret rfl)) 0 (Nat.zero_le _)
  unfold laws_eqIntS.f
  exact T_same (by simp) (T_in (g := fun x j => laws_eqIntS.l0 x j _) h (fun k => k) (fun _ _ h => h))
def mkd_Lease (n m : Nat) : List (Int × Int × Int) := (List.range m).map fun i => (((n + 3 * i + 0 : Nat) : Int), ((n + 3 * i + 1 : Nat) : Int), ((n + 3 * i + 2 : Nat) : Int))
theorem laws_markLeaseS.ev (l : List (Int × Int × Int)) (n : Nat) (hb : n + 3 * l.length ≤ 1000000000000000000) : Tells F0 (fun k => laws_markLeaseS.f k l (n : Int)) (· = (((n + 3 * l.length : Nat) : Int), mkd_Lease n l.length)) := by
  have hM : (mkd_Lease n l.length).length = l.length := by simp [mkd_Lease]
  have h := T_loop (F := F0) (fun k j i => laws_markLeaseS.l0 k j (((n + 3 * i : Nat) : Int), (i : Int), (mkd_Lease n l.length).take i ++ l.drop i)) l.length (fun _ r => r = (((n + 3 * l.length : Nat) : Int), mkd_Lease n l.length)) (fun i hi he => by
    have hv : (mkd_Lease n l.length)[i]? = some (((n + 3 * i + 0 : Nat) : Int), ((n + 3 * i + 1 : Nat) : Int), ((n + 3 * i + 2 : Nat) : Int)) := by simp [mkd_Lease, hi]
    have hs := mark_step (mkd_Lease n l.length) l i _ hM hi hv
    have hL : i < ((mkd_Lease n l.length).take i ++ l.drop i).length := by simp; omega
    have w0 : IntKind.i64.wrap (((n + 3 * i : Nat) : Int) + 1) = ((n + 3 * i + 1 : Nat) : Int) := by rw [wr64 (by omega) (by omega)]; omega
    have w1 : IntKind.i64.wrap (((n + 3 * i + 1 : Nat) : Int) + 1) = ((n + 3 * i + 2 : Nat) : Int) := by rw [wr64 (by omega) (by omega)]; omega
    have w2 : IntKind.i64.wrap (((n + 3 * i + 2 : Nat) : Int) + 1) = ((n + 3 * (i + 1) : Nat) : Int) := by rw [wr64 (by omega) (by omega)]; omega
    dsimp only [laws_markLeaseS.l0, laws_markLeaseS.s0]
    simp only [Int.toNat_natCast, w0, w1, w2, wrs hi (show l.length ≤ 9223372036854775807 by omega)]
    refine T_pos (by omega) ?_
    refine T_get hL ?_
    refine T_got (by simpa using hL) ?_
    refine T_got (by simpa using hL) ?_
    refine T_eq (fun x => congrArg (fun q => laws_markLeaseS.l0 x.1 x.2 (((n + 3 * (i + 1) : Nat) : Int), ((i + 1 : Nat) : Int), q)) ?_) he
    try simp only [List.set_set]
    exact hs) (by
    dsimp only [laws_markLeaseS.l0, laws_markLeaseS.s0]
    refine T_neg (by simp; omega) (T_ret ?_)
    rw [List.take_of_length_le (by omega), List.drop_length, List.append_nil]) 0 (Nat.zero_le _)
  unfold laws_markLeaseS.f
  refine T_in (g := fun x j => laws_markLeaseS.l0 x j _) ?_ (fun k => k) (fun _ _ h => h)
  simpa using h
def mkd_Fixed (n m : Nat) : List (Int × Int) := (List.range m).map fun i => (((n + 2 * i + 0 : Nat) : Int), ((n + 2 * i + 1 : Nat) : Int))
theorem laws_markFixedS.ev (l : List (Int × Int)) (n : Nat) (hb : n + 2 * l.length ≤ 1000000000000000000) : Tells F0 (fun k => laws_markFixedS.f k l (n : Int)) (· = (((n + 2 * l.length : Nat) : Int), mkd_Fixed n l.length)) := by
  have hM : (mkd_Fixed n l.length).length = l.length := by simp [mkd_Fixed]
  have h := T_loop (F := F0) (fun k j i => laws_markFixedS.l0 k j (((n + 2 * i : Nat) : Int), (i : Int), (mkd_Fixed n l.length).take i ++ l.drop i)) l.length (fun _ r => r = (((n + 2 * l.length : Nat) : Int), mkd_Fixed n l.length)) (fun i hi he => by
    have hv : (mkd_Fixed n l.length)[i]? = some (((n + 2 * i + 0 : Nat) : Int), ((n + 2 * i + 1 : Nat) : Int)) := by simp [mkd_Fixed, hi]
    have hs := mark_step (mkd_Fixed n l.length) l i _ hM hi hv
    have hL : i < ((mkd_Fixed n l.length).take i ++ l.drop i).length := by simp; omega
    have w0 : IntKind.i64.wrap (((n + 2 * i : Nat) : Int) + 1) = ((n + 2 * i + 1 : Nat) : Int) := by rw [wr64 (by omega) (by omega)]; omega
    have w1 : IntKind.i64.wrap (((n + 2 * i + 1 : Nat) : Int) + 1) = ((n + 2 * (i + 1) : Nat) : Int) := by rw [wr64 (by omega) (by omega)]; omega
    dsimp only [laws_markFixedS.l0, laws_markFixedS.s0]
    simp only [Int.toNat_natCast, w0, w1, wrs hi (show l.length ≤ 9223372036854775807 by omega)]
    refine T_pos (by omega) ?_
    refine T_get hL ?_
    refine T_got (by simpa using hL) ?_
    refine T_eq (fun x => congrArg (fun q => laws_markFixedS.l0 x.1 x.2 (((n + 2 * (i + 1) : Nat) : Int), ((i + 1 : Nat) : Int), q)) ?_) he
    try simp only [List.set_set]
    exact hs) (by
    dsimp only [laws_markFixedS.l0, laws_markFixedS.s0]
    refine T_neg (by simp; omega) (T_ret ?_)
    rw [List.take_of_length_le (by omega), List.drop_length, List.append_nil]) 0 (Nat.zero_le _)
  unfold laws_markFixedS.f
  refine T_in (g := fun x j => laws_markFixedS.l0 x j _) ?_ (fun k => k) (fun _ _ h => h)
  simpa using h
theorem laws_markPool.ev (c0 : Int) (c1 : Int) (c2 : List (Int × Int × Int)) (c3 : List (Int × Int)) (n : Nat) (hb : n + 3 * c2.length + 2 * c3.length ≤ 1000000000000000000) : Tells F0 (fun k => laws_markPool.f k c0 c1 c2 c3 (n : Int)) (· = (((n + 3 * c2.length + 2 * c3.length : Nat) : Int), mkd_Lease n c2.length, mkd_Fixed (n + 3 * c2.length) c3.length)) := by
  unfold laws_markPool.f
  refine T_bindE (laws_markLeaseS.ev _ n (by omega)) ?_
  refine T_bindE (laws_markFixedS.ev _ (n + 3 * c2.length) (by omega)) ?_
  exact T_ret rfl
def mkd_Int (n m : Nat) : List (Int) := (List.range m).map fun i => ((n + 1 * i + 0 : Nat) : Int)
theorem laws_markIntS.ev (l : List (Int)) (n : Nat) (hb : n + 1 * l.length ≤ 1000000000000000000) : Tells F0 (fun k => laws_markIntS.f k l (n : Int)) (· = (((n + 1 * l.length : Nat) : Int), mkd_Int n l.length)) := by
  have hM : (mkd_Int n l.length).length = l.length := by simp [mkd_Int]
  have h := T_loop (F := F0) (fun k j i => laws_markIntS.l0 k j (((n + 1 * i : Nat) : Int), (i : Int), (mkd_Int n l.length).take i ++ l.drop i)) l.length (fun _ r => r = (((n + 1 * l.length : Nat) : Int), mkd_Int n l.length)) (fun i hi he => by
    have hv : (mkd_Int n l.length)[i]? = some ((n + 1 * i + 0 : Nat) : Int) := by simp [mkd_Int, hi]
    have hs := mark_step (mkd_Int n l.length) l i _ hM hi hv
    have hL : i < ((mkd_Int n l.length).take i ++ l.drop i).length := by simp; omega
    have w0 : IntKind.i64.wrap (((n + 1 * i : Nat) : Int) + 1) = ((n + 1 * (i + 1) : Nat) : Int) := by rw [wr64 (by omega) (by omega)]; omega
    dsimp only [laws_markIntS.l0, laws_markIntS.s0]
    simp only [Int.toNat_natCast, w0, wrs hi (show l.length ≤ 9223372036854775807 by omega)]
    refine T_pos (by omega) ?_
    refine T_get hL ?_
    refine T_eq (fun x => congrArg (fun q => laws_markIntS.l0 x.1 x.2 (((n + 1 * (i + 1) : Nat) : Int), ((i + 1 : Nat) : Int), q)) ?_) he
    try simp only [List.set_set]
    exact hs) (by
    dsimp only [laws_markIntS.l0, laws_markIntS.s0]
    refine T_neg (by simp; omega) (T_ret ?_)
    rw [List.take_of_length_le (by omega), List.drop_length, List.append_nil]) 0 (Nat.zero_le _)
  unfold laws_markIntS.f
  refine T_in (g := fun x j => laws_markIntS.l0 x j _) ?_ (fun k => k) (fun _ _ h => h)
  simpa using h
theorem laws_heldLeaseS.ev (m n : Nat) (hb : n + 3 * m ≤ 1000000000000000000) : Tells F0 (fun k => laws_heldLeaseS.f k (mkd_Lease n m) (n : Int)) (· = ((n + 3 * m : Nat) : Int)) := by
  have hM : (mkd_Lease n m).length = m := by simp [mkd_Lease]
  have h := T_loop (F := F0) (fun k j i => laws_heldLeaseS.l0 k j (((n + 3 * i : Nat) : Int), (i : Int), mkd_Lease n m)) m (fun _ r => r = ((n + 3 * m : Nat) : Int)) (fun i hi he => by
    have hL : i < (mkd_Lease n m).length := by omega
    have hv : (mkd_Lease n m)[i] = (((n + 3 * i + 0 : Nat) : Int), ((n + 3 * i + 1 : Nat) : Int), ((n + 3 * i + 2 : Nat) : Int)) := by simp [mkd_Lease]
    have w0 : IntKind.i64.wrap (((n + 3 * i : Nat) : Int) + 1) = ((n + 3 * i + 1 : Nat) : Int) := by rw [wr64 (by omega) (by omega)]; omega
    have w1 : IntKind.i64.wrap (((n + 3 * i + 1 : Nat) : Int) + 1) = ((n + 3 * i + 2 : Nat) : Int) := by rw [wr64 (by omega) (by omega)]; omega
    have w2 : IntKind.i64.wrap (((n + 3 * i + 2 : Nat) : Int) + 1) = ((n + 3 * (i + 1) : Nat) : Int) := by rw [wr64 (by omega) (by omega)]; omega
    dsimp only [laws_heldLeaseS.l0, laws_heldLeaseS.s0]
    simp only [Int.toNat_natCast, w0, w1, w2, wrs hi (show m ≤ 9223372036854775807 by omega)]
    refine T_pos (by omega) ?_
    refine T_get hL ?_; rw [hv]; (try dsimp only)
    refine T_same ?_ ?_
    · simp
    refine T_get hL ?_; rw [hv]; (try dsimp only)
    refine T_same ?_ ?_
    · simp
    refine T_get hL ?_; rw [hv]; (try dsimp only)
    refine T_same ?_ ?_
    · simp
    exact he) (by
    dsimp only [laws_heldLeaseS.l0, laws_heldLeaseS.s0]
    exact T_neg (by omega) (T_ret rfl)) 0 (Nat.zero_le _)
  unfold laws_heldLeaseS.f
  exact T_in (g := fun x j => laws_heldLeaseS.l0 x j _) (by simpa using h) (fun k => k) (fun _ _ h => h)
theorem laws_heldFixedS.ev (m n : Nat) (hb : n + 2 * m ≤ 1000000000000000000) : Tells F0 (fun k => laws_heldFixedS.f k (mkd_Fixed n m) (n : Int)) (· = ((n + 2 * m : Nat) : Int)) := by
  have hM : (mkd_Fixed n m).length = m := by simp [mkd_Fixed]
  have h := T_loop (F := F0) (fun k j i => laws_heldFixedS.l0 k j (((n + 2 * i : Nat) : Int), (i : Int), mkd_Fixed n m)) m (fun _ r => r = ((n + 2 * m : Nat) : Int)) (fun i hi he => by
    have hL : i < (mkd_Fixed n m).length := by omega
    have hv : (mkd_Fixed n m)[i] = (((n + 2 * i + 0 : Nat) : Int), ((n + 2 * i + 1 : Nat) : Int)) := by simp [mkd_Fixed]
    have w0 : IntKind.i64.wrap (((n + 2 * i : Nat) : Int) + 1) = ((n + 2 * i + 1 : Nat) : Int) := by rw [wr64 (by omega) (by omega)]; omega
    have w1 : IntKind.i64.wrap (((n + 2 * i + 1 : Nat) : Int) + 1) = ((n + 2 * (i + 1) : Nat) : Int) := by rw [wr64 (by omega) (by omega)]; omega
    dsimp only [laws_heldFixedS.l0, laws_heldFixedS.s0]
    simp only [Int.toNat_natCast, w0, w1, wrs hi (show m ≤ 9223372036854775807 by omega)]
    refine T_pos (by omega) ?_
    refine T_get hL ?_; rw [hv]; (try dsimp only)
    refine T_same ?_ ?_
    · simp
    refine T_get hL ?_; rw [hv]; (try dsimp only)
    refine T_same ?_ ?_
    · simp
    exact he) (by
    dsimp only [laws_heldFixedS.l0, laws_heldFixedS.s0]
    exact T_neg (by omega) (T_ret rfl)) 0 (Nat.zero_le _)
  unfold laws_heldFixedS.f
  exact T_in (g := fun x j => laws_heldFixedS.l0 x j _) (by simpa using h) (fun k => k) (fun _ _ h => h)
theorem laws_heldPool.ev (c0 : Int) (c1 : Int) (m2 m3 n : Nat) (hb : n + 3 * m2 + 2 * m3 ≤ 1000000000000000000) : Tells F0 (fun k => laws_heldPool.f k c0 c1 (mkd_Lease n m2) (mkd_Fixed (n + 3 * m2) m3) (n : Int)) (· = ((n + 3 * m2 + 2 * m3 : Nat) : Int)) := by
  unfold laws_heldPool.f
  refine T_bindE (laws_heldLeaseS.ev m2 n (by omega)) ?_
  refine T_neg (by omega) ?_
  refine T_bindE (laws_heldFixedS.ev m3 (n + 3 * m2) (by omega)) ?_
  refine T_neg (by omega) ?_
  exact T_ret rfl
theorem laws_heldIntS.ev (m n : Nat) (hb : n + 1 * m ≤ 1000000000000000000) : Tells F0 (fun k => laws_heldIntS.f k (mkd_Int n m) (n : Int)) (· = ((n + 1 * m : Nat) : Int)) := by
  have hM : (mkd_Int n m).length = m := by simp [mkd_Int]
  have h := T_loop (F := F0) (fun k j i => laws_heldIntS.l0 k j (((n + 1 * i : Nat) : Int), (i : Int), mkd_Int n m)) m (fun _ r => r = ((n + 1 * m : Nat) : Int)) (fun i hi he => by
    have hL : i < (mkd_Int n m).length := by omega
    have hv : (mkd_Int n m)[i] = ((n + 1 * i + 0 : Nat) : Int) := by simp [mkd_Int]
    have w0 : IntKind.i64.wrap (((n + 1 * i : Nat) : Int) + 1) = ((n + 1 * (i + 1) : Nat) : Int) := by rw [wr64 (by omega) (by omega)]; omega
    dsimp only [laws_heldIntS.l0, laws_heldIntS.s0]
    simp only [Int.toNat_natCast, w0, wrs hi (show m ≤ 9223372036854775807 by omega)]
    refine T_pos (by omega) ?_
    refine T_get hL ?_; rw [hv]; (try dsimp only)
    refine T_same ?_ ?_
    · simp
    exact he) (by
    dsimp only [laws_heldIntS.l0, laws_heldIntS.s0]
    exact T_neg (by omega) (T_ret rfl)) 0 (Nat.zero_le _)
  unfold laws_heldIntS.f
  exact T_in (g := fun x j => laws_heldIntS.l0 x j _) (by simpa using h) (fun k => k) (fun _ _ h => h)
theorem take_filter_succ {α : Type} (p : α → Bool) (l : List α) (i : Nat) (h : i < l.length) : (l.take (i + 1)).filter p = (l.take i).filter p ++ (if p l[i] then [l[i]] else []) := by
  rw [List.take_succ_eq_append_getElem h, List.filter_append]
  cases e : p l[i] <;> simp [e]
theorem drop_get {α : Type} {l l' : List α} {j : Nat} (h : l'.drop j = l.drop j) (hj : j < l.length) (hj' : j < l'.length) : l'[j] = l[j] := by
  have := congrArg (fun x => x[0]?) h
  simp only [List.getElem?_drop, Nat.add_zero, List.getElem?_eq_getElem hj, List.getElem?_eq_getElem hj'] at this
  exact Option.some.inj this
theorem set_take_succ {α : Type} (l : List α) (i : Nat) (x : α) (h : i < l.length) : (l.set i x).take (i + 1) = l.take i ++ [x] := by
  rw [List.take_succ_eq_append_getElem (by simpa using h), List.take_set_of_le (Nat.le_refl _), List.getElem_set_self]

theorem filter_len_take {α : Type} (p : α → Bool) (l : List α) (i : Nat) : ((l.take i).filter p).length ≤ l.length :=
  Nat.le_trans (List.length_filter_le _ _) (by simp; omega)

abbrev Lse := Int × Int × Int
theorem impl_copyPool.ev (c0 c1 : Int) (c2 : List Lse) (c3 : List (Int × Int)) (h2 : c2.length ≤ 1048576) (h3 : c3.length ≤ 1048576) : Tells F0 (fun k => impl_copyPool.f k c0 c1 c2 c3) (· = (c0, c1, c2, c3)) := by
  unfold impl_copyPool.f
  exact T_pos (by simp; omega) (T_pos (by simp; omega) (T_ret rfl))
theorem spec_l11Copy.ev (c0 c1 : Int) (c2 : List Lse) (c3 : List (Int × Int)) (h2 : c2.length ≤ 1048576) (h3 : c3.length ≤ 1048576) : Tells F0 (fun k => spec_l11Copy.f k c0 c1 c2 c3) (· = (c0, c1, c2, c3)) := by
  unfold spec_l11Copy.f
  exact T_pos (by simp; omega) (T_pos (by simp; omega) (T_ret rfl))
def live (now : Int) (x : Lse) : Bool := decide (x.2.2 > now)
def gone (now : Int) (l : List Lse) : List Int := (l.filter fun x => !live now x).map (·.2.1)
theorem gone_take (now : Int) (l : List Lse) (i : Nat) (h : i < l.length) : gone now (l.take (i + 1)) = gone now (l.take i) ++ (if live now l[i] then [] else [l[i].2.1]) := by
  unfold gone
  rw [take_filter_succ _ _ _ h, List.map_append]
  cases live now l[i] <;> rfl
theorem gone_len (now : Int) (l : List Lse) (i : Nat) : (gone now (l.take i)).length ≤ l.length := by
  unfold gone
  rw [List.length_map]
  exact filter_len_take _ _ _
def expM (c0 c1 : Int) (c2 : List Lse) (c3 : List (Int × Int)) (now : Int) : Int × Int × List Lse × List (Int × Int) × List Int := (c0, c1, c2.filter (live now), c3, gone now c2)
theorem spec_Expire.ev (c0 c1 : Int) (c2 : List Lse) (c3 : List (Int × Int)) (now : Int) (h2 : c2.length ≤ 1048576) (h3 : c3.length ≤ 1048576) : Tells F0 (fun k => spec_Expire.f k c0 c1 c2 c3 now) (· = expM c0 c1 c2 c3 now) := by
  unfold spec_Expire.f
  refine T_bindE (spec_l11Copy.ev c0 c1 c2 c3 h2 h3) ?_
  have h := T_loop (F := F0) (fun k j i => spec_Expire.l0 k j (now, (i : Int), c2, c3, c0, c1, (0 : Int), (0 : Int), c0, c1, [], [], c2, c3, (c2.take i).filter (live now), gone now (c2.take i))) c2.length (fun _ r => r = expM c0 c1 c2 c3 now) (fun i hi he => by
    dsimp only [spec_Expire.l0, spec_Expire.s0]
    simp only [Int.toNat_natCast]
    rw [wrs hi (by omega)]
    rw [take_filter_succ _ _ _ hi, gone_take _ _ _ hi] at he
    have g1 := filter_len_take (live now) c2 i
    have g2 := gone_len now c2 i
    refine T_pos (by omega) (T_get hi (T_dec (fun e => T_get hi (T_pos ?_ ?_)) fun e => T_get hi (T_pos ?_ ?_)))
    · show (_ + 1) * 24 ≤ _; omega
    · have e' : live now c2[i] = true := decide_eq_true e
      rw [if_pos e', if_pos e', List.append_nil] at he; exact he
    · show (_ + 1) * 8 ≤ _; omega
    · have e' : ¬ live now c2[i] = true := fun h => e (of_decide_eq_true h)
      rw [if_neg e', if_neg e', List.append_nil] at he; exact he) (by
    dsimp only [spec_Expire.l0, spec_Expire.s0]
    exact T_neg (by omega) (T_ret (by rw [List.take_length]; rfl))) 0 (Nat.zero_le _)
  exact T_in (g := fun x j => spec_Expire.l0 x j _) h (fun k => k) (fun _ _ h => h)
theorem impl_Expire.ev (c0 c1 : Int) (c2 : List Lse) (c3 : List (Int × Int)) (now : Int) (h2 : c2.length ≤ 1048576) (h3 : c3.length ≤ 1048576) : Tells F0 (fun k => impl_Expire.f k c0 c1 c2 c3 now) (· = expM c0 c1 c2 c3 now) := by
  unfold impl_Expire.f
  refine T_bindE (impl_copyPool.ev c0 c1 c2 c3 h2 h3) ?_
  have h := T_loop (F := F0) (fun k j i => impl_Expire.l0 k j (now, (c2.length : Int), (i : Int), c2, c3, (0 : Int), (0 : Int), c0, c1, [], [], (c2.take i).filter (live now), c3, gone now (c2.take i))) c2.length (fun _ r => r = expM c0 c1 c2 c3 now) (fun i hi he => by
    dsimp only [impl_Expire.l0, impl_Expire.s0]
    simp only [Int.toNat_natCast]
    rw [wrs hi (by omega)]
    rw [take_filter_succ _ _ _ hi, gone_take _ _ _ hi] at he
    have g1 := filter_len_take (live now) c2 i
    have g2 := gone_len now c2 i
    refine T_pos (by omega) (T_get hi (T_dec (fun e => T_pos ?_ ?_) fun e => T_pos ?_ ?_))
    · show (_ + 1) * 24 ≤ _; omega
    · have e' : live now c2[i] = true := decide_eq_true e
      rw [if_pos e', if_pos e', List.append_nil] at he; exact he
    · show (_ + 1) * 8 ≤ _; omega
    · have e' : ¬ live now c2[i] = true := fun h => e (of_decide_eq_true h)
      rw [if_neg e', if_neg e', List.append_nil] at he; exact he) (by
    dsimp only [impl_Expire.l0, impl_Expire.s0]
    exact T_neg (by omega) (T_ret (by rw [List.take_length]; rfl))) 0 (Nat.zero_le _)
  exact T_in (g := fun x j => impl_Expire.l0 x j _) h (fun k => k) (fun _ _ h => h)


theorem FnExactExpire : laws_FnExactExpire.Goal := by
  intro a0_0 a0_1 a0_2 a0_3 a1 g_a0_0 g_a0_1 g_a0_2 g_a0_3 g_a1
  replace g_a0_0 := wf64 g_a0_0
  replace g_a0_1 := wf64 g_a0_1
  replace g_a0_2 : a0_2.length ≤ maxLen ∧ True := ⟨g_a0_2.1, trivial⟩
  replace g_a0_3 : a0_3.length ≤ maxLen ∧ True := ⟨g_a0_3.1, trivial⟩
  replace g_a1 := wf64 g_a1
  refine Tells.rounds ?_
  unfold laws_FnExactExpire.f
  refine T_bind (laws_szPool.ev a0_0 a0_1 a0_2 a0_3 _ g_a0_2.1 g_a0_3.1 (by omega) (by omega)) fun v1 q1 => T_dec (fun _ => T_ret rfl) fun e1 => ?_
  obtain ⟨_, _, z_a0_2, z_a0_3⟩ := q1.resolve_left (by omega)
  have b2 : (expM a0_0 a0_1 a0_2 a0_3 a1).2.2.1.length ≤ 1048576 := Nat.le_trans (List.length_filter_le _ _) z_a0_2
  have b3 : (expM a0_0 a0_1 a0_2 a0_3 a1).2.2.2.1.length ≤ 1048576 := z_a0_3
  have b4 : (expM a0_0 a0_1 a0_2 a0_3 a1).2.2.2.2.length ≤ 1048576 := by show (gone a1 a0_2).length ≤ _; have := gone_len a1 a0_2 a0_2.length; rw [List.take_length] at this; omega
  refine T_bindE (laws_toPool.ev a0_0 a0_1 a0_2 a0_3 z_a0_2 z_a0_3) ?_
  refine T_bindE (spec_Expire.ev a0_0 a0_1 a0_2 a0_3 a1 z_a0_2 z_a0_3) ?_
  refine T_bindE (laws_toPool.ev a0_0 a0_1 a0_2 a0_3 z_a0_2 z_a0_3) ?_
  refine T_bindE (impl_Expire.ev a0_0 a0_1 a0_2 a0_3 a1 z_a0_2 z_a0_3) ?_
  refine T_bindE (laws_eqPool.ev _ _ _ _ (by omega) (by omega)) ?_
  refine T_same rfl ?_
  refine T_bindE (laws_eqIntS.ev _ (by omega)) ?_
  refine T_same rfl ?_
  refine T_bindE (laws_toPool.ev a0_0 a0_1 a0_2 a0_3 z_a0_2 z_a0_3) ?_
  refine T_bindE (laws_eqPool.ev a0_0 a0_1 a0_2 a0_3 (by omega) (by omega)) ?_
  refine T_same rfl ?_
  refine T_bindE (laws_markPool.ev a0_0 a0_1 a0_2 a0_3 (1) (by omega)) ?_
  refine T_neg (by omega) ?_
  refine T_bindE (laws_eqPool.ev _ _ _ _ (by omega) (by omega)) ?_
  refine T_same rfl ?_
  refine T_bindE (laws_eqIntS.ev _ (by omega)) ?_
  refine T_same rfl ?_
  refine T_bindE (laws_markPool.ev _ _ _ _ 1 ?_) ?_
  · omega
  refine T_bindE (laws_markIntS.ev _ _ ?_) ?_
  · omega
  refine T_bindE (laws_heldPool.ev _ _ _ _ 1 ?_) ?_
  · omega
  refine T_neg (by omega) ?_
  refine T_bindE (laws_heldIntS.ev _ _ ?_) ?_
  · omega
  refine T_neg (by omega) ?_
  refine T_same (by simp) ?_
  refine T_bindE (laws_toPool.ev a0_0 a0_1 a0_2 a0_3 z_a0_2 z_a0_3) ?_
  refine T_bindE (impl_Expire.ev a0_0 a0_1 a0_2 a0_3 a1 z_a0_2 z_a0_3) ?_
  refine T_bindE (laws_eqPool.ev _ _ _ _ (by omega) (by omega)) ?_
  refine T_same rfl ?_
  refine T_bindE (laws_eqIntS.ev _ (by omega)) ?_
  refine T_same rfl ?_
  refine T_bindE (laws_heldPool.ev _ _ _ _ 1 ?_) ?_
  · omega
  refine T_neg (by omega) ?_
  refine T_bindE (laws_heldIntS.ev _ _ ?_) ?_
  · omega
  refine T_neg (by omega) ?_
  refine T_same (by simp) ?_
  exact T_ret rfl
end Go.Proofs.Ytfaeklomiofpdaa.DI.Pure
