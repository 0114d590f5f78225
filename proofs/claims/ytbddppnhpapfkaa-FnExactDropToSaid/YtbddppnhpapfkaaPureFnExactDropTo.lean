/- FnExactDropTo, the plain part: from some fuel on the law answers true. -/
import Derived.Test.YtbddppnhpapfkaaGoalFnExactDropTo
import Derived.Test.YtbddppnhpapfkaaKITE
namespace Go.Proofs.Ytbddppnhpapfkaa.DI.Pure
open Go Go.RowKit
set_option linter.unusedVariables false
theorem laws_szRouteS.ev (l : List (Int × Int × Int)) (a : Int) (h0 : 0 ≤ a) (h1 : a ≤ 1048576) (hl : l.length ≤ maxLen) : Tells F0 (fun k => laws_szRouteS.f k l a) (fun v => v < 0 ∨ (0 ≤ v ∧ v ≤ a ∧ l.length ≤ 1048576)) := by
  unfold maxLen at hl
  unfold laws_szRouteS.f
  rw [wr64 (x := a - (l.length : Int)) (by omega) (by omega)]
  exact T_dec (fun _ => T_ret (.inl (by omega))) (fun h => T_ret (.inr ⟨by omega, by omega, by omega⟩))
theorem laws_toPrefix.one (k : Nat) (c0 : Int) (c1 : Int) : laws_toPrefix.f k c0 c1 = some (c0, c1) := rfl
theorem laws_toRoute.one (k : Nat) (c0 : Int) (c1 : Int) (c2 : Int) : laws_toRoute.f k c0 c1 c2 = some (c0, c1, c2) := rfl
theorem laws_toRouteS.ev (l : List (Int × Int × Int)) (hn : l.length ≤ 1048576) : Tells F0 (fun k => laws_toRouteS.f k l) (· = l) := by
  have h := T_loop (F := F0) (fun k j i => laws_toRouteS.l0 k j ((i : Int), l, l.take i ++ List.replicate (l.length - i) ((0 : Int), (0 : Int), (0 : Int)))) l.length (fun _ r => r = l) (fun i hi he => by
    dsimp only [laws_toRouteS.l0, laws_toRouteS.s0]
    simp only [laws_toRoute.one, Int.toNat_natCast, Option.bind_some]
    refine T_pos (by omega) (T_get hi (T_get (by simp; omega) ?_))
    rw [wrs hi (by omega)]
    have e := set_copy l ((0 : Int), (0 : Int), (0 : Int)) i hi
    refine T_eq (fun x => congrArg (fun q => laws_toRouteS.l0 x.1 x.2 (((i + 1 : Nat) : Int), l, q)) e) he) (by
    dsimp only [laws_toRouteS.l0, laws_toRouteS.s0]
    exact T_neg (by omega) (T_ret (by simp))) 0 (Nat.zero_le _)
  unfold laws_toRouteS.f
  refine T_and (by omega) (by omega) (T_in (g := fun x j => laws_toRouteS.l0 x j _) ?_ (fun k => k) (fun _ _ h => h))
  simpa using h
theorem laws_eqPrefix.refl (k : Nat) (c0 : Int) (c1 : Int) : laws_eqPrefix.f k c0 c1 c0 c1 = some true := by simp [laws_eqPrefix.f]
theorem laws_eqRoute.refl (k : Nat) (c0 : Int) (c1 : Int) (c2 : Int) : laws_eqRoute.f k c0 c1 c2 c0 c1 c2 = some true := by simp [laws_eqRoute.f, laws_eqPrefix.refl]
theorem laws_eqRouteS.ev (l : List (Int × Int × Int)) (hn : l.length ≤ 1000000000000000000) : Tells F0 (fun k => laws_eqRouteS.f k l l) (· = true) := by
  have h := T_loop (F := F0) (fun k j i => laws_eqRouteS.l0 k j ((i : Int), l, l)) l.length (fun _ r => r = true) (fun i hi he => by
    dsimp only [laws_eqRouteS.l0, laws_eqRouteS.s0]
    simp only [Int.toNat_natCast]
    refine T_pos (by omega) (T_get hi (T_get hi ?_))
    simp only [laws_eqRoute.refl, Option.bind_some]
    refine T_same rfl ?_
    rw [wrs hi (by omega)]
    exact he) (by
    dsimp only [laws_eqRouteS.l0, laws_eqRouteS.s0]
    exact T_neg (by omega) (T_ret rfl)) 0 (Nat.zero_le _)
  unfold laws_eqRouteS.f
  exact T_same (by simp) (T_in (g := fun x j => laws_eqRouteS.l0 x j _) h (fun k => k) (fun _ _ h => h))
def mkd_Route (n m : Nat) : List (Int × Int × Int) := (List.range m).map fun i => (((n + 3 * i + 0 : Nat) : Int), ((n + 3 * i + 1 : Nat) : Int), ((n + 3 * i + 2 : Nat) : Int))
theorem laws_markRouteS.ev (l : List (Int × Int × Int)) (n : Nat) (hb : n + 3 * l.length ≤ 1000000000000000000) : Tells F0 (fun k => laws_markRouteS.f k l (n : Int)) (· = (((n + 3 * l.length : Nat) : Int), mkd_Route n l.length)) := by
  have hM : (mkd_Route n l.length).length = l.length := by simp [mkd_Route]
  have h := T_loop (F := F0) (fun k j i => laws_markRouteS.l0 k j (((n + 3 * i : Nat) : Int), (i : Int), (mkd_Route n l.length).take i ++ l.drop i)) l.length (fun _ r => r = (((n + 3 * l.length : Nat) : Int), mkd_Route n l.length)) (fun i hi he => by
    have hv : (mkd_Route n l.length)[i]? = some (((n + 3 * i + 0 : Nat) : Int), ((n + 3 * i + 1 : Nat) : Int), ((n + 3 * i + 2 : Nat) : Int)) := by simp [mkd_Route, hi]
    have hs := mark_step (mkd_Route n l.length) l i _ hM hi hv
    have hL : i < ((mkd_Route n l.length).take i ++ l.drop i).length := by simp; omega
    have w0 : IntKind.i64.wrap (((n + 3 * i : Nat) : Int) + 1) = ((n + 3 * i + 1 : Nat) : Int) := by rw [wr64 (by omega) (by omega)]; omega
    have w1 : IntKind.i64.wrap (((n + 3 * i + 1 : Nat) : Int) + 1) = ((n + 3 * i + 2 : Nat) : Int) := by rw [wr64 (by omega) (by omega)]; omega
    have w2 : IntKind.i64.wrap (((n + 3 * i + 2 : Nat) : Int) + 1) = ((n + 3 * (i + 1) : Nat) : Int) := by rw [wr64 (by omega) (by omega)]; omega
    dsimp only [laws_markRouteS.l0, laws_markRouteS.s0]
    simp only [Int.toNat_natCast, w0, w1, w2, wrs hi (show l.length ≤ 9223372036854775807 by omega)]
    refine T_pos (by omega) ?_
    repeat (first | (refine T_got (by simpa using hL) ?_) | (refine T_get hL ?_) | (refine T_bindE (T_call (laws_markText.ev (n + 3 * i) (by omega)) Prod.fst (fun _ _ h => h.1)) ?_) | (refine T_bindE (T_call (laws_markText.ev _ (by omega)) Prod.fst (fun _ _ h => h.1)) ?_))
    refine T_eq (fun x => congrArg (fun q => laws_markRouteS.l0 x.1 x.2 (((n + 3 * (i + 1) : Nat) : Int), ((i + 1 : Nat) : Int), q)) ?_) he
    simp only [List.set_set]
    exact hs) (by
    dsimp only [laws_markRouteS.l0, laws_markRouteS.s0]
    refine T_neg (by simp; omega) (T_ret ?_)
    rw [List.take_of_length_le (by omega), List.drop_length, List.append_nil]) 0 (Nat.zero_le _)
  unfold laws_markRouteS.f
  refine T_in (g := fun x j => laws_markRouteS.l0 x j _) ?_ (fun k => k) (fun _ _ h => h)
  simpa using h
theorem laws_heldRouteS.ev (m n : Nat) (hb : n + 3 * m ≤ 1000000000000000000) : Tells F0 (fun k => laws_heldRouteS.f k (mkd_Route n m) (n : Int)) (· = ((n + 3 * m : Nat) : Int)) := by
  have hM : (mkd_Route n m).length = m := by simp [mkd_Route]
  have h := T_loop (F := F0) (fun k j i => laws_heldRouteS.l0 k j (((n + 3 * i : Nat) : Int), (i : Int), mkd_Route n m)) m (fun _ r => r = ((n + 3 * m : Nat) : Int)) (fun i hi he => by
    have hL : i < (mkd_Route n m).length := by omega
    have hv : (mkd_Route n m)[i] = (((n + 3 * i + 0 : Nat) : Int), ((n + 3 * i + 1 : Nat) : Int), ((n + 3 * i + 2 : Nat) : Int)) := by simp [mkd_Route]
    have w0 : IntKind.i64.wrap (((n + 3 * i : Nat) : Int) + 1) = ((n + 3 * i + 1 : Nat) : Int) := by rw [wr64 (by omega) (by omega)]; omega
    have w1 : IntKind.i64.wrap (((n + 3 * i + 1 : Nat) : Int) + 1) = ((n + 3 * i + 2 : Nat) : Int) := by rw [wr64 (by omega) (by omega)]; omega
    have w2 : IntKind.i64.wrap (((n + 3 * i + 2 : Nat) : Int) + 1) = ((n + 3 * (i + 1) : Nat) : Int) := by rw [wr64 (by omega) (by omega)]; omega
    dsimp only [laws_heldRouteS.l0, laws_heldRouteS.s0]
    simp only [Int.toNat_natCast, w0, w1, w2, wrs hi (show m ≤ 9223372036854775807 by omega)]
    refine T_pos (by omega) ?_
    repeat (first | (refine T_get hL ?_; rw [hv]; dsimp only) | (refine T_bindE (T_call (laws_markText.ev (n + 3 * i) (by omega)) Prod.fst (fun _ _ h => h.1)) ?_) | (refine T_bindE (T_call (laws_markText.ev _ (by omega)) Prod.fst (fun _ _ h => h.1)) ?_) | (refine T_same (by simp) ?_))
    exact he) (by
    dsimp only [laws_heldRouteS.l0, laws_heldRouteS.s0]
    exact T_neg (by omega) (T_ret rfl)) 0 (Nat.zero_le _)
  unfold laws_heldRouteS.f
  exact T_in (g := fun x j => laws_heldRouteS.l0 x j _) (by simpa using h) (fun k => k) (fun _ _ h => h)
theorem take_filter_succ {α : Type} (p : α → Bool) (l : List α) (i : Nat) (h : i < l.length) : (l.take (i + 1)).filter p = (l.take i).filter p ++ (if p l[i] then [l[i]] else []) := by
  rw [List.take_succ_eq_append_getElem h, List.filter_append]
  cases e : p l[i] <;> simp [e]
theorem drop_get {α : Type} {l l' : List α} {j : Nat} (h : l'.drop j = l.drop j) (hj : j < l.length) (hj' : j < l'.length) : l'[j] = l[j] := by
  have := congrArg (fun x => x[0]?) h
  simp only [List.getElem?_drop, Nat.add_zero, List.getElem?_eq_getElem hj, List.getElem?_eq_getElem hj'] at this
  exact Option.some.inj this
theorem set_take_succ {α : Type} (l : List α) (i : Nat) (x : α) (h : i < l.length) : (l.set i x).take (i + 1) = l.take i ++ [x] := by
  rw [List.take_succ_eq_append_getElem (by simpa using h), List.take_set_of_le (Nat.le_refl _), List.getElem_set_self]

theorem impl_copyRoutes.ev (l : List (Int × Int × Int)) (h : l.length ≤ 1048576) : Tells F0 (fun k => impl_copyRoutes.f k l) (· = l) := by
  unfold impl_copyRoutes.f
  exact T_pos (by simp; omega) (T_ret rfl)

def impl_DropTo_1.p (c0 : Int) (x : Int × Int × Int) : Bool := (x.2.2 == c0)
theorem impl_DropTo_1.ev (k : Nat) (x : Int × Int × Int) (c0 : Int) : impl_DropTo_1.f k x.1 x.2.1 x.2.2 c0 = some (impl_DropTo_1.p c0 x, c0) := rfl
theorem slices_IndexFunc_impl_Route_impl_Route_f57_r.ev (l : List (Int × Int × Int)) (c0 : Int) (hn : l.length ≤ 1000000000000000000) : Tells F0 (fun k => slices_IndexFunc_impl_Route_impl_Route_f57_r.f k l c0) (· = (if l.findIdx (impl_DropTo_1.p c0) = l.length then (-1 : Int) else (l.findIdx (impl_DropTo_1.p c0) : Int), l, c0)) := by
  have h := T_loop (F := F0) (fun k j i => slices_IndexFunc_impl_Route_impl_Route_f57_r.l0 k j ((l.length : Int), (i : Int), l, c0)) l.length (fun i r => (∀ m (h : m < l.length), m < i → impl_DropTo_1.p c0 l[m] = false) → r = (if l.findIdx (impl_DropTo_1.p c0) = l.length then (-1 : Int) else (l.findIdx (impl_DropTo_1.p c0) : Int), l, c0)) (fun i hi he => by
    dsimp only [slices_IndexFunc_impl_Route_impl_Route_f57_r.l0, slices_IndexFunc_impl_Route_impl_Route_f57_r.s0]
    simp only [Int.toNat_natCast, impl_DropTo_1.ev, Option.bind_some]
    refine T_pos (by omega) (T_get hi (T_bif (fun hp => T_ret fun hm => ?_) fun hp => ?_))
    · have e : l.findIdx (impl_DropTo_1.p c0) = i := (List.findIdx_eq hi).2 ⟨hp, fun j hj => hm j (by omega) hj⟩
      rw [e, if_neg (by omega)]
    · rw [wrs hi (by omega)]
      refine T_mono he fun r hr hm => hr fun m h hmi => ?_
      by_cases e : m = i
      · subst e; exact hp
      · exact hm m h (by omega)) (by
    dsimp only [slices_IndexFunc_impl_Route_impl_Route_f57_r.l0, slices_IndexFunc_impl_Route_impl_Route_f57_r.s0]
    refine T_neg (by omega) (T_ret fun hm => ?_)
    have e : l.findIdx (impl_DropTo_1.p c0) = l.length := List.findIdx_eq_length.2 fun x hx => by
      obtain ⟨j, hj, rfl⟩ := List.mem_iff_getElem.1 hx
      exact hm j hj hj
    rw [if_pos e]) 0 (Nat.zero_le _)
  unfold slices_IndexFunc_impl_Route_impl_Route_f57_r.f
  exact T_in (g := fun x j => slices_IndexFunc_impl_Route_impl_Route_f57_r.l0 x j _) (T_mono h fun r hr => hr (fun m h hm => absurd hm (by omega))) (fun k => k) (fun _ _ h => h)
theorem slices_DeleteFunc_impl_Route_impl_Route_f57.ev (l : List (Int × Int × Int)) (c0 : Int) (hn : l.length ≤ 1000000000000000000) : Tells F0 (fun k => slices_DeleteFunc_impl_Route_impl_Route_f57.f k l c0) (· = (l.filter (fun x => !impl_DropTo_1.p c0 x), c0)) := by
  have h := T_loops (F := F0) (fun k j (s : Int × List (Int × Int × Int)) i => slices_DeleteFunc_impl_Route_impl_Route_f57.l0 k j (s.1, (i : Int), c0, s.2)) l.length
    (fun j s => ∃ i : Nat, s.1 = (i : Int) ∧ i ≤ j ∧ s.2.length = l.length ∧ s.2.take i = (l.take j).filter (fun x => !impl_DropTo_1.p c0 x) ∧ s.2.drop j = l.drop j) (fun _ _ r => r = (l.filter (fun x => !impl_DropTo_1.p c0 x), c0)) (fun j s hj hs he => by
    obtain ⟨s1, l'⟩ := s
    obtain ⟨i, e1, hij, hl, ht, hd⟩ := hs
    simp only at e1 hl ht hd
    subst e1
    dsimp only [slices_DeleteFunc_impl_Route_impl_Route_f57.l0, slices_DeleteFunc_impl_Route_impl_Route_f57.s0]
    simp only [Int.toNat_natCast, impl_DropTo_1.ev, Option.bind_some]
    have hj' : j < l'.length := by omega
    have hx := drop_get hd hj hj'
    have hd2 : l'.drop (j + 1) = l.drop (j + 1) := by rw [← List.drop_drop, ← List.drop_drop, hd]
    refine T_pos (by omega) (T_get hj' ?_)
    rw [hx]
    refine T_bif (fun hp => T_get (by omega : i < l'.length) ?_) fun hp => ?_
    · rw [wrs hj (by omega), wrs (show i < l.length by omega) (by omega)]
      refine he (((i + 1 : Nat) : Int), l'.set i l[j]) ⟨i + 1, rfl, by omega, by simpa using hl, ?_, ?_⟩
      · simp only
        rw [set_take_succ _ _ _ (by omega), ht, take_filter_succ _ _ _ hj, if_pos hp]
      · simp only
        rw [List.drop_set_of_lt (by omega), hd2]
    · rw [wrs hj (by omega)]
      refine he ((i : Int), l') ⟨i, rfl, by omega, hl, ?_, hd2⟩
      simp only
      rw [ht, take_filter_succ _ _ _ hj, if_neg (by simpa using hp), List.append_nil]) (fun s hs => by
    obtain ⟨s1, l'⟩ := s
    obtain ⟨i, e1, hij, hl, ht, hd⟩ := hs
    simp only at e1 hl ht hd
    subst e1
    dsimp only [slices_DeleteFunc_impl_Route_impl_Route_f57.l0, slices_DeleteFunc_impl_Route_impl_Route_f57.s0]
    simp only [Int.toNat_natCast]
    refine T_neg (by omega) (T_and (by omega) (by omega) (T_and (by omega) (by simp; omega) (T_ret ?_)))
    have h1 : (l'.take i).length = i := by simp; omega
    rw [List.take_append_of_le_length (by omega), List.take_take, Nat.min_self, ht, List.take_length])
  unfold slices_DeleteFunc_impl_Route_impl_Route_f57.f
  refine T_bindE (slices_IndexFunc_impl_Route_impl_Route_f57_r.ev l c0 hn) ?_
  dsimp only
  by_cases e : l.findIdx (impl_DropTo_1.p c0) = l.length
  · rw [if_pos e]
    refine T_true rfl (T_ret ?_)
    have := List.findIdx_eq_length.1 e
    rw [List.filter_eq_self.2 fun x hx => by simp [this x hx]]
  · rw [if_neg e]
    have hlt : l.findIdx (impl_DropTo_1.p c0) < l.length := by have := List.findIdx_le_length (xs := l) (p := impl_DropTo_1.p c0); omega
    obtain ⟨hp, hm⟩ := (List.findIdx_eq hlt).1 rfl
    refine T_false (by simp) ?_
    rw [wrs hlt (by omega)]
    refine T_in (g := fun x j => slices_DeleteFunc_impl_Route_impl_Route_f57.l0 x j _) (h (l.findIdx (impl_DropTo_1.p c0) + 1) ((l.findIdx (impl_DropTo_1.p c0) : Int), l) (by omega) ⟨l.findIdx (impl_DropTo_1.p c0), rfl, by omega, rfl, ?_, rfl⟩) (fun k => k) (fun _ _ h => h)
    simp only
    rw [take_filter_succ _ _ _ hlt, if_neg (by simp [hp]), List.append_nil]
    refine (List.filter_eq_self.2 fun x hx => ?_).symm
    obtain ⟨j, hj, rfl⟩ := List.mem_iff_getElem.1 hx
    have hj2 : j < l.findIdx (impl_DropTo_1.p c0) := by simp at hj; omega
    rw [List.getElem_take]
    simp [hm j hj2]
theorem impl_DropTo.ev (l : List (Int × Int × Int)) (to : Int) (h : l.length ≤ 1048576) : Tells F0 (fun k => impl_DropTo.f k l to) (· = l.filter (fun x => !(x.2.2 == to))) := by
  unfold impl_DropTo.f
  refine T_bindE (impl_copyRoutes.ev l h) ?_
  refine T_bindE (slices_DeleteFunc_impl_Route_impl_Route_f57.ev _ to (by omega)) ?_
  exact T_ret rfl
theorem spec_DropTo.ev (l : List (Int × Int × Int)) (to : Int) (h : l.length ≤ 1048576) : Tells F0 (fun k => spec_DropTo.f k l to) (· = l.filter (fun x => !(x.2.2 == to))) := by
  have h := T_loop (F := F0) (fun k j i => spec_DropTo.l0 k j (to, (i : Int), l, (l.take i).filter (fun x => !(x.2.2 == to)))) l.length (fun _ r => r = l.filter (fun x => !(x.2.2 == to))) (fun i hi he => by
    dsimp only [spec_DropTo.l0, spec_DropTo.s0]
    simp only [Int.toNat_natCast]
    rw [wrs hi (by omega)]
    rw [take_filter_succ _ _ _ hi] at he
    refine T_pos (by omega) (T_get hi (T_bne (fun e => T_get hi (T_pos ?_ ?_)) fun e => ?_))
    · have := List.length_filter_le (fun x : Int × Int × Int => !(x.2.2 == to)) (l.take i)
      simp at this ⊢
      omega
    · rw [if_pos (by simpa using e)] at he; exact he
    · rw [if_neg (by simpa using e), List.append_nil] at he; exact he) (by
    dsimp only [spec_DropTo.l0, spec_DropTo.s0]
    exact T_neg (by omega) (T_ret (by rw [List.take_length]))) 0 (Nat.zero_le _)
  unfold spec_DropTo.f
  exact T_in (g := fun x j => spec_DropTo.l0 x j _) (by simpa using h) (fun k => k) (fun _ _ h => h)


theorem FnExactDropTo : laws_FnExactDropTo.Goal := by
  intro a0 a1 g_a0 g_a1
  replace g_a0 : a0.length ≤ maxLen ∧ True := ⟨g_a0.1, trivial⟩
  replace g_a1 := wf64 g_a1
  refine Tells.rounds ?_
  unfold laws_FnExactDropTo.f
  refine T_bind (laws_szRouteS.ev a0 _ (by omega) (by omega) g_a0.1) fun v1 q1 => T_dec (fun _ => T_ret rfl) fun e1 => ?_
  obtain ⟨_, _, z_a0⟩ := q1.resolve_left (by omega)
  have b0 : (a0.filter (fun x => !(x.2.2 == a1))).length ≤ 1048576 := Nat.le_trans (List.length_filter_le _ _) z_a0
  refine T_bindE (laws_toRouteS.ev a0 z_a0) ?_
  refine T_bindE (spec_DropTo.ev a0 a1 z_a0) ?_
  refine T_bindE (laws_toRouteS.ev a0 z_a0) ?_
  refine T_bindE (impl_DropTo.ev a0 a1 z_a0) ?_
  refine T_bindE (laws_eqRouteS.ev _ (by omega)) ?_
  refine T_same rfl ?_
  refine T_bindE (laws_toRouteS.ev a0 z_a0) ?_
  refine T_bindE (laws_eqRouteS.ev a0 (by omega)) ?_
  refine T_same rfl ?_
  refine T_bindE (laws_markRouteS.ev a0 (1) (by omega)) ?_
  refine T_neg (by omega) ?_
  refine T_bindE (laws_eqRouteS.ev _ (by omega)) ?_
  refine T_same rfl ?_
  refine T_bindE (laws_markRouteS.ev _ 1 ?_) ?_
  · omega
  refine T_bindE (laws_heldRouteS.ev _ 1 ?_) ?_
  · omega
  refine T_neg (by omega) ?_
  refine T_same (by simp) ?_
  refine T_bindE (laws_toRouteS.ev a0 z_a0) ?_
  refine T_bindE (impl_DropTo.ev a0 a1 z_a0) ?_
  refine T_bindE (laws_eqRouteS.ev _ (by omega)) ?_
  refine T_same rfl ?_
  refine T_bindE (laws_heldRouteS.ev _ 1 ?_) ?_
  · omega
  refine T_neg (by omega) ?_
  refine T_same (by simp) ?_
  exact T_ret rfl
end Go.Proofs.Ytbddppnhpapfkaa.DI.Pure
