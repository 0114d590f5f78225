/- Machine proofs of Go functions, part x7: began as a text that the kit's print wrote, turned by hand. -/
import Derived.Test.YtbddppnhpapfkaaZFnExactTriePutMFnExactTriePutx0
import Derived.Test.YtbddppnhpapfkaaZFnExactTriePutMFnExactTriePutx1
import Derived.Test.YtbddppnhpapfkaaZFnExactTriePutMFnExactTriePutx3
import Derived.Test.YtbddppnhpapfkaaZFnExactTriePutMFnExactTriePutx5
import Derived.Test.YtbddppnhpapfkaaZFnExactTriePutMFnExactTriePutx6
namespace Go.Proofs.Ytbddppnhpapfkaa.PFnExactTriePut
open Go.RowKit Go.Proofs.YtbddppnhpapfkaaW.PrintWords Go.Proofs.YtbddppnhpapfkaaW.PrintLast Go.Proofs.YtbddppnhpapfkaaW.PrintMore
attribute [local go_sem] max2_int min2_int max_two min_two max_three min_three max_four min_four   -- for this text's walks alone
set_option linter.unusedVariables false
set_option linter.unusedSimpArgs false

/-! ### laws_FnExactTriePut: function 11 -/
mutual
def laws_FnExactTriePut.j0 : Nat → Int → Bool → Bool → Bool → List (S132) → Int → Int → List (S104) → List (S104) → List (S104) → Option (Bool)
  | 0, _, _, _, _, _, _, _, _, _, _ => none
  | k + 1, x2, x9, x12, x50, x254000, x255000, x255001, x266000, x270000, x277000 => if x50 = true then (some false) else ((laws_toTrie.f k x254000).bind fun t278 => ((laws_eqTrie.f k x270000 t278).bind fun t281 => (if t281 = true then ((laws_markTrie.f k x270000 1).bind fun bt282 => (if bt282.1 < 0 then (laws_FnExactTriePut.j1 k x2 x9 true x254000 x255000 x255001 x266000 x277000) else ((laws_eqTrie.f k x277000 x266000).bind fun t284 => (if t284 = true then (laws_FnExactTriePut.j1 k x2 x9 (x12 != x9) x254000 x255000 x255001 x266000 x277000) else (laws_FnExactTriePut.j1 k x2 x9 true x254000 x255000 x255001 x266000 x277000))))) else (some false))))
def laws_FnExactTriePut.j1 : Nat → Int → Bool → Bool → List (S132) → Int → Int → List (S104) → List (S104) → Option (Bool)
  | 0, _, _, _, _, _, _, _, _ => none
  | k + 1, x2, x9, x71, x254000, x255000, x255001, x266000, x277000 => if x71 = true then (some false) else ((laws_markTrie.f k x277000 1).bind fun bt285 => ((laws_heldTrie.f k bt285.2 1).bind fun t287 => (if t287 < 0 then (some false) else (if t287 = bt285.1 then ((laws_toTrie.f k x254000).bind fun t288 => ((laws_toPrefix.f x255000 x255001).bind fun bt291 => ((impl_TriePut.f k t288 bt291.1 bt291.2 x2).bind fun bt293 => ((laws_eqTrie.f k bt293.1 x266000).bind fun t298 => (if t298 = true then (laws_FnExactTriePut.j2 k bt285.1 (bt293.2 != x9) bt285.2) else (laws_FnExactTriePut.j2 k bt285.1 true bt285.2)))))) else (some false)))))
def laws_FnExactTriePut.j2 : Nat → Int → Bool → List (S104) → Option (Bool)
  | 0, _, _, _ => none
  | k + 1, x14, x100, x277000 => if x100 = true then (some false) else ((laws_heldTrie.f k x277000 1).bind fun t299 => (if t299 < 0 then (some false) else (if t299 = x14 then (some true) else (some false))))
end
def laws_FnExactTriePut.f (k : Nat) (l0_0 : List (S132)) (a1_0 : Int) (a1_1 : Int) (a2 : Int) : Option (Bool) := (laws_szTrie.f l0_0 1048576).bind fun t255 => (if t255 < 0 then (some true) else ((laws_toTrie.f k l0_0).bind fun t256 => ((laws_toPrefix.f a1_0 a1_1).bind fun bt259 => ((spec_TriePut.f k t256 bt259.1 bt259.2 a2).bind fun bt261 => ((laws_toTrie.f k l0_0).bind fun t266 => ((laws_toPrefix.f a1_0 a1_1).bind fun bt270 => ((impl_TriePut.f k t266 bt270.1 bt270.2 a2).bind fun bt272 => ((laws_eqTrie.f k bt272.1 bt261.1).bind fun t277 => (if t277 = true then (laws_FnExactTriePut.j0 k a2 bt261.2 bt272.2 (bt272.2 != bt261.2) l0_0 a1_0 a1_1 bt261.1 t266 bt272.1) else (laws_FnExactTriePut.j0 k a2 bt261.2 bt272.2 true l0_0 a1_0 a1_1 bt261.1 t266 bt272.1))))))))))
theorem laws_FnExactTriePut.mono_l : ∀ k, (∀ y0 y1 y2 y3 y4 y5 y6 y7 y8 y9, LeO (laws_FnExactTriePut.j0 k y0 y1 y2 y3 y4 y5 y6 y7 y8 y9) (laws_FnExactTriePut.j0 (k + 1) y0 y1 y2 y3 y4 y5 y6 y7 y8 y9)) ∧ (∀ y0 y1 y2 y3 y4 y5 y6 y7, LeO (laws_FnExactTriePut.j1 k y0 y1 y2 y3 y4 y5 y6 y7) (laws_FnExactTriePut.j1 (k + 1) y0 y1 y2 y3 y4 y5 y6 y7)) ∧ (∀ y0 y1 y2, LeO (laws_FnExactTriePut.j2 k y0 y1 y2) (laws_FnExactTriePut.j2 (k + 1) y0 y1 y2))
  | 0 => ⟨fun _ _ _ _ _ _ _ _ _ _ r h => by simp [laws_FnExactTriePut.j0] at h, fun _ _ _ _ _ _ _ _ r h => by simp [laws_FnExactTriePut.j1] at h, fun _ _ _ r h => by simp [laws_FnExactTriePut.j2] at h⟩
  | k + 1 => by
    obtain ⟨ih0, ih1, ih2⟩ := laws_FnExactTriePut.mono_l k
    refine ⟨?_, ?_, ?_⟩
    · intro y0 y1 y2 y3 y4 y5 y6 y7 y8 y9
      unfold laws_FnExactTriePut.j0
      repeat' first
      | (with_reducible exact ih0 _ _ _ _ _ _ _ _ _ _)
      | (with_reducible exact ih1 _ _ _ _ _ _ _ _)
      | (with_reducible exact ih2 _ _ _)
      | (with_reducible exact impl_TriePut.mono _ _ _ _ _)
      | (with_reducible exact laws_eqTrie.mono _ _ _)
      | (with_reducible exact laws_heldTrie.mono _ _ _)
      | (with_reducible exact laws_markTrie.mono _ _ _)
      | (with_reducible exact laws_toTrie.mono _ _)
      | (with_reducible exact spec_TriePut.mono _ _ _ _ _)
      | (with_reducible exact LeO.refl _)
      | (with_reducible exact LeO.none _)
      | (with_reducible refine LeO.ite ?_ ?_)
      | (with_reducible refine LeO.bind ?_ (fun _ => ?_))
      | exact ih0 _ _ _ _ _ _ _ _ _ _
      | exact ih1 _ _ _ _ _ _ _ _
      | exact ih2 _ _ _
      | exact impl_TriePut.mono _ _ _ _ _
      | exact laws_eqTrie.mono _ _ _
      | exact laws_heldTrie.mono _ _ _
      | exact laws_markTrie.mono _ _ _
      | exact laws_toTrie.mono _ _
      | exact spec_TriePut.mono _ _ _ _ _
      | exact LeO.none _
      | refine LeO.ite ?_ ?_
      | refine LeO.bind ?_ (fun _ => ?_)
    · intro y0 y1 y2 y3 y4 y5 y6 y7
      unfold laws_FnExactTriePut.j1
      repeat' first
      | (with_reducible exact ih0 _ _ _ _ _ _ _ _ _ _)
      | (with_reducible exact ih1 _ _ _ _ _ _ _ _)
      | (with_reducible exact ih2 _ _ _)
      | (with_reducible exact impl_TriePut.mono _ _ _ _ _)
      | (with_reducible exact laws_eqTrie.mono _ _ _)
      | (with_reducible exact laws_heldTrie.mono _ _ _)
      | (with_reducible exact laws_markTrie.mono _ _ _)
      | (with_reducible exact laws_toTrie.mono _ _)
      | (with_reducible exact spec_TriePut.mono _ _ _ _ _)
      | (with_reducible exact LeO.refl _)
      | (with_reducible exact LeO.none _)
      | (with_reducible refine LeO.ite ?_ ?_)
      | (with_reducible refine LeO.bind ?_ (fun _ => ?_))
      | exact ih0 _ _ _ _ _ _ _ _ _ _
      | exact ih1 _ _ _ _ _ _ _ _
      | exact ih2 _ _ _
      | exact impl_TriePut.mono _ _ _ _ _
      | exact laws_eqTrie.mono _ _ _
      | exact laws_heldTrie.mono _ _ _
      | exact laws_markTrie.mono _ _ _
      | exact laws_toTrie.mono _ _
      | exact spec_TriePut.mono _ _ _ _ _
      | exact LeO.none _
      | refine LeO.ite ?_ ?_
      | refine LeO.bind ?_ (fun _ => ?_)
    · intro y0 y1 y2
      unfold laws_FnExactTriePut.j2
      repeat' first
      | (with_reducible exact ih0 _ _ _ _ _ _ _ _ _ _)
      | (with_reducible exact ih1 _ _ _ _ _ _ _ _)
      | (with_reducible exact ih2 _ _ _)
      | (with_reducible exact impl_TriePut.mono _ _ _ _ _)
      | (with_reducible exact laws_eqTrie.mono _ _ _)
      | (with_reducible exact laws_heldTrie.mono _ _ _)
      | (with_reducible exact laws_markTrie.mono _ _ _)
      | (with_reducible exact laws_toTrie.mono _ _)
      | (with_reducible exact spec_TriePut.mono _ _ _ _ _)
      | (with_reducible exact LeO.refl _)
      | (with_reducible exact LeO.none _)
      | (with_reducible refine LeO.ite ?_ ?_)
      | (with_reducible refine LeO.bind ?_ (fun _ => ?_))
      | exact ih0 _ _ _ _ _ _ _ _ _ _
      | exact ih1 _ _ _ _ _ _ _ _
      | exact ih2 _ _ _
      | exact impl_TriePut.mono _ _ _ _ _
      | exact laws_eqTrie.mono _ _ _
      | exact laws_heldTrie.mono _ _ _
      | exact laws_markTrie.mono _ _ _
      | exact laws_toTrie.mono _ _
      | exact spec_TriePut.mono _ _ _ _ _
      | exact LeO.none _
      | refine LeO.ite ?_ ?_
      | refine LeO.bind ?_ (fun _ => ?_)
theorem laws_FnExactTriePut.mono : ∀ a0 a1 a2 a3 k, LeO (laws_FnExactTriePut.f k a0 a1 a2 a3) (laws_FnExactTriePut.f (k + 1) a0 a1 a2 a3) := by
  intro a0 a1 a2 a3 k
  obtain ⟨ih0, ih1, ih2⟩ := laws_FnExactTriePut.mono_l k
  unfold laws_FnExactTriePut.f
  repeat' first
      | (with_reducible exact ih0 _ _ _ _ _ _ _ _ _ _)
      | (with_reducible exact ih1 _ _ _ _ _ _ _ _)
      | (with_reducible exact ih2 _ _ _)
      | (with_reducible exact impl_TriePut.mono _ _ _ _ _)
      | (with_reducible exact laws_eqTrie.mono _ _ _)
      | (with_reducible exact laws_heldTrie.mono _ _ _)
      | (with_reducible exact laws_markTrie.mono _ _ _)
      | (with_reducible exact laws_toTrie.mono _ _)
      | (with_reducible exact spec_TriePut.mono _ _ _ _ _)
      | (with_reducible exact LeO.refl _)
      | (with_reducible exact LeO.none _)
      | (with_reducible refine LeO.ite ?_ ?_)
      | (with_reducible refine LeO.bind ?_ (fun _ => ?_))
      | exact ih0 _ _ _ _ _ _ _ _ _ _
      | exact ih1 _ _ _ _ _ _ _ _
      | exact ih2 _ _ _
      | exact impl_TriePut.mono _ _ _ _ _
      | exact laws_eqTrie.mono _ _ _
      | exact laws_heldTrie.mono _ _ _
      | exact laws_markTrie.mono _ _ _
      | exact laws_toTrie.mono _ _
      | exact spec_TriePut.mono _ _ _ _ _
      | exact LeO.none _
      | refine LeO.ite ?_ ?_
      | refine LeO.bind ?_ (fun _ => ?_)
def laws_FnExactTriePut.T5 : Bool × List (List Nat × List Nat) := (true, [([], []), ([0], [0]), ([], []), ([2, 1], [2]), ([], []), ([1, 3, 4, 3], [1, 3, 4]), ([5], [5]), ([6], [6]), ([6], [6]), ([], []), ([9, 7, 5, 0, 1, 2, 3, 4, 5, 6, 7, 9], [7, 9]), ([8, 10, 0, 1, 2, 3, 4, 5, 6, 7, 8, 9, 10], [8])])
def laws_FnExactTriePut.B5 : List Nat := [0, 1, 0, 7, 0, 31, 63, 127, 127, 0, 767, 2047]
theorem laws_FnExactTriePut.tab5 : rtab .any (opsOf Try.f11 5) = laws_FnExactTriePut.T5 := by kernel_rfl
theorem laws_FnExactTriePut.bits5 : waitsOk laws_FnExactTriePut.T5.2 laws_FnExactTriePut.B5 = true := by kernel_rfl
def laws_FnExactTriePut.T7 : Bool × List (List Nat × List Nat) := (true, [([], []), ([], []), ([1], [1]), ([], []), ([0, 2, 3, 2], [0, 2, 3]), ([4], [4]), ([5], [5]), ([5], [5]), ([], []), ([8, 6, 4, 0, 1, 2, 3, 4, 5, 6, 8], [6, 8]), ([7, 9, 0, 1, 2, 3, 4, 5, 6, 7, 8, 9], [7])])
def laws_FnExactTriePut.B7 : List Nat := [0, 0, 2, 0, 15, 31, 63, 63, 0, 383, 1023]
theorem laws_FnExactTriePut.tab7 : rtab .any (opsOf Try.f11 7) = laws_FnExactTriePut.T7 := by kernel_rfl
theorem laws_FnExactTriePut.bits7 : waitsOk laws_FnExactTriePut.T7.2 laws_FnExactTriePut.B7 = true := by kernel_rfl
def laws_FnExactTriePut.T24 : Bool × List (List Nat × List Nat) := (true, [([], []), ([0], [0]), ([], []), ([2, 1], [2]), ([], []), ([1, 3, 4, 3], [1, 3, 4]), ([5], [5]), ([6], [6]), ([6], [6]), ([], []), ([9, 7, 5, 0, 1, 2, 3, 4, 5, 6, 7, 9], [7, 9]), ([8, 10, 0, 1, 2, 3, 4, 5, 6, 7, 8, 9, 10], [8])])
def laws_FnExactTriePut.B24 : List Nat := [0, 1, 0, 7, 0, 31, 63, 127, 127, 0, 767, 2047]
theorem laws_FnExactTriePut.tab24 : rtab .any (opsOf Try.f11 24) = laws_FnExactTriePut.T24 := by kernel_rfl
theorem laws_FnExactTriePut.bits24 : waitsOk laws_FnExactTriePut.T24.2 laws_FnExactTriePut.B24 = true := by kernel_rfl
set_option maxHeartbeats 8000000 in
set_option maxRecDepth 100000 in
theorem laws_FnExactTriePut.calls (k : Nat) (A0_0 : Option Addr) (c0_0 : Nat) (l0_0 : List (S132)) (a1_0 : Int) (a1_1 : Int) (a2 : Int) (r : Bool) (w : World) (hr0_0 : Kd.C k132 w A0_0 l0_0.length l0_0) (hc0_0 : l0_0.length ≤ c0_0) (h : laws_FnExactTriePut.f k l0_0 a1_0 a1_1 a2 = some r) :
    Calls Try.prog 11 #[.agg #[.slice A0_0 l0_0.length c0_0], .agg #[.int .i64 a1_0, .int .i64 a1_1], .int .i64 a2] w fun e w' => e = .returned (.bool r) ∧ Below w.heap.size w w' := by
  have hu50 := Try.underlying50
  have hu33 := Try.underlying33
  have hu55 := Try.underlying55
  have HR0_0 := Aside0.mk hr0_0
  have HC0_0 := Aside0.mk hc0_0
  clear hr0_0 hc0_0
  have HB := Aside0.mk (Below.refl w.heap.size w)
  have H : ((laws_szTrie.f l0_0 1048576).bind fun t255 => (if t255 < 0 then (some true) else ((laws_toTrie.f k l0_0).bind fun t256 => ((laws_toPrefix.f a1_0 a1_1).bind fun bt259 => ((spec_TriePut.f k t256 bt259.1 bt259.2 a2).bind fun bt261 => ((laws_toTrie.f k l0_0).bind fun t266 => ((laws_toPrefix.f a1_0 a1_1).bind fun bt270 => ((impl_TriePut.f k t266 bt270.1 bt270.2 a2).bind fun bt272 => ((laws_eqTrie.f k bt272.1 bt261.1).bind fun t277 => (if t277 = true then (laws_FnExactTriePut.j0 k a2 bt261.2 bt272.2 (bt272.2 != bt261.2) l0_0 a1_0 a1_1 bt261.1 t266 bt272.1) else (laws_FnExactTriePut.j0 k a2 bt261.2 bt272.2 true l0_0 a1_0 a1_1 bt261.1 t266 bt272.1))))))))))) = some r := h
  clear h
  replace H := Option.bind_eq_some_iff.mp H
  obtain ⟨t255, A40, H⟩ := H
  replace H : (if t255 < 0 then (some true) else ((laws_toTrie.f k l0_0).bind fun t256 => ((laws_toPrefix.f a1_0 a1_1).bind fun bt259 => ((spec_TriePut.f k t256 bt259.1 bt259.2 a2).bind fun bt261 => ((laws_toTrie.f k l0_0).bind fun t266 => ((laws_toPrefix.f a1_0 a1_1).bind fun bt270 => ((impl_TriePut.f k t266 bt270.1 bt270.2 a2).bind fun bt272 => ((laws_eqTrie.f k bt272.1 bt261.1).bind fun t277 => (if t277 = true then (laws_FnExactTriePut.j0 k a2 bt261.2 bt272.2 (bt272.2 != bt261.2) l0_0 a1_0 a1_1 bt261.1 t266 bt272.1) else (laws_FnExactTriePut.j0 k a2 bt261.2 bt272.2 true l0_0 a1_0 a1_1 bt261.1 t266 bt272.1)))))))))) = some r := H
  have A4 := Aside0.mk A40
  clear A40
  by_cases c5 : t255 < 0
  · rw [if_pos c5] at H
    have c5b0 : decide (t255 < 0) = true := decide_eq_true c5
    clear c5
    obtain rfl := Option.some.inj H
    go_enter Try.func11, Try.ntmps11
    go_wp2_with (first | ((with_reducible refine gate_dst (N := 3) rfl ?_); refine box_event ?hg (N := 3) ?hd (cs := #[.slice A0_0 l0_0.length c0_0]) (t := 50) ?hr ?_; (case hd => rfl); (case hg => rfl); (case hr => first | (go_simp; done) | (go_simp; rfl)); intro gb253 hg w6 hbox hb; have BK253 := Aside0.mk (hbox); have GW253 := Aside0.mk ((by rw [hg]; exact (below_size (zh HB)) : w.heap.size ≤ gb253)); have GE253 := Aside0.mk ((by rw [hg]; exact (below_size (zh HB)) : w.heap.size ≤ gb253)); replace HB := Aside0.mk (below_step (zh HB) hb); clear hb hbox hg) | ((with_reducible refine gate_dst (N := 4) rfl ?_); refine box_event ?hg (N := 4) ?hd (cs := #[.int .i64 a1_0, .int .i64 a1_1]) (t := 33) ?hr ?_; (case hd => rfl); (case hg => rfl); (case hr => first | (go_simp; done) | (go_simp; rfl)); intro gb254 hg w7 hbox hb; have BK254 := Aside0.mk (hbox); have GW254 := Aside0.mk ((by rw [hg]; exact (below_size (zh1 HB GE253)) : w.heap.size ≤ gb254)); have GE254 := Aside0.mk ((by rw [hg]; exact (below_size (zh1 HB GE253)) : w.heap.size ≤ gb254)); replace HB := Aside0.mk (below_step (zh1 HB GE253) hb); have NB253_254 := Aside0.mk ((by rw [hg]; exact Nat.ne_of_lt (blk_lt (g := gb253) (o := .cells #[.slice A0_0 l0_0.length c0_0] 50 (0, 0)) (zb BK253)) : gb253 ≠ gb254)); have NB254_253 := Aside0.mk ((by rw [hg]; exact Nat.ne_of_gt (blk_lt (g := gb253) (o := .cells #[.slice A0_0 l0_0.length c0_0] 50 (0, 0)) (zb BK253)) : gb254 ≠ gb253)); replace BK253 := zk BK253 hb; clear hb hbox hg; have hnb8 := NB253_254.out; have hnc8 := NB254_253.out; have hcz9_0 : w7.cell? ⟨gb253, 0, none⟩ = some (.slice A0_0 l0_0.length c0_0) := (blk_cell BK253.out 0).trans rfl; have hfz9_0 := blk_frozen BK253.out 0) | ((with_reducible refine gate_callee (f := 31) rfl ?_); refine goesL_ (some 20) rfl rfl Try.func31 (by kernel_rfl) rfl #[.agg #[.slice A0_0 l0_0.length c0_0], .int .i64 1048576] rfl (by (try simp only [List.map_toArray, List.map_cons, List.map_nil]); first | done | rfl | (simp only [List.length_drop, List.length_take]; rfl)) ?_; (with_reducible refine (laws_szTrie.calls _ _ l0_0 1048576 t255 _ ?side1 ?side2 A4.out).mono ?_); (case side1 => repeat (first | exact (Kd.C_below HR0_0.out HB.out) | (with_reducible refine Kd.C_alloc ?_ _) | (with_reducible refine Kd.C_drewN ?_ _) | (with_reducible refine Kd.C_drew ?_))); (case side2 => exact HC0_0.out); rintro e w10 ⟨rfl, hb⟩; refine ⟨_, rfl, ?_⟩; replace BK253 := zk BK253 hb; replace BK254 := zk BK254 hb; replace HB := Aside0.mk (below_step (zh2 HB GE253 GE254) hb); (try clear hb); (try clear hb2); (try clear hk); (try clear hi)))
    go_ret
    exact ⟨by first | rfl | (simp [errW_none, errW_some] <;> rfl) | (simp [*, errW_none, errW_some] <;> rfl), zh2 HB GE253 GE254⟩
  · rw [if_neg c5] at H
    have c5b0 : decide (t255 < 0) = false := decide_eq_false c5
    clear c5
    replace H := Option.bind_eq_some_iff.mp H
    obtain ⟨t256, A110, H⟩ := H
    replace H : ((laws_toPrefix.f a1_0 a1_1).bind fun bt259 => ((spec_TriePut.f k t256 bt259.1 bt259.2 a2).bind fun bt261 => ((laws_toTrie.f k l0_0).bind fun t266 => ((laws_toPrefix.f a1_0 a1_1).bind fun bt270 => ((impl_TriePut.f k t266 bt270.1 bt270.2 a2).bind fun bt272 => ((laws_eqTrie.f k bt272.1 bt261.1).bind fun t277 => (if t277 = true then (laws_FnExactTriePut.j0 k a2 bt261.2 bt272.2 (bt272.2 != bt261.2) l0_0 a1_0 a1_1 bt261.1 t266 bt272.1) else (laws_FnExactTriePut.j0 k a2 bt261.2 bt272.2 true l0_0 a1_0 a1_1 bt261.1 t266 bt272.1)))))))) = some r := H
    have A11 := Aside0.mk A110
    clear A110
    replace H := Option.bind_eq_some_iff.mp H
    obtain ⟨⟨t259, t260⟩, A120, H⟩ := H
    replace H : ((spec_TriePut.f k t256 t259 t260 a2).bind fun bt261 => ((laws_toTrie.f k l0_0).bind fun t266 => ((laws_toPrefix.f a1_0 a1_1).bind fun bt270 => ((impl_TriePut.f k t266 bt270.1 bt270.2 a2).bind fun bt272 => ((laws_eqTrie.f k bt272.1 bt261.1).bind fun t277 => (if t277 = true then (laws_FnExactTriePut.j0 k a2 bt261.2 bt272.2 (bt272.2 != bt261.2) l0_0 a1_0 a1_1 bt261.1 t266 bt272.1) else (laws_FnExactTriePut.j0 k a2 bt261.2 bt272.2 true l0_0 a1_0 a1_1 bt261.1 t266 bt272.1))))))) = some r := H
    have A12 := Aside0.mk A120
    clear A120
    replace H := Option.bind_eq_some_iff.mp H
    obtain ⟨⟨t261, t264⟩, A130, H⟩ := H
    replace H : ((laws_toTrie.f k l0_0).bind fun t266 => ((laws_toPrefix.f a1_0 a1_1).bind fun bt270 => ((impl_TriePut.f k t266 bt270.1 bt270.2 a2).bind fun bt272 => ((laws_eqTrie.f k bt272.1 t261).bind fun t277 => (if t277 = true then (laws_FnExactTriePut.j0 k a2 t264 bt272.2 (bt272.2 != t264) l0_0 a1_0 a1_1 t261 t266 bt272.1) else (laws_FnExactTriePut.j0 k a2 t264 bt272.2 true l0_0 a1_0 a1_1 t261 t266 bt272.1)))))) = some r := H
    have A13 := Aside0.mk A130
    clear A130
    replace H := Option.bind_eq_some_iff.mp H
    obtain ⟨t266, A140, H⟩ := H
    replace H : ((laws_toPrefix.f a1_0 a1_1).bind fun bt270 => ((impl_TriePut.f k t266 bt270.1 bt270.2 a2).bind fun bt272 => ((laws_eqTrie.f k bt272.1 t261).bind fun t277 => (if t277 = true then (laws_FnExactTriePut.j0 k a2 t264 bt272.2 (bt272.2 != t264) l0_0 a1_0 a1_1 t261 t266 bt272.1) else (laws_FnExactTriePut.j0 k a2 t264 bt272.2 true l0_0 a1_0 a1_1 t261 t266 bt272.1))))) = some r := H
    have A14 := Aside0.mk A140
    clear A140
    replace H := Option.bind_eq_some_iff.mp H
    obtain ⟨⟨t270, t271⟩, A150, H⟩ := H
    replace H : ((impl_TriePut.f k t266 t270 t271 a2).bind fun bt272 => ((laws_eqTrie.f k bt272.1 t261).bind fun t277 => (if t277 = true then (laws_FnExactTriePut.j0 k a2 t264 bt272.2 (bt272.2 != t264) l0_0 a1_0 a1_1 t261 t266 bt272.1) else (laws_FnExactTriePut.j0 k a2 t264 bt272.2 true l0_0 a1_0 a1_1 t261 t266 bt272.1)))) = some r := H
    have A15 := Aside0.mk A150
    clear A150
    replace H := Option.bind_eq_some_iff.mp H
    obtain ⟨⟨t272, t275⟩, A160, H⟩ := H
    replace H : ((laws_eqTrie.f k t272 t261).bind fun t277 => (if t277 = true then (laws_FnExactTriePut.j0 k a2 t264 t275 (t275 != t264) l0_0 a1_0 a1_1 t261 t266 t272) else (laws_FnExactTriePut.j0 k a2 t264 t275 true l0_0 a1_0 a1_1 t261 t266 t272))) = some r := H
    have A16 := Aside0.mk A160
    clear A160
    have HC17 := Aside0.mk H
    clear H
    go_enter Try.func11, Try.ntmps11
    try go_wp2_with (first | ((with_reducible refine gate_dst (N := 3) rfl ?_); refine box_event ?hg (N := 3) ?hd (cs := #[.slice A0_0 l0_0.length c0_0]) (t := 50) ?hr ?_; (case hd => rfl); (case hg => rfl); (case hr => first | (go_simp; done) | (go_simp; rfl)); intro gb253 hg w18 hbox hb; have BK253 := Aside0.mk (hbox); have GW253 := Aside0.mk ((by rw [hg]; exact (below_size (zh HB)) : w.heap.size ≤ gb253)); have GE253 := Aside0.mk ((by rw [hg]; exact (below_size (zh HB)) : w.heap.size ≤ gb253)); replace HB := Aside0.mk (below_step (zh HB) hb); clear hb hbox hg) | ((with_reducible refine gate_dst (N := 4) rfl ?_); refine box_event ?hg (N := 4) ?hd (cs := #[.int .i64 a1_0, .int .i64 a1_1]) (t := 33) ?hr ?_; (case hd => rfl); (case hg => rfl); (case hr => first | (go_simp; done) | (go_simp; rfl)); intro gb254 hg w19 hbox hb; have BK254 := Aside0.mk (hbox); have GW254 := Aside0.mk ((by rw [hg]; exact (below_size (zh1 HB GE253)) : w.heap.size ≤ gb254)); have GE254 := Aside0.mk ((by rw [hg]; exact (below_size (zh1 HB GE253)) : w.heap.size ≤ gb254)); replace HB := Aside0.mk (below_step (zh1 HB GE253) hb); have NB253_254 := Aside0.mk ((by rw [hg]; exact Nat.ne_of_lt (blk_lt (g := gb253) (o := .cells #[.slice A0_0 l0_0.length c0_0] 50 (0, 0)) (zb BK253)) : gb253 ≠ gb254)); have NB254_253 := Aside0.mk ((by rw [hg]; exact Nat.ne_of_gt (blk_lt (g := gb253) (o := .cells #[.slice A0_0 l0_0.length c0_0] 50 (0, 0)) (zb BK253)) : gb254 ≠ gb253)); replace BK253 := zk BK253 hb; clear hb hbox hg; have hnb20 := NB253_254.out; have hnc20 := NB254_253.out; have hcz21_0 : w19.cell? ⟨gb253, 0, none⟩ = some (.slice A0_0 l0_0.length c0_0) := (blk_cell BK253.out 0).trans rfl; have hfz21_0 := blk_frozen BK253.out 0) | ((with_reducible refine gate_callee (f := 31) rfl ?_); refine goesL_ (some 20) rfl rfl Try.func31 (by kernel_rfl) rfl #[.agg #[.slice A0_0 l0_0.length c0_0], .int .i64 1048576] rfl (by (try simp only [List.map_toArray, List.map_cons, List.map_nil]); first | done | rfl | (simp only [List.length_drop, List.length_take]; rfl)) ?_; (with_reducible refine (laws_szTrie.calls _ _ l0_0 1048576 t255 _ ?side1 ?side2 A4.out).mono ?_); (case side1 => repeat (first | exact (Kd.C_below HR0_0.out HB.out) | (with_reducible refine Kd.C_alloc ?_ _) | (with_reducible refine Kd.C_drewN ?_ _) | (with_reducible refine Kd.C_drew ?_))); (case side2 => exact HC0_0.out); rintro e w22 ⟨rfl, hb⟩; refine ⟨_, rfl, ?_⟩; replace BK253 := zk BK253 hb; replace BK254 := zk BK254 hb; replace HB := Aside0.mk (below_step (zh2 HB GE253 GE254) hb); (try clear hb); (try clear hb2); (try clear hk); (try clear hi)))
    replace BK253 := Aside0.mk (blk_drew BK253.out)
    replace BK254 := Aside0.mk (blk_drew BK254.out)
    replace HB := Aside0.mk (below_drew1 HB.out)
    refine start_ (n := 12) (S := fun w' => w'.cell? ⟨gb253, 0, none⟩ = some (.slice A0_0 l0_0.length c0_0) ∧ w'.cell? ⟨gb254, 0, none⟩ = some (.int .i64 a1_0) ∧ w'.cell? ⟨gb254, 1, none⟩ = some (.int .i64 a1_1)) (ds := []) #[Z,Z,Z,Z,Z,Z,Z,Z,Z,Z,Z,Z] (by kernel_rfl) rfl rfl ⟨(blk_cell BK253.out 0).trans rfl, (blk_cell BK254.out 0).trans rfl, (blk_cell BK254.out 1).trans rfl⟩ (fun hHeld => ?_); refine with_tabW laws_FnExactTriePut.tab5 laws_FnExactTriePut.bits5 (fun HT_ HW_ => ?_)
    generalize w22.drew = w23 at BK253 BK254 HB hHeld ⊢
    refine pz (i := 4) (N := some 28) #[Z,Z,Z,Z,Y,Z,Z,Z,Z,Z,Z,Z] (any_of HT_.out (by kernel_rfl)) ?_
    refine tz (i := 0) (N := some 24) #[Y,Z,Z,Z,Y,Z,Z,Z,Z,Z,Z,Z] rfl (take_ofW HT_.out HW_.out (by kernel_rfl)) (Or.inl ⟨by rfl, by rintro w' ⟨s0, s1, s2⟩; go_simp; with_reducible rfl⟩) hHeld ?_
    refine tz (i := 2) (N := some 26) #[Y,Z,Y,Z,Y,Z,Z,Z,Z,Z,Z,Z] rfl (take_ofW HT_.out HW_.out (by kernel_rfl)) (Or.inl ⟨by rfl, by rintro w' ⟨s0, s1, s2⟩; go_simp; with_reducible rfl⟩) hHeld ?_
    refine join_ (σ := Value × Value × Nat) 2 #[Y,Y,Y,Y,Y,Y,Y,Y,Y,Y,Z,Z] (fun s_ => [(25, .agg #[s_.1]), (27, .agg #[.int .i64 t259, .int .i64 t260]), (29, .tuple #[.agg #[s_.2.1], .bool t264]), (8, .pointer (some ⟨s_.2.2, 0, none⟩)), (23, .tuple #[.agg #[s_.2.1], .bool t264]), (30, .agg #[s_.2.1]), (31, .bool t264)]) (fun s_ w' => (w'.cell? ⟨gb253, 0, none⟩ = some (.slice A0_0 l0_0.length c0_0) ∧ w'.cell? ⟨gb254, 0, none⟩ = some (.int .i64 a1_0) ∧ w'.cell? ⟨gb254, 1, none⟩ = some (.int .i64 a1_1)) ∧ (Kd.R k104 104 w' w.heap.size (fun k_ => some k_ ≠ (s_.2.1 : Value).ownBlock) s_.1 t256) ∧ (Kd.R k104 104 w' w.heap.size (fun k_ => some k_ ≠ (s_.1 : Value).ownBlock) s_.2.1 t261) ∧ (w'.heap[gb253]? = some (.cells #[.slice A0_0 l0_0.length c0_0] 50 (0, 0))) ∧ (w'.heap[gb254]? = some (.cells #[.int .i64 a1_0, .int .i64 a1_1] 33 (0, 0))) ∧ (w'.heap[s_.2.2]? = some (.cells #[.slice none 0 0] 55 (0, 0))) ∧ (w.heap.size ≤ s_.2.2) ∧ (w.heap.size ≤ s_.2.2) ∧ (gb253 ≠ s_.2.2) ∧ (s_.2.2 ≠ gb253) ∧ (gb254 ≠ s_.2.2) ∧ (s_.2.2 ≠ gb254) ∧ (Below w.heap.size w w')) ?_ ?_
    rotate_left
    · intro hCont
      refine two_ (i := 1) (j := 9) (Ni := some 25) (Nj := some 8) #[Y,Y,Y,Z,Y,Z,Z,Z,Z,Z,Z,Z] #[Y,Z,Y,Z,Y,Z,Z,Z,Z,Y,Z,Z] rfl rfl rfl rfl (two_of HT_.out (by kernel_rfl)) (by decide) (by decide) (fun K hK => ?_) (fun K hK => ?_)
      · skip
        refine goes_ Try.func33 (by kernel_rfl) rfl #[.agg #[.slice A0_0 l0_0.length c0_0]] (by rfl) rfl rfl (by (try simp only [List.map_toArray, List.map_cons, List.map_nil]); first | done | rfl | (simp only [List.length_drop, List.length_take]; rfl)) ?_
        with_reducible refine (laws_toTrie.calls k _ _ l0_0 t256 _ ?side1 ?side2 A11.out).mono ?_
        (case side1 => repeat (first | exact (Kd.C_below HR0_0.out HB.out) | (with_reducible refine Kd.C_alloc ?_ _) | (with_reducible refine Kd.C_drewN ?_ _) | (with_reducible refine Kd.C_drew ?_)))
        (case side2 => exact HC0_0.out)
        rintro e w24 ⟨v257, rfl, ho0, hb⟩
        refine ⟨_, rfl, ?_⟩
        have HO258 := Aside0.mk (Kd.R_lower ho0 (below_size (zh2 HB GE253 GE254)))
        replace BK253 := zk BK253 hb
        replace BK254 := zk BK254 hb
        replace HB := Aside0.mk (below_step (zh2 HB GE253 GE254) hb)
        (try clear hb)
        (try clear hb2)
        (try clear hk)
        (try clear hi)
        (try clear ho0)
        refine hK.out _ _ ⟨(blk_cell BK253.out 0).trans rfl, (blk_cell BK254.out 0).trans rfl, (blk_cell BK254.out 1).trans rfl⟩ (fun hHeld => ?_)
        clear hK K
        refine norm_ (a' := ?_) ?_ ?_
        rotate_left
        · show Act.put _ (some 25) _ = _
          simp only [Act.put, List.setIfInBounds_toArray, List.set_cons_zero, List.set_cons_succ, i64_w, i32_w]
          rfl
        refine two_ (i := 3) (j := 9) (Ni := some 27) (Nj := some 8) #[Y,Y,Y,Y,Y,Z,Z,Z,Z,Z,Z,Z] #[Y,Y,Y,Z,Y,Z,Z,Z,Z,Y,Z,Z] rfl rfl rfl rfl (two_of HT_.out (by kernel_rfl)) (by decide) (by decide) (fun K hK => ?_) (fun K hK => ?_)
        · skip
          refine goes_ Try.func40 (by kernel_rfl) rfl #[.agg #[.int .i64 a1_0, .int .i64 a1_1]] (by rfl) rfl rfl (by (try simp only [List.map_toArray, List.map_cons, List.map_nil]); first | done | rfl | (simp only [List.length_drop, List.length_take]; rfl)) ?_
          with_reducible refine (laws_toPrefix.calls a1_0 a1_1 t259 t260 _ A12.out).mono ?_
          rintro e w25 ⟨rfl, hb⟩
          refine ⟨_, rfl, ?_⟩
          replace HO258 := Aside0.mk (Kd.R_below (zr HO258) hb)
          replace BK253 := zk BK253 hb
          replace BK254 := zk BK254 hb
          replace HB := Aside0.mk (below_step (zh2 HB GE253 GE254) hb)
          (try clear hb)
          (try clear hb2)
          (try clear hk)
          (try clear hi)
          obtain ⟨Ao26, co26, eo26⟩ := Kd.R_slice HO258.out
          (first | subst eo26 | (injection eo26 with f1_ f2_ f3_; have f4_ := f1_.symm; have f5_ := f3_.symm; clear f1_ f2_ f3_; subst f4_; subst f5_))
          refine hK.out _ _ ⟨(blk_cell BK253.out 0).trans rfl, (blk_cell BK254.out 0).trans rfl, (blk_cell BK254.out 1).trans rfl⟩ (fun hHeld => ?_)
          clear hK K
          refine norm_ (a' := ?_) ?_ ?_
          rotate_left
          · show Act.put _ (some 27) _ = _
            simp only [Act.put, List.setIfInBounds_toArray, List.set_cons_zero, List.set_cons_succ, i64_w, i32_w]
            rfl
          refine two_ (i := 5) (j := 9) (Ni := some 29) (Nj := some 8) #[Y,Y,Y,Y,Y,Y,Z,Z,Z,Z,Z,Z] #[Y,Y,Y,Y,Y,Z,Z,Z,Z,Y,Z,Z] rfl rfl rfl rfl (two_of HT_.out (by kernel_rfl)) (by decide) (by decide) (fun K hK => ?_) (fun K hK => ?_)
          · skip
            refine goes_ Try.func44 (by kernel_rfl) rfl #[.agg #[.slice Ao26 t256.length co26], .agg #[.int .i64 t259, .int .i64 t260], .int .i64 a2] (by rfl) rfl rfl (by (try simp only [List.map_toArray, List.map_cons, List.map_nil]); first | done | rfl | (simp only [List.length_drop, List.length_take]; rfl)) ?_
            with_reducible refine (spec_TriePut.calls k _ _ t256 t259 t260 a2 t261 t264 _ ?side1 ?side2 A13.out).mono ?_
            (case side1 => repeat (first | exact (Kd.R_reads' HO258.out).2.2 | (with_reducible refine Kd.C_alloc ?_ _) | (with_reducible refine Kd.C_drewN ?_ _) | (with_reducible refine Kd.C_drew ?_)))
            (case side2 => exact (Kd.R_reads' HO258.out).2.1)
            rintro e w27 ⟨v262, rfl, ho0, hb⟩
            refine ⟨_, rfl, ?_⟩
            have HO263 := Aside0.mk (Kd.R_lower (Kd.R_new' ho0 (Kd.R_lt (zr HO258))) (below_size (zh2 HB GE253 GE254)))
            replace HO258 := Aside0.mk (Kd.R_elder' (zr HO258) (Kd.R_base ho0) hb)
            replace BK253 := zk BK253 hb
            replace BK254 := zk BK254 hb
            replace HB := Aside0.mk (below_step (zh2 HB GE253 GE254) hb)
            (try clear hb)
            (try clear hb2)
            (try clear hk)
            (try clear hi)
            (try clear ho0)
            refine hK.out _ _ ⟨(blk_cell BK253.out 0).trans rfl, (blk_cell BK254.out 0).trans rfl, (blk_cell BK254.out 1).trans rfl⟩ (fun hHeld => ?_)
            clear hK K
            refine norm_ (a' := ?_) ?_ ?_
            rotate_left
            · show Act.put _ (some 29) _ = _
              simp only [Act.put, List.setIfInBounds_toArray, List.set_cons_zero, List.set_cons_succ, i64_w, i32_w]
              rfl
            refine pz (i := 6) (N := some 23) #[Y,Y,Y,Y,Y,Y,Y,Z,Z,Z,Z,Z] (any_of HT_.out (by kernel_rfl)) ?_
            refine pz (i := 7) (N := some 30) #[Y,Y,Y,Y,Y,Y,Y,Y,Z,Z,Z,Z] (any_of HT_.out (by kernel_rfl)) ?_
            refine pz (i := 8) (N := some 31) #[Y,Y,Y,Y,Y,Y,Y,Y,Y,Z,Z,Z] (any_of HT_.out (by kernel_rfl)) ?_
            refine one_ (i := 9) (N := some 8) #[Y,Y,Y,Y,Y,Y,Y,Y,Y,Y,Z,Z] rfl rfl (one_of HT_.out (by kernel_rfl)) (by decide) (fun K hK => ?_)
            refine box_step ?hg (N := 8) ?hd (cs := #[.slice none 0 0]) (t := 55) ?hr ?_; (case hd => rfl); (case hg => rfl); (case hr => first | (go_simp; done) | (go_simp; rfl))
            intro gb265 hg w28 hbox hb
            replace HO258 := Aside0.mk (Kd.R_below (zr HO258) hb)
            replace HO263 := Aside0.mk (Kd.R_below (zr HO263) hb)
            have BK265 := Aside0.mk (hbox)
            have GW265 := Aside0.mk ((by rw [hg]; exact (below_size (zh2 HB GE253 GE254)) : w.heap.size ≤ gb265))
            have GE265 := Aside0.mk ((by rw [hg]; exact (below_size (zh2 HB GE253 GE254)) : w.heap.size ≤ gb265))
            replace HB := Aside0.mk (below_step (zh2 HB GE253 GE254) hb)
            have NB253_265 := Aside0.mk ((by rw [hg]; exact Nat.ne_of_lt (blk_lt (g := gb253) (o := .cells #[.slice A0_0 l0_0.length c0_0] 50 (0, 0)) (zb BK253)) : gb253 ≠ gb265))
            have NB265_253 := Aside0.mk ((by rw [hg]; exact Nat.ne_of_gt (blk_lt (g := gb253) (o := .cells #[.slice A0_0 l0_0.length c0_0] 50 (0, 0)) (zb BK253)) : gb265 ≠ gb253))
            replace BK253 := zk BK253 hb
            have NB254_265 := Aside0.mk ((by rw [hg]; exact Nat.ne_of_lt (blk_lt (g := gb254) (o := .cells #[.int .i64 a1_0, .int .i64 a1_1] 33 (0, 0)) (zb BK254)) : gb254 ≠ gb265))
            have NB265_254 := Aside0.mk ((by rw [hg]; exact Nat.ne_of_gt (blk_lt (g := gb254) (o := .cells #[.int .i64 a1_0, .int .i64 a1_1] 33 (0, 0)) (zb BK254)) : gb265 ≠ gb254))
            replace BK254 := zk BK254 hb
            clear hb hbox hg
            refine hK.out _ _ ⟨(blk_cell BK253.out 0).trans rfl, (blk_cell BK254.out 0).trans rfl, (blk_cell BK254.out 1).trans rfl⟩ (fun hHeld => ?_)
            clear hK K
            refine norm_ (a' := ?_) ?_ ?_
            rotate_left
            · show Act.put _ (some 8) _ = _
              simp only [Act.put, List.setIfInBounds_toArray, List.set_cons_zero, List.set_cons_succ, i64_w, i32_w]
              rfl
            exact norm_ (by simp only [putAll, Act.put, List.setIfInBounds_toArray, List.set_cons_zero, List.set_cons_succ]) (hCont (.slice Ao26 t256.length co26, v262, gb265) _ ⟨hHeld, (by (with_reducible repeat (first | apply Kd.R_alloc | apply Kd.R_drewN | apply Kd.R_drew)); exact Kd.R_mono HO258.out (fun _ hk => hk.2)), (by (with_reducible repeat (first | apply Kd.R_alloc | apply Kd.R_drewN | apply Kd.R_drew)); exact Kd.R_mono HO263.out (fun _ hk => hk.2)), (zb BK253), (zb BK254), (zb BK265), GW265.out, GE265.out, NB253_265.out, NB265_253.out, NB254_265.out, NB265_254.out, (zh3 HB GE253 GE254 GE265)⟩)
          · skip
            refine box_step ?hg (N := 8) ?hd (cs := #[.slice none 0 0]) (t := 55) ?hr ?_; (case hd => rfl); (case hg => rfl); (case hr => first | (go_simp; done) | (go_simp; rfl))
            intro gb265 hg w26 hbox hb
            replace HO258 := Aside0.mk (Kd.R_below (zr HO258) hb)
            have BK265 := Aside0.mk (hbox)
            have GW265 := Aside0.mk ((by rw [hg]; exact (below_size (zh2 HB GE253 GE254)) : w.heap.size ≤ gb265))
            have GE265 := Aside0.mk ((by rw [hg]; exact (below_size (zh2 HB GE253 GE254)) : w.heap.size ≤ gb265))
            replace HB := Aside0.mk (below_step (zh2 HB GE253 GE254) hb)
            have NB253_265 := Aside0.mk ((by rw [hg]; exact Nat.ne_of_lt (blk_lt (g := gb253) (o := .cells #[.slice A0_0 l0_0.length c0_0] 50 (0, 0)) (zb BK253)) : gb253 ≠ gb265))
            have NB265_253 := Aside0.mk ((by rw [hg]; exact Nat.ne_of_gt (blk_lt (g := gb253) (o := .cells #[.slice A0_0 l0_0.length c0_0] 50 (0, 0)) (zb BK253)) : gb265 ≠ gb253))
            replace BK253 := zk BK253 hb
            have NB254_265 := Aside0.mk ((by rw [hg]; exact Nat.ne_of_lt (blk_lt (g := gb254) (o := .cells #[.int .i64 a1_0, .int .i64 a1_1] 33 (0, 0)) (zb BK254)) : gb254 ≠ gb265))
            have NB265_254 := Aside0.mk ((by rw [hg]; exact Nat.ne_of_gt (blk_lt (g := gb254) (o := .cells #[.int .i64 a1_0, .int .i64 a1_1] 33 (0, 0)) (zb BK254)) : gb265 ≠ gb254))
            replace BK254 := zk BK254 hb
            clear hb hbox hg
            obtain ⟨Ao27, co27, eo27⟩ := Kd.R_slice HO258.out
            (first | subst eo27 | (injection eo27 with f1_ f2_ f3_; have f4_ := f1_.symm; have f5_ := f3_.symm; clear f1_ f2_ f3_; subst f4_; subst f5_))
            refine hK.out _ _ ⟨(blk_cell BK253.out 0).trans rfl, (blk_cell BK254.out 0).trans rfl, (blk_cell BK254.out 1).trans rfl⟩ (fun hHeld => ?_)
            clear hK K
            refine norm_ (a' := ?_) ?_ ?_
            rotate_left
            · show Act.put _ (some 8) _ = _
              simp only [Act.put, List.setIfInBounds_toArray, List.set_cons_zero, List.set_cons_succ, i64_w, i32_w]
              rfl
            refine one_ (i := 5) (N := some 29) #[Y,Y,Y,Y,Y,Y,Z,Z,Z,Y,Z,Z] rfl rfl (one_of HT_.out (by kernel_rfl)) (by decide) (fun K hK => ?_)
            refine goes_ Try.func44 (by kernel_rfl) rfl #[.agg #[.slice Ao27 t256.length co27], .agg #[.int .i64 t259, .int .i64 t260], .int .i64 a2] (by rfl) rfl rfl (by (try simp only [List.map_toArray, List.map_cons, List.map_nil]); first | done | rfl | (simp only [List.length_drop, List.length_take]; rfl)) ?_
            with_reducible refine (spec_TriePut.calls k _ _ t256 t259 t260 a2 t261 t264 _ ?side1 ?side2 A13.out).mono ?_
            (case side1 => repeat (first | exact (Kd.R_reads' HO258.out).2.2 | (with_reducible refine Kd.C_alloc ?_ _) | (with_reducible refine Kd.C_drewN ?_ _) | (with_reducible refine Kd.C_drew ?_)))
            (case side2 => exact (Kd.R_reads' HO258.out).2.1)
            rintro e w28 ⟨v262, rfl, ho0, hb⟩
            refine ⟨_, rfl, ?_⟩
            have HO263 := Aside0.mk (Kd.R_lower (Kd.R_new' ho0 (Kd.R_lt (zr HO258))) (below_size (zh3 HB GE253 GE254 GE265)))
            replace HO258 := Aside0.mk (Kd.R_elder' (zr HO258) (Kd.R_base ho0) hb)
            replace BK253 := zk BK253 hb
            replace BK254 := zk BK254 hb
            replace BK265 := zk BK265 hb
            replace HB := Aside0.mk (below_step (zh3 HB GE253 GE254 GE265) hb)
            (try clear hb)
            (try clear hb2)
            (try clear hk)
            (try clear hi)
            (try clear ho0)
            refine hK.out _ _ ⟨(blk_cell BK253.out 0).trans rfl, (blk_cell BK254.out 0).trans rfl, (blk_cell BK254.out 1).trans rfl⟩ (fun hHeld => ?_)
            clear hK K
            refine norm_ (a' := ?_) ?_ ?_
            rotate_left
            · show Act.put _ (some 29) _ = _
              simp only [Act.put, List.setIfInBounds_toArray, List.set_cons_zero, List.set_cons_succ, i64_w, i32_w]
              rfl
            refine pz (i := 6) (N := some 23) #[Y,Y,Y,Y,Y,Y,Y,Z,Z,Y,Z,Z] (any_of HT_.out (by kernel_rfl)) ?_
            refine pz (i := 7) (N := some 30) #[Y,Y,Y,Y,Y,Y,Y,Y,Z,Y,Z,Z] (any_of HT_.out (by kernel_rfl)) ?_
            refine pz (i := 8) (N := some 31) #[Y,Y,Y,Y,Y,Y,Y,Y,Y,Y,Z,Z] (any_of HT_.out (by kernel_rfl)) ?_
            exact norm_ (by simp only [putAll, Act.put, List.setIfInBounds_toArray, List.set_cons_zero, List.set_cons_succ]) (hCont (.slice Ao27 t256.length co27, v262, gb265) _ ⟨hHeld, (by (with_reducible repeat (first | apply Kd.R_alloc | apply Kd.R_drewN | apply Kd.R_drew)); exact Kd.R_mono HO258.out (fun _ hk => hk.2)), (by (with_reducible repeat (first | apply Kd.R_alloc | apply Kd.R_drewN | apply Kd.R_drew)); exact Kd.R_mono HO263.out (fun _ hk => hk.2)), (zb BK253), (zb BK254), (zb BK265), GW265.out, GE265.out, NB253_265.out, NB265_253.out, NB254_265.out, NB265_254.out, (zh3 HB GE253 GE254 GE265)⟩)
        · skip
          refine box_step ?hg (N := 8) ?hd (cs := #[.slice none 0 0]) (t := 55) ?hr ?_; (case hd => rfl); (case hg => rfl); (case hr => first | (go_simp; done) | (go_simp; rfl))
          intro gb265 hg w25 hbox hb
          replace HO258 := Aside0.mk (Kd.R_below (zr HO258) hb)
          have BK265 := Aside0.mk (hbox)
          have GW265 := Aside0.mk ((by rw [hg]; exact (below_size (zh2 HB GE253 GE254)) : w.heap.size ≤ gb265))
          have GE265 := Aside0.mk ((by rw [hg]; exact (below_size (zh2 HB GE253 GE254)) : w.heap.size ≤ gb265))
          replace HB := Aside0.mk (below_step (zh2 HB GE253 GE254) hb)
          have NB253_265 := Aside0.mk ((by rw [hg]; exact Nat.ne_of_lt (blk_lt (g := gb253) (o := .cells #[.slice A0_0 l0_0.length c0_0] 50 (0, 0)) (zb BK253)) : gb253 ≠ gb265))
          have NB265_253 := Aside0.mk ((by rw [hg]; exact Nat.ne_of_gt (blk_lt (g := gb253) (o := .cells #[.slice A0_0 l0_0.length c0_0] 50 (0, 0)) (zb BK253)) : gb265 ≠ gb253))
          replace BK253 := zk BK253 hb
          have NB254_265 := Aside0.mk ((by rw [hg]; exact Nat.ne_of_lt (blk_lt (g := gb254) (o := .cells #[.int .i64 a1_0, .int .i64 a1_1] 33 (0, 0)) (zb BK254)) : gb254 ≠ gb265))
          have NB265_254 := Aside0.mk ((by rw [hg]; exact Nat.ne_of_gt (blk_lt (g := gb254) (o := .cells #[.int .i64 a1_0, .int .i64 a1_1] 33 (0, 0)) (zb BK254)) : gb265 ≠ gb254))
          replace BK254 := zk BK254 hb
          clear hb hbox hg
          refine hK.out _ _ ⟨(blk_cell BK253.out 0).trans rfl, (blk_cell BK254.out 0).trans rfl, (blk_cell BK254.out 1).trans rfl⟩ (fun hHeld => ?_)
          clear hK K
          refine norm_ (a' := ?_) ?_ ?_
          rotate_left
          · show Act.put _ (some 8) _ = _
            simp only [Act.put, List.setIfInBounds_toArray, List.set_cons_zero, List.set_cons_succ, i64_w, i32_w]
            rfl
          refine one_ (i := 3) (N := some 27) #[Y,Y,Y,Y,Y,Z,Z,Z,Z,Y,Z,Z] rfl rfl (one_of HT_.out (by kernel_rfl)) (by decide) (fun K hK => ?_)
          refine goes_ Try.func40 (by kernel_rfl) rfl #[.agg #[.int .i64 a1_0, .int .i64 a1_1]] (by rfl) rfl rfl (by (try simp only [List.map_toArray, List.map_cons, List.map_nil]); first | done | rfl | (simp only [List.length_drop, List.length_take]; rfl)) ?_
          with_reducible refine (laws_toPrefix.calls a1_0 a1_1 t259 t260 _ A12.out).mono ?_
          rintro e w26 ⟨rfl, hb⟩
          refine ⟨_, rfl, ?_⟩
          replace HO258 := Aside0.mk (Kd.R_below (zr HO258) hb)
          replace BK253 := zk BK253 hb
          replace BK254 := zk BK254 hb
          replace BK265 := zk BK265 hb
          replace HB := Aside0.mk (below_step (zh3 HB GE253 GE254 GE265) hb)
          (try clear hb)
          (try clear hb2)
          (try clear hk)
          (try clear hi)
          obtain ⟨Ao27, co27, eo27⟩ := Kd.R_slice HO258.out
          (first | subst eo27 | (injection eo27 with f1_ f2_ f3_; have f4_ := f1_.symm; have f5_ := f3_.symm; clear f1_ f2_ f3_; subst f4_; subst f5_))
          refine hK.out _ _ ⟨(blk_cell BK253.out 0).trans rfl, (blk_cell BK254.out 0).trans rfl, (blk_cell BK254.out 1).trans rfl⟩ (fun hHeld => ?_)
          clear hK K
          refine norm_ (a' := ?_) ?_ ?_
          rotate_left
          · show Act.put _ (some 27) _ = _
            simp only [Act.put, List.setIfInBounds_toArray, List.set_cons_zero, List.set_cons_succ, i64_w, i32_w]
            rfl
          refine one_ (i := 5) (N := some 29) #[Y,Y,Y,Y,Y,Y,Z,Z,Z,Y,Z,Z] rfl rfl (one_of HT_.out (by kernel_rfl)) (by decide) (fun K hK => ?_)
          refine goes_ Try.func44 (by kernel_rfl) rfl #[.agg #[.slice Ao27 t256.length co27], .agg #[.int .i64 t259, .int .i64 t260], .int .i64 a2] (by rfl) rfl rfl (by (try simp only [List.map_toArray, List.map_cons, List.map_nil]); first | done | rfl | (simp only [List.length_drop, List.length_take]; rfl)) ?_
          with_reducible refine (spec_TriePut.calls k _ _ t256 t259 t260 a2 t261 t264 _ ?side1 ?side2 A13.out).mono ?_
          (case side1 => repeat (first | exact (Kd.R_reads' HO258.out).2.2 | (with_reducible refine Kd.C_alloc ?_ _) | (with_reducible refine Kd.C_drewN ?_ _) | (with_reducible refine Kd.C_drew ?_)))
          (case side2 => exact (Kd.R_reads' HO258.out).2.1)
          rintro e w28 ⟨v262, rfl, ho0, hb⟩
          refine ⟨_, rfl, ?_⟩
          have HO263 := Aside0.mk (Kd.R_lower (Kd.R_new' ho0 (Kd.R_lt (zr HO258))) (below_size (zh3 HB GE253 GE254 GE265)))
          replace HO258 := Aside0.mk (Kd.R_elder' (zr HO258) (Kd.R_base ho0) hb)
          replace BK253 := zk BK253 hb
          replace BK254 := zk BK254 hb
          replace BK265 := zk BK265 hb
          replace HB := Aside0.mk (below_step (zh3 HB GE253 GE254 GE265) hb)
          (try clear hb)
          (try clear hb2)
          (try clear hk)
          (try clear hi)
          (try clear ho0)
          refine hK.out _ _ ⟨(blk_cell BK253.out 0).trans rfl, (blk_cell BK254.out 0).trans rfl, (blk_cell BK254.out 1).trans rfl⟩ (fun hHeld => ?_)
          clear hK K
          refine norm_ (a' := ?_) ?_ ?_
          rotate_left
          · show Act.put _ (some 29) _ = _
            simp only [Act.put, List.setIfInBounds_toArray, List.set_cons_zero, List.set_cons_succ, i64_w, i32_w]
            rfl
          refine pz (i := 6) (N := some 23) #[Y,Y,Y,Y,Y,Y,Y,Z,Z,Y,Z,Z] (any_of HT_.out (by kernel_rfl)) ?_
          refine pz (i := 7) (N := some 30) #[Y,Y,Y,Y,Y,Y,Y,Y,Z,Y,Z,Z] (any_of HT_.out (by kernel_rfl)) ?_
          refine pz (i := 8) (N := some 31) #[Y,Y,Y,Y,Y,Y,Y,Y,Y,Y,Z,Z] (any_of HT_.out (by kernel_rfl)) ?_
          exact norm_ (by simp only [putAll, Act.put, List.setIfInBounds_toArray, List.set_cons_zero, List.set_cons_succ]) (hCont (.slice Ao27 t256.length co27, v262, gb265) _ ⟨hHeld, (by (with_reducible repeat (first | apply Kd.R_alloc | apply Kd.R_drewN | apply Kd.R_drew)); exact Kd.R_mono HO258.out (fun _ hk => hk.2)), (by (with_reducible repeat (first | apply Kd.R_alloc | apply Kd.R_drewN | apply Kd.R_drew)); exact Kd.R_mono HO263.out (fun _ hk => hk.2)), (zb BK253), (zb BK254), (zb BK265), GW265.out, GE265.out, NB253_265.out, NB265_253.out, NB254_265.out, NB265_254.out, (zh3 HB GE253 GE254 GE265)⟩)
      · skip
        refine box_step ?hg (N := 8) ?hd (cs := #[.slice none 0 0]) (t := 55) ?hr ?_; (case hd => rfl); (case hg => rfl); (case hr => first | (go_simp; done) | (go_simp; rfl))
        intro gb265 hg w24 hbox hb
        have BK265 := Aside0.mk (hbox)
        have GW265 := Aside0.mk ((by rw [hg]; exact (below_size (zh2 HB GE253 GE254)) : w.heap.size ≤ gb265))
        have GE265 := Aside0.mk ((by rw [hg]; exact (below_size (zh2 HB GE253 GE254)) : w.heap.size ≤ gb265))
        replace HB := Aside0.mk (below_step (zh2 HB GE253 GE254) hb)
        have NB253_265 := Aside0.mk ((by rw [hg]; exact Nat.ne_of_lt (blk_lt (g := gb253) (o := .cells #[.slice A0_0 l0_0.length c0_0] 50 (0, 0)) (zb BK253)) : gb253 ≠ gb265))
        have NB265_253 := Aside0.mk ((by rw [hg]; exact Nat.ne_of_gt (blk_lt (g := gb253) (o := .cells #[.slice A0_0 l0_0.length c0_0] 50 (0, 0)) (zb BK253)) : gb265 ≠ gb253))
        replace BK253 := zk BK253 hb
        have NB254_265 := Aside0.mk ((by rw [hg]; exact Nat.ne_of_lt (blk_lt (g := gb254) (o := .cells #[.int .i64 a1_0, .int .i64 a1_1] 33 (0, 0)) (zb BK254)) : gb254 ≠ gb265))
        have NB265_254 := Aside0.mk ((by rw [hg]; exact Nat.ne_of_gt (blk_lt (g := gb254) (o := .cells #[.int .i64 a1_0, .int .i64 a1_1] 33 (0, 0)) (zb BK254)) : gb265 ≠ gb254))
        replace BK254 := zk BK254 hb
        clear hb hbox hg
        refine hK.out _ _ ⟨(blk_cell BK253.out 0).trans rfl, (blk_cell BK254.out 0).trans rfl, (blk_cell BK254.out 1).trans rfl⟩ (fun hHeld => ?_)
        clear hK K
        refine norm_ (a' := ?_) ?_ ?_
        rotate_left
        · show Act.put _ (some 8) _ = _
          simp only [Act.put, List.setIfInBounds_toArray, List.set_cons_zero, List.set_cons_succ, i64_w, i32_w]
          rfl
        refine one_ (i := 1) (N := some 25) #[Y,Y,Y,Z,Y,Z,Z,Z,Z,Y,Z,Z] rfl rfl (one_of HT_.out (by kernel_rfl)) (by decide) (fun K hK => ?_)
        refine goes_ Try.func33 (by kernel_rfl) rfl #[.agg #[.slice A0_0 l0_0.length c0_0]] (by rfl) rfl rfl (by (try simp only [List.map_toArray, List.map_cons, List.map_nil]); first | done | rfl | (simp only [List.length_drop, List.length_take]; rfl)) ?_
        with_reducible refine (laws_toTrie.calls k _ _ l0_0 t256 _ ?side1 ?side2 A11.out).mono ?_
        (case side1 => repeat (first | exact (Kd.C_below HR0_0.out HB.out) | (with_reducible refine Kd.C_alloc ?_ _) | (with_reducible refine Kd.C_drewN ?_ _) | (with_reducible refine Kd.C_drew ?_)))
        (case side2 => exact HC0_0.out)
        rintro e w25 ⟨v257, rfl, ho0, hb⟩
        refine ⟨_, rfl, ?_⟩
        have HO258 := Aside0.mk (Kd.R_lower ho0 (below_size (zh3 HB GE253 GE254 GE265)))
        replace BK253 := zk BK253 hb
        replace BK254 := zk BK254 hb
        replace BK265 := zk BK265 hb
        replace HB := Aside0.mk (below_step (zh3 HB GE253 GE254 GE265) hb)
        (try clear hb)
        (try clear hb2)
        (try clear hk)
        (try clear hi)
        (try clear ho0)
        refine hK.out _ _ ⟨(blk_cell BK253.out 0).trans rfl, (blk_cell BK254.out 0).trans rfl, (blk_cell BK254.out 1).trans rfl⟩ (fun hHeld => ?_)
        clear hK K
        refine norm_ (a' := ?_) ?_ ?_
        rotate_left
        · show Act.put _ (some 25) _ = _
          simp only [Act.put, List.setIfInBounds_toArray, List.set_cons_zero, List.set_cons_succ, i64_w, i32_w]
          rfl
        refine one_ (i := 3) (N := some 27) #[Y,Y,Y,Y,Y,Z,Z,Z,Z,Y,Z,Z] rfl rfl (one_of HT_.out (by kernel_rfl)) (by decide) (fun K hK => ?_)
        refine goes_ Try.func40 (by kernel_rfl) rfl #[.agg #[.int .i64 a1_0, .int .i64 a1_1]] (by rfl) rfl rfl (by (try simp only [List.map_toArray, List.map_cons, List.map_nil]); first | done | rfl | (simp only [List.length_drop, List.length_take]; rfl)) ?_
        with_reducible refine (laws_toPrefix.calls a1_0 a1_1 t259 t260 _ A12.out).mono ?_
        rintro e w26 ⟨rfl, hb⟩
        refine ⟨_, rfl, ?_⟩
        replace HO258 := Aside0.mk (Kd.R_below (zr HO258) hb)
        replace BK253 := zk BK253 hb
        replace BK254 := zk BK254 hb
        replace BK265 := zk BK265 hb
        replace HB := Aside0.mk (below_step (zh3 HB GE253 GE254 GE265) hb)
        (try clear hb)
        (try clear hb2)
        (try clear hk)
        (try clear hi)
        obtain ⟨Ao27, co27, eo27⟩ := Kd.R_slice HO258.out
        (first | subst eo27 | (injection eo27 with f1_ f2_ f3_; have f4_ := f1_.symm; have f5_ := f3_.symm; clear f1_ f2_ f3_; subst f4_; subst f5_))
        refine hK.out _ _ ⟨(blk_cell BK253.out 0).trans rfl, (blk_cell BK254.out 0).trans rfl, (blk_cell BK254.out 1).trans rfl⟩ (fun hHeld => ?_)
        clear hK K
        refine norm_ (a' := ?_) ?_ ?_
        rotate_left
        · show Act.put _ (some 27) _ = _
          simp only [Act.put, List.setIfInBounds_toArray, List.set_cons_zero, List.set_cons_succ, i64_w, i32_w]
          rfl
        refine one_ (i := 5) (N := some 29) #[Y,Y,Y,Y,Y,Y,Z,Z,Z,Y,Z,Z] rfl rfl (one_of HT_.out (by kernel_rfl)) (by decide) (fun K hK => ?_)
        refine goes_ Try.func44 (by kernel_rfl) rfl #[.agg #[.slice Ao27 t256.length co27], .agg #[.int .i64 t259, .int .i64 t260], .int .i64 a2] (by rfl) rfl rfl (by (try simp only [List.map_toArray, List.map_cons, List.map_nil]); first | done | rfl | (simp only [List.length_drop, List.length_take]; rfl)) ?_
        with_reducible refine (spec_TriePut.calls k _ _ t256 t259 t260 a2 t261 t264 _ ?side1 ?side2 A13.out).mono ?_
        (case side1 => repeat (first | exact (Kd.R_reads' HO258.out).2.2 | (with_reducible refine Kd.C_alloc ?_ _) | (with_reducible refine Kd.C_drewN ?_ _) | (with_reducible refine Kd.C_drew ?_)))
        (case side2 => exact (Kd.R_reads' HO258.out).2.1)
        rintro e w28 ⟨v262, rfl, ho0, hb⟩
        refine ⟨_, rfl, ?_⟩
        have HO263 := Aside0.mk (Kd.R_lower (Kd.R_new' ho0 (Kd.R_lt (zr HO258))) (below_size (zh3 HB GE253 GE254 GE265)))
        replace HO258 := Aside0.mk (Kd.R_elder' (zr HO258) (Kd.R_base ho0) hb)
        replace BK253 := zk BK253 hb
        replace BK254 := zk BK254 hb
        replace BK265 := zk BK265 hb
        replace HB := Aside0.mk (below_step (zh3 HB GE253 GE254 GE265) hb)
        (try clear hb)
        (try clear hb2)
        (try clear hk)
        (try clear hi)
        (try clear ho0)
        refine hK.out _ _ ⟨(blk_cell BK253.out 0).trans rfl, (blk_cell BK254.out 0).trans rfl, (blk_cell BK254.out 1).trans rfl⟩ (fun hHeld => ?_)
        clear hK K
        refine norm_ (a' := ?_) ?_ ?_
        rotate_left
        · show Act.put _ (some 29) _ = _
          simp only [Act.put, List.setIfInBounds_toArray, List.set_cons_zero, List.set_cons_succ, i64_w, i32_w]
          rfl
        refine pz (i := 6) (N := some 23) #[Y,Y,Y,Y,Y,Y,Y,Z,Z,Y,Z,Z] (any_of HT_.out (by kernel_rfl)) ?_
        refine pz (i := 7) (N := some 30) #[Y,Y,Y,Y,Y,Y,Y,Y,Z,Y,Z,Z] (any_of HT_.out (by kernel_rfl)) ?_
        refine pz (i := 8) (N := some 31) #[Y,Y,Y,Y,Y,Y,Y,Y,Y,Y,Z,Z] (any_of HT_.out (by kernel_rfl)) ?_
        exact norm_ (by simp only [putAll, Act.put, List.setIfInBounds_toArray, List.set_cons_zero, List.set_cons_succ]) (hCont (.slice Ao27 t256.length co27, v262, gb265) _ ⟨hHeld, (by (with_reducible repeat (first | apply Kd.R_alloc | apply Kd.R_drewN | apply Kd.R_drew)); exact Kd.R_mono HO258.out (fun _ hk => hk.2)), (by (with_reducible repeat (first | apply Kd.R_alloc | apply Kd.R_drewN | apply Kd.R_drew)); exact Kd.R_mono HO263.out (fun _ hk => hk.2)), (zb BK253), (zb BK254), (zb BK265), GW265.out, GE265.out, NB253_265.out, NB265_253.out, NB254_265.out, NB265_254.out, (zh3 HB GE253 GE254 GE265)⟩)
    rintro ⟨v257, v262, gb265⟩ w29 ⟨hS_, h0_, h1_, h2_, h3_, h4_, h5_, h6_, h7_, h8_, h9_, h10_, h11_⟩
    have n0_ : Aside0 (Kd.R k104 104 w29 w.heap.size (fun k_ => some k_ ≠ (v262 : Value).ownBlock) v257 t256) := ⟨h0_⟩
    have n1_ : Aside0 (Kd.R k104 104 w29 w.heap.size (fun k_ => some k_ ≠ (v257 : Value).ownBlock) v262 t261) := ⟨h1_⟩
    have n2_ : Aside0 (w29.heap[gb253]? = some (.cells #[.slice A0_0 l0_0.length c0_0] 50 (0, 0))) := ⟨h2_⟩
    have n3_ : Aside0 (w29.heap[gb254]? = some (.cells #[.int .i64 a1_0, .int .i64 a1_1] 33 (0, 0))) := ⟨h3_⟩
    have n4_ : Aside0 (w29.heap[gb265]? = some (.cells #[.slice none 0 0] 55 (0, 0))) := ⟨h4_⟩
    have n5_ : Aside0 (w.heap.size ≤ gb265) := ⟨h5_⟩
    have n6_ : Aside0 (w.heap.size ≤ gb265) := ⟨h6_⟩
    have n7_ : Aside0 (gb253 ≠ gb265) := ⟨h7_⟩
    have n8_ : Aside0 (gb265 ≠ gb253) := ⟨h8_⟩
    have n9_ : Aside0 (gb254 ≠ gb265) := ⟨h9_⟩
    have n10_ : Aside0 (gb265 ≠ gb254) := ⟨h10_⟩
    have n11_ : Aside0 (Below w.heap.size w w29) := ⟨h11_⟩
    clear BK253
    clear BK254
    clear HB
    clear h0_ h1_ h2_ h3_ h4_ h5_ h6_ h7_ h8_ h9_ h10_ h11_
    have HO258 := n0_
    have HO263 := n1_
    have BK253 := n2_
    have BK254 := n3_
    have BK265 := n4_
    have GW265 := n5_
    have GE265 := n6_
    have NB253_265 := n7_
    have NB265_253 := n8_
    have NB254_265 := n9_
    have NB265_254 := n10_
    have HB := n11_
    clear n0_ n1_ n2_ n3_ n4_ n5_ n6_ n7_ n8_ n9_ n10_ n11_
    have hHeld : w29.cell? ⟨gb253, 0, none⟩ = some (.slice A0_0 l0_0.length c0_0) ∧ w29.cell? ⟨gb254, 0, none⟩ = some (.int .i64 a1_0) ∧ w29.cell? ⟨gb254, 1, none⟩ = some (.int .i64 a1_1) := hS_
    obtain ⟨Ao30, co30, eo30⟩ := Kd.R_slice HO263.out
    (first | subst eo30 | (injection eo30 with f1_ f2_ f3_; have f4_ := f1_.symm; have f5_ := f3_.symm; clear f1_ f2_ f3_; subst f4_; subst f5_))
    refine norm_ (a' := ?_) ?_ ?_
    rotate_left
    · simp only [putAll, Act.put, List.setIfInBounds_toArray, List.set_cons_zero, List.set_cons_succ]
      rfl
    refine one_ (i := 10) (N := none) #[Y,Y,Y,Y,Y,Y,Y,Y,Y,Y,Y,Z] rfl rfl (one_of HT_.out (by kernel_rfl)) (by decide) (fun K hK => ?_)
    have hs31 : w29.cell? ⟨gb265, 0, none⟩ = some (.slice none 0 0) := (blk_cell BK265.out 0).trans rfl
    have hfs31 := blk_frozen BK265.out 0
    have hns31_0 := NB253_265.out
    have hns31_1 := NB254_265.out
    have hms31_0 := NB265_253.out
    have hms31_1 := NB265_254.out
    refine skip_ (w1 := ?_) (by rfl) rfl ?_ ?_
    rotate_left
    · go_simp
      rfl
    refine hK.out _ _ ⟨((cell_far (p := ⟨gb265, _, none⟩) NB253_265.out _).trans (hHeld.1)), ((cell_far (p := ⟨gb265, _, none⟩) NB254_265.out _).trans (hHeld.2.1)), ((cell_far (p := ⟨gb265, _, none⟩) NB254_265.out _).trans (hHeld.2.2))⟩ (fun hHeld => ?_)
    clear hK K
    refine pz (i := 11) (N := some 9) #[Y,Y,Y,Y,Y,Y,Y,Y,Y,Y,Y,Y] (any_of HT_.out (by kernel_rfl)) ?_
    refine done_ (done_of HT_.out (by kernel_rfl)) ?_
    have hnb32 := NB253_265.out
    have hnc32 := NB265_253.out
    have hcz33_0 : w29.cell? ⟨gb253, 0, none⟩ = some (.slice A0_0 l0_0.length c0_0) := (blk_cell BK253.out 0).trans rfl
    have hfz33_0 := blk_frozen BK253.out 0
    try go_wp2_with (first | ((with_reducible refine gate_callee (f := 33) rfl ?_); refine goesL_ (some 33) rfl rfl Try.func33 (by kernel_rfl) rfl #[.agg #[.slice A0_0 l0_0.length c0_0]] rfl (by (try simp only [List.map_toArray, List.map_cons, List.map_nil]); first | done | rfl | (simp only [List.length_drop, List.length_take]; rfl)) ?_; (with_reducible refine (laws_toTrie.calls k _ _ l0_0 t266 _ ?side1 ?side2 A14.out).mono ?_); (case side1 => exact Kd.C_below HR0_0.out (zh3 HB GE253 GE254 GE265)); (case side2 => exact HC0_0.out); rintro e w34 ⟨v267, rfl, ho0, hb⟩; refine ⟨_, rfl, ?_⟩; have HO268 := Aside0.mk (Kd.R_lower (Kd.R_new' (Kd.R_new' ho0 (Kd.R_lt (by (with_reducible repeat (first | apply Kd.R_alloc | apply Kd.R_drewN | apply Kd.R_drew)); exact (Kd.R_mono (Kd.R_far (p := ⟨gb265, 0, none⟩) (Kd.R_types HO258.out BK265.out (by decide)) (fun _ hk => hk.2) (.slice Ao30 t261.length co30)) (fun _ h_ => h_.1))))) (Kd.R_lt (by (with_reducible repeat (first | apply Kd.R_alloc | apply Kd.R_drewN | apply Kd.R_drew)); exact (Kd.R_mono (Kd.R_far (p := ⟨gb265, 0, none⟩) (Kd.R_types HO263.out BK265.out (by decide)) (fun _ hk => hk.2) (.slice Ao30 t261.length co30)) (fun _ h_ => h_.1))))) (below_size (zh3 HB GE253 GE254 GE265))); replace HO258 := Aside0.mk (Kd.R_elder' (by (with_reducible repeat (first | apply Kd.R_alloc | apply Kd.R_drewN | apply Kd.R_drew)); exact (Kd.R_mono (Kd.R_far (p := ⟨gb265, 0, none⟩) (Kd.R_types HO258.out BK265.out (by decide)) (fun _ hk => hk.2) (.slice Ao30 t261.length co30)) (fun _ h_ => h_.1))) (Kd.R_base ho0) hb); replace HO263 := Aside0.mk (Kd.R_elder' (by (with_reducible repeat (first | apply Kd.R_alloc | apply Kd.R_drewN | apply Kd.R_drew)); exact (Kd.R_mono (Kd.R_far (p := ⟨gb265, 0, none⟩) (Kd.R_types HO263.out BK265.out (by decide)) (fun _ hk => hk.2) (.slice Ao30 t261.length co30)) (fun _ h_ => h_.1))) (Kd.R_base ho0) hb); replace BK253 := Aside0.mk (blk_below (g := gb253) (o := .cells #[.slice A0_0 l0_0.length c0_0] 50 (0, 0)) (by (with_reducible repeat (first | refine blk_drewN ?_ _ | refine blk_drew ?_ | refine blk_alloc ?_ _)); refine blk_far ?_ NB253_265.out _; (with_reducible repeat (first | refine blk_drewN ?_ _ | refine blk_drew ?_ | refine blk_alloc ?_ _)); exact BK253.out) hb); replace BK254 := Aside0.mk (blk_below (g := gb254) (o := .cells #[.int .i64 a1_0, .int .i64 a1_1] 33 (0, 0)) (by (with_reducible repeat (first | refine blk_drewN ?_ _ | refine blk_drew ?_ | refine blk_alloc ?_ _)); refine blk_far ?_ NB254_265.out _; (with_reducible repeat (first | refine blk_drewN ?_ _ | refine blk_drew ?_ | refine blk_alloc ?_ _)); exact BK254.out) hb); replace BK265 := Aside0.mk (blk_below (g := gb265) (o := .cells #[.slice Ao30 t261.length co30] 55 (0, 0)) (by (with_reducible repeat (first | refine blk_drewN ?_ _ | refine blk_drew ?_ | refine blk_alloc ?_ _)); refine blk_put (cs := #[.slice none 0 0]) ?_ 0 _ rfl; (with_reducible repeat (first | refine blk_drewN ?_ _ | refine blk_drew ?_ | refine blk_alloc ?_ _)); exact BK265.out) hb); replace HB := Aside0.mk (below_step (zh3 HB GE253 GE254 GE265) hb); (try clear hb); (try clear hb2); (try clear hk); (try clear hi); (try clear ho0)) | ((with_reducible refine gate_dst (N := 10) rfl ?_); refine box_event ?hg (N := 10) ?hd (cs := #[.slice none 0 0]) (t := 55) ?hr ?_; (case hd => rfl); (case hg => rfl); (case hr => first | (go_simp; done) | (go_simp; rfl)); intro gb269 hg w35 hbox hb; replace HO258 := Aside0.mk (Kd.R_below (zr HO258) hb); replace HO263 := Aside0.mk (Kd.R_below (zr HO263) hb); replace HO268 := Aside0.mk (Kd.R_below (zr HO268) hb); have BK269 := Aside0.mk (hbox); have GW269 := Aside0.mk ((by rw [hg]; exact (below_size (zh3 HB GE253 GE254 GE265)) : w.heap.size ≤ gb269)); have GE269 := Aside0.mk ((by rw [hg]; exact (below_size (zh3 HB GE253 GE254 GE265)) : w.heap.size ≤ gb269)); replace HB := Aside0.mk (below_step (zh3 HB GE253 GE254 GE265) hb); have NB253_269 := Aside0.mk ((by rw [hg]; exact Nat.ne_of_lt (blk_lt (g := gb253) (o := .cells #[.slice A0_0 l0_0.length c0_0] 50 (0, 0)) (zb BK253)) : gb253 ≠ gb269)); have NB269_253 := Aside0.mk ((by rw [hg]; exact Nat.ne_of_gt (blk_lt (g := gb253) (o := .cells #[.slice A0_0 l0_0.length c0_0] 50 (0, 0)) (zb BK253)) : gb269 ≠ gb253)); replace BK253 := zk BK253 hb; have NB254_269 := Aside0.mk ((by rw [hg]; exact Nat.ne_of_lt (blk_lt (g := gb254) (o := .cells #[.int .i64 a1_0, .int .i64 a1_1] 33 (0, 0)) (zb BK254)) : gb254 ≠ gb269)); have NB269_254 := Aside0.mk ((by rw [hg]; exact Nat.ne_of_gt (blk_lt (g := gb254) (o := .cells #[.int .i64 a1_0, .int .i64 a1_1] 33 (0, 0)) (zb BK254)) : gb269 ≠ gb254)); replace BK254 := zk BK254 hb; have NB265_269 := Aside0.mk ((by rw [hg]; exact Nat.ne_of_lt (blk_lt (g := gb265) (o := .cells #[.slice Ao30 t261.length co30] 55 (0, 0)) (zb BK265)) : gb265 ≠ gb269)); have NB269_265 := Aside0.mk ((by rw [hg]; exact Nat.ne_of_gt (blk_lt (g := gb265) (o := .cells #[.slice Ao30 t261.length co30] 55 (0, 0)) (zb BK265)) : gb269 ≠ gb265)); replace BK265 := zk BK265 hb; clear hb hbox hg; obtain ⟨Ao36, co36, eo36⟩ := Kd.R_slice HO268.out; subst eo36; have hnb37 := NB269_253.out; have hnc37 := NB253_269.out; have hnb38 := NB269_254.out; have hnc38 := NB254_269.out; have hnb39 := NB269_265.out; have hnc39 := NB265_269.out; have hcz40_0 : w35.cell? ⟨gb269, 0, none⟩ = some (.slice none 0 0) := (blk_cell BK269.out 0).trans rfl; have hfz40_0 := blk_frozen BK269.out 0))
    have n0_ : Aside0 (Kd.R k104 104 (w35.setCell ⟨gb269, 0, none⟩ (.slice Ao36 t266.length co36)) w.heap.size (fun k_ => some k_ ≠ (.slice Ao30 t261.length co30 : Value).ownBlock ∧ some k_ ≠ (.slice Ao36 t266.length co36 : Value).ownBlock) v257 t256) := ⟨by (with_reducible repeat (first | apply Kd.R_alloc | apply Kd.R_drewN | apply Kd.R_drew)); exact Kd.R_mono (Kd.R_far (p := ⟨gb269, 0, none⟩) (Kd.R_types HO258.out BK269.out (by decide)) (fun _ hk => hk.2) (.slice Ao36 t266.length co36)) (fun _ hk => ⟨hk.1.1, hk.1.2⟩)⟩
    have n1_ : Aside0 (Kd.R k104 104 (w35.setCell ⟨gb269, 0, none⟩ (.slice Ao36 t266.length co36)) w.heap.size (fun k_ => some k_ ≠ (v257 : Value).ownBlock ∧ some k_ ≠ (.slice Ao36 t266.length co36 : Value).ownBlock) (.slice Ao30 t261.length co30) t261) := ⟨by (with_reducible repeat (first | apply Kd.R_alloc | apply Kd.R_drewN | apply Kd.R_drew)); exact Kd.R_mono (Kd.R_far (p := ⟨gb269, 0, none⟩) (Kd.R_types HO263.out BK269.out (by decide)) (fun _ hk => hk.2) (.slice Ao36 t266.length co36)) (fun _ hk => ⟨hk.1.1, hk.1.2⟩)⟩
    have n2_ : Aside0 (Kd.R k104 104 (w35.setCell ⟨gb269, 0, none⟩ (.slice Ao36 t266.length co36)) w.heap.size (fun k_ => some k_ ≠ (v257 : Value).ownBlock ∧ some k_ ≠ (.slice Ao30 t261.length co30 : Value).ownBlock) (.slice Ao36 t266.length co36) t266) := ⟨by (with_reducible repeat (first | apply Kd.R_alloc | apply Kd.R_drewN | apply Kd.R_drew)); exact Kd.R_mono (Kd.R_far (p := ⟨gb269, 0, none⟩) (Kd.R_types HO268.out BK269.out (by decide)) (fun _ hk => hk.2) (.slice Ao36 t266.length co36)) (fun _ hk => ⟨hk.1.1.2, hk.1.2⟩)⟩
    have n3_ : Aside0 ((w35.setCell ⟨gb269, 0, none⟩ (.slice Ao36 t266.length co36)).heap[gb253]? = some (.cells #[.slice A0_0 l0_0.length c0_0] 50 (0, 0))) := ⟨by (with_reducible repeat (first | refine blk_drewN ?_ _ | refine blk_drew ?_ | refine blk_alloc ?_ _)); refine blk_far ?_ NB253_269.out _; (with_reducible repeat (first | refine blk_drewN ?_ _ | refine blk_drew ?_ | refine blk_alloc ?_ _)); exact BK253.out⟩
    have n4_ : Aside0 ((w35.setCell ⟨gb269, 0, none⟩ (.slice Ao36 t266.length co36)).heap[gb254]? = some (.cells #[.int .i64 a1_0, .int .i64 a1_1] 33 (0, 0))) := ⟨by (with_reducible repeat (first | refine blk_drewN ?_ _ | refine blk_drew ?_ | refine blk_alloc ?_ _)); refine blk_far ?_ NB254_269.out _; (with_reducible repeat (first | refine blk_drewN ?_ _ | refine blk_drew ?_ | refine blk_alloc ?_ _)); exact BK254.out⟩
    have n5_ : Aside0 ((w35.setCell ⟨gb269, 0, none⟩ (.slice Ao36 t266.length co36)).heap[gb265]? = some (.cells #[.slice Ao30 t261.length co30] 55 (0, 0))) := ⟨by (with_reducible repeat (first | refine blk_drewN ?_ _ | refine blk_drew ?_ | refine blk_alloc ?_ _)); refine blk_far ?_ NB265_269.out _; (with_reducible repeat (first | refine blk_drewN ?_ _ | refine blk_drew ?_ | refine blk_alloc ?_ _)); exact BK265.out⟩
    have n6_ : Aside0 ((w35.setCell ⟨gb269, 0, none⟩ (.slice Ao36 t266.length co36)).heap[gb269]? = some (.cells #[.slice Ao36 t266.length co36] 55 (0, 0))) := ⟨by (with_reducible repeat (first | refine blk_drewN ?_ _ | refine blk_drew ?_ | refine blk_alloc ?_ _)); refine blk_put (cs := #[.slice none 0 0]) ?_ 0 _ rfl; (with_reducible repeat (first | refine blk_drewN ?_ _ | refine blk_drew ?_ | refine blk_alloc ?_ _)); exact BK269.out⟩
    have n7_ : Aside0 (Below w.heap.size w (w35.setCell ⟨gb269, 0, none⟩ (.slice Ao36 t266.length co36))) := ⟨zh4 HB GE253 GE254 GE265 GE269⟩
    (try clear HO258)
    (try clear HO263)
    (try clear HO268)
    (try clear BK253)
    (try clear BK254)
    (try clear BK265)
    (try clear BK269)
    (try clear HB)
    generalize (w35.setCell ⟨gb269, 0, none⟩ (.slice Ao36 t266.length co36)) = w41 at n0_ n1_ n2_ n3_ n4_ n5_ n6_ n7_ ⊢
    have HO258 := n0_
    have HO263 := n1_
    have HO268 := n2_
    have BK253 := n3_
    have BK254 := n4_
    have BK265 := n5_
    have BK269 := n6_
    have HB := n7_
    clear n0_ n1_ n2_ n3_ n4_ n5_ n6_ n7_
    replace HO258 := Aside0.mk (Kd.R_drew HO258.out)
    replace HO263 := Aside0.mk (Kd.R_drew HO263.out)
    replace HO268 := Aside0.mk (Kd.R_drew HO268.out)
    replace BK253 := Aside0.mk (blk_drew BK253.out)
    replace BK254 := Aside0.mk (blk_drew BK254.out)
    replace BK265 := Aside0.mk (blk_drew BK265.out)
    replace BK269 := Aside0.mk (blk_drew BK269.out)
    replace HB := Aside0.mk (below_drew1 HB.out)
    refine start_ (n := 11) (S := fun w' => w'.cell? ⟨gb269, 0, none⟩ = some (.slice Ao36 t266.length co36) ∧ w'.cell? ⟨gb254, 0, none⟩ = some (.int .i64 a1_0) ∧ w'.cell? ⟨gb254, 1, none⟩ = some (.int .i64 a1_1)) (ds := []) #[Z,Z,Z,Z,Z,Z,Z,Z,Z,Z,Z] (by kernel_rfl) rfl rfl ⟨(blk_cell BK269.out 0).trans rfl, (blk_cell BK254.out 0).trans rfl, (blk_cell BK254.out 1).trans rfl⟩ (fun hHeld => ?_); refine with_tabW laws_FnExactTriePut.tab7 laws_FnExactTriePut.bits7 (fun HT_ HW_ => ?_)
    generalize w41.drew = w42 at HO258 HO263 HO268 BK253 BK254 BK265 BK269 HB hHeld ⊢
    refine pz (i := 3) (N := some 38) #[Z,Z,Z,Y,Z,Z,Z,Z,Z,Z,Z] (any_of HT_.out (by kernel_rfl)) ?_
    refine tz (i := 0) (N := some 35) #[Y,Z,Z,Y,Z,Z,Z,Z,Z,Z,Z] rfl (take_ofW HT_.out HW_.out (by kernel_rfl)) (Or.inl ⟨by rfl, by rintro w' ⟨s0, s1, s2⟩; go_simp; with_reducible rfl⟩) hHeld ?_
    refine tz (i := 1) (N := some 36) #[Y,Y,Z,Y,Z,Z,Z,Z,Z,Z,Z] rfl (take_ofW HT_.out HW_.out (by kernel_rfl)) (Or.inl ⟨by rfl, by rintro w' ⟨s0, s1, s2⟩; go_simp; with_reducible rfl⟩) hHeld ?_
    refine join_ (σ := Value × Nat) 2 #[Y,Y,Y,Y,Y,Y,Y,Y,Y,Z,Z] (fun s_ => [(37, .agg #[.int .i64 t270, .int .i64 t271]), (39, .tuple #[.agg #[s_.1], .bool t275]), (11, .pointer (some ⟨s_.2, 0, none⟩)), (34, .tuple #[.agg #[s_.1], .bool t275]), (40, .agg #[s_.1]), (41, .bool t275)]) (fun s_ w' => (w'.cell? ⟨gb269, 0, none⟩ = some (.slice Ao36 t266.length co36) ∧ w'.cell? ⟨gb254, 0, none⟩ = some (.int .i64 a1_0) ∧ w'.cell? ⟨gb254, 1, none⟩ = some (.int .i64 a1_1)) ∧ (Kd.R k104 104 w' w.heap.size (fun k_ => some k_ ≠ (.slice Ao30 t261.length co30 : Value).ownBlock ∧ some k_ ≠ (.slice Ao36 t266.length co36 : Value).ownBlock ∧ some k_ ≠ (s_.1 : Value).ownBlock) v257 t256) ∧ (Kd.R k104 104 w' w.heap.size (fun k_ => some k_ ≠ (v257 : Value).ownBlock ∧ some k_ ≠ (.slice Ao36 t266.length co36 : Value).ownBlock ∧ some k_ ≠ (s_.1 : Value).ownBlock) (.slice Ao30 t261.length co30) t261) ∧ (Kd.R k104 104 w' w.heap.size (fun k_ => some k_ ≠ (v257 : Value).ownBlock ∧ some k_ ≠ (.slice Ao30 t261.length co30 : Value).ownBlock ∧ some k_ ≠ (s_.1 : Value).ownBlock) (.slice Ao36 t266.length co36) t266) ∧ (Kd.R k104 104 w' w.heap.size (fun k_ => some k_ ≠ (v257 : Value).ownBlock ∧ some k_ ≠ (.slice Ao30 t261.length co30 : Value).ownBlock ∧ some k_ ≠ (.slice Ao36 t266.length co36 : Value).ownBlock) s_.1 t272) ∧ (w'.heap[gb253]? = some (.cells #[.slice A0_0 l0_0.length c0_0] 50 (0, 0))) ∧ (w'.heap[gb254]? = some (.cells #[.int .i64 a1_0, .int .i64 a1_1] 33 (0, 0))) ∧ (w'.heap[gb265]? = some (.cells #[.slice Ao30 t261.length co30] 55 (0, 0))) ∧ (w'.heap[gb269]? = some (.cells #[.slice Ao36 t266.length co36] 55 (0, 0))) ∧ (w'.heap[s_.2]? = some (.cells #[.slice none 0 0] 55 (0, 0))) ∧ (w.heap.size ≤ s_.2) ∧ (w.heap.size ≤ s_.2) ∧ (gb253 ≠ s_.2) ∧ (s_.2 ≠ gb253) ∧ (gb254 ≠ s_.2) ∧ (s_.2 ≠ gb254) ∧ (gb265 ≠ s_.2) ∧ (s_.2 ≠ gb265) ∧ (gb269 ≠ s_.2) ∧ (s_.2 ≠ gb269) ∧ (Below w.heap.size w w')) ?_ ?_
    rotate_left
    · intro hCont
      refine two_ (i := 2) (j := 8) (Ni := some 37) (Nj := some 11) #[Y,Y,Y,Y,Z,Z,Z,Z,Z,Z,Z] #[Y,Y,Z,Y,Z,Z,Z,Z,Y,Z,Z] rfl rfl rfl rfl (two_of HT_.out (by kernel_rfl)) (by decide) (by decide) (fun K hK => ?_) (fun K hK => ?_)
      · skip
        refine goes_ Try.func40 (by kernel_rfl) rfl #[.agg #[.int .i64 a1_0, .int .i64 a1_1]] (by rfl) rfl rfl (by (try simp only [List.map_toArray, List.map_cons, List.map_nil]); first | done | rfl | (simp only [List.length_drop, List.length_take]; rfl)) ?_
        with_reducible refine (laws_toPrefix.calls a1_0 a1_1 t270 t271 _ A15.out).mono ?_
        rintro e w43 ⟨rfl, hb⟩
        refine ⟨_, rfl, ?_⟩
        replace HO258 := Aside0.mk (Kd.R_below (zr HO258) hb)
        replace HO263 := Aside0.mk (Kd.R_below (zr HO263) hb)
        replace HO268 := Aside0.mk (Kd.R_below (zr HO268) hb)
        replace BK253 := zk BK253 hb
        replace BK254 := zk BK254 hb
        replace BK265 := zk BK265 hb
        replace BK269 := zk BK269 hb
        replace HB := Aside0.mk (below_step (zh4 HB GE253 GE254 GE265 GE269) hb)
        (try clear hb)
        (try clear hb2)
        (try clear hk)
        (try clear hi)
        refine hK.out _ _ ⟨(blk_cell BK269.out 0).trans rfl, (blk_cell BK254.out 0).trans rfl, (blk_cell BK254.out 1).trans rfl⟩ (fun hHeld => ?_)
        clear hK K
        refine norm_ (a' := ?_) ?_ ?_
        rotate_left
        · show Act.put _ (some 37) _ = _
          simp only [Act.put, List.setIfInBounds_toArray, List.set_cons_zero, List.set_cons_succ, i64_w, i32_w]
          rfl
        refine two_ (i := 4) (j := 8) (Ni := some 39) (Nj := some 11) #[Y,Y,Y,Y,Y,Z,Z,Z,Z,Z,Z] #[Y,Y,Y,Y,Z,Z,Z,Z,Y,Z,Z] rfl rfl rfl rfl (two_of HT_.out (by kernel_rfl)) (by decide) (by decide) (fun K hK => ?_) (fun K hK => ?_)
        · skip
          refine goes_ Try.func45 (by kernel_rfl) rfl #[.agg #[.slice Ao36 t266.length co36], .agg #[.int .i64 t270, .int .i64 t271], .int .i64 a2] (by rfl) rfl rfl (by (try simp only [List.map_toArray, List.map_cons, List.map_nil]); first | done | rfl | (simp only [List.length_drop, List.length_take]; rfl)) ?_
          with_reducible refine (impl_TriePut.calls k _ _ t266 t270 t271 a2 t272 t275 _ ?side1 ?side2 A16.out).mono ?_
          (case side1 => repeat (first | exact (Kd.R_reads' HO268.out).2.2 | (with_reducible refine Kd.C_alloc ?_ _) | (with_reducible refine Kd.C_drewN ?_ _) | (with_reducible refine Kd.C_drew ?_)))
          (case side2 => exact (Kd.R_reads' HO268.out).2.1)
          rintro e w44 ⟨v273, rfl, ho0, hb⟩
          refine ⟨_, rfl, ?_⟩
          have HO274 := Aside0.mk (Kd.R_lower (Kd.R_new' (Kd.R_new' (Kd.R_new' ho0 (Kd.R_lt (zr HO258))) (Kd.R_lt (zr HO263))) (Kd.R_lt (zr HO268))) (below_size (zh4 HB GE253 GE254 GE265 GE269)))
          replace HO258 := Aside0.mk (Kd.R_elder' (zr HO258) (Kd.R_base ho0) hb)
          replace HO263 := Aside0.mk (Kd.R_elder' (zr HO263) (Kd.R_base ho0) hb)
          replace HO268 := Aside0.mk (Kd.R_elder' (zr HO268) (Kd.R_base ho0) hb)
          replace BK253 := zk BK253 hb
          replace BK254 := zk BK254 hb
          replace BK265 := zk BK265 hb
          replace BK269 := zk BK269 hb
          replace HB := Aside0.mk (below_step (zh4 HB GE253 GE254 GE265 GE269) hb)
          (try clear hb)
          (try clear hb2)
          (try clear hk)
          (try clear hi)
          (try clear ho0)
          refine hK.out _ _ ⟨(blk_cell BK269.out 0).trans rfl, (blk_cell BK254.out 0).trans rfl, (blk_cell BK254.out 1).trans rfl⟩ (fun hHeld => ?_)
          clear hK K
          refine norm_ (a' := ?_) ?_ ?_
          rotate_left
          · show Act.put _ (some 39) _ = _
            simp only [Act.put, List.setIfInBounds_toArray, List.set_cons_zero, List.set_cons_succ, i64_w, i32_w]
            rfl
          refine pz (i := 5) (N := some 34) #[Y,Y,Y,Y,Y,Y,Z,Z,Z,Z,Z] (any_of HT_.out (by kernel_rfl)) ?_
          refine pz (i := 6) (N := some 40) #[Y,Y,Y,Y,Y,Y,Y,Z,Z,Z,Z] (any_of HT_.out (by kernel_rfl)) ?_
          refine pz (i := 7) (N := some 41) #[Y,Y,Y,Y,Y,Y,Y,Y,Z,Z,Z] (any_of HT_.out (by kernel_rfl)) ?_
          refine one_ (i := 8) (N := some 11) #[Y,Y,Y,Y,Y,Y,Y,Y,Y,Z,Z] rfl rfl (one_of HT_.out (by kernel_rfl)) (by decide) (fun K hK => ?_)
          refine box_step ?hg (N := 11) ?hd (cs := #[.slice none 0 0]) (t := 55) ?hr ?_; (case hd => rfl); (case hg => rfl); (case hr => first | (go_simp; done) | (go_simp; rfl))
          intro gb276 hg w45 hbox hb
          replace HO258 := Aside0.mk (Kd.R_below (zr HO258) hb)
          replace HO263 := Aside0.mk (Kd.R_below (zr HO263) hb)
          replace HO268 := Aside0.mk (Kd.R_below (zr HO268) hb)
          replace HO274 := Aside0.mk (Kd.R_below (zr HO274) hb)
          have BK276 := Aside0.mk (hbox)
          have GW276 := Aside0.mk ((by rw [hg]; exact (below_size (zh4 HB GE253 GE254 GE265 GE269)) : w.heap.size ≤ gb276))
          have GE276 := Aside0.mk ((by rw [hg]; exact (below_size (zh4 HB GE253 GE254 GE265 GE269)) : w.heap.size ≤ gb276))
          replace HB := Aside0.mk (below_step (zh4 HB GE253 GE254 GE265 GE269) hb)
          have NB253_276 := Aside0.mk ((by rw [hg]; exact Nat.ne_of_lt (blk_lt (g := gb253) (o := .cells #[.slice A0_0 l0_0.length c0_0] 50 (0, 0)) (zb BK253)) : gb253 ≠ gb276))
          have NB276_253 := Aside0.mk ((by rw [hg]; exact Nat.ne_of_gt (blk_lt (g := gb253) (o := .cells #[.slice A0_0 l0_0.length c0_0] 50 (0, 0)) (zb BK253)) : gb276 ≠ gb253))
          replace BK253 := zk BK253 hb
          have NB254_276 := Aside0.mk ((by rw [hg]; exact Nat.ne_of_lt (blk_lt (g := gb254) (o := .cells #[.int .i64 a1_0, .int .i64 a1_1] 33 (0, 0)) (zb BK254)) : gb254 ≠ gb276))
          have NB276_254 := Aside0.mk ((by rw [hg]; exact Nat.ne_of_gt (blk_lt (g := gb254) (o := .cells #[.int .i64 a1_0, .int .i64 a1_1] 33 (0, 0)) (zb BK254)) : gb276 ≠ gb254))
          replace BK254 := zk BK254 hb
          have NB265_276 := Aside0.mk ((by rw [hg]; exact Nat.ne_of_lt (blk_lt (g := gb265) (o := .cells #[.slice Ao30 t261.length co30] 55 (0, 0)) (zb BK265)) : gb265 ≠ gb276))
          have NB276_265 := Aside0.mk ((by rw [hg]; exact Nat.ne_of_gt (blk_lt (g := gb265) (o := .cells #[.slice Ao30 t261.length co30] 55 (0, 0)) (zb BK265)) : gb276 ≠ gb265))
          replace BK265 := zk BK265 hb
          have NB269_276 := Aside0.mk ((by rw [hg]; exact Nat.ne_of_lt (blk_lt (g := gb269) (o := .cells #[.slice Ao36 t266.length co36] 55 (0, 0)) (zb BK269)) : gb269 ≠ gb276))
          have NB276_269 := Aside0.mk ((by rw [hg]; exact Nat.ne_of_gt (blk_lt (g := gb269) (o := .cells #[.slice Ao36 t266.length co36] 55 (0, 0)) (zb BK269)) : gb276 ≠ gb269))
          replace BK269 := zk BK269 hb
          clear hb hbox hg
          refine hK.out _ _ ⟨(blk_cell BK269.out 0).trans rfl, (blk_cell BK254.out 0).trans rfl, (blk_cell BK254.out 1).trans rfl⟩ (fun hHeld => ?_)
          clear hK K
          refine norm_ (a' := ?_) ?_ ?_
          rotate_left
          · show Act.put _ (some 11) _ = _
            simp only [Act.put, List.setIfInBounds_toArray, List.set_cons_zero, List.set_cons_succ, i64_w, i32_w]
            rfl
          exact norm_ (by simp only [putAll, Act.put, List.setIfInBounds_toArray, List.set_cons_zero, List.set_cons_succ]) (hCont (v273, gb276) _ ⟨hHeld, (by (with_reducible repeat (first | apply Kd.R_alloc | apply Kd.R_drewN | apply Kd.R_drew)); exact Kd.R_mono HO258.out (fun _ hk => ⟨hk.1.1, ⟨hk.1.2, hk.2⟩⟩)), (by (with_reducible repeat (first | apply Kd.R_alloc | apply Kd.R_drewN | apply Kd.R_drew)); exact Kd.R_mono HO263.out (fun _ hk => ⟨hk.1.1, ⟨hk.1.2, hk.2⟩⟩)), (by (with_reducible repeat (first | apply Kd.R_alloc | apply Kd.R_drewN | apply Kd.R_drew)); exact Kd.R_mono HO268.out (fun _ hk => ⟨hk.1.1, ⟨hk.1.2, hk.2⟩⟩)), (by (with_reducible repeat (first | apply Kd.R_alloc | apply Kd.R_drewN | apply Kd.R_drew)); exact Kd.R_mono HO274.out (fun _ hk => ⟨hk.1.1.2, ⟨hk.1.2, hk.2⟩⟩)), (zb BK253), (zb BK254), (zb BK265), (zb BK269), (zb BK276), GW276.out, GE276.out, NB253_276.out, NB276_253.out, NB254_276.out, NB276_254.out, NB265_276.out, NB276_265.out, NB269_276.out, NB276_269.out, (zh5 HB GE253 GE254 GE265 GE269 GE276)⟩)
        · skip
          refine box_step ?hg (N := 11) ?hd (cs := #[.slice none 0 0]) (t := 55) ?hr ?_; (case hd => rfl); (case hg => rfl); (case hr => first | (go_simp; done) | (go_simp; rfl))
          intro gb276 hg w44 hbox hb
          replace HO258 := Aside0.mk (Kd.R_below (zr HO258) hb)
          replace HO263 := Aside0.mk (Kd.R_below (zr HO263) hb)
          replace HO268 := Aside0.mk (Kd.R_below (zr HO268) hb)
          have BK276 := Aside0.mk (hbox)
          have GW276 := Aside0.mk ((by rw [hg]; exact (below_size (zh4 HB GE253 GE254 GE265 GE269)) : w.heap.size ≤ gb276))
          have GE276 := Aside0.mk ((by rw [hg]; exact (below_size (zh4 HB GE253 GE254 GE265 GE269)) : w.heap.size ≤ gb276))
          replace HB := Aside0.mk (below_step (zh4 HB GE253 GE254 GE265 GE269) hb)
          have NB253_276 := Aside0.mk ((by rw [hg]; exact Nat.ne_of_lt (blk_lt (g := gb253) (o := .cells #[.slice A0_0 l0_0.length c0_0] 50 (0, 0)) (zb BK253)) : gb253 ≠ gb276))
          have NB276_253 := Aside0.mk ((by rw [hg]; exact Nat.ne_of_gt (blk_lt (g := gb253) (o := .cells #[.slice A0_0 l0_0.length c0_0] 50 (0, 0)) (zb BK253)) : gb276 ≠ gb253))
          replace BK253 := zk BK253 hb
          have NB254_276 := Aside0.mk ((by rw [hg]; exact Nat.ne_of_lt (blk_lt (g := gb254) (o := .cells #[.int .i64 a1_0, .int .i64 a1_1] 33 (0, 0)) (zb BK254)) : gb254 ≠ gb276))
          have NB276_254 := Aside0.mk ((by rw [hg]; exact Nat.ne_of_gt (blk_lt (g := gb254) (o := .cells #[.int .i64 a1_0, .int .i64 a1_1] 33 (0, 0)) (zb BK254)) : gb276 ≠ gb254))
          replace BK254 := zk BK254 hb
          have NB265_276 := Aside0.mk ((by rw [hg]; exact Nat.ne_of_lt (blk_lt (g := gb265) (o := .cells #[.slice Ao30 t261.length co30] 55 (0, 0)) (zb BK265)) : gb265 ≠ gb276))
          have NB276_265 := Aside0.mk ((by rw [hg]; exact Nat.ne_of_gt (blk_lt (g := gb265) (o := .cells #[.slice Ao30 t261.length co30] 55 (0, 0)) (zb BK265)) : gb276 ≠ gb265))
          replace BK265 := zk BK265 hb
          have NB269_276 := Aside0.mk ((by rw [hg]; exact Nat.ne_of_lt (blk_lt (g := gb269) (o := .cells #[.slice Ao36 t266.length co36] 55 (0, 0)) (zb BK269)) : gb269 ≠ gb276))
          have NB276_269 := Aside0.mk ((by rw [hg]; exact Nat.ne_of_gt (blk_lt (g := gb269) (o := .cells #[.slice Ao36 t266.length co36] 55 (0, 0)) (zb BK269)) : gb276 ≠ gb269))
          replace BK269 := zk BK269 hb
          clear hb hbox hg
          refine hK.out _ _ ⟨(blk_cell BK269.out 0).trans rfl, (blk_cell BK254.out 0).trans rfl, (blk_cell BK254.out 1).trans rfl⟩ (fun hHeld => ?_)
          clear hK K
          refine norm_ (a' := ?_) ?_ ?_
          rotate_left
          · show Act.put _ (some 11) _ = _
            simp only [Act.put, List.setIfInBounds_toArray, List.set_cons_zero, List.set_cons_succ, i64_w, i32_w]
            rfl
          refine one_ (i := 4) (N := some 39) #[Y,Y,Y,Y,Y,Z,Z,Z,Y,Z,Z] rfl rfl (one_of HT_.out (by kernel_rfl)) (by decide) (fun K hK => ?_)
          refine goes_ Try.func45 (by kernel_rfl) rfl #[.agg #[.slice Ao36 t266.length co36], .agg #[.int .i64 t270, .int .i64 t271], .int .i64 a2] (by rfl) rfl rfl (by (try simp only [List.map_toArray, List.map_cons, List.map_nil]); first | done | rfl | (simp only [List.length_drop, List.length_take]; rfl)) ?_
          with_reducible refine (impl_TriePut.calls k _ _ t266 t270 t271 a2 t272 t275 _ ?side1 ?side2 A16.out).mono ?_
          (case side1 => repeat (first | exact (Kd.R_reads' HO268.out).2.2 | (with_reducible refine Kd.C_alloc ?_ _) | (with_reducible refine Kd.C_drewN ?_ _) | (with_reducible refine Kd.C_drew ?_)))
          (case side2 => exact (Kd.R_reads' HO268.out).2.1)
          rintro e w45 ⟨v273, rfl, ho0, hb⟩
          refine ⟨_, rfl, ?_⟩
          have HO274 := Aside0.mk (Kd.R_lower (Kd.R_new' (Kd.R_new' (Kd.R_new' ho0 (Kd.R_lt (zr HO258))) (Kd.R_lt (zr HO263))) (Kd.R_lt (zr HO268))) (below_size (zh5 HB GE253 GE254 GE265 GE269 GE276)))
          replace HO258 := Aside0.mk (Kd.R_elder' (zr HO258) (Kd.R_base ho0) hb)
          replace HO263 := Aside0.mk (Kd.R_elder' (zr HO263) (Kd.R_base ho0) hb)
          replace HO268 := Aside0.mk (Kd.R_elder' (zr HO268) (Kd.R_base ho0) hb)
          replace BK253 := zk BK253 hb
          replace BK254 := zk BK254 hb
          replace BK265 := zk BK265 hb
          replace BK269 := zk BK269 hb
          replace BK276 := zk BK276 hb
          replace HB := Aside0.mk (below_step (zh5 HB GE253 GE254 GE265 GE269 GE276) hb)
          (try clear hb)
          (try clear hb2)
          (try clear hk)
          (try clear hi)
          (try clear ho0)
          refine hK.out _ _ ⟨(blk_cell BK269.out 0).trans rfl, (blk_cell BK254.out 0).trans rfl, (blk_cell BK254.out 1).trans rfl⟩ (fun hHeld => ?_)
          clear hK K
          refine norm_ (a' := ?_) ?_ ?_
          rotate_left
          · show Act.put _ (some 39) _ = _
            simp only [Act.put, List.setIfInBounds_toArray, List.set_cons_zero, List.set_cons_succ, i64_w, i32_w]
            rfl
          refine pz (i := 5) (N := some 34) #[Y,Y,Y,Y,Y,Y,Z,Z,Y,Z,Z] (any_of HT_.out (by kernel_rfl)) ?_
          refine pz (i := 6) (N := some 40) #[Y,Y,Y,Y,Y,Y,Y,Z,Y,Z,Z] (any_of HT_.out (by kernel_rfl)) ?_
          refine pz (i := 7) (N := some 41) #[Y,Y,Y,Y,Y,Y,Y,Y,Y,Z,Z] (any_of HT_.out (by kernel_rfl)) ?_
          exact norm_ (by simp only [putAll, Act.put, List.setIfInBounds_toArray, List.set_cons_zero, List.set_cons_succ]) (hCont (v273, gb276) _ ⟨hHeld, (by (with_reducible repeat (first | apply Kd.R_alloc | apply Kd.R_drewN | apply Kd.R_drew)); exact Kd.R_mono HO258.out (fun _ hk => ⟨hk.1.1, ⟨hk.1.2, hk.2⟩⟩)), (by (with_reducible repeat (first | apply Kd.R_alloc | apply Kd.R_drewN | apply Kd.R_drew)); exact Kd.R_mono HO263.out (fun _ hk => ⟨hk.1.1, ⟨hk.1.2, hk.2⟩⟩)), (by (with_reducible repeat (first | apply Kd.R_alloc | apply Kd.R_drewN | apply Kd.R_drew)); exact Kd.R_mono HO268.out (fun _ hk => ⟨hk.1.1, ⟨hk.1.2, hk.2⟩⟩)), (by (with_reducible repeat (first | apply Kd.R_alloc | apply Kd.R_drewN | apply Kd.R_drew)); exact Kd.R_mono HO274.out (fun _ hk => ⟨hk.1.1.2, ⟨hk.1.2, hk.2⟩⟩)), (zb BK253), (zb BK254), (zb BK265), (zb BK269), (zb BK276), GW276.out, GE276.out, NB253_276.out, NB276_253.out, NB254_276.out, NB276_254.out, NB265_276.out, NB276_265.out, NB269_276.out, NB276_269.out, (zh5 HB GE253 GE254 GE265 GE269 GE276)⟩)
      · skip
        refine box_step ?hg (N := 11) ?hd (cs := #[.slice none 0 0]) (t := 55) ?hr ?_; (case hd => rfl); (case hg => rfl); (case hr => first | (go_simp; done) | (go_simp; rfl))
        intro gb276 hg w43 hbox hb
        replace HO258 := Aside0.mk (Kd.R_below (zr HO258) hb)
        replace HO263 := Aside0.mk (Kd.R_below (zr HO263) hb)
        replace HO268 := Aside0.mk (Kd.R_below (zr HO268) hb)
        have BK276 := Aside0.mk (hbox)
        have GW276 := Aside0.mk ((by rw [hg]; exact (below_size (zh4 HB GE253 GE254 GE265 GE269)) : w.heap.size ≤ gb276))
        have GE276 := Aside0.mk ((by rw [hg]; exact (below_size (zh4 HB GE253 GE254 GE265 GE269)) : w.heap.size ≤ gb276))
        replace HB := Aside0.mk (below_step (zh4 HB GE253 GE254 GE265 GE269) hb)
        have NB253_276 := Aside0.mk ((by rw [hg]; exact Nat.ne_of_lt (blk_lt (g := gb253) (o := .cells #[.slice A0_0 l0_0.length c0_0] 50 (0, 0)) (zb BK253)) : gb253 ≠ gb276))
        have NB276_253 := Aside0.mk ((by rw [hg]; exact Nat.ne_of_gt (blk_lt (g := gb253) (o := .cells #[.slice A0_0 l0_0.length c0_0] 50 (0, 0)) (zb BK253)) : gb276 ≠ gb253))
        replace BK253 := zk BK253 hb
        have NB254_276 := Aside0.mk ((by rw [hg]; exact Nat.ne_of_lt (blk_lt (g := gb254) (o := .cells #[.int .i64 a1_0, .int .i64 a1_1] 33 (0, 0)) (zb BK254)) : gb254 ≠ gb276))
        have NB276_254 := Aside0.mk ((by rw [hg]; exact Nat.ne_of_gt (blk_lt (g := gb254) (o := .cells #[.int .i64 a1_0, .int .i64 a1_1] 33 (0, 0)) (zb BK254)) : gb276 ≠ gb254))
        replace BK254 := zk BK254 hb
        have NB265_276 := Aside0.mk ((by rw [hg]; exact Nat.ne_of_lt (blk_lt (g := gb265) (o := .cells #[.slice Ao30 t261.length co30] 55 (0, 0)) (zb BK265)) : gb265 ≠ gb276))
        have NB276_265 := Aside0.mk ((by rw [hg]; exact Nat.ne_of_gt (blk_lt (g := gb265) (o := .cells #[.slice Ao30 t261.length co30] 55 (0, 0)) (zb BK265)) : gb276 ≠ gb265))
        replace BK265 := zk BK265 hb
        have NB269_276 := Aside0.mk ((by rw [hg]; exact Nat.ne_of_lt (blk_lt (g := gb269) (o := .cells #[.slice Ao36 t266.length co36] 55 (0, 0)) (zb BK269)) : gb269 ≠ gb276))
        have NB276_269 := Aside0.mk ((by rw [hg]; exact Nat.ne_of_gt (blk_lt (g := gb269) (o := .cells #[.slice Ao36 t266.length co36] 55 (0, 0)) (zb BK269)) : gb276 ≠ gb269))
        replace BK269 := zk BK269 hb
        clear hb hbox hg
        refine hK.out _ _ ⟨(blk_cell BK269.out 0).trans rfl, (blk_cell BK254.out 0).trans rfl, (blk_cell BK254.out 1).trans rfl⟩ (fun hHeld => ?_)
        clear hK K
        refine norm_ (a' := ?_) ?_ ?_
        rotate_left
        · show Act.put _ (some 11) _ = _
          simp only [Act.put, List.setIfInBounds_toArray, List.set_cons_zero, List.set_cons_succ, i64_w, i32_w]
          rfl
        refine one_ (i := 2) (N := some 37) #[Y,Y,Y,Y,Z,Z,Z,Z,Y,Z,Z] rfl rfl (one_of HT_.out (by kernel_rfl)) (by decide) (fun K hK => ?_)
        refine goes_ Try.func40 (by kernel_rfl) rfl #[.agg #[.int .i64 a1_0, .int .i64 a1_1]] (by rfl) rfl rfl (by (try simp only [List.map_toArray, List.map_cons, List.map_nil]); first | done | rfl | (simp only [List.length_drop, List.length_take]; rfl)) ?_
        with_reducible refine (laws_toPrefix.calls a1_0 a1_1 t270 t271 _ A15.out).mono ?_
        rintro e w44 ⟨rfl, hb⟩
        refine ⟨_, rfl, ?_⟩
        replace HO258 := Aside0.mk (Kd.R_below (zr HO258) hb)
        replace HO263 := Aside0.mk (Kd.R_below (zr HO263) hb)
        replace HO268 := Aside0.mk (Kd.R_below (zr HO268) hb)
        replace BK253 := zk BK253 hb
        replace BK254 := zk BK254 hb
        replace BK265 := zk BK265 hb
        replace BK269 := zk BK269 hb
        replace BK276 := zk BK276 hb
        replace HB := Aside0.mk (below_step (zh5 HB GE253 GE254 GE265 GE269 GE276) hb)
        (try clear hb)
        (try clear hb2)
        (try clear hk)
        (try clear hi)
        refine hK.out _ _ ⟨(blk_cell BK269.out 0).trans rfl, (blk_cell BK254.out 0).trans rfl, (blk_cell BK254.out 1).trans rfl⟩ (fun hHeld => ?_)
        clear hK K
        refine norm_ (a' := ?_) ?_ ?_
        rotate_left
        · show Act.put _ (some 37) _ = _
          simp only [Act.put, List.setIfInBounds_toArray, List.set_cons_zero, List.set_cons_succ, i64_w, i32_w]
          rfl
        refine one_ (i := 4) (N := some 39) #[Y,Y,Y,Y,Y,Z,Z,Z,Y,Z,Z] rfl rfl (one_of HT_.out (by kernel_rfl)) (by decide) (fun K hK => ?_)
        refine goes_ Try.func45 (by kernel_rfl) rfl #[.agg #[.slice Ao36 t266.length co36], .agg #[.int .i64 t270, .int .i64 t271], .int .i64 a2] (by rfl) rfl rfl (by (try simp only [List.map_toArray, List.map_cons, List.map_nil]); first | done | rfl | (simp only [List.length_drop, List.length_take]; rfl)) ?_
        with_reducible refine (impl_TriePut.calls k _ _ t266 t270 t271 a2 t272 t275 _ ?side1 ?side2 A16.out).mono ?_
        (case side1 => repeat (first | exact (Kd.R_reads' HO268.out).2.2 | (with_reducible refine Kd.C_alloc ?_ _) | (with_reducible refine Kd.C_drewN ?_ _) | (with_reducible refine Kd.C_drew ?_)))
        (case side2 => exact (Kd.R_reads' HO268.out).2.1)
        rintro e w45 ⟨v273, rfl, ho0, hb⟩
        refine ⟨_, rfl, ?_⟩
        have HO274 := Aside0.mk (Kd.R_lower (Kd.R_new' (Kd.R_new' (Kd.R_new' ho0 (Kd.R_lt (zr HO258))) (Kd.R_lt (zr HO263))) (Kd.R_lt (zr HO268))) (below_size (zh5 HB GE253 GE254 GE265 GE269 GE276)))
        replace HO258 := Aside0.mk (Kd.R_elder' (zr HO258) (Kd.R_base ho0) hb)
        replace HO263 := Aside0.mk (Kd.R_elder' (zr HO263) (Kd.R_base ho0) hb)
        replace HO268 := Aside0.mk (Kd.R_elder' (zr HO268) (Kd.R_base ho0) hb)
        replace BK253 := zk BK253 hb
        replace BK254 := zk BK254 hb
        replace BK265 := zk BK265 hb
        replace BK269 := zk BK269 hb
        replace BK276 := zk BK276 hb
        replace HB := Aside0.mk (below_step (zh5 HB GE253 GE254 GE265 GE269 GE276) hb)
        (try clear hb)
        (try clear hb2)
        (try clear hk)
        (try clear hi)
        (try clear ho0)
        refine hK.out _ _ ⟨(blk_cell BK269.out 0).trans rfl, (blk_cell BK254.out 0).trans rfl, (blk_cell BK254.out 1).trans rfl⟩ (fun hHeld => ?_)
        clear hK K
        refine norm_ (a' := ?_) ?_ ?_
        rotate_left
        · show Act.put _ (some 39) _ = _
          simp only [Act.put, List.setIfInBounds_toArray, List.set_cons_zero, List.set_cons_succ, i64_w, i32_w]
          rfl
        refine pz (i := 5) (N := some 34) #[Y,Y,Y,Y,Y,Y,Z,Z,Y,Z,Z] (any_of HT_.out (by kernel_rfl)) ?_
        refine pz (i := 6) (N := some 40) #[Y,Y,Y,Y,Y,Y,Y,Z,Y,Z,Z] (any_of HT_.out (by kernel_rfl)) ?_
        refine pz (i := 7) (N := some 41) #[Y,Y,Y,Y,Y,Y,Y,Y,Y,Z,Z] (any_of HT_.out (by kernel_rfl)) ?_
        exact norm_ (by simp only [putAll, Act.put, List.setIfInBounds_toArray, List.set_cons_zero, List.set_cons_succ]) (hCont (v273, gb276) _ ⟨hHeld, (by (with_reducible repeat (first | apply Kd.R_alloc | apply Kd.R_drewN | apply Kd.R_drew)); exact Kd.R_mono HO258.out (fun _ hk => ⟨hk.1.1, ⟨hk.1.2, hk.2⟩⟩)), (by (with_reducible repeat (first | apply Kd.R_alloc | apply Kd.R_drewN | apply Kd.R_drew)); exact Kd.R_mono HO263.out (fun _ hk => ⟨hk.1.1, ⟨hk.1.2, hk.2⟩⟩)), (by (with_reducible repeat (first | apply Kd.R_alloc | apply Kd.R_drewN | apply Kd.R_drew)); exact Kd.R_mono HO268.out (fun _ hk => ⟨hk.1.1, ⟨hk.1.2, hk.2⟩⟩)), (by (with_reducible repeat (first | apply Kd.R_alloc | apply Kd.R_drewN | apply Kd.R_drew)); exact Kd.R_mono HO274.out (fun _ hk => ⟨hk.1.1.2, ⟨hk.1.2, hk.2⟩⟩)), (zb BK253), (zb BK254), (zb BK265), (zb BK269), (zb BK276), GW276.out, GE276.out, NB253_276.out, NB276_253.out, NB254_276.out, NB276_254.out, NB265_276.out, NB276_265.out, NB269_276.out, NB276_269.out, (zh5 HB GE253 GE254 GE265 GE269 GE276)⟩)
    rintro ⟨v273, gb276⟩ w46 ⟨hS_, h0_, h1_, h2_, h3_, h4_, h5_, h6_, h7_, h8_, h9_, h10_, h11_, h12_, h13_, h14_, h15_, h16_, h17_, h18_, h19_⟩
    have n0_ : Aside0 (Kd.R k104 104 w46 w.heap.size (fun k_ => some k_ ≠ (.slice Ao30 t261.length co30 : Value).ownBlock ∧ some k_ ≠ (.slice Ao36 t266.length co36 : Value).ownBlock ∧ some k_ ≠ (v273 : Value).ownBlock) v257 t256) := ⟨h0_⟩
    have n1_ : Aside0 (Kd.R k104 104 w46 w.heap.size (fun k_ => some k_ ≠ (v257 : Value).ownBlock ∧ some k_ ≠ (.slice Ao36 t266.length co36 : Value).ownBlock ∧ some k_ ≠ (v273 : Value).ownBlock) (.slice Ao30 t261.length co30) t261) := ⟨h1_⟩
    have n2_ : Aside0 (Kd.R k104 104 w46 w.heap.size (fun k_ => some k_ ≠ (v257 : Value).ownBlock ∧ some k_ ≠ (.slice Ao30 t261.length co30 : Value).ownBlock ∧ some k_ ≠ (v273 : Value).ownBlock) (.slice Ao36 t266.length co36) t266) := ⟨h2_⟩
    have n3_ : Aside0 (Kd.R k104 104 w46 w.heap.size (fun k_ => some k_ ≠ (v257 : Value).ownBlock ∧ some k_ ≠ (.slice Ao30 t261.length co30 : Value).ownBlock ∧ some k_ ≠ (.slice Ao36 t266.length co36 : Value).ownBlock) v273 t272) := ⟨h3_⟩
    have n4_ : Aside0 (w46.heap[gb253]? = some (.cells #[.slice A0_0 l0_0.length c0_0] 50 (0, 0))) := ⟨h4_⟩
    have n5_ : Aside0 (w46.heap[gb254]? = some (.cells #[.int .i64 a1_0, .int .i64 a1_1] 33 (0, 0))) := ⟨h5_⟩
    have n6_ : Aside0 (w46.heap[gb265]? = some (.cells #[.slice Ao30 t261.length co30] 55 (0, 0))) := ⟨h6_⟩
    have n7_ : Aside0 (w46.heap[gb269]? = some (.cells #[.slice Ao36 t266.length co36] 55 (0, 0))) := ⟨h7_⟩
    have n8_ : Aside0 (w46.heap[gb276]? = some (.cells #[.slice none 0 0] 55 (0, 0))) := ⟨h8_⟩
    have n9_ : Aside0 (w.heap.size ≤ gb276) := ⟨h9_⟩
    have n10_ : Aside0 (w.heap.size ≤ gb276) := ⟨h10_⟩
    have n11_ : Aside0 (gb253 ≠ gb276) := ⟨h11_⟩
    have n12_ : Aside0 (gb276 ≠ gb253) := ⟨h12_⟩
    have n13_ : Aside0 (gb254 ≠ gb276) := ⟨h13_⟩
    have n14_ : Aside0 (gb276 ≠ gb254) := ⟨h14_⟩
    have n15_ : Aside0 (gb265 ≠ gb276) := ⟨h15_⟩
    have n16_ : Aside0 (gb276 ≠ gb265) := ⟨h16_⟩
    have n17_ : Aside0 (gb269 ≠ gb276) := ⟨h17_⟩
    have n18_ : Aside0 (gb276 ≠ gb269) := ⟨h18_⟩
    have n19_ : Aside0 (Below w.heap.size w w46) := ⟨h19_⟩
    clear HO258
    clear HO263
    clear HO268
    clear BK253
    clear BK254
    clear BK265
    clear BK269
    clear HB
    clear h0_ h1_ h2_ h3_ h4_ h5_ h6_ h7_ h8_ h9_ h10_ h11_ h12_ h13_ h14_ h15_ h16_ h17_ h18_ h19_
    have HO258 := n0_
    have HO263 := n1_
    have HO268 := n2_
    have HO274 := n3_
    have BK253 := n4_
    have BK254 := n5_
    have BK265 := n6_
    have BK269 := n7_
    have BK276 := n8_
    have GW276 := n9_
    have GE276 := n10_
    have NB253_276 := n11_
    have NB276_253 := n12_
    have NB254_276 := n13_
    have NB276_254 := n14_
    have NB265_276 := n15_
    have NB276_265 := n16_
    have NB269_276 := n17_
    have NB276_269 := n18_
    have HB := n19_
    clear n0_ n1_ n2_ n3_ n4_ n5_ n6_ n7_ n8_ n9_ n10_ n11_ n12_ n13_ n14_ n15_ n16_ n17_ n18_ n19_
    have hHeld : w46.cell? ⟨gb269, 0, none⟩ = some (.slice Ao36 t266.length co36) ∧ w46.cell? ⟨gb254, 0, none⟩ = some (.int .i64 a1_0) ∧ w46.cell? ⟨gb254, 1, none⟩ = some (.int .i64 a1_1) := hS_
    obtain ⟨Ao47, co47, eo47⟩ := Kd.R_slice HO274.out
    (first | subst eo47 | (injection eo47 with f1_ f2_ f3_; have f4_ := f1_.symm; have f5_ := f3_.symm; clear f1_ f2_ f3_; subst f4_; subst f5_))
    refine norm_ (a' := ?_) ?_ ?_
    rotate_left
    · simp only [putAll, Act.put, List.setIfInBounds_toArray, List.set_cons_zero, List.set_cons_succ]
      rfl
    refine one_ (i := 9) (N := none) #[Y,Y,Y,Y,Y,Y,Y,Y,Y,Y,Z] rfl rfl (one_of HT_.out (by kernel_rfl)) (by decide) (fun K hK => ?_)
    have hs48 : w46.cell? ⟨gb276, 0, none⟩ = some (.slice none 0 0) := (blk_cell BK276.out 0).trans rfl
    have hfs48 := blk_frozen BK276.out 0
    have hns48_0 := NB253_276.out
    have hns48_1 := NB254_276.out
    have hns48_2 := NB265_276.out
    have hns48_3 := NB269_276.out
    have hms48_0 := NB276_253.out
    have hms48_1 := NB276_254.out
    have hms48_2 := NB276_265.out
    have hms48_3 := NB276_269.out
    refine skip_ (w1 := ?_) (by rfl) rfl ?_ ?_
    rotate_left
    · go_simp
      rfl
    refine hK.out _ _ ⟨((cell_far (p := ⟨gb276, _, none⟩) NB269_276.out _).trans (hHeld.1)), ((cell_far (p := ⟨gb276, _, none⟩) NB254_276.out _).trans (hHeld.2.1)), ((cell_far (p := ⟨gb276, _, none⟩) NB254_276.out _).trans (hHeld.2.2))⟩ (fun hHeld => ?_)
    clear hK K
    refine pz (i := 10) (N := some 12) #[Y,Y,Y,Y,Y,Y,Y,Y,Y,Y,Y] (any_of HT_.out (by kernel_rfl)) ?_
    refine done_ (done_of HT_.out (by kernel_rfl)) ?_
    go_upto_region 8 with (fail)
    go_cut [50] (fun v50 wc => ∃ (kq : Nat) (x50_16 : Bool), v50 = .bool x50_16 ∧ Aside0 (laws_FnExactTriePut.j0 kq a2 t264 t275 x50_16 l0_0 a1_0 a1_1 t261 t266 t272 = some r) ∧ Aside0 (kq ≤ k) ∧ Aside0 (Kd.R k104 104 wc w.heap.size (fun k_ => some k_ ≠ ((.slice Ao36 t266.length co36) : Value).ownBlock ∧ some k_ ≠ ((.slice Ao47 t272.length co47) : Value).ownBlock) (.slice Ao30 t261.length co30) t261) ∧ Aside0 (Kd.R k104 104 wc w.heap.size (fun k_ => some k_ ≠ ((.slice Ao30 t261.length co30) : Value).ownBlock ∧ some k_ ≠ ((.slice Ao47 t272.length co47) : Value).ownBlock) (.slice Ao36 t266.length co36) t266) ∧ Aside0 (Kd.R k104 104 wc w.heap.size (fun k_ => some k_ ≠ ((.slice Ao30 t261.length co30) : Value).ownBlock ∧ some k_ ≠ ((.slice Ao36 t266.length co36) : Value).ownBlock) (.slice Ao47 t272.length co47) t272) ∧ Aside0 (wc.heap[gb253]? = some (.cells #[(.slice A0_0 l0_0.length c0_0)] 50 (0, 0))) ∧ Aside0 (wc.heap[gb254]? = some (.cells #[.int .i64 a1_0, .int .i64 a1_1] 33 (0, 0))) ∧ Aside0 (wc.heap[gb265]? = some (.cells #[(.slice Ao30 t261.length co30)] 55 (0, 0))) ∧ Aside0 (wc.heap[gb269]? = some (.cells #[(.slice Ao36 t266.length co36)] 55 (0, 0))) ∧ Aside0 (wc.heap[gb276]? = some (.cells #[(.slice Ao47 t272.length co47)] 55 (0, 0))) ∧ Aside0 (Below w.heap.size w wc))
    case first =>
      have H := HC17.out
      clear HC17
      replace H := Option.bind_eq_some_iff.mp H
      obtain ⟨t277, A490, H⟩ := H
      replace H : (if t277 = true then (laws_FnExactTriePut.j0 k a2 t264 t275 (t275 != t264) l0_0 a1_0 a1_1 t261 t266 t272) else (laws_FnExactTriePut.j0 k a2 t264 t275 true l0_0 a1_0 a1_1 t261 t266 t272)) = some r := H
      have A49 := Aside0.mk A490
      clear A490
      by_cases c50 : t277 = true
      · subst c50
        have H1 : (laws_FnExactTriePut.j0 k a2 t264 t275 (t275 != t264) l0_0 a1_0 a1_1 t261 t266 t272) = some r := by rw [if_pos rfl] at H; exact H
        clear H
        have H := H1
        clear H1
        have H' := Aside0.mk H
        clear H
        have hnb51 := NB276_253.out
        have hnc51 := NB253_276.out
        have hnb52 := NB276_254.out
        have hnc52 := NB254_276.out
        have hnb53 := NB276_265.out
        have hnc53 := NB265_276.out
        have hnb54 := NB276_269.out
        have hnc54 := NB269_276.out
        have hcz55_0 : w46.cell? ⟨gb276, 0, none⟩ = some (.slice none 0 0) := (blk_cell BK276.out 0).trans rfl
        have hfz55_0 := blk_frozen BK276.out 0
        have hnb56 := NB265_253.out
        have hnc56 := NB253_265.out
        have hnb57 := NB265_254.out
        have hnc57 := NB254_265.out
        have hnb58 := NB265_269.out
        have hnc58 := NB269_265.out
        have hcz59_0 : w46.cell? ⟨gb265, 0, none⟩ = some (.slice Ao30 t261.length co30) := (blk_cell BK265.out 0).trans rfl
        have hfz59_0 := blk_frozen BK265.out 0
        go_wp2_with (first | ((with_reducible refine gate_callee (f := 35) rfl ?_); refine goesL_ (some 44) rfl rfl Try.func35 (by kernel_rfl) rfl #[.agg #[.slice Ao47 t272.length co47], .agg #[.slice Ao30 t261.length co30]] rfl (by (try simp only [List.map_toArray, List.map_cons, List.map_nil]); first | done | rfl | (simp only [List.length_drop, List.length_take]; rfl)) ?_; (with_reducible refine (laws_eqTrie.calls k _ _ t272 _ _ t261 true _ ?side1 ?side2 ?side3 ?side4 A49.out).mono ?_); (case side1 => refine (Kd.R_reads' (e := 104) (base := w.heap.size) (ok := fun k_ => (some k_ ≠ (v257 : Value).ownBlock ∧ (some k_ ≠ (.slice Ao30 t261.length co30 : Value).ownBlock ∧ some k_ ≠ (.slice Ao36 t266.length co36 : Value).ownBlock))) (n := t272.length) (c := co47) ?_).2.2; exact (by (with_reducible repeat (first | apply Kd.R_alloc | apply Kd.R_drewN | apply Kd.R_drew)); exact (Kd.R_mono (Kd.R_far (p := ⟨gb276, 0, none⟩) (Kd.R_types HO274.out BK276.out (by decide)) (fun _ hk => hk.2) (.slice Ao47 t272.length co47)) (fun _ h_ => h_.1)))); (case side2 => exact (Kd.R_reads' HO274.out).2.1); (case side3 => refine (Kd.R_reads' (e := 104) (base := w.heap.size) (ok := fun k_ => (some k_ ≠ (v257 : Value).ownBlock ∧ (some k_ ≠ (.slice Ao36 t266.length co36 : Value).ownBlock ∧ some k_ ≠ (.slice Ao47 t272.length co47 : Value).ownBlock))) (n := t261.length) (c := co30) ?_).2.2; exact (by (with_reducible repeat (first | apply Kd.R_alloc | apply Kd.R_drewN | apply Kd.R_drew)); exact (Kd.R_mono (Kd.R_far (p := ⟨gb276, 0, none⟩) (Kd.R_types HO263.out BK276.out (by decide)) (fun _ hk => hk.2) (.slice Ao47 t272.length co47)) (fun _ h_ => h_.1)))); (case side4 => exact (Kd.R_reads' HO263.out).2.1); rintro e w60 ⟨rfl, hb⟩; refine ⟨_, rfl, ?_⟩; replace HO258 := Aside0.mk (Kd.R_below (by (with_reducible repeat (first | apply Kd.R_alloc | apply Kd.R_drewN | apply Kd.R_drew)); exact (Kd.R_mono (Kd.R_far (p := ⟨gb276, 0, none⟩) (Kd.R_types HO258.out BK276.out (by decide)) (fun _ hk => hk.2) (.slice Ao47 t272.length co47)) (fun _ h_ => h_.1))) hb); replace HO263 := Aside0.mk (Kd.R_below (by (with_reducible repeat (first | apply Kd.R_alloc | apply Kd.R_drewN | apply Kd.R_drew)); exact (Kd.R_mono (Kd.R_far (p := ⟨gb276, 0, none⟩) (Kd.R_types HO263.out BK276.out (by decide)) (fun _ hk => hk.2) (.slice Ao47 t272.length co47)) (fun _ h_ => h_.1))) hb); replace HO268 := Aside0.mk (Kd.R_below (by (with_reducible repeat (first | apply Kd.R_alloc | apply Kd.R_drewN | apply Kd.R_drew)); exact (Kd.R_mono (Kd.R_far (p := ⟨gb276, 0, none⟩) (Kd.R_types HO268.out BK276.out (by decide)) (fun _ hk => hk.2) (.slice Ao47 t272.length co47)) (fun _ h_ => h_.1))) hb); replace HO274 := Aside0.mk (Kd.R_below (by (with_reducible repeat (first | apply Kd.R_alloc | apply Kd.R_drewN | apply Kd.R_drew)); exact (Kd.R_mono (Kd.R_far (p := ⟨gb276, 0, none⟩) (Kd.R_types HO274.out BK276.out (by decide)) (fun _ hk => hk.2) (.slice Ao47 t272.length co47)) (fun _ h_ => h_.1))) hb); replace BK253 := Aside0.mk (blk_below (g := gb253) (o := .cells #[.slice A0_0 l0_0.length c0_0] 50 (0, 0)) (by (with_reducible repeat (first | refine blk_drewN ?_ _ | refine blk_drew ?_ | refine blk_alloc ?_ _)); refine blk_far ?_ NB253_276.out _; (with_reducible repeat (first | refine blk_drewN ?_ _ | refine blk_drew ?_ | refine blk_alloc ?_ _)); exact BK253.out) hb); replace BK254 := Aside0.mk (blk_below (g := gb254) (o := .cells #[.int .i64 a1_0, .int .i64 a1_1] 33 (0, 0)) (by (with_reducible repeat (first | refine blk_drewN ?_ _ | refine blk_drew ?_ | refine blk_alloc ?_ _)); refine blk_far ?_ NB254_276.out _; (with_reducible repeat (first | refine blk_drewN ?_ _ | refine blk_drew ?_ | refine blk_alloc ?_ _)); exact BK254.out) hb); replace BK265 := Aside0.mk (blk_below (g := gb265) (o := .cells #[.slice Ao30 t261.length co30] 55 (0, 0)) (by (with_reducible repeat (first | refine blk_drewN ?_ _ | refine blk_drew ?_ | refine blk_alloc ?_ _)); refine blk_far ?_ NB265_276.out _; (with_reducible repeat (first | refine blk_drewN ?_ _ | refine blk_drew ?_ | refine blk_alloc ?_ _)); exact BK265.out) hb); replace BK269 := Aside0.mk (blk_below (g := gb269) (o := .cells #[.slice Ao36 t266.length co36] 55 (0, 0)) (by (with_reducible repeat (first | refine blk_drewN ?_ _ | refine blk_drew ?_ | refine blk_alloc ?_ _)); refine blk_far ?_ NB269_276.out _; (with_reducible repeat (first | refine blk_drewN ?_ _ | refine blk_drew ?_ | refine blk_alloc ?_ _)); exact BK269.out) hb); replace BK276 := Aside0.mk (blk_below (g := gb276) (o := .cells #[.slice Ao47 t272.length co47] 55 (0, 0)) (by (with_reducible repeat (first | refine blk_drewN ?_ _ | refine blk_drew ?_ | refine blk_alloc ?_ _)); refine blk_put (cs := #[.slice none 0 0]) ?_ 0 _ rfl; (with_reducible repeat (first | refine blk_drewN ?_ _ | refine blk_drew ?_ | refine blk_alloc ?_ _)); exact BK276.out) hb); replace HB := Aside0.mk (below_step (zh5 HB GE253 GE254 GE265 GE269 GE276) hb); (try clear hb); (try clear hb2); (try clear hk); (try clear hi)))
        go_meet
        case rel => exact ⟨_, ((t275 != t264)), (by first | rfl | (simp; done) | (simp [*]; done)), H', ⟨by first | omega | exact Nat.le_refl _⟩, ⟨by (with_reducible repeat (first | apply Kd.R_alloc | apply Kd.R_drewN | apply Kd.R_drew)); exact Kd.R_mono HO263.out (fun _ hk => ⟨hk.2.1, hk.2.2⟩)⟩, ⟨by (with_reducible repeat (first | apply Kd.R_alloc | apply Kd.R_drewN | apply Kd.R_drew)); exact Kd.R_mono HO268.out (fun _ hk => ⟨hk.2.1, hk.2.2⟩)⟩, ⟨by (with_reducible repeat (first | apply Kd.R_alloc | apply Kd.R_drewN | apply Kd.R_drew)); exact Kd.R_mono HO274.out (fun _ hk => ⟨hk.2.1, hk.2.2⟩)⟩, ⟨by (with_reducible repeat (first | refine blk_drewN ?_ _ | refine blk_drew ?_ | refine blk_alloc ?_ _)); exact BK253.out⟩, ⟨by (with_reducible repeat (first | refine blk_drewN ?_ _ | refine blk_drew ?_ | refine blk_alloc ?_ _)); exact BK254.out⟩, ⟨by (with_reducible repeat (first | refine blk_drewN ?_ _ | refine blk_drew ?_ | refine blk_alloc ?_ _)); exact BK265.out⟩, ⟨by (with_reducible repeat (first | refine blk_drewN ?_ _ | refine blk_drew ?_ | refine blk_alloc ?_ _)); exact BK269.out⟩, ⟨by (with_reducible repeat (first | refine blk_drewN ?_ _ | refine blk_drew ?_ | refine blk_alloc ?_ _)); exact BK276.out⟩, ⟨zh5 HB GE253 GE254 GE265 GE269 GE276⟩⟩
      · replace c50 := Bool.eq_false_iff.mpr c50
        subst c50
        have H1 : (laws_FnExactTriePut.j0 k a2 t264 t275 true l0_0 a1_0 a1_1 t261 t266 t272) = some r := by rw [if_neg (show ¬ (false = true) by decide)] at H; exact H
        clear H
        have H := H1
        clear H1
        have H' := Aside0.mk H
        clear H
        have hnb61 := NB276_253.out
        have hnc61 := NB253_276.out
        have hnb62 := NB276_254.out
        have hnc62 := NB254_276.out
        have hnb63 := NB276_265.out
        have hnc63 := NB265_276.out
        have hnb64 := NB276_269.out
        have hnc64 := NB269_276.out
        have hcz65_0 : w46.cell? ⟨gb276, 0, none⟩ = some (.slice none 0 0) := (blk_cell BK276.out 0).trans rfl
        have hfz65_0 := blk_frozen BK276.out 0
        have hnb66 := NB265_253.out
        have hnc66 := NB253_265.out
        have hnb67 := NB265_254.out
        have hnc67 := NB254_265.out
        have hnb68 := NB265_269.out
        have hnc68 := NB269_265.out
        have hcz69_0 : w46.cell? ⟨gb265, 0, none⟩ = some (.slice Ao30 t261.length co30) := (blk_cell BK265.out 0).trans rfl
        have hfz69_0 := blk_frozen BK265.out 0
        go_wp2_with (first | ((with_reducible refine gate_callee (f := 35) rfl ?_); refine goesL_ (some 44) rfl rfl Try.func35 (by kernel_rfl) rfl #[.agg #[.slice Ao47 t272.length co47], .agg #[.slice Ao30 t261.length co30]] rfl (by (try simp only [List.map_toArray, List.map_cons, List.map_nil]); first | done | rfl | (simp only [List.length_drop, List.length_take]; rfl)) ?_; (with_reducible refine (laws_eqTrie.calls k _ _ t272 _ _ t261 false _ ?side1 ?side2 ?side3 ?side4 A49.out).mono ?_); (case side1 => refine (Kd.R_reads' (e := 104) (base := w.heap.size) (ok := fun k_ => (some k_ ≠ (v257 : Value).ownBlock ∧ (some k_ ≠ (.slice Ao30 t261.length co30 : Value).ownBlock ∧ some k_ ≠ (.slice Ao36 t266.length co36 : Value).ownBlock))) (n := t272.length) (c := co47) ?_).2.2; exact (by (with_reducible repeat (first | apply Kd.R_alloc | apply Kd.R_drewN | apply Kd.R_drew)); exact (Kd.R_mono (Kd.R_far (p := ⟨gb276, 0, none⟩) (Kd.R_types HO274.out BK276.out (by decide)) (fun _ hk => hk.2) (.slice Ao47 t272.length co47)) (fun _ h_ => h_.1)))); (case side2 => exact (Kd.R_reads' HO274.out).2.1); (case side3 => refine (Kd.R_reads' (e := 104) (base := w.heap.size) (ok := fun k_ => (some k_ ≠ (v257 : Value).ownBlock ∧ (some k_ ≠ (.slice Ao36 t266.length co36 : Value).ownBlock ∧ some k_ ≠ (.slice Ao47 t272.length co47 : Value).ownBlock))) (n := t261.length) (c := co30) ?_).2.2; exact (by (with_reducible repeat (first | apply Kd.R_alloc | apply Kd.R_drewN | apply Kd.R_drew)); exact (Kd.R_mono (Kd.R_far (p := ⟨gb276, 0, none⟩) (Kd.R_types HO263.out BK276.out (by decide)) (fun _ hk => hk.2) (.slice Ao47 t272.length co47)) (fun _ h_ => h_.1)))); (case side4 => exact (Kd.R_reads' HO263.out).2.1); rintro e w70 ⟨rfl, hb⟩; refine ⟨_, rfl, ?_⟩; replace HO258 := Aside0.mk (Kd.R_below (by (with_reducible repeat (first | apply Kd.R_alloc | apply Kd.R_drewN | apply Kd.R_drew)); exact (Kd.R_mono (Kd.R_far (p := ⟨gb276, 0, none⟩) (Kd.R_types HO258.out BK276.out (by decide)) (fun _ hk => hk.2) (.slice Ao47 t272.length co47)) (fun _ h_ => h_.1))) hb); replace HO263 := Aside0.mk (Kd.R_below (by (with_reducible repeat (first | apply Kd.R_alloc | apply Kd.R_drewN | apply Kd.R_drew)); exact (Kd.R_mono (Kd.R_far (p := ⟨gb276, 0, none⟩) (Kd.R_types HO263.out BK276.out (by decide)) (fun _ hk => hk.2) (.slice Ao47 t272.length co47)) (fun _ h_ => h_.1))) hb); replace HO268 := Aside0.mk (Kd.R_below (by (with_reducible repeat (first | apply Kd.R_alloc | apply Kd.R_drewN | apply Kd.R_drew)); exact (Kd.R_mono (Kd.R_far (p := ⟨gb276, 0, none⟩) (Kd.R_types HO268.out BK276.out (by decide)) (fun _ hk => hk.2) (.slice Ao47 t272.length co47)) (fun _ h_ => h_.1))) hb); replace HO274 := Aside0.mk (Kd.R_below (by (with_reducible repeat (first | apply Kd.R_alloc | apply Kd.R_drewN | apply Kd.R_drew)); exact (Kd.R_mono (Kd.R_far (p := ⟨gb276, 0, none⟩) (Kd.R_types HO274.out BK276.out (by decide)) (fun _ hk => hk.2) (.slice Ao47 t272.length co47)) (fun _ h_ => h_.1))) hb); replace BK253 := Aside0.mk (blk_below (g := gb253) (o := .cells #[.slice A0_0 l0_0.length c0_0] 50 (0, 0)) (by (with_reducible repeat (first | refine blk_drewN ?_ _ | refine blk_drew ?_ | refine blk_alloc ?_ _)); refine blk_far ?_ NB253_276.out _; (with_reducible repeat (first | refine blk_drewN ?_ _ | refine blk_drew ?_ | refine blk_alloc ?_ _)); exact BK253.out) hb); replace BK254 := Aside0.mk (blk_below (g := gb254) (o := .cells #[.int .i64 a1_0, .int .i64 a1_1] 33 (0, 0)) (by (with_reducible repeat (first | refine blk_drewN ?_ _ | refine blk_drew ?_ | refine blk_alloc ?_ _)); refine blk_far ?_ NB254_276.out _; (with_reducible repeat (first | refine blk_drewN ?_ _ | refine blk_drew ?_ | refine blk_alloc ?_ _)); exact BK254.out) hb); replace BK265 := Aside0.mk (blk_below (g := gb265) (o := .cells #[.slice Ao30 t261.length co30] 55 (0, 0)) (by (with_reducible repeat (first | refine blk_drewN ?_ _ | refine blk_drew ?_ | refine blk_alloc ?_ _)); refine blk_far ?_ NB265_276.out _; (with_reducible repeat (first | refine blk_drewN ?_ _ | refine blk_drew ?_ | refine blk_alloc ?_ _)); exact BK265.out) hb); replace BK269 := Aside0.mk (blk_below (g := gb269) (o := .cells #[.slice Ao36 t266.length co36] 55 (0, 0)) (by (with_reducible repeat (first | refine blk_drewN ?_ _ | refine blk_drew ?_ | refine blk_alloc ?_ _)); refine blk_far ?_ NB269_276.out _; (with_reducible repeat (first | refine blk_drewN ?_ _ | refine blk_drew ?_ | refine blk_alloc ?_ _)); exact BK269.out) hb); replace BK276 := Aside0.mk (blk_below (g := gb276) (o := .cells #[.slice Ao47 t272.length co47] 55 (0, 0)) (by (with_reducible repeat (first | refine blk_drewN ?_ _ | refine blk_drew ?_ | refine blk_alloc ?_ _)); refine blk_put (cs := #[.slice none 0 0]) ?_ 0 _ rfl; (with_reducible repeat (first | refine blk_drewN ?_ _ | refine blk_drew ?_ | refine blk_alloc ?_ _)); exact BK276.out) hb); replace HB := Aside0.mk (below_step (zh5 HB GE253 GE254 GE265 GE269 GE276) hb); (try clear hb); (try clear hb2); (try clear hk); (try clear hi)))
        go_meet
        case rel => exact ⟨_, (true), (by first | rfl | (simp; done) | (simp [*]; done)), H', ⟨by first | omega | exact Nat.le_refl _⟩, ⟨by (with_reducible repeat (first | apply Kd.R_alloc | apply Kd.R_drewN | apply Kd.R_drew)); exact Kd.R_mono HO263.out (fun _ hk => ⟨hk.2.1, hk.2.2⟩)⟩, ⟨by (with_reducible repeat (first | apply Kd.R_alloc | apply Kd.R_drewN | apply Kd.R_drew)); exact Kd.R_mono HO268.out (fun _ hk => ⟨hk.2.1, hk.2.2⟩)⟩, ⟨by (with_reducible repeat (first | apply Kd.R_alloc | apply Kd.R_drewN | apply Kd.R_drew)); exact Kd.R_mono HO274.out (fun _ hk => ⟨hk.2.1, hk.2.2⟩)⟩, ⟨by (with_reducible repeat (first | refine blk_drewN ?_ _ | refine blk_drew ?_ | refine blk_alloc ?_ _)); exact BK253.out⟩, ⟨by (with_reducible repeat (first | refine blk_drewN ?_ _ | refine blk_drew ?_ | refine blk_alloc ?_ _)); exact BK254.out⟩, ⟨by (with_reducible repeat (first | refine blk_drewN ?_ _ | refine blk_drew ?_ | refine blk_alloc ?_ _)); exact BK265.out⟩, ⟨by (with_reducible repeat (first | refine blk_drewN ?_ _ | refine blk_drew ?_ | refine blk_alloc ?_ _)); exact BK269.out⟩, ⟨by (with_reducible repeat (first | refine blk_drewN ?_ _ | refine blk_drew ?_ | refine blk_alloc ?_ _)); exact BK276.out⟩, ⟨zh5 HB GE253 GE254 GE265 GE269 GE276⟩⟩
    case rest =>
      clear HC17
      try clear p2
      try clear c3
      try clear c4
      try clear c5
      try clear c6
      try clear c35
      try clear c40
      try clear c45
      try clear c50
      try clear c51
      try clear c52
      try clear c53
      try clear c54
      try clear c56
      try clear c57
      try clear c58
      try clear c61
      try clear c62
      try clear c63
      try clear c64
      try clear c66
      try clear c67
      try clear c68
      try clear hcz55_0
      try clear hcz59_0
      try clear hcz65_0
      try clear hcz69_0
      try clear hfz55_0
      try clear hfz59_0
      try clear hfz65_0
      try clear hfz69_0
      obtain ⟨kq, x50_16, rfl, HA, HJ16, HO_266000, HO_270000, HO_277000, BK253, BK254, BK265, BK269, BK276, HB⟩ := hcut
      cases kq with
      | zero => exact absurd HA.out (by simp [laws_FnExactTriePut.j0])
      | succ kj16 =>
        have H := HA.out
        clear HA
        simp only [laws_FnExactTriePut.j0] at H
        by_cases c71 : x50_16 = true
        · subst c71
          have H1 : (some false) = some r := by rw [if_pos rfl] at H; exact H
          clear H
          have H := H1
          clear H1
          obtain rfl := Option.some.inj H
          go_wp2
          go_ret
          exact ⟨by first | rfl | (simp [errW_none, errW_some] <;> rfl) | (simp [*, errW_none, errW_some] <;> rfl), zh5 HB GE253 GE254 GE265 GE269 GE276⟩
        · replace c71 := Bool.eq_false_iff.mpr c71
          subst c71
          have H1 : ((laws_toTrie.f kj16 l0_0).bind fun t278 => ((laws_eqTrie.f kj16 t266 t278).bind fun t281 => (if t281 = true then ((laws_markTrie.f kj16 t266 1).bind fun bt282 => (if bt282.1 < 0 then (laws_FnExactTriePut.j1 kj16 a2 t264 true l0_0 a1_0 a1_1 t261 t272) else ((laws_eqTrie.f kj16 t272 t261).bind fun t284 => (if t284 = true then (laws_FnExactTriePut.j1 kj16 a2 t264 (t275 != t264) l0_0 a1_0 a1_1 t261 t272) else (laws_FnExactTriePut.j1 kj16 a2 t264 true l0_0 a1_0 a1_1 t261 t272))))) else (some false)))) = some r := by rw [if_neg (show ¬ (false = true) by decide)] at H; exact H
          clear H
          have H := H1
          clear H1
          replace H := Option.bind_eq_some_iff.mp H
          obtain ⟨t278, A720, H⟩ := H
          replace H : ((laws_eqTrie.f kj16 t266 t278).bind fun t281 => (if t281 = true then ((laws_markTrie.f kj16 t266 1).bind fun bt282 => (if bt282.1 < 0 then (laws_FnExactTriePut.j1 kj16 a2 t264 true l0_0 a1_0 a1_1 t261 t272) else ((laws_eqTrie.f kj16 t272 t261).bind fun t284 => (if t284 = true then (laws_FnExactTriePut.j1 kj16 a2 t264 (t275 != t264) l0_0 a1_0 a1_1 t261 t272) else (laws_FnExactTriePut.j1 kj16 a2 t264 true l0_0 a1_0 a1_1 t261 t272))))) else (some false))) = some r := H
          have A72 := Aside0.mk A720
          clear A720
          replace H := Option.bind_eq_some_iff.mp H
          obtain ⟨t281, A730, H⟩ := H
          replace H : (if t281 = true then ((laws_markTrie.f kj16 t266 1).bind fun bt282 => (if bt282.1 < 0 then (laws_FnExactTriePut.j1 kj16 a2 t264 true l0_0 a1_0 a1_1 t261 t272) else ((laws_eqTrie.f kj16 t272 t261).bind fun t284 => (if t284 = true then (laws_FnExactTriePut.j1 kj16 a2 t264 (t275 != t264) l0_0 a1_0 a1_1 t261 t272) else (laws_FnExactTriePut.j1 kj16 a2 t264 true l0_0 a1_0 a1_1 t261 t272))))) else (some false)) = some r := H
          have A73 := Aside0.mk A730
          clear A730
          by_cases c74 : t281 = true
          · subst c74
            have H1 : ((laws_markTrie.f kj16 t266 1).bind fun bt282 => (if bt282.1 < 0 then (laws_FnExactTriePut.j1 kj16 a2 t264 true l0_0 a1_0 a1_1 t261 t272) else ((laws_eqTrie.f kj16 t272 t261).bind fun t284 => (if t284 = true then (laws_FnExactTriePut.j1 kj16 a2 t264 (t275 != t264) l0_0 a1_0 a1_1 t261 t272) else (laws_FnExactTriePut.j1 kj16 a2 t264 true l0_0 a1_0 a1_1 t261 t272))))) = some r := by rw [if_pos rfl] at H; exact H
            clear H
            have H := H1
            clear H1
            replace H := Option.bind_eq_some_iff.mp H
            obtain ⟨⟨t282, t283⟩, A750, H⟩ := H
            replace H : (if t282 < 0 then (laws_FnExactTriePut.j1 kj16 a2 t264 true l0_0 a1_0 a1_1 t261 t272) else ((laws_eqTrie.f kj16 t272 t261).bind fun t284 => (if t284 = true then (laws_FnExactTriePut.j1 kj16 a2 t264 (t275 != t264) l0_0 a1_0 a1_1 t261 t272) else (laws_FnExactTriePut.j1 kj16 a2 t264 true l0_0 a1_0 a1_1 t261 t272)))) = some r := H
            have A75 := Aside0.mk A750
            clear A750
            have HC76 := Aside0.mk H
            clear H
            try go_wp2
            replace HO_266000 := Aside0.mk (Kd.R_drew HO_266000.out)
            replace HO_270000 := Aside0.mk (Kd.R_drew HO_270000.out)
            replace HO_277000 := Aside0.mk (Kd.R_drew HO_277000.out)
            replace BK253 := Aside0.mk (blk_drew BK253.out)
            replace BK254 := Aside0.mk (blk_drew BK254.out)
            replace BK265 := Aside0.mk (blk_drew BK265.out)
            replace BK269 := Aside0.mk (blk_drew BK269.out)
            replace BK276 := Aside0.mk (blk_drew BK276.out)
            replace HB := Aside0.mk (below_drew1 HB.out)
            refine start_ (n := 5) (S := fun w' => w'.cell? ⟨gb269, 0, none⟩ = some (.slice Ao36 t266.length co36) ∧ w'.cell? ⟨gb253, 0, none⟩ = some (.slice A0_0 l0_0.length c0_0)) (ds := []) #[Z,Z,Z,Z,Z] (by kernel_rfl) rfl rfl ⟨(blk_cell BK269.out 0).trans rfl, (blk_cell BK253.out 0).trans rfl⟩ (fun hHeld => ?_)
            generalize wc.drew = w77 at HO_266000 HO_270000 HO_277000 BK253 BK254 BK265 BK269 BK276 HB hHeld ⊢
            refine tz (i := 0) (N := some 51) #[Y,Z,Z,Z,Z] rfl (by kernel_rfl) (Or.inl ⟨by rfl, by rintro w' ⟨s0, s1⟩; go_simp; with_reducible rfl⟩) hHeld ?_
            refine tz (i := 1) (N := some 52) #[Y,Y,Z,Z,Z] rfl (by kernel_rfl) (Or.inl ⟨by rfl, by rintro w' ⟨s0, s1⟩; go_simp; with_reducible rfl⟩) hHeld ?_
            refine one_ (i := 2) (N := some 53) #[Y,Y,Y,Z,Z] rfl rfl (by kernel_rfl) (by decide) (fun K hK => ?_)
            refine goes_ Try.func33 (by kernel_rfl) rfl #[.agg #[.slice A0_0 l0_0.length c0_0]] (by rfl) rfl rfl (by (try simp only [List.map_toArray, List.map_cons, List.map_nil]); first | done | rfl | (simp only [List.length_drop, List.length_take]; rfl)) ?_
            with_reducible refine (laws_toTrie.calls kj16 _ _ l0_0 t278 _ ?side1 ?side2 A72.out).mono ?_
            (case side1 => repeat (first | exact (Kd.C_below HR0_0.out HB.out) | (with_reducible refine Kd.C_alloc ?_ _) | (with_reducible refine Kd.C_drewN ?_ _) | (with_reducible refine Kd.C_drew ?_)))
            (case side2 => exact HC0_0.out)
            rintro e w78 ⟨v279, rfl, ho0, hb⟩
            refine ⟨_, rfl, ?_⟩
            have HO280 := Aside0.mk (Kd.R_lower (Kd.R_new' (Kd.R_new' (Kd.R_new' ho0 (Kd.R_lt (zr HO_266000))) (Kd.R_lt (zr HO_270000))) (Kd.R_lt (zr HO_277000))) (below_size (zh5 HB GE253 GE254 GE265 GE269 GE276)))
            replace HO_266000 := Aside0.mk (Kd.R_elder' (zr HO_266000) (Kd.R_base ho0) hb)
            replace HO_270000 := Aside0.mk (Kd.R_elder' (zr HO_270000) (Kd.R_base ho0) hb)
            replace HO_277000 := Aside0.mk (Kd.R_elder' (zr HO_277000) (Kd.R_base ho0) hb)
            replace BK253 := zk BK253 hb
            replace BK254 := zk BK254 hb
            replace BK265 := zk BK265 hb
            replace BK269 := zk BK269 hb
            replace BK276 := zk BK276 hb
            replace HB := Aside0.mk (below_step (zh5 HB GE253 GE254 GE265 GE269 GE276) hb)
            (try clear hb)
            (try clear hb2)
            (try clear hk)
            (try clear hi)
            (try clear ho0)
            obtain ⟨Ao79, co79, eo79⟩ := Kd.R_slice HO280.out
            (first | subst eo79 | (injection eo79 with f1_ f2_ f3_; have f4_ := f1_.symm; have f5_ := f3_.symm; clear f1_ f2_ f3_; subst f4_; subst f5_))
            refine hK.out _ _ ⟨(blk_cell BK269.out 0).trans rfl, (blk_cell BK253.out 0).trans rfl⟩ (fun hHeld => ?_)
            clear hK K
            refine norm_ (a' := ?_) ?_ ?_
            rotate_left
            · show Act.put _ (some 53) _ = _
              simp only [Act.put, List.setIfInBounds_toArray, List.set_cons_zero, List.set_cons_succ, i64_w, i32_w]
              rfl
            refine one_ (i := 3) (N := some 54) #[Y,Y,Y,Y,Z] rfl rfl (by kernel_rfl) (by decide) (fun K hK => ?_)
            refine goes_ Try.func35 (by kernel_rfl) rfl #[.agg #[.slice Ao36 t266.length co36], .agg #[.slice Ao79 t278.length co79]] (by rfl) rfl rfl (by (try simp only [List.map_toArray, List.map_cons, List.map_nil]); first | done | rfl | (simp only [List.length_drop, List.length_take]; rfl)) ?_
            with_reducible refine (laws_eqTrie.calls kj16 _ _ t266 _ _ t278 true _ ?side1 ?side2 ?side3 ?side4 A73.out).mono ?_
            (case side1 => repeat (first | exact (Kd.R_reads' HO_270000.out).2.2 | (with_reducible refine Kd.C_alloc ?_ _) | (with_reducible refine Kd.C_drewN ?_ _) | (with_reducible refine Kd.C_drew ?_)))
            (case side2 => exact (Kd.R_reads' HO_270000.out).2.1)
            (case side3 => repeat (first | exact (Kd.R_reads' HO280.out).2.2 | (with_reducible refine Kd.C_alloc ?_ _) | (with_reducible refine Kd.C_drewN ?_ _) | (with_reducible refine Kd.C_drew ?_)))
            (case side4 => exact (Kd.R_reads' HO280.out).2.1)
            rintro e w80 ⟨rfl, hb⟩
            refine ⟨_, rfl, ?_⟩
            replace HO_266000 := Aside0.mk (Kd.R_below (zr HO_266000) hb)
            replace HO_270000 := Aside0.mk (Kd.R_below (zr HO_270000) hb)
            replace HO_277000 := Aside0.mk (Kd.R_below (zr HO_277000) hb)
            replace HO280 := Aside0.mk (Kd.R_below (zr HO280) hb)
            replace BK253 := zk BK253 hb
            replace BK254 := zk BK254 hb
            replace BK265 := zk BK265 hb
            replace BK269 := zk BK269 hb
            replace BK276 := zk BK276 hb
            replace HB := Aside0.mk (below_step (zh5 HB GE253 GE254 GE265 GE269 GE276) hb)
            (try clear hb)
            (try clear hb2)
            (try clear hk)
            (try clear hi)
            refine hK.out _ _ ⟨(blk_cell BK269.out 0).trans rfl, (blk_cell BK253.out 0).trans rfl⟩ (fun hHeld => ?_)
            clear hK K
            refine norm_ (a' := ?_) ?_ ?_
            rotate_left
            · show Act.put _ (some 54) _ = _
              simp only [Act.put, List.setIfInBounds_toArray, List.set_cons_zero, List.set_cons_succ, i64_w, i32_w]
              rfl
            refine pz (i := 4) (N := some 55) #[Y,Y,Y,Y,Y] (by kernel_rfl) ?_
            refine done_ (by kernel_rfl) ?_
            have hnb81 := NB269_253.out
            have hnc81 := NB253_269.out
            have hnb82 := NB269_254.out
            have hnc82 := NB254_269.out
            have hnb83 := NB269_265.out
            have hnc83 := NB265_269.out
            have hnb84 := NB269_276.out
            have hnc84 := NB276_269.out
            have hcz85_0 : w80.cell? ⟨gb269, 0, none⟩ = some (.slice Ao36 t266.length co36) := (blk_cell BK269.out 0).trans rfl
            have hfz85_0 := blk_frozen BK269.out 0
            go_upto_region 14 with (first | ((with_reducible refine gate_callee (f := 46) rfl ?_); refine goesL_ (some 58) rfl rfl Try.func46 (by kernel_rfl) rfl #[.agg #[.slice Ao36 t266.length co36], .int .i64 1] rfl (by (try simp only [List.map_toArray, List.map_cons, List.map_nil]); first | done | rfl | (simp only [List.length_drop, List.length_take]; rfl)) ?_; (with_reducible refine (laws_markTrie.calls kj16 (fun k_ => some k_ = (.slice Ao36 t266.length co36 : Value).ownBlock) (.slice Ao36 t266.length co36) t266 1 t282 t283 w _ ?side1 ?side2 A75.out).mono ?_); (case side1 => repeat (first | (with_reducible first | exact HB.out | apply below_alloc | apply pw_below_drewN | apply below_drew1 | refine below_set ?_ GE253.out | refine below_set ?_ GE254.out | refine below_set ?_ GE265.out | refine below_set ?_ GE269.out | refine below_set ?_ GE276.out) | exact HB.out)); (case side2 => exact Kd.R_tight rfl HO_270000.out); rintro e w86 ⟨rfl, hy0, hb, hkp⟩; refine ⟨_, rfl, ?_⟩; replace HO_266000 := Aside0.mk (Kd.R_mono (ok' := fun k_ => some k_ ≠ (.slice Ao36 t266.length co36 : Value).ownBlock ∧ some k_ ≠ (.slice Ao47 t272.length co47 : Value).ownBlock ∧ some k_ ≠ (.slice Ao79 t278.length co79 : Value).ownBlock) (Kd.R_keptB (HO_266000.out) hkp (fun k_ hk_ hs_ => (hk_.1.1) hs_)) (fun k_ hk_ => ⟨hk_.1.1.1, hk_.1.1.2, hk_.1.2⟩)); replace HO_277000 := Aside0.mk (Kd.R_mono (ok' := fun k_ => some k_ ≠ (.slice Ao30 t261.length co30 : Value).ownBlock ∧ some k_ ≠ (.slice Ao36 t266.length co36 : Value).ownBlock ∧ some k_ ≠ (.slice Ao79 t278.length co79 : Value).ownBlock) (Kd.R_keptB (HO_277000.out) hkp (fun k_ hk_ hs_ => (hk_.1.2) hs_)) (fun k_ hk_ => ⟨hk_.1.1.1, hk_.1.1.2, hk_.1.2⟩)); replace BK253 := Aside0.mk (blk_kept (zb BK253) hkp (fun hs_ => (fun e_ => (Kd.R_ne HO_270000.out BK253.out (by decide)) e_) hs_)); replace BK254 := Aside0.mk (blk_kept (zb BK254) hkp (fun hs_ => (fun e_ => (Kd.R_ne HO_270000.out BK254.out (by decide)) e_) hs_)); replace BK265 := Aside0.mk (blk_kept (zb BK265) hkp (fun hs_ => (fun e_ => (Kd.R_ne HO_270000.out BK265.out (by decide)) e_) hs_)); replace BK269 := Aside0.mk (blk_kept (zb BK269) hkp (fun hs_ => (fun e_ => (Kd.R_ne HO_270000.out BK269.out (by decide)) e_) hs_)); replace BK276 := Aside0.mk (blk_kept (zb BK276) hkp (fun hs_ => (fun e_ => (Kd.R_ne HO_270000.out BK276.out (by decide)) e_) hs_)); replace HO_270000 := Aside0.mk (Kd.R_reok rfl hy0 (fun k_ e_ => HO_270000.out.1 k_ e_)); replace HO280 := Aside0.mk (Kd.R_mono (ok' := fun k_ => some k_ ≠ (.slice Ao30 t261.length co30 : Value).ownBlock ∧ some k_ ≠ (.slice Ao36 t266.length co36 : Value).ownBlock ∧ some k_ ≠ (.slice Ao47 t272.length co47 : Value).ownBlock) (Kd.R_keptB (HO280.out) hkp (fun k_ hk_ hs_ => (hk_.1.2) hs_)) (fun k_ hk_ => ⟨hk_.1.1.1.2, hk_.1.1.2, hk_.1.2⟩)); replace HB := Aside0.mk (hb); (try clear hb); (try clear hkp); (try clear hy0)))
            (try simp only [Act.put, List.setIfInBounds_toArray, List.set_cons_zero, List.set_cons_succ])
            go_cut [71] (fun v71 wc => ∃ (kq : Nat) (x71_75 : Bool), v71 = .bool x71_75 ∧ Aside0 (laws_FnExactTriePut.j1 kq a2 t264 x71_75 l0_0 a1_0 a1_1 t261 t272 = some r) ∧ Aside0 (kq ≤ kj16) ∧ Aside0 (Kd.R k104 104 wc w.heap.size (fun k_ => some k_ ≠ ((.slice Ao36 t266.length co36) : Value).ownBlock ∧ some k_ ≠ ((.slice Ao47 t272.length co47) : Value).ownBlock) (.slice Ao30 t261.length co30) t261) ∧ Aside0 (Kd.R k104 104 wc w.heap.size (fun k_ => some k_ ≠ ((.slice Ao30 t261.length co30) : Value).ownBlock ∧ some k_ ≠ ((.slice Ao47 t272.length co47) : Value).ownBlock) (.slice Ao36 t266.length co36) t283) ∧ Aside0 (Kd.R k104 104 wc w.heap.size (fun k_ => some k_ ≠ ((.slice Ao30 t261.length co30) : Value).ownBlock ∧ some k_ ≠ ((.slice Ao36 t266.length co36) : Value).ownBlock) (.slice Ao47 t272.length co47) t272) ∧ Aside0 (wc.heap[gb253]? = some (.cells #[(.slice A0_0 l0_0.length c0_0)] 50 (0, 0))) ∧ Aside0 (wc.heap[gb254]? = some (.cells #[.int .i64 a1_0, .int .i64 a1_1] 33 (0, 0))) ∧ Aside0 (wc.heap[gb265]? = some (.cells #[(.slice Ao30 t261.length co30)] 55 (0, 0))) ∧ Aside0 (wc.heap[gb269]? = some (.cells #[(.slice Ao36 t266.length co36)] 55 (0, 0))) ∧ Aside0 (wc.heap[gb276]? = some (.cells #[(.slice Ao47 t272.length co47)] 55 (0, 0))) ∧ Aside0 (Below w.heap.size w wc))
            case first =>
              have H := HC76.out
              clear HC76
              by_cases c87 : t282 < 0
              · rw [if_pos c87] at H
                have c87b0 : decide (t282 < 0) = true := decide_eq_true c87
                clear c87
                (first | rw [c87b0] | (simp only [i64_w, i32_w]; rw [c87b0]) | skip)
                have H' := Aside0.mk H
                clear H
                go_wp2
                go_meet
                case rel => exact ⟨_, (true), (by first | rfl | (simp; done) | (simp [*]; done)), H', ⟨by have := HJ16.out; first | omega | exact Nat.le_refl _⟩, ⟨by (with_reducible repeat (first | apply Kd.R_alloc | apply Kd.R_drewN | apply Kd.R_drew)); exact Kd.R_mono HO_266000.out (fun _ hk => ⟨hk.1, hk.2.1⟩)⟩, ⟨by (with_reducible repeat (first | apply Kd.R_alloc | apply Kd.R_drewN | apply Kd.R_drew)); exact Kd.R_mono HO_270000.out (fun _ hk => ⟨hk.1.1, hk.1.2⟩)⟩, ⟨by (with_reducible repeat (first | apply Kd.R_alloc | apply Kd.R_drewN | apply Kd.R_drew)); exact Kd.R_mono HO_277000.out (fun _ hk => ⟨hk.1, hk.2.1⟩)⟩, ⟨by (with_reducible repeat (first | refine blk_drewN ?_ _ | refine blk_drew ?_ | refine blk_alloc ?_ _)); exact BK253.out⟩, ⟨by (with_reducible repeat (first | refine blk_drewN ?_ _ | refine blk_drew ?_ | refine blk_alloc ?_ _)); exact BK254.out⟩, ⟨by (with_reducible repeat (first | refine blk_drewN ?_ _ | refine blk_drew ?_ | refine blk_alloc ?_ _)); exact BK265.out⟩, ⟨by (with_reducible repeat (first | refine blk_drewN ?_ _ | refine blk_drew ?_ | refine blk_alloc ?_ _)); exact BK269.out⟩, ⟨by (with_reducible repeat (first | refine blk_drewN ?_ _ | refine blk_drew ?_ | refine blk_alloc ?_ _)); exact BK276.out⟩, ⟨zh5 HB GE253 GE254 GE265 GE269 GE276⟩⟩
              · rw [if_neg c87] at H
                have c87b0 : decide (t282 < 0) = false := decide_eq_false c87
                clear c87
                (first | rw [c87b0] | (simp only [i64_w, i32_w]; rw [c87b0]) | skip)
                replace H := Option.bind_eq_some_iff.mp H
                obtain ⟨t284, A880, H⟩ := H
                replace H : (if t284 = true then (laws_FnExactTriePut.j1 kj16 a2 t264 (t275 != t264) l0_0 a1_0 a1_1 t261 t272) else (laws_FnExactTriePut.j1 kj16 a2 t264 true l0_0 a1_0 a1_1 t261 t272)) = some r := H
                have A88 := Aside0.mk A880
                clear A880
                by_cases c89 : t284 = true
                · subst c89
                  have H1 : (laws_FnExactTriePut.j1 kj16 a2 t264 (t275 != t264) l0_0 a1_0 a1_1 t261 t272) = some r := by rw [if_pos rfl] at H; exact H
                  clear H
                  have H := H1
                  clear H1
                  have H' := Aside0.mk H
                  clear H
                  have hnb90 := NB276_253.out
                  have hnc90 := NB253_276.out
                  have hnb91 := NB276_254.out
                  have hnc91 := NB254_276.out
                  have hnb92 := NB276_265.out
                  have hnc92 := NB265_276.out
                  have hnb93 := NB276_269.out
                  have hnc93 := NB269_276.out
                  have hcz94_0 : w86.cell? ⟨gb276, 0, none⟩ = some (.slice Ao47 t272.length co47) := (blk_cell BK276.out 0).trans rfl
                  have hfz94_0 := blk_frozen BK276.out 0
                  have hnb95 := NB265_253.out
                  have hnc95 := NB253_265.out
                  have hnb96 := NB265_254.out
                  have hnc96 := NB254_265.out
                  have hnb97 := NB265_269.out
                  have hnc97 := NB269_265.out
                  have hcz98_0 : w86.cell? ⟨gb265, 0, none⟩ = some (.slice Ao30 t261.length co30) := (blk_cell BK265.out 0).trans rfl
                  have hfz98_0 := blk_frozen BK265.out 0
                  go_wp2_with (first | (go_at_call 35; (with_reducible refine (laws_eqTrie.calls kj16 _ _ t272 _ _ t261 true _ ?side1 ?side2 ?side3 ?side4 A88.out).mono ?_); (case side1 => repeat (first | exact (Kd.R_reads' HO_277000.out).2.2 | (with_reducible refine Kd.C_alloc ?_ _) | (with_reducible refine Kd.C_drewN ?_ _) | (with_reducible refine Kd.C_drew ?_))); (case side2 => exact (Kd.R_reads' HO_277000.out).2.1); (case side3 => repeat (first | exact (Kd.R_reads' HO_266000.out).2.2 | (with_reducible refine Kd.C_alloc ?_ _) | (with_reducible refine Kd.C_drewN ?_ _) | (with_reducible refine Kd.C_drew ?_))); (case side4 => exact (Kd.R_reads' HO_266000.out).2.1); rintro e w99 ⟨rfl, hb⟩; replace HO_266000 := Aside0.mk (Kd.R_below (zr HO_266000) hb); replace HO_270000 := Aside0.mk (Kd.R_below (zr HO_270000) hb); replace HO_277000 := Aside0.mk (Kd.R_below (zr HO_277000) hb); replace HO280 := Aside0.mk (Kd.R_below (zr HO280) hb); replace BK253 := zk BK253 hb; replace BK254 := zk BK254 hb; replace BK265 := zk BK265 hb; replace BK269 := zk BK269 hb; replace BK276 := zk BK276 hb; replace HB := Aside0.mk (below_step (zh5 HB GE253 GE254 GE265 GE269 GE276) hb); (try clear hb); (try clear hb2); (try clear hk); (try clear hi)))
                  go_meet
                  case rel => exact ⟨_, ((t275 != t264)), (by first | rfl | (simp; done) | (simp [*]; done)), H', ⟨by have := HJ16.out; first | omega | exact Nat.le_refl _⟩, ⟨by (with_reducible repeat (first | apply Kd.R_alloc | apply Kd.R_drewN | apply Kd.R_drew)); exact Kd.R_mono HO_266000.out (fun _ hk => ⟨hk.1, hk.2.1⟩)⟩, ⟨by (with_reducible repeat (first | apply Kd.R_alloc | apply Kd.R_drewN | apply Kd.R_drew)); exact Kd.R_mono HO_270000.out (fun _ hk => ⟨hk.1.1, hk.1.2⟩)⟩, ⟨by (with_reducible repeat (first | apply Kd.R_alloc | apply Kd.R_drewN | apply Kd.R_drew)); exact Kd.R_mono HO_277000.out (fun _ hk => ⟨hk.1, hk.2.1⟩)⟩, ⟨by (with_reducible repeat (first | refine blk_drewN ?_ _ | refine blk_drew ?_ | refine blk_alloc ?_ _)); exact BK253.out⟩, ⟨by (with_reducible repeat (first | refine blk_drewN ?_ _ | refine blk_drew ?_ | refine blk_alloc ?_ _)); exact BK254.out⟩, ⟨by (with_reducible repeat (first | refine blk_drewN ?_ _ | refine blk_drew ?_ | refine blk_alloc ?_ _)); exact BK265.out⟩, ⟨by (with_reducible repeat (first | refine blk_drewN ?_ _ | refine blk_drew ?_ | refine blk_alloc ?_ _)); exact BK269.out⟩, ⟨by (with_reducible repeat (first | refine blk_drewN ?_ _ | refine blk_drew ?_ | refine blk_alloc ?_ _)); exact BK276.out⟩, ⟨zh5 HB GE253 GE254 GE265 GE269 GE276⟩⟩
                · replace c89 := Bool.eq_false_iff.mpr c89
                  subst c89
                  have H1 : (laws_FnExactTriePut.j1 kj16 a2 t264 true l0_0 a1_0 a1_1 t261 t272) = some r := by rw [if_neg (show ¬ (false = true) by decide)] at H; exact H
                  clear H
                  have H := H1
                  clear H1
                  have H' := Aside0.mk H
                  clear H
                  have hnb100 := NB276_253.out
                  have hnc100 := NB253_276.out
                  have hnb101 := NB276_254.out
                  have hnc101 := NB254_276.out
                  have hnb102 := NB276_265.out
                  have hnc102 := NB265_276.out
                  have hnb103 := NB276_269.out
                  have hnc103 := NB269_276.out
                  have hcz104_0 : w86.cell? ⟨gb276, 0, none⟩ = some (.slice Ao47 t272.length co47) := (blk_cell BK276.out 0).trans rfl
                  have hfz104_0 := blk_frozen BK276.out 0
                  have hnb105 := NB265_253.out
                  have hnc105 := NB253_265.out
                  have hnb106 := NB265_254.out
                  have hnc106 := NB254_265.out
                  have hnb107 := NB265_269.out
                  have hnc107 := NB269_265.out
                  have hcz108_0 : w86.cell? ⟨gb265, 0, none⟩ = some (.slice Ao30 t261.length co30) := (blk_cell BK265.out 0).trans rfl
                  have hfz108_0 := blk_frozen BK265.out 0
                  go_wp2_with (first | (go_at_call 35; (with_reducible refine (laws_eqTrie.calls kj16 _ _ t272 _ _ t261 false _ ?side1 ?side2 ?side3 ?side4 A88.out).mono ?_); (case side1 => repeat (first | exact (Kd.R_reads' HO_277000.out).2.2 | (with_reducible refine Kd.C_alloc ?_ _) | (with_reducible refine Kd.C_drewN ?_ _) | (with_reducible refine Kd.C_drew ?_))); (case side2 => exact (Kd.R_reads' HO_277000.out).2.1); (case side3 => repeat (first | exact (Kd.R_reads' HO_266000.out).2.2 | (with_reducible refine Kd.C_alloc ?_ _) | (with_reducible refine Kd.C_drewN ?_ _) | (with_reducible refine Kd.C_drew ?_))); (case side4 => exact (Kd.R_reads' HO_266000.out).2.1); rintro e w109 ⟨rfl, hb⟩; replace HO_266000 := Aside0.mk (Kd.R_below (zr HO_266000) hb); replace HO_270000 := Aside0.mk (Kd.R_below (zr HO_270000) hb); replace HO_277000 := Aside0.mk (Kd.R_below (zr HO_277000) hb); replace HO280 := Aside0.mk (Kd.R_below (zr HO280) hb); replace BK253 := zk BK253 hb; replace BK254 := zk BK254 hb; replace BK265 := zk BK265 hb; replace BK269 := zk BK269 hb; replace BK276 := zk BK276 hb; replace HB := Aside0.mk (below_step (zh5 HB GE253 GE254 GE265 GE269 GE276) hb); (try clear hb); (try clear hb2); (try clear hk); (try clear hi)))
                  go_meet
                  case rel => exact ⟨_, (true), (by first | rfl | (simp; done) | (simp [*]; done)), H', ⟨by have := HJ16.out; first | omega | exact Nat.le_refl _⟩, ⟨by (with_reducible repeat (first | apply Kd.R_alloc | apply Kd.R_drewN | apply Kd.R_drew)); exact Kd.R_mono HO_266000.out (fun _ hk => ⟨hk.1, hk.2.1⟩)⟩, ⟨by (with_reducible repeat (first | apply Kd.R_alloc | apply Kd.R_drewN | apply Kd.R_drew)); exact Kd.R_mono HO_270000.out (fun _ hk => ⟨hk.1.1, hk.1.2⟩)⟩, ⟨by (with_reducible repeat (first | apply Kd.R_alloc | apply Kd.R_drewN | apply Kd.R_drew)); exact Kd.R_mono HO_277000.out (fun _ hk => ⟨hk.1, hk.2.1⟩)⟩, ⟨by (with_reducible repeat (first | refine blk_drewN ?_ _ | refine blk_drew ?_ | refine blk_alloc ?_ _)); exact BK253.out⟩, ⟨by (with_reducible repeat (first | refine blk_drewN ?_ _ | refine blk_drew ?_ | refine blk_alloc ?_ _)); exact BK254.out⟩, ⟨by (with_reducible repeat (first | refine blk_drewN ?_ _ | refine blk_drew ?_ | refine blk_alloc ?_ _)); exact BK265.out⟩, ⟨by (with_reducible repeat (first | refine blk_drewN ?_ _ | refine blk_drew ?_ | refine blk_alloc ?_ _)); exact BK269.out⟩, ⟨by (with_reducible repeat (first | refine blk_drewN ?_ _ | refine blk_drew ?_ | refine blk_alloc ?_ _)); exact BK276.out⟩, ⟨zh5 HB GE253 GE254 GE265 GE269 GE276⟩⟩
            case rest =>
              clear HC76
              try clear c1
              try clear p2
              try clear c3
              try clear c4
              try clear c5
              try clear c6
              try clear c7
              try clear c8
              try clear c9
              try clear c10
              try clear c33
              try clear c35
              try clear c40
              try clear c45
              try clear c46
              try clear c50
              try clear c51
              try clear c52
              try clear c53
              try clear c54
              try clear c56
              try clear c57
              try clear c58
              try clear c61
              try clear c62
              try clear c63
              try clear c64
              try clear c66
              try clear c67
              try clear c68
              try clear c71
              try clear c74
              try clear c81
              try clear c82
              try clear c83
              try clear c84
              try clear c87
              try clear c87b0
              try clear c89
              try clear c90
              try clear c91
              try clear c92
              try clear c93
              try clear c95
              try clear c96
              try clear c97
              try clear c100
              try clear c101
              try clear c102
              try clear c103
              try clear c105
              try clear c106
              try clear c107
              try clear hcz104_0
              try clear hcz108_0
              try clear hcz55_0
              try clear hcz59_0
              try clear hcz65_0
              try clear hcz69_0
              try clear hcz85_0
              try clear hcz94_0
              try clear hcz98_0
              try clear hfz104_0
              try clear hfz108_0
              try clear hfz55_0
              try clear hfz59_0
              try clear hfz65_0
              try clear hfz69_0
              try clear hfz85_0
              try clear hfz94_0
              try clear hfz98_0
              try clear p2
              obtain ⟨kq, x71_75, rfl, HA, HJ75, HO_266000, HO_270000, HO_277000, BK253, BK254, BK265, BK269, BK276, HB⟩ := hcut
              have hl270000_75 := (Kd.R_reads' HO_270000.out).1
              rw [hl270000_75] at HO_270000
              (try simp only [hl270000_75])
              (try simp only [hl270000_75] at BK253)
              (try simp only [hl270000_75] at BK254)
              (try simp only [hl270000_75] at BK265)
              (try simp only [hl270000_75] at BK269)
              (try simp only [hl270000_75] at BK276)
              (try simp only [hl270000_75] at HO_266000)
              (try simp only [hl270000_75] at HO_277000)
              cases kq with
              | zero => exact absurd HA.out (by simp [laws_FnExactTriePut.j1])
              | succ kj75 =>
                have H := HA.out
                clear HA
                simp only [laws_FnExactTriePut.j1] at H
                by_cases c110 : x71_75 = true
                · subst c110
                  have H1 : (some false) = some r := by rw [if_pos rfl] at H; exact H
                  clear H
                  have H := H1
                  clear H1
                  obtain rfl := Option.some.inj H
                  go_wp2
                  go_ret
                  exact ⟨by first | rfl | (simp [errW_none, errW_some] <;> rfl) | (simp [*, errW_none, errW_some] <;> rfl), zh5 HB GE253 GE254 GE265 GE269 GE276⟩
                · replace c110 := Bool.eq_false_iff.mpr c110
                  subst c110
                  have H1 : ((laws_markTrie.f kj75 t272 1).bind fun bt285 => ((laws_heldTrie.f kj75 bt285.2 1).bind fun t287 => (if t287 < 0 then (some false) else (if t287 = bt285.1 then ((laws_toTrie.f kj75 l0_0).bind fun t288 => ((laws_toPrefix.f a1_0 a1_1).bind fun bt291 => ((impl_TriePut.f kj75 t288 bt291.1 bt291.2 a2).bind fun bt293 => ((laws_eqTrie.f kj75 bt293.1 t261).bind fun t298 => (if t298 = true then (laws_FnExactTriePut.j2 kj75 bt285.1 (bt293.2 != t264) bt285.2) else (laws_FnExactTriePut.j2 kj75 bt285.1 true bt285.2)))))) else (some false))))) = some r := by rw [if_neg (show ¬ (false = true) by decide)] at H; exact H
                  clear H
                  have H := H1
                  clear H1
                  replace H := Option.bind_eq_some_iff.mp H
                  obtain ⟨⟨t285, t286⟩, A1110, H⟩ := H
                  replace H : ((laws_heldTrie.f kj75 t286 1).bind fun t287 => (if t287 < 0 then (some false) else (if t287 = t285 then ((laws_toTrie.f kj75 l0_0).bind fun t288 => ((laws_toPrefix.f a1_0 a1_1).bind fun bt291 => ((impl_TriePut.f kj75 t288 bt291.1 bt291.2 a2).bind fun bt293 => ((laws_eqTrie.f kj75 bt293.1 t261).bind fun t298 => (if t298 = true then (laws_FnExactTriePut.j2 kj75 t285 (bt293.2 != t264) t286) else (laws_FnExactTriePut.j2 kj75 t285 true t286)))))) else (some false)))) = some r := H
                  have A111 := Aside0.mk A1110
                  clear A1110
                  replace H := Option.bind_eq_some_iff.mp H
                  obtain ⟨t287, A1120, H⟩ := H
                  replace H : (if t287 < 0 then (some false) else (if t287 = t285 then ((laws_toTrie.f kj75 l0_0).bind fun t288 => ((laws_toPrefix.f a1_0 a1_1).bind fun bt291 => ((impl_TriePut.f kj75 t288 bt291.1 bt291.2 a2).bind fun bt293 => ((laws_eqTrie.f kj75 bt293.1 t261).bind fun t298 => (if t298 = true then (laws_FnExactTriePut.j2 kj75 t285 (bt293.2 != t264) t286) else (laws_FnExactTriePut.j2 kj75 t285 true t286)))))) else (some false))) = some r := H
                  have A112 := Aside0.mk A1120
                  clear A1120
                  by_cases c113 : t287 < 0
                  · rw [if_pos c113] at H
                    have c113b0 : decide (t287 < 0) = true := decide_eq_true c113
                    clear c113
                    obtain rfl := Option.some.inj H
                    have hnb114 := NB276_253.out
                    have hnc114 := NB253_276.out
                    have hnb115 := NB276_254.out
                    have hnc115 := NB254_276.out
                    have hnb116 := NB276_265.out
                    have hnc116 := NB265_276.out
                    have hnb117 := NB276_269.out
                    have hnc117 := NB269_276.out
                    have hcz118_0 : wc.cell? ⟨gb276, 0, none⟩ = some (.slice Ao47 t272.length co47) := (blk_cell BK276.out 0).trans rfl
                    have hfz118_0 := blk_frozen BK276.out 0
                    go_wp2_with (first | ((with_reducible refine gate_callee (f := 46) rfl ?_); refine goesL_ (some 74) rfl rfl Try.func46 (by kernel_rfl) rfl #[.agg #[.slice Ao47 t272.length co47], .int .i64 1] rfl (by (try simp only [List.map_toArray, List.map_cons, List.map_nil]); first | done | rfl | (simp only [List.length_drop, List.length_take]; rfl)) ?_; (with_reducible refine (laws_markTrie.calls kj75 (fun k_ => some k_ = (.slice Ao47 t272.length co47 : Value).ownBlock) (.slice Ao47 t272.length co47) t272 1 t285 t286 w _ ?side1 ?side2 A111.out).mono ?_); (case side1 => repeat (first | (with_reducible first | exact HB.out | apply below_alloc | apply pw_below_drewN | apply below_drew1 | refine below_set ?_ GE253.out | refine below_set ?_ GE254.out | refine below_set ?_ GE265.out | refine below_set ?_ GE269.out | refine below_set ?_ GE276.out) | exact HB.out)); (case side2 => exact Kd.R_tight rfl HO_277000.out); rintro e w119 ⟨rfl, hy0, hb, hkp⟩; refine ⟨_, rfl, ?_⟩; replace HO_266000 := Aside0.mk (Kd.R_mono (ok' := fun k_ => some k_ ≠ (.slice Ao36 t283.length co36 : Value).ownBlock ∧ some k_ ≠ (.slice Ao47 t272.length co47 : Value).ownBlock) (Kd.R_keptB (HO_266000.out) hkp (fun k_ hk_ hs_ => (hk_.2) hs_)) (fun k_ hk_ => ⟨hk_.1.1, hk_.1.2⟩)); replace HO_270000 := Aside0.mk (Kd.R_mono (ok' := fun k_ => some k_ ≠ (.slice Ao30 t261.length co30 : Value).ownBlock ∧ some k_ ≠ (.slice Ao47 t272.length co47 : Value).ownBlock) (Kd.R_keptB (HO_270000.out) hkp (fun k_ hk_ hs_ => (hk_.2) hs_)) (fun k_ hk_ => ⟨hk_.1.1, hk_.1.2⟩)); replace BK253 := Aside0.mk (blk_kept (zb BK253) hkp (fun hs_ => (fun e_ => (Kd.R_ne HO_277000.out BK253.out (by decide)) e_) hs_)); replace BK254 := Aside0.mk (blk_kept (zb BK254) hkp (fun hs_ => (fun e_ => (Kd.R_ne HO_277000.out BK254.out (by decide)) e_) hs_)); replace BK265 := Aside0.mk (blk_kept (zb BK265) hkp (fun hs_ => (fun e_ => (Kd.R_ne HO_277000.out BK265.out (by decide)) e_) hs_)); replace BK269 := Aside0.mk (blk_kept (zb BK269) hkp (fun hs_ => (fun e_ => (Kd.R_ne HO_277000.out BK269.out (by decide)) e_) hs_)); replace BK276 := Aside0.mk (blk_kept (zb BK276) hkp (fun hs_ => (fun e_ => (Kd.R_ne HO_277000.out BK276.out (by decide)) e_) hs_)); replace HO_277000 := Aside0.mk (Kd.R_reok rfl hy0 (fun k_ e_ => HO_277000.out.1 k_ e_)); replace HB := Aside0.mk (hb); (try clear hb); (try clear hkp); (try clear hy0); have hcz120_0 : w119.cell? ⟨gb276, 0, none⟩ = some (.slice Ao47 t272.length co47) := (blk_cell BK276.out 0).trans rfl; have hfz120_0 := blk_frozen BK276.out 0) | ((with_reducible refine gate_callee (f := 47) rfl ?_); refine goesL_ (some 77) rfl rfl Try.func47 (by kernel_rfl) rfl #[.agg #[.slice Ao47 t286.length co47], .int .i64 1] rfl (by (try simp only [List.map_toArray, List.map_cons, List.map_nil]); first | done | (rw [show t286.length = t272.length from (Kd.R_reads' HO_277000.out).1.symm] <;> rfl) | rfl | (simp only [List.length_drop, List.length_take]; rfl)) ?_; (with_reducible refine (laws_heldTrie.calls kj75 _ _ t286 1 t287 _ ?side1 ?side2 A112.out).mono ?_); (case side1 => repeat (first | exact (Kd.R_reads' HO_277000.out).2.2 | (with_reducible refine Kd.C_alloc ?_ _) | (with_reducible refine Kd.C_drewN ?_ _) | (with_reducible refine Kd.C_drew ?_))); (case side2 => rw [show t286.length = t272.length from (Kd.R_reads' HO_277000.out).1.symm]; exact (Kd.R_reads' HO_277000.out).2.1); rintro e w121 ⟨rfl, hb⟩; refine ⟨_, rfl, ?_⟩; replace HO_266000 := Aside0.mk (Kd.R_below (zr HO_266000) hb); replace HO_270000 := Aside0.mk (Kd.R_below (zr HO_270000) hb); replace HO_277000 := Aside0.mk (Kd.R_below (zr HO_277000) hb); replace BK253 := zk BK253 hb; replace BK254 := zk BK254 hb; replace BK265 := zk BK265 hb; replace BK269 := zk BK269 hb; replace BK276 := zk BK276 hb; replace HB := Aside0.mk (below_step (zh5 HB GE253 GE254 GE265 GE269 GE276) hb); (try clear hb); (try clear hb2); (try clear hk); (try clear hi)))
                    go_ret
                    exact ⟨by first | rfl | (simp [errW_none, errW_some] <;> rfl) | (simp [*, errW_none, errW_some] <;> rfl), zh5 HB GE253 GE254 GE265 GE269 GE276⟩
                  · rw [if_neg c113] at H
                    have c113b0 : decide (t287 < 0) = false := decide_eq_false c113
                    clear c113
                    by_cases c122 : t287 = t285
                    · rw [if_pos c122] at H
                      have c122b0 : (t287 == t285) = true := beq_iff_eq.mpr c122
                      have c122b1 : (t287 != t285) = false := bne_eq_false_iff_eq.mpr c122
                      clear c122
                      replace H := Option.bind_eq_some_iff.mp H
                      obtain ⟨t288, A1230, H⟩ := H
                      replace H : ((laws_toPrefix.f a1_0 a1_1).bind fun bt291 => ((impl_TriePut.f kj75 t288 bt291.1 bt291.2 a2).bind fun bt293 => ((laws_eqTrie.f kj75 bt293.1 t261).bind fun t298 => (if t298 = true then (laws_FnExactTriePut.j2 kj75 t285 (bt293.2 != t264) t286) else (laws_FnExactTriePut.j2 kj75 t285 true t286))))) = some r := H
                      have A123 := Aside0.mk A1230
                      clear A1230
                      replace H := Option.bind_eq_some_iff.mp H
                      obtain ⟨⟨t291, t292⟩, A1240, H⟩ := H
                      replace H : ((impl_TriePut.f kj75 t288 t291 t292 a2).bind fun bt293 => ((laws_eqTrie.f kj75 bt293.1 t261).bind fun t298 => (if t298 = true then (laws_FnExactTriePut.j2 kj75 t285 (bt293.2 != t264) t286) else (laws_FnExactTriePut.j2 kj75 t285 true t286)))) = some r := H
                      have A124 := Aside0.mk A1240
                      clear A1240
                      replace H := Option.bind_eq_some_iff.mp H
                      obtain ⟨⟨t293, t296⟩, A1250, H⟩ := H
                      replace H : ((laws_eqTrie.f kj75 t293 t261).bind fun t298 => (if t298 = true then (laws_FnExactTriePut.j2 kj75 t285 (t296 != t264) t286) else (laws_FnExactTriePut.j2 kj75 t285 true t286))) = some r := H
                      have A125 := Aside0.mk A1250
                      clear A1250
                      have HC126 := Aside0.mk H
                      clear H
                      have hnb127 := NB276_253.out
                      have hnc127 := NB253_276.out
                      have hnb128 := NB276_254.out
                      have hnc128 := NB254_276.out
                      have hnb129 := NB276_265.out
                      have hnc129 := NB265_276.out
                      have hnb130 := NB276_269.out
                      have hnc130 := NB269_276.out
                      have hcz131_0 : wc.cell? ⟨gb276, 0, none⟩ = some (.slice Ao47 t272.length co47) := (blk_cell BK276.out 0).trans rfl
                      have hfz131_0 := blk_frozen BK276.out 0
                      try go_wp2_with (first | ((with_reducible refine gate_callee (f := 46) rfl ?_); refine goesL_ (some 74) rfl rfl Try.func46 (by kernel_rfl) rfl #[.agg #[.slice Ao47 t272.length co47], .int .i64 1] rfl (by (try simp only [List.map_toArray, List.map_cons, List.map_nil]); first | done | rfl | (simp only [List.length_drop, List.length_take]; rfl)) ?_; (with_reducible refine (laws_markTrie.calls kj75 (fun k_ => some k_ = (.slice Ao47 t272.length co47 : Value).ownBlock) (.slice Ao47 t272.length co47) t272 1 t285 t286 w _ ?side1 ?side2 A111.out).mono ?_); (case side1 => repeat (first | (with_reducible first | exact HB.out | apply below_alloc | apply pw_below_drewN | apply below_drew1 | refine below_set ?_ GE253.out | refine below_set ?_ GE254.out | refine below_set ?_ GE265.out | refine below_set ?_ GE269.out | refine below_set ?_ GE276.out) | exact HB.out)); (case side2 => exact Kd.R_tight rfl HO_277000.out); rintro e w132 ⟨rfl, hy0, hb, hkp⟩; refine ⟨_, rfl, ?_⟩; replace HO_266000 := Aside0.mk (Kd.R_mono (ok' := fun k_ => some k_ ≠ (.slice Ao36 t283.length co36 : Value).ownBlock ∧ some k_ ≠ (.slice Ao47 t272.length co47 : Value).ownBlock) (Kd.R_keptB (HO_266000.out) hkp (fun k_ hk_ hs_ => (hk_.2) hs_)) (fun k_ hk_ => ⟨hk_.1.1, hk_.1.2⟩)); replace HO_270000 := Aside0.mk (Kd.R_mono (ok' := fun k_ => some k_ ≠ (.slice Ao30 t261.length co30 : Value).ownBlock ∧ some k_ ≠ (.slice Ao47 t272.length co47 : Value).ownBlock) (Kd.R_keptB (HO_270000.out) hkp (fun k_ hk_ hs_ => (hk_.2) hs_)) (fun k_ hk_ => ⟨hk_.1.1, hk_.1.2⟩)); replace BK253 := Aside0.mk (blk_kept (zb BK253) hkp (fun hs_ => (fun e_ => (Kd.R_ne HO_277000.out BK253.out (by decide)) e_) hs_)); replace BK254 := Aside0.mk (blk_kept (zb BK254) hkp (fun hs_ => (fun e_ => (Kd.R_ne HO_277000.out BK254.out (by decide)) e_) hs_)); replace BK265 := Aside0.mk (blk_kept (zb BK265) hkp (fun hs_ => (fun e_ => (Kd.R_ne HO_277000.out BK265.out (by decide)) e_) hs_)); replace BK269 := Aside0.mk (blk_kept (zb BK269) hkp (fun hs_ => (fun e_ => (Kd.R_ne HO_277000.out BK269.out (by decide)) e_) hs_)); replace BK276 := Aside0.mk (blk_kept (zb BK276) hkp (fun hs_ => (fun e_ => (Kd.R_ne HO_277000.out BK276.out (by decide)) e_) hs_)); replace HO_277000 := Aside0.mk (Kd.R_reok rfl hy0 (fun k_ e_ => HO_277000.out.1 k_ e_)); replace HB := Aside0.mk (hb); (try clear hb); (try clear hkp); (try clear hy0); have hcz133_0 : w132.cell? ⟨gb276, 0, none⟩ = some (.slice Ao47 t272.length co47) := (blk_cell BK276.out 0).trans rfl; have hfz133_0 := blk_frozen BK276.out 0) | ((with_reducible refine gate_callee (f := 47) rfl ?_); refine goesL_ (some 77) rfl rfl Try.func47 (by kernel_rfl) rfl #[.agg #[.slice Ao47 t286.length co47], .int .i64 1] rfl (by (try simp only [List.map_toArray, List.map_cons, List.map_nil]); first | done | (rw [show t286.length = t272.length from (Kd.R_reads' HO_277000.out).1.symm] <;> rfl) | rfl | (simp only [List.length_drop, List.length_take]; rfl)) ?_; (with_reducible refine (laws_heldTrie.calls kj75 _ _ t286 1 t287 _ ?side1 ?side2 A112.out).mono ?_); (case side1 => repeat (first | exact (Kd.R_reads' HO_277000.out).2.2 | (with_reducible refine Kd.C_alloc ?_ _) | (with_reducible refine Kd.C_drewN ?_ _) | (with_reducible refine Kd.C_drew ?_))); (case side2 => rw [show t286.length = t272.length from (Kd.R_reads' HO_277000.out).1.symm]; exact (Kd.R_reads' HO_277000.out).2.1); rintro e w134 ⟨rfl, hb⟩; refine ⟨_, rfl, ?_⟩; replace HO_266000 := Aside0.mk (Kd.R_below (zr HO_266000) hb); replace HO_270000 := Aside0.mk (Kd.R_below (zr HO_270000) hb); replace HO_277000 := Aside0.mk (Kd.R_below (zr HO_277000) hb); replace BK253 := zk BK253 hb; replace BK254 := zk BK254 hb; replace BK265 := zk BK265 hb; replace BK269 := zk BK269 hb; replace BK276 := zk BK276 hb; replace HB := Aside0.mk (below_step (zh5 HB GE253 GE254 GE265 GE269 GE276) hb); (try clear hb); (try clear hb2); (try clear hk); (try clear hi)))
                      replace HO_266000 := Aside0.mk (Kd.R_drew HO_266000.out)
                      replace HO_270000 := Aside0.mk (Kd.R_drew HO_270000.out)
                      replace HO_277000 := Aside0.mk (Kd.R_drew HO_277000.out)
                      replace BK253 := Aside0.mk (blk_drew BK253.out)
                      replace BK254 := Aside0.mk (blk_drew BK254.out)
                      replace BK265 := Aside0.mk (blk_drew BK265.out)
                      replace BK269 := Aside0.mk (blk_drew BK269.out)
                      replace BK276 := Aside0.mk (blk_drew BK276.out)
                      replace HB := Aside0.mk (below_drew1 HB.out)
                      refine start_ (n := 12) (S := fun w' => w'.cell? ⟨gb253, 0, none⟩ = some (.slice A0_0 l0_0.length c0_0) ∧ w'.cell? ⟨gb254, 0, none⟩ = some (.int .i64 a1_0) ∧ w'.cell? ⟨gb254, 1, none⟩ = some (.int .i64 a1_1)) (ds := []) #[Z,Z,Z,Z,Z,Z,Z,Z,Z,Z,Z,Z] (by kernel_rfl) rfl rfl ⟨(blk_cell BK253.out 0).trans rfl, (blk_cell BK254.out 0).trans rfl, (blk_cell BK254.out 1).trans rfl⟩ (fun hHeld => ?_); refine with_tabW laws_FnExactTriePut.tab24 laws_FnExactTriePut.bits24 (fun HT_ HW_ => ?_)
                      generalize w134.drew = w135 at HO_266000 HO_270000 HO_277000 BK253 BK254 BK265 BK269 BK276 HB hHeld ⊢
                      refine pz (i := 4) (N := some 88) #[Z,Z,Z,Z,Y,Z,Z,Z,Z,Z,Z,Z] (any_of HT_.out (by kernel_rfl)) ?_
                      refine tz (i := 0) (N := some 84) #[Y,Z,Z,Z,Y,Z,Z,Z,Z,Z,Z,Z] rfl (take_ofW HT_.out HW_.out (by kernel_rfl)) (Or.inl ⟨by rfl, by rintro w' ⟨s0, s1, s2⟩; go_simp; with_reducible rfl⟩) hHeld ?_
                      refine tz (i := 2) (N := some 86) #[Y,Z,Y,Z,Y,Z,Z,Z,Z,Z,Z,Z] rfl (take_ofW HT_.out HW_.out (by kernel_rfl)) (Or.inl ⟨by rfl, by rintro w' ⟨s0, s1, s2⟩; go_simp; with_reducible rfl⟩) hHeld ?_
                      refine join_ (σ := Value × Value × Nat) 2 #[Y,Y,Y,Y,Y,Y,Y,Y,Y,Y,Z,Z] (fun s_ => [(85, .agg #[s_.1]), (87, .agg #[.int .i64 t291, .int .i64 t292]), (89, .tuple #[.agg #[s_.2.1], .bool t296]), (16, .pointer (some ⟨s_.2.2, 0, none⟩)), (83, .tuple #[.agg #[s_.2.1], .bool t296]), (90, .agg #[s_.2.1]), (91, .bool t296)]) (fun s_ w' => (w'.cell? ⟨gb253, 0, none⟩ = some (.slice A0_0 l0_0.length c0_0) ∧ w'.cell? ⟨gb254, 0, none⟩ = some (.int .i64 a1_0) ∧ w'.cell? ⟨gb254, 1, none⟩ = some (.int .i64 a1_1)) ∧ (Kd.R k104 104 w' w.heap.size (fun k_ => some k_ ≠ (s_.2.1 : Value).ownBlock ∧ some k_ ≠ (.slice Ao30 t261.length co30 : Value).ownBlock ∧ some k_ ≠ (.slice Ao36 t283.length co36 : Value).ownBlock ∧ some k_ ≠ (.slice Ao47 t272.length co47 : Value).ownBlock) s_.1 t288) ∧ (Kd.R k104 104 w' w.heap.size (fun k_ => some k_ ≠ (s_.1 : Value).ownBlock ∧ some k_ ≠ (.slice Ao30 t261.length co30 : Value).ownBlock ∧ some k_ ≠ (.slice Ao36 t283.length co36 : Value).ownBlock ∧ some k_ ≠ (.slice Ao47 t272.length co47 : Value).ownBlock) s_.2.1 t293) ∧ (Kd.R k104 104 w' w.heap.size (fun k_ => some k_ ≠ (s_.1 : Value).ownBlock ∧ some k_ ≠ (s_.2.1 : Value).ownBlock ∧ some k_ ≠ (.slice Ao36 t283.length co36 : Value).ownBlock ∧ some k_ ≠ (.slice Ao47 t272.length co47 : Value).ownBlock) (.slice Ao30 t261.length co30) t261) ∧ (Kd.R k104 104 w' w.heap.size (fun k_ => some k_ ≠ (s_.1 : Value).ownBlock ∧ some k_ ≠ (s_.2.1 : Value).ownBlock ∧ some k_ ≠ (.slice Ao30 t261.length co30 : Value).ownBlock ∧ some k_ ≠ (.slice Ao47 t272.length co47 : Value).ownBlock) (.slice Ao36 t283.length co36) t283) ∧ (Kd.R k104 104 w' w.heap.size (fun k_ => some k_ ≠ (s_.1 : Value).ownBlock ∧ some k_ ≠ (s_.2.1 : Value).ownBlock ∧ some k_ ≠ (.slice Ao30 t261.length co30 : Value).ownBlock ∧ some k_ ≠ (.slice Ao36 t283.length co36 : Value).ownBlock) (.slice Ao47 t272.length co47) t286) ∧ (w'.heap[gb253]? = some (.cells #[.slice A0_0 l0_0.length c0_0] 50 (0, 0))) ∧ (w'.heap[gb254]? = some (.cells #[.int .i64 a1_0, .int .i64 a1_1] 33 (0, 0))) ∧ (w'.heap[gb265]? = some (.cells #[.slice Ao30 t261.length co30] 55 (0, 0))) ∧ (w'.heap[gb269]? = some (.cells #[.slice Ao36 t283.length co36] 55 (0, 0))) ∧ (w'.heap[gb276]? = some (.cells #[.slice Ao47 t272.length co47] 55 (0, 0))) ∧ (w'.heap[s_.2.2]? = some (.cells #[.slice none 0 0] 55 (0, 0))) ∧ (w.heap.size ≤ s_.2.2) ∧ (w.heap.size ≤ s_.2.2) ∧ (gb253 ≠ s_.2.2) ∧ (s_.2.2 ≠ gb253) ∧ (gb254 ≠ s_.2.2) ∧ (s_.2.2 ≠ gb254) ∧ (gb265 ≠ s_.2.2) ∧ (s_.2.2 ≠ gb265) ∧ (gb269 ≠ s_.2.2) ∧ (s_.2.2 ≠ gb269) ∧ (gb276 ≠ s_.2.2) ∧ (s_.2.2 ≠ gb276) ∧ (Below w.heap.size w w')) ?_ ?_
                      rotate_left
                      · intro hCont
                        refine two_ (i := 1) (j := 9) (Ni := some 85) (Nj := some 16) #[Y,Y,Y,Z,Y,Z,Z,Z,Z,Z,Z,Z] #[Y,Z,Y,Z,Y,Z,Z,Z,Z,Y,Z,Z] rfl rfl rfl rfl (two_of HT_.out (by kernel_rfl)) (by decide) (by decide) (fun K hK => ?_) (fun K hK => ?_)
                        · skip
                          refine goes_ Try.func33 (by kernel_rfl) rfl #[.agg #[.slice A0_0 l0_0.length c0_0]] (by rfl) rfl rfl (by (try simp only [List.map_toArray, List.map_cons, List.map_nil]); first | done | rfl | (simp only [List.length_drop, List.length_take]; rfl)) ?_
                          with_reducible refine (laws_toTrie.calls kj75 _ _ l0_0 t288 _ ?side1 ?side2 A123.out).mono ?_
                          (case side1 => repeat (first | exact (Kd.C_below HR0_0.out HB.out) | (with_reducible refine Kd.C_alloc ?_ _) | (with_reducible refine Kd.C_drewN ?_ _) | (with_reducible refine Kd.C_drew ?_)))
                          (case side2 => exact HC0_0.out)
                          rintro e w136 ⟨v289, rfl, ho0, hb⟩
                          refine ⟨_, rfl, ?_⟩
                          have HO290 := Aside0.mk (Kd.R_lower (Kd.R_new' (Kd.R_new' (Kd.R_new' ho0 (Kd.R_lt (zr HO_266000))) (Kd.R_lt (zr HO_270000))) (Kd.R_lt (zr HO_277000))) (below_size (zh5 HB GE253 GE254 GE265 GE269 GE276)))
                          replace HO_266000 := Aside0.mk (Kd.R_elder' (zr HO_266000) (Kd.R_base ho0) hb)
                          replace HO_270000 := Aside0.mk (Kd.R_elder' (zr HO_270000) (Kd.R_base ho0) hb)
                          replace HO_277000 := Aside0.mk (Kd.R_elder' (zr HO_277000) (Kd.R_base ho0) hb)
                          replace BK253 := zk BK253 hb
                          replace BK254 := zk BK254 hb
                          replace BK265 := zk BK265 hb
                          replace BK269 := zk BK269 hb
                          replace BK276 := zk BK276 hb
                          replace HB := Aside0.mk (below_step (zh5 HB GE253 GE254 GE265 GE269 GE276) hb)
                          (try clear hb)
                          (try clear hb2)
                          (try clear hk)
                          (try clear hi)
                          (try clear ho0)
                          refine hK.out _ _ ⟨(blk_cell BK253.out 0).trans rfl, (blk_cell BK254.out 0).trans rfl, (blk_cell BK254.out 1).trans rfl⟩ (fun hHeld => ?_)
                          clear hK K
                          refine norm_ (a' := ?_) ?_ ?_
                          rotate_left
                          · show Act.put _ (some 85) _ = _
                            simp only [Act.put, List.setIfInBounds_toArray, List.set_cons_zero, List.set_cons_succ, i64_w, i32_w]
                            rfl
                          refine two_ (i := 3) (j := 9) (Ni := some 87) (Nj := some 16) #[Y,Y,Y,Y,Y,Z,Z,Z,Z,Z,Z,Z] #[Y,Y,Y,Z,Y,Z,Z,Z,Z,Y,Z,Z] rfl rfl rfl rfl (two_of HT_.out (by kernel_rfl)) (by decide) (by decide) (fun K hK => ?_) (fun K hK => ?_)
                          · skip
                            refine goes_ Try.func40 (by kernel_rfl) rfl #[.agg #[.int .i64 a1_0, .int .i64 a1_1]] (by rfl) rfl rfl (by (try simp only [List.map_toArray, List.map_cons, List.map_nil]); first | done | rfl | (simp only [List.length_drop, List.length_take]; rfl)) ?_
                            with_reducible refine (laws_toPrefix.calls a1_0 a1_1 t291 t292 _ A124.out).mono ?_
                            rintro e w137 ⟨rfl, hb⟩
                            refine ⟨_, rfl, ?_⟩
                            replace HO_266000 := Aside0.mk (Kd.R_below (zr HO_266000) hb)
                            replace HO_270000 := Aside0.mk (Kd.R_below (zr HO_270000) hb)
                            replace HO_277000 := Aside0.mk (Kd.R_below (zr HO_277000) hb)
                            replace HO290 := Aside0.mk (Kd.R_below (zr HO290) hb)
                            replace BK253 := zk BK253 hb
                            replace BK254 := zk BK254 hb
                            replace BK265 := zk BK265 hb
                            replace BK269 := zk BK269 hb
                            replace BK276 := zk BK276 hb
                            replace HB := Aside0.mk (below_step (zh5 HB GE253 GE254 GE265 GE269 GE276) hb)
                            (try clear hb)
                            (try clear hb2)
                            (try clear hk)
                            (try clear hi)
                            obtain ⟨Ao138, co138, eo138⟩ := Kd.R_slice HO290.out
                            (first | subst eo138 | (injection eo138 with f1_ f2_ f3_; have f4_ := f1_.symm; have f5_ := f3_.symm; clear f1_ f2_ f3_; subst f4_; subst f5_))
                            refine hK.out _ _ ⟨(blk_cell BK253.out 0).trans rfl, (blk_cell BK254.out 0).trans rfl, (blk_cell BK254.out 1).trans rfl⟩ (fun hHeld => ?_)
                            clear hK K
                            refine norm_ (a' := ?_) ?_ ?_
                            rotate_left
                            · show Act.put _ (some 87) _ = _
                              simp only [Act.put, List.setIfInBounds_toArray, List.set_cons_zero, List.set_cons_succ, i64_w, i32_w]
                              rfl
                            refine two_ (i := 5) (j := 9) (Ni := some 89) (Nj := some 16) #[Y,Y,Y,Y,Y,Y,Z,Z,Z,Z,Z,Z] #[Y,Y,Y,Y,Y,Z,Z,Z,Z,Y,Z,Z] rfl rfl rfl rfl (two_of HT_.out (by kernel_rfl)) (by decide) (by decide) (fun K hK => ?_) (fun K hK => ?_)
                            · skip
                              refine goes_ Try.func45 (by kernel_rfl) rfl #[.agg #[.slice Ao138 t288.length co138], .agg #[.int .i64 t291, .int .i64 t292], .int .i64 a2] (by rfl) rfl rfl (by (try simp only [List.map_toArray, List.map_cons, List.map_nil]); first | done | rfl | (simp only [List.length_drop, List.length_take]; rfl)) ?_
                              with_reducible refine (impl_TriePut.calls kj75 _ _ t288 t291 t292 a2 t293 t296 _ ?side1 ?side2 A125.out).mono ?_
                              (case side1 => repeat (first | exact (Kd.R_reads' HO290.out).2.2 | (with_reducible refine Kd.C_alloc ?_ _) | (with_reducible refine Kd.C_drewN ?_ _) | (with_reducible refine Kd.C_drew ?_)))
                              (case side2 => exact (Kd.R_reads' HO290.out).2.1)
                              rintro e w139 ⟨v294, rfl, ho0, hb⟩
                              refine ⟨_, rfl, ?_⟩
                              have HO295 := Aside0.mk (Kd.R_lower (Kd.R_new' (Kd.R_new' (Kd.R_new' (Kd.R_new' ho0 (Kd.R_lt (zr HO_266000))) (Kd.R_lt (zr HO_270000))) (Kd.R_lt (zr HO_277000))) (Kd.R_lt (zr HO290))) (below_size (zh5 HB GE253 GE254 GE265 GE269 GE276)))
                              replace HO_266000 := Aside0.mk (Kd.R_elder' (zr HO_266000) (Kd.R_base ho0) hb)
                              replace HO_270000 := Aside0.mk (Kd.R_elder' (zr HO_270000) (Kd.R_base ho0) hb)
                              replace HO_277000 := Aside0.mk (Kd.R_elder' (zr HO_277000) (Kd.R_base ho0) hb)
                              replace HO290 := Aside0.mk (Kd.R_elder' (zr HO290) (Kd.R_base ho0) hb)
                              replace BK253 := zk BK253 hb
                              replace BK254 := zk BK254 hb
                              replace BK265 := zk BK265 hb
                              replace BK269 := zk BK269 hb
                              replace BK276 := zk BK276 hb
                              replace HB := Aside0.mk (below_step (zh5 HB GE253 GE254 GE265 GE269 GE276) hb)
                              (try clear hb)
                              (try clear hb2)
                              (try clear hk)
                              (try clear hi)
                              (try clear ho0)
                              refine hK.out _ _ ⟨(blk_cell BK253.out 0).trans rfl, (blk_cell BK254.out 0).trans rfl, (blk_cell BK254.out 1).trans rfl⟩ (fun hHeld => ?_)
                              clear hK K
                              refine norm_ (a' := ?_) ?_ ?_
                              rotate_left
                              · show Act.put _ (some 89) _ = _
                                simp only [Act.put, List.setIfInBounds_toArray, List.set_cons_zero, List.set_cons_succ, i64_w, i32_w]
                                rfl
                              refine pz (i := 6) (N := some 83) #[Y,Y,Y,Y,Y,Y,Y,Z,Z,Z,Z,Z] (any_of HT_.out (by kernel_rfl)) ?_
                              refine pz (i := 7) (N := some 90) #[Y,Y,Y,Y,Y,Y,Y,Y,Z,Z,Z,Z] (any_of HT_.out (by kernel_rfl)) ?_
                              refine pz (i := 8) (N := some 91) #[Y,Y,Y,Y,Y,Y,Y,Y,Y,Z,Z,Z] (any_of HT_.out (by kernel_rfl)) ?_
                              refine one_ (i := 9) (N := some 16) #[Y,Y,Y,Y,Y,Y,Y,Y,Y,Y,Z,Z] rfl rfl (one_of HT_.out (by kernel_rfl)) (by decide) (fun K hK => ?_)
                              refine box_step ?hg (N := 16) ?hd (cs := #[.slice none 0 0]) (t := 55) ?hr ?_; (case hd => rfl); (case hg => rfl); (case hr => first | (go_simp; done) | (go_simp; rfl))
                              intro gb297 hg w140 hbox hb
                              replace HO_266000 := Aside0.mk (Kd.R_below (zr HO_266000) hb)
                              replace HO_270000 := Aside0.mk (Kd.R_below (zr HO_270000) hb)
                              replace HO_277000 := Aside0.mk (Kd.R_below (zr HO_277000) hb)
                              replace HO290 := Aside0.mk (Kd.R_below (zr HO290) hb)
                              replace HO295 := Aside0.mk (Kd.R_below (zr HO295) hb)
                              have BK297 := Aside0.mk (hbox)
                              have GW297 := Aside0.mk ((by rw [hg]; exact (below_size (zh5 HB GE253 GE254 GE265 GE269 GE276)) : w.heap.size ≤ gb297))
                              have GE297 := Aside0.mk ((by rw [hg]; exact (below_size (zh5 HB GE253 GE254 GE265 GE269 GE276)) : w.heap.size ≤ gb297))
                              replace HB := Aside0.mk (below_step (zh5 HB GE253 GE254 GE265 GE269 GE276) hb)
                              have NB253_297 := Aside0.mk ((by rw [hg]; exact Nat.ne_of_lt (blk_lt (g := gb253) (o := .cells #[.slice A0_0 l0_0.length c0_0] 50 (0, 0)) (zb BK253)) : gb253 ≠ gb297))
                              have NB297_253 := Aside0.mk ((by rw [hg]; exact Nat.ne_of_gt (blk_lt (g := gb253) (o := .cells #[.slice A0_0 l0_0.length c0_0] 50 (0, 0)) (zb BK253)) : gb297 ≠ gb253))
                              replace BK253 := zk BK253 hb
                              have NB254_297 := Aside0.mk ((by rw [hg]; exact Nat.ne_of_lt (blk_lt (g := gb254) (o := .cells #[.int .i64 a1_0, .int .i64 a1_1] 33 (0, 0)) (zb BK254)) : gb254 ≠ gb297))
                              have NB297_254 := Aside0.mk ((by rw [hg]; exact Nat.ne_of_gt (blk_lt (g := gb254) (o := .cells #[.int .i64 a1_0, .int .i64 a1_1] 33 (0, 0)) (zb BK254)) : gb297 ≠ gb254))
                              replace BK254 := zk BK254 hb
                              have NB265_297 := Aside0.mk ((by rw [hg]; exact Nat.ne_of_lt (blk_lt (g := gb265) (o := .cells #[.slice Ao30 t261.length co30] 55 (0, 0)) (zb BK265)) : gb265 ≠ gb297))
                              have NB297_265 := Aside0.mk ((by rw [hg]; exact Nat.ne_of_gt (blk_lt (g := gb265) (o := .cells #[.slice Ao30 t261.length co30] 55 (0, 0)) (zb BK265)) : gb297 ≠ gb265))
                              replace BK265 := zk BK265 hb
                              have NB269_297 := Aside0.mk ((by rw [hg]; exact Nat.ne_of_lt (blk_lt (g := gb269) (o := .cells #[.slice Ao36 t283.length co36] 55 (0, 0)) (zb BK269)) : gb269 ≠ gb297))
                              have NB297_269 := Aside0.mk ((by rw [hg]; exact Nat.ne_of_gt (blk_lt (g := gb269) (o := .cells #[.slice Ao36 t283.length co36] 55 (0, 0)) (zb BK269)) : gb297 ≠ gb269))
                              replace BK269 := zk BK269 hb
                              have NB276_297 := Aside0.mk ((by rw [hg]; exact Nat.ne_of_lt (blk_lt (g := gb276) (o := .cells #[.slice Ao47 t272.length co47] 55 (0, 0)) (zb BK276)) : gb276 ≠ gb297))
                              have NB297_276 := Aside0.mk ((by rw [hg]; exact Nat.ne_of_gt (blk_lt (g := gb276) (o := .cells #[.slice Ao47 t272.length co47] 55 (0, 0)) (zb BK276)) : gb297 ≠ gb276))
                              replace BK276 := zk BK276 hb
                              clear hb hbox hg
                              refine hK.out _ _ ⟨(blk_cell BK253.out 0).trans rfl, (blk_cell BK254.out 0).trans rfl, (blk_cell BK254.out 1).trans rfl⟩ (fun hHeld => ?_)
                              clear hK K
                              refine norm_ (a' := ?_) ?_ ?_
                              rotate_left
                              · show Act.put _ (some 16) _ = _
                                simp only [Act.put, List.setIfInBounds_toArray, List.set_cons_zero, List.set_cons_succ, i64_w, i32_w]
                                rfl
                              exact norm_ (by simp only [putAll, Act.put, List.setIfInBounds_toArray, List.set_cons_zero, List.set_cons_succ]) (hCont (.slice Ao138 t288.length co138, v294, gb297) _ ⟨hHeld, (by (with_reducible repeat (first | apply Kd.R_alloc | apply Kd.R_drewN | apply Kd.R_drew)); exact Kd.R_mono HO290.out (fun _ hk => ⟨hk.2, ⟨hk.1.1.1.2, ⟨hk.1.1.2, hk.1.2⟩⟩⟩)), (by (with_reducible repeat (first | apply Kd.R_alloc | apply Kd.R_drewN | apply Kd.R_drew)); exact Kd.R_mono HO295.out (fun _ hk => ⟨hk.2, ⟨hk.1.1.1.2, ⟨hk.1.1.2, hk.1.2⟩⟩⟩)), (by (with_reducible repeat (first | apply Kd.R_alloc | apply Kd.R_drewN | apply Kd.R_drew)); exact Kd.R_mono HO_266000.out (fun _ hk => ⟨hk.1.2, ⟨hk.2, ⟨hk.1.1.1, hk.1.1.2⟩⟩⟩)), (by (with_reducible repeat (first | apply Kd.R_alloc | apply Kd.R_drewN | apply Kd.R_drew)); exact Kd.R_mono HO_270000.out (fun _ hk => ⟨hk.1.2, ⟨hk.2, ⟨hk.1.1.1, hk.1.1.2⟩⟩⟩)), (by (with_reducible repeat (first | apply Kd.R_alloc | apply Kd.R_drewN | apply Kd.R_drew)); exact Kd.R_mono HO_277000.out (fun _ hk => ⟨hk.1.2, ⟨hk.2, ⟨hk.1.1.1, hk.1.1.2⟩⟩⟩)), (zb BK253), (zb BK254), (zb BK265), (zb BK269), (zb BK276), (zb BK297), GW297.out, GE297.out, NB253_297.out, NB297_253.out, NB254_297.out, NB297_254.out, NB265_297.out, NB297_265.out, NB269_297.out, NB297_269.out, NB276_297.out, NB297_276.out, (by repeat (first | (with_reducible first | exact HB.out | apply below_alloc | apply pw_below_drewN | apply below_drew1 | refine below_set ?_ GE253.out | refine below_set ?_ GE254.out | refine below_set ?_ GE265.out | refine below_set ?_ GE269.out | refine below_set ?_ GE276.out | refine below_set ?_ GE297.out) | exact HB.out))⟩)
                            · skip
                              refine box_step ?hg (N := 16) ?hd (cs := #[.slice none 0 0]) (t := 55) ?hr ?_; (case hd => rfl); (case hg => rfl); (case hr => first | (go_simp; done) | (go_simp; rfl))
                              intro gb297 hg w138 hbox hb
                              replace HO_266000 := Aside0.mk (Kd.R_below (zr HO_266000) hb)
                              replace HO_270000 := Aside0.mk (Kd.R_below (zr HO_270000) hb)
                              replace HO_277000 := Aside0.mk (Kd.R_below (zr HO_277000) hb)
                              replace HO290 := Aside0.mk (Kd.R_below (zr HO290) hb)
                              have BK297 := Aside0.mk (hbox)
                              have GW297 := Aside0.mk ((by rw [hg]; exact (below_size (zh5 HB GE253 GE254 GE265 GE269 GE276)) : w.heap.size ≤ gb297))
                              have GE297 := Aside0.mk ((by rw [hg]; exact (below_size (zh5 HB GE253 GE254 GE265 GE269 GE276)) : w.heap.size ≤ gb297))
                              replace HB := Aside0.mk (below_step (zh5 HB GE253 GE254 GE265 GE269 GE276) hb)
                              have NB253_297 := Aside0.mk ((by rw [hg]; exact Nat.ne_of_lt (blk_lt (g := gb253) (o := .cells #[.slice A0_0 l0_0.length c0_0] 50 (0, 0)) (zb BK253)) : gb253 ≠ gb297))
                              have NB297_253 := Aside0.mk ((by rw [hg]; exact Nat.ne_of_gt (blk_lt (g := gb253) (o := .cells #[.slice A0_0 l0_0.length c0_0] 50 (0, 0)) (zb BK253)) : gb297 ≠ gb253))
                              replace BK253 := zk BK253 hb
                              have NB254_297 := Aside0.mk ((by rw [hg]; exact Nat.ne_of_lt (blk_lt (g := gb254) (o := .cells #[.int .i64 a1_0, .int .i64 a1_1] 33 (0, 0)) (zb BK254)) : gb254 ≠ gb297))
                              have NB297_254 := Aside0.mk ((by rw [hg]; exact Nat.ne_of_gt (blk_lt (g := gb254) (o := .cells #[.int .i64 a1_0, .int .i64 a1_1] 33 (0, 0)) (zb BK254)) : gb297 ≠ gb254))
                              replace BK254 := zk BK254 hb
                              have NB265_297 := Aside0.mk ((by rw [hg]; exact Nat.ne_of_lt (blk_lt (g := gb265) (o := .cells #[.slice Ao30 t261.length co30] 55 (0, 0)) (zb BK265)) : gb265 ≠ gb297))
                              have NB297_265 := Aside0.mk ((by rw [hg]; exact Nat.ne_of_gt (blk_lt (g := gb265) (o := .cells #[.slice Ao30 t261.length co30] 55 (0, 0)) (zb BK265)) : gb297 ≠ gb265))
                              replace BK265 := zk BK265 hb
                              have NB269_297 := Aside0.mk ((by rw [hg]; exact Nat.ne_of_lt (blk_lt (g := gb269) (o := .cells #[.slice Ao36 t283.length co36] 55 (0, 0)) (zb BK269)) : gb269 ≠ gb297))
                              have NB297_269 := Aside0.mk ((by rw [hg]; exact Nat.ne_of_gt (blk_lt (g := gb269) (o := .cells #[.slice Ao36 t283.length co36] 55 (0, 0)) (zb BK269)) : gb297 ≠ gb269))
                              replace BK269 := zk BK269 hb
                              have NB276_297 := Aside0.mk ((by rw [hg]; exact Nat.ne_of_lt (blk_lt (g := gb276) (o := .cells #[.slice Ao47 t272.length co47] 55 (0, 0)) (zb BK276)) : gb276 ≠ gb297))
                              have NB297_276 := Aside0.mk ((by rw [hg]; exact Nat.ne_of_gt (blk_lt (g := gb276) (o := .cells #[.slice Ao47 t272.length co47] 55 (0, 0)) (zb BK276)) : gb297 ≠ gb276))
                              replace BK276 := zk BK276 hb
                              clear hb hbox hg
                              obtain ⟨Ao139, co139, eo139⟩ := Kd.R_slice HO290.out
                              (first | subst eo139 | (injection eo139 with f1_ f2_ f3_; have f4_ := f1_.symm; have f5_ := f3_.symm; clear f1_ f2_ f3_; subst f4_; subst f5_))
                              refine hK.out _ _ ⟨(blk_cell BK253.out 0).trans rfl, (blk_cell BK254.out 0).trans rfl, (blk_cell BK254.out 1).trans rfl⟩ (fun hHeld => ?_)
                              clear hK K
                              refine norm_ (a' := ?_) ?_ ?_
                              rotate_left
                              · show Act.put _ (some 16) _ = _
                                simp only [Act.put, List.setIfInBounds_toArray, List.set_cons_zero, List.set_cons_succ, i64_w, i32_w]
                                rfl
                              refine one_ (i := 5) (N := some 89) #[Y,Y,Y,Y,Y,Y,Z,Z,Z,Y,Z,Z] rfl rfl (one_of HT_.out (by kernel_rfl)) (by decide) (fun K hK => ?_)
                              refine goes_ Try.func45 (by kernel_rfl) rfl #[.agg #[.slice Ao139 t288.length co139], .agg #[.int .i64 t291, .int .i64 t292], .int .i64 a2] (by rfl) rfl rfl (by (try simp only [List.map_toArray, List.map_cons, List.map_nil]); first | done | rfl | (simp only [List.length_drop, List.length_take]; rfl)) ?_
                              with_reducible refine (impl_TriePut.calls kj75 _ _ t288 t291 t292 a2 t293 t296 _ ?side1 ?side2 A125.out).mono ?_
                              (case side1 => repeat (first | exact (Kd.R_reads' HO290.out).2.2 | (with_reducible refine Kd.C_alloc ?_ _) | (with_reducible refine Kd.C_drewN ?_ _) | (with_reducible refine Kd.C_drew ?_)))
                              (case side2 => exact (Kd.R_reads' HO290.out).2.1)
                              rintro e w140 ⟨v294, rfl, ho0, hb⟩
                              refine ⟨_, rfl, ?_⟩
                              have HO295 := Aside0.mk (Kd.R_lower (Kd.R_new' (Kd.R_new' (Kd.R_new' (Kd.R_new' ho0 (Kd.R_lt (zr HO_266000))) (Kd.R_lt (zr HO_270000))) (Kd.R_lt (zr HO_277000))) (Kd.R_lt (zr HO290))) (below_size (by repeat (first | (with_reducible first | exact HB.out | apply below_alloc | apply pw_below_drewN | apply below_drew1 | refine below_set ?_ GE253.out | refine below_set ?_ GE254.out | refine below_set ?_ GE265.out | refine below_set ?_ GE269.out | refine below_set ?_ GE276.out | refine below_set ?_ GE297.out) | exact HB.out))))
                              replace HO_266000 := Aside0.mk (Kd.R_elder' (zr HO_266000) (Kd.R_base ho0) hb)
                              replace HO_270000 := Aside0.mk (Kd.R_elder' (zr HO_270000) (Kd.R_base ho0) hb)
                              replace HO_277000 := Aside0.mk (Kd.R_elder' (zr HO_277000) (Kd.R_base ho0) hb)
                              replace HO290 := Aside0.mk (Kd.R_elder' (zr HO290) (Kd.R_base ho0) hb)
                              replace BK253 := zk BK253 hb
                              replace BK254 := zk BK254 hb
                              replace BK265 := zk BK265 hb
                              replace BK269 := zk BK269 hb
                              replace BK276 := zk BK276 hb
                              replace BK297 := zk BK297 hb
                              replace HB := Aside0.mk (below_step (by repeat (first | (with_reducible first | exact HB.out | apply below_alloc | apply pw_below_drewN | apply below_drew1 | refine below_set ?_ GE253.out | refine below_set ?_ GE254.out | refine below_set ?_ GE265.out | refine below_set ?_ GE269.out | refine below_set ?_ GE276.out | refine below_set ?_ GE297.out) | exact HB.out)) hb)
                              (try clear hb)
                              (try clear hb2)
                              (try clear hk)
                              (try clear hi)
                              (try clear ho0)
                              refine hK.out _ _ ⟨(blk_cell BK253.out 0).trans rfl, (blk_cell BK254.out 0).trans rfl, (blk_cell BK254.out 1).trans rfl⟩ (fun hHeld => ?_)
                              clear hK K
                              refine norm_ (a' := ?_) ?_ ?_
                              rotate_left
                              · show Act.put _ (some 89) _ = _
                                simp only [Act.put, List.setIfInBounds_toArray, List.set_cons_zero, List.set_cons_succ, i64_w, i32_w]
                                rfl
                              refine pz (i := 6) (N := some 83) #[Y,Y,Y,Y,Y,Y,Y,Z,Z,Y,Z,Z] (any_of HT_.out (by kernel_rfl)) ?_
                              refine pz (i := 7) (N := some 90) #[Y,Y,Y,Y,Y,Y,Y,Y,Z,Y,Z,Z] (any_of HT_.out (by kernel_rfl)) ?_
                              refine pz (i := 8) (N := some 91) #[Y,Y,Y,Y,Y,Y,Y,Y,Y,Y,Z,Z] (any_of HT_.out (by kernel_rfl)) ?_
                              exact norm_ (by simp only [putAll, Act.put, List.setIfInBounds_toArray, List.set_cons_zero, List.set_cons_succ]) (hCont (.slice Ao139 t288.length co139, v294, gb297) _ ⟨hHeld, (by (with_reducible repeat (first | apply Kd.R_alloc | apply Kd.R_drewN | apply Kd.R_drew)); exact Kd.R_mono HO290.out (fun _ hk => ⟨hk.2, ⟨hk.1.1.1.2, ⟨hk.1.1.2, hk.1.2⟩⟩⟩)), (by (with_reducible repeat (first | apply Kd.R_alloc | apply Kd.R_drewN | apply Kd.R_drew)); exact Kd.R_mono HO295.out (fun _ hk => ⟨hk.2, ⟨hk.1.1.1.2, ⟨hk.1.1.2, hk.1.2⟩⟩⟩)), (by (with_reducible repeat (first | apply Kd.R_alloc | apply Kd.R_drewN | apply Kd.R_drew)); exact Kd.R_mono HO_266000.out (fun _ hk => ⟨hk.1.2, ⟨hk.2, ⟨hk.1.1.1, hk.1.1.2⟩⟩⟩)), (by (with_reducible repeat (first | apply Kd.R_alloc | apply Kd.R_drewN | apply Kd.R_drew)); exact Kd.R_mono HO_270000.out (fun _ hk => ⟨hk.1.2, ⟨hk.2, ⟨hk.1.1.1, hk.1.1.2⟩⟩⟩)), (by (with_reducible repeat (first | apply Kd.R_alloc | apply Kd.R_drewN | apply Kd.R_drew)); exact Kd.R_mono HO_277000.out (fun _ hk => ⟨hk.1.2, ⟨hk.2, ⟨hk.1.1.1, hk.1.1.2⟩⟩⟩)), (zb BK253), (zb BK254), (zb BK265), (zb BK269), (zb BK276), (zb BK297), GW297.out, GE297.out, NB253_297.out, NB297_253.out, NB254_297.out, NB297_254.out, NB265_297.out, NB297_265.out, NB269_297.out, NB297_269.out, NB276_297.out, NB297_276.out, (by repeat (first | (with_reducible first | exact HB.out | apply below_alloc | apply pw_below_drewN | apply below_drew1 | refine below_set ?_ GE253.out | refine below_set ?_ GE254.out | refine below_set ?_ GE265.out | refine below_set ?_ GE269.out | refine below_set ?_ GE276.out | refine below_set ?_ GE297.out) | exact HB.out))⟩)
                          · skip
                            refine box_step ?hg (N := 16) ?hd (cs := #[.slice none 0 0]) (t := 55) ?hr ?_; (case hd => rfl); (case hg => rfl); (case hr => first | (go_simp; done) | (go_simp; rfl))
                            intro gb297 hg w137 hbox hb
                            replace HO_266000 := Aside0.mk (Kd.R_below (zr HO_266000) hb)
                            replace HO_270000 := Aside0.mk (Kd.R_below (zr HO_270000) hb)
                            replace HO_277000 := Aside0.mk (Kd.R_below (zr HO_277000) hb)
                            replace HO290 := Aside0.mk (Kd.R_below (zr HO290) hb)
                            have BK297 := Aside0.mk (hbox)
                            have GW297 := Aside0.mk ((by rw [hg]; exact (below_size (zh5 HB GE253 GE254 GE265 GE269 GE276)) : w.heap.size ≤ gb297))
                            have GE297 := Aside0.mk ((by rw [hg]; exact (below_size (zh5 HB GE253 GE254 GE265 GE269 GE276)) : w.heap.size ≤ gb297))
                            replace HB := Aside0.mk (below_step (zh5 HB GE253 GE254 GE265 GE269 GE276) hb)
                            have NB253_297 := Aside0.mk ((by rw [hg]; exact Nat.ne_of_lt (blk_lt (g := gb253) (o := .cells #[.slice A0_0 l0_0.length c0_0] 50 (0, 0)) (zb BK253)) : gb253 ≠ gb297))
                            have NB297_253 := Aside0.mk ((by rw [hg]; exact Nat.ne_of_gt (blk_lt (g := gb253) (o := .cells #[.slice A0_0 l0_0.length c0_0] 50 (0, 0)) (zb BK253)) : gb297 ≠ gb253))
                            replace BK253 := zk BK253 hb
                            have NB254_297 := Aside0.mk ((by rw [hg]; exact Nat.ne_of_lt (blk_lt (g := gb254) (o := .cells #[.int .i64 a1_0, .int .i64 a1_1] 33 (0, 0)) (zb BK254)) : gb254 ≠ gb297))
                            have NB297_254 := Aside0.mk ((by rw [hg]; exact Nat.ne_of_gt (blk_lt (g := gb254) (o := .cells #[.int .i64 a1_0, .int .i64 a1_1] 33 (0, 0)) (zb BK254)) : gb297 ≠ gb254))
                            replace BK254 := zk BK254 hb
                            have NB265_297 := Aside0.mk ((by rw [hg]; exact Nat.ne_of_lt (blk_lt (g := gb265) (o := .cells #[.slice Ao30 t261.length co30] 55 (0, 0)) (zb BK265)) : gb265 ≠ gb297))
                            have NB297_265 := Aside0.mk ((by rw [hg]; exact Nat.ne_of_gt (blk_lt (g := gb265) (o := .cells #[.slice Ao30 t261.length co30] 55 (0, 0)) (zb BK265)) : gb297 ≠ gb265))
                            replace BK265 := zk BK265 hb
                            have NB269_297 := Aside0.mk ((by rw [hg]; exact Nat.ne_of_lt (blk_lt (g := gb269) (o := .cells #[.slice Ao36 t283.length co36] 55 (0, 0)) (zb BK269)) : gb269 ≠ gb297))
                            have NB297_269 := Aside0.mk ((by rw [hg]; exact Nat.ne_of_gt (blk_lt (g := gb269) (o := .cells #[.slice Ao36 t283.length co36] 55 (0, 0)) (zb BK269)) : gb297 ≠ gb269))
                            replace BK269 := zk BK269 hb
                            have NB276_297 := Aside0.mk ((by rw [hg]; exact Nat.ne_of_lt (blk_lt (g := gb276) (o := .cells #[.slice Ao47 t272.length co47] 55 (0, 0)) (zb BK276)) : gb276 ≠ gb297))
                            have NB297_276 := Aside0.mk ((by rw [hg]; exact Nat.ne_of_gt (blk_lt (g := gb276) (o := .cells #[.slice Ao47 t272.length co47] 55 (0, 0)) (zb BK276)) : gb297 ≠ gb276))
                            replace BK276 := zk BK276 hb
                            clear hb hbox hg
                            refine hK.out _ _ ⟨(blk_cell BK253.out 0).trans rfl, (blk_cell BK254.out 0).trans rfl, (blk_cell BK254.out 1).trans rfl⟩ (fun hHeld => ?_)
                            clear hK K
                            refine norm_ (a' := ?_) ?_ ?_
                            rotate_left
                            · show Act.put _ (some 16) _ = _
                              simp only [Act.put, List.setIfInBounds_toArray, List.set_cons_zero, List.set_cons_succ, i64_w, i32_w]
                              rfl
                            refine one_ (i := 3) (N := some 87) #[Y,Y,Y,Y,Y,Z,Z,Z,Z,Y,Z,Z] rfl rfl (one_of HT_.out (by kernel_rfl)) (by decide) (fun K hK => ?_)
                            refine goes_ Try.func40 (by kernel_rfl) rfl #[.agg #[.int .i64 a1_0, .int .i64 a1_1]] (by rfl) rfl rfl (by (try simp only [List.map_toArray, List.map_cons, List.map_nil]); first | done | rfl | (simp only [List.length_drop, List.length_take]; rfl)) ?_
                            with_reducible refine (laws_toPrefix.calls a1_0 a1_1 t291 t292 _ A124.out).mono ?_
                            rintro e w138 ⟨rfl, hb⟩
                            refine ⟨_, rfl, ?_⟩
                            replace HO_266000 := Aside0.mk (Kd.R_below (zr HO_266000) hb)
                            replace HO_270000 := Aside0.mk (Kd.R_below (zr HO_270000) hb)
                            replace HO_277000 := Aside0.mk (Kd.R_below (zr HO_277000) hb)
                            replace HO290 := Aside0.mk (Kd.R_below (zr HO290) hb)
                            replace BK253 := zk BK253 hb
                            replace BK254 := zk BK254 hb
                            replace BK265 := zk BK265 hb
                            replace BK269 := zk BK269 hb
                            replace BK276 := zk BK276 hb
                            replace BK297 := zk BK297 hb
                            replace HB := Aside0.mk (below_step (by repeat (first | (with_reducible first | exact HB.out | apply below_alloc | apply pw_below_drewN | apply below_drew1 | refine below_set ?_ GE253.out | refine below_set ?_ GE254.out | refine below_set ?_ GE265.out | refine below_set ?_ GE269.out | refine below_set ?_ GE276.out | refine below_set ?_ GE297.out) | exact HB.out)) hb)
                            (try clear hb)
                            (try clear hb2)
                            (try clear hk)
                            (try clear hi)
                            obtain ⟨Ao139, co139, eo139⟩ := Kd.R_slice HO290.out
                            (first | subst eo139 | (injection eo139 with f1_ f2_ f3_; have f4_ := f1_.symm; have f5_ := f3_.symm; clear f1_ f2_ f3_; subst f4_; subst f5_))
                            refine hK.out _ _ ⟨(blk_cell BK253.out 0).trans rfl, (blk_cell BK254.out 0).trans rfl, (blk_cell BK254.out 1).trans rfl⟩ (fun hHeld => ?_)
                            clear hK K
                            refine norm_ (a' := ?_) ?_ ?_
                            rotate_left
                            · show Act.put _ (some 87) _ = _
                              simp only [Act.put, List.setIfInBounds_toArray, List.set_cons_zero, List.set_cons_succ, i64_w, i32_w]
                              rfl
                            refine one_ (i := 5) (N := some 89) #[Y,Y,Y,Y,Y,Y,Z,Z,Z,Y,Z,Z] rfl rfl (one_of HT_.out (by kernel_rfl)) (by decide) (fun K hK => ?_)
                            refine goes_ Try.func45 (by kernel_rfl) rfl #[.agg #[.slice Ao139 t288.length co139], .agg #[.int .i64 t291, .int .i64 t292], .int .i64 a2] (by rfl) rfl rfl (by (try simp only [List.map_toArray, List.map_cons, List.map_nil]); first | done | rfl | (simp only [List.length_drop, List.length_take]; rfl)) ?_
                            with_reducible refine (impl_TriePut.calls kj75 _ _ t288 t291 t292 a2 t293 t296 _ ?side1 ?side2 A125.out).mono ?_
                            (case side1 => repeat (first | exact (Kd.R_reads' HO290.out).2.2 | (with_reducible refine Kd.C_alloc ?_ _) | (with_reducible refine Kd.C_drewN ?_ _) | (with_reducible refine Kd.C_drew ?_)))
                            (case side2 => exact (Kd.R_reads' HO290.out).2.1)
                            rintro e w140 ⟨v294, rfl, ho0, hb⟩
                            refine ⟨_, rfl, ?_⟩
                            have HO295 := Aside0.mk (Kd.R_lower (Kd.R_new' (Kd.R_new' (Kd.R_new' (Kd.R_new' ho0 (Kd.R_lt (zr HO_266000))) (Kd.R_lt (zr HO_270000))) (Kd.R_lt (zr HO_277000))) (Kd.R_lt (zr HO290))) (below_size (by repeat (first | (with_reducible first | exact HB.out | apply below_alloc | apply pw_below_drewN | apply below_drew1 | refine below_set ?_ GE253.out | refine below_set ?_ GE254.out | refine below_set ?_ GE265.out | refine below_set ?_ GE269.out | refine below_set ?_ GE276.out | refine below_set ?_ GE297.out) | exact HB.out))))
                            replace HO_266000 := Aside0.mk (Kd.R_elder' (zr HO_266000) (Kd.R_base ho0) hb)
                            replace HO_270000 := Aside0.mk (Kd.R_elder' (zr HO_270000) (Kd.R_base ho0) hb)
                            replace HO_277000 := Aside0.mk (Kd.R_elder' (zr HO_277000) (Kd.R_base ho0) hb)
                            replace HO290 := Aside0.mk (Kd.R_elder' (zr HO290) (Kd.R_base ho0) hb)
                            replace BK253 := zk BK253 hb
                            replace BK254 := zk BK254 hb
                            replace BK265 := zk BK265 hb
                            replace BK269 := zk BK269 hb
                            replace BK276 := zk BK276 hb
                            replace BK297 := zk BK297 hb
                            replace HB := Aside0.mk (below_step (by repeat (first | (with_reducible first | exact HB.out | apply below_alloc | apply pw_below_drewN | apply below_drew1 | refine below_set ?_ GE253.out | refine below_set ?_ GE254.out | refine below_set ?_ GE265.out | refine below_set ?_ GE269.out | refine below_set ?_ GE276.out | refine below_set ?_ GE297.out) | exact HB.out)) hb)
                            (try clear hb)
                            (try clear hb2)
                            (try clear hk)
                            (try clear hi)
                            (try clear ho0)
                            refine hK.out _ _ ⟨(blk_cell BK253.out 0).trans rfl, (blk_cell BK254.out 0).trans rfl, (blk_cell BK254.out 1).trans rfl⟩ (fun hHeld => ?_)
                            clear hK K
                            refine norm_ (a' := ?_) ?_ ?_
                            rotate_left
                            · show Act.put _ (some 89) _ = _
                              simp only [Act.put, List.setIfInBounds_toArray, List.set_cons_zero, List.set_cons_succ, i64_w, i32_w]
                              rfl
                            refine pz (i := 6) (N := some 83) #[Y,Y,Y,Y,Y,Y,Y,Z,Z,Y,Z,Z] (any_of HT_.out (by kernel_rfl)) ?_
                            refine pz (i := 7) (N := some 90) #[Y,Y,Y,Y,Y,Y,Y,Y,Z,Y,Z,Z] (any_of HT_.out (by kernel_rfl)) ?_
                            refine pz (i := 8) (N := some 91) #[Y,Y,Y,Y,Y,Y,Y,Y,Y,Y,Z,Z] (any_of HT_.out (by kernel_rfl)) ?_
                            exact norm_ (by simp only [putAll, Act.put, List.setIfInBounds_toArray, List.set_cons_zero, List.set_cons_succ]) (hCont (.slice Ao139 t288.length co139, v294, gb297) _ ⟨hHeld, (by (with_reducible repeat (first | apply Kd.R_alloc | apply Kd.R_drewN | apply Kd.R_drew)); exact Kd.R_mono HO290.out (fun _ hk => ⟨hk.2, ⟨hk.1.1.1.2, ⟨hk.1.1.2, hk.1.2⟩⟩⟩)), (by (with_reducible repeat (first | apply Kd.R_alloc | apply Kd.R_drewN | apply Kd.R_drew)); exact Kd.R_mono HO295.out (fun _ hk => ⟨hk.2, ⟨hk.1.1.1.2, ⟨hk.1.1.2, hk.1.2⟩⟩⟩)), (by (with_reducible repeat (first | apply Kd.R_alloc | apply Kd.R_drewN | apply Kd.R_drew)); exact Kd.R_mono HO_266000.out (fun _ hk => ⟨hk.1.2, ⟨hk.2, ⟨hk.1.1.1, hk.1.1.2⟩⟩⟩)), (by (with_reducible repeat (first | apply Kd.R_alloc | apply Kd.R_drewN | apply Kd.R_drew)); exact Kd.R_mono HO_270000.out (fun _ hk => ⟨hk.1.2, ⟨hk.2, ⟨hk.1.1.1, hk.1.1.2⟩⟩⟩)), (by (with_reducible repeat (first | apply Kd.R_alloc | apply Kd.R_drewN | apply Kd.R_drew)); exact Kd.R_mono HO_277000.out (fun _ hk => ⟨hk.1.2, ⟨hk.2, ⟨hk.1.1.1, hk.1.1.2⟩⟩⟩)), (zb BK253), (zb BK254), (zb BK265), (zb BK269), (zb BK276), (zb BK297), GW297.out, GE297.out, NB253_297.out, NB297_253.out, NB254_297.out, NB297_254.out, NB265_297.out, NB297_265.out, NB269_297.out, NB297_269.out, NB276_297.out, NB297_276.out, (by repeat (first | (with_reducible first | exact HB.out | apply below_alloc | apply pw_below_drewN | apply below_drew1 | refine below_set ?_ GE253.out | refine below_set ?_ GE254.out | refine below_set ?_ GE265.out | refine below_set ?_ GE269.out | refine below_set ?_ GE276.out | refine below_set ?_ GE297.out) | exact HB.out))⟩)
                        · skip
                          refine box_step ?hg (N := 16) ?hd (cs := #[.slice none 0 0]) (t := 55) ?hr ?_; (case hd => rfl); (case hg => rfl); (case hr => first | (go_simp; done) | (go_simp; rfl))
                          intro gb297 hg w136 hbox hb
                          replace HO_266000 := Aside0.mk (Kd.R_below (zr HO_266000) hb)
                          replace HO_270000 := Aside0.mk (Kd.R_below (zr HO_270000) hb)
                          replace HO_277000 := Aside0.mk (Kd.R_below (zr HO_277000) hb)
                          have BK297 := Aside0.mk (hbox)
                          have GW297 := Aside0.mk ((by rw [hg]; exact (below_size (zh5 HB GE253 GE254 GE265 GE269 GE276)) : w.heap.size ≤ gb297))
                          have GE297 := Aside0.mk ((by rw [hg]; exact (below_size (zh5 HB GE253 GE254 GE265 GE269 GE276)) : w.heap.size ≤ gb297))
                          replace HB := Aside0.mk (below_step (zh5 HB GE253 GE254 GE265 GE269 GE276) hb)
                          have NB253_297 := Aside0.mk ((by rw [hg]; exact Nat.ne_of_lt (blk_lt (g := gb253) (o := .cells #[.slice A0_0 l0_0.length c0_0] 50 (0, 0)) (zb BK253)) : gb253 ≠ gb297))
                          have NB297_253 := Aside0.mk ((by rw [hg]; exact Nat.ne_of_gt (blk_lt (g := gb253) (o := .cells #[.slice A0_0 l0_0.length c0_0] 50 (0, 0)) (zb BK253)) : gb297 ≠ gb253))
                          replace BK253 := zk BK253 hb
                          have NB254_297 := Aside0.mk ((by rw [hg]; exact Nat.ne_of_lt (blk_lt (g := gb254) (o := .cells #[.int .i64 a1_0, .int .i64 a1_1] 33 (0, 0)) (zb BK254)) : gb254 ≠ gb297))
                          have NB297_254 := Aside0.mk ((by rw [hg]; exact Nat.ne_of_gt (blk_lt (g := gb254) (o := .cells #[.int .i64 a1_0, .int .i64 a1_1] 33 (0, 0)) (zb BK254)) : gb297 ≠ gb254))
                          replace BK254 := zk BK254 hb
                          have NB265_297 := Aside0.mk ((by rw [hg]; exact Nat.ne_of_lt (blk_lt (g := gb265) (o := .cells #[.slice Ao30 t261.length co30] 55 (0, 0)) (zb BK265)) : gb265 ≠ gb297))
                          have NB297_265 := Aside0.mk ((by rw [hg]; exact Nat.ne_of_gt (blk_lt (g := gb265) (o := .cells #[.slice Ao30 t261.length co30] 55 (0, 0)) (zb BK265)) : gb297 ≠ gb265))
                          replace BK265 := zk BK265 hb
                          have NB269_297 := Aside0.mk ((by rw [hg]; exact Nat.ne_of_lt (blk_lt (g := gb269) (o := .cells #[.slice Ao36 t283.length co36] 55 (0, 0)) (zb BK269)) : gb269 ≠ gb297))
                          have NB297_269 := Aside0.mk ((by rw [hg]; exact Nat.ne_of_gt (blk_lt (g := gb269) (o := .cells #[.slice Ao36 t283.length co36] 55 (0, 0)) (zb BK269)) : gb297 ≠ gb269))
                          replace BK269 := zk BK269 hb
                          have NB276_297 := Aside0.mk ((by rw [hg]; exact Nat.ne_of_lt (blk_lt (g := gb276) (o := .cells #[.slice Ao47 t272.length co47] 55 (0, 0)) (zb BK276)) : gb276 ≠ gb297))
                          have NB297_276 := Aside0.mk ((by rw [hg]; exact Nat.ne_of_gt (blk_lt (g := gb276) (o := .cells #[.slice Ao47 t272.length co47] 55 (0, 0)) (zb BK276)) : gb297 ≠ gb276))
                          replace BK276 := zk BK276 hb
                          clear hb hbox hg
                          refine hK.out _ _ ⟨(blk_cell BK253.out 0).trans rfl, (blk_cell BK254.out 0).trans rfl, (blk_cell BK254.out 1).trans rfl⟩ (fun hHeld => ?_)
                          clear hK K
                          refine norm_ (a' := ?_) ?_ ?_
                          rotate_left
                          · show Act.put _ (some 16) _ = _
                            simp only [Act.put, List.setIfInBounds_toArray, List.set_cons_zero, List.set_cons_succ, i64_w, i32_w]
                            rfl
                          refine one_ (i := 1) (N := some 85) #[Y,Y,Y,Z,Y,Z,Z,Z,Z,Y,Z,Z] rfl rfl (one_of HT_.out (by kernel_rfl)) (by decide) (fun K hK => ?_)
                          refine goes_ Try.func33 (by kernel_rfl) rfl #[.agg #[.slice A0_0 l0_0.length c0_0]] (by rfl) rfl rfl (by (try simp only [List.map_toArray, List.map_cons, List.map_nil]); first | done | rfl | (simp only [List.length_drop, List.length_take]; rfl)) ?_
                          with_reducible refine (laws_toTrie.calls kj75 _ _ l0_0 t288 _ ?side1 ?side2 A123.out).mono ?_
                          (case side1 => repeat (first | exact (Kd.C_below HR0_0.out HB.out) | (with_reducible refine Kd.C_alloc ?_ _) | (with_reducible refine Kd.C_drewN ?_ _) | (with_reducible refine Kd.C_drew ?_)))
                          (case side2 => exact HC0_0.out)
                          rintro e w137 ⟨v289, rfl, ho0, hb⟩
                          refine ⟨_, rfl, ?_⟩
                          have HO290 := Aside0.mk (Kd.R_lower (Kd.R_new' (Kd.R_new' (Kd.R_new' ho0 (Kd.R_lt (zr HO_266000))) (Kd.R_lt (zr HO_270000))) (Kd.R_lt (zr HO_277000))) (below_size (by repeat (first | (with_reducible first | exact HB.out | apply below_alloc | apply pw_below_drewN | apply below_drew1 | refine below_set ?_ GE253.out | refine below_set ?_ GE254.out | refine below_set ?_ GE265.out | refine below_set ?_ GE269.out | refine below_set ?_ GE276.out | refine below_set ?_ GE297.out) | exact HB.out))))
                          replace HO_266000 := Aside0.mk (Kd.R_elder' (zr HO_266000) (Kd.R_base ho0) hb)
                          replace HO_270000 := Aside0.mk (Kd.R_elder' (zr HO_270000) (Kd.R_base ho0) hb)
                          replace HO_277000 := Aside0.mk (Kd.R_elder' (zr HO_277000) (Kd.R_base ho0) hb)
                          replace BK253 := zk BK253 hb
                          replace BK254 := zk BK254 hb
                          replace BK265 := zk BK265 hb
                          replace BK269 := zk BK269 hb
                          replace BK276 := zk BK276 hb
                          replace BK297 := zk BK297 hb
                          replace HB := Aside0.mk (below_step (by repeat (first | (with_reducible first | exact HB.out | apply below_alloc | apply pw_below_drewN | apply below_drew1 | refine below_set ?_ GE253.out | refine below_set ?_ GE254.out | refine below_set ?_ GE265.out | refine below_set ?_ GE269.out | refine below_set ?_ GE276.out | refine below_set ?_ GE297.out) | exact HB.out)) hb)
                          (try clear hb)
                          (try clear hb2)
                          (try clear hk)
                          (try clear hi)
                          (try clear ho0)
                          refine hK.out _ _ ⟨(blk_cell BK253.out 0).trans rfl, (blk_cell BK254.out 0).trans rfl, (blk_cell BK254.out 1).trans rfl⟩ (fun hHeld => ?_)
                          clear hK K
                          refine norm_ (a' := ?_) ?_ ?_
                          rotate_left
                          · show Act.put _ (some 85) _ = _
                            simp only [Act.put, List.setIfInBounds_toArray, List.set_cons_zero, List.set_cons_succ, i64_w, i32_w]
                            rfl
                          refine one_ (i := 3) (N := some 87) #[Y,Y,Y,Y,Y,Z,Z,Z,Z,Y,Z,Z] rfl rfl (one_of HT_.out (by kernel_rfl)) (by decide) (fun K hK => ?_)
                          refine goes_ Try.func40 (by kernel_rfl) rfl #[.agg #[.int .i64 a1_0, .int .i64 a1_1]] (by rfl) rfl rfl (by (try simp only [List.map_toArray, List.map_cons, List.map_nil]); first | done | rfl | (simp only [List.length_drop, List.length_take]; rfl)) ?_
                          with_reducible refine (laws_toPrefix.calls a1_0 a1_1 t291 t292 _ A124.out).mono ?_
                          rintro e w138 ⟨rfl, hb⟩
                          refine ⟨_, rfl, ?_⟩
                          replace HO_266000 := Aside0.mk (Kd.R_below (zr HO_266000) hb)
                          replace HO_270000 := Aside0.mk (Kd.R_below (zr HO_270000) hb)
                          replace HO_277000 := Aside0.mk (Kd.R_below (zr HO_277000) hb)
                          replace HO290 := Aside0.mk (Kd.R_below (zr HO290) hb)
                          replace BK253 := zk BK253 hb
                          replace BK254 := zk BK254 hb
                          replace BK265 := zk BK265 hb
                          replace BK269 := zk BK269 hb
                          replace BK276 := zk BK276 hb
                          replace BK297 := zk BK297 hb
                          replace HB := Aside0.mk (below_step (by repeat (first | (with_reducible first | exact HB.out | apply below_alloc | apply pw_below_drewN | apply below_drew1 | refine below_set ?_ GE253.out | refine below_set ?_ GE254.out | refine below_set ?_ GE265.out | refine below_set ?_ GE269.out | refine below_set ?_ GE276.out | refine below_set ?_ GE297.out) | exact HB.out)) hb)
                          (try clear hb)
                          (try clear hb2)
                          (try clear hk)
                          (try clear hi)
                          obtain ⟨Ao139, co139, eo139⟩ := Kd.R_slice HO290.out
                          (first | subst eo139 | (injection eo139 with f1_ f2_ f3_; have f4_ := f1_.symm; have f5_ := f3_.symm; clear f1_ f2_ f3_; subst f4_; subst f5_))
                          refine hK.out _ _ ⟨(blk_cell BK253.out 0).trans rfl, (blk_cell BK254.out 0).trans rfl, (blk_cell BK254.out 1).trans rfl⟩ (fun hHeld => ?_)
                          clear hK K
                          refine norm_ (a' := ?_) ?_ ?_
                          rotate_left
                          · show Act.put _ (some 87) _ = _
                            simp only [Act.put, List.setIfInBounds_toArray, List.set_cons_zero, List.set_cons_succ, i64_w, i32_w]
                            rfl
                          refine one_ (i := 5) (N := some 89) #[Y,Y,Y,Y,Y,Y,Z,Z,Z,Y,Z,Z] rfl rfl (one_of HT_.out (by kernel_rfl)) (by decide) (fun K hK => ?_)
                          refine goes_ Try.func45 (by kernel_rfl) rfl #[.agg #[.slice Ao139 t288.length co139], .agg #[.int .i64 t291, .int .i64 t292], .int .i64 a2] (by rfl) rfl rfl (by (try simp only [List.map_toArray, List.map_cons, List.map_nil]); first | done | rfl | (simp only [List.length_drop, List.length_take]; rfl)) ?_
                          with_reducible refine (impl_TriePut.calls kj75 _ _ t288 t291 t292 a2 t293 t296 _ ?side1 ?side2 A125.out).mono ?_
                          (case side1 => repeat (first | exact (Kd.R_reads' HO290.out).2.2 | (with_reducible refine Kd.C_alloc ?_ _) | (with_reducible refine Kd.C_drewN ?_ _) | (with_reducible refine Kd.C_drew ?_)))
                          (case side2 => exact (Kd.R_reads' HO290.out).2.1)
                          rintro e w140 ⟨v294, rfl, ho0, hb⟩
                          refine ⟨_, rfl, ?_⟩
                          have HO295 := Aside0.mk (Kd.R_lower (Kd.R_new' (Kd.R_new' (Kd.R_new' (Kd.R_new' ho0 (Kd.R_lt (zr HO_266000))) (Kd.R_lt (zr HO_270000))) (Kd.R_lt (zr HO_277000))) (Kd.R_lt (zr HO290))) (below_size (by repeat (first | (with_reducible first | exact HB.out | apply below_alloc | apply pw_below_drewN | apply below_drew1 | refine below_set ?_ GE253.out | refine below_set ?_ GE254.out | refine below_set ?_ GE265.out | refine below_set ?_ GE269.out | refine below_set ?_ GE276.out | refine below_set ?_ GE297.out) | exact HB.out))))
                          replace HO_266000 := Aside0.mk (Kd.R_elder' (zr HO_266000) (Kd.R_base ho0) hb)
                          replace HO_270000 := Aside0.mk (Kd.R_elder' (zr HO_270000) (Kd.R_base ho0) hb)
                          replace HO_277000 := Aside0.mk (Kd.R_elder' (zr HO_277000) (Kd.R_base ho0) hb)
                          replace HO290 := Aside0.mk (Kd.R_elder' (zr HO290) (Kd.R_base ho0) hb)
                          replace BK253 := zk BK253 hb
                          replace BK254 := zk BK254 hb
                          replace BK265 := zk BK265 hb
                          replace BK269 := zk BK269 hb
                          replace BK276 := zk BK276 hb
                          replace BK297 := zk BK297 hb
                          replace HB := Aside0.mk (below_step (by repeat (first | (with_reducible first | exact HB.out | apply below_alloc | apply pw_below_drewN | apply below_drew1 | refine below_set ?_ GE253.out | refine below_set ?_ GE254.out | refine below_set ?_ GE265.out | refine below_set ?_ GE269.out | refine below_set ?_ GE276.out | refine below_set ?_ GE297.out) | exact HB.out)) hb)
                          (try clear hb)
                          (try clear hb2)
                          (try clear hk)
                          (try clear hi)
                          (try clear ho0)
                          refine hK.out _ _ ⟨(blk_cell BK253.out 0).trans rfl, (blk_cell BK254.out 0).trans rfl, (blk_cell BK254.out 1).trans rfl⟩ (fun hHeld => ?_)
                          clear hK K
                          refine norm_ (a' := ?_) ?_ ?_
                          rotate_left
                          · show Act.put _ (some 89) _ = _
                            simp only [Act.put, List.setIfInBounds_toArray, List.set_cons_zero, List.set_cons_succ, i64_w, i32_w]
                            rfl
                          refine pz (i := 6) (N := some 83) #[Y,Y,Y,Y,Y,Y,Y,Z,Z,Y,Z,Z] (any_of HT_.out (by kernel_rfl)) ?_
                          refine pz (i := 7) (N := some 90) #[Y,Y,Y,Y,Y,Y,Y,Y,Z,Y,Z,Z] (any_of HT_.out (by kernel_rfl)) ?_
                          refine pz (i := 8) (N := some 91) #[Y,Y,Y,Y,Y,Y,Y,Y,Y,Y,Z,Z] (any_of HT_.out (by kernel_rfl)) ?_
                          exact norm_ (by simp only [putAll, Act.put, List.setIfInBounds_toArray, List.set_cons_zero, List.set_cons_succ]) (hCont (.slice Ao139 t288.length co139, v294, gb297) _ ⟨hHeld, (by (with_reducible repeat (first | apply Kd.R_alloc | apply Kd.R_drewN | apply Kd.R_drew)); exact Kd.R_mono HO290.out (fun _ hk => ⟨hk.2, ⟨hk.1.1.1.2, ⟨hk.1.1.2, hk.1.2⟩⟩⟩)), (by (with_reducible repeat (first | apply Kd.R_alloc | apply Kd.R_drewN | apply Kd.R_drew)); exact Kd.R_mono HO295.out (fun _ hk => ⟨hk.2, ⟨hk.1.1.1.2, ⟨hk.1.1.2, hk.1.2⟩⟩⟩)), (by (with_reducible repeat (first | apply Kd.R_alloc | apply Kd.R_drewN | apply Kd.R_drew)); exact Kd.R_mono HO_266000.out (fun _ hk => ⟨hk.1.2, ⟨hk.2, ⟨hk.1.1.1, hk.1.1.2⟩⟩⟩)), (by (with_reducible repeat (first | apply Kd.R_alloc | apply Kd.R_drewN | apply Kd.R_drew)); exact Kd.R_mono HO_270000.out (fun _ hk => ⟨hk.1.2, ⟨hk.2, ⟨hk.1.1.1, hk.1.1.2⟩⟩⟩)), (by (with_reducible repeat (first | apply Kd.R_alloc | apply Kd.R_drewN | apply Kd.R_drew)); exact Kd.R_mono HO_277000.out (fun _ hk => ⟨hk.1.2, ⟨hk.2, ⟨hk.1.1.1, hk.1.1.2⟩⟩⟩)), (zb BK253), (zb BK254), (zb BK265), (zb BK269), (zb BK276), (zb BK297), GW297.out, GE297.out, NB253_297.out, NB297_253.out, NB254_297.out, NB297_254.out, NB265_297.out, NB297_265.out, NB269_297.out, NB297_269.out, NB276_297.out, NB297_276.out, (by repeat (first | (with_reducible first | exact HB.out | apply below_alloc | apply pw_below_drewN | apply below_drew1 | refine below_set ?_ GE253.out | refine below_set ?_ GE254.out | refine below_set ?_ GE265.out | refine below_set ?_ GE269.out | refine below_set ?_ GE276.out | refine below_set ?_ GE297.out) | exact HB.out))⟩)
                      rintro ⟨v289, v294, gb297⟩ w141 ⟨hS_, h0_, h1_, h2_, h3_, h4_, h5_, h6_, h7_, h8_, h9_, h10_, h11_, h12_, h13_, h14_, h15_, h16_, h17_, h18_, h19_, h20_, h21_, h22_, h23_⟩
                      have n0_ : Aside0 (Kd.R k104 104 w141 w.heap.size (fun k_ => some k_ ≠ (v294 : Value).ownBlock ∧ some k_ ≠ (.slice Ao30 t261.length co30 : Value).ownBlock ∧ some k_ ≠ (.slice Ao36 t283.length co36 : Value).ownBlock ∧ some k_ ≠ (.slice Ao47 t272.length co47 : Value).ownBlock) v289 t288) := ⟨h0_⟩
                      have n1_ : Aside0 (Kd.R k104 104 w141 w.heap.size (fun k_ => some k_ ≠ (v289 : Value).ownBlock ∧ some k_ ≠ (.slice Ao30 t261.length co30 : Value).ownBlock ∧ some k_ ≠ (.slice Ao36 t283.length co36 : Value).ownBlock ∧ some k_ ≠ (.slice Ao47 t272.length co47 : Value).ownBlock) v294 t293) := ⟨h1_⟩
                      have n2_ : Aside0 (Kd.R k104 104 w141 w.heap.size (fun k_ => some k_ ≠ (v289 : Value).ownBlock ∧ some k_ ≠ (v294 : Value).ownBlock ∧ some k_ ≠ (.slice Ao36 t283.length co36 : Value).ownBlock ∧ some k_ ≠ (.slice Ao47 t272.length co47 : Value).ownBlock) (.slice Ao30 t261.length co30) t261) := ⟨h2_⟩
                      have n3_ : Aside0 (Kd.R k104 104 w141 w.heap.size (fun k_ => some k_ ≠ (v289 : Value).ownBlock ∧ some k_ ≠ (v294 : Value).ownBlock ∧ some k_ ≠ (.slice Ao30 t261.length co30 : Value).ownBlock ∧ some k_ ≠ (.slice Ao47 t272.length co47 : Value).ownBlock) (.slice Ao36 t283.length co36) t283) := ⟨h3_⟩
                      have n4_ : Aside0 (Kd.R k104 104 w141 w.heap.size (fun k_ => some k_ ≠ (v289 : Value).ownBlock ∧ some k_ ≠ (v294 : Value).ownBlock ∧ some k_ ≠ (.slice Ao30 t261.length co30 : Value).ownBlock ∧ some k_ ≠ (.slice Ao36 t283.length co36 : Value).ownBlock) (.slice Ao47 t272.length co47) t286) := ⟨h4_⟩
                      have n5_ : Aside0 (w141.heap[gb253]? = some (.cells #[.slice A0_0 l0_0.length c0_0] 50 (0, 0))) := ⟨h5_⟩
                      have n6_ : Aside0 (w141.heap[gb254]? = some (.cells #[.int .i64 a1_0, .int .i64 a1_1] 33 (0, 0))) := ⟨h6_⟩
                      have n7_ : Aside0 (w141.heap[gb265]? = some (.cells #[.slice Ao30 t261.length co30] 55 (0, 0))) := ⟨h7_⟩
                      have n8_ : Aside0 (w141.heap[gb269]? = some (.cells #[.slice Ao36 t283.length co36] 55 (0, 0))) := ⟨h8_⟩
                      have n9_ : Aside0 (w141.heap[gb276]? = some (.cells #[.slice Ao47 t272.length co47] 55 (0, 0))) := ⟨h9_⟩
                      have n10_ : Aside0 (w141.heap[gb297]? = some (.cells #[.slice none 0 0] 55 (0, 0))) := ⟨h10_⟩
                      have n11_ : Aside0 (w.heap.size ≤ gb297) := ⟨h11_⟩
                      have n12_ : Aside0 (w.heap.size ≤ gb297) := ⟨h12_⟩
                      have n13_ : Aside0 (gb253 ≠ gb297) := ⟨h13_⟩
                      have n14_ : Aside0 (gb297 ≠ gb253) := ⟨h14_⟩
                      have n15_ : Aside0 (gb254 ≠ gb297) := ⟨h15_⟩
                      have n16_ : Aside0 (gb297 ≠ gb254) := ⟨h16_⟩
                      have n17_ : Aside0 (gb265 ≠ gb297) := ⟨h17_⟩
                      have n18_ : Aside0 (gb297 ≠ gb265) := ⟨h18_⟩
                      have n19_ : Aside0 (gb269 ≠ gb297) := ⟨h19_⟩
                      have n20_ : Aside0 (gb297 ≠ gb269) := ⟨h20_⟩
                      have n21_ : Aside0 (gb276 ≠ gb297) := ⟨h21_⟩
                      have n22_ : Aside0 (gb297 ≠ gb276) := ⟨h22_⟩
                      have n23_ : Aside0 (Below w.heap.size w w141) := ⟨h23_⟩
                      clear HO_266000
                      clear HO_270000
                      clear HO_277000
                      clear BK253
                      clear BK254
                      clear BK265
                      clear BK269
                      clear BK276
                      clear HB
                      clear h0_ h1_ h2_ h3_ h4_ h5_ h6_ h7_ h8_ h9_ h10_ h11_ h12_ h13_ h14_ h15_ h16_ h17_ h18_ h19_ h20_ h21_ h22_ h23_
                      have HO290 := n0_
                      have HO295 := n1_
                      have HO_266000 := n2_
                      have HO_270000 := n3_
                      have HO_277000 := n4_
                      have BK253 := n5_
                      have BK254 := n6_
                      have BK265 := n7_
                      have BK269 := n8_
                      have BK276 := n9_
                      have BK297 := n10_
                      have GW297 := n11_
                      have GE297 := n12_
                      have NB253_297 := n13_
                      have NB297_253 := n14_
                      have NB254_297 := n15_
                      have NB297_254 := n16_
                      have NB265_297 := n17_
                      have NB297_265 := n18_
                      have NB269_297 := n19_
                      have NB297_269 := n20_
                      have NB276_297 := n21_
                      have NB297_276 := n22_
                      have HB := n23_
                      clear n0_ n1_ n2_ n3_ n4_ n5_ n6_ n7_ n8_ n9_ n10_ n11_ n12_ n13_ n14_ n15_ n16_ n17_ n18_ n19_ n20_ n21_ n22_ n23_
                      have hHeld : w141.cell? ⟨gb253, 0, none⟩ = some (.slice A0_0 l0_0.length c0_0) ∧ w141.cell? ⟨gb254, 0, none⟩ = some (.int .i64 a1_0) ∧ w141.cell? ⟨gb254, 1, none⟩ = some (.int .i64 a1_1) := hS_
                      obtain ⟨Ao142, co142, eo142⟩ := Kd.R_slice HO295.out
                      (first | subst eo142 | (injection eo142 with f1_ f2_ f3_; have f4_ := f1_.symm; have f5_ := f3_.symm; clear f1_ f2_ f3_; subst f4_; subst f5_))
                      refine norm_ (a' := ?_) ?_ ?_
                      rotate_left
                      · simp only [putAll, Act.put, List.setIfInBounds_toArray, List.set_cons_zero, List.set_cons_succ]
                        rfl
                      refine one_ (i := 10) (N := none) #[Y,Y,Y,Y,Y,Y,Y,Y,Y,Y,Y,Z] rfl rfl (one_of HT_.out (by kernel_rfl)) (by decide) (fun K hK => ?_)
                      have hs143 : w141.cell? ⟨gb297, 0, none⟩ = some (.slice none 0 0) := (blk_cell BK297.out 0).trans rfl
                      have hfs143 := blk_frozen BK297.out 0
                      have hns143_0 := NB253_297.out
                      have hns143_1 := NB254_297.out
                      have hns143_2 := NB265_297.out
                      have hns143_3 := NB269_297.out
                      have hns143_4 := NB276_297.out
                      have hms143_0 := NB297_253.out
                      have hms143_1 := NB297_254.out
                      have hms143_2 := NB297_265.out
                      have hms143_3 := NB297_269.out
                      have hms143_4 := NB297_276.out
                      refine skip_ (w1 := ?_) (by rfl) rfl ?_ ?_
                      rotate_left
                      · go_simp
                        rfl
                      refine hK.out _ _ ⟨((cell_far (p := ⟨gb297, _, none⟩) NB253_297.out _).trans (hHeld.1)), ((cell_far (p := ⟨gb297, _, none⟩) NB254_297.out _).trans (hHeld.2.1)), ((cell_far (p := ⟨gb297, _, none⟩) NB254_297.out _).trans (hHeld.2.2))⟩ (fun hHeld => ?_)
                      clear hK K
                      refine pz (i := 11) (N := some 17) #[Y,Y,Y,Y,Y,Y,Y,Y,Y,Y,Y,Y] (any_of HT_.out (by kernel_rfl)) ?_
                      refine done_ (done_of HT_.out (by kernel_rfl)) ?_
                      go_upto_region 25 with (fail)
                      go_cut [100] (fun v100 wc => ∃ (kq : Nat) (x100_125 : Bool), v100 = .bool x100_125 ∧ Aside0 (laws_FnExactTriePut.j2 kq t285 x100_125 t286 = some r) ∧ Aside0 (kq ≤ kj75) ∧ Aside0 (Kd.R k104 104 wc w.heap.size (fun k_ => some k_ ≠ ((.slice Ao36 t283.length co36) : Value).ownBlock ∧ some k_ ≠ ((.slice Ao47 t272.length co47) : Value).ownBlock ∧ some k_ ≠ ((.slice Ao142 t293.length co142) : Value).ownBlock) (.slice Ao30 t261.length co30) t261) ∧ Aside0 (Kd.R k104 104 wc w.heap.size (fun k_ => some k_ ≠ ((.slice Ao30 t261.length co30) : Value).ownBlock ∧ some k_ ≠ ((.slice Ao47 t272.length co47) : Value).ownBlock ∧ some k_ ≠ ((.slice Ao142 t293.length co142) : Value).ownBlock) (.slice Ao36 t283.length co36) t283) ∧ Aside0 (Kd.R k104 104 wc w.heap.size (fun k_ => some k_ ≠ ((.slice Ao30 t261.length co30) : Value).ownBlock ∧ some k_ ≠ ((.slice Ao36 t283.length co36) : Value).ownBlock ∧ some k_ ≠ ((.slice Ao142 t293.length co142) : Value).ownBlock) (.slice Ao47 t272.length co47) t286) ∧ Aside0 (Kd.R k104 104 wc w.heap.size (fun k_ => some k_ ≠ ((.slice Ao30 t261.length co30) : Value).ownBlock ∧ some k_ ≠ ((.slice Ao36 t283.length co36) : Value).ownBlock ∧ some k_ ≠ ((.slice Ao47 t272.length co47) : Value).ownBlock) (.slice Ao142 t293.length co142) t293) ∧ Aside0 (wc.heap[gb253]? = some (.cells #[(.slice A0_0 l0_0.length c0_0)] 50 (0, 0))) ∧ Aside0 (wc.heap[gb254]? = some (.cells #[.int .i64 a1_0, .int .i64 a1_1] 33 (0, 0))) ∧ Aside0 (wc.heap[gb265]? = some (.cells #[(.slice Ao30 t261.length co30)] 55 (0, 0))) ∧ Aside0 (wc.heap[gb269]? = some (.cells #[(.slice Ao36 t283.length co36)] 55 (0, 0))) ∧ Aside0 (wc.heap[gb276]? = some (.cells #[(.slice Ao47 t272.length co47)] 55 (0, 0))) ∧ Aside0 (wc.heap[gb297]? = some (.cells #[(.slice Ao142 t293.length co142)] 55 (0, 0))) ∧ Aside0 (Below w.heap.size w wc))
                      case first =>
                        have H := HC126.out
                        clear HC126
                        replace H := Option.bind_eq_some_iff.mp H
                        obtain ⟨t298, A1440, H⟩ := H
                        replace H : (if t298 = true then (laws_FnExactTriePut.j2 kj75 t285 (t296 != t264) t286) else (laws_FnExactTriePut.j2 kj75 t285 true t286)) = some r := H
                        have A144 := Aside0.mk A1440
                        clear A1440
                        by_cases c145 : t298 = true
                        · subst c145
                          have H1 : (laws_FnExactTriePut.j2 kj75 t285 (t296 != t264) t286) = some r := by rw [if_pos rfl] at H; exact H
                          clear H
                          have H := H1
                          clear H1
                          have H' := Aside0.mk H
                          clear H
                          have hnb146 := NB297_253.out
                          have hnc146 := NB253_297.out
                          have hnb147 := NB297_254.out
                          have hnc147 := NB254_297.out
                          have hnb148 := NB297_265.out
                          have hnc148 := NB265_297.out
                          have hnb149 := NB297_269.out
                          have hnc149 := NB269_297.out
                          have hnb150 := NB297_276.out
                          have hnc150 := NB276_297.out
                          have hcz151_0 : w141.cell? ⟨gb297, 0, none⟩ = some (.slice none 0 0) := (blk_cell BK297.out 0).trans rfl
                          have hfz151_0 := blk_frozen BK297.out 0
                          have hnb152 := NB265_253.out
                          have hnc152 := NB253_265.out
                          have hnb153 := NB265_254.out
                          have hnc153 := NB254_265.out
                          have hnb154 := NB265_269.out
                          have hnc154 := NB269_265.out
                          have hnb155 := NB265_276.out
                          have hnc155 := NB276_265.out
                          have hcz156_0 : w141.cell? ⟨gb265, 0, none⟩ = some (.slice Ao30 t261.length co30) := (blk_cell BK265.out 0).trans rfl
                          have hfz156_0 := blk_frozen BK265.out 0
                          go_wp2_with (first | ((with_reducible refine gate_callee (f := 35) rfl ?_); refine goesL_ (some 94) rfl rfl Try.func35 (by kernel_rfl) rfl #[.agg #[.slice Ao142 t293.length co142], .agg #[.slice Ao30 t261.length co30]] rfl (by (try simp only [List.map_toArray, List.map_cons, List.map_nil]); first | done | rfl | (simp only [List.length_drop, List.length_take]; rfl)) ?_; (with_reducible refine (laws_eqTrie.calls kj75 _ _ t293 _ _ t261 true _ ?side1 ?side2 ?side3 ?side4 A144.out).mono ?_); (case side1 => refine (Kd.R_reads' (e := 104) (base := w.heap.size) (ok := fun k_ => (some k_ ≠ (v289 : Value).ownBlock ∧ (some k_ ≠ (.slice Ao30 t261.length co30 : Value).ownBlock ∧ (some k_ ≠ (.slice Ao36 t283.length co36 : Value).ownBlock ∧ some k_ ≠ (.slice Ao47 t272.length co47 : Value).ownBlock)))) (n := t293.length) (c := co142) ?_).2.2; exact (by (with_reducible repeat (first | apply Kd.R_alloc | apply Kd.R_drewN | apply Kd.R_drew)); exact (Kd.R_mono (Kd.R_far (p := ⟨gb297, 0, none⟩) (Kd.R_types HO295.out BK297.out (by decide)) (fun _ hk => hk.2) (.slice Ao142 t293.length co142)) (fun _ h_ => h_.1)))); (case side2 => exact (Kd.R_reads' HO295.out).2.1); (case side3 => refine (Kd.R_reads' (e := 104) (base := w.heap.size) (ok := fun k_ => (some k_ ≠ (v289 : Value).ownBlock ∧ (some k_ ≠ (.slice Ao142 t293.length co142 : Value).ownBlock ∧ (some k_ ≠ (.slice Ao36 t283.length co36 : Value).ownBlock ∧ some k_ ≠ (.slice Ao47 t272.length co47 : Value).ownBlock)))) (n := t261.length) (c := co30) ?_).2.2; exact (by (with_reducible repeat (first | apply Kd.R_alloc | apply Kd.R_drewN | apply Kd.R_drew)); exact (Kd.R_mono (Kd.R_far (p := ⟨gb297, 0, none⟩) (Kd.R_types HO_266000.out BK297.out (by decide)) (fun _ hk => hk.2) (.slice Ao142 t293.length co142)) (fun _ h_ => h_.1)))); (case side4 => exact (Kd.R_reads' HO_266000.out).2.1); rintro e w157 ⟨rfl, hb⟩; refine ⟨_, rfl, ?_⟩; replace HO_266000 := Aside0.mk (Kd.R_below (by (with_reducible repeat (first | apply Kd.R_alloc | apply Kd.R_drewN | apply Kd.R_drew)); exact (Kd.R_mono (Kd.R_far (p := ⟨gb297, 0, none⟩) (Kd.R_types HO_266000.out BK297.out (by decide)) (fun _ hk => hk.2) (.slice Ao142 t293.length co142)) (fun _ h_ => h_.1))) hb); replace HO_270000 := Aside0.mk (Kd.R_below (by (with_reducible repeat (first | apply Kd.R_alloc | apply Kd.R_drewN | apply Kd.R_drew)); exact (Kd.R_mono (Kd.R_far (p := ⟨gb297, 0, none⟩) (Kd.R_types HO_270000.out BK297.out (by decide)) (fun _ hk => hk.2) (.slice Ao142 t293.length co142)) (fun _ h_ => h_.1))) hb); replace HO_277000 := Aside0.mk (Kd.R_below (by (with_reducible repeat (first | apply Kd.R_alloc | apply Kd.R_drewN | apply Kd.R_drew)); exact (Kd.R_mono (Kd.R_far (p := ⟨gb297, 0, none⟩) (Kd.R_types HO_277000.out BK297.out (by decide)) (fun _ hk => hk.2) (.slice Ao142 t293.length co142)) (fun _ h_ => h_.1))) hb); replace HO290 := Aside0.mk (Kd.R_below (by (with_reducible repeat (first | apply Kd.R_alloc | apply Kd.R_drewN | apply Kd.R_drew)); exact (Kd.R_mono (Kd.R_far (p := ⟨gb297, 0, none⟩) (Kd.R_types HO290.out BK297.out (by decide)) (fun _ hk => hk.2) (.slice Ao142 t293.length co142)) (fun _ h_ => h_.1))) hb); replace HO295 := Aside0.mk (Kd.R_below (by (with_reducible repeat (first | apply Kd.R_alloc | apply Kd.R_drewN | apply Kd.R_drew)); exact (Kd.R_mono (Kd.R_far (p := ⟨gb297, 0, none⟩) (Kd.R_types HO295.out BK297.out (by decide)) (fun _ hk => hk.2) (.slice Ao142 t293.length co142)) (fun _ h_ => h_.1))) hb); replace BK253 := Aside0.mk (blk_below (g := gb253) (o := .cells #[.slice A0_0 l0_0.length c0_0] 50 (0, 0)) (by (with_reducible repeat (first | refine blk_drewN ?_ _ | refine blk_drew ?_ | refine blk_alloc ?_ _)); refine blk_far ?_ NB253_297.out _; (with_reducible repeat (first | refine blk_drewN ?_ _ | refine blk_drew ?_ | refine blk_alloc ?_ _)); exact BK253.out) hb); replace BK254 := Aside0.mk (blk_below (g := gb254) (o := .cells #[.int .i64 a1_0, .int .i64 a1_1] 33 (0, 0)) (by (with_reducible repeat (first | refine blk_drewN ?_ _ | refine blk_drew ?_ | refine blk_alloc ?_ _)); refine blk_far ?_ NB254_297.out _; (with_reducible repeat (first | refine blk_drewN ?_ _ | refine blk_drew ?_ | refine blk_alloc ?_ _)); exact BK254.out) hb); replace BK265 := Aside0.mk (blk_below (g := gb265) (o := .cells #[.slice Ao30 t261.length co30] 55 (0, 0)) (by (with_reducible repeat (first | refine blk_drewN ?_ _ | refine blk_drew ?_ | refine blk_alloc ?_ _)); refine blk_far ?_ NB265_297.out _; (with_reducible repeat (first | refine blk_drewN ?_ _ | refine blk_drew ?_ | refine blk_alloc ?_ _)); exact BK265.out) hb); replace BK269 := Aside0.mk (blk_below (g := gb269) (o := .cells #[.slice Ao36 t283.length co36] 55 (0, 0)) (by (with_reducible repeat (first | refine blk_drewN ?_ _ | refine blk_drew ?_ | refine blk_alloc ?_ _)); refine blk_far ?_ NB269_297.out _; (with_reducible repeat (first | refine blk_drewN ?_ _ | refine blk_drew ?_ | refine blk_alloc ?_ _)); exact BK269.out) hb); replace BK276 := Aside0.mk (blk_below (g := gb276) (o := .cells #[.slice Ao47 t272.length co47] 55 (0, 0)) (by (with_reducible repeat (first | refine blk_drewN ?_ _ | refine blk_drew ?_ | refine blk_alloc ?_ _)); refine blk_far ?_ NB276_297.out _; (with_reducible repeat (first | refine blk_drewN ?_ _ | refine blk_drew ?_ | refine blk_alloc ?_ _)); exact BK276.out) hb); replace BK297 := Aside0.mk (blk_below (g := gb297) (o := .cells #[.slice Ao142 t293.length co142] 55 (0, 0)) (by (with_reducible repeat (first | refine blk_drewN ?_ _ | refine blk_drew ?_ | refine blk_alloc ?_ _)); refine blk_put (cs := #[.slice none 0 0]) ?_ 0 _ rfl; (with_reducible repeat (first | refine blk_drewN ?_ _ | refine blk_drew ?_ | refine blk_alloc ?_ _)); exact BK297.out) hb); replace HB := Aside0.mk (below_step (by repeat (first | (with_reducible first | exact HB.out | apply below_alloc | apply pw_below_drewN | apply below_drew1 | refine below_set ?_ GE253.out | refine below_set ?_ GE254.out | refine below_set ?_ GE265.out | refine below_set ?_ GE269.out | refine below_set ?_ GE276.out | refine below_set ?_ GE297.out) | exact HB.out)) hb); (try clear hb); (try clear hb2); (try clear hk); (try clear hi)))
                          go_meet
                          case rel => exact ⟨_, ((t296 != t264)), (by first | rfl | (simp; done) | (simp [*]; done)), H', ⟨by have := HJ16.out; have := HJ75.out; first | omega | exact Nat.le_refl _⟩, ⟨by (try simp only [hl270000_75]); (with_reducible repeat (first | apply Kd.R_alloc | apply Kd.R_drewN | apply Kd.R_drew)); exact Kd.R_mono HO_266000.out (fun _ hk => ⟨hk.2.2.1, ⟨hk.2.2.2, hk.2.1⟩⟩)⟩, ⟨by (try simp only [hl270000_75]); (with_reducible repeat (first | apply Kd.R_alloc | apply Kd.R_drewN | apply Kd.R_drew)); exact Kd.R_mono HO_270000.out (fun _ hk => ⟨hk.2.2.1, ⟨hk.2.2.2, hk.2.1⟩⟩)⟩, ⟨by (try simp only [hl270000_75]); (with_reducible repeat (first | apply Kd.R_alloc | apply Kd.R_drewN | apply Kd.R_drew)); exact Kd.R_mono HO_277000.out (fun _ hk => ⟨hk.2.2.1, ⟨hk.2.2.2, hk.2.1⟩⟩)⟩, ⟨by (try simp only [hl270000_75]); (with_reducible repeat (first | apply Kd.R_alloc | apply Kd.R_drewN | apply Kd.R_drew)); exact Kd.R_mono HO295.out (fun _ hk => ⟨hk.2.1, ⟨hk.2.2.1, hk.2.2.2⟩⟩)⟩, ⟨by (try simp only [hl270000_75]); (with_reducible repeat (first | refine blk_drewN ?_ _ | refine blk_drew ?_ | refine blk_alloc ?_ _)); exact BK253.out⟩, ⟨by (try simp only [hl270000_75]); (with_reducible repeat (first | refine blk_drewN ?_ _ | refine blk_drew ?_ | refine blk_alloc ?_ _)); exact BK254.out⟩, ⟨by (try simp only [hl270000_75]); (with_reducible repeat (first | refine blk_drewN ?_ _ | refine blk_drew ?_ | refine blk_alloc ?_ _)); exact BK265.out⟩, ⟨by (try simp only [hl270000_75]); (with_reducible repeat (first | refine blk_drewN ?_ _ | refine blk_drew ?_ | refine blk_alloc ?_ _)); exact BK269.out⟩, ⟨by (try simp only [hl270000_75]); (with_reducible repeat (first | refine blk_drewN ?_ _ | refine blk_drew ?_ | refine blk_alloc ?_ _)); exact BK276.out⟩, ⟨by (try simp only [hl270000_75]); (with_reducible repeat (first | refine blk_drewN ?_ _ | refine blk_drew ?_ | refine blk_alloc ?_ _)); exact BK297.out⟩, ⟨by repeat (first | (with_reducible first | exact HB.out | apply below_alloc | apply pw_below_drewN | apply below_drew1 | refine below_set ?_ GE253.out | refine below_set ?_ GE254.out | refine below_set ?_ GE265.out | refine below_set ?_ GE269.out | refine below_set ?_ GE276.out | refine below_set ?_ GE297.out) | exact HB.out)⟩⟩
                        · replace c145 := Bool.eq_false_iff.mpr c145
                          subst c145
                          have H1 : (laws_FnExactTriePut.j2 kj75 t285 true t286) = some r := by rw [if_neg (show ¬ (false = true) by decide)] at H; exact H
                          clear H
                          have H := H1
                          clear H1
                          have H' := Aside0.mk H
                          clear H
                          have hnb158 := NB297_253.out
                          have hnc158 := NB253_297.out
                          have hnb159 := NB297_254.out
                          have hnc159 := NB254_297.out
                          have hnb160 := NB297_265.out
                          have hnc160 := NB265_297.out
                          have hnb161 := NB297_269.out
                          have hnc161 := NB269_297.out
                          have hnb162 := NB297_276.out
                          have hnc162 := NB276_297.out
                          have hcz163_0 : w141.cell? ⟨gb297, 0, none⟩ = some (.slice none 0 0) := (blk_cell BK297.out 0).trans rfl
                          have hfz163_0 := blk_frozen BK297.out 0
                          have hnb164 := NB265_253.out
                          have hnc164 := NB253_265.out
                          have hnb165 := NB265_254.out
                          have hnc165 := NB254_265.out
                          have hnb166 := NB265_269.out
                          have hnc166 := NB269_265.out
                          have hnb167 := NB265_276.out
                          have hnc167 := NB276_265.out
                          have hcz168_0 : w141.cell? ⟨gb265, 0, none⟩ = some (.slice Ao30 t261.length co30) := (blk_cell BK265.out 0).trans rfl
                          have hfz168_0 := blk_frozen BK265.out 0
                          go_wp2_with (first | ((with_reducible refine gate_callee (f := 35) rfl ?_); refine goesL_ (some 94) rfl rfl Try.func35 (by kernel_rfl) rfl #[.agg #[.slice Ao142 t293.length co142], .agg #[.slice Ao30 t261.length co30]] rfl (by (try simp only [List.map_toArray, List.map_cons, List.map_nil]); first | done | rfl | (simp only [List.length_drop, List.length_take]; rfl)) ?_; (with_reducible refine (laws_eqTrie.calls kj75 _ _ t293 _ _ t261 false _ ?side1 ?side2 ?side3 ?side4 A144.out).mono ?_); (case side1 => refine (Kd.R_reads' (e := 104) (base := w.heap.size) (ok := fun k_ => (some k_ ≠ (v289 : Value).ownBlock ∧ (some k_ ≠ (.slice Ao30 t261.length co30 : Value).ownBlock ∧ (some k_ ≠ (.slice Ao36 t283.length co36 : Value).ownBlock ∧ some k_ ≠ (.slice Ao47 t272.length co47 : Value).ownBlock)))) (n := t293.length) (c := co142) ?_).2.2; exact (by (with_reducible repeat (first | apply Kd.R_alloc | apply Kd.R_drewN | apply Kd.R_drew)); exact (Kd.R_mono (Kd.R_far (p := ⟨gb297, 0, none⟩) (Kd.R_types HO295.out BK297.out (by decide)) (fun _ hk => hk.2) (.slice Ao142 t293.length co142)) (fun _ h_ => h_.1)))); (case side2 => exact (Kd.R_reads' HO295.out).2.1); (case side3 => refine (Kd.R_reads' (e := 104) (base := w.heap.size) (ok := fun k_ => (some k_ ≠ (v289 : Value).ownBlock ∧ (some k_ ≠ (.slice Ao142 t293.length co142 : Value).ownBlock ∧ (some k_ ≠ (.slice Ao36 t283.length co36 : Value).ownBlock ∧ some k_ ≠ (.slice Ao47 t272.length co47 : Value).ownBlock)))) (n := t261.length) (c := co30) ?_).2.2; exact (by (with_reducible repeat (first | apply Kd.R_alloc | apply Kd.R_drewN | apply Kd.R_drew)); exact (Kd.R_mono (Kd.R_far (p := ⟨gb297, 0, none⟩) (Kd.R_types HO_266000.out BK297.out (by decide)) (fun _ hk => hk.2) (.slice Ao142 t293.length co142)) (fun _ h_ => h_.1)))); (case side4 => exact (Kd.R_reads' HO_266000.out).2.1); rintro e w169 ⟨rfl, hb⟩; refine ⟨_, rfl, ?_⟩; replace HO_266000 := Aside0.mk (Kd.R_below (by (with_reducible repeat (first | apply Kd.R_alloc | apply Kd.R_drewN | apply Kd.R_drew)); exact (Kd.R_mono (Kd.R_far (p := ⟨gb297, 0, none⟩) (Kd.R_types HO_266000.out BK297.out (by decide)) (fun _ hk => hk.2) (.slice Ao142 t293.length co142)) (fun _ h_ => h_.1))) hb); replace HO_270000 := Aside0.mk (Kd.R_below (by (with_reducible repeat (first | apply Kd.R_alloc | apply Kd.R_drewN | apply Kd.R_drew)); exact (Kd.R_mono (Kd.R_far (p := ⟨gb297, 0, none⟩) (Kd.R_types HO_270000.out BK297.out (by decide)) (fun _ hk => hk.2) (.slice Ao142 t293.length co142)) (fun _ h_ => h_.1))) hb); replace HO_277000 := Aside0.mk (Kd.R_below (by (with_reducible repeat (first | apply Kd.R_alloc | apply Kd.R_drewN | apply Kd.R_drew)); exact (Kd.R_mono (Kd.R_far (p := ⟨gb297, 0, none⟩) (Kd.R_types HO_277000.out BK297.out (by decide)) (fun _ hk => hk.2) (.slice Ao142 t293.length co142)) (fun _ h_ => h_.1))) hb); replace HO290 := Aside0.mk (Kd.R_below (by (with_reducible repeat (first | apply Kd.R_alloc | apply Kd.R_drewN | apply Kd.R_drew)); exact (Kd.R_mono (Kd.R_far (p := ⟨gb297, 0, none⟩) (Kd.R_types HO290.out BK297.out (by decide)) (fun _ hk => hk.2) (.slice Ao142 t293.length co142)) (fun _ h_ => h_.1))) hb); replace HO295 := Aside0.mk (Kd.R_below (by (with_reducible repeat (first | apply Kd.R_alloc | apply Kd.R_drewN | apply Kd.R_drew)); exact (Kd.R_mono (Kd.R_far (p := ⟨gb297, 0, none⟩) (Kd.R_types HO295.out BK297.out (by decide)) (fun _ hk => hk.2) (.slice Ao142 t293.length co142)) (fun _ h_ => h_.1))) hb); replace BK253 := Aside0.mk (blk_below (g := gb253) (o := .cells #[.slice A0_0 l0_0.length c0_0] 50 (0, 0)) (by (with_reducible repeat (first | refine blk_drewN ?_ _ | refine blk_drew ?_ | refine blk_alloc ?_ _)); refine blk_far ?_ NB253_297.out _; (with_reducible repeat (first | refine blk_drewN ?_ _ | refine blk_drew ?_ | refine blk_alloc ?_ _)); exact BK253.out) hb); replace BK254 := Aside0.mk (blk_below (g := gb254) (o := .cells #[.int .i64 a1_0, .int .i64 a1_1] 33 (0, 0)) (by (with_reducible repeat (first | refine blk_drewN ?_ _ | refine blk_drew ?_ | refine blk_alloc ?_ _)); refine blk_far ?_ NB254_297.out _; (with_reducible repeat (first | refine blk_drewN ?_ _ | refine blk_drew ?_ | refine blk_alloc ?_ _)); exact BK254.out) hb); replace BK265 := Aside0.mk (blk_below (g := gb265) (o := .cells #[.slice Ao30 t261.length co30] 55 (0, 0)) (by (with_reducible repeat (first | refine blk_drewN ?_ _ | refine blk_drew ?_ | refine blk_alloc ?_ _)); refine blk_far ?_ NB265_297.out _; (with_reducible repeat (first | refine blk_drewN ?_ _ | refine blk_drew ?_ | refine blk_alloc ?_ _)); exact BK265.out) hb); replace BK269 := Aside0.mk (blk_below (g := gb269) (o := .cells #[.slice Ao36 t283.length co36] 55 (0, 0)) (by (with_reducible repeat (first | refine blk_drewN ?_ _ | refine blk_drew ?_ | refine blk_alloc ?_ _)); refine blk_far ?_ NB269_297.out _; (with_reducible repeat (first | refine blk_drewN ?_ _ | refine blk_drew ?_ | refine blk_alloc ?_ _)); exact BK269.out) hb); replace BK276 := Aside0.mk (blk_below (g := gb276) (o := .cells #[.slice Ao47 t272.length co47] 55 (0, 0)) (by (with_reducible repeat (first | refine blk_drewN ?_ _ | refine blk_drew ?_ | refine blk_alloc ?_ _)); refine blk_far ?_ NB276_297.out _; (with_reducible repeat (first | refine blk_drewN ?_ _ | refine blk_drew ?_ | refine blk_alloc ?_ _)); exact BK276.out) hb); replace BK297 := Aside0.mk (blk_below (g := gb297) (o := .cells #[.slice Ao142 t293.length co142] 55 (0, 0)) (by (with_reducible repeat (first | refine blk_drewN ?_ _ | refine blk_drew ?_ | refine blk_alloc ?_ _)); refine blk_put (cs := #[.slice none 0 0]) ?_ 0 _ rfl; (with_reducible repeat (first | refine blk_drewN ?_ _ | refine blk_drew ?_ | refine blk_alloc ?_ _)); exact BK297.out) hb); replace HB := Aside0.mk (below_step (by repeat (first | (with_reducible first | exact HB.out | apply below_alloc | apply pw_below_drewN | apply below_drew1 | refine below_set ?_ GE253.out | refine below_set ?_ GE254.out | refine below_set ?_ GE265.out | refine below_set ?_ GE269.out | refine below_set ?_ GE276.out | refine below_set ?_ GE297.out) | exact HB.out)) hb); (try clear hb); (try clear hb2); (try clear hk); (try clear hi)))
                          go_meet
                          case rel => exact ⟨_, (true), (by first | rfl | (simp; done) | (simp [*]; done)), H', ⟨by have := HJ16.out; have := HJ75.out; first | omega | exact Nat.le_refl _⟩, ⟨by (try simp only [hl270000_75]); (with_reducible repeat (first | apply Kd.R_alloc | apply Kd.R_drewN | apply Kd.R_drew)); exact Kd.R_mono HO_266000.out (fun _ hk => ⟨hk.2.2.1, ⟨hk.2.2.2, hk.2.1⟩⟩)⟩, ⟨by (try simp only [hl270000_75]); (with_reducible repeat (first | apply Kd.R_alloc | apply Kd.R_drewN | apply Kd.R_drew)); exact Kd.R_mono HO_270000.out (fun _ hk => ⟨hk.2.2.1, ⟨hk.2.2.2, hk.2.1⟩⟩)⟩, ⟨by (try simp only [hl270000_75]); (with_reducible repeat (first | apply Kd.R_alloc | apply Kd.R_drewN | apply Kd.R_drew)); exact Kd.R_mono HO_277000.out (fun _ hk => ⟨hk.2.2.1, ⟨hk.2.2.2, hk.2.1⟩⟩)⟩, ⟨by (try simp only [hl270000_75]); (with_reducible repeat (first | apply Kd.R_alloc | apply Kd.R_drewN | apply Kd.R_drew)); exact Kd.R_mono HO295.out (fun _ hk => ⟨hk.2.1, ⟨hk.2.2.1, hk.2.2.2⟩⟩)⟩, ⟨by (try simp only [hl270000_75]); (with_reducible repeat (first | refine blk_drewN ?_ _ | refine blk_drew ?_ | refine blk_alloc ?_ _)); exact BK253.out⟩, ⟨by (try simp only [hl270000_75]); (with_reducible repeat (first | refine blk_drewN ?_ _ | refine blk_drew ?_ | refine blk_alloc ?_ _)); exact BK254.out⟩, ⟨by (try simp only [hl270000_75]); (with_reducible repeat (first | refine blk_drewN ?_ _ | refine blk_drew ?_ | refine blk_alloc ?_ _)); exact BK265.out⟩, ⟨by (try simp only [hl270000_75]); (with_reducible repeat (first | refine blk_drewN ?_ _ | refine blk_drew ?_ | refine blk_alloc ?_ _)); exact BK269.out⟩, ⟨by (try simp only [hl270000_75]); (with_reducible repeat (first | refine blk_drewN ?_ _ | refine blk_drew ?_ | refine blk_alloc ?_ _)); exact BK276.out⟩, ⟨by (try simp only [hl270000_75]); (with_reducible repeat (first | refine blk_drewN ?_ _ | refine blk_drew ?_ | refine blk_alloc ?_ _)); exact BK297.out⟩, ⟨by repeat (first | (with_reducible first | exact HB.out | apply below_alloc | apply pw_below_drewN | apply below_drew1 | refine below_set ?_ GE253.out | refine below_set ?_ GE254.out | refine below_set ?_ GE265.out | refine below_set ?_ GE269.out | refine below_set ?_ GE276.out | refine below_set ?_ GE297.out) | exact HB.out)⟩⟩
                      case rest =>
                        clear HC126
                        try clear c1
                        try clear p2
                        try clear c3
                        try clear c4
                        try clear c14
                        try clear c15
                        try clear c16
                        try clear c33
                        try clear c35
                        try clear c40
                        try clear c45
                        try clear c145
                        try clear c146
                        try clear c147
                        try clear c148
                        try clear c149
                        try clear c150
                        try clear c152
                        try clear c153
                        try clear c154
                        try clear c155
                        try clear c158
                        try clear c159
                        try clear c160
                        try clear c161
                        try clear c162
                        try clear c164
                        try clear c165
                        try clear c166
                        try clear c167
                        try clear hcz151_0
                        try clear hcz156_0
                        try clear hcz163_0
                        try clear hcz168_0
                        try clear hfz151_0
                        try clear hfz156_0
                        try clear hfz163_0
                        try clear hfz168_0
                        obtain ⟨kq, x100_125, rfl, HA, HJ125, HO_266000, HO_270000, HO_277000, HO_298000, BK253, BK254, BK265, BK269, BK276, BK297, HB⟩ := hcut
                        have hl277000_125 := (Kd.R_reads' HO_277000.out).1
                        rw [hl277000_125] at HO_277000
                        (try simp only [hl277000_125])
                        (try simp only [hl277000_125] at BK253)
                        (try simp only [hl277000_125] at BK254)
                        (try simp only [hl277000_125] at BK265)
                        (try simp only [hl277000_125] at BK269)
                        (try simp only [hl277000_125] at BK276)
                        (try simp only [hl277000_125] at BK297)
                        (try simp only [hl277000_125] at HO_266000)
                        (try simp only [hl277000_125] at HO_270000)
                        (try simp only [hl277000_125] at HO_298000)
                        cases kq with
                        | zero => exact absurd HA.out (by simp [laws_FnExactTriePut.j2])
                        | succ kj125 =>
                          have H := HA.out
                          clear HA
                          simp only [laws_FnExactTriePut.j2] at H
                          by_cases c170 : x100_125 = true
                          · subst c170
                            have H1 : (some false) = some r := by rw [if_pos rfl] at H; exact H
                            clear H
                            have H := H1
                            clear H1
                            obtain rfl := Option.some.inj H
                            go_wp2
                            go_ret
                            exact ⟨by first | rfl | (simp [errW_none, errW_some] <;> rfl) | (simp [*, errW_none, errW_some] <;> rfl), by repeat (first | (with_reducible first | exact HB.out | apply below_alloc | apply pw_below_drewN | apply below_drew1 | refine below_set ?_ GE253.out | refine below_set ?_ GE254.out | refine below_set ?_ GE265.out | refine below_set ?_ GE269.out | refine below_set ?_ GE276.out | refine below_set ?_ GE297.out) | exact HB.out)⟩
                          · replace c170 := Bool.eq_false_iff.mpr c170
                            subst c170
                            have H1 : ((laws_heldTrie.f kj125 t286 1).bind fun t299 => (if t299 < 0 then (some false) else (if t299 = t285 then (some true) else (some false)))) = some r := by rw [if_neg (show ¬ (false = true) by decide)] at H; exact H
                            clear H
                            have H := H1
                            clear H1
                            replace H := Option.bind_eq_some_iff.mp H
                            obtain ⟨t299, A1710, H⟩ := H
                            replace H : (if t299 < 0 then (some false) else (if t299 = t285 then (some true) else (some false))) = some r := H
                            have A171 := Aside0.mk A1710
                            clear A1710
                            by_cases c172 : t299 < 0
                            · rw [if_pos c172] at H
                              have c172b0 : decide (t299 < 0) = true := decide_eq_true c172
                              clear c172
                              obtain rfl := Option.some.inj H
                              have hnb173 := NB276_253.out
                              have hnc173 := NB253_276.out
                              have hnb174 := NB276_254.out
                              have hnc174 := NB254_276.out
                              have hnb175 := NB276_265.out
                              have hnc175 := NB265_276.out
                              have hnb176 := NB276_269.out
                              have hnc176 := NB269_276.out
                              have hnb177 := NB276_297.out
                              have hnc177 := NB297_276.out
                              have hcz178_0 : wc.cell? ⟨gb276, 0, none⟩ = some (.slice Ao47 t286.length co47) := (blk_cell BK276.out 0).trans rfl
                              have hfz178_0 := blk_frozen BK276.out 0
                              go_wp2_with (first | ((with_reducible refine gate_callee (f := 47) rfl ?_); refine goesL_ (some 103) rfl rfl Try.func47 (by kernel_rfl) rfl #[.agg #[.slice Ao47 t286.length co47], .int .i64 1] rfl (by (try simp only [List.map_toArray, List.map_cons, List.map_nil]); first | done | rfl | (simp only [List.length_drop, List.length_take]; rfl)) ?_; (with_reducible refine (laws_heldTrie.calls kj125 _ _ t286 1 t299 _ ?side1 ?side2 A171.out).mono ?_); (case side1 => repeat (first | exact (Kd.R_reads' HO_277000.out).2.2 | (with_reducible refine Kd.C_alloc ?_ _) | (with_reducible refine Kd.C_drewN ?_ _) | (with_reducible refine Kd.C_drew ?_))); (case side2 => exact (Kd.R_reads' HO_277000.out).2.1); rintro e w179 ⟨rfl, hb⟩; refine ⟨_, rfl, ?_⟩; replace HO_266000 := Aside0.mk (Kd.R_below (zr HO_266000) hb); replace HO_270000 := Aside0.mk (Kd.R_below (zr HO_270000) hb); replace HO_277000 := Aside0.mk (Kd.R_below (zr HO_277000) hb); replace HO_298000 := Aside0.mk (Kd.R_below (zr HO_298000) hb); replace BK253 := zk BK253 hb; replace BK254 := zk BK254 hb; replace BK265 := zk BK265 hb; replace BK269 := zk BK269 hb; replace BK276 := zk BK276 hb; replace BK297 := zk BK297 hb; replace HB := Aside0.mk (below_step (by repeat (first | (with_reducible first | exact HB.out | apply below_alloc | apply pw_below_drewN | apply below_drew1 | refine below_set ?_ GE253.out | refine below_set ?_ GE254.out | refine below_set ?_ GE265.out | refine below_set ?_ GE269.out | refine below_set ?_ GE276.out | refine below_set ?_ GE297.out) | exact HB.out)) hb); (try clear hb); (try clear hb2); (try clear hk); (try clear hi)))
                              go_ret
                              exact ⟨by first | rfl | (simp [errW_none, errW_some] <;> rfl) | (simp [*, errW_none, errW_some] <;> rfl), by repeat (first | (with_reducible first | exact HB.out | apply below_alloc | apply pw_below_drewN | apply below_drew1 | refine below_set ?_ GE253.out | refine below_set ?_ GE254.out | refine below_set ?_ GE265.out | refine below_set ?_ GE269.out | refine below_set ?_ GE276.out | refine below_set ?_ GE297.out) | exact HB.out)⟩
                            · rw [if_neg c172] at H
                              have c172b0 : decide (t299 < 0) = false := decide_eq_false c172
                              clear c172
                              by_cases c180 : t299 = t285
                              · rw [if_pos c180] at H
                                have c180b0 : (t299 == t285) = true := beq_iff_eq.mpr c180
                                have c180b1 : (t299 != t285) = false := bne_eq_false_iff_eq.mpr c180
                                clear c180
                                obtain rfl := Option.some.inj H
                                have hnb181 := NB276_253.out
                                have hnc181 := NB253_276.out
                                have hnb182 := NB276_254.out
                                have hnc182 := NB254_276.out
                                have hnb183 := NB276_265.out
                                have hnc183 := NB265_276.out
                                have hnb184 := NB276_269.out
                                have hnc184 := NB269_276.out
                                have hnb185 := NB276_297.out
                                have hnc185 := NB297_276.out
                                have hcz186_0 : wc.cell? ⟨gb276, 0, none⟩ = some (.slice Ao47 t286.length co47) := (blk_cell BK276.out 0).trans rfl
                                have hfz186_0 := blk_frozen BK276.out 0
                                go_wp2_with (first | ((with_reducible refine gate_callee (f := 47) rfl ?_); refine goesL_ (some 103) rfl rfl Try.func47 (by kernel_rfl) rfl #[.agg #[.slice Ao47 t286.length co47], .int .i64 1] rfl (by (try simp only [List.map_toArray, List.map_cons, List.map_nil]); first | done | rfl | (simp only [List.length_drop, List.length_take]; rfl)) ?_; (with_reducible refine (laws_heldTrie.calls kj125 _ _ t286 1 t299 _ ?side1 ?side2 A171.out).mono ?_); (case side1 => repeat (first | exact (Kd.R_reads' HO_277000.out).2.2 | (with_reducible refine Kd.C_alloc ?_ _) | (with_reducible refine Kd.C_drewN ?_ _) | (with_reducible refine Kd.C_drew ?_))); (case side2 => exact (Kd.R_reads' HO_277000.out).2.1); rintro e w187 ⟨rfl, hb⟩; refine ⟨_, rfl, ?_⟩; replace HO_266000 := Aside0.mk (Kd.R_below (zr HO_266000) hb); replace HO_270000 := Aside0.mk (Kd.R_below (zr HO_270000) hb); replace HO_277000 := Aside0.mk (Kd.R_below (zr HO_277000) hb); replace HO_298000 := Aside0.mk (Kd.R_below (zr HO_298000) hb); replace BK253 := zk BK253 hb; replace BK254 := zk BK254 hb; replace BK265 := zk BK265 hb; replace BK269 := zk BK269 hb; replace BK276 := zk BK276 hb; replace BK297 := zk BK297 hb; replace HB := Aside0.mk (below_step (by repeat (first | (with_reducible first | exact HB.out | apply below_alloc | apply pw_below_drewN | apply below_drew1 | refine below_set ?_ GE253.out | refine below_set ?_ GE254.out | refine below_set ?_ GE265.out | refine below_set ?_ GE269.out | refine below_set ?_ GE276.out | refine below_set ?_ GE297.out) | exact HB.out)) hb); (try clear hb); (try clear hb2); (try clear hk); (try clear hi)))
                                go_ret
                                exact ⟨by first | rfl | (simp [errW_none, errW_some] <;> rfl) | (simp [*, errW_none, errW_some] <;> rfl), by repeat (first | (with_reducible first | exact HB.out | apply below_alloc | apply pw_below_drewN | apply below_drew1 | refine below_set ?_ GE253.out | refine below_set ?_ GE254.out | refine below_set ?_ GE265.out | refine below_set ?_ GE269.out | refine below_set ?_ GE276.out | refine below_set ?_ GE297.out) | exact HB.out)⟩
                              · rw [if_neg c180] at H
                                have c180b0 : (t299 == t285) = false := beq_eq_false_iff_ne.mpr c180
                                have c180b1 : (t299 != t285) = true := bne_iff_ne.mpr c180
                                obtain rfl := Option.some.inj H
                                have hnb188 := NB276_253.out
                                have hnc188 := NB253_276.out
                                have hnb189 := NB276_254.out
                                have hnc189 := NB254_276.out
                                have hnb190 := NB276_265.out
                                have hnc190 := NB265_276.out
                                have hnb191 := NB276_269.out
                                have hnc191 := NB269_276.out
                                have hnb192 := NB276_297.out
                                have hnc192 := NB297_276.out
                                have hcz193_0 : wc.cell? ⟨gb276, 0, none⟩ = some (.slice Ao47 t286.length co47) := (blk_cell BK276.out 0).trans rfl
                                have hfz193_0 := blk_frozen BK276.out 0
                                go_wp2_with (first | ((with_reducible refine gate_callee (f := 47) rfl ?_); refine goesL_ (some 103) rfl rfl Try.func47 (by kernel_rfl) rfl #[.agg #[.slice Ao47 t286.length co47], .int .i64 1] rfl (by (try simp only [List.map_toArray, List.map_cons, List.map_nil]); first | done | rfl | (simp only [List.length_drop, List.length_take]; rfl)) ?_; (with_reducible refine (laws_heldTrie.calls kj125 _ _ t286 1 t299 _ ?side1 ?side2 A171.out).mono ?_); (case side1 => repeat (first | exact (Kd.R_reads' HO_277000.out).2.2 | (with_reducible refine Kd.C_alloc ?_ _) | (with_reducible refine Kd.C_drewN ?_ _) | (with_reducible refine Kd.C_drew ?_))); (case side2 => exact (Kd.R_reads' HO_277000.out).2.1); rintro e w194 ⟨rfl, hb⟩; refine ⟨_, rfl, ?_⟩; replace HO_266000 := Aside0.mk (Kd.R_below (zr HO_266000) hb); replace HO_270000 := Aside0.mk (Kd.R_below (zr HO_270000) hb); replace HO_277000 := Aside0.mk (Kd.R_below (zr HO_277000) hb); replace HO_298000 := Aside0.mk (Kd.R_below (zr HO_298000) hb); replace BK253 := zk BK253 hb; replace BK254 := zk BK254 hb; replace BK265 := zk BK265 hb; replace BK269 := zk BK269 hb; replace BK276 := zk BK276 hb; replace BK297 := zk BK297 hb; replace HB := Aside0.mk (below_step (by repeat (first | (with_reducible first | exact HB.out | apply below_alloc | apply pw_below_drewN | apply below_drew1 | refine below_set ?_ GE253.out | refine below_set ?_ GE254.out | refine below_set ?_ GE265.out | refine below_set ?_ GE269.out | refine below_set ?_ GE276.out | refine below_set ?_ GE297.out) | exact HB.out)) hb); (try clear hb); (try clear hb2); (try clear hk); (try clear hi)))
                                go_ret
                                exact ⟨by first | rfl | (simp [errW_none, errW_some] <;> rfl) | (simp [*, errW_none, errW_some] <;> rfl), by repeat (first | (with_reducible first | exact HB.out | apply below_alloc | apply pw_below_drewN | apply below_drew1 | refine below_set ?_ GE253.out | refine below_set ?_ GE254.out | refine below_set ?_ GE265.out | refine below_set ?_ GE269.out | refine below_set ?_ GE276.out | refine below_set ?_ GE297.out) | exact HB.out)⟩
                    · rw [if_neg c122] at H
                      have c122b0 : (t287 == t285) = false := beq_eq_false_iff_ne.mpr c122
                      have c122b1 : (t287 != t285) = true := bne_iff_ne.mpr c122
                      obtain rfl := Option.some.inj H
                      have hnb195 := NB276_253.out
                      have hnc195 := NB253_276.out
                      have hnb196 := NB276_254.out
                      have hnc196 := NB254_276.out
                      have hnb197 := NB276_265.out
                      have hnc197 := NB265_276.out
                      have hnb198 := NB276_269.out
                      have hnc198 := NB269_276.out
                      have hcz199_0 : wc.cell? ⟨gb276, 0, none⟩ = some (.slice Ao47 t272.length co47) := (blk_cell BK276.out 0).trans rfl
                      have hfz199_0 := blk_frozen BK276.out 0
                      go_wp2_with (first | ((with_reducible refine gate_callee (f := 46) rfl ?_); refine goesL_ (some 74) rfl rfl Try.func46 (by kernel_rfl) rfl #[.agg #[.slice Ao47 t272.length co47], .int .i64 1] rfl (by (try simp only [List.map_toArray, List.map_cons, List.map_nil]); first | done | rfl | (simp only [List.length_drop, List.length_take]; rfl)) ?_; (with_reducible refine (laws_markTrie.calls kj75 (fun k_ => some k_ = (.slice Ao47 t272.length co47 : Value).ownBlock) (.slice Ao47 t272.length co47) t272 1 t285 t286 w _ ?side1 ?side2 A111.out).mono ?_); (case side1 => repeat (first | (with_reducible first | exact HB.out | apply below_alloc | apply pw_below_drewN | apply below_drew1 | refine below_set ?_ GE253.out | refine below_set ?_ GE254.out | refine below_set ?_ GE265.out | refine below_set ?_ GE269.out | refine below_set ?_ GE276.out) | exact HB.out)); (case side2 => exact Kd.R_tight rfl HO_277000.out); rintro e w200 ⟨rfl, hy0, hb, hkp⟩; refine ⟨_, rfl, ?_⟩; replace HO_266000 := Aside0.mk (Kd.R_mono (ok' := fun k_ => some k_ ≠ (.slice Ao36 t283.length co36 : Value).ownBlock ∧ some k_ ≠ (.slice Ao47 t272.length co47 : Value).ownBlock) (Kd.R_keptB (HO_266000.out) hkp (fun k_ hk_ hs_ => (hk_.2) hs_)) (fun k_ hk_ => ⟨hk_.1.1, hk_.1.2⟩)); replace HO_270000 := Aside0.mk (Kd.R_mono (ok' := fun k_ => some k_ ≠ (.slice Ao30 t261.length co30 : Value).ownBlock ∧ some k_ ≠ (.slice Ao47 t272.length co47 : Value).ownBlock) (Kd.R_keptB (HO_270000.out) hkp (fun k_ hk_ hs_ => (hk_.2) hs_)) (fun k_ hk_ => ⟨hk_.1.1, hk_.1.2⟩)); replace BK253 := Aside0.mk (blk_kept (zb BK253) hkp (fun hs_ => (fun e_ => (Kd.R_ne HO_277000.out BK253.out (by decide)) e_) hs_)); replace BK254 := Aside0.mk (blk_kept (zb BK254) hkp (fun hs_ => (fun e_ => (Kd.R_ne HO_277000.out BK254.out (by decide)) e_) hs_)); replace BK265 := Aside0.mk (blk_kept (zb BK265) hkp (fun hs_ => (fun e_ => (Kd.R_ne HO_277000.out BK265.out (by decide)) e_) hs_)); replace BK269 := Aside0.mk (blk_kept (zb BK269) hkp (fun hs_ => (fun e_ => (Kd.R_ne HO_277000.out BK269.out (by decide)) e_) hs_)); replace BK276 := Aside0.mk (blk_kept (zb BK276) hkp (fun hs_ => (fun e_ => (Kd.R_ne HO_277000.out BK276.out (by decide)) e_) hs_)); replace HO_277000 := Aside0.mk (Kd.R_reok rfl hy0 (fun k_ e_ => HO_277000.out.1 k_ e_)); replace HB := Aside0.mk (hb); (try clear hb); (try clear hkp); (try clear hy0); have hcz201_0 : w200.cell? ⟨gb276, 0, none⟩ = some (.slice Ao47 t272.length co47) := (blk_cell BK276.out 0).trans rfl; have hfz201_0 := blk_frozen BK276.out 0) | ((with_reducible refine gate_callee (f := 47) rfl ?_); refine goesL_ (some 77) rfl rfl Try.func47 (by kernel_rfl) rfl #[.agg #[.slice Ao47 t286.length co47], .int .i64 1] rfl (by (try simp only [List.map_toArray, List.map_cons, List.map_nil]); first | done | (rw [show t286.length = t272.length from (Kd.R_reads' HO_277000.out).1.symm] <;> rfl) | rfl | (simp only [List.length_drop, List.length_take]; rfl)) ?_; (with_reducible refine (laws_heldTrie.calls kj75 _ _ t286 1 t287 _ ?side1 ?side2 A112.out).mono ?_); (case side1 => repeat (first | exact (Kd.R_reads' HO_277000.out).2.2 | (with_reducible refine Kd.C_alloc ?_ _) | (with_reducible refine Kd.C_drewN ?_ _) | (with_reducible refine Kd.C_drew ?_))); (case side2 => rw [show t286.length = t272.length from (Kd.R_reads' HO_277000.out).1.symm]; exact (Kd.R_reads' HO_277000.out).2.1); rintro e w202 ⟨rfl, hb⟩; refine ⟨_, rfl, ?_⟩; replace HO_266000 := Aside0.mk (Kd.R_below (zr HO_266000) hb); replace HO_270000 := Aside0.mk (Kd.R_below (zr HO_270000) hb); replace HO_277000 := Aside0.mk (Kd.R_below (zr HO_277000) hb); replace BK253 := zk BK253 hb; replace BK254 := zk BK254 hb; replace BK265 := zk BK265 hb; replace BK269 := zk BK269 hb; replace BK276 := zk BK276 hb; replace HB := Aside0.mk (below_step (zh5 HB GE253 GE254 GE265 GE269 GE276) hb); (try clear hb); (try clear hb2); (try clear hk); (try clear hi)))
                      go_ret
                      exact ⟨by first | rfl | (simp [errW_none, errW_some] <;> rfl) | (simp [*, errW_none, errW_some] <;> rfl), zh5 HB GE253 GE254 GE265 GE269 GE276⟩
          · replace c74 := Bool.eq_false_iff.mpr c74
            subst c74
            have H1 : (some false) = some r := by rw [if_neg (show ¬ (false = true) by decide)] at H; exact H
            clear H
            have H := H1
            clear H1
            obtain rfl := Option.some.inj H
            try go_wp2
            replace HO_266000 := Aside0.mk (Kd.R_drew HO_266000.out)
            replace HO_270000 := Aside0.mk (Kd.R_drew HO_270000.out)
            replace HO_277000 := Aside0.mk (Kd.R_drew HO_277000.out)
            replace BK253 := Aside0.mk (blk_drew BK253.out)
            replace BK254 := Aside0.mk (blk_drew BK254.out)
            replace BK265 := Aside0.mk (blk_drew BK265.out)
            replace BK269 := Aside0.mk (blk_drew BK269.out)
            replace BK276 := Aside0.mk (blk_drew BK276.out)
            replace HB := Aside0.mk (below_drew1 HB.out)
            refine start_ (n := 5) (S := fun w' => w'.cell? ⟨gb269, 0, none⟩ = some (.slice Ao36 t266.length co36) ∧ w'.cell? ⟨gb253, 0, none⟩ = some (.slice A0_0 l0_0.length c0_0)) (ds := []) #[Z,Z,Z,Z,Z] (by kernel_rfl) rfl rfl ⟨(blk_cell BK269.out 0).trans rfl, (blk_cell BK253.out 0).trans rfl⟩ (fun hHeld => ?_)
            generalize wc.drew = w203 at HO_266000 HO_270000 HO_277000 BK253 BK254 BK265 BK269 BK276 HB hHeld ⊢
            refine tz (i := 0) (N := some 51) #[Y,Z,Z,Z,Z] rfl (by kernel_rfl) (Or.inl ⟨by rfl, by rintro w' ⟨s0, s1⟩; go_simp; with_reducible rfl⟩) hHeld ?_
            refine tz (i := 1) (N := some 52) #[Y,Y,Z,Z,Z] rfl (by kernel_rfl) (Or.inl ⟨by rfl, by rintro w' ⟨s0, s1⟩; go_simp; with_reducible rfl⟩) hHeld ?_
            refine one_ (i := 2) (N := some 53) #[Y,Y,Y,Z,Z] rfl rfl (by kernel_rfl) (by decide) (fun K hK => ?_)
            refine goes_ Try.func33 (by kernel_rfl) rfl #[.agg #[.slice A0_0 l0_0.length c0_0]] (by rfl) rfl rfl (by (try simp only [List.map_toArray, List.map_cons, List.map_nil]); first | done | rfl | (simp only [List.length_drop, List.length_take]; rfl)) ?_
            with_reducible refine (laws_toTrie.calls kj16 _ _ l0_0 t278 _ ?side1 ?side2 A72.out).mono ?_
            (case side1 => repeat (first | exact (Kd.C_below HR0_0.out HB.out) | (with_reducible refine Kd.C_alloc ?_ _) | (with_reducible refine Kd.C_drewN ?_ _) | (with_reducible refine Kd.C_drew ?_)))
            (case side2 => exact HC0_0.out)
            rintro e w204 ⟨v279, rfl, ho0, hb⟩
            refine ⟨_, rfl, ?_⟩
            have HO280 := Aside0.mk (Kd.R_lower (Kd.R_new' (Kd.R_new' (Kd.R_new' ho0 (Kd.R_lt (zr HO_266000))) (Kd.R_lt (zr HO_270000))) (Kd.R_lt (zr HO_277000))) (below_size (zh5 HB GE253 GE254 GE265 GE269 GE276)))
            replace HO_266000 := Aside0.mk (Kd.R_elder' (zr HO_266000) (Kd.R_base ho0) hb)
            replace HO_270000 := Aside0.mk (Kd.R_elder' (zr HO_270000) (Kd.R_base ho0) hb)
            replace HO_277000 := Aside0.mk (Kd.R_elder' (zr HO_277000) (Kd.R_base ho0) hb)
            replace BK253 := zk BK253 hb
            replace BK254 := zk BK254 hb
            replace BK265 := zk BK265 hb
            replace BK269 := zk BK269 hb
            replace BK276 := zk BK276 hb
            replace HB := Aside0.mk (below_step (zh5 HB GE253 GE254 GE265 GE269 GE276) hb)
            (try clear hb)
            (try clear hb2)
            (try clear hk)
            (try clear hi)
            (try clear ho0)
            obtain ⟨Ao205, co205, eo205⟩ := Kd.R_slice HO280.out
            (first | subst eo205 | (injection eo205 with f1_ f2_ f3_; have f4_ := f1_.symm; have f5_ := f3_.symm; clear f1_ f2_ f3_; subst f4_; subst f5_))
            refine hK.out _ _ ⟨(blk_cell BK269.out 0).trans rfl, (blk_cell BK253.out 0).trans rfl⟩ (fun hHeld => ?_)
            clear hK K
            refine norm_ (a' := ?_) ?_ ?_
            rotate_left
            · show Act.put _ (some 53) _ = _
              simp only [Act.put, List.setIfInBounds_toArray, List.set_cons_zero, List.set_cons_succ, i64_w, i32_w]
              rfl
            refine one_ (i := 3) (N := some 54) #[Y,Y,Y,Y,Z] rfl rfl (by kernel_rfl) (by decide) (fun K hK => ?_)
            refine goes_ Try.func35 (by kernel_rfl) rfl #[.agg #[.slice Ao36 t266.length co36], .agg #[.slice Ao205 t278.length co205]] (by rfl) rfl rfl (by (try simp only [List.map_toArray, List.map_cons, List.map_nil]); first | done | rfl | (simp only [List.length_drop, List.length_take]; rfl)) ?_
            with_reducible refine (laws_eqTrie.calls kj16 _ _ t266 _ _ t278 false _ ?side1 ?side2 ?side3 ?side4 A73.out).mono ?_
            (case side1 => repeat (first | exact (Kd.R_reads' HO_270000.out).2.2 | (with_reducible refine Kd.C_alloc ?_ _) | (with_reducible refine Kd.C_drewN ?_ _) | (with_reducible refine Kd.C_drew ?_)))
            (case side2 => exact (Kd.R_reads' HO_270000.out).2.1)
            (case side3 => repeat (first | exact (Kd.R_reads' HO280.out).2.2 | (with_reducible refine Kd.C_alloc ?_ _) | (with_reducible refine Kd.C_drewN ?_ _) | (with_reducible refine Kd.C_drew ?_)))
            (case side4 => exact (Kd.R_reads' HO280.out).2.1)
            rintro e w206 ⟨rfl, hb⟩
            refine ⟨_, rfl, ?_⟩
            replace HO_266000 := Aside0.mk (Kd.R_below (zr HO_266000) hb)
            replace HO_270000 := Aside0.mk (Kd.R_below (zr HO_270000) hb)
            replace HO_277000 := Aside0.mk (Kd.R_below (zr HO_277000) hb)
            replace HO280 := Aside0.mk (Kd.R_below (zr HO280) hb)
            replace BK253 := zk BK253 hb
            replace BK254 := zk BK254 hb
            replace BK265 := zk BK265 hb
            replace BK269 := zk BK269 hb
            replace BK276 := zk BK276 hb
            replace HB := Aside0.mk (below_step (zh5 HB GE253 GE254 GE265 GE269 GE276) hb)
            (try clear hb)
            (try clear hb2)
            (try clear hk)
            (try clear hi)
            refine hK.out _ _ ⟨(blk_cell BK269.out 0).trans rfl, (blk_cell BK253.out 0).trans rfl⟩ (fun hHeld => ?_)
            clear hK K
            refine norm_ (a' := ?_) ?_ ?_
            rotate_left
            · show Act.put _ (some 54) _ = _
              simp only [Act.put, List.setIfInBounds_toArray, List.set_cons_zero, List.set_cons_succ, i64_w, i32_w]
              rfl
            refine pz (i := 4) (N := some 55) #[Y,Y,Y,Y,Y] (by kernel_rfl) ?_
            refine done_ (by kernel_rfl) ?_
            try go_wp2
            go_ret
            exact ⟨by first | rfl | (simp [errW_none, errW_some] <;> rfl) | (simp [*, errW_none, errW_some] <;> rfl), zh5 HB GE253 GE254 GE265 GE269 GE276⟩

end Go.Proofs.Ytbddppnhpapfkaa.PFnExactTriePut
