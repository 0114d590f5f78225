/- Machine proofs of Go functions, part x5: began as a text that the kit's print wrote, turned by hand. -/
import Derived.Test.YtbddppnhpapfkaaZFnExactTriePutMFnExactTriePutx0
import Derived.Test.YtbddppnhpapfkaaZFnExactTriePutMFnExactTriePutx3
import Derived.Test.YtbddppnhpapfkaaZFnExactTriePutMFnExactTriePutx4
namespace Go.Proofs.Ytbddppnhpapfkaa.PFnExactTriePut
open Go.RowKit Go.Proofs.YtbddppnhpapfkaaW.PrintWords Go.Proofs.YtbddppnhpapfkaaW.PrintLast Go.Proofs.YtbddppnhpapfkaaW.PrintMore
attribute [local go_sem] max2_int min2_int max_two min_two max_three min_three max_four min_four   -- for this text's walks alone
set_option linter.unusedVariables false
set_option linter.unusedSimpArgs false

/-! ### impl_TriePut: function 45 -/
mutual
def impl_TriePut.j0 : Nat → Int → Bool → List (S104) → Int → Int → Option ((List (S104)) × Bool)
  | 0, _, _, _, _, _ => none
  | k + 1, x2, x25, x218000, x219000, x219001 => if x25 = true then ((impl_copyTrie.f x218000).bind fun t223 => (some (t223, false))) else ((impl_copyTrie.f x218000).bind fun t226 => (impl_TriePut.l0 k x2 0 x219001 0 x218000 x219000 x219001 t226))
def impl_TriePut.l0 : Nat → Int → Int → Int → Int → List (S104) → Int → Int → List (S104) → Option ((List (S104)) × Bool)
  | 0, _, _, _, _, _, _, _, _ => none
  | k + 1, x2, x9, x31, x32, x218000, x219000, x219001, x230000 => if x32 < x31 then ((impl_bitOf.f x219000 x32).bind fun t234 => (if 0 ≤ x9 then (if x9 < (x230000.length : Int) then ((impl_along.f ((rd_T104 x230000 x9).f0) ((rd_T104 x230000 x9).f1) ((rd_T104 x230000 x9).f2) t234).bind fun t236 => (if t236 = 0 then (if x230000.length < 5864062014805 then ((some (x230000 ++ [(⟨0, 0, 0⟩ : S104)] : List (S104))).bind fun y237 => (if t234 = 0 then (if x9 < (y237.length : Int) then (impl_TriePut.l0 k x2 (x230000.length : Int) x31 (wrap64 (x32 + 1)) x218000 x219000 x219001 (y237.set (x9 : Int).toNat (⟨(x230000.length : Int), (rd_T104 y237 x9).f1, (rd_T104 y237 x9).f2⟩ : S104))) else (none)) else (if x9 < (y237.length : Int) then (impl_TriePut.l0 k x2 (x230000.length : Int) x31 (wrap64 (x32 + 1)) x218000 x219000 x219001 (y237.set (x9 : Int).toNat (⟨(rd_T104 y237 x9).f0, (x230000.length : Int), (rd_T104 y237 x9).f2⟩ : S104))) else (none)))) else (none)) else (impl_TriePut.l0 k x2 t236 x31 (wrap64 (x32 + 1)) x218000 x219000 x219001 x230000))) else (none)) else (none))) else (if 0 ≤ x9 then (if x9 < (x230000.length : Int) then (if (x230000.length : Int) > 400 then ((impl_copyTrie.f x218000).bind fun t231 => (some (t231, false))) else (some ((x230000.set (x9 : Int).toNat (⟨(rd_T104 x230000 x9).f0, (rd_T104 x230000 x9).f1, x2⟩ : S104)), true))) else (none)) else (none))
end
def impl_TriePut.f (k : Nat) (l0_0 : List (S104)) (a1_0 : Int) (a1_1 : Int) (a2 : Int) : Option ((List (S104)) × Bool) := (impl_TrieOk.f k l0_0).bind fun t220 => (if t220 = true then ((impl_PrefixOk.f a1_0 a1_1).bind fun t221 => (if t221 = true then ((impl_within.f a2 0 99).bind fun t222 => (impl_TriePut.j0 k a2 (!t222) l0_0 a1_0 a1_1)) else (impl_TriePut.j0 k a2 true l0_0 a1_0 a1_1))) else (impl_TriePut.j0 k a2 true l0_0 a1_0 a1_1))
theorem impl_TriePut.mono_l : ∀ k, (∀ y0 y1 y2 y3 y4, LeO (impl_TriePut.j0 k y0 y1 y2 y3 y4) (impl_TriePut.j0 (k + 1) y0 y1 y2 y3 y4)) ∧ (∀ y0 y1 y2 y3 y4 y5 y6 y7, LeO (impl_TriePut.l0 k y0 y1 y2 y3 y4 y5 y6 y7) (impl_TriePut.l0 (k + 1) y0 y1 y2 y3 y4 y5 y6 y7))
  | 0 => ⟨fun _ _ _ _ _ r h => by simp [impl_TriePut.j0] at h, fun _ _ _ _ _ _ _ _ r h => by simp [impl_TriePut.l0] at h⟩
  | k + 1 => by
    obtain ⟨ih0, ih1⟩ := impl_TriePut.mono_l k
    refine ⟨?_, ?_⟩
    · intro y0 y1 y2 y3 y4
      unfold impl_TriePut.j0
      repeat' first
      | (with_reducible exact ih0 _ _ _ _ _)
      | (with_reducible exact ih1 _ _ _ _ _ _ _ _)
      | (with_reducible exact impl_TrieOk.mono _ _)
      | (with_reducible exact LeO.refl _)
      | (with_reducible exact LeO.none _)
      | (with_reducible refine LeO.ite ?_ ?_)
      | (with_reducible refine LeO.bind ?_ (fun _ => ?_))
      | exact ih0 _ _ _ _ _
      | exact ih1 _ _ _ _ _ _ _ _
      | exact impl_TrieOk.mono _ _
      | exact LeO.none _
      | refine LeO.ite ?_ ?_
      | refine LeO.bind ?_ (fun _ => ?_)
    · intro y0 y1 y2 y3 y4 y5 y6 y7
      unfold impl_TriePut.l0
      repeat' first
      | (with_reducible exact ih0 _ _ _ _ _)
      | (with_reducible exact ih1 _ _ _ _ _ _ _ _)
      | (with_reducible exact impl_TrieOk.mono _ _)
      | (with_reducible exact LeO.refl _)
      | (with_reducible exact LeO.none _)
      | (with_reducible refine LeO.ite ?_ ?_)
      | (with_reducible refine LeO.bind ?_ (fun _ => ?_))
      | exact ih0 _ _ _ _ _
      | exact ih1 _ _ _ _ _ _ _ _
      | exact impl_TrieOk.mono _ _
      | exact LeO.none _
      | refine LeO.ite ?_ ?_
      | refine LeO.bind ?_ (fun _ => ?_)
theorem impl_TriePut.mono : ∀ a0 a1 a2 a3 k, LeO (impl_TriePut.f k a0 a1 a2 a3) (impl_TriePut.f (k + 1) a0 a1 a2 a3) := by
  intro a0 a1 a2 a3 k
  obtain ⟨ih0, ih1⟩ := impl_TriePut.mono_l k
  unfold impl_TriePut.f
  repeat' first
      | (with_reducible exact ih0 _ _ _ _ _)
      | (with_reducible exact ih1 _ _ _ _ _ _ _ _)
      | (with_reducible exact impl_TrieOk.mono _ _)
      | (with_reducible exact LeO.refl _)
      | (with_reducible exact LeO.none _)
      | (with_reducible refine LeO.ite ?_ ?_)
      | (with_reducible refine LeO.bind ?_ (fun _ => ?_))
      | exact ih0 _ _ _ _ _
      | exact ih1 _ _ _ _ _ _ _ _
      | exact impl_TrieOk.mono _ _
      | exact LeO.none _
      | refine LeO.ite ?_ ?_
      | refine LeO.bind ?_ (fun _ => ?_)
set_option maxHeartbeats 8000000 in
set_option maxRecDepth 100000 in
theorem impl_TriePut.calls (k : Nat) (A0_0 : Option Addr) (c0_0 : Nat) (l0_0 : List (S104)) (a1_0 : Int) (a1_1 : Int) (a2 : Int) (r1 : List (S104)) (r2 : Bool) (w : World) (hr0_0 : Kd.C k104 w A0_0 l0_0.length l0_0) (hc0_0 : l0_0.length ≤ c0_0) (h : impl_TriePut.f k l0_0 a1_0 a1_1 a2 = some (r1, r2)) :
    Calls Try.prog 45 #[.agg #[.slice A0_0 l0_0.length c0_0], .agg #[.int .i64 a1_0, .int .i64 a1_1], .int .i64 a2] w fun e w' => ∃ v0_ : Value, e = .returned (.tuple #[.agg #[v0_], .bool r2]) ∧ Kd.R k104 104 w' w.heap.size (fun _ => True) v0_ r1 ∧ Below w.heap.size w w' := by
  have hu55 := Try.underlying55
  have hu40 := Try.underlying40
  have hu104 := Try.underlying104
  have HR0_0 := Aside0.mk hr0_0
  have HC0_0 := Aside0.mk hc0_0
  clear hr0_0 hc0_0
  have HB := Aside0.mk (Below.refl w.heap.size w)
  have H : ((impl_TrieOk.f k l0_0).bind fun t220 => (if t220 = true then ((impl_PrefixOk.f a1_0 a1_1).bind fun t221 => (if t221 = true then ((impl_within.f a2 0 99).bind fun t222 => (impl_TriePut.j0 k a2 (!t222) l0_0 a1_0 a1_1)) else (impl_TriePut.j0 k a2 true l0_0 a1_0 a1_1))) else (impl_TriePut.j0 k a2 true l0_0 a1_0 a1_1))) = some (r1, r2) := h
  clear h
  have HC4 := Aside0.mk H
  clear H
  go_enter Try.func45, Try.ntmps45
  go_upto_region 1 with (first | ((with_reducible refine gate_dst (N := 3) rfl ?_); refine box_event ?hg (N := 3) ?hd (cs := #[.slice A0_0 l0_0.length c0_0]) (t := 55) ?hr ?_; (case hd => rfl); (case hg => rfl); (case hr => first | (go_simp; done) | (go_simp; rfl)); intro gb217 hg w5 hbox hb; have BK217 := Aside0.mk (hbox); have GW217 := Aside0.mk ((by rw [hg]; exact (below_size (zh HB)) : w.heap.size ≤ gb217)); have GE217 := Aside0.mk ((by rw [hg]; exact (below_size (zh HB)) : w.heap.size ≤ gb217)); replace HB := Aside0.mk (below_step (zh HB) hb); clear hb hbox hg) | ((with_reducible refine gate_dst (N := 4) rfl ?_); refine box_event ?hg (N := 4) ?hd (cs := #[.int .i64 a1_0, .int .i64 a1_1]) (t := 40) ?hr ?_; (case hd => rfl); (case hg => rfl); (case hr => first | (go_simp; done) | (go_simp; rfl)); intro gb218 hg w6 hbox hb; have BK218 := Aside0.mk (hbox); have GW218 := Aside0.mk ((by rw [hg]; exact (below_size (zh1 HB GE217)) : w.heap.size ≤ gb218)); have GE218 := Aside0.mk ((by rw [hg]; exact (below_size (zh1 HB GE217)) : w.heap.size ≤ gb218)); replace HB := Aside0.mk (below_step (zh1 HB GE217) hb); have NB217_218 := Aside0.mk ((by rw [hg]; exact Nat.ne_of_lt (blk_lt (g := gb217) (o := .cells #[.slice A0_0 l0_0.length c0_0] 55 (0, 0)) (zb BK217)) : gb217 ≠ gb218)); have NB218_217 := Aside0.mk ((by rw [hg]; exact Nat.ne_of_gt (blk_lt (g := gb217) (o := .cells #[.slice A0_0 l0_0.length c0_0] 55 (0, 0)) (zb BK217)) : gb218 ≠ gb217)); replace BK217 := zk BK217 hb; clear hb hbox hg) | ((with_reducible refine gate_dst (N := 6) rfl ?_); refine box_event ?hg (N := 6) ?hd (cs := #[.slice none 0 0]) (t := 55) ?hr ?_; (case hd => rfl); (case hg => rfl); (case hr => first | (go_simp; done) | (go_simp; rfl)); intro gb219 hg w7 hbox hb; have BK219 := Aside0.mk (hbox); have GW219 := Aside0.mk ((by rw [hg]; exact (below_size (zh2 HB GE217 GE218)) : w.heap.size ≤ gb219)); have GE219 := Aside0.mk ((by rw [hg]; exact (below_size (zh2 HB GE217 GE218)) : w.heap.size ≤ gb219)); replace HB := Aside0.mk (below_step (zh2 HB GE217 GE218) hb); have NB217_219 := Aside0.mk ((by rw [hg]; exact Nat.ne_of_lt (blk_lt (g := gb217) (o := .cells #[.slice A0_0 l0_0.length c0_0] 55 (0, 0)) (zb BK217)) : gb217 ≠ gb219)); have NB219_217 := Aside0.mk ((by rw [hg]; exact Nat.ne_of_gt (blk_lt (g := gb217) (o := .cells #[.slice A0_0 l0_0.length c0_0] 55 (0, 0)) (zb BK217)) : gb219 ≠ gb217)); replace BK217 := zk BK217 hb; have NB218_219 := Aside0.mk ((by rw [hg]; exact Nat.ne_of_lt (blk_lt (g := gb218) (o := .cells #[.int .i64 a1_0, .int .i64 a1_1] 40 (0, 0)) (zb BK218)) : gb218 ≠ gb219)); have NB219_218 := Aside0.mk ((by rw [hg]; exact Nat.ne_of_gt (blk_lt (g := gb218) (o := .cells #[.int .i64 a1_0, .int .i64 a1_1] 40 (0, 0)) (zb BK218)) : gb219 ≠ gb218)); replace BK218 := zk BK218 hb; clear hb hbox hg))
  (try simp only [Act.put, List.setIfInBounds_toArray, List.set_cons_zero, List.set_cons_succ])
  go_cut [25] (fun v25 wc => ∃ (kq : Nat) (x25_3 : Bool), v25 = .bool x25_3 ∧ Aside0 (impl_TriePut.j0 kq a2 x25_3 l0_0 a1_0 a1_1 = some (r1, r2)) ∧ Aside0 (kq ≤ k) ∧ Aside0 (wc.heap[gb217]? = some (.cells #[(.slice A0_0 l0_0.length c0_0)] 55 (0, 0))) ∧ Aside0 (wc.heap[gb218]? = some (.cells #[.int .i64 a1_0, .int .i64 a1_1] 40 (0, 0))) ∧ Aside0 (wc.heap[gb219]? = some (.cells #[(.slice none 0 0)] 55 (0, 0))) ∧ Aside0 (Below w.heap.size w wc))
  case first =>
    have H := HC4.out
    clear HC4
    replace H := Option.bind_eq_some_iff.mp H
    obtain ⟨t220, A80, H⟩ := H
    replace H : (if t220 = true then ((impl_PrefixOk.f a1_0 a1_1).bind fun t221 => (if t221 = true then ((impl_within.f a2 0 99).bind fun t222 => (impl_TriePut.j0 k a2 (!t222) l0_0 a1_0 a1_1)) else (impl_TriePut.j0 k a2 true l0_0 a1_0 a1_1))) else (impl_TriePut.j0 k a2 true l0_0 a1_0 a1_1)) = some (r1, r2) := H
    have A8 := Aside0.mk A80
    clear A80
    by_cases c9 : t220 = true
    · subst c9
      have H1 : ((impl_PrefixOk.f a1_0 a1_1).bind fun t221 => (if t221 = true then ((impl_within.f a2 0 99).bind fun t222 => (impl_TriePut.j0 k a2 (!t222) l0_0 a1_0 a1_1)) else (impl_TriePut.j0 k a2 true l0_0 a1_0 a1_1))) = some (r1, r2) := by rw [if_pos rfl] at H; exact H
      clear H
      have H := H1
      clear H1
      replace H := Option.bind_eq_some_iff.mp H
      obtain ⟨t221, A100, H⟩ := H
      replace H : (if t221 = true then ((impl_within.f a2 0 99).bind fun t222 => (impl_TriePut.j0 k a2 (!t222) l0_0 a1_0 a1_1)) else (impl_TriePut.j0 k a2 true l0_0 a1_0 a1_1)) = some (r1, r2) := H
      have A10 := Aside0.mk A100
      clear A100
      by_cases c11 : t221 = true
      · subst c11
        have H1 : ((impl_within.f a2 0 99).bind fun t222 => (impl_TriePut.j0 k a2 (!t222) l0_0 a1_0 a1_1)) = some (r1, r2) := by rw [if_pos rfl] at H; exact H
        clear H
        have H := H1
        clear H1
        replace H := Option.bind_eq_some_iff.mp H
        obtain ⟨t222, A120, H⟩ := H
        replace H : (impl_TriePut.j0 k a2 (!t222) l0_0 a1_0 a1_1) = some (r1, r2) := H
        have A12 := Aside0.mk A120
        clear A120
        have H' := Aside0.mk H
        clear H
        have hnb13 := NB217_218.out
        have hnc13 := NB218_217.out
        have hnb14 := NB217_219.out
        have hnc14 := NB219_217.out
        have hcz15_0 : w7.cell? ⟨gb217, 0, none⟩ = some (.slice A0_0 l0_0.length c0_0) := (blk_cell BK217.out 0).trans rfl
        have hfz15_0 := blk_frozen BK217.out 0
        go_wp2_with (first | ((with_reducible refine gate_callee (f := 51) rfl ?_); refine goesL_ (some 14) rfl rfl Try.func51 (by kernel_rfl) rfl #[.agg #[.slice A0_0 l0_0.length c0_0]] rfl (by (try simp only [List.map_toArray, List.map_cons, List.map_nil]); first | done | rfl | (simp only [List.length_drop, List.length_take]; rfl)) ?_; (with_reducible refine (impl_TrieOk.calls k _ _ l0_0 true _ ?side1 ?side2 A8.out).mono ?_); (case side1 => repeat (first | exact (Kd.C_below HR0_0.out HB.out) | (with_reducible refine Kd.C_alloc ?_ _) | (with_reducible refine Kd.C_drewN ?_ _) | (with_reducible refine Kd.C_drew ?_))); (case side2 => exact HC0_0.out); rintro e w16 ⟨rfl, hb⟩; refine ⟨_, rfl, ?_⟩; replace BK217 := zk BK217 hb; replace BK218 := zk BK218 hb; replace BK219 := zk BK219 hb; replace HB := Aside0.mk (below_step (zh3 HB GE217 GE218 GE219) hb); (try clear hb); (try clear hb2); (try clear hk); (try clear hi); have hnb17 := NB218_219.out; have hnc17 := NB219_218.out; have hcz18_0 : w16.cell? ⟨gb218, 0, none⟩ = some (.int .i64 a1_0) := (blk_cell BK218.out 0).trans rfl; have hcz18_1 : w16.cell? ⟨gb218, 1, none⟩ = some (.int .i64 a1_1) := (blk_cell BK218.out 1).trans rfl; have hfz18_0 := blk_frozen BK218.out 0; have hfz18_1 := blk_frozen BK218.out 1) | (go_at_call 62; (with_reducible refine (impl_PrefixOk.calls a1_0 a1_1 true _ A10.out).mono ?_); rintro e w19 ⟨rfl, hb⟩; replace BK217 := zk BK217 hb; replace BK218 := zk BK218 hb; replace BK219 := zk BK219 hb; replace HB := Aside0.mk (below_step (zh3 HB GE217 GE218 GE219) hb); (try clear hb); (try clear hb2); (try clear hk); (try clear hi)) | (go_at_call 89; (with_reducible refine (impl_within.calls a2 0 99 t222 _ A12.out).mono ?_); rintro e w' ⟨rfl, ⟨nd, rfl⟩⟩))
        go_meet
        case rel => exact ⟨_, (!t222), (by first | rfl | (simp; done) | (simp [*]; done)), H', ⟨by first | omega | exact Nat.le_refl _⟩, ⟨by (with_reducible repeat (first | refine blk_drewN ?_ _ | refine blk_drew ?_ | refine blk_alloc ?_ _)); exact BK217.out⟩, ⟨by (with_reducible repeat (first | refine blk_drewN ?_ _ | refine blk_drew ?_ | refine blk_alloc ?_ _)); exact BK218.out⟩, ⟨by (with_reducible repeat (first | refine blk_drewN ?_ _ | refine blk_drew ?_ | refine blk_alloc ?_ _)); exact BK219.out⟩, ⟨zh3 HB GE217 GE218 GE219⟩⟩
      · replace c11 := Bool.eq_false_iff.mpr c11
        subst c11
        have H1 : (impl_TriePut.j0 k a2 true l0_0 a1_0 a1_1) = some (r1, r2) := by rw [if_neg (show ¬ (false = true) by decide)] at H; exact H
        clear H
        have H := H1
        clear H1
        have H' := Aside0.mk H
        clear H
        have hnb20 := NB217_218.out
        have hnc20 := NB218_217.out
        have hnb21 := NB217_219.out
        have hnc21 := NB219_217.out
        have hcz22_0 : w7.cell? ⟨gb217, 0, none⟩ = some (.slice A0_0 l0_0.length c0_0) := (blk_cell BK217.out 0).trans rfl
        have hfz22_0 := blk_frozen BK217.out 0
        go_wp2_with (first | ((with_reducible refine gate_callee (f := 51) rfl ?_); refine goesL_ (some 14) rfl rfl Try.func51 (by kernel_rfl) rfl #[.agg #[.slice A0_0 l0_0.length c0_0]] rfl (by (try simp only [List.map_toArray, List.map_cons, List.map_nil]); first | done | rfl | (simp only [List.length_drop, List.length_take]; rfl)) ?_; (with_reducible refine (impl_TrieOk.calls k _ _ l0_0 true _ ?side1 ?side2 A8.out).mono ?_); (case side1 => repeat (first | exact (Kd.C_below HR0_0.out HB.out) | (with_reducible refine Kd.C_alloc ?_ _) | (with_reducible refine Kd.C_drewN ?_ _) | (with_reducible refine Kd.C_drew ?_))); (case side2 => exact HC0_0.out); rintro e w23 ⟨rfl, hb⟩; refine ⟨_, rfl, ?_⟩; replace BK217 := zk BK217 hb; replace BK218 := zk BK218 hb; replace BK219 := zk BK219 hb; replace HB := Aside0.mk (below_step (zh3 HB GE217 GE218 GE219) hb); (try clear hb); (try clear hb2); (try clear hk); (try clear hi); have hnb24 := NB218_219.out; have hnc24 := NB219_218.out; have hcz25_0 : w23.cell? ⟨gb218, 0, none⟩ = some (.int .i64 a1_0) := (blk_cell BK218.out 0).trans rfl; have hcz25_1 : w23.cell? ⟨gb218, 1, none⟩ = some (.int .i64 a1_1) := (blk_cell BK218.out 1).trans rfl; have hfz25_0 := blk_frozen BK218.out 0; have hfz25_1 := blk_frozen BK218.out 1) | (go_at_call 62; (with_reducible refine (impl_PrefixOk.calls a1_0 a1_1 false _ A10.out).mono ?_); rintro e w26 ⟨rfl, hb⟩; replace BK217 := zk BK217 hb; replace BK218 := zk BK218 hb; replace BK219 := zk BK219 hb; replace HB := Aside0.mk (below_step (zh3 HB GE217 GE218 GE219) hb); (try clear hb); (try clear hb2); (try clear hk); (try clear hi)))
        go_meet
        case rel => exact ⟨_, (true), (by first | rfl | (simp; done) | (simp [*]; done)), H', ⟨by first | omega | exact Nat.le_refl _⟩, ⟨by (with_reducible repeat (first | refine blk_drewN ?_ _ | refine blk_drew ?_ | refine blk_alloc ?_ _)); exact BK217.out⟩, ⟨by (with_reducible repeat (first | refine blk_drewN ?_ _ | refine blk_drew ?_ | refine blk_alloc ?_ _)); exact BK218.out⟩, ⟨by (with_reducible repeat (first | refine blk_drewN ?_ _ | refine blk_drew ?_ | refine blk_alloc ?_ _)); exact BK219.out⟩, ⟨zh3 HB GE217 GE218 GE219⟩⟩
    · replace c9 := Bool.eq_false_iff.mpr c9
      subst c9
      have H1 : (impl_TriePut.j0 k a2 true l0_0 a1_0 a1_1) = some (r1, r2) := by rw [if_neg (show ¬ (false = true) by decide)] at H; exact H
      clear H
      have H := H1
      clear H1
      have H' := Aside0.mk H
      clear H
      have hnb27 := NB217_218.out
      have hnc27 := NB218_217.out
      have hnb28 := NB217_219.out
      have hnc28 := NB219_217.out
      have hcz29_0 : w7.cell? ⟨gb217, 0, none⟩ = some (.slice A0_0 l0_0.length c0_0) := (blk_cell BK217.out 0).trans rfl
      have hfz29_0 := blk_frozen BK217.out 0
      go_wp2_with (first | ((with_reducible refine gate_callee (f := 51) rfl ?_); refine goesL_ (some 14) rfl rfl Try.func51 (by kernel_rfl) rfl #[.agg #[.slice A0_0 l0_0.length c0_0]] rfl (by (try simp only [List.map_toArray, List.map_cons, List.map_nil]); first | done | rfl | (simp only [List.length_drop, List.length_take]; rfl)) ?_; (with_reducible refine (impl_TrieOk.calls k _ _ l0_0 false _ ?side1 ?side2 A8.out).mono ?_); (case side1 => repeat (first | exact (Kd.C_below HR0_0.out HB.out) | (with_reducible refine Kd.C_alloc ?_ _) | (with_reducible refine Kd.C_drewN ?_ _) | (with_reducible refine Kd.C_drew ?_))); (case side2 => exact HC0_0.out); rintro e w30 ⟨rfl, hb⟩; refine ⟨_, rfl, ?_⟩; replace BK217 := zk BK217 hb; replace BK218 := zk BK218 hb; replace BK219 := zk BK219 hb; replace HB := Aside0.mk (below_step (zh3 HB GE217 GE218 GE219) hb); (try clear hb); (try clear hb2); (try clear hk); (try clear hi)))
      go_meet
      case rel => exact ⟨_, (true), (by first | rfl | (simp; done) | (simp [*]; done)), H', ⟨by first | omega | exact Nat.le_refl _⟩, ⟨by (with_reducible repeat (first | refine blk_drewN ?_ _ | refine blk_drew ?_ | refine blk_alloc ?_ _)); exact BK217.out⟩, ⟨by (with_reducible repeat (first | refine blk_drewN ?_ _ | refine blk_drew ?_ | refine blk_alloc ?_ _)); exact BK218.out⟩, ⟨by (with_reducible repeat (first | refine blk_drewN ?_ _ | refine blk_drew ?_ | refine blk_alloc ?_ _)); exact BK219.out⟩, ⟨zh3 HB GE217 GE218 GE219⟩⟩
  case rest =>
    clear HC4
    try clear c1
    try clear c2
    try clear p2
    try clear c4
    try clear c5
    try clear c9
    try clear c11
    try clear c13
    try clear c14
    try clear c17
    try clear c20
    try clear c21
    try clear c24
    try clear c27
    try clear c28
    try clear hcz15_0
    try clear hcz18_0
    try clear hcz18_1
    try clear hcz22_0
    try clear hcz25_0
    try clear hcz25_1
    try clear hcz29_0
    try clear hfz15_0
    try clear hfz18_0
    try clear hfz18_1
    try clear hfz22_0
    try clear hfz25_0
    try clear hfz25_1
    try clear hfz29_0
    obtain ⟨kq, x25_3, rfl, HA, HJ3, BK217, BK218, BK219, HB⟩ := hcut
    cases kq with
    | zero => exact absurd HA.out (by simp [impl_TriePut.j0])
    | succ kj3 =>
      have H := HA.out
      clear HA
      simp only [impl_TriePut.j0] at H
      by_cases c31 : x25_3 = true
      · subst c31
        have H1 : ((impl_copyTrie.f l0_0).bind fun t223 => (some (t223, false))) = some (r1, r2) := by rw [if_pos rfl] at H; exact H
        clear H
        have H := H1
        clear H1
        replace H := Option.bind_eq_some_iff.mp H
        obtain ⟨t223, A320, H⟩ := H
        replace H : (some (t223, false)) = some (r1, r2) := H
        have A32 := Aside0.mk A320
        clear A320
        simp only [Option.some.injEq, Prod.mk.injEq] at H
        obtain ⟨rfl, rfl⟩ := H
        have hnb33 := NB217_218.out
        have hnc33 := NB218_217.out
        have hnb34 := NB217_219.out
        have hnc34 := NB219_217.out
        have hcz35_0 : wc.cell? ⟨gb217, 0, none⟩ = some (.slice A0_0 l0_0.length c0_0) := (blk_cell BK217.out 0).trans rfl
        have hfz35_0 := blk_frozen BK217.out 0
        go_wp2_with (first | ((with_reducible refine gate_callee (f := 94) rfl ?_); refine goesL_ (some 27) rfl rfl Try.func94 (by kernel_rfl) rfl #[.agg #[.slice A0_0 l0_0.length c0_0]] rfl (by (try simp only [List.map_toArray, List.map_cons, List.map_nil]); first | done | rfl | (simp only [List.length_drop, List.length_take]; rfl)) ?_; (with_reducible refine (impl_copyTrie.calls _ _ l0_0 t223 _ ?side1 ?side2 A32.out).mono ?_); (case side1 => repeat (first | exact (Kd.C_below HR0_0.out HB.out) | (with_reducible refine Kd.C_alloc ?_ _) | (with_reducible refine Kd.C_drewN ?_ _) | (with_reducible refine Kd.C_drew ?_))); (case side2 => exact HC0_0.out); rintro e w36 ⟨v224, rfl, ho0, hb⟩; refine ⟨_, rfl, ?_⟩; have HO225 := Aside0.mk (Kd.R_lower ho0 (below_size (zh3 HB GE217 GE218 GE219))); replace BK217 := zk BK217 hb; replace BK218 := zk BK218 hb; replace BK219 := zk BK219 hb; replace HB := Aside0.mk (below_step (zh3 HB GE217 GE218 GE219) hb); (try clear hb); (try clear hb2); (try clear hk); (try clear hi); (try clear ho0); obtain ⟨Ao37, co37, eo37⟩ := Kd.R_slice HO225.out; subst eo37; have hnb38 := NB219_218.out; have hnc38 := NB218_219.out; have hcz39_0 : w36.cell? ⟨gb219, 0, none⟩ = some (.slice none 0 0) := (blk_cell BK219.out 0).trans rfl; have hfz39_0 := blk_frozen BK219.out 0))
        refine bodyPost_ret (results_ct rfl _ _ gb219 55 #[.slice Ao37 t223.length co37] (0, 0) _ rfl (by (with_reducible repeat (first | refine blk_drewN ?_ _ | refine blk_drew ?_ | refine blk_alloc ?_ _)); refine blk_put (cs := #[.slice none 0 0]) ?_ 0 _ rfl; (with_reducible repeat (first | refine blk_drewN ?_ _ | refine blk_drew ?_ | refine blk_alloc ?_ _)); exact BK219.out) Try.underlying55 rfl (by kernel_rfl)) rfl ?_
        exact ⟨_, by first | rfl | (simp [errW_none, errW_some] <;> rfl) | (simp [*, errW_none, errW_some] <;> rfl), by (with_reducible repeat (first | apply Kd.R_alloc | apply Kd.R_drewN | apply Kd.R_drew)); exact Kd.R_mono (Kd.R_far (p := ⟨gb219, 0, none⟩) (Kd.R_types HO225.out BK219.out (by decide)) (fun _ hk => hk.2) (.slice Ao37 t223.length co37)) (fun _ hk => trivial), zh3 HB GE217 GE218 GE219⟩
      · replace c31 := Bool.eq_false_iff.mpr c31
        subst c31
        have H1 : ((impl_copyTrie.f l0_0).bind fun t226 => (impl_TriePut.l0 kj3 a2 0 a1_1 0 l0_0 a1_0 a1_1 t226)) = some (r1, r2) := by rw [if_neg (show ¬ (false = true) by decide)] at H; exact H
        clear H
        have H := H1
        clear H1
        replace H := Option.bind_eq_some_iff.mp H
        obtain ⟨t226, A400, H⟩ := H
        replace H : (impl_TriePut.l0 kj3 a2 0 a1_1 0 l0_0 a1_0 a1_1 t226) = some (r1, r2) := H
        have A40 := Aside0.mk A400
        clear A400
        have H' := Aside0.mk H
        clear H
        have hnb41 := NB217_218.out
        have hnc41 := NB218_217.out
        have hnb42 := NB217_219.out
        have hnc42 := NB219_217.out
        have hcz43_0 : wc.cell? ⟨gb217, 0, none⟩ = some (.slice A0_0 l0_0.length c0_0) := (blk_cell BK217.out 0).trans rfl
        have hfz43_0 := blk_frozen BK217.out 0
        go_wp2_with (first | ((with_reducible refine gate_callee (f := 94) rfl ?_); refine goesL_ (some 29) rfl rfl Try.func94 (by kernel_rfl) rfl #[.agg #[.slice A0_0 l0_0.length c0_0]] rfl (by (try simp only [List.map_toArray, List.map_cons, List.map_nil]); first | done | rfl | (simp only [List.length_drop, List.length_take]; rfl)) ?_; (with_reducible refine (impl_copyTrie.calls _ _ l0_0 t226 _ ?side1 ?side2 A40.out).mono ?_); (case side1 => repeat (first | exact (Kd.C_below HR0_0.out HB.out) | (with_reducible refine Kd.C_alloc ?_ _) | (with_reducible refine Kd.C_drewN ?_ _) | (with_reducible refine Kd.C_drew ?_))); (case side2 => exact HC0_0.out); rintro e w44 ⟨v227, rfl, ho0, hb⟩; refine ⟨_, rfl, ?_⟩; have HO228 := Aside0.mk (Kd.R_lower ho0 (below_size (zh3 HB GE217 GE218 GE219))); replace BK217 := zk BK217 hb; replace BK218 := zk BK218 hb; replace BK219 := zk BK219 hb; replace HB := Aside0.mk (below_step (zh3 HB GE217 GE218 GE219) hb); (try clear hb); (try clear hb2); (try clear hk); (try clear hi); (try clear ho0)) | ((with_reducible refine gate_dst (N := 8) rfl ?_); refine box_event ?hg (N := 8) ?hd (cs := #[.slice none 0 0]) (t := 55) ?hr ?_; (case hd => rfl); (case hg => rfl); (case hr => first | (go_simp; done) | (go_simp; rfl)); intro gb229 hg w45 hbox hb; replace HO228 := Aside0.mk (Kd.R_below (zr HO228) hb); have BK229 := Aside0.mk (hbox); have GW229 := Aside0.mk ((by rw [hg]; exact (below_size (zh3 HB GE217 GE218 GE219)) : w.heap.size ≤ gb229)); have GE229 := Aside0.mk ((by rw [hg]; exact (below_size (zh3 HB GE217 GE218 GE219)) : w.heap.size ≤ gb229)); replace HB := Aside0.mk (below_step (zh3 HB GE217 GE218 GE219) hb); have NB217_229 := Aside0.mk ((by rw [hg]; exact Nat.ne_of_lt (blk_lt (g := gb217) (o := .cells #[.slice A0_0 l0_0.length c0_0] 55 (0, 0)) (zb BK217)) : gb217 ≠ gb229)); have NB229_217 := Aside0.mk ((by rw [hg]; exact Nat.ne_of_gt (blk_lt (g := gb217) (o := .cells #[.slice A0_0 l0_0.length c0_0] 55 (0, 0)) (zb BK217)) : gb229 ≠ gb217)); replace BK217 := zk BK217 hb; have NB218_229 := Aside0.mk ((by rw [hg]; exact Nat.ne_of_lt (blk_lt (g := gb218) (o := .cells #[.int .i64 a1_0, .int .i64 a1_1] 40 (0, 0)) (zb BK218)) : gb218 ≠ gb229)); have NB229_218 := Aside0.mk ((by rw [hg]; exact Nat.ne_of_gt (blk_lt (g := gb218) (o := .cells #[.int .i64 a1_0, .int .i64 a1_1] 40 (0, 0)) (zb BK218)) : gb229 ≠ gb218)); replace BK218 := zk BK218 hb; have NB219_229 := Aside0.mk ((by rw [hg]; exact Nat.ne_of_lt (blk_lt (g := gb219) (o := .cells #[.slice none 0 0] 55 (0, 0)) (zb BK219)) : gb219 ≠ gb229)); have NB229_219 := Aside0.mk ((by rw [hg]; exact Nat.ne_of_gt (blk_lt (g := gb219) (o := .cells #[.slice none 0 0] 55 (0, 0)) (zb BK219)) : gb229 ≠ gb219)); replace BK219 := zk BK219 hb; clear hb hbox hg; obtain ⟨Ao46, co46, eo46⟩ := Kd.R_slice HO228.out; subst eo46; have hnb47 := NB229_217.out; have hnc47 := NB217_229.out; have hnb48 := NB229_218.out; have hnc48 := NB218_229.out; have hnb49 := NB229_219.out; have hnc49 := NB219_229.out; have hcz50_0 : w45.cell? ⟨gb229, 0, none⟩ = some (.slice none 0 0) := (blk_cell BK229.out 0).trans rfl; have hfz50_0 := blk_frozen BK229.out 0; have hnb51 := NB218_219.out; have hnc51 := NB219_218.out; have hcz52_0 : w45.cell? ⟨gb218, 0, none⟩ = some (.int .i64 a1_0) := (blk_cell BK218.out 0).trans rfl; have hcz52_1 : w45.cell? ⟨gb218, 1, none⟩ = some (.int .i64 a1_1) := (blk_cell BK218.out 1).trans rfl; have hfz52_0 := blk_frozen BK218.out 0; have hfz52_1 := blk_frozen BK218.out 1))
        go_loopg [9, 32] kj3 (fun kq v9 v32 w' => ∃ (x9_2 : Int) (x32_2 : Int) (x230000_2 : List (S104)) (u230000 : Value), v9 = .int .i64 x9_2 ∧ v32 = .int .i64 x32_2 ∧ Aside0 (impl_TriePut.l0 kq a2 x9_2 a1_1 x32_2 l0_0 a1_0 a1_1 x230000_2 = some (r1, r2)) ∧ Aside0 (kq ≤ kj3) ∧ Aside0 (Kd.R k104 104 w' w.heap.size (fun _ => True) u230000 x230000_2) ∧ Aside0 (w'.heap[gb217]? = some (.cells #[(.slice A0_0 l0_0.length c0_0)] 55 (0, 0))) ∧ Aside0 (w'.heap[gb218]? = some (.cells #[.int .i64 a1_0, .int .i64 a1_1] 40 (0, 0))) ∧ Aside0 (w'.heap[gb219]? = some (.cells #[(.slice none 0 0)] 55 (0, 0))) ∧ Aside0 (w'.heap[gb229]? = some (.cells #[u230000] 55 (0, 0))) ∧ Aside0 (Below w.heap.size w w'))
        case atStart => exact ⟨(0), (0), (t226), (.slice Ao46 t226.length co46), (by first | rfl | (simp; done) | (simp [*]; done)), (by first | rfl | (simp; done) | (simp [*]; done)), H', ⟨Nat.le_refl _⟩, ⟨by (with_reducible repeat (first | apply Kd.R_alloc | apply Kd.R_drewN | apply Kd.R_drew)); exact Kd.R_mono (Kd.R_far (p := ⟨gb229, 0, none⟩) (Kd.R_types HO228.out BK229.out (by decide)) (fun _ hk => hk.2) (.slice Ao46 t226.length co46)) (fun _ hk => trivial)⟩, ⟨by (with_reducible repeat (first | refine blk_drewN ?_ _ | refine blk_drew ?_ | refine blk_alloc ?_ _)); refine blk_far ?_ NB217_229.out _; (with_reducible repeat (first | refine blk_drewN ?_ _ | refine blk_drew ?_ | refine blk_alloc ?_ _)); exact BK217.out⟩, ⟨by (with_reducible repeat (first | refine blk_drewN ?_ _ | refine blk_drew ?_ | refine blk_alloc ?_ _)); refine blk_far ?_ NB218_229.out _; (with_reducible repeat (first | refine blk_drewN ?_ _ | refine blk_drew ?_ | refine blk_alloc ?_ _)); exact BK218.out⟩, ⟨by (with_reducible repeat (first | refine blk_drewN ?_ _ | refine blk_drew ?_ | refine blk_alloc ?_ _)); refine blk_far ?_ NB219_229.out _; (with_reducible repeat (first | refine blk_drewN ?_ _ | refine blk_drew ?_ | refine blk_alloc ?_ _)); exact BK219.out⟩, ⟨by (with_reducible repeat (first | refine blk_drewN ?_ _ | refine blk_drew ?_ | refine blk_alloc ?_ _)); refine blk_put (cs := #[.slice none 0 0]) ?_ 0 _ rfl; (with_reducible repeat (first | refine blk_drewN ?_ _ | refine blk_drew ?_ | refine blk_alloc ?_ _)); exact BK229.out⟩, ⟨zh4 HB GE217 GE218 GE219 GE229⟩⟩
        case round =>
          clear H'
          try clear c1
          try clear c2
          try clear p2
          try clear c3
          try clear c4
          try clear c5
          try clear c9
          try clear c11
          try clear c13
          try clear c14
          try clear c17
          try clear c20
          try clear c21
          try clear c24
          try clear c27
          try clear c28
          try clear c31
          try clear c33
          try clear c34
          try clear c38
          try clear c41
          try clear c42
          try clear c45
          try clear c47
          try clear c48
          try clear c49
          try clear c51
          try clear hcz15_0
          try clear hcz18_0
          try clear hcz18_1
          try clear hcz22_0
          try clear hcz25_0
          try clear hcz25_1
          try clear hcz29_0
          try clear hcz35_0
          try clear hcz39_0
          try clear hcz43_0
          try clear hcz50_0
          try clear hcz52_0
          try clear hcz52_1
          try clear hfz15_0
          try clear hfz18_0
          try clear hfz18_1
          try clear hfz22_0
          try clear hfz25_0
          try clear hfz25_1
          try clear hfz29_0
          try clear hfz35_0
          try clear hfz39_0
          try clear hfz43_0
          try clear hfz50_0
          try clear hfz52_0
          try clear hfz52_1
          try clear p2
          obtain ⟨x9_2, x32_2, x230000_2, u230000, rfl, rfl, HA, HK2, HO_230000, BK217, BK218, BK219, BK229, HB⟩ := hrel
          cases gk with
          | zero => exact absurd HA.out (by simp [impl_TriePut.l0])
          | succ k2 =>
            have H := HA.out
            clear HA
            simp only [impl_TriePut.l0] at H
            by_cases c53 : x32_2 < a1_1
            · rw [if_pos c53] at H
              have c53b0 : decide (x32_2 < a1_1) = true := decide_eq_true c53
              clear c53
              replace H := Option.bind_eq_some_iff.mp H
              obtain ⟨t234, A540, H⟩ := H
              replace H : (if 0 ≤ x9_2 then (if x9_2 < (x230000_2.length : Int) then ((impl_along.f ((rd_T104 x230000_2 x9_2).f0) ((rd_T104 x230000_2 x9_2).f1) ((rd_T104 x230000_2 x9_2).f2) t234).bind fun t236 => (if t236 = 0 then (if x230000_2.length < 5864062014805 then ((some (x230000_2 ++ [(⟨0, 0, 0⟩ : S104)] : List (S104))).bind fun y237 => (if t234 = 0 then (if x9_2 < (y237.length : Int) then (impl_TriePut.l0 k2 a2 (x230000_2.length : Int) a1_1 (wrap64 (x32_2 + 1)) l0_0 a1_0 a1_1 (y237.set (x9_2 : Int).toNat (⟨(x230000_2.length : Int), (rd_T104 y237 x9_2).f1, (rd_T104 y237 x9_2).f2⟩ : S104))) else (none)) else (if x9_2 < (y237.length : Int) then (impl_TriePut.l0 k2 a2 (x230000_2.length : Int) a1_1 (wrap64 (x32_2 + 1)) l0_0 a1_0 a1_1 (y237.set (x9_2 : Int).toNat (⟨(rd_T104 y237 x9_2).f0, (x230000_2.length : Int), (rd_T104 y237 x9_2).f2⟩ : S104))) else (none)))) else (none)) else (impl_TriePut.l0 k2 a2 t236 a1_1 (wrap64 (x32_2 + 1)) l0_0 a1_0 a1_1 x230000_2))) else (none)) else (none)) = some (r1, r2) := H
              have A54 := Aside0.mk A540
              clear A540
              by_cases c55 : 0 ≤ x9_2
              · rw [if_pos c55] at H
                have c55b0 : decide (0 ≤ x9_2) = true := decide_eq_true c55
                clear c55
                by_cases c56 : x9_2 < (x230000_2.length : Int)
                · rw [if_pos c56] at H
                  have c56b0 : decide (x9_2 < (x230000_2.length : Int)) = true := decide_eq_true c56
                  clear c56
                  replace H := Option.bind_eq_some_iff.mp H
                  obtain ⟨t236, A570, H⟩ := H
                  replace H : (if t236 = 0 then (if x230000_2.length < 5864062014805 then ((some (x230000_2 ++ [(⟨0, 0, 0⟩ : S104)] : List (S104))).bind fun y237 => (if t234 = 0 then (if x9_2 < (y237.length : Int) then (impl_TriePut.l0 k2 a2 (x230000_2.length : Int) a1_1 (wrap64 (x32_2 + 1)) l0_0 a1_0 a1_1 (y237.set (x9_2 : Int).toNat (⟨(x230000_2.length : Int), (rd_T104 y237 x9_2).f1, (rd_T104 y237 x9_2).f2⟩ : S104))) else (none)) else (if x9_2 < (y237.length : Int) then (impl_TriePut.l0 k2 a2 (x230000_2.length : Int) a1_1 (wrap64 (x32_2 + 1)) l0_0 a1_0 a1_1 (y237.set (x9_2 : Int).toNat (⟨(rd_T104 y237 x9_2).f0, (x230000_2.length : Int), (rd_T104 y237 x9_2).f2⟩ : S104))) else (none)))) else (none)) else (impl_TriePut.l0 k2 a2 t236 a1_1 (wrap64 (x32_2 + 1)) l0_0 a1_0 a1_1 x230000_2)) = some (r1, r2) := H
                  have A57 := Aside0.mk A570
                  clear A570
                  by_cases c58 : t236 = 0
                  · rw [if_pos c58] at H
                    have c58b0 : (t236 == 0) = true := beq_iff_eq.mpr c58
                    have c58b1 : (t236 != 0) = false := bne_eq_false_iff_eq.mpr c58
                    clear c58
                    by_cases c59 : x230000_2.length < 5864062014805
                    · rw [if_pos c59] at H
                      have LMc59 := Aside0.mk c59
                      clear c59
                      obtain ⟨y237, hy237⟩ : ∃ y_ : List (S104), y_ = (x230000_2 ++ [(⟨0, 0, 0⟩ : S104)]) := ⟨_, rfl⟩
                      replace H : (if t234 = 0 then (if x9_2 < (y237.length : Int) then (impl_TriePut.l0 k2 a2 (x230000_2.length : Int) a1_1 (wrap64 (x32_2 + 1)) l0_0 a1_0 a1_1 (y237.set (x9_2 : Int).toNat (⟨(x230000_2.length : Int), (rd_T104 y237 x9_2).f1, (rd_T104 y237 x9_2).f2⟩ : S104))) else (none)) else (if x9_2 < (y237.length : Int) then (impl_TriePut.l0 k2 a2 (x230000_2.length : Int) a1_1 (wrap64 (x32_2 + 1)) l0_0 a1_0 a1_1 (y237.set (x9_2 : Int).toNat (⟨(rd_T104 y237 x9_2).f0, (x230000_2.length : Int), (rd_T104 y237 x9_2).f2⟩ : S104))) else (none))) = some (r1, r2) := by first | (rw [hy237]; with_reducible exact H) | (have H2_ := (Option.bind_some _ _).symm.trans H; rw [hy237]; with_reducible exact H2_) | (have H2_ := (Option.bind_some _ _).symm.trans H; with_reducible exact H2_) | with_reducible exact H | (rw [hy237]; exact H) | exact H
                      have Ny237 := Aside0.mk hy237
                      clear hy237
                      by_cases c60 : t234 = 0
                      · rw [if_pos c60] at H
                        have c60b0 : (t234 == 0) = true := beq_iff_eq.mpr c60
                        have c60b1 : (t234 != 0) = false := bne_eq_false_iff_eq.mpr c60
                        clear c60
                        by_cases c61 : x9_2 < (y237.length : Int)
                        · rw [if_pos c61] at H
                          have c61b0 : decide (x9_2 < (y237.length : Int)) = true := decide_eq_true c61
                          clear c61
                          obtain ⟨y240, hy240⟩ : ∃ y_ : List (S104), y_ = (y237.set (x9_2 : Int).toNat (⟨(x230000_2.length : Int), (rd_T104 y237 x9_2).f1, (rd_T104 y237 x9_2).f2⟩ : S104)) := ⟨_, rfl⟩
                          replace H : (impl_TriePut.l0 k2 a2 (x230000_2.length : Int) a1_1 (wrap64 (x32_2 + 1)) l0_0 a1_0 a1_1 y240) = some (r1, r2) := by first | (rw [hy240]; with_reducible exact H) | (have H2_ := (Option.bind_some _ _).symm.trans H; rw [hy240]; with_reducible exact H2_) | (have H2_ := (Option.bind_some _ _).symm.trans H; with_reducible exact H2_) | with_reducible exact H | (rw [hy240]; exact H) | exact H
                          have Ny240 := Aside0.mk hy240
                          clear hy240
                          have H' := Aside0.mk H
                          clear H
                          have hnb63 := NB218_217.out
                          have hnc63 := NB217_218.out
                          have hnb64 := NB218_219.out
                          have hnc64 := NB219_218.out
                          have hnb65 := NB218_229.out
                          have hnc65 := NB229_218.out
                          have hcz66_0 : wr.cell? ⟨gb218, 0, none⟩ = some (.int .i64 a1_0) := (blk_cell BK218.out 0).trans rfl
                          have hcz66_1 : wr.cell? ⟨gb218, 1, none⟩ = some (.int .i64 a1_1) := (blk_cell BK218.out 1).trans rfl
                          have hfz66_0 := blk_frozen BK218.out 0
                          have hfz66_1 := blk_frozen BK218.out 1
                          go_wp2_with (first | ((with_reducible refine gate_callee (f := 80) rfl ?_); refine goesL_ (some 38) rfl rfl Try.func80 (by kernel_rfl) rfl #[.int .i64 a1_0, .int .i64 x32_2] rfl (by (try simp only [List.map_toArray, List.map_cons, List.map_nil]); first | done | rfl | (simp only [List.length_drop, List.length_take]; rfl)) ?_; (with_reducible refine (impl_bitOf.calls a1_0 x32_2 t234 _ A54.out).mono ?_); rintro e w' ⟨rfl, ⟨nd, rfl⟩⟩; refine ⟨_, rfl, ?_⟩; (try (rw [drewN_self wr]; generalize hq_ : World.drewN wr _ = wr; have n0_ : Aside0 (Kd.R k104 104 wr w.heap.size (fun _ => True) u230000 x230000_2) := ⟨by rw [← hq_]; exact (zr HO_230000)⟩; have n1_ : Aside0 (wr.heap[gb217]? = some (.cells #[.slice A0_0 l0_0.length c0_0] 55 (0, 0))) := ⟨by rw [← hq_]; exact (zb BK217)⟩; have n2_ : Aside0 (wr.heap[gb218]? = some (.cells #[.int .i64 a1_0, .int .i64 a1_1] 40 (0, 0))) := ⟨by rw [← hq_]; exact (zb BK218)⟩; have n3_ : Aside0 (wr.heap[gb219]? = some (.cells #[.slice none 0 0] 55 (0, 0))) := ⟨by rw [← hq_]; exact (zb BK219)⟩; have n4_ : Aside0 (wr.heap[gb229]? = some (.cells #[u230000] 55 (0, 0))) := ⟨by rw [← hq_]; exact (zb BK229)⟩; have n5_ : Aside0 (Below w.heap.size w wr) := ⟨by rw [← hq_]; exact (zh4 HB GE217 GE218 GE219 GE229)⟩; clear HO_230000 BK217 BK218 BK219 BK229 HB hq_; have HO_230000 := n0_; have BK217 := n1_; have BK218 := n2_; have BK219 := n3_; have BK229 := n4_; have HB := n5_; clear n0_ n1_ n2_ n3_ n4_ n5_)); have hnb67 := NB229_217.out; have hnc67 := NB217_229.out; have hnb68 := NB229_219.out; have hnc68 := NB219_229.out; have hcz69_0 : wr.cell? ⟨gb229, 0, none⟩ = some (u230000) := (blk_cell BK229.out 0).trans rfl; have hfz69_0 := blk_frozen BK229.out 0; obtain ⟨Ao70, co70, eo70⟩ := Kd.R_slice HO_230000.out; subst eo70; have p235 : 0 ≤ (x9_2 : Int) := of_decide_eq_true (by first | (with_reducible assumption) | assumption); have q235 : x9_2 < (x230000_2.length : Int) := of_decide_eq_true (by first | (with_reducible assumption) | assumption); obtain ⟨ad235, e235, hx235_0, hx235_1, hx235_2⟩ := at_T104 (Kd.R_reads' HO_230000.out).2.2 x9_2 p235 q235; cases e235; replace p235 := eq_true p235; replace q235 := eq_true q235) | ((with_reducible refine gate_callee (f := 79) rfl ?_); refine goesL_ (some 45) rfl rfl Try.func79 (by kernel_rfl) rfl #[.agg #[.int .i64 ((rd_T104 x230000_2 x9_2).f0), .int .i64 ((rd_T104 x230000_2 x9_2).f1), .int .i64 ((rd_T104 x230000_2 x9_2).f2)], .int .i64 t234] rfl (by (try simp only [List.map_toArray, List.map_cons, List.map_nil]); first | done | rfl | (simp only [List.length_drop, List.length_take]; rfl)) ?_; (with_reducible refine (impl_along.calls ((rd_T104 x230000_2 x9_2).f0) ((rd_T104 x230000_2 x9_2).f1) ((rd_T104 x230000_2 x9_2).f2) t234 t236 _ A57.out).mono ?_); rintro e w71 ⟨rfl, hb⟩; refine ⟨_, rfl, ?_⟩; replace HO_230000 := Aside0.mk (Kd.R_below (zr HO_230000) hb); replace BK217 := zk BK217 hb; replace BK218 := zk BK218 hb; replace BK219 := zk BK219 hb; replace BK229 := zk BK229 hb; replace HB := Aside0.mk (below_step (zh4 HB GE217 GE218 GE219 GE229) hb); (try clear hb); (try clear hb2); (try clear hk); (try clear hi); have hcz72_0 : w71.cell? ⟨gb229, 0, none⟩ = some (.slice (some ad235) x230000_2.length co70) := (blk_cell BK229.out 0).trans rfl; have hfz72_0 := blk_frozen BK229.out 0) | ((with_reducible refine gate_builtin (b := .append) (xs := #[.tmp 52, .tmp 54]) rfl ?_); at_builtin; refine Kd.R_append k104 (w0 := w) w.heap.size rfl (.tmp 52) (.tmp 54) 53 104 (.agg #[(.int .i64 0), (.int .i64 0), (.int .i64 0)]) 24 rfl Try.underlying53 info104 rfl (by decide) (by omega) (.slice (some ad235) x230000_2.length co70) x230000_2 (⟨0, 0, 0⟩ : S104) [.int .i64 0, .int .i64 0, .int .i64 0] (fun _ => True) (fun _ => False) rfl rfl ?aP (fun _ hk => hk.elim) ?aF ?aO ?aB ?aS ?aL ?_; (case aP => exact k104_mkM _ _ _ (⟨0, 0, 0⟩ : S104)); (case aB => exact (zh4 HB GE217 GE218 GE219 GE229)); (case aF => exact (fun _ _ => trivial)); (case aO => exact (zr HO_230000)); (case aS => exact (below_size (zh4 HB GE217 GE218 GE219 GE229))); (case aL => have := LMc59.out; omega); intro v238 w73 ho hb hg hat; rw [← Ny237.out] at ho; replace BK217 := Aside0.mk (blk_grown (g := gb217) (o := .cells #[.slice A0_0 l0_0.length c0_0] 55 (0, 0)) (zb BK217) hg (Kd.R_ne HO_230000.out BK217.out (by decide))); replace BK218 := Aside0.mk (blk_grown (g := gb218) (o := .cells #[.int .i64 a1_0, .int .i64 a1_1] 40 (0, 0)) (zb BK218) hg (Kd.R_ne HO_230000.out BK218.out (by decide))); replace BK219 := Aside0.mk (blk_grown (g := gb219) (o := .cells #[.slice none 0 0] 55 (0, 0)) (zb BK219) hg (Kd.R_ne HO_230000.out BK219.out (by decide))); replace BK229 := Aside0.mk (blk_grown (g := gb229) (o := .cells #[.slice (some ad235) x230000_2.length co70] 55 (0, 0)) (zb BK229) hg (Kd.R_ne HO_230000.out BK229.out (by decide))); replace HB := Aside0.mk (hb); have HO239 := Aside0.mk (ho); clear HO_230000; clear ho hb hg hat; obtain ⟨Ao74, co74, eo74⟩ := Kd.R_slice HO239.out; subst eo74; have hcz75_0 : w73.cell? ⟨gb229, 0, none⟩ = some (.slice (some ad235) x230000_2.length co70) := (blk_cell BK229.out 0).trans rfl; have hfz75_0 := blk_frozen BK229.out 0) | ((with_reducible refine gate_store (t := 53) (p := 56) rfl ?_); refine store_event (t := 53) (p := 56) (v := ?vo_w76) (w1 := (w73.setCell ⟨gb229, 0, none⟩ (.slice Ao74 y237.length co74))) ?hg ?ho ?hn ?hr ?_; (case ho => rfl); (case hg => rfl); (case hn => rfl); (case hr => first | (go_simp; done) | (go_simp; rfl)); intro w76 hw; have n0_ : Aside0 (Kd.R k104 104 w76 w.heap.size (fun _ => True) (.slice Ao74 y237.length co74) y237) := ⟨(by rw [hw]; exact (by (with_reducible repeat (first | apply Kd.R_alloc | apply Kd.R_drewN | apply Kd.R_drew)); exact Kd.R_mono (Kd.R_far (p := ⟨gb229, 0, none⟩) (Kd.R_types HO239.out BK229.out (by decide)) (fun _ hk => hk.2) (.slice Ao74 y237.length co74)) (fun _ hk => trivial)))⟩; have n1_ : Aside0 (w76.heap[gb217]? = some (.cells #[.slice A0_0 l0_0.length c0_0] 55 (0, 0))) := ⟨(by rw [hw]; exact (by (with_reducible repeat (first | refine blk_drewN ?_ _ | refine blk_drew ?_ | refine blk_alloc ?_ _)); refine blk_far ?_ NB217_229.out _; (with_reducible repeat (first | refine blk_drewN ?_ _ | refine blk_drew ?_ | refine blk_alloc ?_ _)); exact BK217.out))⟩; have n2_ : Aside0 (w76.heap[gb218]? = some (.cells #[.int .i64 a1_0, .int .i64 a1_1] 40 (0, 0))) := ⟨(by rw [hw]; exact (by (with_reducible repeat (first | refine blk_drewN ?_ _ | refine blk_drew ?_ | refine blk_alloc ?_ _)); refine blk_far ?_ NB218_229.out _; (with_reducible repeat (first | refine blk_drewN ?_ _ | refine blk_drew ?_ | refine blk_alloc ?_ _)); exact BK218.out))⟩; have n3_ : Aside0 (w76.heap[gb219]? = some (.cells #[.slice none 0 0] 55 (0, 0))) := ⟨(by rw [hw]; exact (by (with_reducible repeat (first | refine blk_drewN ?_ _ | refine blk_drew ?_ | refine blk_alloc ?_ _)); refine blk_far ?_ NB219_229.out _; (with_reducible repeat (first | refine blk_drewN ?_ _ | refine blk_drew ?_ | refine blk_alloc ?_ _)); exact BK219.out))⟩; have n4_ : Aside0 (w76.heap[gb229]? = some (.cells #[.slice Ao74 y237.length co74] 55 (0, 0))) := ⟨(by rw [hw]; exact (by (with_reducible repeat (first | refine blk_drewN ?_ _ | refine blk_drew ?_ | refine blk_alloc ?_ _)); refine blk_put (cs := #[.slice (some ad235) x230000_2.length co70]) ?_ 0 _ rfl; (with_reducible repeat (first | refine blk_drewN ?_ _ | refine blk_drew ?_ | refine blk_alloc ?_ _)); exact BK229.out))⟩; have n5_ : Aside0 (Below w.heap.size w w76) := ⟨(by rw [hw]; exact (zh4 HB GE217 GE218 GE219 GE229))⟩; clear hw; clear HO239; clear BK217; clear BK218; clear BK219; clear BK229; clear HB; have HO239 := n0_; have BK217 := n1_; have BK218 := n2_; have BK219 := n3_; have BK229 := n4_; have HB := n5_; clear n0_ n1_ n2_ n3_ n4_ n5_; have hcz77_0 : w76.cell? ⟨gb229, 0, none⟩ = some (.slice Ao74 y237.length co74) := (blk_cell BK229.out 0).trans rfl; have hfz77_0 := blk_frozen BK229.out 0; have p62 : 0 ≤ (x9_2 : Int) := of_decide_eq_true (by first | (with_reducible assumption) | assumption); have q62 : (x9_2 : Int) < ((y237.length : Int) : Int) := of_decide_eq_true (by first | (with_reducible assumption) | assumption); obtain ⟨go62, co62, eo62, gb62, gl62, cl62, HG62⟩ := Kd.R_form HO239.out (by omega); (first | cases eo62 | (injection eo62 with ea_ en_ ec_; (first | subst ea_ | (injection ea_ with ea_; subst ea_)); subst ec_; clear en_)); have GB62 := Aside0.mk gb62; have GG62 := Aside0.mk HG62; clear gb62 gl62 HG62; obtain ⟨ce62, hcl62, hM62, hcc62, hfr62⟩ := Kd.R_elem HO239.out z104 (x9_2 : Int) p62 q62; obtain rfl := k104_openM hM62; have hx62_0 : w76.cell? ⟨go62, (x9_2 : Int).toNat * 3, none⟩ = some (.int .i64 ((rd_T104 y237 x9_2).f0)) := hcc62 0 _ rfl; have hx62_1 : w76.cell? ⟨go62, (x9_2 : Int).toNat * 3 + 1, none⟩ = some (.int .i64 ((rd_T104 y237 x9_2).f1)) := hcc62 1 _ rfl; have hx62_2 : w76.cell? ⟨go62, (x9_2 : Int).toNat * 3 + 2, none⟩ = some (.int .i64 ((rd_T104 y237 x9_2).f2)) := hcc62 2 _ rfl; have hf62_0 : w76.frozen? ⟨go62, (x9_2 : Int).toNat * 3, none⟩ = false := hfr62 0; have hf62_1 : w76.frozen? ⟨go62, (x9_2 : Int).toNat * 3 + 1, none⟩ = false := hfr62 1; have hf62_2 : w76.frozen? ⟨go62, (x9_2 : Int).toNat * 3 + 2, none⟩ = false := hfr62 2; clear hcl62 hcc62 hfr62 hM62; replace p62 := eq_true p62; replace q62 := eq_true q62; have HX78 := Aside0.mk (show Kd.R k104 104 w76 w.heap.size (fun _ => True) (.slice (some ⟨go62, 0, none⟩) y237.length co74) y237 from (zr HO239)); obtain ⟨ce78, hcl78, hM78, hcc78, hfr78⟩ := Kd.R_elem HX78.out z104 (x9_2 : Int) (of_decide_eq_true (by first | (with_reducible assumption) | assumption)) (by have h_ : (x9_2 : Int) < ((y237.length : Int) : Int) := of_decide_eq_true (by first | (with_reducible assumption) | assumption); first | exact h_ | (have e_ := (Kd.R_reads' HO239.out).1; omega) | simpa using h_); obtain rfl := k104_openM hM78; have HP78 := Kd.R_seg HX78.out (x9_2 : Int) (of_decide_eq_true (by first | (with_reducible assumption) | assumption)) (by have h_ : (x9_2 : Int) < ((y237.length : Int) : Int) := of_decide_eq_true (by first | (with_reducible assumption) | assumption); first | exact h_ | (have e_ := (Kd.R_reads' HO239.out).1; omega) | simpa using h_) (seg := [.int .i64 (x230000_2.length : Int)]) (j := 0) hcl78 hcc78 (show 1 ≤ 3 from by decide) (x' := (⟨(x230000_2.length : Int), (rd_T104 y237 x9_2).f1, (rd_T104 y237 x9_2).f2⟩ : S104)) (k104_mkM _ _ _ (⟨(x230000_2.length : Int), (rd_T104 y237 x9_2).f1, (rd_T104 y237 x9_2).f2⟩ : S104) ) (fun _ hk => hk); have hx78_0 := hcc78 0 _ rfl; (try simp only [show (k104).sz = 3 from rfl, Nat.mul_one, Nat.add_zero] at hx78_0); have hf78_0 := hfr78 0; (try simp only [show (k104).sz = 3 from rfl, Nat.mul_one, Nat.add_zero] at hf78_0); clear hcl78 hcc78 hfr78 hM78) | ((with_reducible refine gate_store (t := 3) (p := 64) rfl ?_); refine store_event (t := 3) (p := 64) (v := ?vo_w79) (w1 := (w76.setCell ⟨go62, (x9_2 : Int).toNat * 3, none⟩ (.int .i64 (x230000_2.length : Int)))) ?hg ?ho ?hn ?hr ?_; (case ho => rfl); (case hg => rfl); (case hn => rfl); (case hr => first | (go_simp; done) | (go_simp; rfl)); intro w79 hw; have hg : w76.grownBy w79 (some go62) := (by rw [hw]; exact HP78.2); have hp_ : Kd.R k104 104 w79 w.heap.size (fun _ => True) (.slice (some ⟨go62, 0, none⟩) y237.length co74) y240 := (by rw [hw, Ny240.out]; exact HP78.1); clear HP78; replace BK217 := Aside0.mk (blk_grown (g := gb217) (o := .cells #[.slice A0_0 l0_0.length c0_0] 55 (0, 0)) (zb BK217) hg (Kd.R_ne HO239.out BK217.out (by decide))); replace BK218 := Aside0.mk (blk_grown (g := gb218) (o := .cells #[.int .i64 a1_0, .int .i64 a1_1] 40 (0, 0)) (zb BK218) hg (Kd.R_ne HO239.out BK218.out (by decide))); replace BK219 := Aside0.mk (blk_grown (g := gb219) (o := .cells #[.slice none 0 0] 55 (0, 0)) (zb BK219) hg (Kd.R_ne HO239.out BK219.out (by decide))); replace BK229 := Aside0.mk (blk_grown (g := gb229) (o := .cells #[.slice (some ⟨go62, 0, none⟩) y237.length co74] 55 (0, 0)) (zb BK229) hg (Kd.R_ne HO239.out BK229.out (by decide))); replace HO239 := Aside0.mk (hp_); replace HB := Aside0.mk ((by rw [hw]; exact below_set (HB.out) GB62.out : Below w.heap.size w w79)); clear hg hw hp_))
                          go_roundg k2
                          case measure => have := HJ3.out; have := HK2.out; omega
                          case rel => exact ⟨((x230000_2.length : Int)), (wrap64 (x32_2 + 1)), (y240), (.slice (some ⟨go62, 0, none⟩) y237.length co74), (by first | rfl | (simp; done) | (simp [*]; done)), (by first | rfl | (simp; done) | (simp [*]; done)), H', ⟨by have := HJ3.out; have := HK2.out; omega⟩, ⟨by (with_reducible repeat (first | apply Kd.R_alloc | apply Kd.R_drewN | apply Kd.R_drew)); exact HO239.out⟩, ⟨by (with_reducible repeat (first | refine blk_drewN ?_ _ | refine blk_drew ?_ | refine blk_alloc ?_ _)); exact BK217.out⟩, ⟨by (with_reducible repeat (first | refine blk_drewN ?_ _ | refine blk_drew ?_ | refine blk_alloc ?_ _)); exact BK218.out⟩, ⟨by (with_reducible repeat (first | refine blk_drewN ?_ _ | refine blk_drew ?_ | refine blk_alloc ?_ _)); exact BK219.out⟩, ⟨by (with_reducible repeat (first | refine blk_drewN ?_ _ | refine blk_drew ?_ | refine blk_alloc ?_ _)); exact BK229.out⟩, ⟨zh4 HB GE217 GE218 GE219 GE229⟩⟩
                        · rw [if_neg c61] at H
                          exact absurd H (by simp)
                      · rw [if_neg c60] at H
                        have c60b0 : (t234 == 0) = false := beq_eq_false_iff_ne.mpr c60
                        have c60b1 : (t234 != 0) = true := bne_iff_ne.mpr c60
                        by_cases c80 : x9_2 < (y237.length : Int)
                        · rw [if_pos c80] at H
                          have c80b0 : decide (x9_2 < (y237.length : Int)) = true := decide_eq_true c80
                          clear c80
                          obtain ⟨y241, hy241⟩ : ∃ y_ : List (S104), y_ = (y237.set (x9_2 : Int).toNat (⟨(rd_T104 y237 x9_2).f0, (x230000_2.length : Int), (rd_T104 y237 x9_2).f2⟩ : S104)) := ⟨_, rfl⟩
                          replace H : (impl_TriePut.l0 k2 a2 (x230000_2.length : Int) a1_1 (wrap64 (x32_2 + 1)) l0_0 a1_0 a1_1 y241) = some (r1, r2) := by first | (rw [hy241]; with_reducible exact H) | (have H2_ := (Option.bind_some _ _).symm.trans H; rw [hy241]; with_reducible exact H2_) | (have H2_ := (Option.bind_some _ _).symm.trans H; with_reducible exact H2_) | with_reducible exact H | (rw [hy241]; exact H) | exact H
                          have Ny241 := Aside0.mk hy241
                          clear hy241
                          have H' := Aside0.mk H
                          clear H
                          have hnb82 := NB218_217.out
                          have hnc82 := NB217_218.out
                          have hnb83 := NB218_219.out
                          have hnc83 := NB219_218.out
                          have hnb84 := NB218_229.out
                          have hnc84 := NB229_218.out
                          have hcz85_0 : wr.cell? ⟨gb218, 0, none⟩ = some (.int .i64 a1_0) := (blk_cell BK218.out 0).trans rfl
                          have hcz85_1 : wr.cell? ⟨gb218, 1, none⟩ = some (.int .i64 a1_1) := (blk_cell BK218.out 1).trans rfl
                          have hfz85_0 := blk_frozen BK218.out 0
                          have hfz85_1 := blk_frozen BK218.out 1
                          go_wp2_with (first | ((with_reducible refine gate_callee (f := 80) rfl ?_); refine goesL_ (some 38) rfl rfl Try.func80 (by kernel_rfl) rfl #[.int .i64 a1_0, .int .i64 x32_2] rfl (by (try simp only [List.map_toArray, List.map_cons, List.map_nil]); first | done | rfl | (simp only [List.length_drop, List.length_take]; rfl)) ?_; (with_reducible refine (impl_bitOf.calls a1_0 x32_2 t234 _ A54.out).mono ?_); rintro e w' ⟨rfl, ⟨nd, rfl⟩⟩; refine ⟨_, rfl, ?_⟩; (try (rw [drewN_self wr]; generalize hq_ : World.drewN wr _ = wr; have n0_ : Aside0 (Kd.R k104 104 wr w.heap.size (fun _ => True) u230000 x230000_2) := ⟨by rw [← hq_]; exact (zr HO_230000)⟩; have n1_ : Aside0 (wr.heap[gb217]? = some (.cells #[.slice A0_0 l0_0.length c0_0] 55 (0, 0))) := ⟨by rw [← hq_]; exact (zb BK217)⟩; have n2_ : Aside0 (wr.heap[gb218]? = some (.cells #[.int .i64 a1_0, .int .i64 a1_1] 40 (0, 0))) := ⟨by rw [← hq_]; exact (zb BK218)⟩; have n3_ : Aside0 (wr.heap[gb219]? = some (.cells #[.slice none 0 0] 55 (0, 0))) := ⟨by rw [← hq_]; exact (zb BK219)⟩; have n4_ : Aside0 (wr.heap[gb229]? = some (.cells #[u230000] 55 (0, 0))) := ⟨by rw [← hq_]; exact (zb BK229)⟩; have n5_ : Aside0 (Below w.heap.size w wr) := ⟨by rw [← hq_]; exact (zh4 HB GE217 GE218 GE219 GE229)⟩; clear HO_230000 BK217 BK218 BK219 BK229 HB hq_; have HO_230000 := n0_; have BK217 := n1_; have BK218 := n2_; have BK219 := n3_; have BK229 := n4_; have HB := n5_; clear n0_ n1_ n2_ n3_ n4_ n5_)); have hnb86 := NB229_217.out; have hnc86 := NB217_229.out; have hnb87 := NB229_219.out; have hnc87 := NB219_229.out; have hcz88_0 : wr.cell? ⟨gb229, 0, none⟩ = some (u230000) := (blk_cell BK229.out 0).trans rfl; have hfz88_0 := blk_frozen BK229.out 0; obtain ⟨Ao89, co89, eo89⟩ := Kd.R_slice HO_230000.out; subst eo89; have p235 : 0 ≤ (x9_2 : Int) := of_decide_eq_true (by first | (with_reducible assumption) | assumption); have q235 : x9_2 < (x230000_2.length : Int) := of_decide_eq_true (by first | (with_reducible assumption) | assumption); obtain ⟨ad235, e235, hx235_0, hx235_1, hx235_2⟩ := at_T104 (Kd.R_reads' HO_230000.out).2.2 x9_2 p235 q235; cases e235; replace p235 := eq_true p235; replace q235 := eq_true q235) | ((with_reducible refine gate_callee (f := 79) rfl ?_); refine goesL_ (some 45) rfl rfl Try.func79 (by kernel_rfl) rfl #[.agg #[.int .i64 ((rd_T104 x230000_2 x9_2).f0), .int .i64 ((rd_T104 x230000_2 x9_2).f1), .int .i64 ((rd_T104 x230000_2 x9_2).f2)], .int .i64 t234] rfl (by (try simp only [List.map_toArray, List.map_cons, List.map_nil]); first | done | rfl | (simp only [List.length_drop, List.length_take]; rfl)) ?_; (with_reducible refine (impl_along.calls ((rd_T104 x230000_2 x9_2).f0) ((rd_T104 x230000_2 x9_2).f1) ((rd_T104 x230000_2 x9_2).f2) t234 t236 _ A57.out).mono ?_); rintro e w90 ⟨rfl, hb⟩; refine ⟨_, rfl, ?_⟩; replace HO_230000 := Aside0.mk (Kd.R_below (zr HO_230000) hb); replace BK217 := zk BK217 hb; replace BK218 := zk BK218 hb; replace BK219 := zk BK219 hb; replace BK229 := zk BK229 hb; replace HB := Aside0.mk (below_step (zh4 HB GE217 GE218 GE219 GE229) hb); (try clear hb); (try clear hb2); (try clear hk); (try clear hi); have hcz91_0 : w90.cell? ⟨gb229, 0, none⟩ = some (.slice (some ad235) x230000_2.length co89) := (blk_cell BK229.out 0).trans rfl; have hfz91_0 := blk_frozen BK229.out 0) | ((with_reducible refine gate_builtin (b := .append) (xs := #[.tmp 52, .tmp 54]) rfl ?_); at_builtin; refine Kd.R_append k104 (w0 := w) w.heap.size rfl (.tmp 52) (.tmp 54) 53 104 (.agg #[(.int .i64 0), (.int .i64 0), (.int .i64 0)]) 24 rfl Try.underlying53 info104 rfl (by decide) (by omega) (.slice (some ad235) x230000_2.length co89) x230000_2 (⟨0, 0, 0⟩ : S104) [.int .i64 0, .int .i64 0, .int .i64 0] (fun _ => True) (fun _ => False) rfl rfl ?aP (fun _ hk => hk.elim) ?aF ?aO ?aB ?aS ?aL ?_; (case aP => exact k104_mkM _ _ _ (⟨0, 0, 0⟩ : S104)); (case aB => exact (zh4 HB GE217 GE218 GE219 GE229)); (case aF => exact (fun _ _ => trivial)); (case aO => exact (zr HO_230000)); (case aS => exact (below_size (zh4 HB GE217 GE218 GE219 GE229))); (case aL => have := LMc59.out; omega); intro v238 w92 ho hb hg hat; rw [← Ny237.out] at ho; replace BK217 := Aside0.mk (blk_grown (g := gb217) (o := .cells #[.slice A0_0 l0_0.length c0_0] 55 (0, 0)) (zb BK217) hg (Kd.R_ne HO_230000.out BK217.out (by decide))); replace BK218 := Aside0.mk (blk_grown (g := gb218) (o := .cells #[.int .i64 a1_0, .int .i64 a1_1] 40 (0, 0)) (zb BK218) hg (Kd.R_ne HO_230000.out BK218.out (by decide))); replace BK219 := Aside0.mk (blk_grown (g := gb219) (o := .cells #[.slice none 0 0] 55 (0, 0)) (zb BK219) hg (Kd.R_ne HO_230000.out BK219.out (by decide))); replace BK229 := Aside0.mk (blk_grown (g := gb229) (o := .cells #[.slice (some ad235) x230000_2.length co89] 55 (0, 0)) (zb BK229) hg (Kd.R_ne HO_230000.out BK229.out (by decide))); replace HB := Aside0.mk (hb); have HO239 := Aside0.mk (ho); clear HO_230000; clear ho hb hg hat; obtain ⟨Ao93, co93, eo93⟩ := Kd.R_slice HO239.out; subst eo93; have hcz94_0 : w92.cell? ⟨gb229, 0, none⟩ = some (.slice (some ad235) x230000_2.length co89) := (blk_cell BK229.out 0).trans rfl; have hfz94_0 := blk_frozen BK229.out 0) | ((with_reducible refine gate_store (t := 53) (p := 56) rfl ?_); refine store_event (t := 53) (p := 56) (v := ?vo_w95) (w1 := (w92.setCell ⟨gb229, 0, none⟩ (.slice Ao93 y237.length co93))) ?hg ?ho ?hn ?hr ?_; (case ho => rfl); (case hg => rfl); (case hn => rfl); (case hr => first | (go_simp; done) | (go_simp; rfl)); intro w95 hw; have n0_ : Aside0 (Kd.R k104 104 w95 w.heap.size (fun _ => True) (.slice Ao93 y237.length co93) y237) := ⟨(by rw [hw]; exact (by (with_reducible repeat (first | apply Kd.R_alloc | apply Kd.R_drewN | apply Kd.R_drew)); exact Kd.R_mono (Kd.R_far (p := ⟨gb229, 0, none⟩) (Kd.R_types HO239.out BK229.out (by decide)) (fun _ hk => hk.2) (.slice Ao93 y237.length co93)) (fun _ hk => trivial)))⟩; have n1_ : Aside0 (w95.heap[gb217]? = some (.cells #[.slice A0_0 l0_0.length c0_0] 55 (0, 0))) := ⟨(by rw [hw]; exact (by (with_reducible repeat (first | refine blk_drewN ?_ _ | refine blk_drew ?_ | refine blk_alloc ?_ _)); refine blk_far ?_ NB217_229.out _; (with_reducible repeat (first | refine blk_drewN ?_ _ | refine blk_drew ?_ | refine blk_alloc ?_ _)); exact BK217.out))⟩; have n2_ : Aside0 (w95.heap[gb218]? = some (.cells #[.int .i64 a1_0, .int .i64 a1_1] 40 (0, 0))) := ⟨(by rw [hw]; exact (by (with_reducible repeat (first | refine blk_drewN ?_ _ | refine blk_drew ?_ | refine blk_alloc ?_ _)); refine blk_far ?_ NB218_229.out _; (with_reducible repeat (first | refine blk_drewN ?_ _ | refine blk_drew ?_ | refine blk_alloc ?_ _)); exact BK218.out))⟩; have n3_ : Aside0 (w95.heap[gb219]? = some (.cells #[.slice none 0 0] 55 (0, 0))) := ⟨(by rw [hw]; exact (by (with_reducible repeat (first | refine blk_drewN ?_ _ | refine blk_drew ?_ | refine blk_alloc ?_ _)); refine blk_far ?_ NB219_229.out _; (with_reducible repeat (first | refine blk_drewN ?_ _ | refine blk_drew ?_ | refine blk_alloc ?_ _)); exact BK219.out))⟩; have n4_ : Aside0 (w95.heap[gb229]? = some (.cells #[.slice Ao93 y237.length co93] 55 (0, 0))) := ⟨(by rw [hw]; exact (by (with_reducible repeat (first | refine blk_drewN ?_ _ | refine blk_drew ?_ | refine blk_alloc ?_ _)); refine blk_put (cs := #[.slice (some ad235) x230000_2.length co89]) ?_ 0 _ rfl; (with_reducible repeat (first | refine blk_drewN ?_ _ | refine blk_drew ?_ | refine blk_alloc ?_ _)); exact BK229.out))⟩; have n5_ : Aside0 (Below w.heap.size w w95) := ⟨(by rw [hw]; exact (zh4 HB GE217 GE218 GE219 GE229))⟩; clear hw; clear HO239; clear BK217; clear BK218; clear BK219; clear BK229; clear HB; have HO239 := n0_; have BK217 := n1_; have BK218 := n2_; have BK219 := n3_; have BK229 := n4_; have HB := n5_; clear n0_ n1_ n2_ n3_ n4_ n5_; have hcz96_0 : w95.cell? ⟨gb229, 0, none⟩ = some (.slice Ao93 y237.length co93) := (blk_cell BK229.out 0).trans rfl; have hfz96_0 := blk_frozen BK229.out 0; have p81 : 0 ≤ (x9_2 : Int) := of_decide_eq_true (by first | (with_reducible assumption) | assumption); have q81 : (x9_2 : Int) < ((y237.length : Int) : Int) := of_decide_eq_true (by first | (with_reducible assumption) | assumption); obtain ⟨go81, co81, eo81, gb81, gl81, cl81, HG81⟩ := Kd.R_form HO239.out (by omega); (first | cases eo81 | (injection eo81 with ea_ en_ ec_; (first | subst ea_ | (injection ea_ with ea_; subst ea_)); subst ec_; clear en_)); have GB81 := Aside0.mk gb81; have GG81 := Aside0.mk HG81; clear gb81 gl81 HG81; obtain ⟨ce81, hcl81, hM81, hcc81, hfr81⟩ := Kd.R_elem HO239.out z104 (x9_2 : Int) p81 q81; obtain rfl := k104_openM hM81; have hx81_0 : w95.cell? ⟨go81, (x9_2 : Int).toNat * 3, none⟩ = some (.int .i64 ((rd_T104 y237 x9_2).f0)) := hcc81 0 _ rfl; have hx81_1 : w95.cell? ⟨go81, (x9_2 : Int).toNat * 3 + 1, none⟩ = some (.int .i64 ((rd_T104 y237 x9_2).f1)) := hcc81 1 _ rfl; have hx81_2 : w95.cell? ⟨go81, (x9_2 : Int).toNat * 3 + 2, none⟩ = some (.int .i64 ((rd_T104 y237 x9_2).f2)) := hcc81 2 _ rfl; have hf81_0 : w95.frozen? ⟨go81, (x9_2 : Int).toNat * 3, none⟩ = false := hfr81 0; have hf81_1 : w95.frozen? ⟨go81, (x9_2 : Int).toNat * 3 + 1, none⟩ = false := hfr81 1; have hf81_2 : w95.frozen? ⟨go81, (x9_2 : Int).toNat * 3 + 2, none⟩ = false := hfr81 2; clear hcl81 hcc81 hfr81 hM81; replace p81 := eq_true p81; replace q81 := eq_true q81; have HX97 := Aside0.mk (show Kd.R k104 104 w95 w.heap.size (fun _ => True) (.slice (some ⟨go81, 0, none⟩) y237.length co93) y237 from (zr HO239)); obtain ⟨ce97, hcl97, hM97, hcc97, hfr97⟩ := Kd.R_elem HX97.out z104 (x9_2 : Int) (of_decide_eq_true (by first | (with_reducible assumption) | assumption)) (by have h_ : (x9_2 : Int) < ((y237.length : Int) : Int) := of_decide_eq_true (by first | (with_reducible assumption) | assumption); first | exact h_ | (have e_ := (Kd.R_reads' HO239.out).1; omega) | simpa using h_); obtain rfl := k104_openM hM97; have HP97 := Kd.R_seg HX97.out (x9_2 : Int) (of_decide_eq_true (by first | (with_reducible assumption) | assumption)) (by have h_ : (x9_2 : Int) < ((y237.length : Int) : Int) := of_decide_eq_true (by first | (with_reducible assumption) | assumption); first | exact h_ | (have e_ := (Kd.R_reads' HO239.out).1; omega) | simpa using h_) (seg := [.int .i64 (x230000_2.length : Int)]) (j := 1) hcl97 hcc97 (show 2 ≤ 3 from by decide) (x' := (⟨(rd_T104 y237 x9_2).f0, (x230000_2.length : Int), (rd_T104 y237 x9_2).f2⟩ : S104)) (k104_mkM _ _ _ (⟨(rd_T104 y237 x9_2).f0, (x230000_2.length : Int), (rd_T104 y237 x9_2).f2⟩ : S104) ) (fun _ hk => hk); have hx97_1 := hcc97 1 _ rfl; (try simp only [show (k104).sz = 3 from rfl, Nat.mul_one, Nat.add_zero] at hx97_1); have hf97_1 := hfr97 1; (try simp only [show (k104).sz = 3 from rfl, Nat.mul_one, Nat.add_zero] at hf97_1); clear hcl97 hcc97 hfr97 hM97) | ((with_reducible refine gate_store (t := 3) (p := 70) rfl ?_); refine store_event (t := 3) (p := 70) (v := ?vo_w98) (w1 := (w95.setCell ⟨go81, (x9_2 : Int).toNat * 3 + 1, none⟩ (.int .i64 (x230000_2.length : Int)))) ?hg ?ho ?hn ?hr ?_; (case ho => rfl); (case hg => rfl); (case hn => rfl); (case hr => first | (go_simp; done) | (go_simp; rfl)); intro w98 hw; have hg : w95.grownBy w98 (some go81) := (by rw [hw]; exact HP97.2); have hp_ : Kd.R k104 104 w98 w.heap.size (fun _ => True) (.slice (some ⟨go81, 0, none⟩) y237.length co93) y241 := (by rw [hw, Ny241.out]; exact HP97.1); clear HP97; replace BK217 := Aside0.mk (blk_grown (g := gb217) (o := .cells #[.slice A0_0 l0_0.length c0_0] 55 (0, 0)) (zb BK217) hg (Kd.R_ne HO239.out BK217.out (by decide))); replace BK218 := Aside0.mk (blk_grown (g := gb218) (o := .cells #[.int .i64 a1_0, .int .i64 a1_1] 40 (0, 0)) (zb BK218) hg (Kd.R_ne HO239.out BK218.out (by decide))); replace BK219 := Aside0.mk (blk_grown (g := gb219) (o := .cells #[.slice none 0 0] 55 (0, 0)) (zb BK219) hg (Kd.R_ne HO239.out BK219.out (by decide))); replace BK229 := Aside0.mk (blk_grown (g := gb229) (o := .cells #[.slice (some ⟨go81, 0, none⟩) y237.length co93] 55 (0, 0)) (zb BK229) hg (Kd.R_ne HO239.out BK229.out (by decide))); replace HO239 := Aside0.mk (hp_); replace HB := Aside0.mk ((by rw [hw]; exact below_set (HB.out) GB81.out : Below w.heap.size w w98)); clear hg hw hp_))
                          go_roundg k2
                          case measure => have := HJ3.out; have := HK2.out; omega
                          case rel => exact ⟨((x230000_2.length : Int)), (wrap64 (x32_2 + 1)), (y241), (.slice (some ⟨go81, 0, none⟩) y237.length co93), (by first | rfl | (simp; done) | (simp [*]; done)), (by first | rfl | (simp; done) | (simp [*]; done)), H', ⟨by have := HJ3.out; have := HK2.out; omega⟩, ⟨by (with_reducible repeat (first | apply Kd.R_alloc | apply Kd.R_drewN | apply Kd.R_drew)); exact HO239.out⟩, ⟨by (with_reducible repeat (first | refine blk_drewN ?_ _ | refine blk_drew ?_ | refine blk_alloc ?_ _)); exact BK217.out⟩, ⟨by (with_reducible repeat (first | refine blk_drewN ?_ _ | refine blk_drew ?_ | refine blk_alloc ?_ _)); exact BK218.out⟩, ⟨by (with_reducible repeat (first | refine blk_drewN ?_ _ | refine blk_drew ?_ | refine blk_alloc ?_ _)); exact BK219.out⟩, ⟨by (with_reducible repeat (first | refine blk_drewN ?_ _ | refine blk_drew ?_ | refine blk_alloc ?_ _)); exact BK229.out⟩, ⟨zh4 HB GE217 GE218 GE219 GE229⟩⟩
                        · rw [if_neg c80] at H
                          exact absurd H (by simp)
                    · rw [if_neg c59] at H
                      exact absurd H (by simp)
                  · rw [if_neg c58] at H
                    have c58b0 : (t236 == 0) = false := beq_eq_false_iff_ne.mpr c58
                    have c58b1 : (t236 != 0) = true := bne_iff_ne.mpr c58
                    have H' := Aside0.mk H
                    clear H
                    have hnb99 := NB218_217.out
                    have hnc99 := NB217_218.out
                    have hnb100 := NB218_219.out
                    have hnc100 := NB219_218.out
                    have hnb101 := NB218_229.out
                    have hnc101 := NB229_218.out
                    have hcz102_0 : wr.cell? ⟨gb218, 0, none⟩ = some (.int .i64 a1_0) := (blk_cell BK218.out 0).trans rfl
                    have hcz102_1 : wr.cell? ⟨gb218, 1, none⟩ = some (.int .i64 a1_1) := (blk_cell BK218.out 1).trans rfl
                    have hfz102_0 := blk_frozen BK218.out 0
                    have hfz102_1 := blk_frozen BK218.out 1
                    go_wp2_with (first | ((with_reducible refine gate_callee (f := 80) rfl ?_); refine goesL_ (some 38) rfl rfl Try.func80 (by kernel_rfl) rfl #[.int .i64 a1_0, .int .i64 x32_2] rfl (by (try simp only [List.map_toArray, List.map_cons, List.map_nil]); first | done | rfl | (simp only [List.length_drop, List.length_take]; rfl)) ?_; (with_reducible refine (impl_bitOf.calls a1_0 x32_2 t234 _ A54.out).mono ?_); rintro e w' ⟨rfl, ⟨nd, rfl⟩⟩; refine ⟨_, rfl, ?_⟩; have hnb103 := NB229_217.out; have hnc103 := NB217_229.out; have hnb104 := NB229_219.out; have hnc104 := NB219_229.out; have hcz105_0 : wr.cell? ⟨gb229, 0, none⟩ = some (u230000) := (blk_cell BK229.out 0).trans rfl; have hfz105_0 := blk_frozen BK229.out 0; obtain ⟨Ao106, co106, eo106⟩ := Kd.R_slice HO_230000.out; subst eo106; have p235 : 0 ≤ (x9_2 : Int) := of_decide_eq_true (by first | (with_reducible assumption) | assumption); have q235 : x9_2 < (x230000_2.length : Int) := of_decide_eq_true (by first | (with_reducible assumption) | assumption); obtain ⟨ad235, e235, hx235_0, hx235_1, hx235_2⟩ := at_T104 (Kd.R_reads' HO_230000.out).2.2 x9_2 p235 q235; cases e235; replace p235 := eq_true p235; replace q235 := eq_true q235) | ((with_reducible refine gate_callee (f := 79) rfl ?_); refine goesL_ (some 45) rfl rfl Try.func79 (by kernel_rfl) rfl #[.agg #[.int .i64 ((rd_T104 x230000_2 x9_2).f0), .int .i64 ((rd_T104 x230000_2 x9_2).f1), .int .i64 ((rd_T104 x230000_2 x9_2).f2)], .int .i64 t234] rfl (by (try simp only [List.map_toArray, List.map_cons, List.map_nil]); first | done | rfl | (simp only [List.length_drop, List.length_take]; rfl)) ?_; (with_reducible refine (impl_along.calls ((rd_T104 x230000_2 x9_2).f0) ((rd_T104 x230000_2 x9_2).f1) ((rd_T104 x230000_2 x9_2).f2) t234 t236 _ A57.out).mono ?_); rintro e w107 ⟨rfl, hb⟩; refine ⟨_, rfl, ?_⟩; replace HO_230000 := Aside0.mk (Kd.R_below (zr HO_230000) hb); replace BK217 := zk BK217 hb; replace BK218 := zk BK218 hb; replace BK219 := zk BK219 hb; replace BK229 := zk BK229 hb; replace HB := Aside0.mk (below_step (zh4 HB GE217 GE218 GE219 GE229) hb); (try clear hb); (try clear hb2); (try clear hk); (try clear hi)))
                    go_roundg k2
                    case measure => have := HJ3.out; have := HK2.out; omega
                    case rel => exact ⟨(t236), (wrap64 (x32_2 + 1)), (x230000_2), (.slice (some ad235) x230000_2.length co106), (by first | rfl | (simp; done) | (simp [*]; done)), (by first | rfl | (simp; done) | (simp [*]; done)), H', ⟨by have := HJ3.out; have := HK2.out; omega⟩, ⟨by (with_reducible repeat (first | apply Kd.R_alloc | apply Kd.R_drewN | apply Kd.R_drew)); exact HO_230000.out⟩, ⟨by (with_reducible repeat (first | refine blk_drewN ?_ _ | refine blk_drew ?_ | refine blk_alloc ?_ _)); exact BK217.out⟩, ⟨by (with_reducible repeat (first | refine blk_drewN ?_ _ | refine blk_drew ?_ | refine blk_alloc ?_ _)); exact BK218.out⟩, ⟨by (with_reducible repeat (first | refine blk_drewN ?_ _ | refine blk_drew ?_ | refine blk_alloc ?_ _)); exact BK219.out⟩, ⟨by (with_reducible repeat (first | refine blk_drewN ?_ _ | refine blk_drew ?_ | refine blk_alloc ?_ _)); exact BK229.out⟩, ⟨zh4 HB GE217 GE218 GE219 GE229⟩⟩
                · rw [if_neg c56] at H
                  exact absurd H (by simp)
              · rw [if_neg c55] at H
                exact absurd H (by simp)
            · rw [if_neg c53] at H
              have c53b0 : decide (x32_2 < a1_1) = false := decide_eq_false c53
              clear c53
              by_cases c108 : 0 ≤ x9_2
              · rw [if_pos c108] at H
                have c108b0 : decide (0 ≤ x9_2) = true := decide_eq_true c108
                clear c108
                by_cases c109 : x9_2 < (x230000_2.length : Int)
                · rw [if_pos c109] at H
                  have c109b0 : decide (x9_2 < (x230000_2.length : Int)) = true := decide_eq_true c109
                  clear c109
                  obtain ⟨y230, hy230⟩ : ∃ y_ : List (S104), y_ = (x230000_2.set (x9_2 : Int).toNat (⟨(rd_T104 x230000_2 x9_2).f0, (rd_T104 x230000_2 x9_2).f1, a2⟩ : S104)) := ⟨_, rfl⟩
                  replace H : (if (x230000_2.length : Int) > 400 then ((impl_copyTrie.f l0_0).bind fun t231 => (some (t231, false))) else (some (y230, true))) = some (r1, r2) := by first | (rw [hy230]; with_reducible exact H) | (have H2_ := (Option.bind_some _ _).symm.trans H; rw [hy230]; with_reducible exact H2_) | (have H2_ := (Option.bind_some _ _).symm.trans H; with_reducible exact H2_) | with_reducible exact H | (rw [hy230]; exact H) | exact H
                  have Ny230 := Aside0.mk hy230
                  clear hy230
                  by_cases c111 : (x230000_2.length : Int) > 400
                  · rw [if_pos c111] at H
                    have c111b0 : decide (400 < (x230000_2.length : Int)) = true := decide_eq_true c111
                    have c111b1 : decide (400 < x230000_2.length) = true := decide_eq_true (by omega)
                    clear c111
                    replace H := Option.bind_eq_some_iff.mp H
                    obtain ⟨t231, A1120, H⟩ := H
                    replace H : (some (t231, false)) = some (r1, r2) := H
                    have A112 := Aside0.mk A1120
                    clear A1120
                    simp only [Option.some.injEq, Prod.mk.injEq] at H
                    obtain ⟨rfl, rfl⟩ := H
                    have hnb113 := NB229_217.out
                    have hnc113 := NB217_229.out
                    have hnb114 := NB229_218.out
                    have hnc114 := NB218_229.out
                    have hnb115 := NB229_219.out
                    have hnc115 := NB219_229.out
                    have hcz116_0 : wr.cell? ⟨gb229, 0, none⟩ = some (u230000) := (blk_cell BK229.out 0).trans rfl
                    have hfz116_0 := blk_frozen BK229.out 0
                    have p110 : 0 ≤ (x9_2 : Int) := of_decide_eq_true (by first | (with_reducible assumption) | assumption)
                    have q110 : (x9_2 : Int) < ((x230000_2.length : Int) : Int) := of_decide_eq_true (by first | (with_reducible assumption) | assumption)
                    obtain ⟨go110, co110, eo110, gb110, gl110, cl110, HG110⟩ := Kd.R_form HO_230000.out (by omega)
                    (first | cases eo110 | (injection eo110 with ea_ en_ ec_; (first | subst ea_ | (injection ea_ with ea_; subst ea_)); subst ec_; clear en_))
                    have GB110 := Aside0.mk gb110
                    have GG110 := Aside0.mk HG110
                    clear gb110 gl110 HG110
                    obtain ⟨ce110, hcl110, hM110, hcc110, hfr110⟩ := Kd.R_elem HO_230000.out z104 (x9_2 : Int) p110 q110
                    obtain rfl := k104_openM hM110
                    have hx110_0 : wr.cell? ⟨go110, (x9_2 : Int).toNat * 3, none⟩ = some (.int .i64 ((rd_T104 x230000_2 x9_2).f0)) := hcc110 0 _ rfl
                    have hx110_1 : wr.cell? ⟨go110, (x9_2 : Int).toNat * 3 + 1, none⟩ = some (.int .i64 ((rd_T104 x230000_2 x9_2).f1)) := hcc110 1 _ rfl
                    have hx110_2 : wr.cell? ⟨go110, (x9_2 : Int).toNat * 3 + 2, none⟩ = some (.int .i64 ((rd_T104 x230000_2 x9_2).f2)) := hcc110 2 _ rfl
                    have hf110_0 : wr.frozen? ⟨go110, (x9_2 : Int).toNat * 3, none⟩ = false := hfr110 0
                    have hf110_1 : wr.frozen? ⟨go110, (x9_2 : Int).toNat * 3 + 1, none⟩ = false := hfr110 1
                    have hf110_2 : wr.frozen? ⟨go110, (x9_2 : Int).toNat * 3 + 2, none⟩ = false := hfr110 2
                    clear hcl110 hcc110 hfr110 hM110
                    replace p110 := eq_true p110
                    replace q110 := eq_true q110
                    have HX117 := Aside0.mk (show Kd.R k104 104 wr w.heap.size (fun _ => True) (.slice (some ⟨go110, 0, none⟩) x230000_2.length co110) x230000_2 from (zr HO_230000))
                    obtain ⟨ce117, hcl117, hM117, hcc117, hfr117⟩ := Kd.R_elem HX117.out z104 (x9_2 : Int) (of_decide_eq_true (by first | (with_reducible assumption) | assumption)) (by have h_ : (x9_2 : Int) < ((x230000_2.length : Int) : Int) := of_decide_eq_true (by first | (with_reducible assumption) | assumption); first | exact h_ | (have e_ := (Kd.R_reads' HO_230000.out).1; omega) | simpa using h_)
                    obtain rfl := k104_openM hM117
                    have HP117 := Kd.R_seg HX117.out (x9_2 : Int) (of_decide_eq_true (by first | (with_reducible assumption) | assumption)) (by have h_ : (x9_2 : Int) < ((x230000_2.length : Int) : Int) := of_decide_eq_true (by first | (with_reducible assumption) | assumption); first | exact h_ | (have e_ := (Kd.R_reads' HO_230000.out).1; omega) | simpa using h_) (seg := [.int .i64 a2]) (j := 2) hcl117 hcc117 (show 3 ≤ 3 from by decide) (x' := (⟨(rd_T104 x230000_2 x9_2).f0, (rd_T104 x230000_2 x9_2).f1, a2⟩ : S104)) (k104_mkM _ _ _ (⟨(rd_T104 x230000_2 x9_2).f0, (rd_T104 x230000_2 x9_2).f1, a2⟩ : S104) ) (fun _ hk => hk)
                    have hx117_2 := hcc117 2 _ rfl
                    (try simp only [show (k104).sz = 3 from rfl, Nat.mul_one, Nat.add_zero] at hx117_2)
                    have hf117_2 := hfr117 2
                    (try simp only [show (k104).sz = 3 from rfl, Nat.mul_one, Nat.add_zero] at hf117_2)
                    clear hcl117 hcc117 hfr117 hM117
                    go_wp2_with (first | ((with_reducible refine gate_store (t := 3) (p := 78) rfl ?_); refine store_event (t := 3) (p := 78) (v := ?vo_w118) (w1 := (wr.setCell ⟨go110, (x9_2 : Int).toNat * 3 + 2, none⟩ (.int .i64 a2))) ?hg ?ho ?hn ?hr ?_; (case ho => rfl); (case hg => rfl); (case hn => rfl); (case hr => first | (go_simp; done) | (go_simp; rfl)); intro w118 hw; have hg : wr.grownBy w118 (some go110) := (by rw [hw]; exact HP117.2); have hp_ : Kd.R k104 104 w118 w.heap.size (fun _ => True) (.slice (some ⟨go110, 0, none⟩) x230000_2.length co110) y230 := (by rw [hw, Ny230.out]; exact HP117.1); clear HP117; replace BK217 := Aside0.mk (blk_grown (g := gb217) (o := .cells #[.slice A0_0 l0_0.length c0_0] 55 (0, 0)) (zb BK217) hg (Kd.R_ne HO_230000.out BK217.out (by decide))); replace BK218 := Aside0.mk (blk_grown (g := gb218) (o := .cells #[.int .i64 a1_0, .int .i64 a1_1] 40 (0, 0)) (zb BK218) hg (Kd.R_ne HO_230000.out BK218.out (by decide))); replace BK219 := Aside0.mk (blk_grown (g := gb219) (o := .cells #[.slice none 0 0] 55 (0, 0)) (zb BK219) hg (Kd.R_ne HO_230000.out BK219.out (by decide))); replace BK229 := Aside0.mk (blk_grown (g := gb229) (o := .cells #[.slice (some ⟨go110, 0, none⟩) x230000_2.length co110] 55 (0, 0)) (zb BK229) hg (Kd.R_ne HO_230000.out BK229.out (by decide))); replace HO_230000 := Aside0.mk (hp_); replace HB := Aside0.mk ((by rw [hw]; exact below_set (HB.out) GB110.out : Below w.heap.size w w118)); clear hg hw hp_; have hcz119_0 : w118.cell? ⟨gb229, 0, none⟩ = some (.slice (some ⟨go110, 0, none⟩) x230000_2.length co110) := (blk_cell BK229.out 0).trans rfl; have hfz119_0 := blk_frozen BK229.out 0; have hnb120 := NB217_218.out; have hnc120 := NB218_217.out; have hnb121 := NB217_219.out; have hnc121 := NB219_217.out; have hcz122_0 : w118.cell? ⟨gb217, 0, none⟩ = some (.slice A0_0 l0_0.length c0_0) := (blk_cell BK217.out 0).trans rfl; have hfz122_0 := blk_frozen BK217.out 0) | ((with_reducible refine gate_callee (f := 94) rfl ?_); refine goesL_ (some 84) rfl rfl Try.func94 (by kernel_rfl) rfl #[.agg #[.slice A0_0 l0_0.length c0_0]] rfl (by (try simp only [List.map_toArray, List.map_cons, List.map_nil]); first | done | rfl | (simp only [List.length_drop, List.length_take]; rfl)) ?_; (with_reducible refine (impl_copyTrie.calls _ _ l0_0 t231 _ ?side1 ?side2 A112.out).mono ?_); (case side1 => repeat (first | exact (Kd.C_below HR0_0.out HB.out) | (with_reducible refine Kd.C_alloc ?_ _) | (with_reducible refine Kd.C_drewN ?_ _) | (with_reducible refine Kd.C_drew ?_))); (case side2 => exact HC0_0.out); rintro e w123 ⟨v232, rfl, ho0, hb⟩; refine ⟨_, rfl, ?_⟩; have HO233 := Aside0.mk (Kd.R_lower (Kd.R_new' ho0 (Kd.R_lt (zr HO_230000))) (below_size (zh4 HB GE217 GE218 GE219 GE229))); replace HO_230000 := Aside0.mk (Kd.R_elder' (zr HO_230000) (Kd.R_base ho0) hb); replace BK217 := zk BK217 hb; replace BK218 := zk BK218 hb; replace BK219 := zk BK219 hb; replace BK229 := zk BK229 hb; replace HB := Aside0.mk (below_step (zh4 HB GE217 GE218 GE219 GE229) hb); (try clear hb); (try clear hb2); (try clear hk); (try clear hi); (try clear ho0); obtain ⟨Ao124, co124, eo124⟩ := Kd.R_slice HO233.out; subst eo124; have hnb125 := NB219_218.out; have hnc125 := NB218_219.out; have hcz126_0 : w123.cell? ⟨gb219, 0, none⟩ = some (.slice none 0 0) := (blk_cell BK219.out 0).trans rfl; have hfz126_0 := blk_frozen BK219.out 0))
                    refine bodyPost_ret (results_ct rfl _ _ gb219 55 #[.slice Ao124 t231.length co124] (0, 0) _ rfl (by (with_reducible repeat (first | refine blk_drewN ?_ _ | refine blk_drew ?_ | refine blk_alloc ?_ _)); refine blk_put (cs := #[.slice none 0 0]) ?_ 0 _ rfl; (with_reducible repeat (first | refine blk_drewN ?_ _ | refine blk_drew ?_ | refine blk_alloc ?_ _)); exact BK219.out) Try.underlying55 rfl (by kernel_rfl)) rfl ?_
                    exact ⟨_, by first | rfl | (simp [errW_none, errW_some] <;> rfl) | (simp [*, errW_none, errW_some] <;> rfl), by (with_reducible repeat (first | apply Kd.R_alloc | apply Kd.R_drewN | apply Kd.R_drew)); exact Kd.R_mono (Kd.R_far (p := ⟨gb219, 0, none⟩) (Kd.R_types HO233.out BK219.out (by decide)) (fun _ hk => hk.2) (.slice Ao124 t231.length co124)) (fun _ hk => trivial), zh4 HB GE217 GE218 GE219 GE229⟩
                  · rw [if_neg c111] at H
                    have c111b0 : decide (400 < (x230000_2.length : Int)) = false := decide_eq_false c111
                    have c111b1 : decide (400 < x230000_2.length) = false := decide_eq_false (by omega)
                    clear c111
                    simp only [Option.some.injEq, Prod.mk.injEq] at H
                    obtain ⟨rfl, rfl⟩ := H
                    have hnb127 := NB229_217.out
                    have hnc127 := NB217_229.out
                    have hnb128 := NB229_218.out
                    have hnc128 := NB218_229.out
                    have hnb129 := NB229_219.out
                    have hnc129 := NB219_229.out
                    have hcz130_0 : wr.cell? ⟨gb229, 0, none⟩ = some (u230000) := (blk_cell BK229.out 0).trans rfl
                    have hfz130_0 := blk_frozen BK229.out 0
                    have p110 : 0 ≤ (x9_2 : Int) := of_decide_eq_true (by first | (with_reducible assumption) | assumption)
                    have q110 : (x9_2 : Int) < ((x230000_2.length : Int) : Int) := of_decide_eq_true (by first | (with_reducible assumption) | assumption)
                    obtain ⟨go110, co110, eo110, gb110, gl110, cl110, HG110⟩ := Kd.R_form HO_230000.out (by omega)
                    (first | cases eo110 | (injection eo110 with ea_ en_ ec_; (first | subst ea_ | (injection ea_ with ea_; subst ea_)); subst ec_; clear en_))
                    have GB110 := Aside0.mk gb110
                    have GG110 := Aside0.mk HG110
                    clear gb110 gl110 HG110
                    obtain ⟨ce110, hcl110, hM110, hcc110, hfr110⟩ := Kd.R_elem HO_230000.out z104 (x9_2 : Int) p110 q110
                    obtain rfl := k104_openM hM110
                    have hx110_0 : wr.cell? ⟨go110, (x9_2 : Int).toNat * 3, none⟩ = some (.int .i64 ((rd_T104 x230000_2 x9_2).f0)) := hcc110 0 _ rfl
                    have hx110_1 : wr.cell? ⟨go110, (x9_2 : Int).toNat * 3 + 1, none⟩ = some (.int .i64 ((rd_T104 x230000_2 x9_2).f1)) := hcc110 1 _ rfl
                    have hx110_2 : wr.cell? ⟨go110, (x9_2 : Int).toNat * 3 + 2, none⟩ = some (.int .i64 ((rd_T104 x230000_2 x9_2).f2)) := hcc110 2 _ rfl
                    have hf110_0 : wr.frozen? ⟨go110, (x9_2 : Int).toNat * 3, none⟩ = false := hfr110 0
                    have hf110_1 : wr.frozen? ⟨go110, (x9_2 : Int).toNat * 3 + 1, none⟩ = false := hfr110 1
                    have hf110_2 : wr.frozen? ⟨go110, (x9_2 : Int).toNat * 3 + 2, none⟩ = false := hfr110 2
                    clear hcl110 hcc110 hfr110 hM110
                    replace p110 := eq_true p110
                    replace q110 := eq_true q110
                    have HX131 := Aside0.mk (show Kd.R k104 104 wr w.heap.size (fun _ => True) (.slice (some ⟨go110, 0, none⟩) x230000_2.length co110) x230000_2 from (zr HO_230000))
                    obtain ⟨ce131, hcl131, hM131, hcc131, hfr131⟩ := Kd.R_elem HX131.out z104 (x9_2 : Int) (of_decide_eq_true (by first | (with_reducible assumption) | assumption)) (by have h_ : (x9_2 : Int) < ((x230000_2.length : Int) : Int) := of_decide_eq_true (by first | (with_reducible assumption) | assumption); first | exact h_ | (have e_ := (Kd.R_reads' HO_230000.out).1; omega) | simpa using h_)
                    obtain rfl := k104_openM hM131
                    have HP131 := Kd.R_seg HX131.out (x9_2 : Int) (of_decide_eq_true (by first | (with_reducible assumption) | assumption)) (by have h_ : (x9_2 : Int) < ((x230000_2.length : Int) : Int) := of_decide_eq_true (by first | (with_reducible assumption) | assumption); first | exact h_ | (have e_ := (Kd.R_reads' HO_230000.out).1; omega) | simpa using h_) (seg := [.int .i64 a2]) (j := 2) hcl131 hcc131 (show 3 ≤ 3 from by decide) (x' := (⟨(rd_T104 x230000_2 x9_2).f0, (rd_T104 x230000_2 x9_2).f1, a2⟩ : S104)) (k104_mkM _ _ _ (⟨(rd_T104 x230000_2 x9_2).f0, (rd_T104 x230000_2 x9_2).f1, a2⟩ : S104) ) (fun _ hk => hk)
                    have hx131_2 := hcc131 2 _ rfl
                    (try simp only [show (k104).sz = 3 from rfl, Nat.mul_one, Nat.add_zero] at hx131_2)
                    have hf131_2 := hfr131 2
                    (try simp only [show (k104).sz = 3 from rfl, Nat.mul_one, Nat.add_zero] at hf131_2)
                    clear hcl131 hcc131 hfr131 hM131
                    go_wp2_with (first | ((with_reducible refine gate_store (t := 3) (p := 78) rfl ?_); refine store_event (t := 3) (p := 78) (v := ?vo_w132) (w1 := (wr.setCell ⟨go110, (x9_2 : Int).toNat * 3 + 2, none⟩ (.int .i64 a2))) ?hg ?ho ?hn ?hr ?_; (case ho => rfl); (case hg => rfl); (case hn => rfl); (case hr => first | (go_simp; done) | (go_simp; rfl)); intro w132 hw; have hg : wr.grownBy w132 (some go110) := (by rw [hw]; exact HP131.2); have hp_ : Kd.R k104 104 w132 w.heap.size (fun _ => True) (.slice (some ⟨go110, 0, none⟩) x230000_2.length co110) y230 := (by rw [hw, Ny230.out]; exact HP131.1); clear HP131; replace BK217 := Aside0.mk (blk_grown (g := gb217) (o := .cells #[.slice A0_0 l0_0.length c0_0] 55 (0, 0)) (zb BK217) hg (Kd.R_ne HO_230000.out BK217.out (by decide))); replace BK218 := Aside0.mk (blk_grown (g := gb218) (o := .cells #[.int .i64 a1_0, .int .i64 a1_1] 40 (0, 0)) (zb BK218) hg (Kd.R_ne HO_230000.out BK218.out (by decide))); replace BK219 := Aside0.mk (blk_grown (g := gb219) (o := .cells #[.slice none 0 0] 55 (0, 0)) (zb BK219) hg (Kd.R_ne HO_230000.out BK219.out (by decide))); replace BK229 := Aside0.mk (blk_grown (g := gb229) (o := .cells #[.slice (some ⟨go110, 0, none⟩) x230000_2.length co110] 55 (0, 0)) (zb BK229) hg (Kd.R_ne HO_230000.out BK229.out (by decide))); replace HO_230000 := Aside0.mk (hp_); replace HB := Aside0.mk ((by rw [hw]; exact below_set (HB.out) GB110.out : Below w.heap.size w w132)); clear hg hw hp_; have hcz133_0 : w132.cell? ⟨gb229, 0, none⟩ = some (.slice (some ⟨go110, 0, none⟩) x230000_2.length co110) := (blk_cell BK229.out 0).trans rfl; have hfz133_0 := blk_frozen BK229.out 0; have hnb134 := NB219_217.out; have hnc134 := NB217_219.out; have hnb135 := NB219_218.out; have hnc135 := NB218_219.out; have hcz136_0 : w132.cell? ⟨gb219, 0, none⟩ = some (.slice none 0 0) := (blk_cell BK219.out 0).trans rfl; have hfz136_0 := blk_frozen BK219.out 0))
                    refine bodyPost_ret (results_ct rfl _ _ gb219 55 #[.slice (some ⟨go110, 0, none⟩) x230000_2.length co110] (0, 0) _ rfl (by (with_reducible repeat (first | refine blk_drewN ?_ _ | refine blk_drew ?_ | refine blk_alloc ?_ _)); refine blk_put (cs := #[.slice none 0 0]) ?_ 0 _ rfl; (with_reducible repeat (first | refine blk_drewN ?_ _ | refine blk_drew ?_ | refine blk_alloc ?_ _)); exact BK219.out) Try.underlying55 rfl (by kernel_rfl)) rfl ?_
                    exact ⟨_, by first | rfl | (simp [errW_none, errW_some] <;> rfl) | (simp [*, errW_none, errW_some] <;> rfl), by (with_reducible repeat (first | apply Kd.R_alloc | apply Kd.R_drewN | apply Kd.R_drew)); exact Kd.R_mono (Kd.R_far (p := ⟨gb219, 0, none⟩) (Kd.R_types HO_230000.out BK219.out (by decide)) (fun _ hk => hk.2) (.slice (some ⟨go110, 0, none⟩) x230000_2.length co110)) (fun _ hk => trivial), zh4 HB GE217 GE218 GE219 GE229⟩
                · rw [if_neg c109] at H
                  exact absurd H (by simp)
              · rw [if_neg c108] at H
                exact absurd H (by simp)

/-! ### laws_markTwigS: function 95 -/
def laws_markTwigS.l0 : Nat → List (S104) → Int → Int → Option (Int × (List (S104)))
  | 0, _, _, _ => none
  | k + 1, x0, x1, x5 => if x5 < (x0.length : Int) then (if 0 ≤ x5 then ((some (x0.set (x5 : Int).toNat (⟨x1, (rd_T104 x0 x5).f1, (rd_T104 x0 x5).f2⟩ : S104) : List (S104))).bind fun y242 => ((some (y242.set (x5 : Int).toNat (⟨(rd_T104 y242 x5).f0, wrap64 (x1 + 1), (rd_T104 y242 x5).f2⟩ : S104) : List (S104))).bind fun y243 => (laws_markTwigS.l0 k (y243.set (x5 : Int).toNat (⟨(rd_T104 y243 x5).f0, (rd_T104 y243 x5).f1, wrap64 ((wrap64 (x1 + 1)) + 1)⟩ : S104)) (wrap64 ((wrap64 ((wrap64 (x1 + 1)) + 1)) + 1)) (wrap64 (x5 + 1))))) else (none)) else (some (x1, x0))
def laws_markTwigS.f (k : Nat) (l0 : List (S104)) (a1 : Int) : Option (Int × (List (S104))) := laws_markTwigS.l0 k l0 a1 0
theorem laws_markTwigS.mono_l : ∀ k, (∀ y0 y1 y2, LeO (laws_markTwigS.l0 k y0 y1 y2) (laws_markTwigS.l0 (k + 1) y0 y1 y2))
  | 0 => fun _ _ _ r h => by simp [laws_markTwigS.l0] at h
  | k + 1 => by
    have ih0 := laws_markTwigS.mono_l k
    · intro y0 y1 y2
      unfold laws_markTwigS.l0
      repeat' first
      | (with_reducible exact ih0 _ _ _)
      | (with_reducible exact LeO.refl _)
      | (with_reducible exact LeO.none _)
      | (with_reducible refine LeO.ite ?_ ?_)
      | (with_reducible refine LeO.bind ?_ (fun _ => ?_))
      | exact ih0 _ _ _
      | exact LeO.none _
      | refine LeO.ite ?_ ?_
      | refine LeO.bind ?_ (fun _ => ?_)
theorem laws_markTwigS.mono : ∀ a0 a1 k, LeO (laws_markTwigS.f k a0 a1) (laws_markTwigS.f (k + 1) a0 a1) := by
  intro a0 a1 k
  have ih0 := laws_markTwigS.mono_l k
  unfold laws_markTwigS.f
  repeat' first
      | (with_reducible exact ih0 _ _ _)
      | (with_reducible exact LeO.refl _)
      | (with_reducible exact LeO.none _)
      | (with_reducible refine LeO.ite ?_ ?_)
      | (with_reducible refine LeO.bind ?_ (fun _ => ?_))
      | exact ih0 _ _ _
      | exact LeO.none _
      | refine LeO.ite ?_ ?_
      | refine LeO.bind ?_ (fun _ => ?_)
set_option maxHeartbeats 8000000 in
set_option maxRecDepth 100000 in
theorem laws_markTwigS.calls (k : Nat) (P0_ : Nat → Prop) (u9000_ : Value) (l0 : List (S104)) (a1 : Int) (r1 : Int) (r2 : List (S104)) (w0 w : World) (hB : Below w0.heap.size w0 w) (ho0 : Kd.R k104 104 w w0.heap.size P0_ u9000_ l0) (h : laws_markTwigS.f k l0 a1 = some (r1, r2)) :
    Calls Try.prog 95 #[u9000_, .int .i64 a1] w fun e w' => e = .returned (.int .i64 r1) ∧ Kd.R k104 104 w' w0.heap.size (fun k_ => (P0_ k_ ∨ w.heap.size ≤ k_)) u9000_ r2 ∧ Below w0.heap.size w0 w' ∧ Kept w w' (fun k_ => P0_ k_) := by
  have HO0 := Aside0.mk (show Kd.R k104 104 w w0.heap.size (fun k_ => (P0_ k_ ∨ w.heap.size ≤ k_)) u9000_ l0 from Kd.R_mono ho0 (fun k_ hk => (.inl hk)))
  have HK := Aside0.mk (Kept.refl w (fun k_ => P0_ k_))
  have HW0 := Aside0.mk hB.size
  have HB := Aside0.mk hB
  clear hB
  have H : (laws_markTwigS.l0 k l0 a1 0) = some (r1, r2) := h
  clear h
  have H' := Aside0.mk H
  clear H
  go_enter Try.func95, Try.ntmps95
  go_wp2
  go_loopg [1, 5] k (fun kq v1 v5 w' => ∃ (x0_1 : List (S104)) (x1_1 : Int) (x5_1 : Int), v1 = .int .i64 x1_1 ∧ v5 = .int .i64 x5_1 ∧ Aside0 (laws_markTwigS.l0 kq x0_1 x1_1 x5_1 = some (r1, r2)) ∧ Aside0 (kq ≤ k) ∧ Aside0 (Kd.R k104 104 w' w0.heap.size (fun k_ => (P0_ k_ ∨ w.heap.size ≤ k_)) u9000_ x0_1) ∧ Aside0 (Kept w w' (fun k_ => P0_ k_)) ∧ Aside0 (Below w0.heap.size w0 w'))
  case atStart => exact ⟨(l0), (a1), (0), (by first | rfl | (simp; done) | (simp [*]; done)), (by first | rfl | (simp; done) | (simp [*]; done)), H', ⟨Nat.le_refl _⟩, ⟨by (with_reducible repeat (first | apply Kd.R_alloc | apply Kd.R_drewN | apply Kd.R_drew)); exact HO0.out⟩, ⟨by repeat (first | (with_reducible first | exact HK.out | apply Kept.alloc | apply Kept.drewN | apply Kept.drew) | exact HK.out)⟩, ⟨zh HB⟩⟩
  case round =>
    clear H'
    try clear p2
    obtain ⟨x0_1, x1_1, x5_1, rfl, rfl, HA, HK1, HO_0, HK, HB⟩ := hrel
    cases gk with
    | zero => exact absurd HA.out (by simp [laws_markTwigS.l0])
    | succ k1 =>
      have H := HA.out
      clear HA
      simp only [laws_markTwigS.l0] at H
      by_cases c3 : x5_1 < (x0_1.length : Int)
      · rw [if_pos c3] at H
        have c3b0 : decide (x5_1 < (x0_1.length : Int)) = true := decide_eq_true c3
        clear c3
        by_cases c4 : 0 ≤ x5_1
        · rw [if_pos c4] at H
          have c4b0 : decide (0 ≤ x5_1) = true := decide_eq_true c4
          clear c4
          obtain ⟨y242, hy242⟩ : ∃ y_ : List (S104), y_ = (x0_1.set (x5_1 : Int).toNat (⟨x1_1, (rd_T104 x0_1 x5_1).f1, (rd_T104 x0_1 x5_1).f2⟩ : S104)) := ⟨_, rfl⟩
          replace H : ((some (y242.set (x5_1 : Int).toNat (⟨(rd_T104 y242 x5_1).f0, wrap64 (x1_1 + 1), (rd_T104 y242 x5_1).f2⟩ : S104) : List (S104))).bind fun y243 => (laws_markTwigS.l0 k1 (y243.set (x5_1 : Int).toNat (⟨(rd_T104 y243 x5_1).f0, (rd_T104 y243 x5_1).f1, wrap64 ((wrap64 (x1_1 + 1)) + 1)⟩ : S104)) (wrap64 ((wrap64 ((wrap64 (x1_1 + 1)) + 1)) + 1)) (wrap64 (x5_1 + 1)))) = some (r1, r2) := by first | (rw [hy242]; with_reducible exact H) | (have H2_ := (Option.bind_some _ _).symm.trans H; rw [hy242]; with_reducible exact H2_) | (have H2_ := (Option.bind_some _ _).symm.trans H; with_reducible exact H2_) | with_reducible exact H | (rw [hy242]; exact H) | exact H
          have Ny242 := Aside0.mk hy242
          clear hy242
          obtain ⟨y243, hy243⟩ : ∃ y_ : List (S104), y_ = (y242.set (x5_1 : Int).toNat (⟨(rd_T104 y242 x5_1).f0, wrap64 (x1_1 + 1), (rd_T104 y242 x5_1).f2⟩ : S104)) := ⟨_, rfl⟩
          replace H : (laws_markTwigS.l0 k1 (y243.set (x5_1 : Int).toNat (⟨(rd_T104 y243 x5_1).f0, (rd_T104 y243 x5_1).f1, wrap64 ((wrap64 (x1_1 + 1)) + 1)⟩ : S104)) (wrap64 ((wrap64 ((wrap64 (x1_1 + 1)) + 1)) + 1)) (wrap64 (x5_1 + 1))) = some (r1, r2) := by first | (rw [hy243]; with_reducible exact H) | (have H2_ := (Option.bind_some _ _).symm.trans H; rw [hy243]; with_reducible exact H2_) | (have H2_ := (Option.bind_some _ _).symm.trans H; with_reducible exact H2_) | with_reducible exact H | (rw [hy243]; exact H) | exact H
          have Ny243 := Aside0.mk hy243
          clear hy243
          obtain ⟨y244, hy244⟩ : ∃ y_ : List (S104), y_ = (y243.set (x5_1 : Int).toNat (⟨(rd_T104 y243 x5_1).f0, (rd_T104 y243 x5_1).f1, wrap64 ((wrap64 (x1_1 + 1)) + 1)⟩ : S104)) := ⟨_, rfl⟩
          replace H : (laws_markTwigS.l0 k1 y244 (wrap64 ((wrap64 ((wrap64 (x1_1 + 1)) + 1)) + 1)) (wrap64 (x5_1 + 1))) = some (r1, r2) := by first | (rw [hy244]; with_reducible exact H) | (have H2_ := (Option.bind_some _ _).symm.trans H; rw [hy244]; with_reducible exact H2_) | (have H2_ := (Option.bind_some _ _).symm.trans H; with_reducible exact H2_) | with_reducible exact H | (rw [hy244]; exact H) | exact H
          have Ny244 := Aside0.mk hy244
          clear hy244
          have H' := Aside0.mk H
          clear H
          obtain ⟨Ao8, co8, eo8⟩ := Kd.R_slice HO_0.out
          subst eo8
          have p5 : 0 ≤ (x5_1 : Int) := of_decide_eq_true (by first | (with_reducible assumption) | assumption)
          have q5 : (x5_1 : Int) < ((x0_1.length : Int) : Int) := of_decide_eq_true (by first | (with_reducible assumption) | assumption)
          obtain ⟨go5, co5, eo5, gb5, gl5, cl5, HG5⟩ := Kd.R_form HO_0.out (by omega)
          (first | cases eo5 | (injection eo5 with ea_ en_ ec_; (first | subst ea_ | (injection ea_ with ea_; subst ea_)); subst ec_; clear en_))
          have GB5 := Aside0.mk gb5
          have GG5 := Aside0.mk HG5
          clear gb5 gl5 HG5
          have HMgo5 := Aside0.mk (show (P0_ go5 ∨ w.heap.size ≤ go5) from (HO_0.out.1 _ rfl))
          obtain ⟨ce5, hcl5, hM5, hcc5, hfr5⟩ := Kd.R_elem HO_0.out z104 (x5_1 : Int) p5 q5
          obtain rfl := k104_openM hM5
          have hx5_0 : wr.cell? ⟨go5, (x5_1 : Int).toNat * 3, none⟩ = some (.int .i64 ((rd_T104 x0_1 x5_1).f0)) := hcc5 0 _ rfl
          have hx5_1 : wr.cell? ⟨go5, (x5_1 : Int).toNat * 3 + 1, none⟩ = some (.int .i64 ((rd_T104 x0_1 x5_1).f1)) := hcc5 1 _ rfl
          have hx5_2 : wr.cell? ⟨go5, (x5_1 : Int).toNat * 3 + 2, none⟩ = some (.int .i64 ((rd_T104 x0_1 x5_1).f2)) := hcc5 2 _ rfl
          have hf5_0 : wr.frozen? ⟨go5, (x5_1 : Int).toNat * 3, none⟩ = false := hfr5 0
          have hf5_1 : wr.frozen? ⟨go5, (x5_1 : Int).toNat * 3 + 1, none⟩ = false := hfr5 1
          have hf5_2 : wr.frozen? ⟨go5, (x5_1 : Int).toNat * 3 + 2, none⟩ = false := hfr5 2
          clear hcl5 hcc5 hfr5 hM5
          replace p5 := eq_true p5
          replace q5 := eq_true q5
          have HX9 := Aside0.mk (show Kd.R k104 104 wr w0.heap.size (fun k_ => (P0_ k_ ∨ w.heap.size ≤ k_)) (.slice (some ⟨go5, 0, none⟩) x0_1.length co8) x0_1 from (zr HO_0))
          obtain ⟨ce9, hcl9, hM9, hcc9, hfr9⟩ := Kd.R_elem HX9.out z104 (x5_1 : Int) (of_decide_eq_true (by first | (with_reducible assumption) | assumption)) (by have h_ : (x5_1 : Int) < ((x0_1.length : Int) : Int) := of_decide_eq_true (by first | (with_reducible assumption) | assumption); first | exact h_ | (have e_ := (Kd.R_reads' HO_0.out).1; omega) | simpa using h_)
          obtain rfl := k104_openM hM9
          have HP9 := Kd.R_seg HX9.out (x5_1 : Int) (of_decide_eq_true (by first | (with_reducible assumption) | assumption)) (by have h_ : (x5_1 : Int) < ((x0_1.length : Int) : Int) := of_decide_eq_true (by first | (with_reducible assumption) | assumption); first | exact h_ | (have e_ := (Kd.R_reads' HO_0.out).1; omega) | simpa using h_) (seg := [.int .i64 x1_1]) (j := 0) hcl9 hcc9 (show 1 ≤ 3 from by decide) (x' := (⟨x1_1, (rd_T104 x0_1 x5_1).f1, (rd_T104 x0_1 x5_1).f2⟩ : S104)) (k104_mkM _ _ _ (⟨x1_1, (rd_T104 x0_1 x5_1).f1, (rd_T104 x0_1 x5_1).f2⟩ : S104) ) (fun _ hk => hk)
          have hx9_0 := hcc9 0 _ rfl
          (try simp only [show (k104).sz = 3 from rfl, Nat.mul_one, Nat.add_zero] at hx9_0)
          have hf9_0 := hfr9 0
          (try simp only [show (k104).sz = 3 from rfl, Nat.mul_one, Nat.add_zero] at hf9_0)
          clear hcl9 hcc9 hfr9 hM9
          go_wp2_with (first | ((with_reducible refine gate_store (t := 3) (p := 16) rfl ?_); refine store_event (t := 3) (p := 16) (v := ?vo_w10) (w1 := (wr.setCell ⟨go5, (x5_1 : Int).toNat * 3, none⟩ (.int .i64 x1_1))) ?hg ?ho ?hn ?hr ?_; (case ho => rfl); (case hg => rfl); (case hn => rfl); (case hr => first | (go_simp; done) | (go_simp; rfl)); intro w10 hw; have hg : wr.grownBy w10 (some go5) := (by rw [hw]; exact HP9.2); have hp_ : Kd.R k104 104 w10 w0.heap.size (fun k_ => (P0_ k_ ∨ w.heap.size ≤ k_)) (.slice (some ⟨go5, 0, none⟩) x0_1.length co8) y242 := (by rw [hw, Ny242.out]; exact HP9.1); clear HP9; replace HB := Aside0.mk ((by rw [hw]; exact below_set (HB.out) GB5.out : Below w0.heap.size w0 w10)); replace HK := Aside0.mk (Kept.of_grown (S := (fun k_ => P0_ k_)) hg (by repeat (first | (with_reducible first | exact HK.out | apply Kept.alloc | apply Kept.drewN | apply Kept.drew) | exact HK.out)) (fun k_ e_ => (HO_0.out.1 k_ e_))); replace HO_0 := Aside0.mk (hp_); clear hg hw hp_; have p6 : 0 ≤ (x5_1 : Int) := of_decide_eq_true (by first | (with_reducible assumption) | assumption); have q6 : (x5_1 : Int) < ((x0_1.length : Int) : Int) := of_decide_eq_true (by first | (with_reducible assumption) | assumption); obtain ⟨ce6, hcl6, hM6, hcc6, hfr6⟩ := Kd.R_elem HO_0.out z104 (x5_1 : Int) p6 q6; obtain rfl := k104_openM hM6; have hx6_0 : w10.cell? ⟨go5, (x5_1 : Int).toNat * 3, none⟩ = some (.int .i64 ((rd_T104 y242 x5_1).f0)) := hcc6 0 _ rfl; have hx6_1 : w10.cell? ⟨go5, (x5_1 : Int).toNat * 3 + 1, none⟩ = some (.int .i64 ((rd_T104 y242 x5_1).f1)) := hcc6 1 _ rfl; have hx6_2 : w10.cell? ⟨go5, (x5_1 : Int).toNat * 3 + 2, none⟩ = some (.int .i64 ((rd_T104 y242 x5_1).f2)) := hcc6 2 _ rfl; have hf6_0 : w10.frozen? ⟨go5, (x5_1 : Int).toNat * 3, none⟩ = false := hfr6 0; have hf6_1 : w10.frozen? ⟨go5, (x5_1 : Int).toNat * 3 + 1, none⟩ = false := hfr6 1; have hf6_2 : w10.frozen? ⟨go5, (x5_1 : Int).toNat * 3 + 2, none⟩ = false := hfr6 2; clear hcl6 hcc6 hfr6 hM6; replace p6 := eq_true p6; replace q6 := eq_true q6; have HX11 := Aside0.mk (show Kd.R k104 104 w10 w0.heap.size (fun k_ => (P0_ k_ ∨ w.heap.size ≤ k_)) (.slice (some ⟨go5, 0, none⟩) x0_1.length co8) y242 from (zr HO_0)); obtain ⟨ce11, hcl11, hM11, hcc11, hfr11⟩ := Kd.R_elem HX11.out z104 (x5_1 : Int) (of_decide_eq_true (by first | (with_reducible assumption) | assumption)) (by have h_ : (x5_1 : Int) < ((x0_1.length : Int) : Int) := of_decide_eq_true (by first | (with_reducible assumption) | assumption); first | exact h_ | (have e_ := (Kd.R_reads' HO_0.out).1; omega) | simpa using h_); obtain rfl := k104_openM hM11; have HP11 := Kd.R_seg HX11.out (x5_1 : Int) (of_decide_eq_true (by first | (with_reducible assumption) | assumption)) (by have h_ : (x5_1 : Int) < ((x0_1.length : Int) : Int) := of_decide_eq_true (by first | (with_reducible assumption) | assumption); first | exact h_ | (have e_ := (Kd.R_reads' HO_0.out).1; omega) | simpa using h_) (seg := [.int .i64 (wrap64 (x1_1 + 1))]) (j := 1) hcl11 hcc11 (show 2 ≤ 3 from by decide) (x' := (⟨(rd_T104 y242 x5_1).f0, wrap64 (x1_1 + 1), (rd_T104 y242 x5_1).f2⟩ : S104)) (k104_mkM _ _ _ (⟨(rd_T104 y242 x5_1).f0, wrap64 (x1_1 + 1), (rd_T104 y242 x5_1).f2⟩ : S104) ) (fun _ hk => hk); have hx11_1 := hcc11 1 _ rfl; (try simp only [show (k104).sz = 3 from rfl, Nat.mul_one, Nat.add_zero] at hx11_1); have hf11_1 := hfr11 1; (try simp only [show (k104).sz = 3 from rfl, Nat.mul_one, Nat.add_zero] at hf11_1); clear hcl11 hcc11 hfr11 hM11) | ((with_reducible refine gate_store (t := 3) (p := 23) rfl ?_); refine store_event (t := 3) (p := 23) (v := ?vo_w12) (w1 := (w10.setCell ⟨go5, (x5_1 : Int).toNat * 3 + 1, none⟩ (.int .i64 (wrap64 (x1_1 + 1))))) ?hg ?ho ?hn ?hr ?_; (case ho => rfl); (case hg => rfl); (case hn => rfl); (case hr => first | (go_simp; done) | (go_simp; rfl)); intro w12 hw; have hg : w10.grownBy w12 (some go5) := (by rw [hw]; exact HP11.2); have hp_ : Kd.R k104 104 w12 w0.heap.size (fun k_ => (P0_ k_ ∨ w.heap.size ≤ k_)) (.slice (some ⟨go5, 0, none⟩) x0_1.length co8) y243 := (by rw [hw, Ny243.out]; exact HP11.1); clear HP11; replace HB := Aside0.mk ((by rw [hw]; exact below_set (HB.out) GB5.out : Below w0.heap.size w0 w12)); replace HK := Aside0.mk (Kept.of_grown (S := (fun k_ => P0_ k_)) hg (by repeat (first | (with_reducible first | exact HK.out | apply Kept.alloc | apply Kept.drewN | apply Kept.drew) | exact HK.out)) (fun k_ e_ => (HO_0.out.1 k_ e_))); replace HO_0 := Aside0.mk (hp_); clear hg hw hp_; have p7 : 0 ≤ (x5_1 : Int) := of_decide_eq_true (by first | (with_reducible assumption) | assumption); have q7 : (x5_1 : Int) < ((x0_1.length : Int) : Int) := of_decide_eq_true (by first | (with_reducible assumption) | assumption); obtain ⟨ce7, hcl7, hM7, hcc7, hfr7⟩ := Kd.R_elem HO_0.out z104 (x5_1 : Int) p7 q7; obtain rfl := k104_openM hM7; have hx7_0 : w12.cell? ⟨go5, (x5_1 : Int).toNat * 3, none⟩ = some (.int .i64 ((rd_T104 y243 x5_1).f0)) := hcc7 0 _ rfl; have hx7_1 : w12.cell? ⟨go5, (x5_1 : Int).toNat * 3 + 1, none⟩ = some (.int .i64 ((rd_T104 y243 x5_1).f1)) := hcc7 1 _ rfl; have hx7_2 : w12.cell? ⟨go5, (x5_1 : Int).toNat * 3 + 2, none⟩ = some (.int .i64 ((rd_T104 y243 x5_1).f2)) := hcc7 2 _ rfl; have hf7_0 : w12.frozen? ⟨go5, (x5_1 : Int).toNat * 3, none⟩ = false := hfr7 0; have hf7_1 : w12.frozen? ⟨go5, (x5_1 : Int).toNat * 3 + 1, none⟩ = false := hfr7 1; have hf7_2 : w12.frozen? ⟨go5, (x5_1 : Int).toNat * 3 + 2, none⟩ = false := hfr7 2; clear hcl7 hcc7 hfr7 hM7; replace p7 := eq_true p7; replace q7 := eq_true q7; have HX13 := Aside0.mk (show Kd.R k104 104 w12 w0.heap.size (fun k_ => (P0_ k_ ∨ w.heap.size ≤ k_)) (.slice (some ⟨go5, 0, none⟩) x0_1.length co8) y243 from (zr HO_0)); obtain ⟨ce13, hcl13, hM13, hcc13, hfr13⟩ := Kd.R_elem HX13.out z104 (x5_1 : Int) (of_decide_eq_true (by first | (with_reducible assumption) | assumption)) (by have h_ : (x5_1 : Int) < ((x0_1.length : Int) : Int) := of_decide_eq_true (by first | (with_reducible assumption) | assumption); first | exact h_ | (have e_ := (Kd.R_reads' HO_0.out).1; omega) | simpa using h_); obtain rfl := k104_openM hM13; have HP13 := Kd.R_seg HX13.out (x5_1 : Int) (of_decide_eq_true (by first | (with_reducible assumption) | assumption)) (by have h_ : (x5_1 : Int) < ((x0_1.length : Int) : Int) := of_decide_eq_true (by first | (with_reducible assumption) | assumption); first | exact h_ | (have e_ := (Kd.R_reads' HO_0.out).1; omega) | simpa using h_) (seg := [.int .i64 (wrap64 ((wrap64 (x1_1 + 1)) + 1))]) (j := 2) hcl13 hcc13 (show 3 ≤ 3 from by decide) (x' := (⟨(rd_T104 y243 x5_1).f0, (rd_T104 y243 x5_1).f1, wrap64 ((wrap64 (x1_1 + 1)) + 1)⟩ : S104)) (k104_mkM _ _ _ (⟨(rd_T104 y243 x5_1).f0, (rd_T104 y243 x5_1).f1, wrap64 ((wrap64 (x1_1 + 1)) + 1)⟩ : S104) ) (fun _ hk => hk); have hx13_2 := hcc13 2 _ rfl; (try simp only [show (k104).sz = 3 from rfl, Nat.mul_one, Nat.add_zero] at hx13_2); have hf13_2 := hfr13 2; (try simp only [show (k104).sz = 3 from rfl, Nat.mul_one, Nat.add_zero] at hf13_2); clear hcl13 hcc13 hfr13 hM13) | ((with_reducible refine gate_store (t := 3) (p := 30) rfl ?_); refine store_event (t := 3) (p := 30) (v := ?vo_w14) (w1 := (w12.setCell ⟨go5, (x5_1 : Int).toNat * 3 + 2, none⟩ (.int .i64 (wrap64 ((wrap64 (x1_1 + 1)) + 1))))) ?hg ?ho ?hn ?hr ?_; (case ho => rfl); (case hg => rfl); (case hn => rfl); (case hr => first | (go_simp; done) | (go_simp; rfl)); intro w14 hw; have hg : w12.grownBy w14 (some go5) := (by rw [hw]; exact HP13.2); have hp_ : Kd.R k104 104 w14 w0.heap.size (fun k_ => (P0_ k_ ∨ w.heap.size ≤ k_)) (.slice (some ⟨go5, 0, none⟩) x0_1.length co8) y244 := (by rw [hw, Ny244.out]; exact HP13.1); clear HP13; replace HB := Aside0.mk ((by rw [hw]; exact below_set (HB.out) GB5.out : Below w0.heap.size w0 w14)); replace HK := Aside0.mk (Kept.of_grown (S := (fun k_ => P0_ k_)) hg (by repeat (first | (with_reducible first | exact HK.out | apply Kept.alloc | apply Kept.drewN | apply Kept.drew) | exact HK.out)) (fun k_ e_ => (HO_0.out.1 k_ e_))); replace HO_0 := Aside0.mk (hp_); clear hg hw hp_))
          go_roundg k1
          case measure => have := HK1.out; omega
          case rel => exact ⟨(y244), (wrap64 ((wrap64 ((wrap64 (x1_1 + 1)) + 1)) + 1)), (wrap64 (x5_1 + 1)), (by first | rfl | (simp; done) | (simp [*]; done)), (by first | rfl | (simp; done) | (simp [*]; done)), H', ⟨by have := HK1.out; omega⟩, ⟨by (with_reducible repeat (first | apply Kd.R_alloc | apply Kd.R_drewN | apply Kd.R_drew)); exact HO_0.out⟩, ⟨by repeat (first | (with_reducible first | exact HK.out | apply Kept.alloc | apply Kept.drewN | apply Kept.drew) | exact HK.out)⟩, ⟨zh HB⟩⟩
        · rw [if_neg c4] at H
          exact absurd H (by simp)
      · rw [if_neg c3] at H
        have c3b0 : decide (x5_1 < (x0_1.length : Int)) = false := decide_eq_false c3
        clear c3
        simp only [Option.some.injEq, Prod.mk.injEq] at H
        obtain ⟨rfl, rfl⟩ := H
        obtain ⟨Ao15, co15, eo15⟩ := Kd.R_slice HO_0.out
        subst eo15
        go_wp2
        go_ret
        exact ⟨by first | rfl | (simp [errW_none, errW_some] <;> rfl) | (simp [*, errW_none, errW_some] <;> rfl), by (with_reducible repeat (first | apply Kd.R_alloc | apply Kd.R_drewN | apply Kd.R_drew)); exact HO_0.out, zh HB, by repeat (first | (with_reducible first | exact HK.out | apply Kept.alloc | apply Kept.drewN | apply Kept.drew) | exact HK.out)⟩

/-! ### laws_markTrie: function 46 -/
def laws_markTrie.f (k : Nat) (l0_0 : List (S104)) (a1 : Int) : Option (Int × (List (S104))) := (laws_markTwigS.f k l0_0 a1).bind fun bt246 => (some (bt246.1, bt246.2))
theorem laws_markTrie.mono : ∀ a0 a1 k, LeO (laws_markTrie.f k a0 a1) (laws_markTrie.f (k + 1) a0 a1) := by
  intro a0 a1 k
  unfold laws_markTrie.f
  repeat' first
      | (with_reducible exact laws_markTwigS.mono _ _ _)
      | (with_reducible exact LeO.refl _)
      | (with_reducible exact LeO.none _)
      | (with_reducible refine LeO.ite ?_ ?_)
      | (with_reducible refine LeO.bind ?_ (fun _ => ?_))
      | exact laws_markTwigS.mono _ _ _
      | exact LeO.none _
      | refine LeO.ite ?_ ?_
      | refine LeO.bind ?_ (fun _ => ?_)
set_option maxHeartbeats 8000000 in
set_option maxRecDepth 100000 in
theorem laws_markTrie.calls (k : Nat) (P0_0_ : Nat → Prop) (u9000_ : Value) (l0_0 : List (S104)) (a1 : Int) (r1 : Int) (r2 : List (S104)) (w0 w : World) (hB : Below w0.heap.size w0 w) (ho0_0 : Kd.R k104 104 w w0.heap.size P0_0_ u9000_ l0_0) (h : laws_markTrie.f k l0_0 a1 = some (r1, r2)) :
    Calls Try.prog 46 #[.agg #[u9000_], .int .i64 a1] w fun e w' => e = .returned (.int .i64 r1) ∧ Kd.R k104 104 w' w0.heap.size (fun k_ => (P0_0_ k_ ∨ w.heap.size ≤ k_)) u9000_ r2 ∧ Below w0.heap.size w0 w' ∧ Kept w w' (fun k_ => P0_0_ k_) := by
  have hu55 := Try.underlying55
  have HO0_0 := Aside0.mk (show Kd.R k104 104 w w0.heap.size (fun k_ => (P0_0_ k_ ∨ w.heap.size ≤ k_)) u9000_ l0_0 from Kd.R_mono ho0_0 (fun k_ hk => (.inl hk)))
  have HK := Aside0.mk (Kept.refl w (fun k_ => P0_0_ k_))
  have HW0 := Aside0.mk hB.size
  have HB := Aside0.mk hB
  clear hB
  have H : ((laws_markTwigS.f k l0_0 a1).bind fun bt246 => (some (bt246.1, bt246.2))) = some (r1, r2) := h
  clear h
  replace H := Option.bind_eq_some_iff.mp H
  obtain ⟨⟨t246, t247⟩, A30, H⟩ := H
  replace H : (some (t246, t247)) = some (r1, r2) := H
  have A3 := Aside0.mk A30
  clear A30
  simp only [Option.some.injEq, Prod.mk.injEq] at H
  obtain ⟨rfl, rfl⟩ := H
  obtain ⟨Ao4, co4, eo4⟩ := Kd.R_slice HO0_0.out
  subst eo4
  go_enter Try.func46, Try.ntmps46
  go_wp2_with (first | ((with_reducible refine gate_dst (N := 2) rfl ?_); refine box_event ?hg (N := 2) ?hd (cs := #[.slice Ao4 l0_0.length co4]) (t := 55) ?hr ?_; (case hd => rfl); (case hg => rfl); (case hr => first | (go_simp; done) | (go_simp; rfl)); intro gb245 hg w5 hbox hb; replace HO0_0 := Aside0.mk (Kd.R_below (zr HO0_0) hb); have BK245 := Aside0.mk (hbox); have GW245 := Aside0.mk ((by rw [hg]; exact (by first | exact HK.out.1 | exact (show Kept w _ (fun k_ => P0_0_ k_) from by repeat (first | (with_reducible first | exact HK.out | apply Kept.alloc | apply Kept.drewN | apply Kept.drew) | exact HK.out)).1) : w.heap.size ≤ gb245)); replace HK := Aside0.mk (Kept.below (S := (fun k_ => P0_0_ k_)) (by repeat (first | (with_reducible first | exact HK.out | apply Kept.alloc | apply Kept.drewN | apply Kept.drew) | exact HK.out)) hb); have GE245 := Aside0.mk ((by rw [hg]; exact (below_size (zh HB)) : w0.heap.size ≤ gb245)); replace HB := Aside0.mk (below_step (zh HB) hb); clear hb hbox hg; have hcz6_0 : w5.cell? ⟨gb245, 0, none⟩ = some (.slice Ao4 l0_0.length co4) := (blk_cell BK245.out 0).trans rfl; have hfz6_0 := blk_frozen BK245.out 0) | ((with_reducible refine gate_callee (f := 95) rfl ?_); refine goesL_ (some 8) rfl rfl Try.func95 (by kernel_rfl) rfl #[.slice Ao4 l0_0.length co4, .int .i64 a1] rfl (by (try simp only [List.map_toArray, List.map_cons, List.map_nil]); first | done | rfl | (simp only [List.length_drop, List.length_take]; rfl)) ?_; (with_reducible refine (laws_markTwigS.calls k (fun k_ => some k_ = (.slice Ao4 l0_0.length co4 : Value).ownBlock) (.slice Ao4 l0_0.length co4) l0_0 a1 t246 t247 w0 _ ?side1 ?side2 A3.out).mono ?_); (case side1 => repeat (first | (with_reducible first | exact HB.out | apply below_alloc | apply pw_below_drewN | apply below_drew1 | refine below_set ?_ GE245.out) | exact HB.out)); (case side2 => exact Kd.R_tight rfl HO0_0.out); rintro e w7 ⟨rfl, hy0, hb, hkp⟩; refine ⟨_, rfl, ?_⟩; replace BK245 := Aside0.mk (blk_kept (zb BK245) hkp (fun hs_ => (fun e_ => (Kd.R_ne HO0_0.out BK245.out (by decide)) e_) hs_)); replace HK := Aside0.mk (Kept.then_ (S := (fun k_ => P0_0_ k_)) (by repeat (first | (with_reducible first | exact HK.out | apply Kept.alloc | apply Kept.drewN | apply Kept.drew | refine Kept.setCell ?_ (.inr GW245.out) _) | exact HK.out)) hkp (fun k_ hs_ => (fun e_ => (HO0_0.out.1 k_ e_.symm)) hs_)); replace HO0_0 := Aside0.mk (Kd.R_reok rfl hy0 (fun k_ e_ => HO0_0.out.1 k_ e_)); replace HB := Aside0.mk (hb); (try clear hb); (try clear hkp); (try clear hy0)))
  go_ret
  exact ⟨by first | rfl | (simp [errW_none, errW_some] <;> rfl) | (simp [*, errW_none, errW_some] <;> rfl), by (with_reducible repeat (first | apply Kd.R_alloc | apply Kd.R_drewN | apply Kd.R_drew)); exact HO0_0.out, zh1 HB GE245, by repeat (first | (with_reducible first | exact HK.out | apply Kept.alloc | apply Kept.drewN | apply Kept.drew | refine Kept.setCell ?_ (.inr GW245.out) _) | exact HK.out)⟩

/-! ### laws_heldTwigS: function 96 -/
def laws_heldTwigS.l0 : Nat → List (S104) → Int → Int → Option (Int)
  | 0, _, _, _ => none
  | k + 1, x0, x1, x5 => if x5 < (x0.length : Int) then (if 0 ≤ x5 then (if ((rd_T104 x0 x5).f0) = x1 then (if ((rd_T104 x0 x5).f1) = (wrap64 (x1 + 1)) then (if ((rd_T104 x0 x5).f2) = (wrap64 ((wrap64 (x1 + 1)) + 1)) then (laws_heldTwigS.l0 k x0 (wrap64 ((wrap64 ((wrap64 (x1 + 1)) + 1)) + 1)) (wrap64 (x5 + 1))) else (some (-1))) else (some (-1))) else (some (-1))) else (none)) else (some x1)
def laws_heldTwigS.f (k : Nat) (l0 : List (S104)) (a1 : Int) : Option (Int) := laws_heldTwigS.l0 k l0 a1 0
theorem laws_heldTwigS.mono_l : ∀ k, (∀ y0 y1 y2, LeO (laws_heldTwigS.l0 k y0 y1 y2) (laws_heldTwigS.l0 (k + 1) y0 y1 y2))
  | 0 => fun _ _ _ r h => by simp [laws_heldTwigS.l0] at h
  | k + 1 => by
    have ih0 := laws_heldTwigS.mono_l k
    · intro y0 y1 y2
      unfold laws_heldTwigS.l0
      repeat' first
      | (with_reducible exact ih0 _ _ _)
      | (with_reducible exact LeO.refl _)
      | (with_reducible exact LeO.none _)
      | (with_reducible refine LeO.ite ?_ ?_)
      | (with_reducible refine LeO.bind ?_ (fun _ => ?_))
      | exact ih0 _ _ _
      | exact LeO.none _
      | refine LeO.ite ?_ ?_
      | refine LeO.bind ?_ (fun _ => ?_)
theorem laws_heldTwigS.mono : ∀ a0 a1 k, LeO (laws_heldTwigS.f k a0 a1) (laws_heldTwigS.f (k + 1) a0 a1) := by
  intro a0 a1 k
  have ih0 := laws_heldTwigS.mono_l k
  unfold laws_heldTwigS.f
  repeat' first
      | (with_reducible exact ih0 _ _ _)
      | (with_reducible exact LeO.refl _)
      | (with_reducible exact LeO.none _)
      | (with_reducible refine LeO.ite ?_ ?_)
      | (with_reducible refine LeO.bind ?_ (fun _ => ?_))
      | exact ih0 _ _ _
      | exact LeO.none _
      | refine LeO.ite ?_ ?_
      | refine LeO.bind ?_ (fun _ => ?_)
set_option maxHeartbeats 8000000 in
set_option maxRecDepth 100000 in
theorem laws_heldTwigS.calls (k : Nat) (A0 : Option Addr) (c0 : Nat) (l0 : List (S104)) (a1 : Int) (r : Int) (w : World) (hr0 : Kd.C k104 w A0 l0.length l0) (hc0 : l0.length ≤ c0) (h : laws_heldTwigS.f k l0 a1 = some r) :
    Calls Try.prog 96 #[.slice A0 l0.length c0, .int .i64 a1] w fun e w' => e = .returned (.int .i64 r) ∧ Drawn0 w w' := by
  have HR0 := Aside0.mk hr0
  have HC0 := Aside0.mk hc0
  clear hr0 hc0
  have H : (laws_heldTwigS.l0 k l0 a1 0) = some r := h
  clear h
  have H' := Aside0.mk H
  clear H
  go_enter Try.func96, Try.ntmps96
  go_wp2
  go_loopg [1, 5] k (fun kq v1 v5 w' => ∃ (x1_1 : Int) (x5_1 : Int), v1 = .int .i64 x1_1 ∧ v5 = .int .i64 x5_1 ∧ Aside0 (laws_heldTwigS.l0 kq l0 x1_1 x5_1 = some r) ∧ Aside0 (kq ≤ k) ∧ Drawn0 w w')
  case atStart => exact ⟨(a1), (0), (by first | rfl | (simp; done) | (simp [*]; done)), (by first | rfl | (simp; done) | (simp [*]; done)), H', ⟨Nat.le_refl _⟩, by repeat (first | exact Drawn0.refl _ | apply Drawn0.step)⟩
  case round =>
    clear H'
    try clear p2
    obtain ⟨x1_1, x5_1, rfl, rfl, HA, HK1, ⟨m1, rfl⟩⟩ := hrel
    cases gk with
    | zero => exact absurd HA.out (by simp [laws_heldTwigS.l0])
    | succ k1 =>
      have H := HA.out
      clear HA
      simp only [laws_heldTwigS.l0] at H
      by_cases c3 : x5_1 < (l0.length : Int)
      · rw [if_pos c3] at H
        have c3b0 : decide (x5_1 < (l0.length : Int)) = true := decide_eq_true c3
        clear c3
        by_cases c4 : 0 ≤ x5_1
        · rw [if_pos c4] at H
          have c4b0 : decide (0 ≤ x5_1) = true := decide_eq_true c4
          clear c4
          by_cases c5 : ((rd_T104 l0 x5_1).f0) = x1_1
          · rw [if_pos c5] at H
            have c5b0 : (((rd_T104 l0 x5_1).f0) == x1_1) = true := beq_iff_eq.mpr c5
            have c5b1 : (((rd_T104 l0 x5_1).f0) != x1_1) = false := bne_eq_false_iff_eq.mpr c5
            clear c5
            by_cases c6 : ((rd_T104 l0 x5_1).f1) = (wrap64 (x1_1 + 1))
            · rw [if_pos c6] at H
              have c6b0 : (((rd_T104 l0 x5_1).f1) == (wrap64 (x1_1 + 1))) = true := beq_iff_eq.mpr c6
              have c6b1 : (((rd_T104 l0 x5_1).f1) != (wrap64 (x1_1 + 1))) = false := bne_eq_false_iff_eq.mpr c6
              clear c6
              by_cases c7 : ((rd_T104 l0 x5_1).f2) = (wrap64 ((wrap64 (x1_1 + 1)) + 1))
              · rw [if_pos c7] at H
                have c7b0 : (((rd_T104 l0 x5_1).f2) == (wrap64 ((wrap64 (x1_1 + 1)) + 1))) = true := beq_iff_eq.mpr c7
                have c7b1 : (((rd_T104 l0 x5_1).f2) != (wrap64 ((wrap64 (x1_1 + 1)) + 1))) = false := bne_eq_false_iff_eq.mpr c7
                clear c7
                have H' := Aside0.mk H
                clear H
                have p248 : 0 ≤ (x5_1 : Int) := of_decide_eq_true (by first | (with_reducible assumption) | assumption)
                have q248 : x5_1 < (l0.length : Int) := of_decide_eq_true (by first | (with_reducible assumption) | assumption)
                obtain ⟨ad248, e248, hx248_0, hx248_1, hx248_2⟩ := at_T104 HR0.out x5_1 p248 q248
                cases e248
                replace p248 := eq_true p248
                replace q248 := eq_true q248
                have p249 : 0 ≤ (x5_1 : Int) := of_decide_eq_true (by first | (with_reducible assumption) | assumption)
                have q249 : x5_1 < (l0.length : Int) := of_decide_eq_true (by first | (with_reducible assumption) | assumption)
                obtain ⟨ad249, e249, hx249_0, hx249_1, hx249_2⟩ := at_T104 HR0.out x5_1 p249 q249
                obtain rfl : ad248 = ad249 := (by injection e249)
                replace p249 := eq_true p249
                replace q249 := eq_true q249
                have p250 : 0 ≤ (x5_1 : Int) := of_decide_eq_true (by first | (with_reducible assumption) | assumption)
                have q250 : x5_1 < (l0.length : Int) := of_decide_eq_true (by first | (with_reducible assumption) | assumption)
                obtain ⟨ad250, e250, hx250_0, hx250_1, hx250_2⟩ := at_T104 HR0.out x5_1 p250 q250
                obtain rfl : ad248 = ad250 := (by injection e250)
                replace p250 := eq_true p250
                replace q250 := eq_true q250
                go_wp2
                go_roundg k1
                case measure => have := HK1.out; omega
                case rel => exact ⟨(wrap64 ((wrap64 ((wrap64 (x1_1 + 1)) + 1)) + 1)), (wrap64 (x5_1 + 1)), (by first | rfl | (simp; done) | (simp [*]; done)), (by first | rfl | (simp; done) | (simp [*]; done)), H', ⟨by have := HK1.out; omega⟩, by repeat (first | exact Drawn0.refl _ | apply Drawn0.step)⟩
              · rw [if_neg c7] at H
                have c7b0 : (((rd_T104 l0 x5_1).f2) == (wrap64 ((wrap64 (x1_1 + 1)) + 1))) = false := beq_eq_false_iff_ne.mpr c7
                have c7b1 : (((rd_T104 l0 x5_1).f2) != (wrap64 ((wrap64 (x1_1 + 1)) + 1))) = true := bne_iff_ne.mpr c7
                obtain rfl := Option.some.inj H
                have p248 : 0 ≤ (x5_1 : Int) := of_decide_eq_true (by first | (with_reducible assumption) | assumption)
                have q248 : x5_1 < (l0.length : Int) := of_decide_eq_true (by first | (with_reducible assumption) | assumption)
                obtain ⟨ad248, e248, hx248_0, hx248_1, hx248_2⟩ := at_T104 HR0.out x5_1 p248 q248
                cases e248
                replace p248 := eq_true p248
                replace q248 := eq_true q248
                have p249 : 0 ≤ (x5_1 : Int) := of_decide_eq_true (by first | (with_reducible assumption) | assumption)
                have q249 : x5_1 < (l0.length : Int) := of_decide_eq_true (by first | (with_reducible assumption) | assumption)
                obtain ⟨ad249, e249, hx249_0, hx249_1, hx249_2⟩ := at_T104 HR0.out x5_1 p249 q249
                obtain rfl : ad248 = ad249 := (by injection e249)
                replace p249 := eq_true p249
                replace q249 := eq_true q249
                have p250 : 0 ≤ (x5_1 : Int) := of_decide_eq_true (by first | (with_reducible assumption) | assumption)
                have q250 : x5_1 < (l0.length : Int) := of_decide_eq_true (by first | (with_reducible assumption) | assumption)
                obtain ⟨ad250, e250, hx250_0, hx250_1, hx250_2⟩ := at_T104 HR0.out x5_1 p250 q250
                obtain rfl : ad248 = ad250 := (by injection e250)
                replace p250 := eq_true p250
                replace q250 := eq_true q250
                go_wp2
                go_ret
                exact ⟨by first | rfl | (simp; done) | (simp [*]; done), by repeat (first | exact Drawn0.refl _ | apply Drawn0.step)⟩
            · rw [if_neg c6] at H
              have c6b0 : (((rd_T104 l0 x5_1).f1) == (wrap64 (x1_1 + 1))) = false := beq_eq_false_iff_ne.mpr c6
              have c6b1 : (((rd_T104 l0 x5_1).f1) != (wrap64 (x1_1 + 1))) = true := bne_iff_ne.mpr c6
              obtain rfl := Option.some.inj H
              have p248 : 0 ≤ (x5_1 : Int) := of_decide_eq_true (by first | (with_reducible assumption) | assumption)
              have q248 : x5_1 < (l0.length : Int) := of_decide_eq_true (by first | (with_reducible assumption) | assumption)
              obtain ⟨ad248, e248, hx248_0, hx248_1, hx248_2⟩ := at_T104 HR0.out x5_1 p248 q248
              cases e248
              replace p248 := eq_true p248
              replace q248 := eq_true q248
              have p249 : 0 ≤ (x5_1 : Int) := of_decide_eq_true (by first | (with_reducible assumption) | assumption)
              have q249 : x5_1 < (l0.length : Int) := of_decide_eq_true (by first | (with_reducible assumption) | assumption)
              obtain ⟨ad249, e249, hx249_0, hx249_1, hx249_2⟩ := at_T104 HR0.out x5_1 p249 q249
              obtain rfl : ad248 = ad249 := (by injection e249)
              replace p249 := eq_true p249
              replace q249 := eq_true q249
              go_wp2
              go_ret
              exact ⟨by first | rfl | (simp; done) | (simp [*]; done), by repeat (first | exact Drawn0.refl _ | apply Drawn0.step)⟩
          · rw [if_neg c5] at H
            have c5b0 : (((rd_T104 l0 x5_1).f0) == x1_1) = false := beq_eq_false_iff_ne.mpr c5
            have c5b1 : (((rd_T104 l0 x5_1).f0) != x1_1) = true := bne_iff_ne.mpr c5
            obtain rfl := Option.some.inj H
            have p248 : 0 ≤ (x5_1 : Int) := of_decide_eq_true (by first | (with_reducible assumption) | assumption)
            have q248 : x5_1 < (l0.length : Int) := of_decide_eq_true (by first | (with_reducible assumption) | assumption)
            obtain ⟨ad248, e248, hx248_0, hx248_1, hx248_2⟩ := at_T104 HR0.out x5_1 p248 q248
            cases e248
            replace p248 := eq_true p248
            replace q248 := eq_true q248
            go_wp2
            go_ret
            exact ⟨by first | rfl | (simp; done) | (simp [*]; done), by repeat (first | exact Drawn0.refl _ | apply Drawn0.step)⟩
        · rw [if_neg c4] at H
          exact absurd H (by simp)
      · rw [if_neg c3] at H
        have c3b0 : decide (x5_1 < (l0.length : Int)) = false := decide_eq_false c3
        clear c3
        obtain rfl := Option.some.inj H
        go_wp2
        go_ret
        exact ⟨by first | rfl | (simp; done) | (simp [*]; done), by repeat (first | exact Drawn0.refl _ | apply Drawn0.step)⟩

end Go.Proofs.Ytbddppnhpapfkaa.PFnExactTriePut
