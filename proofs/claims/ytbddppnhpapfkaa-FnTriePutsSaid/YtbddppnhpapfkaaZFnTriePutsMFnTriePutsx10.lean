/- Machine proofs of Go functions, part x10: began as a text that the kit's print wrote, turned by hand. -/
import Derived.Test.YtbddppnhpapfkaaZFnTriePutsMFnTriePutsx0
import Derived.Test.YtbddppnhpapfkaaZFnTriePutsMFnTriePutsx2
import Derived.Test.YtbddppnhpapfkaaZFnTriePutsMFnTriePutsx3
import Derived.Test.YtbddppnhpapfkaaZFnTriePutsMFnTriePutsx9
namespace Go.Proofs.Ytbddppnhpapfkaa.PFnTriePuts
open Go.RowKit Go.Proofs.YtbddppnhpapfkaaW.PrintWords Go.Proofs.YtbddppnhpapfkaaW.PrintLast Go.Proofs.YtbddppnhpapfkaaW.PrintMore
attribute [local go_sem] max2_int min2_int max_two min_two max_three min_three max_four min_four   -- for this text's walks alone
set_option linter.unusedVariables false
set_option linter.unusedSimpArgs false

/-! ### impl_TriePut: function 45 -/
mutual
def impl_TriePut.j0 : Nat → Int → Bool → List (S104) → Int → Int → Option ((List (S104)) × Bool)
  | 0, _, _, _, _, _ => none
  | k + 1, x2, x25, x290000, x291000, x291001 => if x25 = true then ((impl_copyTrie.f x290000).bind fun t295 => (some (t295, false))) else ((impl_copyTrie.f x290000).bind fun t298 => (impl_TriePut.l0 k x2 0 x291001 0 x290000 x291000 x291001 t298))
def impl_TriePut.l0 : Nat → Int → Int → Int → Int → List (S104) → Int → Int → List (S104) → Option ((List (S104)) × Bool)
  | 0, _, _, _, _, _, _, _, _ => none
  | k + 1, x2, x9, x31, x32, x290000, x291000, x291001, x302000 => if x32 < x31 then ((impl_bitOf.f x291000 x32).bind fun t306 => (if 0 ≤ x9 then (if x9 < (x302000.length : Int) then ((impl_along.f ((rd_T104 x302000 x9).f0) ((rd_T104 x302000 x9).f1) ((rd_T104 x302000 x9).f2) t306).bind fun t308 => (if t308 = 0 then (if x302000.length < 5864062014805 then ((some (x302000 ++ [(⟨0, 0, 0⟩ : S104)] : List (S104))).bind fun y309 => (if t306 = 0 then (if x9 < (y309.length : Int) then (impl_TriePut.l0 k x2 (x302000.length : Int) x31 (wrap64 (x32 + 1)) x290000 x291000 x291001 (y309.set (x9 : Int).toNat (⟨(x302000.length : Int), (rd_T104 y309 x9).f1, (rd_T104 y309 x9).f2⟩ : S104))) else (none)) else (if x9 < (y309.length : Int) then (impl_TriePut.l0 k x2 (x302000.length : Int) x31 (wrap64 (x32 + 1)) x290000 x291000 x291001 (y309.set (x9 : Int).toNat (⟨(rd_T104 y309 x9).f0, (x302000.length : Int), (rd_T104 y309 x9).f2⟩ : S104))) else (none)))) else (none)) else (impl_TriePut.l0 k x2 t308 x31 (wrap64 (x32 + 1)) x290000 x291000 x291001 x302000))) else (none)) else (none))) else (if 0 ≤ x9 then (if x9 < (x302000.length : Int) then (if (x302000.length : Int) > 400 then ((impl_copyTrie.f x290000).bind fun t303 => (some (t303, false))) else (some ((x302000.set (x9 : Int).toNat (⟨(rd_T104 x302000 x9).f0, (rd_T104 x302000 x9).f1, x2⟩ : S104)), true))) else (none)) else (none))
end
def impl_TriePut.f (k : Nat) (l0_0 : List (S104)) (a1_0 : Int) (a1_1 : Int) (a2 : Int) : Option ((List (S104)) × Bool) := (impl_TrieOk.f k l0_0).bind fun t292 => (if t292 = true then ((impl_PrefixOk.f a1_0 a1_1).bind fun t293 => (if t293 = true then ((impl_within.f a2 0 99).bind fun t294 => (impl_TriePut.j0 k a2 (!t294) l0_0 a1_0 a1_1)) else (impl_TriePut.j0 k a2 true l0_0 a1_0 a1_1))) else (impl_TriePut.j0 k a2 true l0_0 a1_0 a1_1))
theorem impl_TriePut.mono_l : ∀ k, (∀ y0 y1 y2 y3 y4, LeO (impl_TriePut.j0 k y0 y1 y2 y3 y4) (impl_TriePut.j0 (k + 1) y0 y1 y2 y3 y4)) ∧ (∀ y0 y1 y2 y3 y4 y5 y6 y7, LeO (impl_TriePut.l0 k y0 y1 y2 y3 y4 y5 y6 y7) (impl_TriePut.l0 (k + 1) y0 y1 y2 y3 y4 y5 y6 y7))
  | 0 => ⟨fun _ _ _ _ _ r h => by simp [impl_TriePut.j0] at h, fun _ _ _ _ _ _ _ _ r h => by simp [impl_TriePut.l0] at h⟩
  | k + 1 => by
    obtain ⟨ih0, ih1⟩ := impl_TriePut.mono_l k
    refine ⟨?_, ?_⟩
    · intro y0 y1 y2 y3 y4
      unfold impl_TriePut.j0
      repeat' first
      | (with_reducible exact ih0 _ _ _ _ _)
      | (with_reducible exact ih1 _ _ _ _ _ _ _ _)
      | (with_reducible exact impl_TrieOk.mono _ _)
      | (with_reducible exact LeO.refl _)
      | (with_reducible exact LeO.none _)
      | (with_reducible refine LeO.ite ?_ ?_)
      | (with_reducible refine LeO.bind ?_ (fun _ => ?_))
      | exact ih0 _ _ _ _ _
      | exact ih1 _ _ _ _ _ _ _ _
      | exact impl_TrieOk.mono _ _
      | exact LeO.none _
      | refine LeO.ite ?_ ?_
      | refine LeO.bind ?_ (fun _ => ?_)
    · intro y0 y1 y2 y3 y4 y5 y6 y7
      unfold impl_TriePut.l0
      repeat' first
      | (with_reducible exact ih0 _ _ _ _ _)
      | (with_reducible exact ih1 _ _ _ _ _ _ _ _)
      | (with_reducible exact impl_TrieOk.mono _ _)
      | (with_reducible exact LeO.refl _)
      | (with_reducible exact LeO.none _)
      | (with_reducible refine LeO.ite ?_ ?_)
      | (with_reducible refine LeO.bind ?_ (fun _ => ?_))
      | exact ih0 _ _ _ _ _
      | exact ih1 _ _ _ _ _ _ _ _
      | exact impl_TrieOk.mono _ _
      | exact LeO.none _
      | refine LeO.ite ?_ ?_
      | refine LeO.bind ?_ (fun _ => ?_)
theorem impl_TriePut.mono : ∀ a0 a1 a2 a3 k, LeO (impl_TriePut.f k a0 a1 a2 a3) (impl_TriePut.f (k + 1) a0 a1 a2 a3) := by
  intro a0 a1 a2 a3 k
  obtain ⟨ih0, ih1⟩ := impl_TriePut.mono_l k
  unfold impl_TriePut.f
  repeat' first
      | (with_reducible exact ih0 _ _ _ _ _)
      | (with_reducible exact ih1 _ _ _ _ _ _ _ _)
      | (with_reducible exact impl_TrieOk.mono _ _)
      | (with_reducible exact LeO.refl _)
      | (with_reducible exact LeO.none _)
      | (with_reducible refine LeO.ite ?_ ?_)
      | (with_reducible refine LeO.bind ?_ (fun _ => ?_))
      | exact ih0 _ _ _ _ _
      | exact ih1 _ _ _ _ _ _ _ _
      | exact impl_TrieOk.mono _ _
      | exact LeO.none _
      | refine LeO.ite ?_ ?_
      | refine LeO.bind ?_ (fun _ => ?_)
set_option maxHeartbeats 8000000 in
set_option maxRecDepth 100000 in
theorem impl_TriePut.calls (k : Nat) (A0_0 : Option Addr) (c0_0 : Nat) (l0_0 : List (S104)) (a1_0 : Int) (a1_1 : Int) (a2 : Int) (r1 : List (S104)) (r2 : Bool) (w : World) (hr0_0 : Kd.C k104 w A0_0 l0_0.length l0_0) (hc0_0 : l0_0.length ≤ c0_0) (h : impl_TriePut.f k l0_0 a1_0 a1_1 a2 = some (r1, r2)) :
    Calls Try.prog 45 #[.agg #[.slice A0_0 l0_0.length c0_0], .agg #[.int .i64 a1_0, .int .i64 a1_1], .int .i64 a2] w fun e w' => ∃ v0_ : Value, e = .returned (.tuple #[.agg #[v0_], .bool r2]) ∧ Kd.R k104 104 w' w.heap.size (fun _ => True) v0_ r1 ∧ Below w.heap.size w w' := by
  have hu55 := Try.underlying55
  have hu40 := Try.underlying40
  have hu104 := Try.underlying104
  have HR0_0 := Aside0.mk hr0_0
  have HC0_0 := Aside0.mk hc0_0
  clear hr0_0 hc0_0
  have HB := Aside0.mk (Below.refl w.heap.size w)
  have H : ((impl_TrieOk.f k l0_0).bind fun t292 => (if t292 = true then ((impl_PrefixOk.f a1_0 a1_1).bind fun t293 => (if t293 = true then ((impl_within.f a2 0 99).bind fun t294 => (impl_TriePut.j0 k a2 (!t294) l0_0 a1_0 a1_1)) else (impl_TriePut.j0 k a2 true l0_0 a1_0 a1_1))) else (impl_TriePut.j0 k a2 true l0_0 a1_0 a1_1))) = some (r1, r2) := h
  clear h
  have HC4 := Aside0.mk H
  clear H
  go_enter Try.func45, Try.ntmps45
  go_upto_region 1 with (first | ((with_reducible refine gate_dst (N := 3) rfl ?_); refine box_event ?hg (N := 3) ?hd (cs := #[.slice A0_0 l0_0.length c0_0]) (t := 55) ?hr ?_; (case hd => rfl); (case hg => rfl); (case hr => first | (go_simp; done) | (go_simp; rfl)); intro gb289 hg w5 hbox hb; have BK289 := Aside0.mk (hbox); have GW289 := Aside0.mk ((by rw [hg]; exact (below_size (zh HB)) : w.heap.size ≤ gb289)); have GE289 := Aside0.mk ((by rw [hg]; exact (below_size (zh HB)) : w.heap.size ≤ gb289)); replace HB := Aside0.mk (below_step (zh HB) hb); clear hb hbox hg) | ((with_reducible refine gate_dst (N := 4) rfl ?_); refine box_event ?hg (N := 4) ?hd (cs := #[.int .i64 a1_0, .int .i64 a1_1]) (t := 40) ?hr ?_; (case hd => rfl); (case hg => rfl); (case hr => first | (go_simp; done) | (go_simp; rfl)); intro gb290 hg w6 hbox hb; have BK290 := Aside0.mk (hbox); have GW290 := Aside0.mk ((by rw [hg]; exact (below_size (zh1 HB GE289)) : w.heap.size ≤ gb290)); have GE290 := Aside0.mk ((by rw [hg]; exact (below_size (zh1 HB GE289)) : w.heap.size ≤ gb290)); replace HB := Aside0.mk (below_step (zh1 HB GE289) hb); have NB289_290 := Aside0.mk ((by rw [hg]; exact Nat.ne_of_lt (blk_lt (g := gb289) (o := .cells #[.slice A0_0 l0_0.length c0_0] 55 (0, 0)) (zb BK289)) : gb289 ≠ gb290)); have NB290_289 := Aside0.mk ((by rw [hg]; exact Nat.ne_of_gt (blk_lt (g := gb289) (o := .cells #[.slice A0_0 l0_0.length c0_0] 55 (0, 0)) (zb BK289)) : gb290 ≠ gb289)); replace BK289 := zk BK289 hb; clear hb hbox hg) | ((with_reducible refine gate_dst (N := 6) rfl ?_); refine box_event ?hg (N := 6) ?hd (cs := #[.slice none 0 0]) (t := 55) ?hr ?_; (case hd => rfl); (case hg => rfl); (case hr => first | (go_simp; done) | (go_simp; rfl)); intro gb291 hg w7 hbox hb; have BK291 := Aside0.mk (hbox); have GW291 := Aside0.mk ((by rw [hg]; exact (below_size (zh2 HB GE289 GE290)) : w.heap.size ≤ gb291)); have GE291 := Aside0.mk ((by rw [hg]; exact (below_size (zh2 HB GE289 GE290)) : w.heap.size ≤ gb291)); replace HB := Aside0.mk (below_step (zh2 HB GE289 GE290) hb); have NB289_291 := Aside0.mk ((by rw [hg]; exact Nat.ne_of_lt (blk_lt (g := gb289) (o := .cells #[.slice A0_0 l0_0.length c0_0] 55 (0, 0)) (zb BK289)) : gb289 ≠ gb291)); have NB291_289 := Aside0.mk ((by rw [hg]; exact Nat.ne_of_gt (blk_lt (g := gb289) (o := .cells #[.slice A0_0 l0_0.length c0_0] 55 (0, 0)) (zb BK289)) : gb291 ≠ gb289)); replace BK289 := zk BK289 hb; have NB290_291 := Aside0.mk ((by rw [hg]; exact Nat.ne_of_lt (blk_lt (g := gb290) (o := .cells #[.int .i64 a1_0, .int .i64 a1_1] 40 (0, 0)) (zb BK290)) : gb290 ≠ gb291)); have NB291_290 := Aside0.mk ((by rw [hg]; exact Nat.ne_of_gt (blk_lt (g := gb290) (o := .cells #[.int .i64 a1_0, .int .i64 a1_1] 40 (0, 0)) (zb BK290)) : gb291 ≠ gb290)); replace BK290 := zk BK290 hb; clear hb hbox hg))
  (try simp only [Act.put, List.setIfInBounds_toArray, List.set_cons_zero, List.set_cons_succ])
  go_cut [25] (fun v25 wc => ∃ (kq : Nat) (x25_3 : Bool), v25 = .bool x25_3 ∧ Aside0 (impl_TriePut.j0 kq a2 x25_3 l0_0 a1_0 a1_1 = some (r1, r2)) ∧ Aside0 (kq ≤ k) ∧ Aside0 (wc.heap[gb289]? = some (.cells #[(.slice A0_0 l0_0.length c0_0)] 55 (0, 0))) ∧ Aside0 (wc.heap[gb290]? = some (.cells #[.int .i64 a1_0, .int .i64 a1_1] 40 (0, 0))) ∧ Aside0 (wc.heap[gb291]? = some (.cells #[(.slice none 0 0)] 55 (0, 0))) ∧ Aside0 (Below w.heap.size w wc))
  case first =>
    have H := HC4.out
    clear HC4
    replace H := Option.bind_eq_some_iff.mp H
    obtain ⟨t292, A80, H⟩ := H
    replace H : (if t292 = true then ((impl_PrefixOk.f a1_0 a1_1).bind fun t293 => (if t293 = true then ((impl_within.f a2 0 99).bind fun t294 => (impl_TriePut.j0 k a2 (!t294) l0_0 a1_0 a1_1)) else (impl_TriePut.j0 k a2 true l0_0 a1_0 a1_1))) else (impl_TriePut.j0 k a2 true l0_0 a1_0 a1_1)) = some (r1, r2) := H
    have A8 := Aside0.mk A80
    clear A80
    by_cases c9 : t292 = true
    · subst c9
      have H1 : ((impl_PrefixOk.f a1_0 a1_1).bind fun t293 => (if t293 = true then ((impl_within.f a2 0 99).bind fun t294 => (impl_TriePut.j0 k a2 (!t294) l0_0 a1_0 a1_1)) else (impl_TriePut.j0 k a2 true l0_0 a1_0 a1_1))) = some (r1, r2) := by rw [if_pos rfl] at H; exact H
      clear H
      have H := H1
      clear H1
      replace H := Option.bind_eq_some_iff.mp H
      obtain ⟨t293, A100, H⟩ := H
      replace H : (if t293 = true then ((impl_within.f a2 0 99).bind fun t294 => (impl_TriePut.j0 k a2 (!t294) l0_0 a1_0 a1_1)) else (impl_TriePut.j0 k a2 true l0_0 a1_0 a1_1)) = some (r1, r2) := H
      have A10 := Aside0.mk A100
      clear A100
      by_cases c11 : t293 = true
      · subst c11
        have H1 : ((impl_within.f a2 0 99).bind fun t294 => (impl_TriePut.j0 k a2 (!t294) l0_0 a1_0 a1_1)) = some (r1, r2) := by rw [if_pos rfl] at H; exact H
        clear H
        have H := H1
        clear H1
        replace H := Option.bind_eq_some_iff.mp H
        obtain ⟨t294, A120, H⟩ := H
        replace H : (impl_TriePut.j0 k a2 (!t294) l0_0 a1_0 a1_1) = some (r1, r2) := H
        have A12 := Aside0.mk A120
        clear A120
        have H' := Aside0.mk H
        clear H
        have hnb13 := NB289_290.out
        have hnc13 := NB290_289.out
        have hnb14 := NB289_291.out
        have hnc14 := NB291_289.out
        have hcz15_0 : w7.cell? ⟨gb289, 0, none⟩ = some (.slice A0_0 l0_0.length c0_0) := (blk_cell BK289.out 0).trans rfl
        have hfz15_0 := blk_frozen BK289.out 0
        go_wp2_with (first | ((with_reducible refine gate_callee (f := 51) rfl ?_); refine goesL_ (some 14) rfl rfl Try.func51 (by kernel_rfl) rfl #[.agg #[.slice A0_0 l0_0.length c0_0]] rfl (by (try simp only [List.map_toArray, List.map_cons, List.map_nil]); first | done | rfl | (simp only [List.length_drop, List.length_take]; rfl)) ?_; (with_reducible refine (impl_TrieOk.calls k _ _ l0_0 true _ ?side1 ?side2 A8.out).mono ?_); (case side1 => repeat (first | exact (Kd.C_below HR0_0.out HB.out) | (with_reducible refine Kd.C_alloc ?_ _) | (with_reducible refine Kd.C_drewN ?_ _) | (with_reducible refine Kd.C_drew ?_))); (case side2 => exact HC0_0.out); rintro e w16 ⟨rfl, hb⟩; refine ⟨_, rfl, ?_⟩; replace BK289 := zk BK289 hb; replace BK290 := zk BK290 hb; replace BK291 := zk BK291 hb; replace HB := Aside0.mk (below_step (zh3 HB GE289 GE290 GE291) hb); (try clear hb); (try clear hb2); (try clear hk); (try clear hi); have hnb17 := NB290_291.out; have hnc17 := NB291_290.out; have hcz18_0 : w16.cell? ⟨gb290, 0, none⟩ = some (.int .i64 a1_0) := (blk_cell BK290.out 0).trans rfl; have hcz18_1 : w16.cell? ⟨gb290, 1, none⟩ = some (.int .i64 a1_1) := (blk_cell BK290.out 1).trans rfl; have hfz18_0 := blk_frozen BK290.out 0; have hfz18_1 := blk_frozen BK290.out 1) | (go_at_call 62; (with_reducible refine (impl_PrefixOk.calls a1_0 a1_1 true _ A10.out).mono ?_); rintro e w19 ⟨rfl, hb⟩; replace BK289 := zk BK289 hb; replace BK290 := zk BK290 hb; replace BK291 := zk BK291 hb; replace HB := Aside0.mk (below_step (zh3 HB GE289 GE290 GE291) hb); (try clear hb); (try clear hb2); (try clear hk); (try clear hi)) | (go_at_call 89; (with_reducible refine (impl_within.calls a2 0 99 t294 _ A12.out).mono ?_); rintro e w' ⟨rfl, ⟨nd, rfl⟩⟩))
        go_meet
        case rel => exact ⟨_, (!t294), (by first | rfl | (simp; done) | (simp [*]; done)), H', ⟨by first | omega | exact Nat.le_refl _⟩, ⟨by (with_reducible repeat (first | refine blk_drewN ?_ _ | refine blk_drew ?_ | refine blk_alloc ?_ _)); exact BK289.out⟩, ⟨by (with_reducible repeat (first | refine blk_drewN ?_ _ | refine blk_drew ?_ | refine blk_alloc ?_ _)); exact BK290.out⟩, ⟨by (with_reducible repeat (first | refine blk_drewN ?_ _ | refine blk_drew ?_ | refine blk_alloc ?_ _)); exact BK291.out⟩, ⟨zh3 HB GE289 GE290 GE291⟩⟩
      · replace c11 := Bool.eq_false_iff.mpr c11
        subst c11
        have H1 : (impl_TriePut.j0 k a2 true l0_0 a1_0 a1_1) = some (r1, r2) := by rw [if_neg (show ¬ (false = true) by decide)] at H; exact H
        clear H
        have H := H1
        clear H1
        have H' := Aside0.mk H
        clear H
        have hnb20 := NB289_290.out
        have hnc20 := NB290_289.out
        have hnb21 := NB289_291.out
        have hnc21 := NB291_289.out
        have hcz22_0 : w7.cell? ⟨gb289, 0, none⟩ = some (.slice A0_0 l0_0.length c0_0) := (blk_cell BK289.out 0).trans rfl
        have hfz22_0 := blk_frozen BK289.out 0
        go_wp2_with (first | ((with_reducible refine gate_callee (f := 51) rfl ?_); refine goesL_ (some 14) rfl rfl Try.func51 (by kernel_rfl) rfl #[.agg #[.slice A0_0 l0_0.length c0_0]] rfl (by (try simp only [List.map_toArray, List.map_cons, List.map_nil]); first | done | rfl | (simp only [List.length_drop, List.length_take]; rfl)) ?_; (with_reducible refine (impl_TrieOk.calls k _ _ l0_0 true _ ?side1 ?side2 A8.out).mono ?_); (case side1 => repeat (first | exact (Kd.C_below HR0_0.out HB.out) | (with_reducible refine Kd.C_alloc ?_ _) | (with_reducible refine Kd.C_drewN ?_ _) | (with_reducible refine Kd.C_drew ?_))); (case side2 => exact HC0_0.out); rintro e w23 ⟨rfl, hb⟩; refine ⟨_, rfl, ?_⟩; replace BK289 := zk BK289 hb; replace BK290 := zk BK290 hb; replace BK291 := zk BK291 hb; replace HB := Aside0.mk (below_step (zh3 HB GE289 GE290 GE291) hb); (try clear hb); (try clear hb2); (try clear hk); (try clear hi); have hnb24 := NB290_291.out; have hnc24 := NB291_290.out; have hcz25_0 : w23.cell? ⟨gb290, 0, none⟩ = some (.int .i64 a1_0) := (blk_cell BK290.out 0).trans rfl; have hcz25_1 : w23.cell? ⟨gb290, 1, none⟩ = some (.int .i64 a1_1) := (blk_cell BK290.out 1).trans rfl; have hfz25_0 := blk_frozen BK290.out 0; have hfz25_1 := blk_frozen BK290.out 1) | (go_at_call 62; (with_reducible refine (impl_PrefixOk.calls a1_0 a1_1 false _ A10.out).mono ?_); rintro e w26 ⟨rfl, hb⟩; replace BK289 := zk BK289 hb; replace BK290 := zk BK290 hb; replace BK291 := zk BK291 hb; replace HB := Aside0.mk (below_step (zh3 HB GE289 GE290 GE291) hb); (try clear hb); (try clear hb2); (try clear hk); (try clear hi)))
        go_meet
        case rel => exact ⟨_, (true), (by first | rfl | (simp; done) | (simp [*]; done)), H', ⟨by first | omega | exact Nat.le_refl _⟩, ⟨by (with_reducible repeat (first | refine blk_drewN ?_ _ | refine blk_drew ?_ | refine blk_alloc ?_ _)); exact BK289.out⟩, ⟨by (with_reducible repeat (first | refine blk_drewN ?_ _ | refine blk_drew ?_ | refine blk_alloc ?_ _)); exact BK290.out⟩, ⟨by (with_reducible repeat (first | refine blk_drewN ?_ _ | refine blk_drew ?_ | refine blk_alloc ?_ _)); exact BK291.out⟩, ⟨zh3 HB GE289 GE290 GE291⟩⟩
    · replace c9 := Bool.eq_false_iff.mpr c9
      subst c9
      have H1 : (impl_TriePut.j0 k a2 true l0_0 a1_0 a1_1) = some (r1, r2) := by rw [if_neg (show ¬ (false = true) by decide)] at H; exact H
      clear H
      have H := H1
      clear H1
      have H' := Aside0.mk H
      clear H
      have hnb27 := NB289_290.out
      have hnc27 := NB290_289.out
      have hnb28 := NB289_291.out
      have hnc28 := NB291_289.out
      have hcz29_0 : w7.cell? ⟨gb289, 0, none⟩ = some (.slice A0_0 l0_0.length c0_0) := (blk_cell BK289.out 0).trans rfl
      have hfz29_0 := blk_frozen BK289.out 0
      go_wp2_with (first | ((with_reducible refine gate_callee (f := 51) rfl ?_); refine goesL_ (some 14) rfl rfl Try.func51 (by kernel_rfl) rfl #[.agg #[.slice A0_0 l0_0.length c0_0]] rfl (by (try simp only [List.map_toArray, List.map_cons, List.map_nil]); first | done | rfl | (simp only [List.length_drop, List.length_take]; rfl)) ?_; (with_reducible refine (impl_TrieOk.calls k _ _ l0_0 false _ ?side1 ?side2 A8.out).mono ?_); (case side1 => repeat (first | exact (Kd.C_below HR0_0.out HB.out) | (with_reducible refine Kd.C_alloc ?_ _) | (with_reducible refine Kd.C_drewN ?_ _) | (with_reducible refine Kd.C_drew ?_))); (case side2 => exact HC0_0.out); rintro e w30 ⟨rfl, hb⟩; refine ⟨_, rfl, ?_⟩; replace BK289 := zk BK289 hb; replace BK290 := zk BK290 hb; replace BK291 := zk BK291 hb; replace HB := Aside0.mk (below_step (zh3 HB GE289 GE290 GE291) hb); (try clear hb); (try clear hb2); (try clear hk); (try clear hi)))
      go_meet
      case rel => exact ⟨_, (true), (by first | rfl | (simp; done) | (simp [*]; done)), H', ⟨by first | omega | exact Nat.le_refl _⟩, ⟨by (with_reducible repeat (first | refine blk_drewN ?_ _ | refine blk_drew ?_ | refine blk_alloc ?_ _)); exact BK289.out⟩, ⟨by (with_reducible repeat (first | refine blk_drewN ?_ _ | refine blk_drew ?_ | refine blk_alloc ?_ _)); exact BK290.out⟩, ⟨by (with_reducible repeat (first | refine blk_drewN ?_ _ | refine blk_drew ?_ | refine blk_alloc ?_ _)); exact BK291.out⟩, ⟨zh3 HB GE289 GE290 GE291⟩⟩
  case rest =>
    clear HC4
    try clear c1
    try clear c2
    try clear p2
    try clear c4
    try clear c5
    try clear c9
    try clear c11
    try clear c13
    try clear c14
    try clear c17
    try clear c20
    try clear c21
    try clear c24
    try clear c27
    try clear c28
    try clear hcz15_0
    try clear hcz18_0
    try clear hcz18_1
    try clear hcz22_0
    try clear hcz25_0
    try clear hcz25_1
    try clear hcz29_0
    try clear hfz15_0
    try clear hfz18_0
    try clear hfz18_1
    try clear hfz22_0
    try clear hfz25_0
    try clear hfz25_1
    try clear hfz29_0
    obtain ⟨kq, x25_3, rfl, HA, HJ3, BK289, BK290, BK291, HB⟩ := hcut
    cases kq with
    | zero => exact absurd HA.out (by simp [impl_TriePut.j0])
    | succ kj3 =>
      have H := HA.out
      clear HA
      simp only [impl_TriePut.j0] at H
      by_cases c31 : x25_3 = true
      · subst c31
        have H1 : ((impl_copyTrie.f l0_0).bind fun t295 => (some (t295, false))) = some (r1, r2) := by rw [if_pos rfl] at H; exact H
        clear H
        have H := H1
        clear H1
        replace H := Option.bind_eq_some_iff.mp H
        obtain ⟨t295, A320, H⟩ := H
        replace H : (some (t295, false)) = some (r1, r2) := H
        have A32 := Aside0.mk A320
        clear A320
        simp only [Option.some.injEq, Prod.mk.injEq] at H
        obtain ⟨rfl, rfl⟩ := H
        have hnb33 := NB289_290.out
        have hnc33 := NB290_289.out
        have hnb34 := NB289_291.out
        have hnc34 := NB291_289.out
        have hcz35_0 : wc.cell? ⟨gb289, 0, none⟩ = some (.slice A0_0 l0_0.length c0_0) := (blk_cell BK289.out 0).trans rfl
        have hfz35_0 := blk_frozen BK289.out 0
        go_wp2_with (first | ((with_reducible refine gate_callee (f := 94) rfl ?_); refine goesL_ (some 27) rfl rfl Try.func94 (by kernel_rfl) rfl #[.agg #[.slice A0_0 l0_0.length c0_0]] rfl (by (try simp only [List.map_toArray, List.map_cons, List.map_nil]); first | done | rfl | (simp only [List.length_drop, List.length_take]; rfl)) ?_; (with_reducible refine (impl_copyTrie.calls _ _ l0_0 t295 _ ?side1 ?side2 A32.out).mono ?_); (case side1 => repeat (first | exact (Kd.C_below HR0_0.out HB.out) | (with_reducible refine Kd.C_alloc ?_ _) | (with_reducible refine Kd.C_drewN ?_ _) | (with_reducible refine Kd.C_drew ?_))); (case side2 => exact HC0_0.out); rintro e w36 ⟨v296, rfl, ho0, hb⟩; refine ⟨_, rfl, ?_⟩; have HO297 := Aside0.mk (Kd.R_lower ho0 (below_size (zh3 HB GE289 GE290 GE291))); replace BK289 := zk BK289 hb; replace BK290 := zk BK290 hb; replace BK291 := zk BK291 hb; replace HB := Aside0.mk (below_step (zh3 HB GE289 GE290 GE291) hb); (try clear hb); (try clear hb2); (try clear hk); (try clear hi); (try clear ho0); obtain ⟨Ao37, co37, eo37⟩ := Kd.R_slice HO297.out; subst eo37; have hnb38 := NB291_290.out; have hnc38 := NB290_291.out; have hcz39_0 : w36.cell? ⟨gb291, 0, none⟩ = some (.slice none 0 0) := (blk_cell BK291.out 0).trans rfl; have hfz39_0 := blk_frozen BK291.out 0))
        refine bodyPost_ret (results_ct rfl _ _ gb291 55 #[.slice Ao37 t295.length co37] (0, 0) _ rfl (by (with_reducible repeat (first | refine blk_drewN ?_ _ | refine blk_drew ?_ | refine blk_alloc ?_ _)); refine blk_put (cs := #[.slice none 0 0]) ?_ 0 _ rfl; (with_reducible repeat (first | refine blk_drewN ?_ _ | refine blk_drew ?_ | refine blk_alloc ?_ _)); exact BK291.out) Try.underlying55 rfl (by kernel_rfl)) rfl ?_
        exact ⟨_, by first | rfl | (simp [errW_none, errW_some] <;> rfl) | (simp [*, errW_none, errW_some] <;> rfl), by (with_reducible repeat (first | apply Kd.R_alloc | apply Kd.R_drewN | apply Kd.R_drew)); exact Kd.R_mono (Kd.R_far (p := ⟨gb291, 0, none⟩) (Kd.R_types HO297.out BK291.out (by decide)) (fun _ hk => hk.2) (.slice Ao37 t295.length co37)) (fun _ hk => trivial), zh3 HB GE289 GE290 GE291⟩
      · replace c31 := Bool.eq_false_iff.mpr c31
        subst c31
        have H1 : ((impl_copyTrie.f l0_0).bind fun t298 => (impl_TriePut.l0 kj3 a2 0 a1_1 0 l0_0 a1_0 a1_1 t298)) = some (r1, r2) := by rw [if_neg (show ¬ (false = true) by decide)] at H; exact H
        clear H
        have H := H1
        clear H1
        replace H := Option.bind_eq_some_iff.mp H
        obtain ⟨t298, A400, H⟩ := H
        replace H : (impl_TriePut.l0 kj3 a2 0 a1_1 0 l0_0 a1_0 a1_1 t298) = some (r1, r2) := H
        have A40 := Aside0.mk A400
        clear A400
        have H' := Aside0.mk H
        clear H
        have hnb41 := NB289_290.out
        have hnc41 := NB290_289.out
        have hnb42 := NB289_291.out
        have hnc42 := NB291_289.out
        have hcz43_0 : wc.cell? ⟨gb289, 0, none⟩ = some (.slice A0_0 l0_0.length c0_0) := (blk_cell BK289.out 0).trans rfl
        have hfz43_0 := blk_frozen BK289.out 0
        go_wp2_with (first | ((with_reducible refine gate_callee (f := 94) rfl ?_); refine goesL_ (some 29) rfl rfl Try.func94 (by kernel_rfl) rfl #[.agg #[.slice A0_0 l0_0.length c0_0]] rfl (by (try simp only [List.map_toArray, List.map_cons, List.map_nil]); first | done | rfl | (simp only [List.length_drop, List.length_take]; rfl)) ?_; (with_reducible refine (impl_copyTrie.calls _ _ l0_0 t298 _ ?side1 ?side2 A40.out).mono ?_); (case side1 => repeat (first | exact (Kd.C_below HR0_0.out HB.out) | (with_reducible refine Kd.C_alloc ?_ _) | (with_reducible refine Kd.C_drewN ?_ _) | (with_reducible refine Kd.C_drew ?_))); (case side2 => exact HC0_0.out); rintro e w44 ⟨v299, rfl, ho0, hb⟩; refine ⟨_, rfl, ?_⟩; have HO300 := Aside0.mk (Kd.R_lower ho0 (below_size (zh3 HB GE289 GE290 GE291))); replace BK289 := zk BK289 hb; replace BK290 := zk BK290 hb; replace BK291 := zk BK291 hb; replace HB := Aside0.mk (below_step (zh3 HB GE289 GE290 GE291) hb); (try clear hb); (try clear hb2); (try clear hk); (try clear hi); (try clear ho0)) | ((with_reducible refine gate_dst (N := 8) rfl ?_); refine box_event ?hg (N := 8) ?hd (cs := #[.slice none 0 0]) (t := 55) ?hr ?_; (case hd => rfl); (case hg => rfl); (case hr => first | (go_simp; done) | (go_simp; rfl)); intro gb301 hg w45 hbox hb; replace HO300 := Aside0.mk (Kd.R_below (zr HO300) hb); have BK301 := Aside0.mk (hbox); have GW301 := Aside0.mk ((by rw [hg]; exact (below_size (zh3 HB GE289 GE290 GE291)) : w.heap.size ≤ gb301)); have GE301 := Aside0.mk ((by rw [hg]; exact (below_size (zh3 HB GE289 GE290 GE291)) : w.heap.size ≤ gb301)); replace HB := Aside0.mk (below_step (zh3 HB GE289 GE290 GE291) hb); have NB289_301 := Aside0.mk ((by rw [hg]; exact Nat.ne_of_lt (blk_lt (g := gb289) (o := .cells #[.slice A0_0 l0_0.length c0_0] 55 (0, 0)) (zb BK289)) : gb289 ≠ gb301)); have NB301_289 := Aside0.mk ((by rw [hg]; exact Nat.ne_of_gt (blk_lt (g := gb289) (o := .cells #[.slice A0_0 l0_0.length c0_0] 55 (0, 0)) (zb BK289)) : gb301 ≠ gb289)); replace BK289 := zk BK289 hb; have NB290_301 := Aside0.mk ((by rw [hg]; exact Nat.ne_of_lt (blk_lt (g := gb290) (o := .cells #[.int .i64 a1_0, .int .i64 a1_1] 40 (0, 0)) (zb BK290)) : gb290 ≠ gb301)); have NB301_290 := Aside0.mk ((by rw [hg]; exact Nat.ne_of_gt (blk_lt (g := gb290) (o := .cells #[.int .i64 a1_0, .int .i64 a1_1] 40 (0, 0)) (zb BK290)) : gb301 ≠ gb290)); replace BK290 := zk BK290 hb; have NB291_301 := Aside0.mk ((by rw [hg]; exact Nat.ne_of_lt (blk_lt (g := gb291) (o := .cells #[.slice none 0 0] 55 (0, 0)) (zb BK291)) : gb291 ≠ gb301)); have NB301_291 := Aside0.mk ((by rw [hg]; exact Nat.ne_of_gt (blk_lt (g := gb291) (o := .cells #[.slice none 0 0] 55 (0, 0)) (zb BK291)) : gb301 ≠ gb291)); replace BK291 := zk BK291 hb; clear hb hbox hg; obtain ⟨Ao46, co46, eo46⟩ := Kd.R_slice HO300.out; subst eo46; have hnb47 := NB301_289.out; have hnc47 := NB289_301.out; have hnb48 := NB301_290.out; have hnc48 := NB290_301.out; have hnb49 := NB301_291.out; have hnc49 := NB291_301.out; have hcz50_0 : w45.cell? ⟨gb301, 0, none⟩ = some (.slice none 0 0) := (blk_cell BK301.out 0).trans rfl; have hfz50_0 := blk_frozen BK301.out 0; have hnb51 := NB290_291.out; have hnc51 := NB291_290.out; have hcz52_0 : w45.cell? ⟨gb290, 0, none⟩ = some (.int .i64 a1_0) := (blk_cell BK290.out 0).trans rfl; have hcz52_1 : w45.cell? ⟨gb290, 1, none⟩ = some (.int .i64 a1_1) := (blk_cell BK290.out 1).trans rfl; have hfz52_0 := blk_frozen BK290.out 0; have hfz52_1 := blk_frozen BK290.out 1))
        go_loopg [9, 32] kj3 (fun kq v9 v32 w' => ∃ (x9_2 : Int) (x32_2 : Int) (x302000_2 : List (S104)) (u302000 : Value), v9 = .int .i64 x9_2 ∧ v32 = .int .i64 x32_2 ∧ Aside0 (impl_TriePut.l0 kq a2 x9_2 a1_1 x32_2 l0_0 a1_0 a1_1 x302000_2 = some (r1, r2)) ∧ Aside0 (kq ≤ kj3) ∧ Aside0 (Kd.R k104 104 w' w.heap.size (fun _ => True) u302000 x302000_2) ∧ Aside0 (w'.heap[gb289]? = some (.cells #[(.slice A0_0 l0_0.length c0_0)] 55 (0, 0))) ∧ Aside0 (w'.heap[gb290]? = some (.cells #[.int .i64 a1_0, .int .i64 a1_1] 40 (0, 0))) ∧ Aside0 (w'.heap[gb291]? = some (.cells #[(.slice none 0 0)] 55 (0, 0))) ∧ Aside0 (w'.heap[gb301]? = some (.cells #[u302000] 55 (0, 0))) ∧ Aside0 (Below w.heap.size w w'))
        case atStart => exact ⟨(0), (0), (t298), (.slice Ao46 t298.length co46), (by first | rfl | (simp; done) | (simp [*]; done)), (by first | rfl | (simp; done) | (simp [*]; done)), H', ⟨Nat.le_refl _⟩, ⟨by (with_reducible repeat (first | apply Kd.R_alloc | apply Kd.R_drewN | apply Kd.R_drew)); exact Kd.R_mono (Kd.R_far (p := ⟨gb301, 0, none⟩) (Kd.R_types HO300.out BK301.out (by decide)) (fun _ hk => hk.2) (.slice Ao46 t298.length co46)) (fun _ hk => trivial)⟩, ⟨by (with_reducible repeat (first | refine blk_drewN ?_ _ | refine blk_drew ?_ | refine blk_alloc ?_ _)); refine blk_far ?_ NB289_301.out _; (with_reducible repeat (first | refine blk_drewN ?_ _ | refine blk_drew ?_ | refine blk_alloc ?_ _)); exact BK289.out⟩, ⟨by (with_reducible repeat (first | refine blk_drewN ?_ _ | refine blk_drew ?_ | refine blk_alloc ?_ _)); refine blk_far ?_ NB290_301.out _; (with_reducible repeat (first | refine blk_drewN ?_ _ | refine blk_drew ?_ | refine blk_alloc ?_ _)); exact BK290.out⟩, ⟨by (with_reducible repeat (first | refine blk_drewN ?_ _ | refine blk_drew ?_ | refine blk_alloc ?_ _)); refine blk_far ?_ NB291_301.out _; (with_reducible repeat (first | refine blk_drewN ?_ _ | refine blk_drew ?_ | refine blk_alloc ?_ _)); exact BK291.out⟩, ⟨by (with_reducible repeat (first | refine blk_drewN ?_ _ | refine blk_drew ?_ | refine blk_alloc ?_ _)); refine blk_put (cs := #[.slice none 0 0]) ?_ 0 _ rfl; (with_reducible repeat (first | refine blk_drewN ?_ _ | refine blk_drew ?_ | refine blk_alloc ?_ _)); exact BK301.out⟩, ⟨zh4 HB GE289 GE290 GE291 GE301⟩⟩
        case round =>
          clear H'
          try clear c1
          try clear c2
          try clear p2
          try clear c3
          try clear c4
          try clear c5
          try clear c9
          try clear c11
          try clear c13
          try clear c14
          try clear c17
          try clear c20
          try clear c21
          try clear c24
          try clear c27
          try clear c28
          try clear c31
          try clear c33
          try clear c34
          try clear c38
          try clear c41
          try clear c42
          try clear c45
          try clear c47
          try clear c48
          try clear c49
          try clear c51
          try clear hcz15_0
          try clear hcz18_0
          try clear hcz18_1
          try clear hcz22_0
          try clear hcz25_0
          try clear hcz25_1
          try clear hcz29_0
          try clear hcz35_0
          try clear hcz39_0
          try clear hcz43_0
          try clear hcz50_0
          try clear hcz52_0
          try clear hcz52_1
          try clear hfz15_0
          try clear hfz18_0
          try clear hfz18_1
          try clear hfz22_0
          try clear hfz25_0
          try clear hfz25_1
          try clear hfz29_0
          try clear hfz35_0
          try clear hfz39_0
          try clear hfz43_0
          try clear hfz50_0
          try clear hfz52_0
          try clear hfz52_1
          try clear p2
          obtain ⟨x9_2, x32_2, x302000_2, u302000, rfl, rfl, HA, HK2, HO_302000, BK289, BK290, BK291, BK301, HB⟩ := hrel
          cases gk with
          | zero => exact absurd HA.out (by simp [impl_TriePut.l0])
          | succ k2 =>
            have H := HA.out
            clear HA
            simp only [impl_TriePut.l0] at H
            by_cases c53 : x32_2 < a1_1
            · rw [if_pos c53] at H
              have c53b0 : decide (x32_2 < a1_1) = true := decide_eq_true c53
              clear c53
              replace H := Option.bind_eq_some_iff.mp H
              obtain ⟨t306, A540, H⟩ := H
              replace H : (if 0 ≤ x9_2 then (if x9_2 < (x302000_2.length : Int) then ((impl_along.f ((rd_T104 x302000_2 x9_2).f0) ((rd_T104 x302000_2 x9_2).f1) ((rd_T104 x302000_2 x9_2).f2) t306).bind fun t308 => (if t308 = 0 then (if x302000_2.length < 5864062014805 then ((some (x302000_2 ++ [(⟨0, 0, 0⟩ : S104)] : List (S104))).bind fun y309 => (if t306 = 0 then (if x9_2 < (y309.length : Int) then (impl_TriePut.l0 k2 a2 (x302000_2.length : Int) a1_1 (wrap64 (x32_2 + 1)) l0_0 a1_0 a1_1 (y309.set (x9_2 : Int).toNat (⟨(x302000_2.length : Int), (rd_T104 y309 x9_2).f1, (rd_T104 y309 x9_2).f2⟩ : S104))) else (none)) else (if x9_2 < (y309.length : Int) then (impl_TriePut.l0 k2 a2 (x302000_2.length : Int) a1_1 (wrap64 (x32_2 + 1)) l0_0 a1_0 a1_1 (y309.set (x9_2 : Int).toNat (⟨(rd_T104 y309 x9_2).f0, (x302000_2.length : Int), (rd_T104 y309 x9_2).f2⟩ : S104))) else (none)))) else (none)) else (impl_TriePut.l0 k2 a2 t308 a1_1 (wrap64 (x32_2 + 1)) l0_0 a1_0 a1_1 x302000_2))) else (none)) else (none)) = some (r1, r2) := H
              have A54 := Aside0.mk A540
              clear A540
              by_cases c55 : 0 ≤ x9_2
              · rw [if_pos c55] at H
                have c55b0 : decide (0 ≤ x9_2) = true := decide_eq_true c55
                clear c55
                by_cases c56 : x9_2 < (x302000_2.length : Int)
                · rw [if_pos c56] at H
                  have c56b0 : decide (x9_2 < (x302000_2.length : Int)) = true := decide_eq_true c56
                  clear c56
                  replace H := Option.bind_eq_some_iff.mp H
                  obtain ⟨t308, A570, H⟩ := H
                  replace H : (if t308 = 0 then (if x302000_2.length < 5864062014805 then ((some (x302000_2 ++ [(⟨0, 0, 0⟩ : S104)] : List (S104))).bind fun y309 => (if t306 = 0 then (if x9_2 < (y309.length : Int) then (impl_TriePut.l0 k2 a2 (x302000_2.length : Int) a1_1 (wrap64 (x32_2 + 1)) l0_0 a1_0 a1_1 (y309.set (x9_2 : Int).toNat (⟨(x302000_2.length : Int), (rd_T104 y309 x9_2).f1, (rd_T104 y309 x9_2).f2⟩ : S104))) else (none)) else (if x9_2 < (y309.length : Int) then (impl_TriePut.l0 k2 a2 (x302000_2.length : Int) a1_1 (wrap64 (x32_2 + 1)) l0_0 a1_0 a1_1 (y309.set (x9_2 : Int).toNat (⟨(rd_T104 y309 x9_2).f0, (x302000_2.length : Int), (rd_T104 y309 x9_2).f2⟩ : S104))) else (none)))) else (none)) else (impl_TriePut.l0 k2 a2 t308 a1_1 (wrap64 (x32_2 + 1)) l0_0 a1_0 a1_1 x302000_2)) = some (r1, r2) := H
                  have A57 := Aside0.mk A570
                  clear A570
                  by_cases c58 : t308 = 0
                  · rw [if_pos c58] at H
                    have c58b0 : (t308 == 0) = true := beq_iff_eq.mpr c58
                    have c58b1 : (t308 != 0) = false := bne_eq_false_iff_eq.mpr c58
                    clear c58
                    by_cases c59 : x302000_2.length < 5864062014805
                    · rw [if_pos c59] at H
                      have LMc59 := Aside0.mk c59
                      clear c59
                      obtain ⟨y309, hy309⟩ : ∃ y_ : List (S104), y_ = (x302000_2 ++ [(⟨0, 0, 0⟩ : S104)]) := ⟨_, rfl⟩
                      replace H : (if t306 = 0 then (if x9_2 < (y309.length : Int) then (impl_TriePut.l0 k2 a2 (x302000_2.length : Int) a1_1 (wrap64 (x32_2 + 1)) l0_0 a1_0 a1_1 (y309.set (x9_2 : Int).toNat (⟨(x302000_2.length : Int), (rd_T104 y309 x9_2).f1, (rd_T104 y309 x9_2).f2⟩ : S104))) else (none)) else (if x9_2 < (y309.length : Int) then (impl_TriePut.l0 k2 a2 (x302000_2.length : Int) a1_1 (wrap64 (x32_2 + 1)) l0_0 a1_0 a1_1 (y309.set (x9_2 : Int).toNat (⟨(rd_T104 y309 x9_2).f0, (x302000_2.length : Int), (rd_T104 y309 x9_2).f2⟩ : S104))) else (none))) = some (r1, r2) := by first | (rw [hy309]; with_reducible exact H) | (have H2_ := (Option.bind_some _ _).symm.trans H; rw [hy309]; with_reducible exact H2_) | (have H2_ := (Option.bind_some _ _).symm.trans H; with_reducible exact H2_) | with_reducible exact H | (rw [hy309]; exact H) | exact H
                      have Ny309 := Aside0.mk hy309
                      clear hy309
                      by_cases c60 : t306 = 0
                      · rw [if_pos c60] at H
                        have c60b0 : (t306 == 0) = true := beq_iff_eq.mpr c60
                        have c60b1 : (t306 != 0) = false := bne_eq_false_iff_eq.mpr c60
                        clear c60
                        by_cases c61 : x9_2 < (y309.length : Int)
                        · rw [if_pos c61] at H
                          have c61b0 : decide (x9_2 < (y309.length : Int)) = true := decide_eq_true c61
                          clear c61
                          obtain ⟨y312, hy312⟩ : ∃ y_ : List (S104), y_ = (y309.set (x9_2 : Int).toNat (⟨(x302000_2.length : Int), (rd_T104 y309 x9_2).f1, (rd_T104 y309 x9_2).f2⟩ : S104)) := ⟨_, rfl⟩
                          replace H : (impl_TriePut.l0 k2 a2 (x302000_2.length : Int) a1_1 (wrap64 (x32_2 + 1)) l0_0 a1_0 a1_1 y312) = some (r1, r2) := by first | (rw [hy312]; with_reducible exact H) | (have H2_ := (Option.bind_some _ _).symm.trans H; rw [hy312]; with_reducible exact H2_) | (have H2_ := (Option.bind_some _ _).symm.trans H; with_reducible exact H2_) | with_reducible exact H | (rw [hy312]; exact H) | exact H
                          have Ny312 := Aside0.mk hy312
                          clear hy312
                          have H' := Aside0.mk H
                          clear H
                          have hnb63 := NB290_289.out
                          have hnc63 := NB289_290.out
                          have hnb64 := NB290_291.out
                          have hnc64 := NB291_290.out
                          have hnb65 := NB290_301.out
                          have hnc65 := NB301_290.out
                          have hcz66_0 : wr.cell? ⟨gb290, 0, none⟩ = some (.int .i64 a1_0) := (blk_cell BK290.out 0).trans rfl
                          have hcz66_1 : wr.cell? ⟨gb290, 1, none⟩ = some (.int .i64 a1_1) := (blk_cell BK290.out 1).trans rfl
                          have hfz66_0 := blk_frozen BK290.out 0
                          have hfz66_1 := blk_frozen BK290.out 1
                          go_wp2_with (first | ((with_reducible refine gate_callee (f := 80) rfl ?_); refine goesL_ (some 38) rfl rfl Try.func80 (by kernel_rfl) rfl #[.int .i64 a1_0, .int .i64 x32_2] rfl (by (try simp only [List.map_toArray, List.map_cons, List.map_nil]); first | done | rfl | (simp only [List.length_drop, List.length_take]; rfl)) ?_; (with_reducible refine (impl_bitOf.calls a1_0 x32_2 t306 _ A54.out).mono ?_); rintro e w' ⟨rfl, ⟨nd, rfl⟩⟩; refine ⟨_, rfl, ?_⟩; (try (rw [drewN_self wr]; generalize hq_ : World.drewN wr _ = wr; have n0_ : Aside0 (Kd.R k104 104 wr w.heap.size (fun _ => True) u302000 x302000_2) := ⟨by rw [← hq_]; exact (zr HO_302000)⟩; have n1_ : Aside0 (wr.heap[gb289]? = some (.cells #[.slice A0_0 l0_0.length c0_0] 55 (0, 0))) := ⟨by rw [← hq_]; exact (zb BK289)⟩; have n2_ : Aside0 (wr.heap[gb290]? = some (.cells #[.int .i64 a1_0, .int .i64 a1_1] 40 (0, 0))) := ⟨by rw [← hq_]; exact (zb BK290)⟩; have n3_ : Aside0 (wr.heap[gb291]? = some (.cells #[.slice none 0 0] 55 (0, 0))) := ⟨by rw [← hq_]; exact (zb BK291)⟩; have n4_ : Aside0 (wr.heap[gb301]? = some (.cells #[u302000] 55 (0, 0))) := ⟨by rw [← hq_]; exact (zb BK301)⟩; have n5_ : Aside0 (Below w.heap.size w wr) := ⟨by rw [← hq_]; exact (zh4 HB GE289 GE290 GE291 GE301)⟩; clear HO_302000 BK289 BK290 BK291 BK301 HB hq_; have HO_302000 := n0_; have BK289 := n1_; have BK290 := n2_; have BK291 := n3_; have BK301 := n4_; have HB := n5_; clear n0_ n1_ n2_ n3_ n4_ n5_)); have hnb67 := NB301_289.out; have hnc67 := NB289_301.out; have hnb68 := NB301_291.out; have hnc68 := NB291_301.out; have hcz69_0 : wr.cell? ⟨gb301, 0, none⟩ = some (u302000) := (blk_cell BK301.out 0).trans rfl; have hfz69_0 := blk_frozen BK301.out 0; obtain ⟨Ao70, co70, eo70⟩ := Kd.R_slice HO_302000.out; subst eo70; have p307 : 0 ≤ (x9_2 : Int) := of_decide_eq_true (by first | (with_reducible assumption) | assumption); have q307 : x9_2 < (x302000_2.length : Int) := of_decide_eq_true (by first | (with_reducible assumption) | assumption); obtain ⟨ad307, e307, hx307_0, hx307_1, hx307_2⟩ := at_T104 (Kd.R_reads' HO_302000.out).2.2 x9_2 p307 q307; cases e307; replace p307 := eq_true p307; replace q307 := eq_true q307) | ((with_reducible refine gate_callee (f := 79) rfl ?_); refine goesL_ (some 45) rfl rfl Try.func79 (by kernel_rfl) rfl #[.agg #[.int .i64 ((rd_T104 x302000_2 x9_2).f0), .int .i64 ((rd_T104 x302000_2 x9_2).f1), .int .i64 ((rd_T104 x302000_2 x9_2).f2)], .int .i64 t306] rfl (by (try simp only [List.map_toArray, List.map_cons, List.map_nil]); first | done | rfl | (simp only [List.length_drop, List.length_take]; rfl)) ?_; (with_reducible refine (impl_along.calls ((rd_T104 x302000_2 x9_2).f0) ((rd_T104 x302000_2 x9_2).f1) ((rd_T104 x302000_2 x9_2).f2) t306 t308 _ A57.out).mono ?_); rintro e w71 ⟨rfl, hb⟩; refine ⟨_, rfl, ?_⟩; replace HO_302000 := Aside0.mk (Kd.R_below (zr HO_302000) hb); replace BK289 := zk BK289 hb; replace BK290 := zk BK290 hb; replace BK291 := zk BK291 hb; replace BK301 := zk BK301 hb; replace HB := Aside0.mk (below_step (zh4 HB GE289 GE290 GE291 GE301) hb); (try clear hb); (try clear hb2); (try clear hk); (try clear hi); have hcz72_0 : w71.cell? ⟨gb301, 0, none⟩ = some (.slice (some ad307) x302000_2.length co70) := (blk_cell BK301.out 0).trans rfl; have hfz72_0 := blk_frozen BK301.out 0) | ((with_reducible refine gate_builtin (b := .append) (xs := #[.tmp 52, .tmp 54]) rfl ?_); at_builtin; refine Kd.R_append k104 (w0 := w) w.heap.size rfl (.tmp 52) (.tmp 54) 53 104 (.agg #[(.int .i64 0), (.int .i64 0), (.int .i64 0)]) 24 rfl Try.underlying53 info104 rfl (by decide) (by omega) (.slice (some ad307) x302000_2.length co70) x302000_2 (⟨0, 0, 0⟩ : S104) [.int .i64 0, .int .i64 0, .int .i64 0] (fun _ => True) (fun _ => False) rfl rfl ?aP (fun _ hk => hk.elim) ?aF ?aO ?aB ?aS ?aL ?_; (case aP => exact k104_mkM _ _ _ (⟨0, 0, 0⟩ : S104)); (case aB => exact (zh4 HB GE289 GE290 GE291 GE301)); (case aF => exact (fun _ _ => trivial)); (case aO => exact (zr HO_302000)); (case aS => exact (below_size (zh4 HB GE289 GE290 GE291 GE301))); (case aL => have := LMc59.out; omega); intro v310 w73 ho hb hg hat; rw [← Ny309.out] at ho; replace BK289 := Aside0.mk (blk_grown (g := gb289) (o := .cells #[.slice A0_0 l0_0.length c0_0] 55 (0, 0)) (zb BK289) hg (Kd.R_ne HO_302000.out BK289.out (by decide))); replace BK290 := Aside0.mk (blk_grown (g := gb290) (o := .cells #[.int .i64 a1_0, .int .i64 a1_1] 40 (0, 0)) (zb BK290) hg (Kd.R_ne HO_302000.out BK290.out (by decide))); replace BK291 := Aside0.mk (blk_grown (g := gb291) (o := .cells #[.slice none 0 0] 55 (0, 0)) (zb BK291) hg (Kd.R_ne HO_302000.out BK291.out (by decide))); replace BK301 := Aside0.mk (blk_grown (g := gb301) (o := .cells #[.slice (some ad307) x302000_2.length co70] 55 (0, 0)) (zb BK301) hg (Kd.R_ne HO_302000.out BK301.out (by decide))); replace HB := Aside0.mk (hb); have HO311 := Aside0.mk (ho); clear HO_302000; clear ho hb hg hat; obtain ⟨Ao74, co74, eo74⟩ := Kd.R_slice HO311.out; subst eo74; have hcz75_0 : w73.cell? ⟨gb301, 0, none⟩ = some (.slice (some ad307) x302000_2.length co70) := (blk_cell BK301.out 0).trans rfl; have hfz75_0 := blk_frozen BK301.out 0) | ((with_reducible refine gate_store (t := 53) (p := 56) rfl ?_); refine store_event (t := 53) (p := 56) (v := ?vo_w76) (w1 := (w73.setCell ⟨gb301, 0, none⟩ (.slice Ao74 y309.length co74))) ?hg ?ho ?hn ?hr ?_; (case ho => rfl); (case hg => rfl); (case hn => rfl); (case hr => first | (go_simp; done) | (go_simp; rfl)); intro w76 hw; have n0_ : Aside0 (Kd.R k104 104 w76 w.heap.size (fun _ => True) (.slice Ao74 y309.length co74) y309) := ⟨(by rw [hw]; exact (by (with_reducible repeat (first | apply Kd.R_alloc | apply Kd.R_drewN | apply Kd.R_drew)); exact Kd.R_mono (Kd.R_far (p := ⟨gb301, 0, none⟩) (Kd.R_types HO311.out BK301.out (by decide)) (fun _ hk => hk.2) (.slice Ao74 y309.length co74)) (fun _ hk => trivial)))⟩; have n1_ : Aside0 (w76.heap[gb289]? = some (.cells #[.slice A0_0 l0_0.length c0_0] 55 (0, 0))) := ⟨(by rw [hw]; exact (by (with_reducible repeat (first | refine blk_drewN ?_ _ | refine blk_drew ?_ | refine blk_alloc ?_ _)); refine blk_far ?_ NB289_301.out _; (with_reducible repeat (first | refine blk_drewN ?_ _ | refine blk_drew ?_ | refine blk_alloc ?_ _)); exact BK289.out))⟩; have n2_ : Aside0 (w76.heap[gb290]? = some (.cells #[.int .i64 a1_0, .int .i64 a1_1] 40 (0, 0))) := ⟨(by rw [hw]; exact (by (with_reducible repeat (first | refine blk_drewN ?_ _ | refine blk_drew ?_ | refine blk_alloc ?_ _)); refine blk_far ?_ NB290_301.out _; (with_reducible repeat (first | refine blk_drewN ?_ _ | refine blk_drew ?_ | refine blk_alloc ?_ _)); exact BK290.out))⟩; have n3_ : Aside0 (w76.heap[gb291]? = some (.cells #[.slice none 0 0] 55 (0, 0))) := ⟨(by rw [hw]; exact (by (with_reducible repeat (first | refine blk_drewN ?_ _ | refine blk_drew ?_ | refine blk_alloc ?_ _)); refine blk_far ?_ NB291_301.out _; (with_reducible repeat (first | refine blk_drewN ?_ _ | refine blk_drew ?_ | refine blk_alloc ?_ _)); exact BK291.out))⟩; have n4_ : Aside0 (w76.heap[gb301]? = some (.cells #[.slice Ao74 y309.length co74] 55 (0, 0))) := ⟨(by rw [hw]; exact (by (with_reducible repeat (first | refine blk_drewN ?_ _ | refine blk_drew ?_ | refine blk_alloc ?_ _)); refine blk_put (cs := #[.slice (some ad307) x302000_2.length co70]) ?_ 0 _ rfl; (with_reducible repeat (first | refine blk_drewN ?_ _ | refine blk_drew ?_ | refine blk_alloc ?_ _)); exact BK301.out))⟩; have n5_ : Aside0 (Below w.heap.size w w76) := ⟨(by rw [hw]; exact (zh4 HB GE289 GE290 GE291 GE301))⟩; clear hw; clear HO311; clear BK289; clear BK290; clear BK291; clear BK301; clear HB; have HO311 := n0_; have BK289 := n1_; have BK290 := n2_; have BK291 := n3_; have BK301 := n4_; have HB := n5_; clear n0_ n1_ n2_ n3_ n4_ n5_; have hcz77_0 : w76.cell? ⟨gb301, 0, none⟩ = some (.slice Ao74 y309.length co74) := (blk_cell BK301.out 0).trans rfl; have hfz77_0 := blk_frozen BK301.out 0; have p62 : 0 ≤ (x9_2 : Int) := of_decide_eq_true (by first | (with_reducible assumption) | assumption); have q62 : (x9_2 : Int) < ((y309.length : Int) : Int) := of_decide_eq_true (by first | (with_reducible assumption) | assumption); obtain ⟨go62, co62, eo62, gb62, gl62, cl62, HG62⟩ := Kd.R_form HO311.out (by omega); (first | cases eo62 | (injection eo62 with ea_ en_ ec_; (first | subst ea_ | (injection ea_ with ea_; subst ea_)); subst ec_; clear en_)); have GB62 := Aside0.mk gb62; have GG62 := Aside0.mk HG62; clear gb62 gl62 HG62; obtain ⟨ce62, hcl62, hM62, hcc62, hfr62⟩ := Kd.R_elem HO311.out z104 (x9_2 : Int) p62 q62; obtain rfl := k104_openM hM62; have hx62_0 : w76.cell? ⟨go62, (x9_2 : Int).toNat * 3, none⟩ = some (.int .i64 ((rd_T104 y309 x9_2).f0)) := hcc62 0 _ rfl; have hx62_1 : w76.cell? ⟨go62, (x9_2 : Int).toNat * 3 + 1, none⟩ = some (.int .i64 ((rd_T104 y309 x9_2).f1)) := hcc62 1 _ rfl; have hx62_2 : w76.cell? ⟨go62, (x9_2 : Int).toNat * 3 + 2, none⟩ = some (.int .i64 ((rd_T104 y309 x9_2).f2)) := hcc62 2 _ rfl; have hf62_0 : w76.frozen? ⟨go62, (x9_2 : Int).toNat * 3, none⟩ = false := hfr62 0; have hf62_1 : w76.frozen? ⟨go62, (x9_2 : Int).toNat * 3 + 1, none⟩ = false := hfr62 1; have hf62_2 : w76.frozen? ⟨go62, (x9_2 : Int).toNat * 3 + 2, none⟩ = false := hfr62 2; clear hcl62 hcc62 hfr62 hM62; replace p62 := eq_true p62; replace q62 := eq_true q62; have HX78 := Aside0.mk (show Kd.R k104 104 w76 w.heap.size (fun _ => True) (.slice (some ⟨go62, 0, none⟩) y309.length co74) y309 from (zr HO311)); obtain ⟨ce78, hcl78, hM78, hcc78, hfr78⟩ := Kd.R_elem HX78.out z104 (x9_2 : Int) (of_decide_eq_true (by first | (with_reducible assumption) | assumption)) (by have h_ : (x9_2 : Int) < ((y309.length : Int) : Int) := of_decide_eq_true (by first | (with_reducible assumption) | assumption); first | exact h_ | (have e_ := (Kd.R_reads' HO311.out).1; omega) | simpa using h_); obtain rfl := k104_openM hM78; have HP78 := Kd.R_seg HX78.out (x9_2 : Int) (of_decide_eq_true (by first | (with_reducible assumption) | assumption)) (by have h_ : (x9_2 : Int) < ((y309.length : Int) : Int) := of_decide_eq_true (by first | (with_reducible assumption) | assumption); first | exact h_ | (have e_ := (Kd.R_reads' HO311.out).1; omega) | simpa using h_) (seg := [.int .i64 (x302000_2.length : Int)]) (j := 0) hcl78 hcc78 (show 1 ≤ 3 from by decide) (x' := (⟨(x302000_2.length : Int), (rd_T104 y309 x9_2).f1, (rd_T104 y309 x9_2).f2⟩ : S104)) (k104_mkM _ _ _ (⟨(x302000_2.length : Int), (rd_T104 y309 x9_2).f1, (rd_T104 y309 x9_2).f2⟩ : S104) ) (fun _ hk => hk); have hx78_0 := hcc78 0 _ rfl; (try simp only [show (k104).sz = 3 from rfl, Nat.mul_one, Nat.add_zero] at hx78_0); have hf78_0 := hfr78 0; (try simp only [show (k104).sz = 3 from rfl, Nat.mul_one, Nat.add_zero] at hf78_0); clear hcl78 hcc78 hfr78 hM78) | ((with_reducible refine gate_store (t := 3) (p := 64) rfl ?_); refine store_event (t := 3) (p := 64) (v := ?vo_w79) (w1 := (w76.setCell ⟨go62, (x9_2 : Int).toNat * 3, none⟩ (.int .i64 (x302000_2.length : Int)))) ?hg ?ho ?hn ?hr ?_; (case ho => rfl); (case hg => rfl); (case hn => rfl); (case hr => first | (go_simp; done) | (go_simp; rfl)); intro w79 hw; have hg : w76.grownBy w79 (some go62) := (by rw [hw]; exact HP78.2); have hp_ : Kd.R k104 104 w79 w.heap.size (fun _ => True) (.slice (some ⟨go62, 0, none⟩) y309.length co74) y312 := (by rw [hw, Ny312.out]; exact HP78.1); clear HP78; replace BK289 := Aside0.mk (blk_grown (g := gb289) (o := .cells #[.slice A0_0 l0_0.length c0_0] 55 (0, 0)) (zb BK289) hg (Kd.R_ne HO311.out BK289.out (by decide))); replace BK290 := Aside0.mk (blk_grown (g := gb290) (o := .cells #[.int .i64 a1_0, .int .i64 a1_1] 40 (0, 0)) (zb BK290) hg (Kd.R_ne HO311.out BK290.out (by decide))); replace BK291 := Aside0.mk (blk_grown (g := gb291) (o := .cells #[.slice none 0 0] 55 (0, 0)) (zb BK291) hg (Kd.R_ne HO311.out BK291.out (by decide))); replace BK301 := Aside0.mk (blk_grown (g := gb301) (o := .cells #[.slice (some ⟨go62, 0, none⟩) y309.length co74] 55 (0, 0)) (zb BK301) hg (Kd.R_ne HO311.out BK301.out (by decide))); replace HO311 := Aside0.mk (hp_); replace HB := Aside0.mk ((by rw [hw]; exact below_set (HB.out) GB62.out : Below w.heap.size w w79)); clear hg hw hp_))
                          go_roundg k2
                          case measure => have := HJ3.out; have := HK2.out; omega
                          case rel => exact ⟨((x302000_2.length : Int)), (wrap64 (x32_2 + 1)), (y312), (.slice (some ⟨go62, 0, none⟩) y309.length co74), (by first | rfl | (simp; done) | (simp [*]; done)), (by first | rfl | (simp; done) | (simp [*]; done)), H', ⟨by have := HJ3.out; have := HK2.out; omega⟩, ⟨by (with_reducible repeat (first | apply Kd.R_alloc | apply Kd.R_drewN | apply Kd.R_drew)); exact HO311.out⟩, ⟨by (with_reducible repeat (first | refine blk_drewN ?_ _ | refine blk_drew ?_ | refine blk_alloc ?_ _)); exact BK289.out⟩, ⟨by (with_reducible repeat (first | refine blk_drewN ?_ _ | refine blk_drew ?_ | refine blk_alloc ?_ _)); exact BK290.out⟩, ⟨by (with_reducible repeat (first | refine blk_drewN ?_ _ | refine blk_drew ?_ | refine blk_alloc ?_ _)); exact BK291.out⟩, ⟨by (with_reducible repeat (first | refine blk_drewN ?_ _ | refine blk_drew ?_ | refine blk_alloc ?_ _)); exact BK301.out⟩, ⟨zh4 HB GE289 GE290 GE291 GE301⟩⟩
                        · rw [if_neg c61] at H
                          exact absurd H (by simp)
                      · rw [if_neg c60] at H
                        have c60b0 : (t306 == 0) = false := beq_eq_false_iff_ne.mpr c60
                        have c60b1 : (t306 != 0) = true := bne_iff_ne.mpr c60
                        by_cases c80 : x9_2 < (y309.length : Int)
                        · rw [if_pos c80] at H
                          have c80b0 : decide (x9_2 < (y309.length : Int)) = true := decide_eq_true c80
                          clear c80
                          obtain ⟨y313, hy313⟩ : ∃ y_ : List (S104), y_ = (y309.set (x9_2 : Int).toNat (⟨(rd_T104 y309 x9_2).f0, (x302000_2.length : Int), (rd_T104 y309 x9_2).f2⟩ : S104)) := ⟨_, rfl⟩
                          replace H : (impl_TriePut.l0 k2 a2 (x302000_2.length : Int) a1_1 (wrap64 (x32_2 + 1)) l0_0 a1_0 a1_1 y313) = some (r1, r2) := by first | (rw [hy313]; with_reducible exact H) | (have H2_ := (Option.bind_some _ _).symm.trans H; rw [hy313]; with_reducible exact H2_) | (have H2_ := (Option.bind_some _ _).symm.trans H; with_reducible exact H2_) | with_reducible exact H | (rw [hy313]; exact H) | exact H
                          have Ny313 := Aside0.mk hy313
                          clear hy313
                          have H' := Aside0.mk H
                          clear H
                          have hnb82 := NB290_289.out
                          have hnc82 := NB289_290.out
                          have hnb83 := NB290_291.out
                          have hnc83 := NB291_290.out
                          have hnb84 := NB290_301.out
                          have hnc84 := NB301_290.out
                          have hcz85_0 : wr.cell? ⟨gb290, 0, none⟩ = some (.int .i64 a1_0) := (blk_cell BK290.out 0).trans rfl
                          have hcz85_1 : wr.cell? ⟨gb290, 1, none⟩ = some (.int .i64 a1_1) := (blk_cell BK290.out 1).trans rfl
                          have hfz85_0 := blk_frozen BK290.out 0
                          have hfz85_1 := blk_frozen BK290.out 1
                          go_wp2_with (first | ((with_reducible refine gate_callee (f := 80) rfl ?_); refine goesL_ (some 38) rfl rfl Try.func80 (by kernel_rfl) rfl #[.int .i64 a1_0, .int .i64 x32_2] rfl (by (try simp only [List.map_toArray, List.map_cons, List.map_nil]); first | done | rfl | (simp only [List.length_drop, List.length_take]; rfl)) ?_; (with_reducible refine (impl_bitOf.calls a1_0 x32_2 t306 _ A54.out).mono ?_); rintro e w' ⟨rfl, ⟨nd, rfl⟩⟩; refine ⟨_, rfl, ?_⟩; (try (rw [drewN_self wr]; generalize hq_ : World.drewN wr _ = wr; have n0_ : Aside0 (Kd.R k104 104 wr w.heap.size (fun _ => True) u302000 x302000_2) := ⟨by rw [← hq_]; exact (zr HO_302000)⟩; have n1_ : Aside0 (wr.heap[gb289]? = some (.cells #[.slice A0_0 l0_0.length c0_0] 55 (0, 0))) := ⟨by rw [← hq_]; exact (zb BK289)⟩; have n2_ : Aside0 (wr.heap[gb290]? = some (.cells #[.int .i64 a1_0, .int .i64 a1_1] 40 (0, 0))) := ⟨by rw [← hq_]; exact (zb BK290)⟩; have n3_ : Aside0 (wr.heap[gb291]? = some (.cells #[.slice none 0 0] 55 (0, 0))) := ⟨by rw [← hq_]; exact (zb BK291)⟩; have n4_ : Aside0 (wr.heap[gb301]? = some (.cells #[u302000] 55 (0, 0))) := ⟨by rw [← hq_]; exact (zb BK301)⟩; have n5_ : Aside0 (Below w.heap.size w wr) := ⟨by rw [← hq_]; exact (zh4 HB GE289 GE290 GE291 GE301)⟩; clear HO_302000 BK289 BK290 BK291 BK301 HB hq_; have HO_302000 := n0_; have BK289 := n1_; have BK290 := n2_; have BK291 := n3_; have BK301 := n4_; have HB := n5_; clear n0_ n1_ n2_ n3_ n4_ n5_)); have hnb86 := NB301_289.out; have hnc86 := NB289_301.out; have hnb87 := NB301_291.out; have hnc87 := NB291_301.out; have hcz88_0 : wr.cell? ⟨gb301, 0, none⟩ = some (u302000) := (blk_cell BK301.out 0).trans rfl; have hfz88_0 := blk_frozen BK301.out 0; obtain ⟨Ao89, co89, eo89⟩ := Kd.R_slice HO_302000.out; subst eo89; have p307 : 0 ≤ (x9_2 : Int) := of_decide_eq_true (by first | (with_reducible assumption) | assumption); have q307 : x9_2 < (x302000_2.length : Int) := of_decide_eq_true (by first | (with_reducible assumption) | assumption); obtain ⟨ad307, e307, hx307_0, hx307_1, hx307_2⟩ := at_T104 (Kd.R_reads' HO_302000.out).2.2 x9_2 p307 q307; cases e307; replace p307 := eq_true p307; replace q307 := eq_true q307) | ((with_reducible refine gate_callee (f := 79) rfl ?_); refine goesL_ (some 45) rfl rfl Try.func79 (by kernel_rfl) rfl #[.agg #[.int .i64 ((rd_T104 x302000_2 x9_2).f0), .int .i64 ((rd_T104 x302000_2 x9_2).f1), .int .i64 ((rd_T104 x302000_2 x9_2).f2)], .int .i64 t306] rfl (by (try simp only [List.map_toArray, List.map_cons, List.map_nil]); first | done | rfl | (simp only [List.length_drop, List.length_take]; rfl)) ?_; (with_reducible refine (impl_along.calls ((rd_T104 x302000_2 x9_2).f0) ((rd_T104 x302000_2 x9_2).f1) ((rd_T104 x302000_2 x9_2).f2) t306 t308 _ A57.out).mono ?_); rintro e w90 ⟨rfl, hb⟩; refine ⟨_, rfl, ?_⟩; replace HO_302000 := Aside0.mk (Kd.R_below (zr HO_302000) hb); replace BK289 := zk BK289 hb; replace BK290 := zk BK290 hb; replace BK291 := zk BK291 hb; replace BK301 := zk BK301 hb; replace HB := Aside0.mk (below_step (zh4 HB GE289 GE290 GE291 GE301) hb); (try clear hb); (try clear hb2); (try clear hk); (try clear hi); have hcz91_0 : w90.cell? ⟨gb301, 0, none⟩ = some (.slice (some ad307) x302000_2.length co89) := (blk_cell BK301.out 0).trans rfl; have hfz91_0 := blk_frozen BK301.out 0) | ((with_reducible refine gate_builtin (b := .append) (xs := #[.tmp 52, .tmp 54]) rfl ?_); at_builtin; refine Kd.R_append k104 (w0 := w) w.heap.size rfl (.tmp 52) (.tmp 54) 53 104 (.agg #[(.int .i64 0), (.int .i64 0), (.int .i64 0)]) 24 rfl Try.underlying53 info104 rfl (by decide) (by omega) (.slice (some ad307) x302000_2.length co89) x302000_2 (⟨0, 0, 0⟩ : S104) [.int .i64 0, .int .i64 0, .int .i64 0] (fun _ => True) (fun _ => False) rfl rfl ?aP (fun _ hk => hk.elim) ?aF ?aO ?aB ?aS ?aL ?_; (case aP => exact k104_mkM _ _ _ (⟨0, 0, 0⟩ : S104)); (case aB => exact (zh4 HB GE289 GE290 GE291 GE301)); (case aF => exact (fun _ _ => trivial)); (case aO => exact (zr HO_302000)); (case aS => exact (below_size (zh4 HB GE289 GE290 GE291 GE301))); (case aL => have := LMc59.out; omega); intro v310 w92 ho hb hg hat; rw [← Ny309.out] at ho; replace BK289 := Aside0.mk (blk_grown (g := gb289) (o := .cells #[.slice A0_0 l0_0.length c0_0] 55 (0, 0)) (zb BK289) hg (Kd.R_ne HO_302000.out BK289.out (by decide))); replace BK290 := Aside0.mk (blk_grown (g := gb290) (o := .cells #[.int .i64 a1_0, .int .i64 a1_1] 40 (0, 0)) (zb BK290) hg (Kd.R_ne HO_302000.out BK290.out (by decide))); replace BK291 := Aside0.mk (blk_grown (g := gb291) (o := .cells #[.slice none 0 0] 55 (0, 0)) (zb BK291) hg (Kd.R_ne HO_302000.out BK291.out (by decide))); replace BK301 := Aside0.mk (blk_grown (g := gb301) (o := .cells #[.slice (some ad307) x302000_2.length co89] 55 (0, 0)) (zb BK301) hg (Kd.R_ne HO_302000.out BK301.out (by decide))); replace HB := Aside0.mk (hb); have HO311 := Aside0.mk (ho); clear HO_302000; clear ho hb hg hat; obtain ⟨Ao93, co93, eo93⟩ := Kd.R_slice HO311.out; subst eo93; have hcz94_0 : w92.cell? ⟨gb301, 0, none⟩ = some (.slice (some ad307) x302000_2.length co89) := (blk_cell BK301.out 0).trans rfl; have hfz94_0 := blk_frozen BK301.out 0) | ((with_reducible refine gate_store (t := 53) (p := 56) rfl ?_); refine store_event (t := 53) (p := 56) (v := ?vo_w95) (w1 := (w92.setCell ⟨gb301, 0, none⟩ (.slice Ao93 y309.length co93))) ?hg ?ho ?hn ?hr ?_; (case ho => rfl); (case hg => rfl); (case hn => rfl); (case hr => first | (go_simp; done) | (go_simp; rfl)); intro w95 hw; have n0_ : Aside0 (Kd.R k104 104 w95 w.heap.size (fun _ => True) (.slice Ao93 y309.length co93) y309) := ⟨(by rw [hw]; exact (by (with_reducible repeat (first | apply Kd.R_alloc | apply Kd.R_drewN | apply Kd.R_drew)); exact Kd.R_mono (Kd.R_far (p := ⟨gb301, 0, none⟩) (Kd.R_types HO311.out BK301.out (by decide)) (fun _ hk => hk.2) (.slice Ao93 y309.length co93)) (fun _ hk => trivial)))⟩; have n1_ : Aside0 (w95.heap[gb289]? = some (.cells #[.slice A0_0 l0_0.length c0_0] 55 (0, 0))) := ⟨(by rw [hw]; exact (by (with_reducible repeat (first | refine blk_drewN ?_ _ | refine blk_drew ?_ | refine blk_alloc ?_ _)); refine blk_far ?_ NB289_301.out _; (with_reducible repeat (first | refine blk_drewN ?_ _ | refine blk_drew ?_ | refine blk_alloc ?_ _)); exact BK289.out))⟩; have n2_ : Aside0 (w95.heap[gb290]? = some (.cells #[.int .i64 a1_0, .int .i64 a1_1] 40 (0, 0))) := ⟨(by rw [hw]; exact (by (with_reducible repeat (first | refine blk_drewN ?_ _ | refine blk_drew ?_ | refine blk_alloc ?_ _)); refine blk_far ?_ NB290_301.out _; (with_reducible repeat (first | refine blk_drewN ?_ _ | refine blk_drew ?_ | refine blk_alloc ?_ _)); exact BK290.out))⟩; have n3_ : Aside0 (w95.heap[gb291]? = some (.cells #[.slice none 0 0] 55 (0, 0))) := ⟨(by rw [hw]; exact (by (with_reducible repeat (first | refine blk_drewN ?_ _ | refine blk_drew ?_ | refine blk_alloc ?_ _)); refine blk_far ?_ NB291_301.out _; (with_reducible repeat (first | refine blk_drewN ?_ _ | refine blk_drew ?_ | refine blk_alloc ?_ _)); exact BK291.out))⟩; have n4_ : Aside0 (w95.heap[gb301]? = some (.cells #[.slice Ao93 y309.length co93] 55 (0, 0))) := ⟨(by rw [hw]; exact (by (with_reducible repeat (first | refine blk_drewN ?_ _ | refine blk_drew ?_ | refine blk_alloc ?_ _)); refine blk_put (cs := #[.slice (some ad307) x302000_2.length co89]) ?_ 0 _ rfl; (with_reducible repeat (first | refine blk_drewN ?_ _ | refine blk_drew ?_ | refine blk_alloc ?_ _)); exact BK301.out))⟩; have n5_ : Aside0 (Below w.heap.size w w95) := ⟨(by rw [hw]; exact (zh4 HB GE289 GE290 GE291 GE301))⟩; clear hw; clear HO311; clear BK289; clear BK290; clear BK291; clear BK301; clear HB; have HO311 := n0_; have BK289 := n1_; have BK290 := n2_; have BK291 := n3_; have BK301 := n4_; have HB := n5_; clear n0_ n1_ n2_ n3_ n4_ n5_; have hcz96_0 : w95.cell? ⟨gb301, 0, none⟩ = some (.slice Ao93 y309.length co93) := (blk_cell BK301.out 0).trans rfl; have hfz96_0 := blk_frozen BK301.out 0; have p81 : 0 ≤ (x9_2 : Int) := of_decide_eq_true (by first | (with_reducible assumption) | assumption); have q81 : (x9_2 : Int) < ((y309.length : Int) : Int) := of_decide_eq_true (by first | (with_reducible assumption) | assumption); obtain ⟨go81, co81, eo81, gb81, gl81, cl81, HG81⟩ := Kd.R_form HO311.out (by omega); (first | cases eo81 | (injection eo81 with ea_ en_ ec_; (first | subst ea_ | (injection ea_ with ea_; subst ea_)); subst ec_; clear en_)); have GB81 := Aside0.mk gb81; have GG81 := Aside0.mk HG81; clear gb81 gl81 HG81; obtain ⟨ce81, hcl81, hM81, hcc81, hfr81⟩ := Kd.R_elem HO311.out z104 (x9_2 : Int) p81 q81; obtain rfl := k104_openM hM81; have hx81_0 : w95.cell? ⟨go81, (x9_2 : Int).toNat * 3, none⟩ = some (.int .i64 ((rd_T104 y309 x9_2).f0)) := hcc81 0 _ rfl; have hx81_1 : w95.cell? ⟨go81, (x9_2 : Int).toNat * 3 + 1, none⟩ = some (.int .i64 ((rd_T104 y309 x9_2).f1)) := hcc81 1 _ rfl; have hx81_2 : w95.cell? ⟨go81, (x9_2 : Int).toNat * 3 + 2, none⟩ = some (.int .i64 ((rd_T104 y309 x9_2).f2)) := hcc81 2 _ rfl; have hf81_0 : w95.frozen? ⟨go81, (x9_2 : Int).toNat * 3, none⟩ = false := hfr81 0; have hf81_1 : w95.frozen? ⟨go81, (x9_2 : Int).toNat * 3 + 1, none⟩ = false := hfr81 1; have hf81_2 : w95.frozen? ⟨go81, (x9_2 : Int).toNat * 3 + 2, none⟩ = false := hfr81 2; clear hcl81 hcc81 hfr81 hM81; replace p81 := eq_true p81; replace q81 := eq_true q81; have HX97 := Aside0.mk (show Kd.R k104 104 w95 w.heap.size (fun _ => True) (.slice (some ⟨go81, 0, none⟩) y309.length co93) y309 from (zr HO311)); obtain ⟨ce97, hcl97, hM97, hcc97, hfr97⟩ := Kd.R_elem HX97.out z104 (x9_2 : Int) (of_decide_eq_true (by first | (with_reducible assumption) | assumption)) (by have h_ : (x9_2 : Int) < ((y309.length : Int) : Int) := of_decide_eq_true (by first | (with_reducible assumption) | assumption); first | exact h_ | (have e_ := (Kd.R_reads' HO311.out).1; omega) | simpa using h_); obtain rfl := k104_openM hM97; have HP97 := Kd.R_seg HX97.out (x9_2 : Int) (of_decide_eq_true (by first | (with_reducible assumption) | assumption)) (by have h_ : (x9_2 : Int) < ((y309.length : Int) : Int) := of_decide_eq_true (by first | (with_reducible assumption) | assumption); first | exact h_ | (have e_ := (Kd.R_reads' HO311.out).1; omega) | simpa using h_) (seg := [.int .i64 (x302000_2.length : Int)]) (j := 1) hcl97 hcc97 (show 2 ≤ 3 from by decide) (x' := (⟨(rd_T104 y309 x9_2).f0, (x302000_2.length : Int), (rd_T104 y309 x9_2).f2⟩ : S104)) (k104_mkM _ _ _ (⟨(rd_T104 y309 x9_2).f0, (x302000_2.length : Int), (rd_T104 y309 x9_2).f2⟩ : S104) ) (fun _ hk => hk); have hx97_1 := hcc97 1 _ rfl; (try simp only [show (k104).sz = 3 from rfl, Nat.mul_one, Nat.add_zero] at hx97_1); have hf97_1 := hfr97 1; (try simp only [show (k104).sz = 3 from rfl, Nat.mul_one, Nat.add_zero] at hf97_1); clear hcl97 hcc97 hfr97 hM97) | ((with_reducible refine gate_store (t := 3) (p := 70) rfl ?_); refine store_event (t := 3) (p := 70) (v := ?vo_w98) (w1 := (w95.setCell ⟨go81, (x9_2 : Int).toNat * 3 + 1, none⟩ (.int .i64 (x302000_2.length : Int)))) ?hg ?ho ?hn ?hr ?_; (case ho => rfl); (case hg => rfl); (case hn => rfl); (case hr => first | (go_simp; done) | (go_simp; rfl)); intro w98 hw; have hg : w95.grownBy w98 (some go81) := (by rw [hw]; exact HP97.2); have hp_ : Kd.R k104 104 w98 w.heap.size (fun _ => True) (.slice (some ⟨go81, 0, none⟩) y309.length co93) y313 := (by rw [hw, Ny313.out]; exact HP97.1); clear HP97; replace BK289 := Aside0.mk (blk_grown (g := gb289) (o := .cells #[.slice A0_0 l0_0.length c0_0] 55 (0, 0)) (zb BK289) hg (Kd.R_ne HO311.out BK289.out (by decide))); replace BK290 := Aside0.mk (blk_grown (g := gb290) (o := .cells #[.int .i64 a1_0, .int .i64 a1_1] 40 (0, 0)) (zb BK290) hg (Kd.R_ne HO311.out BK290.out (by decide))); replace BK291 := Aside0.mk (blk_grown (g := gb291) (o := .cells #[.slice none 0 0] 55 (0, 0)) (zb BK291) hg (Kd.R_ne HO311.out BK291.out (by decide))); replace BK301 := Aside0.mk (blk_grown (g := gb301) (o := .cells #[.slice (some ⟨go81, 0, none⟩) y309.length co93] 55 (0, 0)) (zb BK301) hg (Kd.R_ne HO311.out BK301.out (by decide))); replace HO311 := Aside0.mk (hp_); replace HB := Aside0.mk ((by rw [hw]; exact below_set (HB.out) GB81.out : Below w.heap.size w w98)); clear hg hw hp_))
                          go_roundg k2
                          case measure => have := HJ3.out; have := HK2.out; omega
                          case rel => exact ⟨((x302000_2.length : Int)), (wrap64 (x32_2 + 1)), (y313), (.slice (some ⟨go81, 0, none⟩) y309.length co93), (by first | rfl | (simp; done) | (simp [*]; done)), (by first | rfl | (simp; done) | (simp [*]; done)), H', ⟨by have := HJ3.out; have := HK2.out; omega⟩, ⟨by (with_reducible repeat (first | apply Kd.R_alloc | apply Kd.R_drewN | apply Kd.R_drew)); exact HO311.out⟩, ⟨by (with_reducible repeat (first | refine blk_drewN ?_ _ | refine blk_drew ?_ | refine blk_alloc ?_ _)); exact BK289.out⟩, ⟨by (with_reducible repeat (first | refine blk_drewN ?_ _ | refine blk_drew ?_ | refine blk_alloc ?_ _)); exact BK290.out⟩, ⟨by (with_reducible repeat (first | refine blk_drewN ?_ _ | refine blk_drew ?_ | refine blk_alloc ?_ _)); exact BK291.out⟩, ⟨by (with_reducible repeat (first | refine blk_drewN ?_ _ | refine blk_drew ?_ | refine blk_alloc ?_ _)); exact BK301.out⟩, ⟨zh4 HB GE289 GE290 GE291 GE301⟩⟩
                        · rw [if_neg c80] at H
                          exact absurd H (by simp)
                    · rw [if_neg c59] at H
                      exact absurd H (by simp)
                  · rw [if_neg c58] at H
                    have c58b0 : (t308 == 0) = false := beq_eq_false_iff_ne.mpr c58
                    have c58b1 : (t308 != 0) = true := bne_iff_ne.mpr c58
                    have H' := Aside0.mk H
                    clear H
                    have hnb99 := NB290_289.out
                    have hnc99 := NB289_290.out
                    have hnb100 := NB290_291.out
                    have hnc100 := NB291_290.out
                    have hnb101 := NB290_301.out
                    have hnc101 := NB301_290.out
                    have hcz102_0 : wr.cell? ⟨gb290, 0, none⟩ = some (.int .i64 a1_0) := (blk_cell BK290.out 0).trans rfl
                    have hcz102_1 : wr.cell? ⟨gb290, 1, none⟩ = some (.int .i64 a1_1) := (blk_cell BK290.out 1).trans rfl
                    have hfz102_0 := blk_frozen BK290.out 0
                    have hfz102_1 := blk_frozen BK290.out 1
                    go_wp2_with (first | ((with_reducible refine gate_callee (f := 80) rfl ?_); refine goesL_ (some 38) rfl rfl Try.func80 (by kernel_rfl) rfl #[.int .i64 a1_0, .int .i64 x32_2] rfl (by (try simp only [List.map_toArray, List.map_cons, List.map_nil]); first | done | rfl | (simp only [List.length_drop, List.length_take]; rfl)) ?_; (with_reducible refine (impl_bitOf.calls a1_0 x32_2 t306 _ A54.out).mono ?_); rintro e w' ⟨rfl, ⟨nd, rfl⟩⟩; refine ⟨_, rfl, ?_⟩; have hnb103 := NB301_289.out; have hnc103 := NB289_301.out; have hnb104 := NB301_291.out; have hnc104 := NB291_301.out; have hcz105_0 : wr.cell? ⟨gb301, 0, none⟩ = some (u302000) := (blk_cell BK301.out 0).trans rfl; have hfz105_0 := blk_frozen BK301.out 0; obtain ⟨Ao106, co106, eo106⟩ := Kd.R_slice HO_302000.out; subst eo106; have p307 : 0 ≤ (x9_2 : Int) := of_decide_eq_true (by first | (with_reducible assumption) | assumption); have q307 : x9_2 < (x302000_2.length : Int) := of_decide_eq_true (by first | (with_reducible assumption) | assumption); obtain ⟨ad307, e307, hx307_0, hx307_1, hx307_2⟩ := at_T104 (Kd.R_reads' HO_302000.out).2.2 x9_2 p307 q307; cases e307; replace p307 := eq_true p307; replace q307 := eq_true q307) | ((with_reducible refine gate_callee (f := 79) rfl ?_); refine goesL_ (some 45) rfl rfl Try.func79 (by kernel_rfl) rfl #[.agg #[.int .i64 ((rd_T104 x302000_2 x9_2).f0), .int .i64 ((rd_T104 x302000_2 x9_2).f1), .int .i64 ((rd_T104 x302000_2 x9_2).f2)], .int .i64 t306] rfl (by (try simp only [List.map_toArray, List.map_cons, List.map_nil]); first | done | rfl | (simp only [List.length_drop, List.length_take]; rfl)) ?_; (with_reducible refine (impl_along.calls ((rd_T104 x302000_2 x9_2).f0) ((rd_T104 x302000_2 x9_2).f1) ((rd_T104 x302000_2 x9_2).f2) t306 t308 _ A57.out).mono ?_); rintro e w107 ⟨rfl, hb⟩; refine ⟨_, rfl, ?_⟩; replace HO_302000 := Aside0.mk (Kd.R_below (zr HO_302000) hb); replace BK289 := zk BK289 hb; replace BK290 := zk BK290 hb; replace BK291 := zk BK291 hb; replace BK301 := zk BK301 hb; replace HB := Aside0.mk (below_step (zh4 HB GE289 GE290 GE291 GE301) hb); (try clear hb); (try clear hb2); (try clear hk); (try clear hi)))
                    go_roundg k2
                    case measure => have := HJ3.out; have := HK2.out; omega
                    case rel => exact ⟨(t308), (wrap64 (x32_2 + 1)), (x302000_2), (.slice (some ad307) x302000_2.length co106), (by first | rfl | (simp; done) | (simp [*]; done)), (by first | rfl | (simp; done) | (simp [*]; done)), H', ⟨by have := HJ3.out; have := HK2.out; omega⟩, ⟨by (with_reducible repeat (first | apply Kd.R_alloc | apply Kd.R_drewN | apply Kd.R_drew)); exact HO_302000.out⟩, ⟨by (with_reducible repeat (first | refine blk_drewN ?_ _ | refine blk_drew ?_ | refine blk_alloc ?_ _)); exact BK289.out⟩, ⟨by (with_reducible repeat (first | refine blk_drewN ?_ _ | refine blk_drew ?_ | refine blk_alloc ?_ _)); exact BK290.out⟩, ⟨by (with_reducible repeat (first | refine blk_drewN ?_ _ | refine blk_drew ?_ | refine blk_alloc ?_ _)); exact BK291.out⟩, ⟨by (with_reducible repeat (first | refine blk_drewN ?_ _ | refine blk_drew ?_ | refine blk_alloc ?_ _)); exact BK301.out⟩, ⟨zh4 HB GE289 GE290 GE291 GE301⟩⟩
                · rw [if_neg c56] at H
                  exact absurd H (by simp)
              · rw [if_neg c55] at H
                exact absurd H (by simp)
            · rw [if_neg c53] at H
              have c53b0 : decide (x32_2 < a1_1) = false := decide_eq_false c53
              clear c53
              by_cases c108 : 0 ≤ x9_2
              · rw [if_pos c108] at H
                have c108b0 : decide (0 ≤ x9_2) = true := decide_eq_true c108
                clear c108
                by_cases c109 : x9_2 < (x302000_2.length : Int)
                · rw [if_pos c109] at H
                  have c109b0 : decide (x9_2 < (x302000_2.length : Int)) = true := decide_eq_true c109
                  clear c109
                  obtain ⟨y302, hy302⟩ : ∃ y_ : List (S104), y_ = (x302000_2.set (x9_2 : Int).toNat (⟨(rd_T104 x302000_2 x9_2).f0, (rd_T104 x302000_2 x9_2).f1, a2⟩ : S104)) := ⟨_, rfl⟩
                  replace H : (if (x302000_2.length : Int) > 400 then ((impl_copyTrie.f l0_0).bind fun t303 => (some (t303, false))) else (some (y302, true))) = some (r1, r2) := by first | (rw [hy302]; with_reducible exact H) | (have H2_ := (Option.bind_some _ _).symm.trans H; rw [hy302]; with_reducible exact H2_) | (have H2_ := (Option.bind_some _ _).symm.trans H; with_reducible exact H2_) | with_reducible exact H | (rw [hy302]; exact H) | exact H
                  have Ny302 := Aside0.mk hy302
                  clear hy302
                  by_cases c111 : (x302000_2.length : Int) > 400
                  · rw [if_pos c111] at H
                    have c111b0 : decide (400 < (x302000_2.length : Int)) = true := decide_eq_true c111
                    have c111b1 : decide (400 < x302000_2.length) = true := decide_eq_true (by omega)
                    clear c111
                    replace H := Option.bind_eq_some_iff.mp H
                    obtain ⟨t303, A1120, H⟩ := H
                    replace H : (some (t303, false)) = some (r1, r2) := H
                    have A112 := Aside0.mk A1120
                    clear A1120
                    simp only [Option.some.injEq, Prod.mk.injEq] at H
                    obtain ⟨rfl, rfl⟩ := H
                    have hnb113 := NB301_289.out
                    have hnc113 := NB289_301.out
                    have hnb114 := NB301_290.out
                    have hnc114 := NB290_301.out
                    have hnb115 := NB301_291.out
                    have hnc115 := NB291_301.out
                    have hcz116_0 : wr.cell? ⟨gb301, 0, none⟩ = some (u302000) := (blk_cell BK301.out 0).trans rfl
                    have hfz116_0 := blk_frozen BK301.out 0
                    have p110 : 0 ≤ (x9_2 : Int) := of_decide_eq_true (by first | (with_reducible assumption) | assumption)
                    have q110 : (x9_2 : Int) < ((x302000_2.length : Int) : Int) := of_decide_eq_true (by first | (with_reducible assumption) | assumption)
                    obtain ⟨go110, co110, eo110, gb110, gl110, cl110, HG110⟩ := Kd.R_form HO_302000.out (by omega)
                    (first | cases eo110 | (injection eo110 with ea_ en_ ec_; (first | subst ea_ | (injection ea_ with ea_; subst ea_)); subst ec_; clear en_))
                    have GB110 := Aside0.mk gb110
                    have GG110 := Aside0.mk HG110
                    clear gb110 gl110 HG110
                    obtain ⟨ce110, hcl110, hM110, hcc110, hfr110⟩ := Kd.R_elem HO_302000.out z104 (x9_2 : Int) p110 q110
                    obtain rfl := k104_openM hM110
                    have hx110_0 : wr.cell? ⟨go110, (x9_2 : Int).toNat * 3, none⟩ = some (.int .i64 ((rd_T104 x302000_2 x9_2).f0)) := hcc110 0 _ rfl
                    have hx110_1 : wr.cell? ⟨go110, (x9_2 : Int).toNat * 3 + 1, none⟩ = some (.int .i64 ((rd_T104 x302000_2 x9_2).f1)) := hcc110 1 _ rfl
                    have hx110_2 : wr.cell? ⟨go110, (x9_2 : Int).toNat * 3 + 2, none⟩ = some (.int .i64 ((rd_T104 x302000_2 x9_2).f2)) := hcc110 2 _ rfl
                    have hf110_0 : wr.frozen? ⟨go110, (x9_2 : Int).toNat * 3, none⟩ = false := hfr110 0
                    have hf110_1 : wr.frozen? ⟨go110, (x9_2 : Int).toNat * 3 + 1, none⟩ = false := hfr110 1
                    have hf110_2 : wr.frozen? ⟨go110, (x9_2 : Int).toNat * 3 + 2, none⟩ = false := hfr110 2
                    clear hcl110 hcc110 hfr110 hM110
                    replace p110 := eq_true p110
                    replace q110 := eq_true q110
                    have HX117 := Aside0.mk (show Kd.R k104 104 wr w.heap.size (fun _ => True) (.slice (some ⟨go110, 0, none⟩) x302000_2.length co110) x302000_2 from (zr HO_302000))
                    obtain ⟨ce117, hcl117, hM117, hcc117, hfr117⟩ := Kd.R_elem HX117.out z104 (x9_2 : Int) (of_decide_eq_true (by first | (with_reducible assumption) | assumption)) (by have h_ : (x9_2 : Int) < ((x302000_2.length : Int) : Int) := of_decide_eq_true (by first | (with_reducible assumption) | assumption); first | exact h_ | (have e_ := (Kd.R_reads' HO_302000.out).1; omega) | simpa using h_)
                    obtain rfl := k104_openM hM117
                    have HP117 := Kd.R_seg HX117.out (x9_2 : Int) (of_decide_eq_true (by first | (with_reducible assumption) | assumption)) (by have h_ : (x9_2 : Int) < ((x302000_2.length : Int) : Int) := of_decide_eq_true (by first | (with_reducible assumption) | assumption); first | exact h_ | (have e_ := (Kd.R_reads' HO_302000.out).1; omega) | simpa using h_) (seg := [.int .i64 a2]) (j := 2) hcl117 hcc117 (show 3 ≤ 3 from by decide) (x' := (⟨(rd_T104 x302000_2 x9_2).f0, (rd_T104 x302000_2 x9_2).f1, a2⟩ : S104)) (k104_mkM _ _ _ (⟨(rd_T104 x302000_2 x9_2).f0, (rd_T104 x302000_2 x9_2).f1, a2⟩ : S104) ) (fun _ hk => hk)
                    have hx117_2 := hcc117 2 _ rfl
                    (try simp only [show (k104).sz = 3 from rfl, Nat.mul_one, Nat.add_zero] at hx117_2)
                    have hf117_2 := hfr117 2
                    (try simp only [show (k104).sz = 3 from rfl, Nat.mul_one, Nat.add_zero] at hf117_2)
                    clear hcl117 hcc117 hfr117 hM117
                    go_wp2_with (first | ((with_reducible refine gate_store (t := 3) (p := 78) rfl ?_); refine store_event (t := 3) (p := 78) (v := ?vo_w118) (w1 := (wr.setCell ⟨go110, (x9_2 : Int).toNat * 3 + 2, none⟩ (.int .i64 a2))) ?hg ?ho ?hn ?hr ?_; (case ho => rfl); (case hg => rfl); (case hn => rfl); (case hr => first | (go_simp; done) | (go_simp; rfl)); intro w118 hw; have hg : wr.grownBy w118 (some go110) := (by rw [hw]; exact HP117.2); have hp_ : Kd.R k104 104 w118 w.heap.size (fun _ => True) (.slice (some ⟨go110, 0, none⟩) x302000_2.length co110) y302 := (by rw [hw, Ny302.out]; exact HP117.1); clear HP117; replace BK289 := Aside0.mk (blk_grown (g := gb289) (o := .cells #[.slice A0_0 l0_0.length c0_0] 55 (0, 0)) (zb BK289) hg (Kd.R_ne HO_302000.out BK289.out (by decide))); replace BK290 := Aside0.mk (blk_grown (g := gb290) (o := .cells #[.int .i64 a1_0, .int .i64 a1_1] 40 (0, 0)) (zb BK290) hg (Kd.R_ne HO_302000.out BK290.out (by decide))); replace BK291 := Aside0.mk (blk_grown (g := gb291) (o := .cells #[.slice none 0 0] 55 (0, 0)) (zb BK291) hg (Kd.R_ne HO_302000.out BK291.out (by decide))); replace BK301 := Aside0.mk (blk_grown (g := gb301) (o := .cells #[.slice (some ⟨go110, 0, none⟩) x302000_2.length co110] 55 (0, 0)) (zb BK301) hg (Kd.R_ne HO_302000.out BK301.out (by decide))); replace HO_302000 := Aside0.mk (hp_); replace HB := Aside0.mk ((by rw [hw]; exact below_set (HB.out) GB110.out : Below w.heap.size w w118)); clear hg hw hp_; have hcz119_0 : w118.cell? ⟨gb301, 0, none⟩ = some (.slice (some ⟨go110, 0, none⟩) x302000_2.length co110) := (blk_cell BK301.out 0).trans rfl; have hfz119_0 := blk_frozen BK301.out 0; have hnb120 := NB289_290.out; have hnc120 := NB290_289.out; have hnb121 := NB289_291.out; have hnc121 := NB291_289.out; have hcz122_0 : w118.cell? ⟨gb289, 0, none⟩ = some (.slice A0_0 l0_0.length c0_0) := (blk_cell BK289.out 0).trans rfl; have hfz122_0 := blk_frozen BK289.out 0) | ((with_reducible refine gate_callee (f := 94) rfl ?_); refine goesL_ (some 84) rfl rfl Try.func94 (by kernel_rfl) rfl #[.agg #[.slice A0_0 l0_0.length c0_0]] rfl (by (try simp only [List.map_toArray, List.map_cons, List.map_nil]); first | done | rfl | (simp only [List.length_drop, List.length_take]; rfl)) ?_; (with_reducible refine (impl_copyTrie.calls _ _ l0_0 t303 _ ?side1 ?side2 A112.out).mono ?_); (case side1 => repeat (first | exact (Kd.C_below HR0_0.out HB.out) | (with_reducible refine Kd.C_alloc ?_ _) | (with_reducible refine Kd.C_drewN ?_ _) | (with_reducible refine Kd.C_drew ?_))); (case side2 => exact HC0_0.out); rintro e w123 ⟨v304, rfl, ho0, hb⟩; refine ⟨_, rfl, ?_⟩; have HO305 := Aside0.mk (Kd.R_lower (Kd.R_new' ho0 (Kd.R_lt (zr HO_302000))) (below_size (zh4 HB GE289 GE290 GE291 GE301))); replace HO_302000 := Aside0.mk (Kd.R_elder' (zr HO_302000) (Kd.R_base ho0) hb); replace BK289 := zk BK289 hb; replace BK290 := zk BK290 hb; replace BK291 := zk BK291 hb; replace BK301 := zk BK301 hb; replace HB := Aside0.mk (below_step (zh4 HB GE289 GE290 GE291 GE301) hb); (try clear hb); (try clear hb2); (try clear hk); (try clear hi); (try clear ho0); obtain ⟨Ao124, co124, eo124⟩ := Kd.R_slice HO305.out; subst eo124; have hnb125 := NB291_290.out; have hnc125 := NB290_291.out; have hcz126_0 : w123.cell? ⟨gb291, 0, none⟩ = some (.slice none 0 0) := (blk_cell BK291.out 0).trans rfl; have hfz126_0 := blk_frozen BK291.out 0))
                    refine bodyPost_ret (results_ct rfl _ _ gb291 55 #[.slice Ao124 t303.length co124] (0, 0) _ rfl (by (with_reducible repeat (first | refine blk_drewN ?_ _ | refine blk_drew ?_ | refine blk_alloc ?_ _)); refine blk_put (cs := #[.slice none 0 0]) ?_ 0 _ rfl; (with_reducible repeat (first | refine blk_drewN ?_ _ | refine blk_drew ?_ | refine blk_alloc ?_ _)); exact BK291.out) Try.underlying55 rfl (by kernel_rfl)) rfl ?_
                    exact ⟨_, by first | rfl | (simp [errW_none, errW_some] <;> rfl) | (simp [*, errW_none, errW_some] <;> rfl), by (with_reducible repeat (first | apply Kd.R_alloc | apply Kd.R_drewN | apply Kd.R_drew)); exact Kd.R_mono (Kd.R_far (p := ⟨gb291, 0, none⟩) (Kd.R_types HO305.out BK291.out (by decide)) (fun _ hk => hk.2) (.slice Ao124 t303.length co124)) (fun _ hk => trivial), zh4 HB GE289 GE290 GE291 GE301⟩
                  · rw [if_neg c111] at H
                    have c111b0 : decide (400 < (x302000_2.length : Int)) = false := decide_eq_false c111
                    have c111b1 : decide (400 < x302000_2.length) = false := decide_eq_false (by omega)
                    clear c111
                    simp only [Option.some.injEq, Prod.mk.injEq] at H
                    obtain ⟨rfl, rfl⟩ := H
                    have hnb127 := NB301_289.out
                    have hnc127 := NB289_301.out
                    have hnb128 := NB301_290.out
                    have hnc128 := NB290_301.out
                    have hnb129 := NB301_291.out
                    have hnc129 := NB291_301.out
                    have hcz130_0 : wr.cell? ⟨gb301, 0, none⟩ = some (u302000) := (blk_cell BK301.out 0).trans rfl
                    have hfz130_0 := blk_frozen BK301.out 0
                    have p110 : 0 ≤ (x9_2 : Int) := of_decide_eq_true (by first | (with_reducible assumption) | assumption)
                    have q110 : (x9_2 : Int) < ((x302000_2.length : Int) : Int) := of_decide_eq_true (by first | (with_reducible assumption) | assumption)
                    obtain ⟨go110, co110, eo110, gb110, gl110, cl110, HG110⟩ := Kd.R_form HO_302000.out (by omega)
                    (first | cases eo110 | (injection eo110 with ea_ en_ ec_; (first | subst ea_ | (injection ea_ with ea_; subst ea_)); subst ec_; clear en_))
                    have GB110 := Aside0.mk gb110
                    have GG110 := Aside0.mk HG110
                    clear gb110 gl110 HG110
                    obtain ⟨ce110, hcl110, hM110, hcc110, hfr110⟩ := Kd.R_elem HO_302000.out z104 (x9_2 : Int) p110 q110
                    obtain rfl := k104_openM hM110
                    have hx110_0 : wr.cell? ⟨go110, (x9_2 : Int).toNat * 3, none⟩ = some (.int .i64 ((rd_T104 x302000_2 x9_2).f0)) := hcc110 0 _ rfl
                    have hx110_1 : wr.cell? ⟨go110, (x9_2 : Int).toNat * 3 + 1, none⟩ = some (.int .i64 ((rd_T104 x302000_2 x9_2).f1)) := hcc110 1 _ rfl
                    have hx110_2 : wr.cell? ⟨go110, (x9_2 : Int).toNat * 3 + 2, none⟩ = some (.int .i64 ((rd_T104 x302000_2 x9_2).f2)) := hcc110 2 _ rfl
                    have hf110_0 : wr.frozen? ⟨go110, (x9_2 : Int).toNat * 3, none⟩ = false := hfr110 0
                    have hf110_1 : wr.frozen? ⟨go110, (x9_2 : Int).toNat * 3 + 1, none⟩ = false := hfr110 1
                    have hf110_2 : wr.frozen? ⟨go110, (x9_2 : Int).toNat * 3 + 2, none⟩ = false := hfr110 2
                    clear hcl110 hcc110 hfr110 hM110
                    replace p110 := eq_true p110
                    replace q110 := eq_true q110
                    have HX131 := Aside0.mk (show Kd.R k104 104 wr w.heap.size (fun _ => True) (.slice (some ⟨go110, 0, none⟩) x302000_2.length co110) x302000_2 from (zr HO_302000))
                    obtain ⟨ce131, hcl131, hM131, hcc131, hfr131⟩ := Kd.R_elem HX131.out z104 (x9_2 : Int) (of_decide_eq_true (by first | (with_reducible assumption) | assumption)) (by have h_ : (x9_2 : Int) < ((x302000_2.length : Int) : Int) := of_decide_eq_true (by first | (with_reducible assumption) | assumption); first | exact h_ | (have e_ := (Kd.R_reads' HO_302000.out).1; omega) | simpa using h_)
                    obtain rfl := k104_openM hM131
                    have HP131 := Kd.R_seg HX131.out (x9_2 : Int) (of_decide_eq_true (by first | (with_reducible assumption) | assumption)) (by have h_ : (x9_2 : Int) < ((x302000_2.length : Int) : Int) := of_decide_eq_true (by first | (with_reducible assumption) | assumption); first | exact h_ | (have e_ := (Kd.R_reads' HO_302000.out).1; omega) | simpa using h_) (seg := [.int .i64 a2]) (j := 2) hcl131 hcc131 (show 3 ≤ 3 from by decide) (x' := (⟨(rd_T104 x302000_2 x9_2).f0, (rd_T104 x302000_2 x9_2).f1, a2⟩ : S104)) (k104_mkM _ _ _ (⟨(rd_T104 x302000_2 x9_2).f0, (rd_T104 x302000_2 x9_2).f1, a2⟩ : S104) ) (fun _ hk => hk)
                    have hx131_2 := hcc131 2 _ rfl
                    (try simp only [show (k104).sz = 3 from rfl, Nat.mul_one, Nat.add_zero] at hx131_2)
                    have hf131_2 := hfr131 2
                    (try simp only [show (k104).sz = 3 from rfl, Nat.mul_one, Nat.add_zero] at hf131_2)
                    clear hcl131 hcc131 hfr131 hM131
                    go_wp2_with (first | ((with_reducible refine gate_store (t := 3) (p := 78) rfl ?_); refine store_event (t := 3) (p := 78) (v := ?vo_w132) (w1 := (wr.setCell ⟨go110, (x9_2 : Int).toNat * 3 + 2, none⟩ (.int .i64 a2))) ?hg ?ho ?hn ?hr ?_; (case ho => rfl); (case hg => rfl); (case hn => rfl); (case hr => first | (go_simp; done) | (go_simp; rfl)); intro w132 hw; have hg : wr.grownBy w132 (some go110) := (by rw [hw]; exact HP131.2); have hp_ : Kd.R k104 104 w132 w.heap.size (fun _ => True) (.slice (some ⟨go110, 0, none⟩) x302000_2.length co110) y302 := (by rw [hw, Ny302.out]; exact HP131.1); clear HP131; replace BK289 := Aside0.mk (blk_grown (g := gb289) (o := .cells #[.slice A0_0 l0_0.length c0_0] 55 (0, 0)) (zb BK289) hg (Kd.R_ne HO_302000.out BK289.out (by decide))); replace BK290 := Aside0.mk (blk_grown (g := gb290) (o := .cells #[.int .i64 a1_0, .int .i64 a1_1] 40 (0, 0)) (zb BK290) hg (Kd.R_ne HO_302000.out BK290.out (by decide))); replace BK291 := Aside0.mk (blk_grown (g := gb291) (o := .cells #[.slice none 0 0] 55 (0, 0)) (zb BK291) hg (Kd.R_ne HO_302000.out BK291.out (by decide))); replace BK301 := Aside0.mk (blk_grown (g := gb301) (o := .cells #[.slice (some ⟨go110, 0, none⟩) x302000_2.length co110] 55 (0, 0)) (zb BK301) hg (Kd.R_ne HO_302000.out BK301.out (by decide))); replace HO_302000 := Aside0.mk (hp_); replace HB := Aside0.mk ((by rw [hw]; exact below_set (HB.out) GB110.out : Below w.heap.size w w132)); clear hg hw hp_; have hcz133_0 : w132.cell? ⟨gb301, 0, none⟩ = some (.slice (some ⟨go110, 0, none⟩) x302000_2.length co110) := (blk_cell BK301.out 0).trans rfl; have hfz133_0 := blk_frozen BK301.out 0; have hnb134 := NB291_289.out; have hnc134 := NB289_291.out; have hnb135 := NB291_290.out; have hnc135 := NB290_291.out; have hcz136_0 : w132.cell? ⟨gb291, 0, none⟩ = some (.slice none 0 0) := (blk_cell BK291.out 0).trans rfl; have hfz136_0 := blk_frozen BK291.out 0))
                    refine bodyPost_ret (results_ct rfl _ _ gb291 55 #[.slice (some ⟨go110, 0, none⟩) x302000_2.length co110] (0, 0) _ rfl (by (with_reducible repeat (first | refine blk_drewN ?_ _ | refine blk_drew ?_ | refine blk_alloc ?_ _)); refine blk_put (cs := #[.slice none 0 0]) ?_ 0 _ rfl; (with_reducible repeat (first | refine blk_drewN ?_ _ | refine blk_drew ?_ | refine blk_alloc ?_ _)); exact BK291.out) Try.underlying55 rfl (by kernel_rfl)) rfl ?_
                    exact ⟨_, by first | rfl | (simp [errW_none, errW_some] <;> rfl) | (simp [*, errW_none, errW_some] <;> rfl), by (with_reducible repeat (first | apply Kd.R_alloc | apply Kd.R_drewN | apply Kd.R_drew)); exact Kd.R_mono (Kd.R_far (p := ⟨gb291, 0, none⟩) (Kd.R_types HO_302000.out BK291.out (by decide)) (fun _ hk => hk.2) (.slice (some ⟨go110, 0, none⟩) x302000_2.length co110)) (fun _ hk => trivial), zh4 HB GE289 GE290 GE291 GE301⟩
                · rw [if_neg c109] at H
                  exact absurd H (by simp)
              · rw [if_neg c108] at H
                exact absurd H (by simp)

/-! ### impl_isId: function 63 -/
def impl_isId.f (a0 : Int) : Option (Bool) := (impl_within.f a0 1 99).bind fun t314 => (some t314)
set_option maxHeartbeats 8000000 in
set_option maxRecDepth 100000 in
theorem impl_isId.calls (a0 : Int) (r : Bool) (w : World) (h : impl_isId.f a0 = some r) :
    Calls Try.prog 63 #[.int .i64 a0] w fun e w' => e = .returned (.bool r) ∧ Drawn0 w w' := by
  have H : ((impl_within.f a0 1 99).bind fun t314 => (some t314)) = some r := h
  clear h
  replace H := Option.bind_eq_some_iff.mp H
  obtain ⟨t314, A20, H⟩ := H
  replace H : (some t314) = some r := H
  have A2 := Aside0.mk A20
  clear A20
  obtain rfl := Option.some.inj H
  go_enter Try.func63, Try.ntmps63
  go_wp2_with (first | ((with_reducible refine gate_callee (f := 89) rfl ?_); refine goesL_ (some 4) rfl rfl Try.func89 (by kernel_rfl) rfl #[.int .i64 a0, .int .i64 1, .int .i64 99] rfl (by (try simp only [List.map_toArray, List.map_cons, List.map_nil]); first | done | rfl | (simp only [List.length_drop, List.length_take]; rfl)) ?_; (with_reducible refine (impl_within.calls a0 1 99 t314 _ A2.out).mono ?_); rintro e w' ⟨rfl, ⟨nd, rfl⟩⟩; refine ⟨_, rfl, ?_⟩))
  go_ret
  exact ⟨by first | rfl | (simp; done) | (simp [*]; done), by repeat (first | exact Drawn0.refl _ | apply Drawn0.step)⟩

/-! ### cmp_Or_int: function 103 -/
def cmp_Or_int.l0 : Nat → Int → List Int → Int → Int → Option (Int)
  | 0, _, _, _, _ => none
  | k + 1, x3, x6, x7, x8 => if x8 < x7 then (if 0 ≤ x8 then (if x8 < (x6.length : Int) then (if (rd x6 x8) = x3 then (cmp_Or_int.l0 k x3 x6 x7 (wrap64 (x8 + 1))) else (some (rd x6 x8))) else (none)) else (none)) else (some x3)
def cmp_Or_int.f (k : Nat) (l0 : List Int) : Option (Int) := cmp_Or_int.l0 k 0 l0 (l0.length : Int) 0
theorem cmp_Or_int.mono_l : ∀ k, (∀ y0 y1 y2 y3, LeO (cmp_Or_int.l0 k y0 y1 y2 y3) (cmp_Or_int.l0 (k + 1) y0 y1 y2 y3))
  | 0 => fun _ _ _ _ r h => by simp [cmp_Or_int.l0] at h
  | k + 1 => by
    have ih0 := cmp_Or_int.mono_l k
    · intro y0 y1 y2 y3
      unfold cmp_Or_int.l0
      repeat' first
      | (with_reducible exact ih0 _ _ _ _)
      | (with_reducible exact LeO.refl _)
      | (with_reducible exact LeO.none _)
      | (with_reducible refine LeO.ite ?_ ?_)
      | (with_reducible refine LeO.bind ?_ (fun _ => ?_))
      | exact ih0 _ _ _ _
      | exact LeO.none _
      | refine LeO.ite ?_ ?_
      | refine LeO.bind ?_ (fun _ => ?_)
theorem cmp_Or_int.mono : ∀ a0 k, LeO (cmp_Or_int.f k a0) (cmp_Or_int.f (k + 1) a0) := by
  intro a0 k
  have ih0 := cmp_Or_int.mono_l k
  unfold cmp_Or_int.f
  repeat' first
      | (with_reducible exact ih0 _ _ _ _)
      | (with_reducible exact LeO.refl _)
      | (with_reducible exact LeO.none _)
      | (with_reducible refine LeO.ite ?_ ?_)
      | (with_reducible refine LeO.bind ?_ (fun _ => ?_))
      | exact ih0 _ _ _ _
      | exact LeO.none _
      | refine LeO.ite ?_ ?_
      | refine LeO.bind ?_ (fun _ => ?_)
set_option maxHeartbeats 8000000 in
set_option maxRecDepth 100000 in
theorem cmp_Or_int.calls (k : Nat) (A0 : Option Addr) (c0 : Nat) (l0 : List Int) (r : Int) (w : World) (hr0 : Kd.C (Kd.int .i64) w A0 l0.length l0) (hc0 : l0.length ≤ c0) (h : cmp_Or_int.f k l0 = some r) :
    Calls Try.prog 103 #[.slice A0 l0.length c0] w fun e w' => e = .returned (.int .i64 r) ∧ Drawn0 w w' := by
  have HR0 := Aside0.mk hr0
  have HC0 := Aside0.mk hc0
  clear hr0 hc0
  have H : (cmp_Or_int.l0 k 0 l0 (l0.length : Int) 0) = some r := h
  clear h
  have H' := Aside0.mk H
  clear H
  go_enter Try.func103, Try.ntmps103
  go_wp2
  go_loopg [8] k (fun kq v8 w' => ∃ (x8_1 : Int), v8 = .int .i64 x8_1 ∧ Aside0 (cmp_Or_int.l0 kq 0 l0 (l0.length : Int) x8_1 = some r) ∧ Aside0 (kq ≤ k) ∧ Drawn0 w w')
  case atStart => exact ⟨(0), (by first | rfl | (simp; done) | (simp [*]; done)), H', ⟨Nat.le_refl _⟩, by repeat (first | exact Drawn0.refl _ | apply Drawn0.step)⟩
  case round =>
    clear H'
    try clear c1
    obtain ⟨x8_1, rfl, HA, HK1, ⟨m1, rfl⟩⟩ := hrel
    cases gk with
    | zero => exact absurd HA.out (by simp [cmp_Or_int.l0])
    | succ k1 =>
      have H := HA.out
      clear HA
      simp only [cmp_Or_int.l0] at H
      by_cases c2 : x8_1 < (l0.length : Int)
      · rw [if_pos c2] at H
        have c2b0 : decide (x8_1 < (l0.length : Int)) = true := decide_eq_true c2
        clear c2
        by_cases c3 : 0 ≤ x8_1
        · rw [if_pos c3] at H
          have c3b0 : decide (0 ≤ x8_1) = true := decide_eq_true c3
          clear c3
          by_cases c4 : x8_1 < (l0.length : Int)
          · rw [if_pos c4] at H
            have c4b0 : decide (x8_1 < (l0.length : Int)) = true := decide_eq_true c4
            clear c4
            by_cases c5 : (rd l0 x8_1) = 0
            · rw [if_pos c5] at H
              have c5b0 : ((rd l0 x8_1) == 0) = true := beq_iff_eq.mpr c5
              have c5b1 : ((rd l0 x8_1) != 0) = false := bne_eq_false_iff_eq.mpr c5
              clear c5
              have H' := Aside0.mk H
              clear H
              have p315 : 0 ≤ (x8_1 : Int) := of_decide_eq_true (by first | (with_reducible assumption) | assumption)
              have q315 : x8_1 < (l0.length : Int) := of_decide_eq_true (by first | (with_reducible assumption) | assumption)
              obtain ⟨ad315, e315, hx315_0⟩ := Kd.at_int HR0.out x8_1 p315 q315
              cases e315
              replace p315 := eq_true p315
              replace q315 := eq_true q315
              go_wp2
              go_roundg k1
              case measure => have := HK1.out; omega
              case rel => exact ⟨(wrap64 (x8_1 + 1)), (by first | rfl | (simp; done) | (simp [*]; done)), H', ⟨by have := HK1.out; omega⟩, by repeat (first | exact Drawn0.refl _ | apply Drawn0.step)⟩
            · rw [if_neg c5] at H
              have c5b0 : ((rd l0 x8_1) == 0) = false := beq_eq_false_iff_ne.mpr c5
              have c5b1 : ((rd l0 x8_1) != 0) = true := bne_iff_ne.mpr c5
              obtain rfl := Option.some.inj H
              have p315 : 0 ≤ (x8_1 : Int) := of_decide_eq_true (by first | (with_reducible assumption) | assumption)
              have q315 : x8_1 < (l0.length : Int) := of_decide_eq_true (by first | (with_reducible assumption) | assumption)
              obtain ⟨ad315, e315, hx315_0⟩ := Kd.at_int HR0.out x8_1 p315 q315
              cases e315
              replace p315 := eq_true p315
              replace q315 := eq_true q315
              go_wp2
              go_ret
              exact ⟨by first | rfl | (simp; done) | (simp [*]; done), by repeat (first | exact Drawn0.refl _ | apply Drawn0.step)⟩
          · rw [if_neg c4] at H
            exact absurd H (by simp)
        · rw [if_neg c3] at H
          exact absurd H (by simp)
      · rw [if_neg c2] at H
        have c2b0 : decide (x8_1 < (l0.length : Int)) = false := decide_eq_false c2
        clear c2
        obtain rfl := Option.some.inj H
        go_wp2
        go_ret
        exact ⟨by first | rfl | (simp; done) | (simp [*]; done), by repeat (first | exact Drawn0.refl _ | apply Drawn0.step)⟩

/-! ### cmp_isNaN_int: function 119 -/
def cmp_isNaN_int.f (a0 : Int) : Option (Bool) := some (a0 != a0)
set_option maxHeartbeats 8000000 in
set_option maxRecDepth 100000 in
theorem cmp_isNaN_int.calls (a0 : Int) (r : Bool) (w : World) (h : cmp_isNaN_int.f a0 = some r) :
    Calls Try.prog 119 #[.int .i64 a0] w fun e w' => e = .returned (.bool r) ∧ Drawn0 w w' := by
  have H : (some (a0 != a0)) = some r := h
  clear h
  obtain rfl := Option.some.inj H
  go_enter Try.func119, Try.ntmps119
  go_wp2
  go_ret
  exact ⟨by first | rfl | (simp; done) | (simp [*]; done), by repeat (first | exact Drawn0.refl _ | apply Drawn0.step)⟩

/-! ### cmp_Compare_int: function 104 -/
def cmp_Compare_int.f (a0 : Int) (a1 : Int) : Option (Int) := (cmp_isNaN_int.f a0).bind fun t316 => ((cmp_isNaN_int.f a1).bind fun t317 => (if t316 = true then (if t317 = true then (some 0) else (some (-1))) else (if t317 = true then (some 1) else (if a0 < a1 then (some (-1)) else (if a0 > a1 then (some 1) else (some 0))))))
set_option maxHeartbeats 8000000 in
set_option maxRecDepth 100000 in
theorem cmp_Compare_int.calls (a0 : Int) (a1 : Int) (r : Int) (w : World) (h : cmp_Compare_int.f a0 a1 = some r) :
    Calls Try.prog 104 #[.int .i64 a0, .int .i64 a1] w fun e w' => e = .returned (.int .i64 r) ∧ Drawn0 w w' := by
  have H : ((cmp_isNaN_int.f a0).bind fun t316 => ((cmp_isNaN_int.f a1).bind fun t317 => (if t316 = true then (if t317 = true then (some 0) else (some (-1))) else (if t317 = true then (some 1) else (if a0 < a1 then (some (-1)) else (if a0 > a1 then (some 1) else (some 0))))))) = some r := h
  clear h
  replace H := Option.bind_eq_some_iff.mp H
  obtain ⟨t316, A30, H⟩ := H
  replace H : ((cmp_isNaN_int.f a1).bind fun t317 => (if t316 = true then (if t317 = true then (some 0) else (some (-1))) else (if t317 = true then (some 1) else (if a0 < a1 then (some (-1)) else (if a0 > a1 then (some 1) else (some 0)))))) = some r := H
  have A3 := Aside0.mk A30
  clear A30
  replace H := Option.bind_eq_some_iff.mp H
  obtain ⟨t317, A40, H⟩ := H
  replace H : (if t316 = true then (if t317 = true then (some 0) else (some (-1))) else (if t317 = true then (some 1) else (if a0 < a1 then (some (-1)) else (if a0 > a1 then (some 1) else (some 0))))) = some r := H
  have A4 := Aside0.mk A40
  clear A40
  by_cases c5 : t316 = true
  · subst c5
    have H1 : (if t317 = true then (some 0) else (some (-1))) = some r := by rw [if_pos rfl] at H; exact H
    clear H
    have H := H1
    clear H1
    by_cases c6 : t317 = true
    · subst c6
      have H1 : (some 0) = some r := by rw [if_pos rfl] at H; exact H
      clear H
      have H := H1
      clear H1
      obtain rfl := Option.some.inj H
      go_enter Try.func104, Try.ntmps104
      go_wp2_with (first | ((with_reducible refine gate_callee (f := 119) rfl ?_); refine goesL_ (some 8) rfl rfl Try.func119 (by kernel_rfl) rfl #[.int .i64 a0] rfl (by (try simp only [List.map_toArray, List.map_cons, List.map_nil]); first | done | rfl | (simp only [List.length_drop, List.length_take]; rfl)) ?_; (with_reducible refine (cmp_isNaN_int.calls a0 true _ A3.out).mono ?_); rintro e w' ⟨rfl, ⟨nd, rfl⟩⟩; refine ⟨_, rfl, ?_⟩) | ((with_reducible refine gate_callee (f := 119) rfl ?_); refine goesL_ (some 10) rfl rfl Try.func119 (by kernel_rfl) rfl #[.int .i64 a1] rfl (by (try simp only [List.map_toArray, List.map_cons, List.map_nil]); first | done | rfl | (simp only [List.length_drop, List.length_take]; rfl)) ?_; (with_reducible refine (cmp_isNaN_int.calls a1 true _ A4.out).mono ?_); rintro e w' ⟨rfl, ⟨nd, rfl⟩⟩; refine ⟨_, rfl, ?_⟩))
      go_ret
      exact ⟨by first | rfl | (simp; done) | (simp [*]; done), by repeat (first | exact Drawn0.refl _ | apply Drawn0.step)⟩
    · replace c6 := Bool.eq_false_iff.mpr c6
      subst c6
      have H1 : (some (-1)) = some r := by rw [if_neg (show ¬ (false = true) by decide)] at H; exact H
      clear H
      have H := H1
      clear H1
      obtain rfl := Option.some.inj H
      go_enter Try.func104, Try.ntmps104
      go_wp2_with (first | ((with_reducible refine gate_callee (f := 119) rfl ?_); refine goesL_ (some 8) rfl rfl Try.func119 (by kernel_rfl) rfl #[.int .i64 a0] rfl (by (try simp only [List.map_toArray, List.map_cons, List.map_nil]); first | done | rfl | (simp only [List.length_drop, List.length_take]; rfl)) ?_; (with_reducible refine (cmp_isNaN_int.calls a0 true _ A3.out).mono ?_); rintro e w' ⟨rfl, ⟨nd, rfl⟩⟩; refine ⟨_, rfl, ?_⟩) | ((with_reducible refine gate_callee (f := 119) rfl ?_); refine goesL_ (some 10) rfl rfl Try.func119 (by kernel_rfl) rfl #[.int .i64 a1] rfl (by (try simp only [List.map_toArray, List.map_cons, List.map_nil]); first | done | rfl | (simp only [List.length_drop, List.length_take]; rfl)) ?_; (with_reducible refine (cmp_isNaN_int.calls a1 false _ A4.out).mono ?_); rintro e w' ⟨rfl, ⟨nd, rfl⟩⟩; refine ⟨_, rfl, ?_⟩))
      go_ret
      exact ⟨by first | rfl | (simp; done) | (simp [*]; done), by repeat (first | exact Drawn0.refl _ | apply Drawn0.step)⟩
  · replace c5 := Bool.eq_false_iff.mpr c5
    subst c5
    have H1 : (if t317 = true then (some 1) else (if a0 < a1 then (some (-1)) else (if a0 > a1 then (some 1) else (some 0)))) = some r := by rw [if_neg (show ¬ (false = true) by decide)] at H; exact H
    clear H
    have H := H1
    clear H1
    by_cases c7 : t317 = true
    · subst c7
      have H1 : (some 1) = some r := by rw [if_pos rfl] at H; exact H
      clear H
      have H := H1
      clear H1
      obtain rfl := Option.some.inj H
      go_enter Try.func104, Try.ntmps104
      go_wp2_with (first | ((with_reducible refine gate_callee (f := 119) rfl ?_); refine goesL_ (some 8) rfl rfl Try.func119 (by kernel_rfl) rfl #[.int .i64 a0] rfl (by (try simp only [List.map_toArray, List.map_cons, List.map_nil]); first | done | rfl | (simp only [List.length_drop, List.length_take]; rfl)) ?_; (with_reducible refine (cmp_isNaN_int.calls a0 false _ A3.out).mono ?_); rintro e w' ⟨rfl, ⟨nd, rfl⟩⟩; refine ⟨_, rfl, ?_⟩) | ((with_reducible refine gate_callee (f := 119) rfl ?_); refine goesL_ (some 10) rfl rfl Try.func119 (by kernel_rfl) rfl #[.int .i64 a1] rfl (by (try simp only [List.map_toArray, List.map_cons, List.map_nil]); first | done | rfl | (simp only [List.length_drop, List.length_take]; rfl)) ?_; (with_reducible refine (cmp_isNaN_int.calls a1 true _ A4.out).mono ?_); rintro e w' ⟨rfl, ⟨nd, rfl⟩⟩; refine ⟨_, rfl, ?_⟩))
      go_ret
      exact ⟨by first | rfl | (simp; done) | (simp [*]; done), by repeat (first | exact Drawn0.refl _ | apply Drawn0.step)⟩
    · replace c7 := Bool.eq_false_iff.mpr c7
      subst c7
      have H1 : (if a0 < a1 then (some (-1)) else (if a0 > a1 then (some 1) else (some 0))) = some r := by rw [if_neg (show ¬ (false = true) by decide)] at H; exact H
      clear H
      have H := H1
      clear H1
      by_cases c8 : a0 < a1
      · rw [if_pos c8] at H
        have c8b0 : decide (a0 < a1) = true := decide_eq_true c8
        clear c8
        obtain rfl := Option.some.inj H
        go_enter Try.func104, Try.ntmps104
        go_wp2_with (first | ((with_reducible refine gate_callee (f := 119) rfl ?_); refine goesL_ (some 8) rfl rfl Try.func119 (by kernel_rfl) rfl #[.int .i64 a0] rfl (by (try simp only [List.map_toArray, List.map_cons, List.map_nil]); first | done | rfl | (simp only [List.length_drop, List.length_take]; rfl)) ?_; (with_reducible refine (cmp_isNaN_int.calls a0 false _ A3.out).mono ?_); rintro e w' ⟨rfl, ⟨nd, rfl⟩⟩; refine ⟨_, rfl, ?_⟩) | ((with_reducible refine gate_callee (f := 119) rfl ?_); refine goesL_ (some 10) rfl rfl Try.func119 (by kernel_rfl) rfl #[.int .i64 a1] rfl (by (try simp only [List.map_toArray, List.map_cons, List.map_nil]); first | done | rfl | (simp only [List.length_drop, List.length_take]; rfl)) ?_; (with_reducible refine (cmp_isNaN_int.calls a1 false _ A4.out).mono ?_); rintro e w' ⟨rfl, ⟨nd, rfl⟩⟩; refine ⟨_, rfl, ?_⟩))
        go_ret
        exact ⟨by first | rfl | (simp; done) | (simp [*]; done), by repeat (first | exact Drawn0.refl _ | apply Drawn0.step)⟩
      · rw [if_neg c8] at H
        have c8b0 : decide (a0 < a1) = false := decide_eq_false c8
        clear c8
        by_cases c9 : a0 > a1
        · rw [if_pos c9] at H
          have c9b0 : decide (a1 < a0) = true := decide_eq_true c9
          clear c9
          obtain rfl := Option.some.inj H
          go_enter Try.func104, Try.ntmps104
          go_wp2_with (first | ((with_reducible refine gate_callee (f := 119) rfl ?_); refine goesL_ (some 8) rfl rfl Try.func119 (by kernel_rfl) rfl #[.int .i64 a0] rfl (by (try simp only [List.map_toArray, List.map_cons, List.map_nil]); first | done | rfl | (simp only [List.length_drop, List.length_take]; rfl)) ?_; (with_reducible refine (cmp_isNaN_int.calls a0 false _ A3.out).mono ?_); rintro e w' ⟨rfl, ⟨nd, rfl⟩⟩; refine ⟨_, rfl, ?_⟩) | ((with_reducible refine gate_callee (f := 119) rfl ?_); refine goesL_ (some 10) rfl rfl Try.func119 (by kernel_rfl) rfl #[.int .i64 a1] rfl (by (try simp only [List.map_toArray, List.map_cons, List.map_nil]); first | done | rfl | (simp only [List.length_drop, List.length_take]; rfl)) ?_; (with_reducible refine (cmp_isNaN_int.calls a1 false _ A4.out).mono ?_); rintro e w' ⟨rfl, ⟨nd, rfl⟩⟩; refine ⟨_, rfl, ?_⟩))
          go_ret
          exact ⟨by first | rfl | (simp; done) | (simp [*]; done), by repeat (first | exact Drawn0.refl _ | apply Drawn0.step)⟩
        · rw [if_neg c9] at H
          have c9b0 : decide (a1 < a0) = false := decide_eq_false c9
          clear c9
          obtain rfl := Option.some.inj H
          go_enter Try.func104, Try.ntmps104
          go_wp2_with (first | ((with_reducible refine gate_callee (f := 119) rfl ?_); refine goesL_ (some 8) rfl rfl Try.func119 (by kernel_rfl) rfl #[.int .i64 a0] rfl (by (try simp only [List.map_toArray, List.map_cons, List.map_nil]); first | done | rfl | (simp only [List.length_drop, List.length_take]; rfl)) ?_; (with_reducible refine (cmp_isNaN_int.calls a0 false _ A3.out).mono ?_); rintro e w' ⟨rfl, ⟨nd, rfl⟩⟩; refine ⟨_, rfl, ?_⟩) | ((with_reducible refine gate_callee (f := 119) rfl ?_); refine goesL_ (some 10) rfl rfl Try.func119 (by kernel_rfl) rfl #[.int .i64 a1] rfl (by (try simp only [List.map_toArray, List.map_cons, List.map_nil]); first | done | rfl | (simp only [List.length_drop, List.length_take]; rfl)) ?_; (with_reducible refine (cmp_isNaN_int.calls a1 false _ A4.out).mono ?_); rintro e w' ⟨rfl, ⟨nd, rfl⟩⟩; refine ⟨_, rfl, ?_⟩))
          go_ret
          exact ⟨by first | rfl | (simp; done) | (simp [*]; done), by repeat (first | exact Drawn0.refl _ | apply Drawn0.step)⟩

end Go.Proofs.Ytbddppnhpapfkaa.PFnTriePuts
