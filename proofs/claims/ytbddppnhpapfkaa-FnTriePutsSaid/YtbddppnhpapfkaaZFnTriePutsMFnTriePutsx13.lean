/- Machine proofs of Go functions, part x13: began as a text that the kit's print wrote, turned by hand. -/
import Derived.Test.YtbddppnhpapfkaaZFnTriePutsMFnTriePutsx0
import Derived.Test.YtbddppnhpapfkaaZFnTriePutsMFnTriePutsx4
import Derived.Test.YtbddppnhpapfkaaZFnTriePutsMFnTriePutsx8
import Derived.Test.YtbddppnhpapfkaaZFnTriePutsMFnTriePutsx10
import Derived.Test.YtbddppnhpapfkaaZFnTriePutsMFnTriePutsx12
namespace Go.Proofs.Ytbddppnhpapfkaa.PFnTriePuts
open Go.RowKit Go.Proofs.YtbddppnhpapfkaaW.PrintWords Go.Proofs.YtbddppnhpapfkaaW.PrintLast Go.Proofs.YtbddppnhpapfkaaW.PrintMore
attribute [local go_sem] max2_int min2_int max_two min_two max_three min_three max_four min_four   -- for this text's walks alone
set_option linter.unusedVariables false
set_option linter.unusedSimpArgs false

/-! ### impl_TrieNew: function 98 -/
def impl_TrieNew.f  : Option ((List (S104))) := some (([(⟨0, 0, 0⟩ : S104)] : List (S104)))
set_option maxHeartbeats 8000000 in
set_option maxRecDepth 100000 in
theorem impl_TrieNew.calls  (r : List (S104)) (w : World) (h : impl_TrieNew.f  = some r) :
    Calls Try.prog 98 #[] w fun e w' => ∃ v0_ : Value, e = .returned (.agg #[v0_]) ∧ Kd.R k104 104 w' w.heap.size (fun _ => True) v0_ r ∧ Below w.heap.size w w' := by
  have hu55 := Try.underlying55
  have hu104 := Try.underlying104
  have HB := Aside0.mk (Below.refl w.heap.size w)
  have H : (some (([(⟨0, 0, 0⟩ : S104)] : List (S104)))) = some r := h
  clear h
  obtain ⟨y333, hy333⟩ : ∃ y_ : List (S104), y_ = (([(⟨0, 0, 0⟩ : S104)] : List (S104))) := ⟨_, rfl⟩
  replace H : (some y333) = some r := by first | (rw [hy333]; with_reducible exact H) | (have H2_ := (Option.bind_some _ _).symm.trans H; rw [hy333]; with_reducible exact H2_) | (have H2_ := (Option.bind_some _ _).symm.trans H; with_reducible exact H2_) | with_reducible exact H | (rw [hy333]; exact H) | exact H
  have Ny333 := Aside0.mk hy333
  clear hy333
  obtain rfl := Option.some.inj H
  go_enter Try.func98, Try.ntmps98
  go_wp2_with (first | ((with_reducible refine gate_dst (N := 0) rfl ?_); refine box_event ?hg (N := 0) ?hd (cs := #[.slice none 0 0]) (t := 55) ?hr ?_; (case hd => rfl); (case hg => rfl); (case hr => first | (go_simp; done) | (go_simp; rfl)); intro gb332 hg w1 hbox hb; have BK332 := Aside0.mk (hbox); have GW332 := Aside0.mk ((by rw [hg]; exact (below_size (zh HB)) : w.heap.size ≤ gb332)); have GE332 := Aside0.mk ((by rw [hg]; exact (below_size (zh HB)) : w.heap.size ≤ gb332)); replace HB := Aside0.mk (below_step (zh HB) hb); clear hb hbox hg) | ((with_reducible refine gate_dst (N := 2) rfl ?_); refine Kd.R_lit k104 _ 104 ?hg (N := 2) ?hd (xs := ([(⟨0, 0, 0⟩ : S104)] : List (S104))) (inner := [.int .i64 0, .int .i64 0, .int .i64 0]) (ok := fun _ => True) (okp := fun _ => True) ?hr ?hp (fun _ hk => hk) trivial (Below.refl _ _) (Nat.le_refl _) (by simp) ?_; (case hd => rfl); (case hg => rfl); (case hr => first | (go_simp; done) | (go_simp; rfl)); (case hp => exact (Reps.c3 (show Kd.M k104 _ _ _ (⟨0, 0, 0⟩ : S104) [.int .i64 0, .int .i64 0, .int .i64 0] from (k104_mkM _ _ _ (⟨0, 0, 0⟩ : S104) )) (Reps.none _ _))); intro v334 w2 ho3 hb hg_ hnew_; clear hg_ hnew_; (first | rw [← Ny333.out] at ho3 | (simp only [Int.reduceToNat] at ho3; rw [← Ny333.out] at ho3)); have HO335 := Aside0.mk (Kd.R_lower ho3 (below_size (zh1 HB GE332))); replace BK332 := zk BK332 hb; replace HB := Aside0.mk (below_step (zh1 HB GE332) hb); clear hb ho3; obtain ⟨Ao4, co4, eo4⟩ := Kd.R_slice HO335.out; subst eo4; have hcz5_0 : w2.cell? ⟨gb332, 0, none⟩ = some (.slice none 0 0) := (blk_cell BK332.out 0).trans rfl; have hfz5_0 := blk_frozen BK332.out 0))
  refine bodyPost_ret (results_cell_row rfl _ _ gb332 55 #[.slice Ao4 y333.length co4] (0, 0) _ rfl (by (with_reducible repeat (first | refine blk_drewN ?_ _ | refine blk_drew ?_ | refine blk_alloc ?_ _)); refine blk_put (cs := #[.slice none 0 0]) ?_ 0 _ rfl; (with_reducible repeat (first | refine blk_drewN ?_ _ | refine blk_drew ?_ | refine blk_alloc ?_ _)); exact BK332.out) Try.underlying55 rfl (by kernel_rfl)) rfl ?_
  exact ⟨_, by first | rfl | (simp [errW_none, errW_some] <;> rfl) | (simp [*, errW_none, errW_some] <;> rfl), by (with_reducible repeat (first | apply Kd.R_alloc | apply Kd.R_drewN | apply Kd.R_drew)); exact Kd.R_mono (Kd.R_far (p := ⟨gb332, 0, none⟩) (Kd.R_types HO335.out BK332.out (by decide)) (fun _ hk => hk.2) (.slice Ao4 y333.length co4)) (fun _ hk => trivial), zh1 HB GE332⟩

/-! ### impl_TrieOf: function 49 -/
def impl_TrieOf.l0 : Nat → List (S65) → Int → Int → List (S104) → Option ((List (S104)))
  | 0, _, _, _, _ => none
  | k + 1, x11, x12, x13, x341000 => if x13 < x12 then (if 0 ≤ x13 then (if x13 < (x11.length : Int) then ((impl_TriePut.f k x341000 ((rd_T65 x11 x13).f0.f0) ((rd_T65 x11 x13).f0.f1) ((rd_T65 x11 x13).f1)).bind fun bt344 => (impl_TrieOf.l0 k x11 x12 (wrap64 (x13 + 1)) bt344.1)) else (none)) else (none)) else (some x341000)
def impl_TrieOf.f (k : Nat) (l0 : List (S65)) : Option ((List (S104))) := (impl_TrieNew.f).bind fun t337 => ((impl_RoutesOk.f k l0).bind fun t341 => (if t341 = true then (impl_TrieOf.l0 k l0 (l0.length : Int) 0 t337) else (some t337)))
theorem impl_TrieOf.mono_l : ∀ k, (∀ y0 y1 y2 y3, LeO (impl_TrieOf.l0 k y0 y1 y2 y3) (impl_TrieOf.l0 (k + 1) y0 y1 y2 y3))
  | 0 => fun _ _ _ _ r h => by simp [impl_TrieOf.l0] at h
  | k + 1 => by
    have ih0 := impl_TrieOf.mono_l k
    · intro y0 y1 y2 y3
      unfold impl_TrieOf.l0
      repeat' first
      | (with_reducible exact ih0 _ _ _ _)
      | (with_reducible exact impl_RoutesOk.mono _ _)
      | (with_reducible exact impl_TriePut.mono _ _ _ _ _)
      | (with_reducible exact LeO.refl _)
      | (with_reducible exact LeO.none _)
      | (with_reducible refine LeO.ite ?_ ?_)
      | (with_reducible refine LeO.bind ?_ (fun _ => ?_))
      | exact ih0 _ _ _ _
      | exact impl_RoutesOk.mono _ _
      | exact impl_TriePut.mono _ _ _ _ _
      | exact LeO.none _
      | refine LeO.ite ?_ ?_
      | refine LeO.bind ?_ (fun _ => ?_)
theorem impl_TrieOf.mono : ∀ a0 k, LeO (impl_TrieOf.f k a0) (impl_TrieOf.f (k + 1) a0) := by
  intro a0 k
  have ih0 := impl_TrieOf.mono_l k
  unfold impl_TrieOf.f
  repeat' first
      | (with_reducible exact ih0 _ _ _ _)
      | (with_reducible exact impl_RoutesOk.mono _ _)
      | (with_reducible exact impl_TriePut.mono _ _ _ _ _)
      | (with_reducible exact LeO.refl _)
      | (with_reducible exact LeO.none _)
      | (with_reducible refine LeO.ite ?_ ?_)
      | (with_reducible refine LeO.bind ?_ (fun _ => ?_))
      | exact ih0 _ _ _ _
      | exact impl_RoutesOk.mono _ _
      | exact impl_TriePut.mono _ _ _ _ _
      | exact LeO.none _
      | refine LeO.ite ?_ ?_
      | refine LeO.bind ?_ (fun _ => ?_)
set_option maxHeartbeats 8000000 in
set_option maxRecDepth 100000 in
theorem impl_TrieOf.calls (k : Nat) (A0 : Option Addr) (c0 : Nat) (l0 : List (S65)) (r : List (S104)) (w : World) (hr0 : Kd.C k65 w A0 l0.length l0) (hc0 : l0.length ≤ c0) (h : impl_TrieOf.f k l0 = some r) :
    Calls Try.prog 49 #[.slice A0 l0.length c0] w fun e w' => ∃ v0_ : Value, e = .returned (.agg #[v0_]) ∧ Kd.R k104 104 w' w.heap.size (fun _ => True) v0_ r ∧ Below w.heap.size w w' := by
  have hu55 := Try.underlying55
  have hu65 := Try.underlying65
  have hu40 := Try.underlying40
  have HR0 := Aside0.mk hr0
  have HC0 := Aside0.mk hc0
  clear hr0 hc0
  have HB := Aside0.mk (Below.refl w.heap.size w)
  have H : ((impl_TrieNew.f).bind fun t337 => ((impl_RoutesOk.f k l0).bind fun t341 => (if t341 = true then (impl_TrieOf.l0 k l0 (l0.length : Int) 0 t337) else (some t337)))) = some r := h
  clear h
  replace H := Option.bind_eq_some_iff.mp H
  obtain ⟨t337, A20, H⟩ := H
  replace H : ((impl_RoutesOk.f k l0).bind fun t341 => (if t341 = true then (impl_TrieOf.l0 k l0 (l0.length : Int) 0 t337) else (some t337))) = some r := H
  have A2 := Aside0.mk A20
  clear A20
  replace H := Option.bind_eq_some_iff.mp H
  obtain ⟨t341, A30, H⟩ := H
  replace H : (if t341 = true then (impl_TrieOf.l0 k l0 (l0.length : Int) 0 t337) else (some t337)) = some r := H
  have A3 := Aside0.mk A30
  clear A30
  by_cases c4 : t341 = true
  · subst c4
    have H1 : (impl_TrieOf.l0 k l0 (l0.length : Int) 0 t337) = some r := by rw [if_pos rfl] at H; exact H
    clear H
    have H := H1
    clear H1
    have H' := Aside0.mk H
    clear H
    go_enter Try.func49, Try.ntmps49
    go_wp2_with (first | ((with_reducible refine gate_dst (N := 2) rfl ?_); refine box_event ?hg (N := 2) ?hd (cs := #[.slice none 0 0]) (t := 55) ?hr ?_; (case hd => rfl); (case hg => rfl); (case hr => first | (go_simp; done) | (go_simp; rfl)); intro gb336 hg w5 hbox hb; have BK336 := Aside0.mk (hbox); have GW336 := Aside0.mk ((by rw [hg]; exact (below_size (zh HB)) : w.heap.size ≤ gb336)); have GE336 := Aside0.mk ((by rw [hg]; exact (below_size (zh HB)) : w.heap.size ≤ gb336)); replace HB := Aside0.mk (below_step (zh HB) hb); clear hb hbox hg) | ((with_reducible refine gate_callee (f := 98) rfl ?_); refine goesL_ (some 6) rfl rfl Try.func98 (by kernel_rfl) rfl #[] rfl (by (try simp only [List.map_toArray, List.map_cons, List.map_nil]); first | done | rfl | (simp only [List.length_drop, List.length_take]; rfl)) ?_; (with_reducible refine (impl_TrieNew.calls  t337 _ A2.out).mono ?_); rintro e w6 ⟨v338, rfl, ho0, hb⟩; refine ⟨_, rfl, ?_⟩; have HO339 := Aside0.mk (Kd.R_lower ho0 (below_size (zh1 HB GE336))); replace BK336 := zk BK336 hb; replace HB := Aside0.mk (below_step (zh1 HB GE336) hb); (try clear hb); (try clear hb2); (try clear hk); (try clear hi); (try clear ho0)) | ((with_reducible refine gate_dst (N := 3) rfl ?_); refine box_event ?hg (N := 3) ?hd (cs := #[.slice none 0 0]) (t := 55) ?hr ?_; (case hd => rfl); (case hg => rfl); (case hr => first | (go_simp; done) | (go_simp; rfl)); intro gb340 hg w7 hbox hb; replace HO339 := Aside0.mk (Kd.R_below (zr HO339) hb); have BK340 := Aside0.mk (hbox); have GW340 := Aside0.mk ((by rw [hg]; exact (below_size (zh1 HB GE336)) : w.heap.size ≤ gb340)); have GE340 := Aside0.mk ((by rw [hg]; exact (below_size (zh1 HB GE336)) : w.heap.size ≤ gb340)); replace HB := Aside0.mk (below_step (zh1 HB GE336) hb); have NB336_340 := Aside0.mk ((by rw [hg]; exact Nat.ne_of_lt (blk_lt (g := gb336) (o := .cells #[.slice none 0 0] 55 (0, 0)) (zb BK336)) : gb336 ≠ gb340)); have NB340_336 := Aside0.mk ((by rw [hg]; exact Nat.ne_of_gt (blk_lt (g := gb336) (o := .cells #[.slice none 0 0] 55 (0, 0)) (zb BK336)) : gb340 ≠ gb336)); replace BK336 := zk BK336 hb; clear hb hbox hg; obtain ⟨Ao8, co8, eo8⟩ := Kd.R_slice HO339.out; subst eo8; have hnb9 := NB340_336.out; have hnc9 := NB336_340.out; have hcz10_0 : w7.cell? ⟨gb340, 0, none⟩ = some (.slice none 0 0) := (blk_cell BK340.out 0).trans rfl; have hfz10_0 := blk_frozen BK340.out 0) | ((with_reducible refine gate_callee (f := 23) rfl ?_); refine goesL_ (some 8) rfl rfl Try.func23 (by kernel_rfl) rfl #[.slice A0 l0.length c0] rfl (by (try simp only [List.map_toArray, List.map_cons, List.map_nil]); first | done | rfl | (simp only [List.length_drop, List.length_take]; rfl)) ?_; (with_reducible refine (impl_RoutesOk.calls k _ _ l0 true _ ?side1 ?side2 A3.out).mono ?_); (case side1 => exact Kd.C_below HR0.out (zh2 HB GE336 GE340)); (case side2 => exact HC0.out); rintro e w11 ⟨rfl, hb⟩; refine ⟨_, rfl, ?_⟩; replace HO339 := Aside0.mk (Kd.R_below (by (with_reducible repeat (first | apply Kd.R_alloc | apply Kd.R_drewN | apply Kd.R_drew)); exact (Kd.R_mono (Kd.R_far (p := ⟨gb340, 0, none⟩) (Kd.R_types HO339.out BK340.out (by decide)) (fun _ hk => hk.2) (.slice Ao8 t337.length co8)) (fun _ h_ => h_.1))) hb); replace BK336 := Aside0.mk (blk_below (g := gb336) (o := .cells #[.slice none 0 0] 55 (0, 0)) (by (with_reducible repeat (first | refine blk_drewN ?_ _ | refine blk_drew ?_ | refine blk_alloc ?_ _)); refine blk_far ?_ NB336_340.out _; (with_reducible repeat (first | refine blk_drewN ?_ _ | refine blk_drew ?_ | refine blk_alloc ?_ _)); exact BK336.out) hb); replace BK340 := Aside0.mk (blk_below (g := gb340) (o := .cells #[.slice Ao8 t337.length co8] 55 (0, 0)) (by (with_reducible repeat (first | refine blk_drewN ?_ _ | refine blk_drew ?_ | refine blk_alloc ?_ _)); refine blk_put (cs := #[.slice none 0 0]) ?_ 0 _ rfl; (with_reducible repeat (first | refine blk_drewN ?_ _ | refine blk_drew ?_ | refine blk_alloc ?_ _)); exact BK340.out) hb); replace HB := Aside0.mk (below_step (zh2 HB GE336 GE340) hb); (try clear hb); (try clear hb2); (try clear hk); (try clear hi)))
    go_loopg [13] k (fun kq v13 w' => ∃ (x13_1 : Int) (x341000_1 : List (S104)) (u341000 : Value), v13 = .int .i64 x13_1 ∧ Aside0 (impl_TrieOf.l0 kq l0 (l0.length : Int) x13_1 x341000_1 = some r) ∧ Aside0 (kq ≤ k) ∧ Aside0 (Kd.R k104 104 w' w.heap.size (fun _ => True) u341000 x341000_1) ∧ Aside0 (w'.heap[gb336]? = some (.cells #[(.slice none 0 0)] 55 (0, 0))) ∧ Aside0 (w'.heap[gb340]? = some (.cells #[u341000] 55 (0, 0))) ∧ Aside0 (Below w.heap.size w w'))
    case atStart => exact ⟨(0), (t337), (.slice Ao8 t337.length co8), (by first | rfl | (simp; done) | (simp [*]; done)), H', ⟨Nat.le_refl _⟩, ⟨by (with_reducible repeat (first | apply Kd.R_alloc | apply Kd.R_drewN | apply Kd.R_drew)); exact HO339.out⟩, ⟨by (with_reducible repeat (first | refine blk_drewN ?_ _ | refine blk_drew ?_ | refine blk_alloc ?_ _)); exact BK336.out⟩, ⟨by (with_reducible repeat (first | refine blk_drewN ?_ _ | refine blk_drew ?_ | refine blk_alloc ?_ _)); exact BK340.out⟩, ⟨zh2 HB GE336 GE340⟩⟩
    case round =>
      clear H'
      try clear c2
      try clear p2
      try clear c4
      try clear c9
      try clear hcz10_0
      try clear hfz10_0
      obtain ⟨x13_1, x341000_1, u341000, rfl, HA, HK1, HO_341000, BK336, BK340, HB⟩ := hrel
      cases gk with
      | zero => exact absurd HA.out (by simp [impl_TrieOf.l0])
      | succ k1 =>
        have H := HA.out
        clear HA
        simp only [impl_TrieOf.l0] at H
        by_cases c12 : x13_1 < (l0.length : Int)
        · rw [if_pos c12] at H
          have c12b0 : decide (x13_1 < (l0.length : Int)) = true := decide_eq_true c12
          clear c12
          by_cases c13 : 0 ≤ x13_1
          · rw [if_pos c13] at H
            have c13b0 : decide (0 ≤ x13_1) = true := decide_eq_true c13
            clear c13
            by_cases c14 : x13_1 < (l0.length : Int)
            · rw [if_pos c14] at H
              have c14b0 : decide (x13_1 < (l0.length : Int)) = true := decide_eq_true c14
              clear c14
              replace H := Option.bind_eq_some_iff.mp H
              obtain ⟨⟨t344, t347⟩, A150, H⟩ := H
              replace H : (impl_TrieOf.l0 k1 l0 (l0.length : Int) (wrap64 (x13_1 + 1)) t344) = some r := H
              have A15 := Aside0.mk A150
              clear A150
              have H' := Aside0.mk H
              clear H
              have p342 : 0 ≤ (x13_1 : Int) := of_decide_eq_true (by first | (with_reducible assumption) | assumption)
              have q342 : x13_1 < (l0.length : Int) := of_decide_eq_true (by first | (with_reducible assumption) | assumption)
              obtain ⟨ad342, e342, hx342_0, hx342_1, hx342_2⟩ := at_T65 HR0.out x13_1 p342 q342
              cases e342
              replace hx342_0 := (HB.out.cell (World.block_lt_of_cell? w _ hx342_0)).trans hx342_0
              replace hx342_1 := (HB.out.cell (World.block_lt_of_cell? w _ hx342_1)).trans hx342_1
              replace hx342_2 := (HB.out.cell (World.block_lt_of_cell? w _ hx342_2)).trans hx342_2
              replace p342 := eq_true p342
              replace q342 := eq_true q342
              go_wp2_with (first | ((with_reducible refine gate_dst (N := 5) rfl ?_); refine box_event ?hg (N := 5) ?hd (cs := #[.int .i64 0, .int .i64 0, .int .i64 0]) (t := 65) ?hr ?_; (case hd => rfl); (case hg => rfl); (case hr => first | (go_simp; done) | (go_simp; rfl)); intro gb343 hg w16 hbox hb; replace HO_341000 := Aside0.mk (Kd.R_below (zr HO_341000) hb); have BK343 := Aside0.mk (hbox); have GW343 := Aside0.mk ((by rw [hg]; exact (below_size (zh2 HB GE336 GE340)) : w.heap.size ≤ gb343)); have GE343 := Aside0.mk ((by rw [hg]; exact (below_size (zh2 HB GE336 GE340)) : w.heap.size ≤ gb343)); replace HB := Aside0.mk (below_step (zh2 HB GE336 GE340) hb); have NB336_343 := Aside0.mk ((by rw [hg]; exact Nat.ne_of_lt (blk_lt (g := gb336) (o := .cells #[.slice none 0 0] 55 (0, 0)) (zb BK336)) : gb336 ≠ gb343)); have NB343_336 := Aside0.mk ((by rw [hg]; exact Nat.ne_of_gt (blk_lt (g := gb336) (o := .cells #[.slice none 0 0] 55 (0, 0)) (zb BK336)) : gb343 ≠ gb336)); replace BK336 := zk BK336 hb; have NB340_343 := Aside0.mk ((by rw [hg]; exact Nat.ne_of_lt (blk_lt (g := gb340) (o := .cells #[u341000] 55 (0, 0)) (zb BK340)) : gb340 ≠ gb343)); have NB343_340 := Aside0.mk ((by rw [hg]; exact Nat.ne_of_gt (blk_lt (g := gb340) (o := .cells #[u341000] 55 (0, 0)) (zb BK340)) : gb343 ≠ gb340)); replace BK340 := zk BK340 hb; clear hb hbox hg; have hnb17 := NB343_336.out; have hnc17 := NB336_343.out; have hnb18 := NB343_340.out; have hnc18 := NB340_343.out; have hcz19_0 : w16.cell? ⟨gb343, 0, none⟩ = some (.int .i64 0) := (blk_cell BK343.out 0).trans rfl; have hcz19_1 : w16.cell? ⟨gb343, 1, none⟩ = some (.int .i64 0) := (blk_cell BK343.out 1).trans rfl; have hcz19_2 : w16.cell? ⟨gb343, 2, none⟩ = some (.int .i64 0) := (blk_cell BK343.out 2).trans rfl; have hfz19_0 := blk_frozen BK343.out 0; have hfz19_1 := blk_frozen BK343.out 1; have hfz19_2 := blk_frozen BK343.out 2; have hnb20 := NB340_336.out; have hnc20 := NB336_340.out; have hcz21_0 : w16.cell? ⟨gb340, 0, none⟩ = some (u341000) := (blk_cell BK340.out 0).trans rfl; have hfz21_0 := blk_frozen BK340.out 0; obtain ⟨Ao22, co22, eo22⟩ := Kd.R_slice HO_341000.out; subst eo22) | ((with_reducible refine gate_callee (f := 45) rfl ?_); refine goesL_ (some 23) rfl rfl Try.func45 (by kernel_rfl) rfl #[.agg #[.slice Ao22 x341000_1.length co22], .agg #[.int .i64 ((rd_T65 l0 x13_1).f0.f0), .int .i64 ((rd_T65 l0 x13_1).f0.f1)], .int .i64 ((rd_T65 l0 x13_1).f1)] rfl (by (try simp only [List.map_toArray, List.map_cons, List.map_nil]); first | done | rfl | (simp only [List.length_drop, List.length_take]; rfl)) ?_; (with_reducible refine (impl_TriePut.calls k1 _ _ x341000_1 ((rd_T65 l0 x13_1).f0.f0) ((rd_T65 l0 x13_1).f0.f1) ((rd_T65 l0 x13_1).f1) t344 t347 _ ?side1 ?side2 A15.out).mono ?_); (case side1 => refine (Kd.R_reads' (e := 104) (base := w.heap.size) (ok := fun k_ => True) (n := x341000_1.length) (c := co22) ?_).2.2; exact (by (with_reducible repeat (first | apply Kd.R_alloc | apply Kd.R_drewN | apply Kd.R_drew)); exact (Kd.R_mono (Kd.R_far (p := ⟨gb343, 2, none⟩) (Kd.R_far (p := ⟨gb343, 1, none⟩) (Kd.R_far (p := ⟨gb343, 0, none⟩) (Kd.R_types HO_341000.out BK343.out (by decide)) (fun _ hk => hk.2) (.int .i64 ((rd_T65 l0 x13_1).f0.f0))) (fun _ hk => hk.2) (.int .i64 ((rd_T65 l0 x13_1).f0.f1))) (fun _ hk => hk.2) (.int .i64 ((rd_T65 l0 x13_1).f1))) (fun _ h_ => h_.1)))); (case side2 => exact (Kd.R_reads' HO_341000.out).2.1); rintro e w23 ⟨v345, rfl, ho0, hb⟩; refine ⟨_, rfl, ?_⟩; have HO346 := Aside0.mk (Kd.R_lower (Kd.R_new' ho0 (Kd.R_lt (by (with_reducible repeat (first | apply Kd.R_alloc | apply Kd.R_drewN | apply Kd.R_drew)); exact (Kd.R_mono (Kd.R_far (p := ⟨gb343, 2, none⟩) (Kd.R_far (p := ⟨gb343, 1, none⟩) (Kd.R_far (p := ⟨gb343, 0, none⟩) (Kd.R_types HO_341000.out BK343.out (by decide)) (fun _ hk => hk.2) (.int .i64 ((rd_T65 l0 x13_1).f0.f0))) (fun _ hk => hk.2) (.int .i64 ((rd_T65 l0 x13_1).f0.f1))) (fun _ hk => hk.2) (.int .i64 ((rd_T65 l0 x13_1).f1))) (fun _ h_ => h_.1))))) (below_size (zh3 HB GE336 GE340 GE343))); replace HO_341000 := Aside0.mk (Kd.R_elder' (by (with_reducible repeat (first | apply Kd.R_alloc | apply Kd.R_drewN | apply Kd.R_drew)); exact (Kd.R_mono (Kd.R_far (p := ⟨gb343, 2, none⟩) (Kd.R_far (p := ⟨gb343, 1, none⟩) (Kd.R_far (p := ⟨gb343, 0, none⟩) (Kd.R_types HO_341000.out BK343.out (by decide)) (fun _ hk => hk.2) (.int .i64 ((rd_T65 l0 x13_1).f0.f0))) (fun _ hk => hk.2) (.int .i64 ((rd_T65 l0 x13_1).f0.f1))) (fun _ hk => hk.2) (.int .i64 ((rd_T65 l0 x13_1).f1))) (fun _ h_ => h_.1))) (Kd.R_base ho0) hb); replace BK336 := Aside0.mk (blk_below (g := gb336) (o := .cells #[.slice none 0 0] 55 (0, 0)) (by (with_reducible repeat (first | refine blk_drewN ?_ _ | refine blk_drew ?_ | refine blk_alloc ?_ _)); refine blk_far ?_ NB336_343.out _; (with_reducible repeat (first | refine blk_drewN ?_ _ | refine blk_drew ?_ | refine blk_alloc ?_ _)); refine blk_far ?_ NB336_343.out _; (with_reducible repeat (first | refine blk_drewN ?_ _ | refine blk_drew ?_ | refine blk_alloc ?_ _)); refine blk_far ?_ NB336_343.out _; (with_reducible repeat (first | refine blk_drewN ?_ _ | refine blk_drew ?_ | refine blk_alloc ?_ _)); exact BK336.out) hb); replace BK340 := Aside0.mk (blk_below (g := gb340) (o := .cells #[.slice Ao22 x341000_1.length co22] 55 (0, 0)) (by (with_reducible repeat (first | refine blk_drewN ?_ _ | refine blk_drew ?_ | refine blk_alloc ?_ _)); refine blk_far ?_ NB340_343.out _; (with_reducible repeat (first | refine blk_drewN ?_ _ | refine blk_drew ?_ | refine blk_alloc ?_ _)); refine blk_far ?_ NB340_343.out _; (with_reducible repeat (first | refine blk_drewN ?_ _ | refine blk_drew ?_ | refine blk_alloc ?_ _)); refine blk_far ?_ NB340_343.out _; (with_reducible repeat (first | refine blk_drewN ?_ _ | refine blk_drew ?_ | refine blk_alloc ?_ _)); exact BK340.out) hb); replace BK343 := Aside0.mk (blk_below (g := gb343) (o := .cells #[.int .i64 ((rd_T65 l0 x13_1).f0.f0), .int .i64 ((rd_T65 l0 x13_1).f0.f1), .int .i64 ((rd_T65 l0 x13_1).f1)] 65 (0, 0)) (by (with_reducible repeat (first | refine blk_drewN ?_ _ | refine blk_drew ?_ | refine blk_alloc ?_ _)); refine blk_put (cs := #[.int .i64 ((rd_T65 l0 x13_1).f0.f0), .int .i64 ((rd_T65 l0 x13_1).f0.f1), .int .i64 0]) ?_ 2 _ rfl; (with_reducible repeat (first | refine blk_drewN ?_ _ | refine blk_drew ?_ | refine blk_alloc ?_ _)); refine blk_put (cs := #[.int .i64 ((rd_T65 l0 x13_1).f0.f0), .int .i64 0, .int .i64 0]) ?_ 1 _ rfl; (with_reducible repeat (first | refine blk_drewN ?_ _ | refine blk_drew ?_ | refine blk_alloc ?_ _)); refine blk_put (cs := #[.int .i64 0, .int .i64 0, .int .i64 0]) ?_ 0 _ rfl; (with_reducible repeat (first | refine blk_drewN ?_ _ | refine blk_drew ?_ | refine blk_alloc ?_ _)); exact BK343.out) hb); replace HB := Aside0.mk (below_step (zh3 HB GE336 GE340 GE343) hb); (try clear hb); (try clear hb2); (try clear hk); (try clear hi); (try clear ho0); obtain ⟨Ao24, co24, eo24⟩ := Kd.R_slice HO346.out; subst eo24; have hcz25_0 : w23.cell? ⟨gb340, 0, none⟩ = some (.slice Ao22 x341000_1.length co22) := (blk_cell BK340.out 0).trans rfl; have hfz25_0 := blk_frozen BK340.out 0))
              go_roundg k1
              case measure => have := HK1.out; omega
              case rel => exact ⟨(wrap64 (x13_1 + 1)), (t344), (.slice Ao24 t344.length co24), (by first | rfl | (simp; done) | (simp [*]; done)), H', ⟨by have := HK1.out; omega⟩, ⟨by (with_reducible repeat (first | apply Kd.R_alloc | apply Kd.R_drewN | apply Kd.R_drew)); exact Kd.R_mono (Kd.R_far (p := ⟨gb340, 0, none⟩) (Kd.R_types HO346.out BK340.out (by decide)) (fun _ hk => hk.2) (.slice Ao24 t344.length co24)) (fun _ hk => trivial)⟩, ⟨by (with_reducible repeat (first | refine blk_drewN ?_ _ | refine blk_drew ?_ | refine blk_alloc ?_ _)); refine blk_far ?_ NB336_340.out _; (with_reducible repeat (first | refine blk_drewN ?_ _ | refine blk_drew ?_ | refine blk_alloc ?_ _)); exact BK336.out⟩, ⟨by (with_reducible repeat (first | refine blk_drewN ?_ _ | refine blk_drew ?_ | refine blk_alloc ?_ _)); refine blk_put (cs := #[.slice Ao22 x341000_1.length co22]) ?_ 0 _ rfl; (with_reducible repeat (first | refine blk_drewN ?_ _ | refine blk_drew ?_ | refine blk_alloc ?_ _)); exact BK340.out⟩, ⟨zh3 HB GE336 GE340 GE343⟩⟩
            · rw [if_neg c14] at H
              exact absurd H (by simp)
          · rw [if_neg c13] at H
            exact absurd H (by simp)
        · rw [if_neg c12] at H
          have c12b0 : decide (x13_1 < (l0.length : Int)) = false := decide_eq_false c12
          clear c12
          obtain rfl := Option.some.inj H
          have hnb26 := NB340_336.out
          have hnc26 := NB336_340.out
          have hcz27_0 : wr.cell? ⟨gb340, 0, none⟩ = some (u341000) := (blk_cell BK340.out 0).trans rfl
          have hfz27_0 := blk_frozen BK340.out 0
          obtain ⟨Ao28, co28, eo28⟩ := Kd.R_slice HO_341000.out
          subst eo28
          have hcz29_0 : wr.cell? ⟨gb336, 0, none⟩ = some (.slice none 0 0) := (blk_cell BK336.out 0).trans rfl
          have hfz29_0 := blk_frozen BK336.out 0
          go_wp2
          refine bodyPost_ret (results_cell_row rfl _ _ gb336 55 #[.slice Ao28 x341000_1.length co28] (0, 0) _ rfl (by (with_reducible repeat (first | refine blk_drewN ?_ _ | refine blk_drew ?_ | refine blk_alloc ?_ _)); refine blk_put (cs := #[.slice none 0 0]) ?_ 0 _ rfl; (with_reducible repeat (first | refine blk_drewN ?_ _ | refine blk_drew ?_ | refine blk_alloc ?_ _)); exact BK336.out) Try.underlying55 rfl (by kernel_rfl)) rfl ?_
          exact ⟨_, by first | rfl | (simp [errW_none, errW_some] <;> rfl) | (simp [*, errW_none, errW_some] <;> rfl), by (with_reducible repeat (first | apply Kd.R_alloc | apply Kd.R_drewN | apply Kd.R_drew)); exact Kd.R_mono (Kd.R_far (p := ⟨gb336, 0, none⟩) (Kd.R_types HO_341000.out BK336.out (by decide)) (fun _ hk => hk.2) (.slice Ao28 x341000_1.length co28)) (fun _ hk => trivial), zh2 HB GE336 GE340⟩
  · replace c4 := Bool.eq_false_iff.mpr c4
    subst c4
    have H1 : (some t337) = some r := by rw [if_neg (show ¬ (false = true) by decide)] at H; exact H
    clear H
    have H := H1
    clear H1
    obtain rfl := Option.some.inj H
    go_enter Try.func49, Try.ntmps49
    go_wp2_with (first | ((with_reducible refine gate_dst (N := 2) rfl ?_); refine box_event ?hg (N := 2) ?hd (cs := #[.slice none 0 0]) (t := 55) ?hr ?_; (case hd => rfl); (case hg => rfl); (case hr => first | (go_simp; done) | (go_simp; rfl)); intro gb336 hg w30 hbox hb; have BK336 := Aside0.mk (hbox); have GW336 := Aside0.mk ((by rw [hg]; exact (below_size (zh HB)) : w.heap.size ≤ gb336)); have GE336 := Aside0.mk ((by rw [hg]; exact (below_size (zh HB)) : w.heap.size ≤ gb336)); replace HB := Aside0.mk (below_step (zh HB) hb); clear hb hbox hg) | ((with_reducible refine gate_callee (f := 98) rfl ?_); refine goesL_ (some 6) rfl rfl Try.func98 (by kernel_rfl) rfl #[] rfl (by (try simp only [List.map_toArray, List.map_cons, List.map_nil]); first | done | rfl | (simp only [List.length_drop, List.length_take]; rfl)) ?_; (with_reducible refine (impl_TrieNew.calls  t337 _ A2.out).mono ?_); rintro e w31 ⟨v338, rfl, ho0, hb⟩; refine ⟨_, rfl, ?_⟩; have HO339 := Aside0.mk (Kd.R_lower ho0 (below_size (zh1 HB GE336))); replace BK336 := zk BK336 hb; replace HB := Aside0.mk (below_step (zh1 HB GE336) hb); (try clear hb); (try clear hb2); (try clear hk); (try clear hi); (try clear ho0)) | ((with_reducible refine gate_dst (N := 3) rfl ?_); refine box_event ?hg (N := 3) ?hd (cs := #[.slice none 0 0]) (t := 55) ?hr ?_; (case hd => rfl); (case hg => rfl); (case hr => first | (go_simp; done) | (go_simp; rfl)); intro gb340 hg w32 hbox hb; replace HO339 := Aside0.mk (Kd.R_below (zr HO339) hb); have BK340 := Aside0.mk (hbox); have GW340 := Aside0.mk ((by rw [hg]; exact (below_size (zh1 HB GE336)) : w.heap.size ≤ gb340)); have GE340 := Aside0.mk ((by rw [hg]; exact (below_size (zh1 HB GE336)) : w.heap.size ≤ gb340)); replace HB := Aside0.mk (below_step (zh1 HB GE336) hb); have NB336_340 := Aside0.mk ((by rw [hg]; exact Nat.ne_of_lt (blk_lt (g := gb336) (o := .cells #[.slice none 0 0] 55 (0, 0)) (zb BK336)) : gb336 ≠ gb340)); have NB340_336 := Aside0.mk ((by rw [hg]; exact Nat.ne_of_gt (blk_lt (g := gb336) (o := .cells #[.slice none 0 0] 55 (0, 0)) (zb BK336)) : gb340 ≠ gb336)); replace BK336 := zk BK336 hb; clear hb hbox hg; obtain ⟨Ao33, co33, eo33⟩ := Kd.R_slice HO339.out; subst eo33; have hnb34 := NB340_336.out; have hnc34 := NB336_340.out; have hcz35_0 : w32.cell? ⟨gb340, 0, none⟩ = some (.slice none 0 0) := (blk_cell BK340.out 0).trans rfl; have hfz35_0 := blk_frozen BK340.out 0) | ((with_reducible refine gate_callee (f := 23) rfl ?_); refine goesL_ (some 8) rfl rfl Try.func23 (by kernel_rfl) rfl #[.slice A0 l0.length c0] rfl (by (try simp only [List.map_toArray, List.map_cons, List.map_nil]); first | done | rfl | (simp only [List.length_drop, List.length_take]; rfl)) ?_; (with_reducible refine (impl_RoutesOk.calls k _ _ l0 false _ ?side1 ?side2 A3.out).mono ?_); (case side1 => exact Kd.C_below HR0.out (zh2 HB GE336 GE340)); (case side2 => exact HC0.out); rintro e w36 ⟨rfl, hb⟩; refine ⟨_, rfl, ?_⟩; replace HO339 := Aside0.mk (Kd.R_below (by (with_reducible repeat (first | apply Kd.R_alloc | apply Kd.R_drewN | apply Kd.R_drew)); exact (Kd.R_mono (Kd.R_far (p := ⟨gb340, 0, none⟩) (Kd.R_types HO339.out BK340.out (by decide)) (fun _ hk => hk.2) (.slice Ao33 t337.length co33)) (fun _ h_ => h_.1))) hb); replace BK336 := Aside0.mk (blk_below (g := gb336) (o := .cells #[.slice none 0 0] 55 (0, 0)) (by (with_reducible repeat (first | refine blk_drewN ?_ _ | refine blk_drew ?_ | refine blk_alloc ?_ _)); refine blk_far ?_ NB336_340.out _; (with_reducible repeat (first | refine blk_drewN ?_ _ | refine blk_drew ?_ | refine blk_alloc ?_ _)); exact BK336.out) hb); replace BK340 := Aside0.mk (blk_below (g := gb340) (o := .cells #[.slice Ao33 t337.length co33] 55 (0, 0)) (by (with_reducible repeat (first | refine blk_drewN ?_ _ | refine blk_drew ?_ | refine blk_alloc ?_ _)); refine blk_put (cs := #[.slice none 0 0]) ?_ 0 _ rfl; (with_reducible repeat (first | refine blk_drewN ?_ _ | refine blk_drew ?_ | refine blk_alloc ?_ _)); exact BK340.out) hb); replace HB := Aside0.mk (below_step (zh2 HB GE336 GE340) hb); (try clear hb); (try clear hb2); (try clear hk); (try clear hi); have hcz37_0 : w36.cell? ⟨gb340, 0, none⟩ = some (.slice Ao33 t337.length co33) := (blk_cell BK340.out 0).trans rfl; have hfz37_0 := blk_frozen BK340.out 0; have hcz38_0 : w36.cell? ⟨gb336, 0, none⟩ = some (.slice none 0 0) := (blk_cell BK336.out 0).trans rfl; have hfz38_0 := blk_frozen BK336.out 0))
    refine bodyPost_ret (results_cell_row rfl _ _ gb336 55 #[.slice Ao33 t337.length co33] (0, 0) _ rfl (by (with_reducible repeat (first | refine blk_drewN ?_ _ | refine blk_drew ?_ | refine blk_alloc ?_ _)); refine blk_put (cs := #[.slice none 0 0]) ?_ 0 _ rfl; (with_reducible repeat (first | refine blk_drewN ?_ _ | refine blk_drew ?_ | refine blk_alloc ?_ _)); exact BK336.out) Try.underlying55 rfl (by kernel_rfl)) rfl ?_
    exact ⟨_, by first | rfl | (simp [errW_none, errW_some] <;> rfl) | (simp [*, errW_none, errW_some] <;> rfl), by (with_reducible repeat (first | apply Kd.R_alloc | apply Kd.R_drewN | apply Kd.R_drew)); exact Kd.R_mono (Kd.R_far (p := ⟨gb336, 0, none⟩) (Kd.R_types HO339.out BK336.out (by decide)) (fun _ hk => hk.2) (.slice Ao33 t337.length co33)) (fun _ hk => trivial), zh2 HB GE336 GE340⟩

/-! ### spec_DrawAddrs: function 50 -/
def spec_DrawAddrs.l0 : Nat → List Int → Int → List Int → Int → Int → Option (List Int × Int × Int)
  | 0, _, _, _, _, _ => none
  | k + 1, x5, x6, x353000, x353001, x353002 => if x6 < 6 then ((spec_l01Below.f x353000 x353001 x353002 1024).bind fun bt356 => (if x5.length < 17592186044416 then (spec_DrawAddrs.l0 k (x5 ++ [wrap64 (167772160 + bt356.1)]) (wrap64 (x6 + 1)) x353000 bt356.2.1 bt356.2.2) else (none))) else ((spec_l08Prefix.f k x353000 x353001 x353002).bind fun bt362 => (some (x5, bt362.1, bt362.2.1)))
def spec_DrawAddrs.f (k : Nat) (l0 : List Int) : Option (List Int × Int × Int) := (spec_l01New.f k l0).bind fun bt349 => (spec_DrawAddrs.l0 k (([] : List Int)) 0 bt349.1 bt349.2.1 bt349.2.2)
theorem spec_DrawAddrs.mono_l : ∀ k, (∀ y0 y1 y2 y3 y4, LeO (spec_DrawAddrs.l0 k y0 y1 y2 y3 y4) (spec_DrawAddrs.l0 (k + 1) y0 y1 y2 y3 y4))
  | 0 => fun _ _ _ _ _ r h => by simp [spec_DrawAddrs.l0] at h
  | k + 1 => by
    have ih0 := spec_DrawAddrs.mono_l k
    · intro y0 y1 y2 y3 y4
      unfold spec_DrawAddrs.l0
      repeat' first
      | (with_reducible exact ih0 _ _ _ _ _)
      | (with_reducible exact spec_l01New.mono _ _)
      | (with_reducible exact spec_l08Prefix.mono _ _ _ _)
      | (with_reducible exact LeO.refl _)
      | (with_reducible exact LeO.none _)
      | (with_reducible refine LeO.ite ?_ ?_)
      | (with_reducible refine LeO.bind ?_ (fun _ => ?_))
      | exact ih0 _ _ _ _ _
      | exact spec_l01New.mono _ _
      | exact spec_l08Prefix.mono _ _ _ _
      | exact LeO.none _
      | refine LeO.ite ?_ ?_
      | refine LeO.bind ?_ (fun _ => ?_)
theorem spec_DrawAddrs.mono : ∀ a0 k, LeO (spec_DrawAddrs.f k a0) (spec_DrawAddrs.f (k + 1) a0) := by
  intro a0 k
  have ih0 := spec_DrawAddrs.mono_l k
  unfold spec_DrawAddrs.f
  repeat' first
      | (with_reducible exact ih0 _ _ _ _ _)
      | (with_reducible exact spec_l01New.mono _ _)
      | (with_reducible exact spec_l08Prefix.mono _ _ _ _)
      | (with_reducible exact LeO.refl _)
      | (with_reducible exact LeO.none _)
      | (with_reducible refine LeO.ite ?_ ?_)
      | (with_reducible refine LeO.bind ?_ (fun _ => ?_))
      | exact ih0 _ _ _ _ _
      | exact spec_l01New.mono _ _
      | exact spec_l08Prefix.mono _ _ _ _
      | exact LeO.none _
      | refine LeO.ite ?_ ?_
      | refine LeO.bind ?_ (fun _ => ?_)
set_option maxHeartbeats 8000000 in
set_option maxRecDepth 100000 in
theorem spec_DrawAddrs.calls (k : Nat) (A0 : Option Addr) (c0 : Nat) (l0 : List Int) (r1 : List Int) (r2 : Int) (r3 : Int) (w : World) (hr0 : Kd.C (Kd.int .u8) w A0 l0.length l0) (hc0 : l0.length ≤ c0) (h : spec_DrawAddrs.f k l0 = some (r1, r2, r3)) :
    Calls Try.prog 50 #[.slice A0 l0.length c0] w fun e w' => ∃ v0_ : Value, e = .returned (.tuple #[v0_, .agg #[.int .i64 r2, .int .i64 r3]]) ∧ Kd.R (Kd.int .i64) 3 w' w.heap.size (fun _ => True) v0_ r1 ∧ Below w.heap.size w w' := by
  have hu40 := Try.underlying40
  have HR0 := Aside0.mk hr0
  have HC0 := Aside0.mk hc0
  clear hr0 hc0
  have HB := Aside0.mk (Below.refl w.heap.size w)
  have H : ((spec_l01New.f k l0).bind fun bt349 => (spec_DrawAddrs.l0 k (([] : List Int)) 0 bt349.1 bt349.2.1 bt349.2.2)) = some (r1, r2, r3) := h
  clear h
  replace H := Option.bind_eq_some_iff.mp H
  obtain ⟨⟨t349, t350, t351⟩, A20, H⟩ := H
  replace H : (spec_DrawAddrs.l0 k (([] : List Int)) 0 t349 t350 t351) = some (r1, r2, r3) := H
  have A2 := Aside0.mk A20
  clear A20
  obtain ⟨y353, hy353⟩ : ∃ y_ : List Int, y_ = (([] : List Int)) := ⟨_, rfl⟩
  replace H : (spec_DrawAddrs.l0 k y353 0 t349 t350 t351) = some (r1, r2, r3) := by first | (rw [hy353]; with_reducible exact H) | (have H2_ := (Option.bind_some _ _).symm.trans H; rw [hy353]; with_reducible exact H2_) | (have H2_ := (Option.bind_some _ _).symm.trans H; with_reducible exact H2_) | with_reducible exact H | (rw [hy353]; exact H) | exact H
  have Ny353 := Aside0.mk hy353
  clear hy353
  have H' := Aside0.mk H
  clear H
  go_enter Try.func50, Try.ntmps50
  go_wp2_with (first | ((with_reducible refine gate_dst (N := 3) rfl ?_); refine box_event ?hg (N := 3) ?hd (cs := #[.int .i64 0, .int .i64 0]) (t := 40) ?hr ?_; (case hd => rfl); (case hg => rfl); (case hr => first | (go_simp; done) | (go_simp; rfl)); intro gb348 hg w3 hbox hb; have BK348 := Aside0.mk (hbox); have GW348 := Aside0.mk ((by rw [hg]; exact (below_size (zh HB)) : w.heap.size ≤ gb348)); have GE348 := Aside0.mk ((by rw [hg]; exact (below_size (zh HB)) : w.heap.size ≤ gb348)); replace HB := Aside0.mk (below_step (zh HB) hb); clear hb hbox hg) | ((with_reducible refine gate_callee (f := 82) rfl ?_); refine goesL_ (some 8) rfl rfl Try.func82 (by kernel_rfl) rfl #[.slice A0 l0.length c0] rfl (by (try simp only [List.map_toArray, List.map_cons, List.map_nil]); first | done | rfl | (simp only [List.length_drop, List.length_take]; rfl)) ?_; (with_reducible refine (spec_l01New.calls k _ _ l0 t349 t350 t351 w _ ?side1 ?side2 ?side3 A2.out).mono ?_); (case side1 => repeat (first | (with_reducible first | exact HB.out | apply below_alloc | apply pw_below_drewN | apply below_drew1 | refine below_set ?_ GE348.out) | exact HB.out)); (case side2 => exact HR0.out); (case side3 => exact HC0.out); rintro e w4 ⟨g352, rfl, hi, hb, hb2⟩; refine ⟨_, rfl, ?_⟩; replace HB := Aside0.mk (hb); have HI352 := Aside0.mk (hi); have NB352_348 := Aside0.mk (IsS135.ne_blk hi (blk_below (g := gb348) (o := .cells #[.int .i64 0, .int .i64 0] 40 (0, 0)) (zb BK348) hb2) (by decide)); have NB348_352 := Aside0.mk (Ne.symm (IsS135.ne_blk hi (blk_below (g := gb348) (o := .cells #[.int .i64 0, .int .i64 0] 40 (0, 0)) (zb BK348) hb2) (by decide))); replace BK348 := zk BK348 hb2; (try clear hb); (try clear hb2); (try clear hk); (try clear hi)) | ((with_reducible refine gate_dst (N := 9) rfl ?_); refine Kd.R_lit (Kd.int .i64) _ 3 ?hg (N := 9) ?hd (xs := ([] : List Int)) (inner := []) (ok := fun _ => True) (okp := fun _ => True) ?hr ?hp (fun _ hk => hk) trivial (Below.refl _ _) (Nat.le_refl _) (by simp) ?_; (case hd => rfl); (case hg => rfl); (case hr => first | (go_simp; done) | (go_simp; rfl)); (case hp => exact (Reps.none _ _)); intro v354 w5 ho6 hb hg_ hnew_; clear hg_ hnew_; (first | rw [← Ny353.out] at ho6 | (simp only [Int.reduceToNat] at ho6; rw [← Ny353.out] at ho6)); have HO355 := Aside0.mk (Kd.R_lower ho6 (below_size (by repeat (first | (with_reducible first | exact HB.out | apply below_alloc | apply pw_below_drewN | apply below_drew1 | refine below_set ?_ (IsS135.ge HI352.out) | refine below_set ?_ GE348.out) | exact HB.out)))); replace BK348 := zk BK348 hb; replace HB := Aside0.mk (below_step (by repeat (first | (with_reducible first | exact HB.out | apply below_alloc | apply pw_below_drewN | apply below_drew1 | refine below_set ?_ (IsS135.ge HI352.out) | refine below_set ?_ GE348.out) | exact HB.out)) hb); replace HI352 := Aside0.mk (IsS135.below (by repeat (first | (with_reducible first | exact HI352.out | apply IsS135.alloc | apply IsS135.drewN | apply IsS135.drew | apply IsS135.set_1 | apply IsS135.set_2 | refine IsS135.far ?_ NB352_348.out _) | exact HI352.out)) hb); clear hb ho6))
  go_loopg [5, 6] k (fun kq v5 v6 w' => ∃ (x5_1 : List Int) (x6_1 : Int) (x353001_1 : Int) (x353002_1 : Int), v6 = .int .i64 x6_1 ∧ Aside0 (spec_DrawAddrs.l0 kq x5_1 x6_1 t349 x353001_1 x353002_1 = some (r1, r2, r3)) ∧ Aside0 (kq ≤ k) ∧ Aside0 (Kd.R (Kd.int .i64) 3 w' w.heap.size (fun _ => True) v5 x5_1) ∧ Aside0 (w'.heap[gb348]? = some (.cells #[.int .i64 0, .int .i64 0] 40 (0, 0))) ∧ Aside0 (IsS135 w w' g352 t349 x353001_1 x353002_1) ∧ Aside0 (Below w.heap.size w w'))
  case atStart => exact ⟨(y353), (0), (t350), (t351), (by first | rfl | (simp; done) | (simp [*]; done)), H', ⟨Nat.le_refl _⟩, ⟨by (with_reducible repeat (first | apply Kd.R_alloc | apply Kd.R_drewN | apply Kd.R_drew)); exact HO355.out⟩, ⟨by (with_reducible repeat (first | refine blk_drewN ?_ _ | refine blk_drew ?_ | refine blk_alloc ?_ _)); exact BK348.out⟩, ⟨by repeat (first | (with_reducible first | exact HI352.out | apply IsS135.alloc | apply IsS135.drewN | apply IsS135.drew | apply IsS135.set_1 | apply IsS135.set_2 | refine IsS135.far ?_ NB352_348.out _) | exact HI352.out)⟩, ⟨by repeat (first | (with_reducible first | exact HB.out | apply below_alloc | apply pw_below_drewN | apply below_drew1 | refine below_set ?_ (IsS135.ge HI352.out) | refine below_set ?_ GE348.out) | exact HB.out)⟩⟩
  case round =>
    clear H'
    try clear p2
    try clear c5
    obtain ⟨x5_1, x6_1, x353001_1, x353002_1, rfl, HA, HK1, HO_5, BK348, HI352, HB⟩ := hrel
    cases gk with
    | zero => exact absurd HA.out (by simp [spec_DrawAddrs.l0])
    | succ k1 =>
      have H := HA.out
      clear HA
      simp only [spec_DrawAddrs.l0] at H
      by_cases c7 : x6_1 < 6
      · rw [if_pos c7] at H
        have c7b0 : decide (x6_1 < 6) = true := decide_eq_true c7
        clear c7
        replace H := Option.bind_eq_some_iff.mp H
        obtain ⟨⟨t356, t357, t358⟩, A80, H⟩ := H
        replace H : (if x5_1.length < 17592186044416 then (spec_DrawAddrs.l0 k1 (x5_1 ++ [wrap64 (167772160 + t356)]) (wrap64 (x6_1 + 1)) t349 t357 t358) else (none)) = some (r1, r2, r3) := H
        have A8 := Aside0.mk A80
        clear A80
        by_cases c9 : x5_1.length < 17592186044416
        · rw [if_pos c9] at H
          have LMc9 := Aside0.mk c9
          clear c9
          obtain ⟨y359, hy359⟩ : ∃ y_ : List Int, y_ = (x5_1 ++ [wrap64 (167772160 + t356)]) := ⟨_, rfl⟩
          replace H : (spec_DrawAddrs.l0 k1 y359 (wrap64 (x6_1 + 1)) t349 t357 t358) = some (r1, r2, r3) := by first | (rw [hy359]; with_reducible exact H) | (have H2_ := (Option.bind_some _ _).symm.trans H; rw [hy359]; with_reducible exact H2_) | (have H2_ := (Option.bind_some _ _).symm.trans H; with_reducible exact H2_) | with_reducible exact H | (rw [hy359]; exact H) | exact H
          have Ny359 := Aside0.mk hy359
          clear hy359
          have H' := Aside0.mk H
          clear H
          go_wp2_with (first | ((with_reducible refine gate_callee (f := 84) rfl ?_); refine goesL_ (some 16) rfl rfl Try.func84 (by kernel_rfl) rfl #[.pointer (some ⟨g352, 0, none⟩), .int .i64 1024] rfl (by (try simp only [List.map_toArray, List.map_cons, List.map_nil]); first | done | rfl | (simp only [List.length_drop, List.length_take]; rfl)) ?_; (with_reducible refine (spec_l01Below.calls g352 t349 x353001_1 x353002_1 1024 t356 t357 t358 w _ ?side1 ?side2 A8.out).mono ?_); (case side1 => repeat (first | (with_reducible first | exact HI352.out | apply IsS135.alloc | apply IsS135.drewN | apply IsS135.drew | apply IsS135.set_1 | apply IsS135.set_2 | refine IsS135.far ?_ NB352_348.out _) | exact HI352.out)); (case side2 => repeat (first | (with_reducible first | exact HB.out | apply below_alloc | apply pw_below_drewN | apply below_drew1 | refine below_set ?_ (IsS135.ge HI352.out) | refine below_set ?_ GE348.out) | exact HB.out)); rintro e w10 ⟨rfl, hi, hb, hk⟩; refine ⟨_, rfl, ?_⟩; replace HO_5 := Aside0.mk (Kd.R_mono (Kd.R_keep (IsS135.apart (show IsS135 w _ g352 t349 x353001_1 x353002_1 from by repeat (first | (with_reducible first | exact HI352.out | apply IsS135.alloc | apply IsS135.drewN | apply IsS135.drew | apply IsS135.set_1 | apply IsS135.set_2 | refine IsS135.far ?_ NB352_348.out _) | exact HI352.out)) (zr HO_5) (by decide)) hk (fun _ h => h.2)) (fun _ h => h.1)); replace BK348 := Aside0.mk (KeepBut.blk hk (g' := gb348) (o := .cells #[.int .i64 0, .int .i64 0] 40 (0, 0)) (zb BK348) NB348_352.out (by simp)); replace HB := Aside0.mk (hb); replace HI352 := Aside0.mk (hi); (try clear hb); (try clear hb2); (try clear hk); (try clear hi)) | ((with_reducible refine gate_builtin (b := .append) (xs := #[.tmp 14, .tmp 18]) rfl ?_); at_builtin; refine Kd.R_append (Kd.int .i64) (w0 := w) w.heap.size rfl (.tmp 14) (.tmp 18) 76 3 (.int .i64 0) 8 rfl Try.underlying76 info3 rfl (by decide) (by omega) u5 x5_1 (wrap64 (167772160 + t356)) [.int .i64 (wrap64 (167772160 + t356))] (fun _ => True) (fun _ => False) rfl rfl ?aP (fun _ hk => hk.elim) ?aF ?aO ?aB ?aS ?aL ?_; (case aP => exact rfl); (case aB => exact (by repeat (first | (with_reducible first | exact HB.out | apply below_alloc | apply pw_below_drewN | apply below_drew1 | refine below_set ?_ (IsS135.ge HI352.out) | refine below_set ?_ GE348.out) | exact HB.out))); (case aF => exact (fun _ _ => trivial)); (case aO => exact (zr HO_5)); (case aS => exact (below_size (by repeat (first | (with_reducible first | exact HB.out | apply below_alloc | apply pw_below_drewN | apply below_drew1 | refine below_set ?_ (IsS135.ge HI352.out) | refine below_set ?_ GE348.out) | exact HB.out)))); (case aL => have := LMc9.out; omega); intro v360 w11 ho hb hg hat; rw [← Ny359.out] at ho; replace BK348 := Aside0.mk (blk_grown (g := gb348) (o := .cells #[.int .i64 0, .int .i64 0] 40 (0, 0)) (zb BK348) hg (Kd.R_ne HO_5.out BK348.out (by decide))); replace HI352 := Aside0.mk (IsS135.grown (by repeat (first | (with_reducible first | exact HI352.out | apply IsS135.alloc | apply IsS135.drewN | apply IsS135.drew | apply IsS135.set_1 | apply IsS135.set_2 | refine IsS135.far ?_ NB352_348.out _) | exact HI352.out)) hg (IsS135.own_ne HI352.out HO_5.out (by decide))); replace HB := Aside0.mk (hb); have HO361 := Aside0.mk (ho); clear HO_5; clear ho hb hg hat))
          go_roundg k1
          case measure => have := HK1.out; omega
          case rel => exact ⟨(y359), (wrap64 (x6_1 + 1)), (t357), (t358), (by first | rfl | (simp; done) | (simp [*]; done)), H', ⟨by have := HK1.out; omega⟩, ⟨by (with_reducible repeat (first | apply Kd.R_alloc | apply Kd.R_drewN | apply Kd.R_drew)); exact HO361.out⟩, ⟨by (with_reducible repeat (first | refine blk_drewN ?_ _ | refine blk_drew ?_ | refine blk_alloc ?_ _)); exact BK348.out⟩, ⟨by repeat (first | (with_reducible first | exact HI352.out | apply IsS135.alloc | apply IsS135.drewN | apply IsS135.drew | apply IsS135.set_1 | apply IsS135.set_2 | refine IsS135.far ?_ NB352_348.out _) | exact HI352.out)⟩, ⟨by repeat (first | (with_reducible first | exact HB.out | apply below_alloc | apply pw_below_drewN | apply below_drew1 | refine below_set ?_ (IsS135.ge HI352.out) | refine below_set ?_ GE348.out) | exact HB.out)⟩⟩
        · rw [if_neg c9] at H
          exact absurd H (by simp)
      · rw [if_neg c7] at H
        have c7b0 : decide (x6_1 < 6) = false := decide_eq_false c7
        clear c7
        replace H := Option.bind_eq_some_iff.mp H
        obtain ⟨⟨t362, t363, t364, t365⟩, A120, H⟩ := H
        replace H : (some (x5_1, t362, t363)) = some (r1, r2, r3) := H
        have A12 := Aside0.mk A120
        clear A120
        simp only [Option.some.injEq, Prod.mk.injEq] at H
        obtain ⟨rfl, rfl, rfl⟩ := H
        go_wp2_with (first | ((with_reducible refine gate_callee (f := 99) rfl ?_); refine goesL_ (some 22) rfl rfl Try.func99 (by kernel_rfl) rfl #[.pointer (some ⟨g352, 0, none⟩)] rfl (by (try simp only [List.map_toArray, List.map_cons, List.map_nil]); first | done | rfl | (simp only [List.length_drop, List.length_take]; rfl)) ?_; (with_reducible refine (spec_l08Prefix.calls k1 g352 t349 x353001_1 x353002_1 t362 t363 t364 t365 w _ ?side1 ?side2 A12.out).mono ?_); (case side1 => repeat (first | (with_reducible first | exact HI352.out | apply IsS135.alloc | apply IsS135.drewN | apply IsS135.drew | apply IsS135.set_1 | apply IsS135.set_2 | refine IsS135.far ?_ NB352_348.out _) | exact HI352.out)); (case side2 => repeat (first | (with_reducible first | exact HB.out | apply below_alloc | apply pw_below_drewN | apply below_drew1 | refine below_set ?_ (IsS135.ge HI352.out) | refine below_set ?_ GE348.out) | exact HB.out)); rintro e w13 ⟨rfl, hi, hb, hk⟩; refine ⟨_, rfl, ?_⟩; replace HO_5 := Aside0.mk (Kd.R_mono (Kd.R_keep (IsS135.apart (show IsS135 w _ g352 t349 x353001_1 x353002_1 from by repeat (first | (with_reducible first | exact HI352.out | apply IsS135.alloc | apply IsS135.drewN | apply IsS135.drew | apply IsS135.set_1 | apply IsS135.set_2 | refine IsS135.far ?_ NB352_348.out _) | exact HI352.out)) (zr HO_5) (by decide)) hk (fun _ h => h.2)) (fun _ h => h.1)); replace BK348 := Aside0.mk (KeepBut.blk hk (g' := gb348) (o := .cells #[.int .i64 0, .int .i64 0] 40 (0, 0)) (zb BK348) NB348_352.out (by simp)); replace HB := Aside0.mk (hb); replace HI352 := Aside0.mk (hi); (try clear hb); (try clear hb2); (try clear hk); (try clear hi); have hnb14 := NB348_352.out; have hnc14 := NB352_348.out; have hcz15_0 : w13.cell? ⟨gb348, 0, none⟩ = some (.int .i64 0) := (blk_cell BK348.out 0).trans rfl; have hcz15_1 : w13.cell? ⟨gb348, 1, none⟩ = some (.int .i64 0) := (blk_cell BK348.out 1).trans rfl; have hfz15_0 := blk_frozen BK348.out 0; have hfz15_1 := blk_frozen BK348.out 1))
        refine bodyPost_ret (results_tc rfl _ _ gb348 40 #[.int .i64 t362, .int .i64 t363] (0, 0) _ rfl (by (with_reducible repeat (first | refine blk_drewN ?_ _ | refine blk_drew ?_ | refine blk_alloc ?_ _)); refine blk_put (cs := #[.int .i64 t362, .int .i64 0]) ?_ 1 _ rfl; (with_reducible repeat (first | refine blk_drewN ?_ _ | refine blk_drew ?_ | refine blk_alloc ?_ _)); refine blk_put (cs := #[.int .i64 0, .int .i64 0]) ?_ 0 _ rfl; (with_reducible repeat (first | refine blk_drewN ?_ _ | refine blk_drew ?_ | refine blk_alloc ?_ _)); exact BK348.out) Try.underlying40 rfl (by kernel_rfl)) rfl ?_
        exact ⟨_, by first | rfl | (simp [errW_none, errW_some] <;> rfl) | (simp [*, errW_none, errW_some] <;> rfl), by (with_reducible repeat (first | apply Kd.R_alloc | apply Kd.R_drewN | apply Kd.R_drew)); exact Kd.R_mono (Kd.R_far (p := ⟨gb348, 1, none⟩) (Kd.R_far (p := ⟨gb348, 0, none⟩) (Kd.R_types HO_5.out BK348.out (by decide)) (fun _ hk => hk.2) (.int .i64 t362)) (fun _ hk => hk.2) (.int .i64 t363)) (fun _ hk => trivial), by repeat (first | (with_reducible first | exact HB.out | apply below_alloc | apply pw_below_drewN | apply below_drew1 | refine below_set ?_ (IsS135.ge HI352.out) | refine below_set ?_ GE348.out) | exact HB.out)⟩

end Go.Proofs.Ytbddppnhpapfkaa.PFnTriePuts
