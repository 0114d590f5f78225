/- Machine proofs of Go functions, part x3: began as a text that the kit's print wrote, turned by hand. -/
import Derived.Test.YtbddppnhpapfkaaZFnExactTriePutMFnExactTriePutx0
import Derived.Test.YtbddppnhpapfkaaZFnExactTriePutMFnExactTriePutx1
import Derived.Test.YtbddppnhpapfkaaZFnExactTriePutMFnExactTriePutx2
namespace Go.Proofs.Ytbddppnhpapfkaa.PFnExactTriePut
open Go.RowKit Go.Proofs.YtbddppnhpapfkaaW.PrintWords Go.Proofs.YtbddppnhpapfkaaW.PrintLast Go.Proofs.YtbddppnhpapfkaaW.PrintMore
attribute [local go_sem] max2_int min2_int max_two min_two max_three min_three max_four min_four   -- for this text's walks alone
set_option linter.unusedVariables false
set_option linter.unusedSimpArgs false

/-! ### spec_TriePut: function 44 -/
mutual
def spec_TriePut.j0 : Nat → Int → Bool → List (S104) → Int → Int → List (S104) → Option ((List (S104)) × Bool)
  | 0, _, _, _, _, _, _ => none
  | k + 1, x2, x30, x156000, x157000, x157001, x165000 => if x30 = true then (some (x165000, false)) else ((some (([] : List (S104)) : List (S104))).bind fun y168 => (if y168.length + x156000.length < 5864062014805 then (spec_TriePut.l0 k x2 (y168 ++ x156000) 0 0 x157000 x157001 x165000) else (none)))
def spec_TriePut.l0 : Nat → Int → List (S104) → Int → Int → Int → Int → List (S104) → Option ((List (S104)) × Bool)
  | 0, _, _, _, _, _, _, _ => none
  | k + 1, x2, x9, x10, x11, x157000, x157001, x165000 => if x11 < x157001 then (if 0 ≤ x10 then (if x10 < (x9.length : Int) then ((spec_l10Bit.f k x157000 x11).bind fun t176 => (if t176 = 1 then (spec_TriePut.j2 k x2 x9 x10 x11 ((rd_T104 x9 x10).f1) x157000 x157001 x165000) else (spec_TriePut.j2 k x2 x9 x10 x11 ((rd_T104 x9 x10).f0) x157000 x157001 x165000))) else (none)) else (none)) else (if (x9.length : Int) > 400 then (some (x165000, false)) else (if 0 ≤ x10 then (if x10 < (x9.length : Int) then (some ((x9.set (x10 : Int).toNat (⟨(rd_T104 x9 x10).f0, (rd_T104 x9 x10).f1, x2⟩ : S104)), true)) else (none)) else (none)))
def spec_TriePut.j2 : Nat → Int → List (S104) → Int → Int → Int → Int → Int → List (S104) → Option ((List (S104)) × Bool)
  | 0, _, _, _, _, _, _, _, _ => none
  | k + 1, x2, x9, x10, x11, x12, x157000, x157001, x165000 => if x12 = 0 then ((spec_l10Bit.f k x157000 x11).bind fun t178 => (if t178 = 1 then (if 0 ≤ x10 then (if x10 < (x9.length : Int) then ((some (x9.set (x10 : Int).toNat (⟨(rd_T104 x9 x10).f0, (x9.length : Int), (rd_T104 x9 x10).f2⟩ : S104) : List (S104))).bind fun y179 => (if y179.length < 5864062014805 then (spec_TriePut.l0 k x2 (y179 ++ [(⟨0, 0, 0⟩ : S104)]) (x9.length : Int) (wrap64 (x11 + 1)) x157000 x157001 x165000) else (none))) else (none)) else (none)) else (if 0 ≤ x10 then (if x10 < (x9.length : Int) then ((some (x9.set (x10 : Int).toNat (⟨(x9.length : Int), (rd_T104 x9 x10).f1, (rd_T104 x9 x10).f2⟩ : S104) : List (S104))).bind fun y183 => (if y183.length < 5864062014805 then (spec_TriePut.l0 k x2 (y183 ++ [(⟨0, 0, 0⟩ : S104)]) (x9.length : Int) (wrap64 (x11 + 1)) x157000 x157001 x165000) else (none))) else (none)) else (none)))) else (spec_TriePut.l0 k x2 x9 x12 (wrap64 (x11 + 1)) x157000 x157001 x165000)
end
def spec_TriePut.f (k : Nat) (l0_0 : List (S104)) (a1_0 : Int) (a1_1 : Int) (a2 : Int) : Option ((List (S104)) × Bool) := (some (([] : List (S104)) : List (S104))).bind fun y158 => (if y158.length + l0_0.length < 5864062014805 then ((some (y158 ++ l0_0 : List (S104))).bind fun y161 => ((spec_TrieOk.f k l0_0).bind fun t165 => (if t165 = true then ((spec_PrefixOk.f k a1_0 a1_1).bind fun t166 => (if t166 = true then ((spec_l01In.f a2 0 99).bind fun t167 => (spec_TriePut.j0 k a2 (!t167) l0_0 a1_0 a1_1 y161)) else (spec_TriePut.j0 k a2 true l0_0 a1_0 a1_1 y161))) else (spec_TriePut.j0 k a2 true l0_0 a1_0 a1_1 y161)))) else (none))
theorem spec_TriePut.mono_l : ∀ k, (∀ y0 y1 y2 y3 y4 y5, LeO (spec_TriePut.j0 k y0 y1 y2 y3 y4 y5) (spec_TriePut.j0 (k + 1) y0 y1 y2 y3 y4 y5)) ∧ (∀ y0 y1 y2 y3 y4 y5 y6, LeO (spec_TriePut.l0 k y0 y1 y2 y3 y4 y5 y6) (spec_TriePut.l0 (k + 1) y0 y1 y2 y3 y4 y5 y6)) ∧ (∀ y0 y1 y2 y3 y4 y5 y6 y7, LeO (spec_TriePut.j2 k y0 y1 y2 y3 y4 y5 y6 y7) (spec_TriePut.j2 (k + 1) y0 y1 y2 y3 y4 y5 y6 y7))
  | 0 => ⟨fun _ _ _ _ _ _ r h => by simp [spec_TriePut.j0] at h, fun _ _ _ _ _ _ _ r h => by simp [spec_TriePut.l0] at h, fun _ _ _ _ _ _ _ _ r h => by simp [spec_TriePut.j2] at h⟩
  | k + 1 => by
    obtain ⟨ih0, ih1, ih2⟩ := spec_TriePut.mono_l k
    refine ⟨?_, ?_, ?_⟩
    · intro y0 y1 y2 y3 y4 y5
      unfold spec_TriePut.j0
      repeat' first
      | (with_reducible exact ih0 _ _ _ _ _ _)
      | (with_reducible exact ih1 _ _ _ _ _ _ _)
      | (with_reducible exact ih2 _ _ _ _ _ _ _ _)
      | (with_reducible exact spec_PrefixOk.mono _ _ _)
      | (with_reducible exact spec_TrieOk.mono _ _)
      | (with_reducible exact spec_l10Bit.mono _ _ _)
      | (with_reducible exact LeO.refl _)
      | (with_reducible exact LeO.none _)
      | (with_reducible refine LeO.ite ?_ ?_)
      | (with_reducible refine LeO.bind ?_ (fun _ => ?_))
      | exact ih0 _ _ _ _ _ _
      | exact ih1 _ _ _ _ _ _ _
      | exact ih2 _ _ _ _ _ _ _ _
      | exact spec_PrefixOk.mono _ _ _
      | exact spec_TrieOk.mono _ _
      | exact spec_l10Bit.mono _ _ _
      | exact LeO.none _
      | refine LeO.ite ?_ ?_
      | refine LeO.bind ?_ (fun _ => ?_)
    · intro y0 y1 y2 y3 y4 y5 y6
      unfold spec_TriePut.l0
      repeat' first
      | (with_reducible exact ih0 _ _ _ _ _ _)
      | (with_reducible exact ih1 _ _ _ _ _ _ _)
      | (with_reducible exact ih2 _ _ _ _ _ _ _ _)
      | (with_reducible exact spec_PrefixOk.mono _ _ _)
      | (with_reducible exact spec_TrieOk.mono _ _)
      | (with_reducible exact spec_l10Bit.mono _ _ _)
      | (with_reducible exact LeO.refl _)
      | (with_reducible exact LeO.none _)
      | (with_reducible refine LeO.ite ?_ ?_)
      | (with_reducible refine LeO.bind ?_ (fun _ => ?_))
      | exact ih0 _ _ _ _ _ _
      | exact ih1 _ _ _ _ _ _ _
      | exact ih2 _ _ _ _ _ _ _ _
      | exact spec_PrefixOk.mono _ _ _
      | exact spec_TrieOk.mono _ _
      | exact spec_l10Bit.mono _ _ _
      | exact LeO.none _
      | refine LeO.ite ?_ ?_
      | refine LeO.bind ?_ (fun _ => ?_)
    · intro y0 y1 y2 y3 y4 y5 y6 y7
      unfold spec_TriePut.j2
      repeat' first
      | (with_reducible exact ih0 _ _ _ _ _ _)
      | (with_reducible exact ih1 _ _ _ _ _ _ _)
      | (with_reducible exact ih2 _ _ _ _ _ _ _ _)
      | (with_reducible exact spec_PrefixOk.mono _ _ _)
      | (with_reducible exact spec_TrieOk.mono _ _)
      | (with_reducible exact spec_l10Bit.mono _ _ _)
      | (with_reducible exact LeO.refl _)
      | (with_reducible exact LeO.none _)
      | (with_reducible refine LeO.ite ?_ ?_)
      | (with_reducible refine LeO.bind ?_ (fun _ => ?_))
      | exact ih0 _ _ _ _ _ _
      | exact ih1 _ _ _ _ _ _ _
      | exact ih2 _ _ _ _ _ _ _ _
      | exact spec_PrefixOk.mono _ _ _
      | exact spec_TrieOk.mono _ _
      | exact spec_l10Bit.mono _ _ _
      | exact LeO.none _
      | refine LeO.ite ?_ ?_
      | refine LeO.bind ?_ (fun _ => ?_)
theorem spec_TriePut.mono : ∀ a0 a1 a2 a3 k, LeO (spec_TriePut.f k a0 a1 a2 a3) (spec_TriePut.f (k + 1) a0 a1 a2 a3) := by
  intro a0 a1 a2 a3 k
  obtain ⟨ih0, ih1, ih2⟩ := spec_TriePut.mono_l k
  unfold spec_TriePut.f
  repeat' first
      | (with_reducible exact ih0 _ _ _ _ _ _)
      | (with_reducible exact ih1 _ _ _ _ _ _ _)
      | (with_reducible exact ih2 _ _ _ _ _ _ _ _)
      | (with_reducible exact spec_PrefixOk.mono _ _ _)
      | (with_reducible exact spec_TrieOk.mono _ _)
      | (with_reducible exact spec_l10Bit.mono _ _ _)
      | (with_reducible exact LeO.refl _)
      | (with_reducible exact LeO.none _)
      | (with_reducible refine LeO.ite ?_ ?_)
      | (with_reducible refine LeO.bind ?_ (fun _ => ?_))
      | exact ih0 _ _ _ _ _ _
      | exact ih1 _ _ _ _ _ _ _
      | exact ih2 _ _ _ _ _ _ _ _
      | exact spec_PrefixOk.mono _ _ _
      | exact spec_TrieOk.mono _ _
      | exact spec_l10Bit.mono _ _ _
      | exact LeO.none _
      | refine LeO.ite ?_ ?_
      | refine LeO.bind ?_ (fun _ => ?_)
set_option maxHeartbeats 8000000 in
set_option maxRecDepth 100000 in
theorem spec_TriePut.calls (k : Nat) (A0_0 : Option Addr) (c0_0 : Nat) (l0_0 : List (S104)) (a1_0 : Int) (a1_1 : Int) (a2 : Int) (r1 : List (S104)) (r2 : Bool) (w : World) (hr0_0 : Kd.C k104 w A0_0 l0_0.length l0_0) (hc0_0 : l0_0.length ≤ c0_0) (h : spec_TriePut.f k l0_0 a1_0 a1_1 a2 = some (r1, r2)) :
    Calls Try.prog 44 #[.agg #[.slice A0_0 l0_0.length c0_0], .agg #[.int .i64 a1_0, .int .i64 a1_1], .int .i64 a2] w fun e w' => ∃ v0_ : Value, e = .returned (.tuple #[.agg #[v0_], .bool r2]) ∧ Kd.R k104 104 w' w.heap.size (fun _ => True) v0_ r1 ∧ Below w.heap.size w w' := by
  have hu55 := Try.underlying55
  have hu40 := Try.underlying40
  have hu104 := Try.underlying104
  have HR0_0 := Aside0.mk hr0_0
  have HC0_0 := Aside0.mk hc0_0
  clear hr0_0 hc0_0
  have HB := Aside0.mk (Below.refl w.heap.size w)
  have H : ((some (([] : List (S104)) : List (S104))).bind fun y158 => (if y158.length + l0_0.length < 5864062014805 then ((some (y158 ++ l0_0 : List (S104))).bind fun y161 => ((spec_TrieOk.f k l0_0).bind fun t165 => (if t165 = true then ((spec_PrefixOk.f k a1_0 a1_1).bind fun t166 => (if t166 = true then ((spec_l01In.f a2 0 99).bind fun t167 => (spec_TriePut.j0 k a2 (!t167) l0_0 a1_0 a1_1 y161)) else (spec_TriePut.j0 k a2 true l0_0 a1_0 a1_1 y161))) else (spec_TriePut.j0 k a2 true l0_0 a1_0 a1_1 y161)))) else (none))) = some (r1, r2) := h
  clear h
  obtain ⟨y158, hy158⟩ : ∃ y_ : List (S104), y_ = (([] : List (S104))) := ⟨_, rfl⟩
  replace H : (if y158.length + l0_0.length < 5864062014805 then ((some (y158 ++ l0_0 : List (S104))).bind fun y161 => ((spec_TrieOk.f k l0_0).bind fun t165 => (if t165 = true then ((spec_PrefixOk.f k a1_0 a1_1).bind fun t166 => (if t166 = true then ((spec_l01In.f a2 0 99).bind fun t167 => (spec_TriePut.j0 k a2 (!t167) l0_0 a1_0 a1_1 y161)) else (spec_TriePut.j0 k a2 true l0_0 a1_0 a1_1 y161))) else (spec_TriePut.j0 k a2 true l0_0 a1_0 a1_1 y161)))) else (none)) = some (r1, r2) := by first | (rw [hy158]; with_reducible exact H) | (have H2_ := (Option.bind_some _ _).symm.trans H; rw [hy158]; with_reducible exact H2_) | (have H2_ := (Option.bind_some _ _).symm.trans H; with_reducible exact H2_) | with_reducible exact H | (rw [hy158]; exact H) | exact H
  have Ny158 := Aside0.mk hy158
  clear hy158
  by_cases c4 : y158.length + l0_0.length < 5864062014805
  · rw [if_pos c4] at H
    have LMc4 := Aside0.mk c4
    clear c4
    obtain ⟨y161, hy161⟩ : ∃ y_ : List (S104), y_ = (y158 ++ l0_0) := ⟨_, rfl⟩
    replace H : ((spec_TrieOk.f k l0_0).bind fun t165 => (if t165 = true then ((spec_PrefixOk.f k a1_0 a1_1).bind fun t166 => (if t166 = true then ((spec_l01In.f a2 0 99).bind fun t167 => (spec_TriePut.j0 k a2 (!t167) l0_0 a1_0 a1_1 y161)) else (spec_TriePut.j0 k a2 true l0_0 a1_0 a1_1 y161))) else (spec_TriePut.j0 k a2 true l0_0 a1_0 a1_1 y161))) = some (r1, r2) := by first | (rw [hy161]; with_reducible exact H) | (have H2_ := (Option.bind_some _ _).symm.trans H; rw [hy161]; with_reducible exact H2_) | (have H2_ := (Option.bind_some _ _).symm.trans H; with_reducible exact H2_) | with_reducible exact H | (rw [hy161]; exact H) | exact H
    have Ny161 := Aside0.mk hy161
    clear hy161
    have HC5 := Aside0.mk H
    clear H
    go_enter Try.func44, Try.ntmps44
    go_upto_region 2 with (first | ((with_reducible refine gate_dst (N := 3) rfl ?_); refine box_event ?hg (N := 3) ?hd (cs := #[.slice A0_0 l0_0.length c0_0]) (t := 55) ?hr ?_; (case hd => rfl); (case hg => rfl); (case hr => first | (go_simp; done) | (go_simp; rfl)); intro gb155 hg w6 hbox hb; have BK155 := Aside0.mk (hbox); have GW155 := Aside0.mk ((by rw [hg]; exact (below_size (zh HB)) : w.heap.size ≤ gb155)); have GE155 := Aside0.mk ((by rw [hg]; exact (below_size (zh HB)) : w.heap.size ≤ gb155)); replace HB := Aside0.mk (below_step (zh HB) hb); clear hb hbox hg) | ((with_reducible refine gate_dst (N := 4) rfl ?_); refine box_event ?hg (N := 4) ?hd (cs := #[.int .i64 a1_0, .int .i64 a1_1]) (t := 40) ?hr ?_; (case hd => rfl); (case hg => rfl); (case hr => first | (go_simp; done) | (go_simp; rfl)); intro gb156 hg w7 hbox hb; have BK156 := Aside0.mk (hbox); have GW156 := Aside0.mk ((by rw [hg]; exact (below_size (zh1 HB GE155)) : w.heap.size ≤ gb156)); have GE156 := Aside0.mk ((by rw [hg]; exact (below_size (zh1 HB GE155)) : w.heap.size ≤ gb156)); replace HB := Aside0.mk (below_step (zh1 HB GE155) hb); have NB155_156 := Aside0.mk ((by rw [hg]; exact Nat.ne_of_lt (blk_lt (g := gb155) (o := .cells #[.slice A0_0 l0_0.length c0_0] 55 (0, 0)) (zb BK155)) : gb155 ≠ gb156)); have NB156_155 := Aside0.mk ((by rw [hg]; exact Nat.ne_of_gt (blk_lt (g := gb155) (o := .cells #[.slice A0_0 l0_0.length c0_0] 55 (0, 0)) (zb BK155)) : gb156 ≠ gb155)); replace BK155 := zk BK155 hb; clear hb hbox hg) | ((with_reducible refine gate_dst (N := 6) rfl ?_); refine box_event ?hg (N := 6) ?hd (cs := #[.slice none 0 0]) (t := 55) ?hr ?_; (case hd => rfl); (case hg => rfl); (case hr => first | (go_simp; done) | (go_simp; rfl)); intro gb157 hg w8 hbox hb; have BK157 := Aside0.mk (hbox); have GW157 := Aside0.mk ((by rw [hg]; exact (below_size (zh2 HB GE155 GE156)) : w.heap.size ≤ gb157)); have GE157 := Aside0.mk ((by rw [hg]; exact (below_size (zh2 HB GE155 GE156)) : w.heap.size ≤ gb157)); replace HB := Aside0.mk (below_step (zh2 HB GE155 GE156) hb); have NB155_157 := Aside0.mk ((by rw [hg]; exact Nat.ne_of_lt (blk_lt (g := gb155) (o := .cells #[.slice A0_0 l0_0.length c0_0] 55 (0, 0)) (zb BK155)) : gb155 ≠ gb157)); have NB157_155 := Aside0.mk ((by rw [hg]; exact Nat.ne_of_gt (blk_lt (g := gb155) (o := .cells #[.slice A0_0 l0_0.length c0_0] 55 (0, 0)) (zb BK155)) : gb157 ≠ gb155)); replace BK155 := zk BK155 hb; have NB156_157 := Aside0.mk ((by rw [hg]; exact Nat.ne_of_lt (blk_lt (g := gb156) (o := .cells #[.int .i64 a1_0, .int .i64 a1_1] 40 (0, 0)) (zb BK156)) : gb156 ≠ gb157)); have NB157_156 := Aside0.mk ((by rw [hg]; exact Nat.ne_of_gt (blk_lt (g := gb156) (o := .cells #[.int .i64 a1_0, .int .i64 a1_1] 40 (0, 0)) (zb BK156)) : gb157 ≠ gb156)); replace BK156 := zk BK156 hb; clear hb hbox hg) | ((with_reducible refine gate_dst (N := 13) rfl ?_); refine Kd.R_lit k104 _ 104 ?hg (N := 13) ?hd (xs := ([] : List (S104))) (inner := []) (ok := fun _ => True) (okp := fun _ => True) ?hr ?hp (fun _ hk => hk) trivial (Below.refl _ _) (Nat.le_refl _) (by simp) ?_; (case hd => rfl); (case hg => rfl); (case hr => first | (go_simp; done) | (go_simp; rfl)); (case hp => exact (Reps.none _ _)); intro v159 w9 ho10 hb hg_ hnew_; clear hg_ hnew_; (first | rw [← Ny158.out] at ho10 | (simp only [Int.reduceToNat] at ho10; rw [← Ny158.out] at ho10)); have HO160 := Aside0.mk (Kd.R_lower ho10 (below_size (zh3 HB GE155 GE156 GE157))); replace BK155 := zk BK155 hb; replace BK156 := zk BK156 hb; replace BK157 := zk BK157 hb; replace HB := Aside0.mk (below_step (zh3 HB GE155 GE156 GE157) hb); clear hb ho10; have hnb11 := NB155_156.out; have hnc11 := NB156_155.out; have hnb12 := NB155_157.out; have hnc12 := NB157_155.out; have hcz13_0 : w9.cell? ⟨gb155, 0, none⟩ = some (.slice A0_0 l0_0.length c0_0) := (blk_cell BK155.out 0).trans rfl; have hfz13_0 := blk_frozen BK155.out 0) | ((with_reducible refine gate_builtin (b := .append) (xs := #[.tmp 13, .tmp 15]) rfl ?_); at_builtin; refine Kd.R_append_rows k104 (w0 := w) w.heap.size rfl (.tmp 13) (.tmp 15) 53 104 (.agg #[(.int .i64 0), (.int .i64 0), (.int .i64 0)]) 24 rfl Try.underlying53 info104 rfl (by decide) (by omega) v159 y158 l0_0 _ _ _ (fun _ => True) (fun _ => False) rfl rfl ?aO ?aR (fun _ _ h => h) (fun _ h => h.elim) ?aF ?aB ?aS ?aL ?_; (case aR => repeat (first | exact (Kd.C_below HR0_0.out HB.out) | (with_reducible refine Kd.C_alloc ?_ _) | (with_reducible refine Kd.C_drewN ?_ _) | (with_reducible refine Kd.C_drew ?_))); (case aB => exact (zh3 HB GE155 GE156 GE157)); (case aF => exact (fun _ _ => trivial)); (case aO => exact (zr HO160)); (case aS => exact (below_size (zh3 HB GE155 GE156 GE157))); (case aL => have := LMc4.out; omega); intro v162 w14 ho hb hg hat; rw [← Ny161.out] at ho; replace BK155 := Aside0.mk (blk_grown (g := gb155) (o := .cells #[.slice A0_0 l0_0.length c0_0] 55 (0, 0)) (zb BK155) hg (Kd.R_ne HO160.out BK155.out (by decide))); replace BK156 := Aside0.mk (blk_grown (g := gb156) (o := .cells #[.int .i64 a1_0, .int .i64 a1_1] 40 (0, 0)) (zb BK156) hg (Kd.R_ne HO160.out BK156.out (by decide))); replace BK157 := Aside0.mk (blk_grown (g := gb157) (o := .cells #[.slice none 0 0] 55 (0, 0)) (zb BK157) hg (Kd.R_ne HO160.out BK157.out (by decide))); replace HB := Aside0.mk (hb); have HO163 := Aside0.mk (ho); clear HO160; clear ho hb hg hat; obtain ⟨Ao15, co15, eo15⟩ := Kd.R_slice HO163.out; subst eo15) | ((with_reducible refine gate_dst (N := 8) rfl ?_); refine box_event ?hg (N := 8) ?hd (cs := #[.slice none 0 0]) (t := 55) ?hr ?_; (case hd => rfl); (case hg => rfl); (case hr => first | (go_simp; done) | (go_simp; rfl)); intro gb164 hg w16 hbox hb; replace HO163 := Aside0.mk (Kd.R_below (zr HO163) hb); have BK164 := Aside0.mk (hbox); have GW164 := Aside0.mk ((by rw [hg]; exact (below_size (zh3 HB GE155 GE156 GE157)) : w.heap.size ≤ gb164)); have GE164 := Aside0.mk ((by rw [hg]; exact (below_size (zh3 HB GE155 GE156 GE157)) : w.heap.size ≤ gb164)); replace HB := Aside0.mk (below_step (zh3 HB GE155 GE156 GE157) hb); have NB155_164 := Aside0.mk ((by rw [hg]; exact Nat.ne_of_lt (blk_lt (g := gb155) (o := .cells #[.slice A0_0 l0_0.length c0_0] 55 (0, 0)) (zb BK155)) : gb155 ≠ gb164)); have NB164_155 := Aside0.mk ((by rw [hg]; exact Nat.ne_of_gt (blk_lt (g := gb155) (o := .cells #[.slice A0_0 l0_0.length c0_0] 55 (0, 0)) (zb BK155)) : gb164 ≠ gb155)); replace BK155 := zk BK155 hb; have NB156_164 := Aside0.mk ((by rw [hg]; exact Nat.ne_of_lt (blk_lt (g := gb156) (o := .cells #[.int .i64 a1_0, .int .i64 a1_1] 40 (0, 0)) (zb BK156)) : gb156 ≠ gb164)); have NB164_156 := Aside0.mk ((by rw [hg]; exact Nat.ne_of_gt (blk_lt (g := gb156) (o := .cells #[.int .i64 a1_0, .int .i64 a1_1] 40 (0, 0)) (zb BK156)) : gb164 ≠ gb156)); replace BK156 := zk BK156 hb; have NB157_164 := Aside0.mk ((by rw [hg]; exact Nat.ne_of_lt (blk_lt (g := gb157) (o := .cells #[.slice none 0 0] 55 (0, 0)) (zb BK157)) : gb157 ≠ gb164)); have NB164_157 := Aside0.mk ((by rw [hg]; exact Nat.ne_of_gt (blk_lt (g := gb157) (o := .cells #[.slice none 0 0] 55 (0, 0)) (zb BK157)) : gb164 ≠ gb157)); replace BK157 := zk BK157 hb; clear hb hbox hg; have hnb17 := NB164_155.out; have hnc17 := NB155_164.out; have hnb18 := NB164_156.out; have hnc18 := NB156_164.out; have hnb19 := NB164_157.out; have hnc19 := NB157_164.out; have hcz20_0 : w16.cell? ⟨gb164, 0, none⟩ = some (.slice none 0 0) := (blk_cell BK164.out 0).trans rfl; have hfz20_0 := blk_frozen BK164.out 0))
    (try simp only [Act.put, List.setIfInBounds_toArray, List.set_cons_zero, List.set_cons_succ])
    go_cut [30] (fun v30 wc => ∃ (kq : Nat) (x30_4 : Bool), v30 = .bool x30_4 ∧ Aside0 (spec_TriePut.j0 kq a2 x30_4 l0_0 a1_0 a1_1 y161 = some (r1, r2)) ∧ Aside0 (kq ≤ k) ∧ Aside0 (Kd.R k104 104 wc w.heap.size (fun _ => True) (.slice Ao15 y161.length co15) y161) ∧ Aside0 (wc.heap[gb155]? = some (.cells #[(.slice A0_0 l0_0.length c0_0)] 55 (0, 0))) ∧ Aside0 (wc.heap[gb156]? = some (.cells #[.int .i64 a1_0, .int .i64 a1_1] 40 (0, 0))) ∧ Aside0 (wc.heap[gb157]? = some (.cells #[(.slice none 0 0)] 55 (0, 0))) ∧ Aside0 (wc.heap[gb164]? = some (.cells #[(.slice Ao15 y161.length co15)] 55 (0, 0))) ∧ Aside0 (Below w.heap.size w wc))
    case first =>
      have H := HC5.out
      clear HC5
      replace H := Option.bind_eq_some_iff.mp H
      obtain ⟨t165, A210, H⟩ := H
      replace H : (if t165 = true then ((spec_PrefixOk.f k a1_0 a1_1).bind fun t166 => (if t166 = true then ((spec_l01In.f a2 0 99).bind fun t167 => (spec_TriePut.j0 k a2 (!t167) l0_0 a1_0 a1_1 y161)) else (spec_TriePut.j0 k a2 true l0_0 a1_0 a1_1 y161))) else (spec_TriePut.j0 k a2 true l0_0 a1_0 a1_1 y161)) = some (r1, r2) := H
      have A21 := Aside0.mk A210
      clear A210
      by_cases c22 : t165 = true
      · subst c22
        have H1 : ((spec_PrefixOk.f k a1_0 a1_1).bind fun t166 => (if t166 = true then ((spec_l01In.f a2 0 99).bind fun t167 => (spec_TriePut.j0 k a2 (!t167) l0_0 a1_0 a1_1 y161)) else (spec_TriePut.j0 k a2 true l0_0 a1_0 a1_1 y161))) = some (r1, r2) := by rw [if_pos rfl] at H; exact H
        clear H
        have H := H1
        clear H1
        replace H := Option.bind_eq_some_iff.mp H
        obtain ⟨t166, A230, H⟩ := H
        replace H : (if t166 = true then ((spec_l01In.f a2 0 99).bind fun t167 => (spec_TriePut.j0 k a2 (!t167) l0_0 a1_0 a1_1 y161)) else (spec_TriePut.j0 k a2 true l0_0 a1_0 a1_1 y161)) = some (r1, r2) := H
        have A23 := Aside0.mk A230
        clear A230
        by_cases c24 : t166 = true
        · subst c24
          have H1 : ((spec_l01In.f a2 0 99).bind fun t167 => (spec_TriePut.j0 k a2 (!t167) l0_0 a1_0 a1_1 y161)) = some (r1, r2) := by rw [if_pos rfl] at H; exact H
          clear H
          have H := H1
          clear H1
          replace H := Option.bind_eq_some_iff.mp H
          obtain ⟨t167, A250, H⟩ := H
          replace H : (spec_TriePut.j0 k a2 (!t167) l0_0 a1_0 a1_1 y161) = some (r1, r2) := H
          have A25 := Aside0.mk A250
          clear A250
          have H' := Aside0.mk H
          clear H
          have hnb26 := NB155_156.out
          have hnc26 := NB156_155.out
          have hnb27 := NB155_157.out
          have hnc27 := NB157_155.out
          have hnb28 := NB155_164.out
          have hnc28 := NB164_155.out
          have hcz29_0 : w16.cell? ⟨gb155, 0, none⟩ = some (.slice A0_0 l0_0.length c0_0) := (blk_cell BK155.out 0).trans rfl
          have hfz29_0 := blk_frozen BK155.out 0
          go_wp2_with (first | ((with_reducible refine gate_callee (f := 74) rfl ?_); refine goesL_ (some 19) rfl rfl Try.func74 (by kernel_rfl) rfl #[.agg #[.slice A0_0 l0_0.length c0_0]] rfl (by (try simp only [List.map_toArray, List.map_cons, List.map_nil]); first | done | rfl | (simp only [List.length_drop, List.length_take]; rfl)) ?_; (with_reducible refine (spec_TrieOk.calls k _ _ l0_0 true _ ?side1 ?side2 A21.out).mono ?_); (case side1 => exact Kd.C_below HR0_0.out (zh4 HB GE155 GE156 GE157 GE164)); (case side2 => exact HC0_0.out); rintro e w30 ⟨rfl, hb⟩; refine ⟨_, rfl, ?_⟩; replace HO163 := Aside0.mk (Kd.R_below (by (with_reducible repeat (first | apply Kd.R_alloc | apply Kd.R_drewN | apply Kd.R_drew)); exact (Kd.R_mono (Kd.R_far (p := ⟨gb164, 0, none⟩) (Kd.R_types HO163.out BK164.out (by decide)) (fun _ hk => hk.2) (.slice Ao15 y161.length co15)) (fun _ h_ => h_.1))) hb); replace BK155 := Aside0.mk (blk_below (g := gb155) (o := .cells #[.slice A0_0 l0_0.length c0_0] 55 (0, 0)) (by (with_reducible repeat (first | refine blk_drewN ?_ _ | refine blk_drew ?_ | refine blk_alloc ?_ _)); refine blk_far ?_ NB155_164.out _; (with_reducible repeat (first | refine blk_drewN ?_ _ | refine blk_drew ?_ | refine blk_alloc ?_ _)); exact BK155.out) hb); replace BK156 := Aside0.mk (blk_below (g := gb156) (o := .cells #[.int .i64 a1_0, .int .i64 a1_1] 40 (0, 0)) (by (with_reducible repeat (first | refine blk_drewN ?_ _ | refine blk_drew ?_ | refine blk_alloc ?_ _)); refine blk_far ?_ NB156_164.out _; (with_reducible repeat (first | refine blk_drewN ?_ _ | refine blk_drew ?_ | refine blk_alloc ?_ _)); exact BK156.out) hb); replace BK157 := Aside0.mk (blk_below (g := gb157) (o := .cells #[.slice none 0 0] 55 (0, 0)) (by (with_reducible repeat (first | refine blk_drewN ?_ _ | refine blk_drew ?_ | refine blk_alloc ?_ _)); refine blk_far ?_ NB157_164.out _; (with_reducible repeat (first | refine blk_drewN ?_ _ | refine blk_drew ?_ | refine blk_alloc ?_ _)); exact BK157.out) hb); replace BK164 := Aside0.mk (blk_below (g := gb164) (o := .cells #[.slice Ao15 y161.length co15] 55 (0, 0)) (by (with_reducible repeat (first | refine blk_drewN ?_ _ | refine blk_drew ?_ | refine blk_alloc ?_ _)); refine blk_put (cs := #[.slice none 0 0]) ?_ 0 _ rfl; (with_reducible repeat (first | refine blk_drewN ?_ _ | refine blk_drew ?_ | refine blk_alloc ?_ _)); exact BK164.out) hb); replace HB := Aside0.mk (below_step (zh4 HB GE155 GE156 GE157 GE164) hb); (try clear hb); (try clear hb2); (try clear hk); (try clear hi); have hnb31 := NB156_157.out; have hnc31 := NB157_156.out; have hnb32 := NB156_164.out; have hnc32 := NB164_156.out; have hcz33_0 : w30.cell? ⟨gb156, 0, none⟩ = some (.int .i64 a1_0) := (blk_cell BK156.out 0).trans rfl; have hcz33_1 : w30.cell? ⟨gb156, 1, none⟩ = some (.int .i64 a1_1) := (blk_cell BK156.out 1).trans rfl; have hfz33_0 := blk_frozen BK156.out 0; have hfz33_1 := blk_frozen BK156.out 1) | (go_at_call 59; (with_reducible refine (spec_PrefixOk.calls k a1_0 a1_1 true _ A23.out).mono ?_); rintro e w34 ⟨rfl, hb⟩; replace HO163 := Aside0.mk (Kd.R_below (zr HO163) hb); replace BK155 := zk BK155 hb; replace BK156 := zk BK156 hb; replace BK157 := zk BK157 hb; replace BK164 := zk BK164 hb; replace HB := Aside0.mk (below_step (zh4 HB GE155 GE156 GE157 GE164) hb); (try clear hb); (try clear hb2); (try clear hk); (try clear hi)) | (go_at_call 60; (with_reducible refine (spec_l01In.calls a2 0 99 t167 _ A25.out).mono ?_); rintro e w' ⟨rfl, ⟨nd, rfl⟩⟩))
          go_meet
          case rel => exact ⟨_, (!t167), (by first | rfl | (simp; done) | (simp [*]; done)), H', ⟨by first | omega | exact Nat.le_refl _⟩, ⟨by (with_reducible repeat (first | apply Kd.R_alloc | apply Kd.R_drewN | apply Kd.R_drew)); exact HO163.out⟩, ⟨by (with_reducible repeat (first | refine blk_drewN ?_ _ | refine blk_drew ?_ | refine blk_alloc ?_ _)); exact BK155.out⟩, ⟨by (with_reducible repeat (first | refine blk_drewN ?_ _ | refine blk_drew ?_ | refine blk_alloc ?_ _)); exact BK156.out⟩, ⟨by (with_reducible repeat (first | refine blk_drewN ?_ _ | refine blk_drew ?_ | refine blk_alloc ?_ _)); exact BK157.out⟩, ⟨by (with_reducible repeat (first | refine blk_drewN ?_ _ | refine blk_drew ?_ | refine blk_alloc ?_ _)); exact BK164.out⟩, ⟨zh4 HB GE155 GE156 GE157 GE164⟩⟩
        · replace c24 := Bool.eq_false_iff.mpr c24
          subst c24
          have H1 : (spec_TriePut.j0 k a2 true l0_0 a1_0 a1_1 y161) = some (r1, r2) := by rw [if_neg (show ¬ (false = true) by decide)] at H; exact H
          clear H
          have H := H1
          clear H1
          have H' := Aside0.mk H
          clear H
          have hnb35 := NB155_156.out
          have hnc35 := NB156_155.out
          have hnb36 := NB155_157.out
          have hnc36 := NB157_155.out
          have hnb37 := NB155_164.out
          have hnc37 := NB164_155.out
          have hcz38_0 : w16.cell? ⟨gb155, 0, none⟩ = some (.slice A0_0 l0_0.length c0_0) := (blk_cell BK155.out 0).trans rfl
          have hfz38_0 := blk_frozen BK155.out 0
          go_wp2_with (first | ((with_reducible refine gate_callee (f := 74) rfl ?_); refine goesL_ (some 19) rfl rfl Try.func74 (by kernel_rfl) rfl #[.agg #[.slice A0_0 l0_0.length c0_0]] rfl (by (try simp only [List.map_toArray, List.map_cons, List.map_nil]); first | done | rfl | (simp only [List.length_drop, List.length_take]; rfl)) ?_; (with_reducible refine (spec_TrieOk.calls k _ _ l0_0 true _ ?side1 ?side2 A21.out).mono ?_); (case side1 => exact Kd.C_below HR0_0.out (zh4 HB GE155 GE156 GE157 GE164)); (case side2 => exact HC0_0.out); rintro e w39 ⟨rfl, hb⟩; refine ⟨_, rfl, ?_⟩; replace HO163 := Aside0.mk (Kd.R_below (by (with_reducible repeat (first | apply Kd.R_alloc | apply Kd.R_drewN | apply Kd.R_drew)); exact (Kd.R_mono (Kd.R_far (p := ⟨gb164, 0, none⟩) (Kd.R_types HO163.out BK164.out (by decide)) (fun _ hk => hk.2) (.slice Ao15 y161.length co15)) (fun _ h_ => h_.1))) hb); replace BK155 := Aside0.mk (blk_below (g := gb155) (o := .cells #[.slice A0_0 l0_0.length c0_0] 55 (0, 0)) (by (with_reducible repeat (first | refine blk_drewN ?_ _ | refine blk_drew ?_ | refine blk_alloc ?_ _)); refine blk_far ?_ NB155_164.out _; (with_reducible repeat (first | refine blk_drewN ?_ _ | refine blk_drew ?_ | refine blk_alloc ?_ _)); exact BK155.out) hb); replace BK156 := Aside0.mk (blk_below (g := gb156) (o := .cells #[.int .i64 a1_0, .int .i64 a1_1] 40 (0, 0)) (by (with_reducible repeat (first | refine blk_drewN ?_ _ | refine blk_drew ?_ | refine blk_alloc ?_ _)); refine blk_far ?_ NB156_164.out _; (with_reducible repeat (first | refine blk_drewN ?_ _ | refine blk_drew ?_ | refine blk_alloc ?_ _)); exact BK156.out) hb); replace BK157 := Aside0.mk (blk_below (g := gb157) (o := .cells #[.slice none 0 0] 55 (0, 0)) (by (with_reducible repeat (first | refine blk_drewN ?_ _ | refine blk_drew ?_ | refine blk_alloc ?_ _)); refine blk_far ?_ NB157_164.out _; (with_reducible repeat (first | refine blk_drewN ?_ _ | refine blk_drew ?_ | refine blk_alloc ?_ _)); exact BK157.out) hb); replace BK164 := Aside0.mk (blk_below (g := gb164) (o := .cells #[.slice Ao15 y161.length co15] 55 (0, 0)) (by (with_reducible repeat (first | refine blk_drewN ?_ _ | refine blk_drew ?_ | refine blk_alloc ?_ _)); refine blk_put (cs := #[.slice none 0 0]) ?_ 0 _ rfl; (with_reducible repeat (first | refine blk_drewN ?_ _ | refine blk_drew ?_ | refine blk_alloc ?_ _)); exact BK164.out) hb); replace HB := Aside0.mk (below_step (zh4 HB GE155 GE156 GE157 GE164) hb); (try clear hb); (try clear hb2); (try clear hk); (try clear hi); have hnb40 := NB156_157.out; have hnc40 := NB157_156.out; have hnb41 := NB156_164.out; have hnc41 := NB164_156.out; have hcz42_0 : w39.cell? ⟨gb156, 0, none⟩ = some (.int .i64 a1_0) := (blk_cell BK156.out 0).trans rfl; have hcz42_1 : w39.cell? ⟨gb156, 1, none⟩ = some (.int .i64 a1_1) := (blk_cell BK156.out 1).trans rfl; have hfz42_0 := blk_frozen BK156.out 0; have hfz42_1 := blk_frozen BK156.out 1) | (go_at_call 59; (with_reducible refine (spec_PrefixOk.calls k a1_0 a1_1 false _ A23.out).mono ?_); rintro e w43 ⟨rfl, hb⟩; replace HO163 := Aside0.mk (Kd.R_below (zr HO163) hb); replace BK155 := zk BK155 hb; replace BK156 := zk BK156 hb; replace BK157 := zk BK157 hb; replace BK164 := zk BK164 hb; replace HB := Aside0.mk (below_step (zh4 HB GE155 GE156 GE157 GE164) hb); (try clear hb); (try clear hb2); (try clear hk); (try clear hi)))
          go_meet
          case rel => exact ⟨_, (true), (by first | rfl | (simp; done) | (simp [*]; done)), H', ⟨by first | omega | exact Nat.le_refl _⟩, ⟨by (with_reducible repeat (first | apply Kd.R_alloc | apply Kd.R_drewN | apply Kd.R_drew)); exact HO163.out⟩, ⟨by (with_reducible repeat (first | refine blk_drewN ?_ _ | refine blk_drew ?_ | refine blk_alloc ?_ _)); exact BK155.out⟩, ⟨by (with_reducible repeat (first | refine blk_drewN ?_ _ | refine blk_drew ?_ | refine blk_alloc ?_ _)); exact BK156.out⟩, ⟨by (with_reducible repeat (first | refine blk_drewN ?_ _ | refine blk_drew ?_ | refine blk_alloc ?_ _)); exact BK157.out⟩, ⟨by (with_reducible repeat (first | refine blk_drewN ?_ _ | refine blk_drew ?_ | refine blk_alloc ?_ _)); exact BK164.out⟩, ⟨zh4 HB GE155 GE156 GE157 GE164⟩⟩
      · replace c22 := Bool.eq_false_iff.mpr c22
        subst c22
        have H1 : (spec_TriePut.j0 k a2 true l0_0 a1_0 a1_1 y161) = some (r1, r2) := by rw [if_neg (show ¬ (false = true) by decide)] at H; exact H
        clear H
        have H := H1
        clear H1
        have H' := Aside0.mk H
        clear H
        have hnb44 := NB155_156.out
        have hnc44 := NB156_155.out
        have hnb45 := NB155_157.out
        have hnc45 := NB157_155.out
        have hnb46 := NB155_164.out
        have hnc46 := NB164_155.out
        have hcz47_0 : w16.cell? ⟨gb155, 0, none⟩ = some (.slice A0_0 l0_0.length c0_0) := (blk_cell BK155.out 0).trans rfl
        have hfz47_0 := blk_frozen BK155.out 0
        go_wp2_with (first | ((with_reducible refine gate_callee (f := 74) rfl ?_); refine goesL_ (some 19) rfl rfl Try.func74 (by kernel_rfl) rfl #[.agg #[.slice A0_0 l0_0.length c0_0]] rfl (by (try simp only [List.map_toArray, List.map_cons, List.map_nil]); first | done | rfl | (simp only [List.length_drop, List.length_take]; rfl)) ?_; (with_reducible refine (spec_TrieOk.calls k _ _ l0_0 false _ ?side1 ?side2 A21.out).mono ?_); (case side1 => exact Kd.C_below HR0_0.out (zh4 HB GE155 GE156 GE157 GE164)); (case side2 => exact HC0_0.out); rintro e w48 ⟨rfl, hb⟩; refine ⟨_, rfl, ?_⟩; replace HO163 := Aside0.mk (Kd.R_below (by (with_reducible repeat (first | apply Kd.R_alloc | apply Kd.R_drewN | apply Kd.R_drew)); exact (Kd.R_mono (Kd.R_far (p := ⟨gb164, 0, none⟩) (Kd.R_types HO163.out BK164.out (by decide)) (fun _ hk => hk.2) (.slice Ao15 y161.length co15)) (fun _ h_ => h_.1))) hb); replace BK155 := Aside0.mk (blk_below (g := gb155) (o := .cells #[.slice A0_0 l0_0.length c0_0] 55 (0, 0)) (by (with_reducible repeat (first | refine blk_drewN ?_ _ | refine blk_drew ?_ | refine blk_alloc ?_ _)); refine blk_far ?_ NB155_164.out _; (with_reducible repeat (first | refine blk_drewN ?_ _ | refine blk_drew ?_ | refine blk_alloc ?_ _)); exact BK155.out) hb); replace BK156 := Aside0.mk (blk_below (g := gb156) (o := .cells #[.int .i64 a1_0, .int .i64 a1_1] 40 (0, 0)) (by (with_reducible repeat (first | refine blk_drewN ?_ _ | refine blk_drew ?_ | refine blk_alloc ?_ _)); refine blk_far ?_ NB156_164.out _; (with_reducible repeat (first | refine blk_drewN ?_ _ | refine blk_drew ?_ | refine blk_alloc ?_ _)); exact BK156.out) hb); replace BK157 := Aside0.mk (blk_below (g := gb157) (o := .cells #[.slice none 0 0] 55 (0, 0)) (by (with_reducible repeat (first | refine blk_drewN ?_ _ | refine blk_drew ?_ | refine blk_alloc ?_ _)); refine blk_far ?_ NB157_164.out _; (with_reducible repeat (first | refine blk_drewN ?_ _ | refine blk_drew ?_ | refine blk_alloc ?_ _)); exact BK157.out) hb); replace BK164 := Aside0.mk (blk_below (g := gb164) (o := .cells #[.slice Ao15 y161.length co15] 55 (0, 0)) (by (with_reducible repeat (first | refine blk_drewN ?_ _ | refine blk_drew ?_ | refine blk_alloc ?_ _)); refine blk_put (cs := #[.slice none 0 0]) ?_ 0 _ rfl; (with_reducible repeat (first | refine blk_drewN ?_ _ | refine blk_drew ?_ | refine blk_alloc ?_ _)); exact BK164.out) hb); replace HB := Aside0.mk (below_step (zh4 HB GE155 GE156 GE157 GE164) hb); (try clear hb); (try clear hb2); (try clear hk); (try clear hi)))
        go_meet
        case rel => exact ⟨_, (true), (by first | rfl | (simp; done) | (simp [*]; done)), H', ⟨by first | omega | exact Nat.le_refl _⟩, ⟨by (with_reducible repeat (first | apply Kd.R_alloc | apply Kd.R_drewN | apply Kd.R_drew)); exact HO163.out⟩, ⟨by (with_reducible repeat (first | refine blk_drewN ?_ _ | refine blk_drew ?_ | refine blk_alloc ?_ _)); exact BK155.out⟩, ⟨by (with_reducible repeat (first | refine blk_drewN ?_ _ | refine blk_drew ?_ | refine blk_alloc ?_ _)); exact BK156.out⟩, ⟨by (with_reducible repeat (first | refine blk_drewN ?_ _ | refine blk_drew ?_ | refine blk_alloc ?_ _)); exact BK157.out⟩, ⟨by (with_reducible repeat (first | refine blk_drewN ?_ _ | refine blk_drew ?_ | refine blk_alloc ?_ _)); exact BK164.out⟩, ⟨zh4 HB GE155 GE156 GE157 GE164⟩⟩
    case rest =>
      clear HC5
      try clear c1
      try clear c2
      try clear p2
      try clear c3
      try clear c4
      try clear c7
      try clear c11
      try clear c12
      try clear c17
      try clear c18
      try clear c19
      try clear c22
      try clear c24
      try clear c26
      try clear c27
      try clear c28
      try clear c31
      try clear c32
      try clear c35
      try clear c36
      try clear c37
      try clear c40
      try clear c41
      try clear c44
      try clear c45
      try clear c46
      try clear hcz13_0
      try clear hcz20_0
      try clear hcz29_0
      try clear hcz33_0
      try clear hcz33_1
      try clear hcz38_0
      try clear hcz42_0
      try clear hcz42_1
      try clear hcz47_0
      try clear hfz13_0
      try clear hfz20_0
      try clear hfz29_0
      try clear hfz33_0
      try clear hfz33_1
      try clear hfz38_0
      try clear hfz42_0
      try clear hfz42_1
      try clear hfz47_0
      obtain ⟨kq, x30_4, rfl, HA, HJ4, HO_165000, BK155, BK156, BK157, BK164, HB⟩ := hcut
      cases kq with
      | zero => exact absurd HA.out (by simp [spec_TriePut.j0])
      | succ kj4 =>
        have H := HA.out
        clear HA
        simp only [spec_TriePut.j0] at H
        by_cases c49 : x30_4 = true
        · subst c49
          have H1 : (some (y161, false)) = some (r1, r2) := by rw [if_pos rfl] at H; exact H
          clear H
          have H := H1
          clear H1
          simp only [Option.some.injEq, Prod.mk.injEq] at H
          obtain ⟨rfl, rfl⟩ := H
          have hnb50 := NB164_155.out
          have hnc50 := NB155_164.out
          have hnb51 := NB164_156.out
          have hnc51 := NB156_164.out
          have hnb52 := NB164_157.out
          have hnc52 := NB157_164.out
          have hcz53_0 : wc.cell? ⟨gb164, 0, none⟩ = some (.slice Ao15 y161.length co15) := (blk_cell BK164.out 0).trans rfl
          have hfz53_0 := blk_frozen BK164.out 0
          have hnb54 := NB157_155.out
          have hnc54 := NB155_157.out
          have hnb55 := NB157_156.out
          have hnc55 := NB156_157.out
          have hcz56_0 : wc.cell? ⟨gb157, 0, none⟩ = some (.slice none 0 0) := (blk_cell BK157.out 0).trans rfl
          have hfz56_0 := blk_frozen BK157.out 0
          go_wp2
          refine bodyPost_ret (results_ct rfl _ _ gb157 55 #[.slice Ao15 y161.length co15] (0, 0) _ rfl (by (with_reducible repeat (first | refine blk_drewN ?_ _ | refine blk_drew ?_ | refine blk_alloc ?_ _)); refine blk_put (cs := #[.slice none 0 0]) ?_ 0 _ rfl; (with_reducible repeat (first | refine blk_drewN ?_ _ | refine blk_drew ?_ | refine blk_alloc ?_ _)); exact BK157.out) Try.underlying55 rfl (by kernel_rfl)) rfl ?_
          exact ⟨_, by first | rfl | (simp [errW_none, errW_some] <;> rfl) | (simp [*, errW_none, errW_some] <;> rfl), by (with_reducible repeat (first | apply Kd.R_alloc | apply Kd.R_drewN | apply Kd.R_drew)); exact Kd.R_mono (Kd.R_far (p := ⟨gb157, 0, none⟩) (Kd.R_types HO_165000.out BK157.out (by decide)) (fun _ hk => hk.2) (.slice Ao15 y161.length co15)) (fun _ hk => trivial), zh4 HB GE155 GE156 GE157 GE164⟩
        · replace c49 := Bool.eq_false_iff.mpr c49
          subst c49
          have H1 : ((some (([] : List (S104)) : List (S104))).bind fun y168 => (if y168.length + l0_0.length < 5864062014805 then (spec_TriePut.l0 kj4 a2 (y168 ++ l0_0) 0 0 a1_0 a1_1 y161) else (none))) = some (r1, r2) := by rw [if_neg (show ¬ (false = true) by decide)] at H; exact H
          clear H
          have H := H1
          clear H1
          obtain ⟨y168, hy168⟩ : ∃ y_ : List (S104), y_ = (([] : List (S104))) := ⟨_, rfl⟩
          replace H : (if y168.length + l0_0.length < 5864062014805 then (spec_TriePut.l0 kj4 a2 (y168 ++ l0_0) 0 0 a1_0 a1_1 y161) else (none)) = some (r1, r2) := by first | (rw [hy168]; with_reducible exact H) | (have H2_ := (Option.bind_some _ _).symm.trans H; rw [hy168]; with_reducible exact H2_) | (have H2_ := (Option.bind_some _ _).symm.trans H; with_reducible exact H2_) | with_reducible exact H | (rw [hy168]; exact H) | exact H
          have Ny168 := Aside0.mk hy168
          clear hy168
          by_cases c57 : y168.length + l0_0.length < 5864062014805
          · rw [if_pos c57] at H
            have LMc57 := Aside0.mk c57
            clear c57
            obtain ⟨y171, hy171⟩ : ∃ y_ : List (S104), y_ = (y168 ++ l0_0) := ⟨_, rfl⟩
            replace H : (spec_TriePut.l0 kj4 a2 y171 0 0 a1_0 a1_1 y161) = some (r1, r2) := by first | (rw [hy171]; with_reducible exact H) | (have H2_ := (Option.bind_some _ _).symm.trans H; rw [hy171]; with_reducible exact H2_) | (have H2_ := (Option.bind_some _ _).symm.trans H; with_reducible exact H2_) | with_reducible exact H | (rw [hy171]; exact H) | exact H
            have Ny171 := Aside0.mk hy171
            clear hy171
            have H' := Aside0.mk H
            clear H
            go_wp2_with (first | ((with_reducible refine gate_dst (N := 32) rfl ?_); refine Kd.R_lit k104 _ 104 ?hg (N := 32) ?hd (xs := ([] : List (S104))) (inner := []) (ok := fun _ => True) (okp := fun _ => True) ?hr ?hp (fun _ hk => hk) trivial (Below.refl _ _) (Nat.le_refl _) (by simp) ?_; (case hd => rfl); (case hg => rfl); (case hr => first | (go_simp; done) | (go_simp; rfl)); (case hp => exact (Reps.none _ _)); intro v169 w58 ho59 hb hg_ hnew_; clear hg_ hnew_; (first | rw [← Ny168.out] at ho59 | (simp only [Int.reduceToNat] at ho59; rw [← Ny168.out] at ho59)); have HO170 := Aside0.mk (Kd.R_lower (Kd.R_new' ho59 (Kd.R_lt (zr HO_165000))) (below_size (zh4 HB GE155 GE156 GE157 GE164))); replace HO_165000 := Aside0.mk (Kd.R_elder' (zr HO_165000) (Kd.R_base ho59) hb); replace BK155 := zk BK155 hb; replace BK156 := zk BK156 hb; replace BK157 := zk BK157 hb; replace BK164 := zk BK164 hb; replace HB := Aside0.mk (below_step (zh4 HB GE155 GE156 GE157 GE164) hb); clear hb ho59; have hnb60 := NB155_156.out; have hnc60 := NB156_155.out; have hnb61 := NB155_157.out; have hnc61 := NB157_155.out; have hnb62 := NB155_164.out; have hnc62 := NB164_155.out; have hcz63_0 : w58.cell? ⟨gb155, 0, none⟩ = some (.slice A0_0 l0_0.length c0_0) := (blk_cell BK155.out 0).trans rfl; have hfz63_0 := blk_frozen BK155.out 0) | ((with_reducible refine gate_builtin (b := .append) (xs := #[.tmp 32, .tmp 34]) rfl ?_); at_builtin; refine Kd.R_append_rows k104 (w0 := w) w.heap.size rfl (.tmp 32) (.tmp 34) 53 104 (.agg #[(.int .i64 0), (.int .i64 0), (.int .i64 0)]) 24 rfl Try.underlying53 info104 rfl (by decide) (by omega) v169 y168 l0_0 _ _ _ (fun k_ => some k_ ≠ (.slice Ao15 y161.length co15 : Value).ownBlock) (fun _ => False) rfl rfl ?aO ?aR (fun _ _ h => h) (fun _ h => h.elim) ?aF ?aB ?aS ?aL ?_; (case aR => repeat (first | exact (Kd.C_below HR0_0.out HB.out) | (with_reducible refine Kd.C_alloc ?_ _) | (with_reducible refine Kd.C_drewN ?_ _) | (with_reducible refine Kd.C_drew ?_))); (case aB => exact (zh4 HB GE155 GE156 GE157 GE164)); (case aF => exact (fun k_ hk => Kd.fresh' (Kd.R_lt (zr HO_165000)) k_ hk)); (case aO => exact (by (with_reducible repeat (first | apply Kd.R_alloc | apply Kd.R_drewN | apply Kd.R_drew)); exact Kd.R_mono HO170.out (fun _ hk => hk.2))); (case aS => exact (below_size (zh4 HB GE155 GE156 GE157 GE164))); (case aL => have := LMc57.out; omega); intro v172 w64 ho hb hg hat; rw [← Ny171.out] at ho; replace HO_165000 := Aside0.mk (Kd.R_after (ok := (fun _ => True)) (zr HO_165000) hg hat); replace BK155 := Aside0.mk (blk_grown (g := gb155) (o := .cells #[.slice A0_0 l0_0.length c0_0] 55 (0, 0)) (zb BK155) hg (Kd.R_ne HO170.out BK155.out (by decide))); replace BK156 := Aside0.mk (blk_grown (g := gb156) (o := .cells #[.int .i64 a1_0, .int .i64 a1_1] 40 (0, 0)) (zb BK156) hg (Kd.R_ne HO170.out BK156.out (by decide))); replace BK157 := Aside0.mk (blk_grown (g := gb157) (o := .cells #[.slice none 0 0] 55 (0, 0)) (zb BK157) hg (Kd.R_ne HO170.out BK157.out (by decide))); replace BK164 := Aside0.mk (blk_grown (g := gb164) (o := .cells #[.slice Ao15 y161.length co15] 55 (0, 0)) (zb BK164) hg (Kd.R_ne HO170.out BK164.out (by decide))); replace HB := Aside0.mk (hb); have HO173 := Aside0.mk (ho); clear HO170; clear ho hb hg hat))
            go_loopg [9, 10, 11] kj4 (fun kq v9 v10 v11 w' => ∃ (x9_2 : List (S104)) (x10_2 : Int) (x11_2 : Int) (x165000_2 : List (S104)) (u165000 : Value), v10 = .int .i64 x10_2 ∧ v11 = .int .i64 x11_2 ∧ Aside0 (spec_TriePut.l0 kq a2 x9_2 x10_2 x11_2 a1_0 a1_1 x165000_2 = some (r1, r2)) ∧ Aside0 (kq ≤ kj4) ∧ Aside0 (Kd.R k104 104 w' w.heap.size (fun k_ => some k_ ≠ (u165000 : Value).ownBlock) v9 x9_2) ∧ Aside0 (Kd.R k104 104 w' w.heap.size (fun k_ => some k_ ≠ (v9 : Value).ownBlock) u165000 x165000_2) ∧ Aside0 (w'.heap[gb155]? = some (.cells #[(.slice A0_0 l0_0.length c0_0)] 55 (0, 0))) ∧ Aside0 (w'.heap[gb156]? = some (.cells #[.int .i64 a1_0, .int .i64 a1_1] 40 (0, 0))) ∧ Aside0 (w'.heap[gb157]? = some (.cells #[(.slice none 0 0)] 55 (0, 0))) ∧ Aside0 (w'.heap[gb164]? = some (.cells #[u165000] 55 (0, 0))) ∧ Aside0 (Below w.heap.size w w'))
            case atStart => exact ⟨(y171), (0), (0), (y161), (.slice Ao15 y161.length co15), (by first | rfl | (simp; done) | (simp [*]; done)), (by first | rfl | (simp; done) | (simp [*]; done)), H', ⟨Nat.le_refl _⟩, ⟨by (with_reducible repeat (first | apply Kd.R_alloc | apply Kd.R_drewN | apply Kd.R_drew)); exact HO173.out⟩, ⟨by (with_reducible repeat (first | apply Kd.R_alloc | apply Kd.R_drewN | apply Kd.R_drew)); exact Kd.R_mono HO_165000.out (fun _ hk => hk.2)⟩, ⟨by (with_reducible repeat (first | refine blk_drewN ?_ _ | refine blk_drew ?_ | refine blk_alloc ?_ _)); exact BK155.out⟩, ⟨by (with_reducible repeat (first | refine blk_drewN ?_ _ | refine blk_drew ?_ | refine blk_alloc ?_ _)); exact BK156.out⟩, ⟨by (with_reducible repeat (first | refine blk_drewN ?_ _ | refine blk_drew ?_ | refine blk_alloc ?_ _)); exact BK157.out⟩, ⟨by (with_reducible repeat (first | refine blk_drewN ?_ _ | refine blk_drew ?_ | refine blk_alloc ?_ _)); exact BK164.out⟩, ⟨zh4 HB GE155 GE156 GE157 GE164⟩⟩
            case round =>
              clear H'
              try clear c1
              try clear c2
              try clear p2
              try clear c3
              try clear c4
              try clear c5
              try clear c6
              try clear c7
              try clear c11
              try clear c12
              try clear c17
              try clear c18
              try clear c19
              try clear c22
              try clear c24
              try clear c26
              try clear c27
              try clear c28
              try clear c31
              try clear c32
              try clear c35
              try clear c36
              try clear c37
              try clear c40
              try clear c41
              try clear c44
              try clear c45
              try clear c46
              try clear c49
              try clear c50
              try clear c51
              try clear c52
              try clear c54
              try clear c55
              try clear c57
              try clear c60
              try clear c61
              try clear c62
              try clear hcz13_0
              try clear hcz20_0
              try clear hcz29_0
              try clear hcz33_0
              try clear hcz33_1
              try clear hcz38_0
              try clear hcz42_0
              try clear hcz42_1
              try clear hcz47_0
              try clear hcz53_0
              try clear hcz56_0
              try clear hcz63_0
              try clear hfz13_0
              try clear hfz20_0
              try clear hfz29_0
              try clear hfz33_0
              try clear hfz33_1
              try clear hfz38_0
              try clear hfz42_0
              try clear hfz42_1
              try clear hfz47_0
              try clear hfz53_0
              try clear hfz56_0
              try clear hfz63_0
              try clear p2
              obtain ⟨x9_2, x10_2, x11_2, x165000_2, u165000, rfl, rfl, HA, HK2, HO_9, HO_165000, BK155, BK156, BK157, BK164, HB⟩ := hrel
              cases gk with
              | zero => exact absurd HA.out (by simp [spec_TriePut.l0])
              | succ k2 =>
                have H := HA.out
                clear HA
                simp only [spec_TriePut.l0] at H
                by_cases c65 : x11_2 < a1_1
                · rw [if_pos c65] at H
                  have c65b0 : decide (x11_2 < a1_1) = true := decide_eq_true c65
                  clear c65
                  by_cases c66 : 0 ≤ x10_2
                  · rw [if_pos c66] at H
                    have c66b0 : decide (0 ≤ x10_2) = true := decide_eq_true c66
                    clear c66
                    by_cases c67 : x10_2 < (x9_2.length : Int)
                    · rw [if_pos c67] at H
                      have c67b0 : decide (x10_2 < (x9_2.length : Int)) = true := decide_eq_true c67
                      clear c67
                      replace H := Option.bind_eq_some_iff.mp H
                      obtain ⟨t176, A680, H⟩ := H
                      replace H : (if t176 = 1 then (spec_TriePut.j2 k2 a2 x9_2 x10_2 x11_2 ((rd_T104 x9_2 x10_2).f1) a1_0 a1_1 x165000_2) else (spec_TriePut.j2 k2 a2 x9_2 x10_2 x11_2 ((rd_T104 x9_2 x10_2).f0) a1_0 a1_1 x165000_2)) = some (r1, r2) := H
                      have A68 := Aside0.mk A680
                      clear A680
                      have HC69 := Aside0.mk H
                      clear H
                      have hnb70 := NB156_155.out
                      have hnc70 := NB155_156.out
                      have hnb71 := NB156_157.out
                      have hnc71 := NB157_156.out
                      have hnb72 := NB156_164.out
                      have hnc72 := NB164_156.out
                      have hcz73_0 : wr.cell? ⟨gb156, 0, none⟩ = some (.int .i64 a1_0) := (blk_cell BK156.out 0).trans rfl
                      have hcz73_1 : wr.cell? ⟨gb156, 1, none⟩ = some (.int .i64 a1_1) := (blk_cell BK156.out 1).trans rfl
                      have hfz73_0 := blk_frozen BK156.out 0
                      have hfz73_1 := blk_frozen BK156.out 1
                      obtain ⟨Ao74, co74, eo74⟩ := Kd.R_slice HO_9.out
                      subst eo74
                      have p175 : 0 ≤ (x10_2 : Int) := of_decide_eq_true (by first | (with_reducible assumption) | assumption)
                      have q175 : x10_2 < (x9_2.length : Int) := of_decide_eq_true (by first | (with_reducible assumption) | assumption)
                      obtain ⟨ad175, e175, hx175_0, hx175_1, hx175_2⟩ := at_T104 (Kd.R_reads' HO_9.out).2.2 x10_2 p175 q175
                      cases e175
                      replace p175 := eq_true p175
                      replace q175 := eq_true q175
                      go_upto_if 51 with (first | ((with_reducible refine gate_callee (f := 76) rfl ?_); refine goesL_ (some 50) rfl rfl Try.func76 (by kernel_rfl) rfl #[.int .i64 a1_0, .int .i64 x11_2] rfl (by (try simp only [List.map_toArray, List.map_cons, List.map_nil]); first | done | rfl | (simp only [List.length_drop, List.length_take]; rfl)) ?_; (with_reducible refine (spec_l10Bit.calls k2 a1_0 x11_2 t176 _ A68.out).mono ?_); rintro e w' ⟨rfl, ⟨nd, rfl⟩⟩; refine ⟨_, rfl, ?_⟩))
                      (try simp only [Act.put, List.setIfInBounds_toArray, List.set_cons_zero, List.set_cons_succ])
                      go_cut [12] (fun v12 wc => ∃ (kq : Nat) (x12_68 : Int), v12 = .int .i64 x12_68 ∧ Aside0 (spec_TriePut.j2 kq a2 x9_2 x10_2 x11_2 x12_68 a1_0 a1_1 x165000_2 = some (r1, r2)) ∧ Aside0 (kq ≤ k2) ∧ Aside0 (Kd.R k104 104 wc w.heap.size (fun k_ => some k_ ≠ (u165000 : Value).ownBlock) (.slice (some ad175) x9_2.length co74) x9_2) ∧ Aside0 (Kd.R k104 104 wc w.heap.size (fun k_ => some k_ ≠ ((.slice (some ad175) x9_2.length co74) : Value).ownBlock) u165000 x165000_2) ∧ Aside0 (wc.heap[gb155]? = some (.cells #[(.slice A0_0 l0_0.length c0_0)] 55 (0, 0))) ∧ Aside0 (wc.heap[gb156]? = some (.cells #[.int .i64 a1_0, .int .i64 a1_1] 40 (0, 0))) ∧ Aside0 (wc.heap[gb157]? = some (.cells #[(.slice none 0 0)] 55 (0, 0))) ∧ Aside0 (wc.heap[gb164]? = some (.cells #[u165000] 55 (0, 0))) ∧ Aside0 (Below w.heap.size w wc))
                      case first =>
                        have H := HC69.out
                        clear HC69
                        by_cases c75 : t176 = 1
                        · rw [if_pos c75] at H
                          have c75b0 : (t176 == 1) = true := beq_iff_eq.mpr c75
                          have c75b1 : (t176 != 1) = false := bne_eq_false_iff_eq.mpr c75
                          clear c75
                          (first | rw [c75b0] | (simp only [i64_w, i32_w]; rw [c75b0]) | skip)
                          have H' := Aside0.mk H
                          clear H
                          have p177 : 0 ≤ (x10_2 : Int) := of_decide_eq_true (by first | (with_reducible assumption) | assumption)
                          have q177 : x10_2 < (x9_2.length : Int) := of_decide_eq_true (by first | (with_reducible assumption) | assumption)
                          obtain ⟨ad177, e177, hx177_0, hx177_1, hx177_2⟩ := at_T104 (Kd.R_reads' HO_9.out).2.2 x10_2 p177 q177
                          obtain rfl : ad175 = ad177 := (by injection e177)
                          replace p177 := eq_true p177
                          replace q177 := eq_true q177
                          go_wp2
                          go_meet
                          case rel => exact ⟨_, ((rd_T104 x9_2 x10_2).f1), (by first | rfl | (simp; done) | (simp [*]; done)), H', ⟨by have := HJ4.out; have := HK2.out; first | omega | exact Nat.le_refl _⟩, ⟨by (with_reducible repeat (first | apply Kd.R_alloc | apply Kd.R_drewN | apply Kd.R_drew)); exact HO_9.out⟩, ⟨by (with_reducible repeat (first | apply Kd.R_alloc | apply Kd.R_drewN | apply Kd.R_drew)); exact HO_165000.out⟩, ⟨by (with_reducible repeat (first | refine blk_drewN ?_ _ | refine blk_drew ?_ | refine blk_alloc ?_ _)); exact BK155.out⟩, ⟨by (with_reducible repeat (first | refine blk_drewN ?_ _ | refine blk_drew ?_ | refine blk_alloc ?_ _)); exact BK156.out⟩, ⟨by (with_reducible repeat (first | refine blk_drewN ?_ _ | refine blk_drew ?_ | refine blk_alloc ?_ _)); exact BK157.out⟩, ⟨by (with_reducible repeat (first | refine blk_drewN ?_ _ | refine blk_drew ?_ | refine blk_alloc ?_ _)); exact BK164.out⟩, ⟨zh4 HB GE155 GE156 GE157 GE164⟩⟩
                        · rw [if_neg c75] at H
                          have c75b0 : (t176 == 1) = false := beq_eq_false_iff_ne.mpr c75
                          have c75b1 : (t176 != 1) = true := bne_iff_ne.mpr c75
                          (first | rw [c75b0] | (simp only [i64_w, i32_w]; rw [c75b0]) | skip)
                          have H' := Aside0.mk H
                          clear H
                          go_wp2
                          go_meet
                          case rel => exact ⟨_, ((rd_T104 x9_2 x10_2).f0), (by first | rfl | (simp; done) | (simp [*]; done)), H', ⟨by have := HJ4.out; have := HK2.out; first | omega | exact Nat.le_refl _⟩, ⟨by (with_reducible repeat (first | apply Kd.R_alloc | apply Kd.R_drewN | apply Kd.R_drew)); exact HO_9.out⟩, ⟨by (with_reducible repeat (first | apply Kd.R_alloc | apply Kd.R_drewN | apply Kd.R_drew)); exact HO_165000.out⟩, ⟨by (with_reducible repeat (first | refine blk_drewN ?_ _ | refine blk_drew ?_ | refine blk_alloc ?_ _)); exact BK155.out⟩, ⟨by (with_reducible repeat (first | refine blk_drewN ?_ _ | refine blk_drew ?_ | refine blk_alloc ?_ _)); exact BK156.out⟩, ⟨by (with_reducible repeat (first | refine blk_drewN ?_ _ | refine blk_drew ?_ | refine blk_alloc ?_ _)); exact BK157.out⟩, ⟨by (with_reducible repeat (first | refine blk_drewN ?_ _ | refine blk_drew ?_ | refine blk_alloc ?_ _)); exact BK164.out⟩, ⟨zh4 HB GE155 GE156 GE157 GE164⟩⟩
                      case rest =>
                        clear HC69
                        try clear c1
                        try clear p1
                        try clear q1
                        try clear hx1
                        try clear c2
                        try clear p2
                        try clear c3
                        try clear c4
                        try clear c5
                        try clear c6
                        try clear c7
                        try clear c11
                        try clear c12
                        try clear c17
                        try clear p17
                        try clear q17
                        try clear hx17
                        try clear c18
                        try clear c19
                        try clear c22
                        try clear c24
                        try clear c26
                        try clear c27
                        try clear c28
                        try clear c31
                        try clear c32
                        try clear c35
                        try clear c36
                        try clear c37
                        try clear c40
                        try clear c41
                        try clear c44
                        try clear c45
                        try clear c46
                        try clear c49
                        try clear c50
                        try clear c51
                        try clear c52
                        try clear c54
                        try clear c55
                        try clear c57
                        try clear c60
                        try clear c61
                        try clear c62
                        try clear c65
                        try clear c65b0
                        try clear c66
                        try clear c66b0
                        try clear c67
                        try clear c67b0
                        try clear c70
                        try clear c71
                        try clear c72
                        try clear c74
                        try clear c75
                        try clear c75b0
                        try clear c75b1
                        try clear hcz13_0
                        try clear hcz20_0
                        try clear hcz29_0
                        try clear hcz33_0
                        try clear hcz33_1
                        try clear hcz38_0
                        try clear hcz42_0
                        try clear hcz42_1
                        try clear hcz47_0
                        try clear hcz53_0
                        try clear hcz56_0
                        try clear hcz63_0
                        try clear hcz73_0
                        try clear hcz73_1
                        try clear hfz13_0
                        try clear hfz20_0
                        try clear hfz29_0
                        try clear hfz33_0
                        try clear hfz33_1
                        try clear hfz38_0
                        try clear hfz42_0
                        try clear hfz42_1
                        try clear hfz47_0
                        try clear hfz53_0
                        try clear hfz56_0
                        try clear hfz63_0
                        try clear hfz73_0
                        try clear hfz73_1
                        try clear hx175_0
                        try clear hx175_1
                        try clear hx175_2
                        try clear hx177_0
                        try clear hx177_1
                        try clear hx177_2
                        try clear p175
                        try clear p177
                        try clear p2
                        try clear q175
                        try clear q177
                        obtain ⟨kq, x12_68, rfl, HA, HJ68, HO_9, HO_165000, BK155, BK156, BK157, BK164, HB⟩ := hcut
                        cases kq with
                        | zero => exact absurd HA.out (by simp [spec_TriePut.j2])
                        | succ kj68 =>
                          have H := HA.out
                          clear HA
                          simp only [spec_TriePut.j2] at H
                          by_cases c76 : x12_68 = 0
                          · rw [if_pos c76] at H
                            have c76b0 : (x12_68 == 0) = true := beq_iff_eq.mpr c76
                            have c76b1 : (x12_68 != 0) = false := bne_eq_false_iff_eq.mpr c76
                            clear c76
                            replace H := Option.bind_eq_some_iff.mp H
                            obtain ⟨t178, A770, H⟩ := H
                            replace H : (if t178 = 1 then (if 0 ≤ x10_2 then (if x10_2 < (x9_2.length : Int) then ((some (x9_2.set (x10_2 : Int).toNat (⟨(rd_T104 x9_2 x10_2).f0, (x9_2.length : Int), (rd_T104 x9_2 x10_2).f2⟩ : S104) : List (S104))).bind fun y179 => (if y179.length < 5864062014805 then (spec_TriePut.l0 kj68 a2 (y179 ++ [(⟨0, 0, 0⟩ : S104)]) (x9_2.length : Int) (wrap64 (x11_2 + 1)) a1_0 a1_1 x165000_2) else (none))) else (none)) else (none)) else (if 0 ≤ x10_2 then (if x10_2 < (x9_2.length : Int) then ((some (x9_2.set (x10_2 : Int).toNat (⟨(x9_2.length : Int), (rd_T104 x9_2 x10_2).f1, (rd_T104 x9_2 x10_2).f2⟩ : S104) : List (S104))).bind fun y183 => (if y183.length < 5864062014805 then (spec_TriePut.l0 kj68 a2 (y183 ++ [(⟨0, 0, 0⟩ : S104)]) (x9_2.length : Int) (wrap64 (x11_2 + 1)) a1_0 a1_1 x165000_2) else (none))) else (none)) else (none))) = some (r1, r2) := H
                            have A77 := Aside0.mk A770
                            clear A770
                            by_cases c78 : t178 = 1
                            · rw [if_pos c78] at H
                              have c78b0 : (t178 == 1) = true := beq_iff_eq.mpr c78
                              have c78b1 : (t178 != 1) = false := bne_eq_false_iff_eq.mpr c78
                              clear c78
                              by_cases c79 : 0 ≤ x10_2
                              · rw [if_pos c79] at H
                                have c79b0 : decide (0 ≤ x10_2) = true := decide_eq_true c79
                                clear c79
                                by_cases c80 : x10_2 < (x9_2.length : Int)
                                · rw [if_pos c80] at H
                                  have c80b0 : decide (x10_2 < (x9_2.length : Int)) = true := decide_eq_true c80
                                  clear c80
                                  obtain ⟨y179, hy179⟩ : ∃ y_ : List (S104), y_ = (x9_2.set (x10_2 : Int).toNat (⟨(rd_T104 x9_2 x10_2).f0, (x9_2.length : Int), (rd_T104 x9_2 x10_2).f2⟩ : S104)) := ⟨_, rfl⟩
                                  replace H : (if y179.length < 5864062014805 then (spec_TriePut.l0 kj68 a2 (y179 ++ [(⟨0, 0, 0⟩ : S104)]) (x9_2.length : Int) (wrap64 (x11_2 + 1)) a1_0 a1_1 x165000_2) else (none)) = some (r1, r2) := by first | (rw [hy179]; with_reducible exact H) | (have H2_ := (Option.bind_some _ _).symm.trans H; rw [hy179]; with_reducible exact H2_) | (have H2_ := (Option.bind_some _ _).symm.trans H; with_reducible exact H2_) | with_reducible exact H | (rw [hy179]; exact H) | exact H
                                  have Ny179 := Aside0.mk hy179
                                  clear hy179
                                  by_cases c82 : y179.length < 5864062014805
                                  · rw [if_pos c82] at H
                                    have LMc82 := Aside0.mk c82
                                    clear c82
                                    obtain ⟨y180, hy180⟩ : ∃ y_ : List (S104), y_ = (y179 ++ [(⟨0, 0, 0⟩ : S104)]) := ⟨_, rfl⟩
                                    replace H : (spec_TriePut.l0 kj68 a2 y180 (x9_2.length : Int) (wrap64 (x11_2 + 1)) a1_0 a1_1 x165000_2) = some (r1, r2) := by first | (rw [hy180]; with_reducible exact H) | (have H2_ := (Option.bind_some _ _).symm.trans H; rw [hy180]; with_reducible exact H2_) | (have H2_ := (Option.bind_some _ _).symm.trans H; with_reducible exact H2_) | with_reducible exact H | (rw [hy180]; exact H) | exact H
                                    have Ny180 := Aside0.mk hy180
                                    clear hy180
                                    have H' := Aside0.mk H
                                    clear H
                                    have hnb83 := NB156_155.out
                                    have hnc83 := NB155_156.out
                                    have hnb84 := NB156_157.out
                                    have hnc84 := NB157_156.out
                                    have hnb85 := NB156_164.out
                                    have hnc85 := NB164_156.out
                                    have hcz86_0 : wc.cell? ⟨gb156, 0, none⟩ = some (.int .i64 a1_0) := (blk_cell BK156.out 0).trans rfl
                                    have hcz86_1 : wc.cell? ⟨gb156, 1, none⟩ = some (.int .i64 a1_1) := (blk_cell BK156.out 1).trans rfl
                                    have hfz86_0 := blk_frozen BK156.out 0
                                    have hfz86_1 := blk_frozen BK156.out 1
                                    go_wp2_with (first | ((with_reducible refine gate_callee (f := 76) rfl ?_); refine goesL_ (some 64) rfl rfl Try.func76 (by kernel_rfl) rfl #[.int .i64 a1_0, .int .i64 x11_2] rfl (by (try simp only [List.map_toArray, List.map_cons, List.map_nil]); first | done | rfl | (simp only [List.length_drop, List.length_take]; rfl)) ?_; (with_reducible refine (spec_l10Bit.calls kj68 a1_0 x11_2 t178 _ A77.out).mono ?_); rintro e w' ⟨rfl, ⟨nd, rfl⟩⟩; refine ⟨_, rfl, ?_⟩; (try (rw [drewN_self wc]; generalize hq_ : World.drewN wc _ = wc; have n0_ : Aside0 (Kd.R k104 104 wc w.heap.size (fun k_ => some k_ ≠ (.slice (some ad175) x9_2.length co74 : Value).ownBlock) u165000 x165000_2) := ⟨by rw [← hq_]; exact (zr HO_165000)⟩; have n1_ : Aside0 (Kd.R k104 104 wc w.heap.size (fun k_ => some k_ ≠ (u165000 : Value).ownBlock) (.slice (some ad175) x9_2.length co74) x9_2) := ⟨by rw [← hq_]; exact (zr HO_9)⟩; have n2_ : Aside0 (wc.heap[gb155]? = some (.cells #[.slice A0_0 l0_0.length c0_0] 55 (0, 0))) := ⟨by rw [← hq_]; exact (zb BK155)⟩; have n3_ : Aside0 (wc.heap[gb156]? = some (.cells #[.int .i64 a1_0, .int .i64 a1_1] 40 (0, 0))) := ⟨by rw [← hq_]; exact (zb BK156)⟩; have n4_ : Aside0 (wc.heap[gb157]? = some (.cells #[.slice none 0 0] 55 (0, 0))) := ⟨by rw [← hq_]; exact (zb BK157)⟩; have n5_ : Aside0 (wc.heap[gb164]? = some (.cells #[u165000] 55 (0, 0))) := ⟨by rw [← hq_]; exact (zb BK164)⟩; have n6_ : Aside0 (Below w.heap.size w wc) := ⟨by rw [← hq_]; exact (zh4 HB GE155 GE156 GE157 GE164)⟩; clear HO_165000 HO_9 BK155 BK156 BK157 BK164 HB hq_; have HO_165000 := n0_; have HO_9 := n1_; have BK155 := n2_; have BK156 := n3_; have BK157 := n4_; have BK164 := n5_; have HB := n6_; clear n0_ n1_ n2_ n3_ n4_ n5_ n6_)); have p81 : 0 ≤ (x10_2 : Int) := of_decide_eq_true (by first | (with_reducible assumption) | assumption); have q81 : (x10_2 : Int) < ((x9_2.length : Int) : Int) := of_decide_eq_true (by first | (with_reducible assumption) | assumption); obtain ⟨go81, co81, eo81, gb81, gl81, cl81, HG81⟩ := Kd.R_form HO_9.out (by omega); (first | cases eo81 | (injection eo81 with ea_ en_ ec_; (first | subst ea_ | (injection ea_ with ea_; subst ea_)); subst ec_; clear en_)); have GB81 := Aside0.mk gb81; have GG81 := Aside0.mk HG81; clear gb81 gl81 HG81; (first | simp only [add_plain] at hx175_0 | skip); (first | simp only [add_plain] at hx175_1 | skip); (first | simp only [add_plain] at hx175_2 | skip); (first | simp only [add_plain] at hx177_0 | skip); (first | simp only [add_plain] at hx177_1 | skip); (first | simp only [add_plain] at hx177_2 | skip); obtain ⟨ce81, hcl81, hM81, hcc81, hfr81⟩ := Kd.R_elem HO_9.out z104 (x10_2 : Int) p81 q81; obtain rfl := k104_openM hM81; have hx81_0 : wc.cell? ⟨go81, (x10_2 : Int).toNat * 3, none⟩ = some (.int .i64 ((rd_T104 x9_2 x10_2).f0)) := hcc81 0 _ rfl; have hx81_1 : wc.cell? ⟨go81, (x10_2 : Int).toNat * 3 + 1, none⟩ = some (.int .i64 ((rd_T104 x9_2 x10_2).f1)) := hcc81 1 _ rfl; have hx81_2 : wc.cell? ⟨go81, (x10_2 : Int).toNat * 3 + 2, none⟩ = some (.int .i64 ((rd_T104 x9_2 x10_2).f2)) := hcc81 2 _ rfl; have hf81_0 : wc.frozen? ⟨go81, (x10_2 : Int).toNat * 3, none⟩ = false := hfr81 0; have hf81_1 : wc.frozen? ⟨go81, (x10_2 : Int).toNat * 3 + 1, none⟩ = false := hfr81 1; have hf81_2 : wc.frozen? ⟨go81, (x10_2 : Int).toNat * 3 + 2, none⟩ = false := hfr81 2; clear hcl81 hcc81 hfr81 hM81; replace p81 := eq_true p81; replace q81 := eq_true q81; have HX87 := Aside0.mk (show Kd.R k104 104 wc w.heap.size (fun k_ => some k_ ≠ (u165000 : Value).ownBlock) (.slice (some ⟨go81, 0, none⟩) x9_2.length co74) x9_2 from (zr HO_9)); obtain ⟨ce87, hcl87, hM87, hcc87, hfr87⟩ := Kd.R_elem HX87.out z104 (x10_2 : Int) (of_decide_eq_true (by first | (with_reducible assumption) | assumption)) (by have h_ : (x10_2 : Int) < ((x9_2.length : Int) : Int) := of_decide_eq_true (by first | (with_reducible assumption) | assumption); first | exact h_ | (have e_ := (Kd.R_reads' HO_9.out).1; omega) | simpa using h_); obtain rfl := k104_openM hM87; have HP87 := Kd.R_seg HX87.out (x10_2 : Int) (of_decide_eq_true (by first | (with_reducible assumption) | assumption)) (by have h_ : (x10_2 : Int) < ((x9_2.length : Int) : Int) := of_decide_eq_true (by first | (with_reducible assumption) | assumption); first | exact h_ | (have e_ := (Kd.R_reads' HO_9.out).1; omega) | simpa using h_) (seg := [.int .i64 (x9_2.length : Int)]) (j := 1) hcl87 hcc87 (show 2 ≤ 3 from by decide) (x' := (⟨(rd_T104 x9_2 x10_2).f0, (x9_2.length : Int), (rd_T104 x9_2 x10_2).f2⟩ : S104)) (k104_mkM _ _ _ (⟨(rd_T104 x9_2 x10_2).f0, (x9_2.length : Int), (rd_T104 x9_2 x10_2).f2⟩ : S104) ) (fun _ hk => hk); have hx87_1 := hcc87 1 _ rfl; (try simp only [show (k104).sz = 3 from rfl, Nat.mul_one, Nat.add_zero] at hx87_1); have hf87_1 := hfr87 1; (try simp only [show (k104).sz = 3 from rfl, Nat.mul_one, Nat.add_zero] at hf87_1); clear hcl87 hcc87 hfr87 hM87) | ((with_reducible refine gate_store (t := 3) (p := 70) rfl ?_); refine store_event (t := 3) (p := 70) (v := ?vo_w88) (w1 := (wc.setCell ⟨go81, (x10_2 : Int).toNat * 3 + 1, none⟩ (.int .i64 (x9_2.length : Int)))) ?hg ?ho ?hn ?hr ?_; (case ho => rfl); (case hg => rfl); (case hn => rfl); (case hr => first | (go_simp; done) | (go_simp; rfl)); intro w88 hw; have hg : wc.grownBy w88 (some go81) := (by rw [hw]; exact HP87.2); have hp_ : Kd.R k104 104 w88 w.heap.size (fun k_ => some k_ ≠ (u165000 : Value).ownBlock) (.slice (some ⟨go81, 0, none⟩) x9_2.length co74) y179 := (by rw [hw, Ny179.out]; exact HP87.1); clear HP87; replace HO_165000 := Aside0.mk (Kd.R_after (v := (.slice (some ⟨go81, 0, none⟩) x9_2.length co74)) (v1 := (.slice (some ⟨go81, 0, none⟩) x9_2.length co74)) (ok := (fun _ => True)) (by (with_reducible repeat (first | apply Kd.R_alloc | apply Kd.R_drewN | apply Kd.R_drew)); exact Kd.R_mono HO_165000.out (fun _ hk => ⟨trivial, hk⟩)) hg (.inl rfl)); replace BK155 := Aside0.mk (blk_grown (g := gb155) (o := .cells #[.slice A0_0 l0_0.length c0_0] 55 (0, 0)) (zb BK155) hg (Kd.R_ne HO_9.out BK155.out (by decide))); replace BK156 := Aside0.mk (blk_grown (g := gb156) (o := .cells #[.int .i64 a1_0, .int .i64 a1_1] 40 (0, 0)) (zb BK156) hg (Kd.R_ne HO_9.out BK156.out (by decide))); replace BK157 := Aside0.mk (blk_grown (g := gb157) (o := .cells #[.slice none 0 0] 55 (0, 0)) (zb BK157) hg (Kd.R_ne HO_9.out BK157.out (by decide))); replace BK164 := Aside0.mk (blk_grown (g := gb164) (o := .cells #[u165000] 55 (0, 0)) (zb BK164) hg (Kd.R_ne HO_9.out BK164.out (by decide))); replace HO_9 := Aside0.mk (hp_); replace HB := Aside0.mk ((by rw [hw]; exact below_set (HB.out) GB81.out : Below w.heap.size w w88)); clear hg hw hp_) | ((with_reducible refine gate_builtin (b := .append) (xs := #[.tmp 76, .tmp 78]) rfl ?_); at_builtin; refine Kd.R_append k104 (w0 := w) w.heap.size rfl (.tmp 76) (.tmp 78) 53 104 (.agg #[(.int .i64 0), (.int .i64 0), (.int .i64 0)]) 24 rfl Try.underlying53 info104 rfl (by decide) (by omega) (.slice (some ⟨go81, 0, none⟩) x9_2.length co74) y179 (⟨0, 0, 0⟩ : S104) [.int .i64 0, .int .i64 0, .int .i64 0] (fun k_ => some k_ ≠ (u165000 : Value).ownBlock) (fun _ => False) rfl rfl ?aP (fun _ hk => hk.elim) ?aF ?aO ?aB ?aS ?aL ?_; (case aP => exact k104_mkM _ _ _ (⟨0, 0, 0⟩ : S104)); (case aB => exact (zh4 HB GE155 GE156 GE157 GE164)); (case aF => exact (fun k_ hk => Kd.fresh' (Kd.R_lt (zr HO_165000)) k_ hk)); (case aO => exact (zr HO_9)); (case aS => exact (below_size (zh4 HB GE155 GE156 GE157 GE164))); (case aL => have := LMc82.out; omega); intro v181 w89 ho hb hg hat; rw [← Ny180.out] at ho; replace HO_165000 := Aside0.mk (Kd.R_after (ok := (fun _ => True)) (zr HO_165000) hg hat); replace BK155 := Aside0.mk (blk_grown (g := gb155) (o := .cells #[.slice A0_0 l0_0.length c0_0] 55 (0, 0)) (zb BK155) hg (Kd.R_ne HO_9.out BK155.out (by decide))); replace BK156 := Aside0.mk (blk_grown (g := gb156) (o := .cells #[.int .i64 a1_0, .int .i64 a1_1] 40 (0, 0)) (zb BK156) hg (Kd.R_ne HO_9.out BK156.out (by decide))); replace BK157 := Aside0.mk (blk_grown (g := gb157) (o := .cells #[.slice none 0 0] 55 (0, 0)) (zb BK157) hg (Kd.R_ne HO_9.out BK157.out (by decide))); replace BK164 := Aside0.mk (blk_grown (g := gb164) (o := .cells #[u165000] 55 (0, 0)) (zb BK164) hg (Kd.R_ne HO_9.out BK164.out (by decide))); replace HB := Aside0.mk (hb); have HO182 := Aside0.mk (ho); clear HO_9; clear ho hb hg hat))
                                    go_roundg kj68
                                    case measure => have := HJ4.out; have := HK2.out; have := HJ68.out; omega
                                    case rel => exact ⟨(y180), ((x9_2.length : Int)), (wrap64 (x11_2 + 1)), (x165000_2), (u165000), (by first | rfl | (simp; done) | (simp [*]; done)), (by first | rfl | (simp; done) | (simp [*]; done)), H', ⟨by have := HJ4.out; have := HK2.out; have := HJ68.out; omega⟩, ⟨by (with_reducible repeat (first | apply Kd.R_alloc | apply Kd.R_drewN | apply Kd.R_drew)); exact HO182.out⟩, ⟨by (with_reducible repeat (first | apply Kd.R_alloc | apply Kd.R_drewN | apply Kd.R_drew)); exact Kd.R_mono HO_165000.out (fun _ hk => hk.2)⟩, ⟨by (with_reducible repeat (first | refine blk_drewN ?_ _ | refine blk_drew ?_ | refine blk_alloc ?_ _)); exact BK155.out⟩, ⟨by (with_reducible repeat (first | refine blk_drewN ?_ _ | refine blk_drew ?_ | refine blk_alloc ?_ _)); exact BK156.out⟩, ⟨by (with_reducible repeat (first | refine blk_drewN ?_ _ | refine blk_drew ?_ | refine blk_alloc ?_ _)); exact BK157.out⟩, ⟨by (with_reducible repeat (first | refine blk_drewN ?_ _ | refine blk_drew ?_ | refine blk_alloc ?_ _)); exact BK164.out⟩, ⟨zh4 HB GE155 GE156 GE157 GE164⟩⟩
                                  · rw [if_neg c82] at H
                                    exact absurd H (by simp)
                                · rw [if_neg c80] at H
                                  exact absurd H (by simp)
                              · rw [if_neg c79] at H
                                exact absurd H (by simp)
                            · rw [if_neg c78] at H
                              have c78b0 : (t178 == 1) = false := beq_eq_false_iff_ne.mpr c78
                              have c78b1 : (t178 != 1) = true := bne_iff_ne.mpr c78
                              by_cases c90 : 0 ≤ x10_2
                              · rw [if_pos c90] at H
                                have c90b0 : decide (0 ≤ x10_2) = true := decide_eq_true c90
                                clear c90
                                by_cases c91 : x10_2 < (x9_2.length : Int)
                                · rw [if_pos c91] at H
                                  have c91b0 : decide (x10_2 < (x9_2.length : Int)) = true := decide_eq_true c91
                                  clear c91
                                  obtain ⟨y183, hy183⟩ : ∃ y_ : List (S104), y_ = (x9_2.set (x10_2 : Int).toNat (⟨(x9_2.length : Int), (rd_T104 x9_2 x10_2).f1, (rd_T104 x9_2 x10_2).f2⟩ : S104)) := ⟨_, rfl⟩
                                  replace H : (if y183.length < 5864062014805 then (spec_TriePut.l0 kj68 a2 (y183 ++ [(⟨0, 0, 0⟩ : S104)]) (x9_2.length : Int) (wrap64 (x11_2 + 1)) a1_0 a1_1 x165000_2) else (none)) = some (r1, r2) := by first | (rw [hy183]; with_reducible exact H) | (have H2_ := (Option.bind_some _ _).symm.trans H; rw [hy183]; with_reducible exact H2_) | (have H2_ := (Option.bind_some _ _).symm.trans H; with_reducible exact H2_) | with_reducible exact H | (rw [hy183]; exact H) | exact H
                                  have Ny183 := Aside0.mk hy183
                                  clear hy183
                                  by_cases c93 : y183.length < 5864062014805
                                  · rw [if_pos c93] at H
                                    have LMc93 := Aside0.mk c93
                                    clear c93
                                    obtain ⟨y184, hy184⟩ : ∃ y_ : List (S104), y_ = (y183 ++ [(⟨0, 0, 0⟩ : S104)]) := ⟨_, rfl⟩
                                    replace H : (spec_TriePut.l0 kj68 a2 y184 (x9_2.length : Int) (wrap64 (x11_2 + 1)) a1_0 a1_1 x165000_2) = some (r1, r2) := by first | (rw [hy184]; with_reducible exact H) | (have H2_ := (Option.bind_some _ _).symm.trans H; rw [hy184]; with_reducible exact H2_) | (have H2_ := (Option.bind_some _ _).symm.trans H; with_reducible exact H2_) | with_reducible exact H | (rw [hy184]; exact H) | exact H
                                    have Ny184 := Aside0.mk hy184
                                    clear hy184
                                    have H' := Aside0.mk H
                                    clear H
                                    have hnb94 := NB156_155.out
                                    have hnc94 := NB155_156.out
                                    have hnb95 := NB156_157.out
                                    have hnc95 := NB157_156.out
                                    have hnb96 := NB156_164.out
                                    have hnc96 := NB164_156.out
                                    have hcz97_0 : wc.cell? ⟨gb156, 0, none⟩ = some (.int .i64 a1_0) := (blk_cell BK156.out 0).trans rfl
                                    have hcz97_1 : wc.cell? ⟨gb156, 1, none⟩ = some (.int .i64 a1_1) := (blk_cell BK156.out 1).trans rfl
                                    have hfz97_0 := blk_frozen BK156.out 0
                                    have hfz97_1 := blk_frozen BK156.out 1
                                    go_wp2_with (first | ((with_reducible refine gate_callee (f := 76) rfl ?_); refine goesL_ (some 64) rfl rfl Try.func76 (by kernel_rfl) rfl #[.int .i64 a1_0, .int .i64 x11_2] rfl (by (try simp only [List.map_toArray, List.map_cons, List.map_nil]); first | done | rfl | (simp only [List.length_drop, List.length_take]; rfl)) ?_; (with_reducible refine (spec_l10Bit.calls kj68 a1_0 x11_2 t178 _ A77.out).mono ?_); rintro e w' ⟨rfl, ⟨nd, rfl⟩⟩; refine ⟨_, rfl, ?_⟩; (try (rw [drewN_self wc]; generalize hq_ : World.drewN wc _ = wc; have n0_ : Aside0 (Kd.R k104 104 wc w.heap.size (fun k_ => some k_ ≠ (.slice (some ad175) x9_2.length co74 : Value).ownBlock) u165000 x165000_2) := ⟨by rw [← hq_]; exact (zr HO_165000)⟩; have n1_ : Aside0 (Kd.R k104 104 wc w.heap.size (fun k_ => some k_ ≠ (u165000 : Value).ownBlock) (.slice (some ad175) x9_2.length co74) x9_2) := ⟨by rw [← hq_]; exact (zr HO_9)⟩; have n2_ : Aside0 (wc.heap[gb155]? = some (.cells #[.slice A0_0 l0_0.length c0_0] 55 (0, 0))) := ⟨by rw [← hq_]; exact (zb BK155)⟩; have n3_ : Aside0 (wc.heap[gb156]? = some (.cells #[.int .i64 a1_0, .int .i64 a1_1] 40 (0, 0))) := ⟨by rw [← hq_]; exact (zb BK156)⟩; have n4_ : Aside0 (wc.heap[gb157]? = some (.cells #[.slice none 0 0] 55 (0, 0))) := ⟨by rw [← hq_]; exact (zb BK157)⟩; have n5_ : Aside0 (wc.heap[gb164]? = some (.cells #[u165000] 55 (0, 0))) := ⟨by rw [← hq_]; exact (zb BK164)⟩; have n6_ : Aside0 (Below w.heap.size w wc) := ⟨by rw [← hq_]; exact (zh4 HB GE155 GE156 GE157 GE164)⟩; clear HO_165000 HO_9 BK155 BK156 BK157 BK164 HB hq_; have HO_165000 := n0_; have HO_9 := n1_; have BK155 := n2_; have BK156 := n3_; have BK157 := n4_; have BK164 := n5_; have HB := n6_; clear n0_ n1_ n2_ n3_ n4_ n5_ n6_)); have p92 : 0 ≤ (x10_2 : Int) := of_decide_eq_true (by first | (with_reducible assumption) | assumption); have q92 : (x10_2 : Int) < ((x9_2.length : Int) : Int) := of_decide_eq_true (by first | (with_reducible assumption) | assumption); obtain ⟨go92, co92, eo92, gb92, gl92, cl92, HG92⟩ := Kd.R_form HO_9.out (by omega); (first | cases eo92 | (injection eo92 with ea_ en_ ec_; (first | subst ea_ | (injection ea_ with ea_; subst ea_)); subst ec_; clear en_)); have GB92 := Aside0.mk gb92; have GG92 := Aside0.mk HG92; clear gb92 gl92 HG92; obtain ⟨ce92, hcl92, hM92, hcc92, hfr92⟩ := Kd.R_elem HO_9.out z104 (x10_2 : Int) p92 q92; obtain rfl := k104_openM hM92; have hx92_0 : wc.cell? ⟨go92, (x10_2 : Int).toNat * 3, none⟩ = some (.int .i64 ((rd_T104 x9_2 x10_2).f0)) := hcc92 0 _ rfl; have hx92_1 : wc.cell? ⟨go92, (x10_2 : Int).toNat * 3 + 1, none⟩ = some (.int .i64 ((rd_T104 x9_2 x10_2).f1)) := hcc92 1 _ rfl; have hx92_2 : wc.cell? ⟨go92, (x10_2 : Int).toNat * 3 + 2, none⟩ = some (.int .i64 ((rd_T104 x9_2 x10_2).f2)) := hcc92 2 _ rfl; have hf92_0 : wc.frozen? ⟨go92, (x10_2 : Int).toNat * 3, none⟩ = false := hfr92 0; have hf92_1 : wc.frozen? ⟨go92, (x10_2 : Int).toNat * 3 + 1, none⟩ = false := hfr92 1; have hf92_2 : wc.frozen? ⟨go92, (x10_2 : Int).toNat * 3 + 2, none⟩ = false := hfr92 2; clear hcl92 hcc92 hfr92 hM92; replace p92 := eq_true p92; replace q92 := eq_true q92; have HX98 := Aside0.mk (show Kd.R k104 104 wc w.heap.size (fun k_ => some k_ ≠ (u165000 : Value).ownBlock) (.slice (some ⟨go92, 0, none⟩) x9_2.length co74) x9_2 from (zr HO_9)); obtain ⟨ce98, hcl98, hM98, hcc98, hfr98⟩ := Kd.R_elem HX98.out z104 (x10_2 : Int) (of_decide_eq_true (by first | (with_reducible assumption) | assumption)) (by have h_ : (x10_2 : Int) < ((x9_2.length : Int) : Int) := of_decide_eq_true (by first | (with_reducible assumption) | assumption); first | exact h_ | (have e_ := (Kd.R_reads' HO_9.out).1; omega) | simpa using h_); obtain rfl := k104_openM hM98; have HP98 := Kd.R_seg HX98.out (x10_2 : Int) (of_decide_eq_true (by first | (with_reducible assumption) | assumption)) (by have h_ : (x10_2 : Int) < ((x9_2.length : Int) : Int) := of_decide_eq_true (by first | (with_reducible assumption) | assumption); first | exact h_ | (have e_ := (Kd.R_reads' HO_9.out).1; omega) | simpa using h_) (seg := [.int .i64 (x9_2.length : Int)]) (j := 0) hcl98 hcc98 (show 1 ≤ 3 from by decide) (x' := (⟨(x9_2.length : Int), (rd_T104 x9_2 x10_2).f1, (rd_T104 x9_2 x10_2).f2⟩ : S104)) (k104_mkM _ _ _ (⟨(x9_2.length : Int), (rd_T104 x9_2 x10_2).f1, (rd_T104 x9_2 x10_2).f2⟩ : S104) ) (fun _ hk => hk); have hx98_0 := hcc98 0 _ rfl; (try simp only [show (k104).sz = 3 from rfl, Nat.mul_one, Nat.add_zero] at hx98_0); have hf98_0 := hfr98 0; (try simp only [show (k104).sz = 3 from rfl, Nat.mul_one, Nat.add_zero] at hf98_0); clear hcl98 hcc98 hfr98 hM98) | ((with_reducible refine gate_store (t := 3) (p := 75) rfl ?_); refine store_event (t := 3) (p := 75) (v := ?vo_w99) (w1 := (wc.setCell ⟨go92, (x10_2 : Int).toNat * 3, none⟩ (.int .i64 (x9_2.length : Int)))) ?hg ?ho ?hn ?hr ?_; (case ho => rfl); (case hg => rfl); (case hn => rfl); (case hr => first | (go_simp; done) | (go_simp; rfl)); intro w99 hw; have hg : wc.grownBy w99 (some go92) := (by rw [hw]; exact HP98.2); have hp_ : Kd.R k104 104 w99 w.heap.size (fun k_ => some k_ ≠ (u165000 : Value).ownBlock) (.slice (some ⟨go92, 0, none⟩) x9_2.length co74) y183 := (by rw [hw, Ny183.out]; exact HP98.1); clear HP98; replace HO_165000 := Aside0.mk (Kd.R_after (v := (.slice (some ⟨go92, 0, none⟩) x9_2.length co74)) (v1 := (.slice (some ⟨go92, 0, none⟩) x9_2.length co74)) (ok := (fun _ => True)) (by (with_reducible repeat (first | apply Kd.R_alloc | apply Kd.R_drewN | apply Kd.R_drew)); exact Kd.R_mono HO_165000.out (fun _ hk => ⟨trivial, hk⟩)) hg (.inl rfl)); replace BK155 := Aside0.mk (blk_grown (g := gb155) (o := .cells #[.slice A0_0 l0_0.length c0_0] 55 (0, 0)) (zb BK155) hg (Kd.R_ne HO_9.out BK155.out (by decide))); replace BK156 := Aside0.mk (blk_grown (g := gb156) (o := .cells #[.int .i64 a1_0, .int .i64 a1_1] 40 (0, 0)) (zb BK156) hg (Kd.R_ne HO_9.out BK156.out (by decide))); replace BK157 := Aside0.mk (blk_grown (g := gb157) (o := .cells #[.slice none 0 0] 55 (0, 0)) (zb BK157) hg (Kd.R_ne HO_9.out BK157.out (by decide))); replace BK164 := Aside0.mk (blk_grown (g := gb164) (o := .cells #[u165000] 55 (0, 0)) (zb BK164) hg (Kd.R_ne HO_9.out BK164.out (by decide))); replace HO_9 := Aside0.mk (hp_); replace HB := Aside0.mk ((by rw [hw]; exact below_set (HB.out) GB92.out : Below w.heap.size w w99)); clear hg hw hp_) | ((with_reducible refine gate_builtin (b := .append) (xs := #[.tmp 76, .tmp 78]) rfl ?_); at_builtin; refine Kd.R_append k104 (w0 := w) w.heap.size rfl (.tmp 76) (.tmp 78) 53 104 (.agg #[(.int .i64 0), (.int .i64 0), (.int .i64 0)]) 24 rfl Try.underlying53 info104 rfl (by decide) (by omega) (.slice (some ⟨go92, 0, none⟩) x9_2.length co74) y183 (⟨0, 0, 0⟩ : S104) [.int .i64 0, .int .i64 0, .int .i64 0] (fun k_ => some k_ ≠ (u165000 : Value).ownBlock) (fun _ => False) rfl rfl ?aP (fun _ hk => hk.elim) ?aF ?aO ?aB ?aS ?aL ?_; (case aP => exact k104_mkM _ _ _ (⟨0, 0, 0⟩ : S104)); (case aB => exact (zh4 HB GE155 GE156 GE157 GE164)); (case aF => exact (fun k_ hk => Kd.fresh' (Kd.R_lt (zr HO_165000)) k_ hk)); (case aO => exact (zr HO_9)); (case aS => exact (below_size (zh4 HB GE155 GE156 GE157 GE164))); (case aL => have := LMc93.out; omega); intro v185 w100 ho hb hg hat; rw [← Ny184.out] at ho; replace HO_165000 := Aside0.mk (Kd.R_after (ok := (fun _ => True)) (zr HO_165000) hg hat); replace BK155 := Aside0.mk (blk_grown (g := gb155) (o := .cells #[.slice A0_0 l0_0.length c0_0] 55 (0, 0)) (zb BK155) hg (Kd.R_ne HO_9.out BK155.out (by decide))); replace BK156 := Aside0.mk (blk_grown (g := gb156) (o := .cells #[.int .i64 a1_0, .int .i64 a1_1] 40 (0, 0)) (zb BK156) hg (Kd.R_ne HO_9.out BK156.out (by decide))); replace BK157 := Aside0.mk (blk_grown (g := gb157) (o := .cells #[.slice none 0 0] 55 (0, 0)) (zb BK157) hg (Kd.R_ne HO_9.out BK157.out (by decide))); replace BK164 := Aside0.mk (blk_grown (g := gb164) (o := .cells #[u165000] 55 (0, 0)) (zb BK164) hg (Kd.R_ne HO_9.out BK164.out (by decide))); replace HB := Aside0.mk (hb); have HO186 := Aside0.mk (ho); clear HO_9; clear ho hb hg hat))
                                    go_roundg kj68
                                    case measure => have := HJ4.out; have := HK2.out; have := HJ68.out; omega
                                    case rel => exact ⟨(y184), ((x9_2.length : Int)), (wrap64 (x11_2 + 1)), (x165000_2), (u165000), (by first | rfl | (simp; done) | (simp [*]; done)), (by first | rfl | (simp; done) | (simp [*]; done)), H', ⟨by have := HJ4.out; have := HK2.out; have := HJ68.out; omega⟩, ⟨by (with_reducible repeat (first | apply Kd.R_alloc | apply Kd.R_drewN | apply Kd.R_drew)); exact HO186.out⟩, ⟨by (with_reducible repeat (first | apply Kd.R_alloc | apply Kd.R_drewN | apply Kd.R_drew)); exact Kd.R_mono HO_165000.out (fun _ hk => hk.2)⟩, ⟨by (with_reducible repeat (first | refine blk_drewN ?_ _ | refine blk_drew ?_ | refine blk_alloc ?_ _)); exact BK155.out⟩, ⟨by (with_reducible repeat (first | refine blk_drewN ?_ _ | refine blk_drew ?_ | refine blk_alloc ?_ _)); exact BK156.out⟩, ⟨by (with_reducible repeat (first | refine blk_drewN ?_ _ | refine blk_drew ?_ | refine blk_alloc ?_ _)); exact BK157.out⟩, ⟨by (with_reducible repeat (first | refine blk_drewN ?_ _ | refine blk_drew ?_ | refine blk_alloc ?_ _)); exact BK164.out⟩, ⟨zh4 HB GE155 GE156 GE157 GE164⟩⟩
                                  · rw [if_neg c93] at H
                                    exact absurd H (by simp)
                                · rw [if_neg c91] at H
                                  exact absurd H (by simp)
                              · rw [if_neg c90] at H
                                exact absurd H (by simp)
                          · rw [if_neg c76] at H
                            have c76b0 : (x12_68 == 0) = false := beq_eq_false_iff_ne.mpr c76
                            have c76b1 : (x12_68 != 0) = true := bne_iff_ne.mpr c76
                            have H' := Aside0.mk H
                            clear H
                            go_wp2
                            go_roundg kj68
                            case measure => have := HJ4.out; have := HK2.out; have := HJ68.out; omega
                            case rel => exact ⟨(x9_2), (x12_68), (wrap64 (x11_2 + 1)), (x165000_2), (u165000), (by first | rfl | (simp; done) | (simp [*]; done)), (by first | rfl | (simp; done) | (simp [*]; done)), H', ⟨by have := HJ4.out; have := HK2.out; have := HJ68.out; omega⟩, ⟨by (with_reducible repeat (first | apply Kd.R_alloc | apply Kd.R_drewN | apply Kd.R_drew)); exact HO_9.out⟩, ⟨by (with_reducible repeat (first | apply Kd.R_alloc | apply Kd.R_drewN | apply Kd.R_drew)); exact HO_165000.out⟩, ⟨by (with_reducible repeat (first | refine blk_drewN ?_ _ | refine blk_drew ?_ | refine blk_alloc ?_ _)); exact BK155.out⟩, ⟨by (with_reducible repeat (first | refine blk_drewN ?_ _ | refine blk_drew ?_ | refine blk_alloc ?_ _)); exact BK156.out⟩, ⟨by (with_reducible repeat (first | refine blk_drewN ?_ _ | refine blk_drew ?_ | refine blk_alloc ?_ _)); exact BK157.out⟩, ⟨by (with_reducible repeat (first | refine blk_drewN ?_ _ | refine blk_drew ?_ | refine blk_alloc ?_ _)); exact BK164.out⟩, ⟨zh4 HB GE155 GE156 GE157 GE164⟩⟩
                    · rw [if_neg c67] at H
                      exact absurd H (by simp)
                  · rw [if_neg c66] at H
                    exact absurd H (by simp)
                · rw [if_neg c65] at H
                  have c65b0 : decide (x11_2 < a1_1) = false := decide_eq_false c65
                  clear c65
                  by_cases c101 : (x9_2.length : Int) > 400
                  · rw [if_pos c101] at H
                    have c101b0 : decide (400 < (x9_2.length : Int)) = true := decide_eq_true c101
                    have c101b1 : decide (400 < x9_2.length) = true := decide_eq_true (by omega)
                    clear c101
                    simp only [Option.some.injEq, Prod.mk.injEq] at H
                    obtain ⟨rfl, rfl⟩ := H
                    have hnb102 := NB156_155.out
                    have hnc102 := NB155_156.out
                    have hnb103 := NB156_157.out
                    have hnc103 := NB157_156.out
                    have hnb104 := NB156_164.out
                    have hnc104 := NB164_156.out
                    have hcz105_0 : wr.cell? ⟨gb156, 0, none⟩ = some (.int .i64 a1_0) := (blk_cell BK156.out 0).trans rfl
                    have hcz105_1 : wr.cell? ⟨gb156, 1, none⟩ = some (.int .i64 a1_1) := (blk_cell BK156.out 1).trans rfl
                    have hfz105_0 := blk_frozen BK156.out 0
                    have hfz105_1 := blk_frozen BK156.out 1
                    obtain ⟨Ao106, co106, eo106⟩ := Kd.R_slice HO_9.out
                    subst eo106
                    have hnb107 := NB164_155.out
                    have hnc107 := NB155_164.out
                    have hnb108 := NB164_157.out
                    have hnc108 := NB157_164.out
                    have hcz109_0 : wr.cell? ⟨gb164, 0, none⟩ = some (u165000) := (blk_cell BK164.out 0).trans rfl
                    have hfz109_0 := blk_frozen BK164.out 0
                    obtain ⟨Ao110, co110, eo110⟩ := Kd.R_slice HO_165000.out
                    subst eo110
                    have hnb111 := NB157_155.out
                    have hnc111 := NB155_157.out
                    have hcz112_0 : wr.cell? ⟨gb157, 0, none⟩ = some (.slice none 0 0) := (blk_cell BK157.out 0).trans rfl
                    have hfz112_0 := blk_frozen BK157.out 0
                    go_wp2
                    refine bodyPost_ret (results_ct rfl _ _ gb157 55 #[.slice Ao110 x165000_2.length co110] (0, 0) _ rfl (by (with_reducible repeat (first | refine blk_drewN ?_ _ | refine blk_drew ?_ | refine blk_alloc ?_ _)); refine blk_put (cs := #[.slice none 0 0]) ?_ 0 _ rfl; (with_reducible repeat (first | refine blk_drewN ?_ _ | refine blk_drew ?_ | refine blk_alloc ?_ _)); exact BK157.out) Try.underlying55 rfl (by kernel_rfl)) rfl ?_
                    exact ⟨_, by first | rfl | (simp [errW_none, errW_some] <;> rfl) | (simp [*, errW_none, errW_some] <;> rfl), by (with_reducible repeat (first | apply Kd.R_alloc | apply Kd.R_drewN | apply Kd.R_drew)); exact Kd.R_mono (Kd.R_far (p := ⟨gb157, 0, none⟩) (Kd.R_types HO_165000.out BK157.out (by decide)) (fun _ hk => hk.2) (.slice Ao110 x165000_2.length co110)) (fun _ hk => trivial), zh4 HB GE155 GE156 GE157 GE164⟩
                  · rw [if_neg c101] at H
                    have c101b0 : decide (400 < (x9_2.length : Int)) = false := decide_eq_false c101
                    have c101b1 : decide (400 < x9_2.length) = false := decide_eq_false (by omega)
                    clear c101
                    by_cases c113 : 0 ≤ x10_2
                    · rw [if_pos c113] at H
                      have c113b0 : decide (0 ≤ x10_2) = true := decide_eq_true c113
                      clear c113
                      by_cases c114 : x10_2 < (x9_2.length : Int)
                      · rw [if_pos c114] at H
                        have c114b0 : decide (x10_2 < (x9_2.length : Int)) = true := decide_eq_true c114
                        clear c114
                        obtain ⟨y174, hy174⟩ : ∃ y_ : List (S104), y_ = (x9_2.set (x10_2 : Int).toNat (⟨(rd_T104 x9_2 x10_2).f0, (rd_T104 x9_2 x10_2).f1, a2⟩ : S104)) := ⟨_, rfl⟩
                        replace H : (some (y174, true)) = some (r1, r2) := by first | (rw [hy174]; with_reducible exact H) | (have H2_ := (Option.bind_some _ _).symm.trans H; rw [hy174]; with_reducible exact H2_) | (have H2_ := (Option.bind_some _ _).symm.trans H; with_reducible exact H2_) | with_reducible exact H | (rw [hy174]; exact H) | exact H
                        have Ny174 := Aside0.mk hy174
                        clear hy174
                        simp only [Option.some.injEq, Prod.mk.injEq] at H
                        obtain ⟨rfl, rfl⟩ := H
                        have hnb116 := NB156_155.out
                        have hnc116 := NB155_156.out
                        have hnb117 := NB156_157.out
                        have hnc117 := NB157_156.out
                        have hnb118 := NB156_164.out
                        have hnc118 := NB164_156.out
                        have hcz119_0 : wr.cell? ⟨gb156, 0, none⟩ = some (.int .i64 a1_0) := (blk_cell BK156.out 0).trans rfl
                        have hcz119_1 : wr.cell? ⟨gb156, 1, none⟩ = some (.int .i64 a1_1) := (blk_cell BK156.out 1).trans rfl
                        have hfz119_0 := blk_frozen BK156.out 0
                        have hfz119_1 := blk_frozen BK156.out 1
                        obtain ⟨Ao120, co120, eo120⟩ := Kd.R_slice HO_9.out
                        subst eo120
                        have p115 : 0 ≤ (x10_2 : Int) := of_decide_eq_true (by first | (with_reducible assumption) | assumption)
                        have q115 : (x10_2 : Int) < ((x9_2.length : Int) : Int) := of_decide_eq_true (by first | (with_reducible assumption) | assumption)
                        obtain ⟨go115, co115, eo115, gb115, gl115, cl115, HG115⟩ := Kd.R_form HO_9.out (by omega)
                        (first | cases eo115 | (injection eo115 with ea_ en_ ec_; (first | subst ea_ | (injection ea_ with ea_; subst ea_)); subst ec_; clear en_))
                        have GB115 := Aside0.mk gb115
                        have GG115 := Aside0.mk HG115
                        clear gb115 gl115 HG115
                        obtain ⟨ce115, hcl115, hM115, hcc115, hfr115⟩ := Kd.R_elem HO_9.out z104 (x10_2 : Int) p115 q115
                        obtain rfl := k104_openM hM115
                        have hx115_0 : wr.cell? ⟨go115, (x10_2 : Int).toNat * 3, none⟩ = some (.int .i64 ((rd_T104 x9_2 x10_2).f0)) := hcc115 0 _ rfl
                        have hx115_1 : wr.cell? ⟨go115, (x10_2 : Int).toNat * 3 + 1, none⟩ = some (.int .i64 ((rd_T104 x9_2 x10_2).f1)) := hcc115 1 _ rfl
                        have hx115_2 : wr.cell? ⟨go115, (x10_2 : Int).toNat * 3 + 2, none⟩ = some (.int .i64 ((rd_T104 x9_2 x10_2).f2)) := hcc115 2 _ rfl
                        have hf115_0 : wr.frozen? ⟨go115, (x10_2 : Int).toNat * 3, none⟩ = false := hfr115 0
                        have hf115_1 : wr.frozen? ⟨go115, (x10_2 : Int).toNat * 3 + 1, none⟩ = false := hfr115 1
                        have hf115_2 : wr.frozen? ⟨go115, (x10_2 : Int).toNat * 3 + 2, none⟩ = false := hfr115 2
                        clear hcl115 hcc115 hfr115 hM115
                        replace p115 := eq_true p115
                        replace q115 := eq_true q115
                        have HX121 := Aside0.mk (show Kd.R k104 104 wr w.heap.size (fun k_ => some k_ ≠ (u165000 : Value).ownBlock) (.slice (some ⟨go115, 0, none⟩) x9_2.length co120) x9_2 from (zr HO_9))
                        obtain ⟨ce121, hcl121, hM121, hcc121, hfr121⟩ := Kd.R_elem HX121.out z104 (x10_2 : Int) (of_decide_eq_true (by first | (with_reducible assumption) | assumption)) (by have h_ : (x10_2 : Int) < ((x9_2.length : Int) : Int) := of_decide_eq_true (by first | (with_reducible assumption) | assumption); first | exact h_ | (have e_ := (Kd.R_reads' HO_9.out).1; omega) | simpa using h_)
                        obtain rfl := k104_openM hM121
                        have HP121 := Kd.R_seg HX121.out (x10_2 : Int) (of_decide_eq_true (by first | (with_reducible assumption) | assumption)) (by have h_ : (x10_2 : Int) < ((x9_2.length : Int) : Int) := of_decide_eq_true (by first | (with_reducible assumption) | assumption); first | exact h_ | (have e_ := (Kd.R_reads' HO_9.out).1; omega) | simpa using h_) (seg := [.int .i64 a2]) (j := 2) hcl121 hcc121 (show 3 ≤ 3 from by decide) (x' := (⟨(rd_T104 x9_2 x10_2).f0, (rd_T104 x9_2 x10_2).f1, a2⟩ : S104)) (k104_mkM _ _ _ (⟨(rd_T104 x9_2 x10_2).f0, (rd_T104 x9_2 x10_2).f1, a2⟩ : S104) ) (fun _ hk => hk)
                        have hx121_2 := hcc121 2 _ rfl
                        (try simp only [show (k104).sz = 3 from rfl, Nat.mul_one, Nat.add_zero] at hx121_2)
                        have hf121_2 := hfr121 2
                        (try simp only [show (k104).sz = 3 from rfl, Nat.mul_one, Nat.add_zero] at hf121_2)
                        clear hcl121 hcc121 hfr121 hM121
                        go_wp2_with (first | ((with_reducible refine gate_store (t := 3) (p := 89) rfl ?_); refine store_event (t := 3) (p := 89) (v := ?vo_w122) (w1 := (wr.setCell ⟨go115, (x10_2 : Int).toNat * 3 + 2, none⟩ (.int .i64 a2))) ?hg ?ho ?hn ?hr ?_; (case ho => rfl); (case hg => rfl); (case hn => rfl); (case hr => first | (go_simp; done) | (go_simp; rfl)); intro w122 hw; have hg : wr.grownBy w122 (some go115) := (by rw [hw]; exact HP121.2); have hp_ : Kd.R k104 104 w122 w.heap.size (fun k_ => some k_ ≠ (u165000 : Value).ownBlock) (.slice (some ⟨go115, 0, none⟩) x9_2.length co120) y174 := (by rw [hw, Ny174.out]; exact HP121.1); clear HP121; replace HO_165000 := Aside0.mk (Kd.R_after (v := (.slice (some ⟨go115, 0, none⟩) x9_2.length co120)) (v1 := (.slice (some ⟨go115, 0, none⟩) x9_2.length co120)) (ok := (fun _ => True)) (by (with_reducible repeat (first | apply Kd.R_alloc | apply Kd.R_drewN | apply Kd.R_drew)); exact Kd.R_mono HO_165000.out (fun _ hk => ⟨trivial, hk⟩)) hg (.inl rfl)); replace BK155 := Aside0.mk (blk_grown (g := gb155) (o := .cells #[.slice A0_0 l0_0.length c0_0] 55 (0, 0)) (zb BK155) hg (Kd.R_ne HO_9.out BK155.out (by decide))); replace BK156 := Aside0.mk (blk_grown (g := gb156) (o := .cells #[.int .i64 a1_0, .int .i64 a1_1] 40 (0, 0)) (zb BK156) hg (Kd.R_ne HO_9.out BK156.out (by decide))); replace BK157 := Aside0.mk (blk_grown (g := gb157) (o := .cells #[.slice none 0 0] 55 (0, 0)) (zb BK157) hg (Kd.R_ne HO_9.out BK157.out (by decide))); replace BK164 := Aside0.mk (blk_grown (g := gb164) (o := .cells #[u165000] 55 (0, 0)) (zb BK164) hg (Kd.R_ne HO_9.out BK164.out (by decide))); replace HO_9 := Aside0.mk (hp_); replace HB := Aside0.mk ((by rw [hw]; exact below_set (HB.out) GB115.out : Below w.heap.size w w122)); clear hg hw hp_; have hnb123 := NB157_155.out; have hnc123 := NB155_157.out; have hnb124 := NB157_164.out; have hnc124 := NB164_157.out; have hcz125_0 : w122.cell? ⟨gb157, 0, none⟩ = some (.slice none 0 0) := (blk_cell BK157.out 0).trans rfl; have hfz125_0 := blk_frozen BK157.out 0))
                        refine bodyPost_ret (results_ct rfl _ _ gb157 55 #[.slice (some ⟨go115, 0, none⟩) x9_2.length co120] (0, 0) _ rfl (by (with_reducible repeat (first | refine blk_drewN ?_ _ | refine blk_drew ?_ | refine blk_alloc ?_ _)); refine blk_put (cs := #[.slice none 0 0]) ?_ 0 _ rfl; (with_reducible repeat (first | refine blk_drewN ?_ _ | refine blk_drew ?_ | refine blk_alloc ?_ _)); exact BK157.out) Try.underlying55 rfl (by kernel_rfl)) rfl ?_
                        exact ⟨_, by first | rfl | (simp [errW_none, errW_some] <;> rfl) | (simp [*, errW_none, errW_some] <;> rfl), by (with_reducible repeat (first | apply Kd.R_alloc | apply Kd.R_drewN | apply Kd.R_drew)); exact Kd.R_mono (Kd.R_far (p := ⟨gb157, 0, none⟩) (Kd.R_types HO_9.out BK157.out (by decide)) (fun _ hk => hk.2) (.slice (some ⟨go115, 0, none⟩) x9_2.length co120)) (fun _ hk => trivial), zh4 HB GE155 GE156 GE157 GE164⟩
                      · rw [if_neg c114] at H
                        exact absurd H (by simp)
                    · rw [if_neg c113] at H
                      exact absurd H (by simp)
          · rw [if_neg c57] at H
            exact absurd H (by simp)
  · rw [if_neg c4] at H
    exact absurd H (by simp)

/-! ### impl_within: function 89 -/
def impl_within.f (a0 : Int) (a1 : Int) (a2 : Int) : Option (Bool) := if a0 ≥ a1 then (some (decide (a0 ≤ a2))) else (some false)
set_option maxHeartbeats 8000000 in
set_option maxRecDepth 100000 in
theorem impl_within.calls (a0 : Int) (a1 : Int) (a2 : Int) (r : Bool) (w : World) (h : impl_within.f a0 a1 a2 = some r) :
    Calls Try.prog 89 #[.int .i64 a0, .int .i64 a1, .int .i64 a2] w fun e w' => e = .returned (.bool r) ∧ Drawn0 w w' := by
  have H : (if a0 ≥ a1 then (some (decide (a0 ≤ a2))) else (some false)) = some r := h
  clear h
  by_cases c4 : a0 ≥ a1
  · rw [if_pos c4] at H
    have c4b0 : decide (a1 ≤ a0) = true := decide_eq_true c4
    clear c4
    obtain rfl := Option.some.inj H
    go_enter Try.func89, Try.ntmps89
    go_wp2
    go_ret
    exact ⟨by first | rfl | (simp; done) | (simp [*]; done), by repeat (first | exact Drawn0.refl _ | apply Drawn0.step)⟩
  · rw [if_neg c4] at H
    have c4b0 : decide (a1 ≤ a0) = false := decide_eq_false c4
    clear c4
    obtain rfl := Option.some.inj H
    go_enter Try.func89, Try.ntmps89
    go_wp2
    go_ret
    exact ⟨by first | rfl | (simp; done) | (simp [*]; done), by repeat (first | exact Drawn0.refl _ | apply Drawn0.step)⟩

end Go.Proofs.Ytbddppnhpapfkaa.PFnExactTriePut
