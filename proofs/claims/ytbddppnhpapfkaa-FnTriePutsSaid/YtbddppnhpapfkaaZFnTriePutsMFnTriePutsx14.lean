/- Machine proofs of Go functions, part x14: began as a text that the kit's print wrote, turned by hand. -/
import Derived.Test.YtbddppnhpapfkaaZFnTriePutsMFnTriePutsx0
import Derived.Test.YtbddppnhpapfkaaZFnTriePutsMFnTriePutsx2
import Derived.Test.YtbddppnhpapfkaaZFnTriePutsMFnTriePutsx3
import Derived.Test.YtbddppnhpapfkaaZFnTriePutsMFnTriePutsx4
import Derived.Test.YtbddppnhpapfkaaZFnTriePutsMFnTriePutsx8
import Derived.Test.YtbddppnhpapfkaaZFnTriePutsMFnTriePutsx9
import Derived.Test.YtbddppnhpapfkaaZFnTriePutsMFnTriePutsx10
import Derived.Test.YtbddppnhpapfkaaZFnTriePutsMFnTriePutsx13
namespace Go.Proofs.Ytbddppnhpapfkaa.PFnTriePuts
open Go.RowKit Go.Proofs.YtbddppnhpapfkaaW.PrintWords Go.Proofs.YtbddppnhpapfkaaW.PrintLast Go.Proofs.YtbddppnhpapfkaaW.PrintMore
attribute [local go_sem] max2_int min2_int max_two min_two max_three min_three max_four min_four   -- for this text's walks alone
set_option linter.unusedVariables false
set_option linter.unusedSimpArgs false

/-! ### laws_FnTriePuts: function 13 -/
def laws_FnTriePuts.l0 : Nat → List Int → Bool → Int → Int → Int → List (S104) → List (S104) → Option (Bool)
  | 0, _, _, _, _, _, _, _ => none
  | k + 1, x5, x9, x10, x377000, x377001, x381000, x386000 => if x10 < (x5.length : Int) then (if 0 ≤ x10 then ((impl_TrieFind.f k x381000 (rd x5 x10)).bind fun t393 => ((impl_TrieFind.f k x386000 (rd x5 x10)).bind fun t395 => ((spec_InPrefix.f k x377000 x377001 (rd x5 x10)).bind fun t397 => (if t397 = true then ((spec_TrieFind.f k x386000 (rd x5 x10)).bind fun t399 => (if t395 = t399 then (laws_FnTriePuts.l0 k x5 x9 (wrap64 (x10 + 1)) x377000 x377001 x381000 x386000) else (some false))) else (if t393 = t395 then ((spec_TrieFind.f k x386000 (rd x5 x10)).bind fun t401 => (if t395 = t401 then (laws_FnTriePuts.l0 k x5 x9 (wrap64 (x10 + 1)) x377000 x377001 x381000 x386000) else (some false))) else (some false)))))) else (none)) else ((impl_TriePut.f k x381000 1 8 3).bind fun bt402 => (if x9 = true then (if bt402.2 = true then (some false) else ((impl_TrieOk.f k x386000).bind fun t407 => (if t407 = true then ((impl_TrieFind.f k x386000 x377000).bind fun t408 => (if t408 = 9 then (some true) else ((impl_TrieFind.f k x381000 x377000).bind fun t409 => ((impl_TrieFind.f k x386000 x377000).bind fun t410 => (some (t409 == t410)))))) else (some false)))) else (some false)))
def laws_FnTriePuts.f (k : Nat) (l0 : List Int) : Option (Bool) := (laws_big.f l0).bind fun t366 => (if t366 = true then (some true) else ((spec_DrawRoutes.f k l0).bind fun bt367 => ((spec_DrawAddrs.f k l0).bind fun bt371 => ((impl_TrieOf.f k bt367.1).bind fun t377 => ((impl_TriePut.f k t377 bt371.2.1 bt371.2.2 9).bind fun bt381 => ((some (([bt367.2, bt371.2.1] : List Int) : List Int)).bind fun y386 => (if bt371.1.length + y386.length < 17592186044416 then (laws_FnTriePuts.l0 k (bt371.1 ++ y386) bt381.2 0 bt371.2.1 bt371.2.2 t377 bt381.1) else (none))))))))
theorem laws_FnTriePuts.mono_l : ∀ k, (∀ y0 y1 y2 y3 y4 y5 y6, LeO (laws_FnTriePuts.l0 k y0 y1 y2 y3 y4 y5 y6) (laws_FnTriePuts.l0 (k + 1) y0 y1 y2 y3 y4 y5 y6))
  | 0 => fun _ _ _ _ _ _ _ r h => by simp [laws_FnTriePuts.l0] at h
  | k + 1 => by
    have ih0 := laws_FnTriePuts.mono_l k
    · intro y0 y1 y2 y3 y4 y5 y6
      unfold laws_FnTriePuts.l0
      repeat' first
      | (with_reducible exact ih0 _ _ _ _ _ _ _)
      | (with_reducible exact impl_TrieFind.mono _ _ _)
      | (with_reducible exact impl_TrieOf.mono _ _)
      | (with_reducible exact impl_TrieOk.mono _ _)
      | (with_reducible exact impl_TriePut.mono _ _ _ _ _)
      | (with_reducible exact spec_DrawAddrs.mono _ _)
      | (with_reducible exact spec_DrawRoutes.mono _ _)
      | (with_reducible exact spec_InPrefix.mono _ _ _ _)
      | (with_reducible exact spec_TrieFind.mono _ _ _)
      | (with_reducible exact LeO.refl _)
      | (with_reducible exact LeO.none _)
      | (with_reducible refine LeO.ite ?_ ?_)
      | (with_reducible refine LeO.bind ?_ (fun _ => ?_))
      | exact ih0 _ _ _ _ _ _ _
      | exact impl_TrieFind.mono _ _ _
      | exact impl_TrieOf.mono _ _
      | exact impl_TrieOk.mono _ _
      | exact impl_TriePut.mono _ _ _ _ _
      | exact spec_DrawAddrs.mono _ _
      | exact spec_DrawRoutes.mono _ _
      | exact spec_InPrefix.mono _ _ _ _
      | exact spec_TrieFind.mono _ _ _
      | exact LeO.none _
      | refine LeO.ite ?_ ?_
      | refine LeO.bind ?_ (fun _ => ?_)
theorem laws_FnTriePuts.mono : ∀ a0 k, LeO (laws_FnTriePuts.f k a0) (laws_FnTriePuts.f (k + 1) a0) := by
  intro a0 k
  have ih0 := laws_FnTriePuts.mono_l k
  unfold laws_FnTriePuts.f
  repeat' first
      | (with_reducible exact ih0 _ _ _ _ _ _ _)
      | (with_reducible exact impl_TrieFind.mono _ _ _)
      | (with_reducible exact impl_TrieOf.mono _ _)
      | (with_reducible exact impl_TrieOk.mono _ _)
      | (with_reducible exact impl_TriePut.mono _ _ _ _ _)
      | (with_reducible exact spec_DrawAddrs.mono _ _)
      | (with_reducible exact spec_DrawRoutes.mono _ _)
      | (with_reducible exact spec_InPrefix.mono _ _ _ _)
      | (with_reducible exact spec_TrieFind.mono _ _ _)
      | (with_reducible exact LeO.refl _)
      | (with_reducible exact LeO.none _)
      | (with_reducible refine LeO.ite ?_ ?_)
      | (with_reducible refine LeO.bind ?_ (fun _ => ?_))
      | exact ih0 _ _ _ _ _ _ _
      | exact impl_TrieFind.mono _ _ _
      | exact impl_TrieOf.mono _ _
      | exact impl_TrieOk.mono _ _
      | exact impl_TriePut.mono _ _ _ _ _
      | exact spec_DrawAddrs.mono _ _
      | exact spec_DrawRoutes.mono _ _
      | exact spec_InPrefix.mono _ _ _ _
      | exact spec_TrieFind.mono _ _ _
      | exact LeO.none _
      | refine LeO.ite ?_ ?_
      | refine LeO.bind ?_ (fun _ => ?_)
def laws_FnTriePuts.T13 : Bool × List (List Nat × List Nat) := (true, [([], []), ([], []), ([], []), ([1, 2], [1, 2]), ([3], [3]), ([0, 4], [0, 4]), ([5], [5]), ([6, 5], [6]), ([7], [7]), ([7], [7]), ([8, 9, 7], [7, 8, 9]), ([7, 10], [7, 10]), ([11, 7], [11]), ([12], [12]), ([12], [12]), ([12], [12]), ([12], [12]), ([15, 16, 12], [12, 15, 16]), ([17, 12], [12, 17]), ([14, 18, 12, 12], [12, 14, 18]), ([13, 19, 12], [12, 13, 19]), ([12, 20], [12, 20])])
def laws_FnTriePuts.B13 : List Nat := [0, 0, 0, 6, 14, 31, 63, 127, 255, 255, 1023, 2047, 4095, 8191, 8191, 8191, 8191, 106495, 237567, 516095, 1048575, 2097151]
theorem laws_FnTriePuts.tab13 : rtab .any (opsOf Try.f13 13) = laws_FnTriePuts.T13 := by kernel_rfl
theorem laws_FnTriePuts.bits13 : waitsOk laws_FnTriePuts.T13.2 laws_FnTriePuts.B13 = true := by kernel_rfl
def laws_FnTriePuts.T16 : Bool × List (List Nat × List Nat) := (true, [([], []), ([0], [0]), ([1], [1]), ([2, 1], [1, 2]), ([1, 3], [1, 3]), ([4, 1], [4]), ([5], [5]), ([6, 5, 5], [5, 6]), ([5, 7], [5, 7]), ([8, 7], [8]), ([9], [9]), ([9], [9]), ([11, 9], [9, 11]), ([10, 12, 9, 9], [9, 10, 12]), ([13, 9], [9, 13]), ([14, 13, 9], [9, 14]), ([15], [15]), ([15], [15]), ([17, 15], [15, 17]), ([16, 18, 15, 15], [15, 16, 18]), ([15], [15]), ([15], [15]), ([21, 15], [15, 21]), ([20, 22, 19, 15], [15, 20, 22]), ([19, 23, 15], [15, 19, 23]), ([15, 24, 9], [9, 15, 24]), ([9, 25], [9, 25]), ([26, 23, 0, 1, 2, 3, 4, 5, 6, 7, 8, 9, 10, 11, 12, 13, 14, 15, 16, 17, 18, 19, 20, 21, 22, 23, 24, 25, 26], [26])])
def laws_FnTriePuts.B16 : List Nat := [0, 1, 3, 7, 15, 31, 63, 127, 255, 511, 1023, 1023, 3071, 8191, 16383, 32767, 65535, 65535, 196607, 524287, 65535, 65535, 2162687, 8388607, 16777215, 33554431, 67108863, 134217727]
theorem laws_FnTriePuts.tab16 : rtab .any (opsOf Try.f13 16) = laws_FnTriePuts.T16 := by kernel_rfl
theorem laws_FnTriePuts.bits16 : waitsOk laws_FnTriePuts.T16.2 laws_FnTriePuts.B16 = true := by kernel_rfl
set_option maxHeartbeats 8000000 in
set_option maxRecDepth 100000 in
theorem laws_FnTriePuts.calls (k : Nat) (A0 : Option Addr) (c0 : Nat) (l0 : List Int) (r : Bool) (w : World) (hr0 : Kd.C (Kd.int .u8) w A0 l0.length l0) (hc0 : l0.length ≤ c0) (h : laws_FnTriePuts.f k l0 = some r) :
    Calls Try.prog 13 #[.slice A0 l0.length c0] w fun e w' => e = .returned (.bool r) ∧ Below w.heap.size w w' := by
  have hu40 := Try.underlying40
  have hu55 := Try.underlying55
  have HR0 := Aside0.mk hr0
  have HC0 := Aside0.mk hc0
  clear hr0 hc0
  have HB := Aside0.mk (Below.refl w.heap.size w)
  have H : ((laws_big.f l0).bind fun t366 => (if t366 = true then (some true) else ((spec_DrawRoutes.f k l0).bind fun bt367 => ((spec_DrawAddrs.f k l0).bind fun bt371 => ((impl_TrieOf.f k bt367.1).bind fun t377 => ((impl_TriePut.f k t377 bt371.2.1 bt371.2.2 9).bind fun bt381 => ((some (([bt367.2, bt371.2.1] : List Int) : List Int)).bind fun y386 => (if bt371.1.length + y386.length < 17592186044416 then (laws_FnTriePuts.l0 k (bt371.1 ++ y386) bt381.2 0 bt371.2.1 bt371.2.2 t377 bt381.1) else (none))))))))) = some r := h
  clear h
  replace H := Option.bind_eq_some_iff.mp H
  obtain ⟨t366, A20, H⟩ := H
  replace H : (if t366 = true then (some true) else ((spec_DrawRoutes.f k l0).bind fun bt367 => ((spec_DrawAddrs.f k l0).bind fun bt371 => ((impl_TrieOf.f k bt367.1).bind fun t377 => ((impl_TriePut.f k t377 bt371.2.1 bt371.2.2 9).bind fun bt381 => ((some (([bt367.2, bt371.2.1] : List Int) : List Int)).bind fun y386 => (if bt371.1.length + y386.length < 17592186044416 then (laws_FnTriePuts.l0 k (bt371.1 ++ y386) bt381.2 0 bt371.2.1 bt371.2.2 t377 bt381.1) else (none)))))))) = some r := H
  have A2 := Aside0.mk A20
  clear A20
  by_cases c3 : t366 = true
  · subst c3
    have H1 : (some true) = some r := by rw [if_pos rfl] at H; exact H
    clear H
    have H := H1
    clear H1
    obtain rfl := Option.some.inj H
    go_enter Try.func13, Try.ntmps13
    go_wp2_with (first | ((with_reducible refine gate_callee (f := 36) rfl ?_); refine goesL_ (some 16) rfl rfl Try.func36 (by kernel_rfl) rfl #[.slice A0 l0.length c0] rfl (by (try simp only [List.map_toArray, List.map_cons, List.map_nil]); first | done | rfl | (simp only [List.length_drop, List.length_take]; rfl)) ?_; (with_reducible refine (laws_big.calls _ _ l0 true _ ?side1 ?side2 A2.out).mono ?_); (case side1 => repeat (first | exact HR0.out | (with_reducible refine Kd.C_alloc ?_ _) | (with_reducible refine Kd.C_drewN ?_ _) | (with_reducible refine Kd.C_drew ?_))); (case side2 => exact HC0.out); rintro e w' ⟨rfl, ⟨nd, rfl⟩⟩; refine ⟨_, rfl, ?_⟩))
    go_ret
    exact ⟨by first | rfl | (simp [errW_none, errW_some] <;> rfl) | (simp [*, errW_none, errW_some] <;> rfl), zh HB⟩
  · replace c3 := Bool.eq_false_iff.mpr c3
    subst c3
    have H1 : ((spec_DrawRoutes.f k l0).bind fun bt367 => ((spec_DrawAddrs.f k l0).bind fun bt371 => ((impl_TrieOf.f k bt367.1).bind fun t377 => ((impl_TriePut.f k t377 bt371.2.1 bt371.2.2 9).bind fun bt381 => ((some (([bt367.2, bt371.2.1] : List Int) : List Int)).bind fun y386 => (if bt371.1.length + y386.length < 17592186044416 then (laws_FnTriePuts.l0 k (bt371.1 ++ y386) bt381.2 0 bt371.2.1 bt371.2.2 t377 bt381.1) else (none))))))) = some r := by rw [if_neg (show ¬ (false = true) by decide)] at H; exact H
    clear H
    have H := H1
    clear H1
    replace H := Option.bind_eq_some_iff.mp H
    obtain ⟨⟨t367, t368⟩, A40, H⟩ := H
    replace H : ((spec_DrawAddrs.f k l0).bind fun bt371 => ((impl_TrieOf.f k t367).bind fun t377 => ((impl_TriePut.f k t377 bt371.2.1 bt371.2.2 9).bind fun bt381 => ((some (([t368, bt371.2.1] : List Int) : List Int)).bind fun y386 => (if bt371.1.length + y386.length < 17592186044416 then (laws_FnTriePuts.l0 k (bt371.1 ++ y386) bt381.2 0 bt371.2.1 bt371.2.2 t377 bt381.1) else (none)))))) = some r := H
    have A4 := Aside0.mk A40
    clear A40
    replace H := Option.bind_eq_some_iff.mp H
    obtain ⟨⟨t371, t374, t375⟩, A50, H⟩ := H
    replace H : ((impl_TrieOf.f k t367).bind fun t377 => ((impl_TriePut.f k t377 t374 t375 9).bind fun bt381 => ((some (([t368, t374] : List Int) : List Int)).bind fun y386 => (if t371.length + y386.length < 17592186044416 then (laws_FnTriePuts.l0 k (t371 ++ y386) bt381.2 0 t374 t375 t377 bt381.1) else (none))))) = some r := H
    have A5 := Aside0.mk A50
    clear A50
    replace H := Option.bind_eq_some_iff.mp H
    obtain ⟨t377, A60, H⟩ := H
    replace H : ((impl_TriePut.f k t377 t374 t375 9).bind fun bt381 => ((some (([t368, t374] : List Int) : List Int)).bind fun y386 => (if t371.length + y386.length < 17592186044416 then (laws_FnTriePuts.l0 k (t371 ++ y386) bt381.2 0 t374 t375 t377 bt381.1) else (none)))) = some r := H
    have A6 := Aside0.mk A60
    clear A60
    replace H := Option.bind_eq_some_iff.mp H
    obtain ⟨⟨t381, t384⟩, A70, H⟩ := H
    replace H : ((some (([t368, t374] : List Int) : List Int)).bind fun y386 => (if t371.length + y386.length < 17592186044416 then (laws_FnTriePuts.l0 k (t371 ++ y386) t384 0 t374 t375 t377 t381) else (none))) = some r := H
    have A7 := Aside0.mk A70
    clear A70
    obtain ⟨y386, hy386⟩ : ∃ y_ : List Int, y_ = (([t368, t374] : List Int)) := ⟨_, rfl⟩
    replace H : (if t371.length + y386.length < 17592186044416 then (laws_FnTriePuts.l0 k (t371 ++ y386) t384 0 t374 t375 t377 t381) else (none)) = some r := by first | (rw [hy386]; with_reducible exact H) | (have H2_ := (Option.bind_some _ _).symm.trans H; rw [hy386]; with_reducible exact H2_) | (have H2_ := (Option.bind_some _ _).symm.trans H; with_reducible exact H2_) | with_reducible exact H | (rw [hy386]; exact H) | exact H
    have Ny386 := Aside0.mk hy386
    clear hy386
    by_cases c8 : t371.length + y386.length < 17592186044416
    · rw [if_pos c8] at H
      have LMc8 := Aside0.mk c8
      clear c8
      obtain ⟨y389, hy389⟩ : ∃ y_ : List Int, y_ = (t371 ++ y386) := ⟨_, rfl⟩
      replace H : (laws_FnTriePuts.l0 k y389 t384 0 t374 t375 t377 t381) = some r := by first | (rw [hy389]; with_reducible exact H) | (have H2_ := (Option.bind_some _ _).symm.trans H; rw [hy389]; with_reducible exact H2_) | (have H2_ := (Option.bind_some _ _).symm.trans H; with_reducible exact H2_) | with_reducible exact H | (rw [hy389]; exact H) | exact H
      have Ny389 := Aside0.mk hy389
      clear hy389
      have H' := Aside0.mk H
      clear H
      go_enter Try.func13, Try.ntmps13
      go_wp2_with (first | ((with_reducible refine gate_callee (f := 36) rfl ?_); refine goesL_ (some 16) rfl rfl Try.func36 (by kernel_rfl) rfl #[.slice A0 l0.length c0] rfl (by (try simp only [List.map_toArray, List.map_cons, List.map_nil]); first | done | rfl | (simp only [List.length_drop, List.length_take]; rfl)) ?_; (with_reducible refine (laws_big.calls _ _ l0 false _ ?side1 ?side2 A2.out).mono ?_); (case side1 => repeat (first | exact HR0.out | (with_reducible refine Kd.C_alloc ?_ _) | (with_reducible refine Kd.C_drewN ?_ _) | (with_reducible refine Kd.C_drew ?_))); (case side2 => exact HC0.out); rintro e w' ⟨rfl, ⟨nd, rfl⟩⟩; refine ⟨_, rfl, ?_⟩) | ((with_reducible refine gate_callee (f := 37) rfl ?_); refine goesL_ (some 19) rfl rfl Try.func37 (by kernel_rfl) rfl #[.slice A0 l0.length c0] rfl (by (try simp only [List.map_toArray, List.map_cons, List.map_nil]); first | done | rfl | (simp only [List.length_drop, List.length_take]; rfl)) ?_; (with_reducible refine (spec_DrawRoutes.calls k _ _ l0 t367 t368 _ ?side1 ?side2 A4.out).mono ?_); (case side1 => repeat (first | exact HR0.out | (with_reducible refine Kd.C_alloc ?_ _) | (with_reducible refine Kd.C_drewN ?_ _) | (with_reducible refine Kd.C_drew ?_))); (case side2 => exact HC0.out); rintro e w9 ⟨v369, rfl, ho0, hb⟩; refine ⟨_, rfl, ?_⟩; have HO370 := Aside0.mk (Kd.R_lower ho0 (below_size (zh HB))); replace HB := Aside0.mk (below_step (zh HB) hb); (try clear hb); (try clear hb2); (try clear hk); (try clear hi); (try clear ho0)) | ((with_reducible refine gate_callee (f := 50) rfl ?_); refine goesL_ (some 24) rfl rfl Try.func50 (by kernel_rfl) rfl #[.slice A0 l0.length c0] rfl (by (try simp only [List.map_toArray, List.map_cons, List.map_nil]); first | done | rfl | (simp only [List.length_drop, List.length_take]; rfl)) ?_; (with_reducible refine (spec_DrawAddrs.calls k _ _ l0 t371 t374 t375 _ ?side1 ?side2 A5.out).mono ?_); (case side1 => repeat (first | exact (Kd.C_below HR0.out HB.out) | (with_reducible refine Kd.C_alloc ?_ _) | (with_reducible refine Kd.C_drewN ?_ _) | (with_reducible refine Kd.C_drew ?_))); (case side2 => exact HC0.out); rintro e w10 ⟨v372, rfl, ho0, hb⟩; refine ⟨_, rfl, ?_⟩; replace HO370 := Aside0.mk (Kd.R_below (zr HO370) hb); have HO373 := Aside0.mk (Kd.R_lower ho0 (below_size (zh HB))); replace HB := Aside0.mk (below_step (zh HB) hb); (try clear hb); (try clear hb2); (try clear hk); (try clear hi); (try clear ho0)) | ((with_reducible refine gate_dst (N := 6) rfl ?_); refine box_event ?hg (N := 6) ?hd (cs := #[.int .i64 0, .int .i64 0]) (t := 40) ?hr ?_; (case hd => rfl); (case hg => rfl); (case hr => first | (go_simp; done) | (go_simp; rfl)); intro gb376 hg w11 hbox hb; replace HO370 := Aside0.mk (Kd.R_below (zr HO370) hb); replace HO373 := Aside0.mk (Kd.R_below (zr HO373) hb); have BK376 := Aside0.mk (hbox); have GW376 := Aside0.mk ((by rw [hg]; exact (below_size (zh HB)) : w.heap.size ≤ gb376)); have GE376 := Aside0.mk ((by rw [hg]; exact (below_size (zh HB)) : w.heap.size ≤ gb376)); replace HB := Aside0.mk (below_step (zh HB) hb); clear hb hbox hg; have hcz12_0 : w11.cell? ⟨gb376, 0, none⟩ = some (.int .i64 0) := (blk_cell BK376.out 0).trans rfl; have hcz12_1 : w11.cell? ⟨gb376, 1, none⟩ = some (.int .i64 0) := (blk_cell BK376.out 1).trans rfl; have hfz12_0 := blk_frozen BK376.out 0; have hfz12_1 := blk_frozen BK376.out 1; obtain ⟨Ao13, co13, eo13⟩ := Kd.R_slice HO370.out; subst eo13) | ((with_reducible refine gate_callee (f := 49) rfl ?_); refine goesL_ (some 28) rfl rfl Try.func49 (by kernel_rfl) rfl #[.slice Ao13 t367.length co13] rfl (by (try simp only [List.map_toArray, List.map_cons, List.map_nil]); first | done | rfl | (simp only [List.length_drop, List.length_take]; rfl)) ?_; (with_reducible refine (impl_TrieOf.calls k _ _ t367 t377 _ ?side1 ?side2 A6.out).mono ?_); (case side1 => refine (Kd.R_reads' (e := 65) (base := w.heap.size) (ok := fun k_ => True) (n := t367.length) (c := co13) ?_).2.2; exact (by (with_reducible repeat (first | apply Kd.R_alloc | apply Kd.R_drewN | apply Kd.R_drew)); exact (Kd.R_mono (Kd.R_far (p := ⟨gb376, 1, none⟩) (Kd.R_far (p := ⟨gb376, 0, none⟩) (Kd.R_types HO370.out BK376.out (by decide)) (fun _ hk => hk.2) (.int .i64 t374)) (fun _ hk => hk.2) (.int .i64 t375)) (fun _ h_ => h_.1)))); (case side2 => exact (Kd.R_reads' HO370.out).2.1); rintro e w14 ⟨v378, rfl, ho0, hb⟩; refine ⟨_, rfl, ?_⟩; replace HO370 := Aside0.mk (Kd.R_below (by (with_reducible repeat (first | apply Kd.R_alloc | apply Kd.R_drewN | apply Kd.R_drew)); exact (Kd.R_mono (Kd.R_far (p := ⟨gb376, 1, none⟩) (Kd.R_far (p := ⟨gb376, 0, none⟩) (Kd.R_types HO370.out BK376.out (by decide)) (fun _ hk => hk.2) (.int .i64 t374)) (fun _ hk => hk.2) (.int .i64 t375)) (fun _ h_ => h_.1))) hb); replace HO373 := Aside0.mk (Kd.R_below (by (with_reducible repeat (first | apply Kd.R_alloc | apply Kd.R_drewN | apply Kd.R_drew)); exact (Kd.R_mono (Kd.R_far (p := ⟨gb376, 1, none⟩) (Kd.R_far (p := ⟨gb376, 0, none⟩) (Kd.R_types HO373.out BK376.out (by decide)) (fun _ hk => hk.2) (.int .i64 t374)) (fun _ hk => hk.2) (.int .i64 t375)) (fun _ h_ => h_.1))) hb); have HO379 := Aside0.mk (Kd.R_lower ho0 (below_size (zh1 HB GE376))); replace BK376 := Aside0.mk (blk_below (g := gb376) (o := .cells #[.int .i64 t374, .int .i64 t375] 40 (0, 0)) (by (with_reducible repeat (first | refine blk_drewN ?_ _ | refine blk_drew ?_ | refine blk_alloc ?_ _)); refine blk_put (cs := #[.int .i64 t374, .int .i64 0]) ?_ 1 _ rfl; (with_reducible repeat (first | refine blk_drewN ?_ _ | refine blk_drew ?_ | refine blk_alloc ?_ _)); refine blk_put (cs := #[.int .i64 0, .int .i64 0]) ?_ 0 _ rfl; (with_reducible repeat (first | refine blk_drewN ?_ _ | refine blk_drew ?_ | refine blk_alloc ?_ _)); exact BK376.out) hb); replace HB := Aside0.mk (below_step (zh1 HB GE376) hb); (try clear hb); (try clear hb2); (try clear hk); (try clear hi); (try clear ho0)) | ((with_reducible refine gate_dst (N := 7) rfl ?_); refine box_event ?hg (N := 7) ?hd (cs := #[.slice none 0 0]) (t := 55) ?hr ?_; (case hd => rfl); (case hg => rfl); (case hr => first | (go_simp; done) | (go_simp; rfl)); intro gb380 hg w15 hbox hb; replace HO370 := Aside0.mk (Kd.R_below (zr HO370) hb); replace HO373 := Aside0.mk (Kd.R_below (zr HO373) hb); replace HO379 := Aside0.mk (Kd.R_below (zr HO379) hb); have BK380 := Aside0.mk (hbox); have GW380 := Aside0.mk ((by rw [hg]; exact (below_size (zh1 HB GE376)) : w.heap.size ≤ gb380)); have GE380 := Aside0.mk ((by rw [hg]; exact (below_size (zh1 HB GE376)) : w.heap.size ≤ gb380)); replace HB := Aside0.mk (below_step (zh1 HB GE376) hb); have NB376_380 := Aside0.mk ((by rw [hg]; exact Nat.ne_of_lt (blk_lt (g := gb376) (o := .cells #[.int .i64 t374, .int .i64 t375] 40 (0, 0)) (zb BK376)) : gb376 ≠ gb380)); have NB380_376 := Aside0.mk ((by rw [hg]; exact Nat.ne_of_gt (blk_lt (g := gb376) (o := .cells #[.int .i64 t374, .int .i64 t375] 40 (0, 0)) (zb BK376)) : gb380 ≠ gb376)); replace BK376 := zk BK376 hb; clear hb hbox hg; obtain ⟨Ao16, co16, eo16⟩ := Kd.R_slice HO379.out; subst eo16; have hnb17 := NB380_376.out; have hnc17 := NB376_380.out; have hcz18_0 : w15.cell? ⟨gb380, 0, none⟩ = some (.slice none 0 0) := (blk_cell BK380.out 0).trans rfl; have hfz18_0 := blk_frozen BK380.out 0; have hcz19_0 : w15.cell? ⟨gb376, 0, none⟩ = some (.int .i64 t374) := (blk_cell BK376.out 0).trans rfl; have hcz19_1 : w15.cell? ⟨gb376, 1, none⟩ = some (.int .i64 t375) := (blk_cell BK376.out 1).trans rfl; have hfz19_0 := blk_frozen BK376.out 0; have hfz19_1 := blk_frozen BK376.out 1) | ((with_reducible refine gate_callee (f := 45) rfl ?_); refine goesL_ (some 32) rfl rfl Try.func45 (by kernel_rfl) rfl #[.agg #[.slice Ao16 t377.length co16], .agg #[.int .i64 t374, .int .i64 t375], .int .i64 9] rfl (by (try simp only [List.map_toArray, List.map_cons, List.map_nil]); first | done | rfl | (simp only [List.length_drop, List.length_take]; rfl)) ?_; (with_reducible refine (impl_TriePut.calls k _ _ t377 t374 t375 9 t381 t384 _ ?side1 ?side2 A7.out).mono ?_); (case side1 => refine (Kd.R_reads' (e := 104) (base := w.heap.size) (ok := fun k_ => True) (n := t377.length) (c := co16) ?_).2.2; exact (by (with_reducible repeat (first | apply Kd.R_alloc | apply Kd.R_drewN | apply Kd.R_drew)); exact (Kd.R_mono (Kd.R_far (p := ⟨gb380, 0, none⟩) (Kd.R_types HO379.out BK380.out (by decide)) (fun _ hk => hk.2) (.slice Ao16 t377.length co16)) (fun _ h_ => h_.1)))); (case side2 => exact (Kd.R_reads' HO379.out).2.1); rintro e w20 ⟨v382, rfl, ho0, hb⟩; refine ⟨_, rfl, ?_⟩; replace HO370 := Aside0.mk (Kd.R_below (by (with_reducible repeat (first | apply Kd.R_alloc | apply Kd.R_drewN | apply Kd.R_drew)); exact (Kd.R_mono (Kd.R_far (p := ⟨gb380, 0, none⟩) (Kd.R_types HO370.out BK380.out (by decide)) (fun _ hk => hk.2) (.slice Ao16 t377.length co16)) (fun _ h_ => h_.1))) hb); replace HO373 := Aside0.mk (Kd.R_below (by (with_reducible repeat (first | apply Kd.R_alloc | apply Kd.R_drewN | apply Kd.R_drew)); exact (Kd.R_mono (Kd.R_far (p := ⟨gb380, 0, none⟩) (Kd.R_types HO373.out BK380.out (by decide)) (fun _ hk => hk.2) (.slice Ao16 t377.length co16)) (fun _ h_ => h_.1))) hb); have HO383 := Aside0.mk (Kd.R_lower (Kd.R_new' ho0 (Kd.R_lt (by (with_reducible repeat (first | apply Kd.R_alloc | apply Kd.R_drewN | apply Kd.R_drew)); exact (Kd.R_mono (Kd.R_far (p := ⟨gb380, 0, none⟩) (Kd.R_types HO379.out BK380.out (by decide)) (fun _ hk => hk.2) (.slice Ao16 t377.length co16)) (fun _ h_ => h_.1))))) (below_size (zh2 HB GE376 GE380))); replace HO379 := Aside0.mk (Kd.R_elder' (by (with_reducible repeat (first | apply Kd.R_alloc | apply Kd.R_drewN | apply Kd.R_drew)); exact (Kd.R_mono (Kd.R_far (p := ⟨gb380, 0, none⟩) (Kd.R_types HO379.out BK380.out (by decide)) (fun _ hk => hk.2) (.slice Ao16 t377.length co16)) (fun _ h_ => h_.1))) (Kd.R_base ho0) hb); replace BK376 := Aside0.mk (blk_below (g := gb376) (o := .cells #[.int .i64 t374, .int .i64 t375] 40 (0, 0)) (by (with_reducible repeat (first | refine blk_drewN ?_ _ | refine blk_drew ?_ | refine blk_alloc ?_ _)); refine blk_far ?_ NB376_380.out _; (with_reducible repeat (first | refine blk_drewN ?_ _ | refine blk_drew ?_ | refine blk_alloc ?_ _)); exact BK376.out) hb); replace BK380 := Aside0.mk (blk_below (g := gb380) (o := .cells #[.slice Ao16 t377.length co16] 55 (0, 0)) (by (with_reducible repeat (first | refine blk_drewN ?_ _ | refine blk_drew ?_ | refine blk_alloc ?_ _)); refine blk_put (cs := #[.slice none 0 0]) ?_ 0 _ rfl; (with_reducible repeat (first | refine blk_drewN ?_ _ | refine blk_drew ?_ | refine blk_alloc ?_ _)); exact BK380.out) hb); replace HB := Aside0.mk (below_step (zh2 HB GE376 GE380) hb); (try clear hb); (try clear hb2); (try clear hk); (try clear hi); (try clear ho0)) | ((with_reducible refine gate_dst (N := 8) rfl ?_); refine box_event ?hg (N := 8) ?hd (cs := #[.slice none 0 0]) (t := 55) ?hr ?_; (case hd => rfl); (case hg => rfl); (case hr => first | (go_simp; done) | (go_simp; rfl)); intro gb385 hg w21 hbox hb; replace HO370 := Aside0.mk (Kd.R_below (zr HO370) hb); replace HO373 := Aside0.mk (Kd.R_below (zr HO373) hb); replace HO379 := Aside0.mk (Kd.R_below (zr HO379) hb); replace HO383 := Aside0.mk (Kd.R_below (zr HO383) hb); have BK385 := Aside0.mk (hbox); have GW385 := Aside0.mk ((by rw [hg]; exact (below_size (zh2 HB GE376 GE380)) : w.heap.size ≤ gb385)); have GE385 := Aside0.mk ((by rw [hg]; exact (below_size (zh2 HB GE376 GE380)) : w.heap.size ≤ gb385)); replace HB := Aside0.mk (below_step (zh2 HB GE376 GE380) hb); have NB376_385 := Aside0.mk ((by rw [hg]; exact Nat.ne_of_lt (blk_lt (g := gb376) (o := .cells #[.int .i64 t374, .int .i64 t375] 40 (0, 0)) (zb BK376)) : gb376 ≠ gb385)); have NB385_376 := Aside0.mk ((by rw [hg]; exact Nat.ne_of_gt (blk_lt (g := gb376) (o := .cells #[.int .i64 t374, .int .i64 t375] 40 (0, 0)) (zb BK376)) : gb385 ≠ gb376)); replace BK376 := zk BK376 hb; have NB380_385 := Aside0.mk ((by rw [hg]; exact Nat.ne_of_lt (blk_lt (g := gb380) (o := .cells #[.slice Ao16 t377.length co16] 55 (0, 0)) (zb BK380)) : gb380 ≠ gb385)); have NB385_380 := Aside0.mk ((by rw [hg]; exact Nat.ne_of_gt (blk_lt (g := gb380) (o := .cells #[.slice Ao16 t377.length co16] 55 (0, 0)) (zb BK380)) : gb385 ≠ gb380)); replace BK380 := zk BK380 hb; clear hb hbox hg; obtain ⟨Ao22, co22, eo22⟩ := Kd.R_slice HO383.out; subst eo22; have hnb23 := NB385_376.out; have hnc23 := NB376_385.out; have hnb24 := NB385_380.out; have hnc24 := NB380_385.out; have hcz25_0 : w21.cell? ⟨gb385, 0, none⟩ = some (.slice none 0 0) := (blk_cell BK385.out 0).trans rfl; have hfz25_0 := blk_frozen BK385.out 0; have hcz26_0 : w21.cell? ⟨gb376, 0, none⟩ = some (.int .i64 t374) := (blk_cell BK376.out 0).trans rfl; have hcz26_1 : w21.cell? ⟨gb376, 1, none⟩ = some (.int .i64 t375) := (blk_cell BK376.out 1).trans rfl; have hfz26_0 := blk_frozen BK376.out 0; have hfz26_1 := blk_frozen BK376.out 1) | ((with_reducible refine gate_dst (N := 39) rfl ?_); refine Kd.R_lit (Kd.int .i64) _ 3 ?hg (N := 39) ?hd (xs := ([t368, t374] : List Int)) (inner := [.int .i64 t368, .int .i64 t374]) (ok := fun _ => True) (okp := fun _ => True) ?hr ?hp (fun _ hk => hk) trivial (Below.refl _ _) (Nat.le_refl _) (by simp) ?_; (case hd => rfl); (case hg => rfl); (case hr => first | (go_simp; done) | (go_simp; rfl)); (case hp => exact (Reps.one (show Kd.M (Kd.int .i64) _ _ _ t368 [.int .i64 t368] from rfl) (Reps.one (show Kd.M (Kd.int .i64) _ _ _ t374 [.int .i64 t374] from rfl) (Reps.none _ _)))); intro v387 w27 ho28 hb hg_ hnew_; clear hg_ hnew_; (first | rw [← Ny386.out] at ho28 | (simp only [Int.reduceToNat] at ho28; rw [← Ny386.out] at ho28)); replace HO370 := Aside0.mk (Kd.R_below (by (with_reducible repeat (first | apply Kd.R_alloc | apply Kd.R_drewN | apply Kd.R_drew)); exact (Kd.R_mono (Kd.R_far (p := ⟨gb385, 0, none⟩) (Kd.R_types HO370.out BK385.out (by decide)) (fun _ hk => hk.2) (.slice Ao22 t381.length co22)) (fun _ h_ => h_.1))) hb); replace HO379 := Aside0.mk (Kd.R_below (by (with_reducible repeat (first | apply Kd.R_alloc | apply Kd.R_drewN | apply Kd.R_drew)); exact (Kd.R_mono (Kd.R_far (p := ⟨gb385, 0, none⟩) (Kd.R_types HO379.out BK385.out (by decide)) (fun _ hk => hk.2) (.slice Ao22 t381.length co22)) (fun _ h_ => h_.1))) hb); replace HO383 := Aside0.mk (Kd.R_below (by (with_reducible repeat (first | apply Kd.R_alloc | apply Kd.R_drewN | apply Kd.R_drew)); exact (Kd.R_mono (Kd.R_far (p := ⟨gb385, 0, none⟩) (Kd.R_types HO383.out BK385.out (by decide)) (fun _ hk => hk.2) (.slice Ao22 t381.length co22)) (fun _ h_ => h_.1))) hb); have HO388 := Aside0.mk (Kd.R_lower (Kd.R_new' ho28 (Kd.R_lt (by (with_reducible repeat (first | apply Kd.R_alloc | apply Kd.R_drewN | apply Kd.R_drew)); exact (Kd.R_mono (Kd.R_far (p := ⟨gb385, 0, none⟩) (Kd.R_types HO373.out BK385.out (by decide)) (fun _ hk => hk.2) (.slice Ao22 t381.length co22)) (fun _ h_ => h_.1))))) (below_size (zh3 HB GE376 GE380 GE385))); replace HO373 := Aside0.mk (Kd.R_elder' (by (with_reducible repeat (first | apply Kd.R_alloc | apply Kd.R_drewN | apply Kd.R_drew)); exact (Kd.R_mono (Kd.R_far (p := ⟨gb385, 0, none⟩) (Kd.R_types HO373.out BK385.out (by decide)) (fun _ hk => hk.2) (.slice Ao22 t381.length co22)) (fun _ h_ => h_.1))) (Kd.R_base ho28) hb); replace BK376 := Aside0.mk (blk_below (g := gb376) (o := .cells #[.int .i64 t374, .int .i64 t375] 40 (0, 0)) (by (with_reducible repeat (first | refine blk_drewN ?_ _ | refine blk_drew ?_ | refine blk_alloc ?_ _)); refine blk_far ?_ NB376_385.out _; (with_reducible repeat (first | refine blk_drewN ?_ _ | refine blk_drew ?_ | refine blk_alloc ?_ _)); exact BK376.out) hb); replace BK380 := Aside0.mk (blk_below (g := gb380) (o := .cells #[.slice Ao16 t377.length co16] 55 (0, 0)) (by (with_reducible repeat (first | refine blk_drewN ?_ _ | refine blk_drew ?_ | refine blk_alloc ?_ _)); refine blk_far ?_ NB380_385.out _; (with_reducible repeat (first | refine blk_drewN ?_ _ | refine blk_drew ?_ | refine blk_alloc ?_ _)); exact BK380.out) hb); replace BK385 := Aside0.mk (blk_below (g := gb385) (o := .cells #[.slice Ao22 t381.length co22] 55 (0, 0)) (by (with_reducible repeat (first | refine blk_drewN ?_ _ | refine blk_drew ?_ | refine blk_alloc ?_ _)); refine blk_put (cs := #[.slice none 0 0]) ?_ 0 _ rfl; (with_reducible repeat (first | refine blk_drewN ?_ _ | refine blk_drew ?_ | refine blk_alloc ?_ _)); exact BK385.out) hb); replace HB := Aside0.mk (below_step (zh3 HB GE376 GE380 GE385) hb); clear hb ho28; obtain ⟨Ao30, co30, eo30⟩ := Kd.R_slice HO388.out; subst eo30) | ((with_reducible refine gate_builtin (b := .append) (xs := #[.tmp 35, .tmp 39]) rfl ?_); at_builtin; refine Kd.R_append_rows (Kd.int .i64) (w0 := w) w.heap.size rfl (.tmp 35) (.tmp 39) 76 3 (.int .i64 0) 8 rfl Try.underlying76 info3 rfl (by decide) (by omega) v372 t371 y386 _ _ _ (fun k_ => some k_ ≠ (.slice Ao30 y386.length co30 : Value).ownBlock) (fun _ => False) rfl rfl ?aO ?aR (fun _ _ h => h) (fun _ h => h.elim) ?aF ?aB ?aS ?aL ?_; (case aR => repeat (first | exact (Kd.R_reads' HO388.out).2.2 | (with_reducible refine Kd.C_alloc ?_ _) | (with_reducible refine Kd.C_drewN ?_ _) | (with_reducible refine Kd.C_drew ?_))); (case aB => exact (zh3 HB GE376 GE380 GE385)); (case aF => exact (fun k_ hk => Kd.fresh' (Kd.R_lt (zr HO388)) k_ hk)); (case aO => exact (by (with_reducible repeat (first | apply Kd.R_alloc | apply Kd.R_drewN | apply Kd.R_drew)); exact Kd.R_mono HO373.out (fun _ hk => hk.2))); (case aS => exact (below_size (zh3 HB GE376 GE380 GE385))); (case aL => have := LMc8.out; omega); intro v390 w29 ho hb hg hat; rw [← Ny389.out] at ho; replace HO370 := Aside0.mk (Kd.R_over' (zr HO370) (Kd.R_typed (zr HO373)) (by decide) hg); replace BK376 := Aside0.mk (blk_grown (g := gb376) (o := .cells #[.int .i64 t374, .int .i64 t375] 40 (0, 0)) (zb BK376) hg (Kd.R_ne HO373.out BK376.out (by decide))); replace HO379 := Aside0.mk (Kd.R_over' (zr HO379) (Kd.R_typed (zr HO373)) (by decide) hg); replace BK380 := Aside0.mk (blk_grown (g := gb380) (o := .cells #[.slice Ao16 t377.length co16] 55 (0, 0)) (zb BK380) hg (Kd.R_ne HO373.out BK380.out (by decide))); replace HO383 := Aside0.mk (Kd.R_over' (zr HO383) (Kd.R_typed (zr HO373)) (by decide) hg); replace BK385 := Aside0.mk (blk_grown (g := gb385) (o := .cells #[.slice Ao22 t381.length co22] 55 (0, 0)) (zb BK385) hg (Kd.R_ne HO373.out BK385.out (by decide))); replace HO388 := Aside0.mk (Kd.R_after (ok := (fun _ => True)) (zr HO388) hg hat); replace HB := Aside0.mk (hb); have HO391 := Aside0.mk (ho); clear HO373; clear ho hb hg hat))
      go_loopg [10] k (fun kq v10 w' => ∃ (x10_1 : Int), v10 = .int .i64 x10_1 ∧ Aside0 (laws_FnTriePuts.l0 kq y389 t384 x10_1 t374 t375 t377 t381 = some r) ∧ Aside0 (kq ≤ k) ∧ Aside0 (Kd.R (Kd.int .i64) 3 w' w.heap.size (fun _ => True) v390 y389) ∧ Aside0 (Kd.R k104 104 w' w.heap.size (fun k_ => some k_ ≠ ((.slice Ao22 t381.length co22) : Value).ownBlock) (.slice Ao16 t377.length co16) t377) ∧ Aside0 (Kd.R k104 104 w' w.heap.size (fun k_ => some k_ ≠ ((.slice Ao16 t377.length co16) : Value).ownBlock) (.slice Ao22 t381.length co22) t381) ∧ Aside0 (w'.heap[gb376]? = some (.cells #[.int .i64 t374, .int .i64 t375] 40 (0, 0))) ∧ Aside0 (w'.heap[gb380]? = some (.cells #[(.slice Ao16 t377.length co16)] 55 (0, 0))) ∧ Aside0 (w'.heap[gb385]? = some (.cells #[(.slice Ao22 t381.length co22)] 55 (0, 0))) ∧ Aside0 (Below w.heap.size w w'))
      case atStart => exact ⟨(0), (by first | rfl | (simp; done) | (simp [*]; done)), H', ⟨Nat.le_refl _⟩, ⟨by (with_reducible repeat (first | apply Kd.R_alloc | apply Kd.R_drewN | apply Kd.R_drew)); exact Kd.R_mono HO391.out (fun _ hk => trivial)⟩, ⟨by (with_reducible repeat (first | apply Kd.R_alloc | apply Kd.R_drewN | apply Kd.R_drew)); exact Kd.R_mono HO379.out (fun _ hk => hk.2)⟩, ⟨by (with_reducible repeat (first | apply Kd.R_alloc | apply Kd.R_drewN | apply Kd.R_drew)); exact Kd.R_mono HO383.out (fun _ hk => hk.2)⟩, ⟨by (with_reducible repeat (first | refine blk_drewN ?_ _ | refine blk_drew ?_ | refine blk_alloc ?_ _)); exact BK376.out⟩, ⟨by (with_reducible repeat (first | refine blk_drewN ?_ _ | refine blk_drew ?_ | refine blk_alloc ?_ _)); exact BK380.out⟩, ⟨by (with_reducible repeat (first | refine blk_drewN ?_ _ | refine blk_drew ?_ | refine blk_alloc ?_ _)); exact BK385.out⟩, ⟨zh3 HB GE376 GE380 GE385⟩⟩
      case round =>
        clear H'
        try clear c1
        try clear c2
        try clear p2
        try clear c3
        try clear c4
        try clear c5
        try clear c8
        try clear c13
        try clear c17
        try clear c23
        try clear c24
        try clear hcz12_0
        try clear hcz12_1
        try clear hcz18_0
        try clear hcz19_0
        try clear hcz19_1
        try clear hcz25_0
        try clear hcz26_0
        try clear hcz26_1
        try clear hfz12_0
        try clear hfz12_1
        try clear hfz18_0
        try clear hfz19_0
        try clear hfz19_1
        try clear hfz25_0
        try clear hfz26_0
        try clear hfz26_1
        obtain ⟨x10_1, rfl, HA, HK1, HO_5, HO_381000, HO_386000, BK376, BK380, BK385, HB⟩ := hrel
        cases gk with
        | zero => exact absurd HA.out (by simp [laws_FnTriePuts.l0])
        | succ k1 =>
          have H := HA.out
          clear HA
          simp only [laws_FnTriePuts.l0] at H
          by_cases c31 : x10_1 < (y389.length : Int)
          · rw [if_pos c31] at H
            have c31b0 : decide (x10_1 < (y389.length : Int)) = true := decide_eq_true c31
            clear c31
            by_cases c32 : 0 ≤ x10_1
            · rw [if_pos c32] at H
              have c32b0 : decide (0 ≤ x10_1) = true := decide_eq_true c32
              clear c32
              replace H := Option.bind_eq_some_iff.mp H
              obtain ⟨t393, A330, H⟩ := H
              replace H : ((impl_TrieFind.f k1 t381 (rd y389 x10_1)).bind fun t395 => ((spec_InPrefix.f k1 t374 t375 (rd y389 x10_1)).bind fun t397 => (if t397 = true then ((spec_TrieFind.f k1 t381 (rd y389 x10_1)).bind fun t399 => (if t395 = t399 then (laws_FnTriePuts.l0 k1 y389 t384 (wrap64 (x10_1 + 1)) t374 t375 t377 t381) else (some false))) else (if t393 = t395 then ((spec_TrieFind.f k1 t381 (rd y389 x10_1)).bind fun t401 => (if t395 = t401 then (laws_FnTriePuts.l0 k1 y389 t384 (wrap64 (x10_1 + 1)) t374 t375 t377 t381) else (some false))) else (some false))))) = some r := H
              have A33 := Aside0.mk A330
              clear A330
              replace H := Option.bind_eq_some_iff.mp H
              obtain ⟨t395, A340, H⟩ := H
              replace H : ((spec_InPrefix.f k1 t374 t375 (rd y389 x10_1)).bind fun t397 => (if t397 = true then ((spec_TrieFind.f k1 t381 (rd y389 x10_1)).bind fun t399 => (if t395 = t399 then (laws_FnTriePuts.l0 k1 y389 t384 (wrap64 (x10_1 + 1)) t374 t375 t377 t381) else (some false))) else (if t393 = t395 then ((spec_TrieFind.f k1 t381 (rd y389 x10_1)).bind fun t401 => (if t395 = t401 then (laws_FnTriePuts.l0 k1 y389 t384 (wrap64 (x10_1 + 1)) t374 t375 t377 t381) else (some false))) else (some false)))) = some r := H
              have A34 := Aside0.mk A340
              clear A340
              replace H := Option.bind_eq_some_iff.mp H
              obtain ⟨t397, A350, H⟩ := H
              replace H : (if t397 = true then ((spec_TrieFind.f k1 t381 (rd y389 x10_1)).bind fun t399 => (if t395 = t399 then (laws_FnTriePuts.l0 k1 y389 t384 (wrap64 (x10_1 + 1)) t374 t375 t377 t381) else (some false))) else (if t393 = t395 then ((spec_TrieFind.f k1 t381 (rd y389 x10_1)).bind fun t401 => (if t395 = t401 then (laws_FnTriePuts.l0 k1 y389 t384 (wrap64 (x10_1 + 1)) t374 t375 t377 t381) else (some false))) else (some false))) = some r := H
              have A35 := Aside0.mk A350
              clear A350
              by_cases c36 : t397 = true
              · subst c36
                have H1 : ((spec_TrieFind.f k1 t381 (rd y389 x10_1)).bind fun t399 => (if t395 = t399 then (laws_FnTriePuts.l0 k1 y389 t384 (wrap64 (x10_1 + 1)) t374 t375 t377 t381) else (some false))) = some r := by rw [if_pos rfl] at H; exact H
                clear H
                have H := H1
                clear H1
                replace H := Option.bind_eq_some_iff.mp H
                obtain ⟨t399, A370, H⟩ := H
                replace H : (if t395 = t399 then (laws_FnTriePuts.l0 k1 y389 t384 (wrap64 (x10_1 + 1)) t374 t375 t377 t381) else (some false)) = some r := H
                have A37 := Aside0.mk A370
                clear A370
                by_cases c38 : t395 = t399
                · rw [if_pos c38] at H
                  have c38b0 : (t395 == t399) = true := beq_iff_eq.mpr c38
                  have c38b1 : (t395 != t399) = false := bne_eq_false_iff_eq.mpr c38
                  clear c38
                  have H' := Aside0.mk H
                  clear H
                  obtain ⟨Ao39, co39, eo39⟩ := Kd.R_slice HO_5.out
                  subst eo39
                  try go_wp2
                  replace HO_5 := Aside0.mk (Kd.R_drew HO_5.out)
                  replace HO_381000 := Aside0.mk (Kd.R_drew HO_381000.out)
                  replace HO_386000 := Aside0.mk (Kd.R_drew HO_386000.out)
                  replace BK376 := Aside0.mk (blk_drew BK376.out)
                  replace BK380 := Aside0.mk (blk_drew BK380.out)
                  replace BK385 := Aside0.mk (blk_drew BK385.out)
                  replace HB := Aside0.mk (below_drew1 HB.out)
                  have p392 : 0 ≤ (x10_1 : Int) := of_decide_eq_true (by first | (with_reducible assumption) | assumption)
                  have q392 : x10_1 < (y389.length : Int) := of_decide_eq_true (by first | (with_reducible assumption) | assumption)
                  obtain ⟨ad392, e392, hx392_0⟩ := Kd.at_int (Kd.R_reads' HO_5.out).2.2 x10_1 p392 q392
                  cases e392
                  replace p392 := eq_true p392
                  replace q392 := eq_true q392
                  refine start_ (n := 7) (S := fun w' => w'.cell? ⟨gb380, 0, none⟩ = some (.slice Ao16 t377.length co16) ∧ w'.cell? (ad392.add (x10_1).toNat) = some (.int .i64 (rd y389 x10_1))) (ds := []) #[Z,Z,Z,Z,Z,Z,Z] (by kernel_rfl) rfl rfl ⟨(blk_cell BK380.out 0).trans rfl, hx392_0⟩ (fun hHeld => ?_)
                  generalize wr.drew = w40 at HO_5 HO_381000 HO_386000 BK376 BK380 BK385 HB hx392_0 hHeld ⊢
                  refine pz (i := 1) (N := some 48) #[Z,Y,Z,Z,Z,Z,Z] (by kernel_rfl) ?_
                  refine pz (i := 2) (N := some 49) #[Z,Y,Y,Z,Z,Z,Z] (by kernel_rfl) ?_
                  refine pz (i := 3) (N := some 50) #[Z,Y,Y,Y,Z,Z,Z] (by kernel_rfl) ?_
                  refine tz (i := 0) (N := some 47) #[Y,Y,Y,Y,Z,Z,Z] rfl (by kernel_rfl) (Or.inl ⟨by rfl, by rintro w' ⟨s0, s1⟩; go_simp; with_reducible rfl⟩) hHeld ?_
                  refine tz (i := 4) (N := some 51) #[Y,Y,Y,Y,Y,Z,Z] rfl (by kernel_rfl) (Or.inl ⟨by rfl, by rintro w' ⟨s0, s1⟩; go_simp; with_reducible rfl⟩) hHeld ?_
                  refine one_ (i := 5) (N := some 52) #[Y,Y,Y,Y,Y,Y,Z] rfl rfl (by kernel_rfl) (by decide) (fun K hK => ?_)
                  refine goes_ Try.func34 (by kernel_rfl) rfl #[.agg #[.slice Ao16 t377.length co16], .int .i64 (rd y389 x10_1)] (by rfl) rfl rfl (by (try simp only [List.map_toArray, List.map_cons, List.map_nil]); first | done | rfl | (simp only [List.length_drop, List.length_take]; rfl)) ?_
                  with_reducible refine (impl_TrieFind.calls k1 _ _ t377 (rd y389 x10_1) t393 _ ?side1 ?side2 A33.out).mono ?_
                  (case side1 => repeat (first | exact (Kd.R_reads' HO_381000.out).2.2 | (with_reducible refine Kd.C_alloc ?_ _) | (with_reducible refine Kd.C_drewN ?_ _) | (with_reducible refine Kd.C_drew ?_)))
                  (case side2 => exact (Kd.R_reads' HO_381000.out).2.1)
                  rintro e w41 ⟨rfl, hb⟩
                  have HS1_ := (hb.cell (World.block_lt_of_cell? _ _ (hHeld.2))).trans (hHeld.2)
                  refine ⟨_, rfl, ?_⟩
                  replace HO_5 := Aside0.mk (Kd.R_below (zr HO_5) hb)
                  replace HO_381000 := Aside0.mk (Kd.R_below (zr HO_381000) hb)
                  replace HO_386000 := Aside0.mk (Kd.R_below (zr HO_386000) hb)
                  replace BK376 := zk BK376 hb
                  replace BK380 := zk BK380 hb
                  replace BK385 := zk BK385 hb
                  replace HB := Aside0.mk (below_step (zh3 HB GE376 GE380 GE385) hb)
                  (try clear hb)
                  (try clear hb2)
                  (try clear hk)
                  (try clear hi)
                  refine hK.out _ _ ⟨(blk_cell BK380.out 0).trans rfl, HS1_⟩ (fun hHeld => ?_)
                  clear hK K
                  refine norm_ (a' := ?_) ?_ ?_
                  rotate_left
                  · show Act.put _ (some 52) _ = _
                    simp only [Act.put, List.setIfInBounds_toArray, List.set_cons_zero, List.set_cons_succ, i64_w, i32_w]
                    rfl
                  refine pz (i := 6) (N := some 11) #[Y,Y,Y,Y,Y,Y,Y] (by kernel_rfl) ?_
                  refine done_ (by kernel_rfl) ?_
                  try go_wp2
                  replace HO_5 := Aside0.mk (Kd.R_drew HO_5.out)
                  replace HO_381000 := Aside0.mk (Kd.R_drew HO_381000.out)
                  replace HO_386000 := Aside0.mk (Kd.R_drew HO_386000.out)
                  replace BK376 := Aside0.mk (blk_drew BK376.out)
                  replace BK380 := Aside0.mk (blk_drew BK380.out)
                  replace BK385 := Aside0.mk (blk_drew BK385.out)
                  replace HB := Aside0.mk (below_drew1 HB.out)
                  have p394 : 0 ≤ (x10_1 : Int) := of_decide_eq_true (by first | (with_reducible assumption) | assumption)
                  have q394 : x10_1 < (y389.length : Int) := of_decide_eq_true (by first | (with_reducible assumption) | assumption)
                  obtain ⟨ad394, e394, hx394_0⟩ := Kd.at_int (Kd.R_reads' HO_5.out).2.2 x10_1 p394 q394
                  obtain rfl : ad392 = ad394 := (by injection e394)
                  replace p394 := eq_true p394
                  replace q394 := eq_true q394
                  refine start_ (n := 7) (S := fun w' => w'.cell? ⟨gb385, 0, none⟩ = some (.slice Ao22 t381.length co22) ∧ w'.cell? (ad392.add (x10_1).toNat) = some (.int .i64 (rd y389 x10_1))) (ds := []) #[Z,Z,Z,Z,Z,Z,Z] (by kernel_rfl) rfl rfl ⟨(blk_cell BK385.out 0).trans rfl, hx394_0⟩ (fun hHeld => ?_)
                  generalize w41.drew = w42 at HO_5 HO_381000 HO_386000 BK376 BK380 BK385 HB hx394_0 hHeld ⊢
                  refine pz (i := 1) (N := some 54) #[Z,Y,Z,Z,Z,Z,Z] (by kernel_rfl) ?_
                  refine pz (i := 2) (N := some 55) #[Z,Y,Y,Z,Z,Z,Z] (by kernel_rfl) ?_
                  refine pz (i := 3) (N := some 56) #[Z,Y,Y,Y,Z,Z,Z] (by kernel_rfl) ?_
                  refine tz (i := 0) (N := some 53) #[Y,Y,Y,Y,Z,Z,Z] rfl (by kernel_rfl) (Or.inl ⟨by rfl, by rintro w' ⟨s0, s1⟩; go_simp; with_reducible rfl⟩) hHeld ?_
                  refine tz (i := 4) (N := some 57) #[Y,Y,Y,Y,Y,Z,Z] rfl (by kernel_rfl) (Or.inl ⟨by rfl, by rintro w' ⟨s0, s1⟩; go_simp; with_reducible rfl⟩) hHeld ?_
                  refine one_ (i := 5) (N := some 58) #[Y,Y,Y,Y,Y,Y,Z] rfl rfl (by kernel_rfl) (by decide) (fun K hK => ?_)
                  refine goes_ Try.func34 (by kernel_rfl) rfl #[.agg #[.slice Ao22 t381.length co22], .int .i64 (rd y389 x10_1)] (by rfl) rfl rfl (by (try simp only [List.map_toArray, List.map_cons, List.map_nil]); first | done | rfl | (simp only [List.length_drop, List.length_take]; rfl)) ?_
                  with_reducible refine (impl_TrieFind.calls k1 _ _ t381 (rd y389 x10_1) t395 _ ?side1 ?side2 A34.out).mono ?_
                  (case side1 => repeat (first | exact (Kd.R_reads' HO_386000.out).2.2 | (with_reducible refine Kd.C_alloc ?_ _) | (with_reducible refine Kd.C_drewN ?_ _) | (with_reducible refine Kd.C_drew ?_)))
                  (case side2 => exact (Kd.R_reads' HO_386000.out).2.1)
                  rintro e w43 ⟨rfl, hb⟩
                  have HS1_ := (hb.cell (World.block_lt_of_cell? _ _ (hHeld.2))).trans (hHeld.2)
                  refine ⟨_, rfl, ?_⟩
                  replace HO_5 := Aside0.mk (Kd.R_below (zr HO_5) hb)
                  replace HO_381000 := Aside0.mk (Kd.R_below (zr HO_381000) hb)
                  replace HO_386000 := Aside0.mk (Kd.R_below (zr HO_386000) hb)
                  replace BK376 := zk BK376 hb
                  replace BK380 := zk BK380 hb
                  replace BK385 := zk BK385 hb
                  replace HB := Aside0.mk (below_step (zh3 HB GE376 GE380 GE385) hb)
                  (try clear hb)
                  (try clear hb2)
                  (try clear hk)
                  (try clear hi)
                  refine hK.out _ _ ⟨(blk_cell BK385.out 0).trans rfl, HS1_⟩ (fun hHeld => ?_)
                  clear hK K
                  refine norm_ (a' := ?_) ?_ ?_
                  rotate_left
                  · show Act.put _ (some 58) _ = _
                    simp only [Act.put, List.setIfInBounds_toArray, List.set_cons_zero, List.set_cons_succ, i64_w, i32_w]
                    rfl
                  refine pz (i := 6) (N := some 12) #[Y,Y,Y,Y,Y,Y,Y] (by kernel_rfl) ?_
                  refine done_ (by kernel_rfl) ?_
                  try go_wp2
                  replace HO_5 := Aside0.mk (Kd.R_drew HO_5.out)
                  replace HO_381000 := Aside0.mk (Kd.R_drew HO_381000.out)
                  replace HO_386000 := Aside0.mk (Kd.R_drew HO_386000.out)
                  replace BK376 := Aside0.mk (blk_drew BK376.out)
                  replace BK380 := Aside0.mk (blk_drew BK380.out)
                  replace BK385 := Aside0.mk (blk_drew BK385.out)
                  replace HB := Aside0.mk (below_drew1 HB.out)
                  have p396 : 0 ≤ (x10_1 : Int) := of_decide_eq_true (by first | (with_reducible assumption) | assumption)
                  have q396 : x10_1 < (y389.length : Int) := of_decide_eq_true (by first | (with_reducible assumption) | assumption)
                  obtain ⟨ad396, e396, hx396_0⟩ := Kd.at_int (Kd.R_reads' HO_5.out).2.2 x10_1 p396 q396
                  obtain rfl : ad392 = ad396 := (by injection e396)
                  replace p396 := eq_true p396
                  replace q396 := eq_true q396
                  have p398 : 0 ≤ (x10_1 : Int) := of_decide_eq_true (by first | (with_reducible assumption) | assumption)
                  have q398 : x10_1 < (y389.length : Int) := of_decide_eq_true (by first | (with_reducible assumption) | assumption)
                  obtain ⟨ad398, e398, hx398_0⟩ := Kd.at_int (Kd.R_reads' HO_5.out).2.2 x10_1 p398 q398
                  obtain rfl : ad392 = ad398 := (by injection e398)
                  replace p398 := eq_true p398
                  replace q398 := eq_true q398
                  refine start_ (n := 22) (S := fun w' => w'.cell? ⟨gb376, 0, none⟩ = some (.int .i64 t374) ∧ w'.cell? ⟨gb376, 1, none⟩ = some (.int .i64 t375) ∧ w'.cell? ⟨gb385, 0, none⟩ = some (.slice Ao22 t381.length co22) ∧ w'.cell? (ad392.add (x10_1).toNat) = some (.int .i64 (rd y389 x10_1)) ∧ w'.cell? (ad392.add (x10_1).toNat) = some (.int .i64 (rd y389 x10_1))) (ds := []) #[Z,Z,Z,Z,Z,Z,Z,Z,Z,Z,Z,Z,Z,Z,Z,Z,Z,Z,Z,Z,Z,Z] (by kernel_rfl) rfl rfl ⟨(blk_cell BK376.out 0).trans rfl, (blk_cell BK376.out 1).trans rfl, (blk_cell BK385.out 0).trans rfl, hx396_0, hx398_0⟩ (fun hHeld => ?_); refine with_tabW laws_FnTriePuts.tab13 laws_FnTriePuts.bits13 (fun HT_ HW_ => ?_)
                  generalize w43.drew = w44 at HO_5 HO_381000 HO_386000 BK376 BK380 BK385 HB hx396_0 hx398_0 hHeld ⊢
                  refine pz (i := 1) (N := some 60) #[Z,Y,Z,Z,Z,Z,Z,Z,Z,Z,Z,Z,Z,Z,Z,Z,Z,Z,Z,Z,Z,Z] (any_of HT_.out (by kernel_rfl)) ?_
                  refine pz (i := 2) (N := some 61) #[Z,Y,Y,Z,Z,Z,Z,Z,Z,Z,Z,Z,Z,Z,Z,Z,Z,Z,Z,Z,Z,Z] (any_of HT_.out (by kernel_rfl)) ?_
                  refine pz (i := 3) (N := some 62) #[Z,Y,Y,Y,Z,Z,Z,Z,Z,Z,Z,Z,Z,Z,Z,Z,Z,Z,Z,Z,Z,Z] (any_of HT_.out (by kernel_rfl)) ?_
                  refine tz (i := 0) (N := some 59) #[Y,Y,Y,Y,Z,Z,Z,Z,Z,Z,Z,Z,Z,Z,Z,Z,Z,Z,Z,Z,Z,Z] rfl (take_ofW HT_.out HW_.out (by kernel_rfl)) (Or.inl ⟨by rfl, by rintro w' ⟨s0, s1, s2, s3, s4⟩; go_simp; with_reducible rfl⟩) hHeld ?_
                  refine tz (i := 4) (N := some 63) #[Y,Y,Y,Y,Y,Z,Z,Z,Z,Z,Z,Z,Z,Z,Z,Z,Z,Z,Z,Z,Z,Z] rfl (take_ofW HT_.out HW_.out (by kernel_rfl)) (Or.inl ⟨by rfl, by rintro w' ⟨s0, s1, s2, s3, s4⟩; go_simp; with_reducible rfl⟩) hHeld ?_
                  refine one_ (i := 5) (N := some 64) #[Y,Y,Y,Y,Y,Y,Z,Z,Z,Z,Z,Z,Z,Z,Z,Z,Z,Z,Z,Z,Z,Z] rfl rfl (one_of HT_.out (by kernel_rfl)) (by decide) (fun K hK => ?_)
                  refine goes_ Try.func38 (by kernel_rfl) rfl #[.agg #[.int .i64 t374, .int .i64 t375], .int .i64 (rd y389 x10_1)] (by rfl) rfl rfl (by (try simp only [List.map_toArray, List.map_cons, List.map_nil]); first | done | rfl | (simp only [List.length_drop, List.length_take]; rfl)) ?_
                  with_reducible refine (spec_InPrefix.calls k1 t374 t375 (rd y389 x10_1) true _ A35.out).mono ?_
                  rintro e w45 ⟨rfl, hb⟩
                  have HS3_ := (hb.cell (World.block_lt_of_cell? _ _ (hHeld.2.2.2.1))).trans (hHeld.2.2.2.1)
                  have HS4_ := (hb.cell (World.block_lt_of_cell? _ _ (hHeld.2.2.2.2))).trans (hHeld.2.2.2.2)
                  refine ⟨_, rfl, ?_⟩
                  replace HO_5 := Aside0.mk (Kd.R_below (zr HO_5) hb)
                  replace HO_381000 := Aside0.mk (Kd.R_below (zr HO_381000) hb)
                  replace HO_386000 := Aside0.mk (Kd.R_below (zr HO_386000) hb)
                  replace BK376 := zk BK376 hb
                  replace BK380 := zk BK380 hb
                  replace BK385 := zk BK385 hb
                  replace HB := Aside0.mk (below_step (zh3 HB GE376 GE380 GE385) hb)
                  (try clear hb)
                  (try clear hb2)
                  (try clear hk)
                  (try clear hi)
                  refine hK.out _ _ ⟨(blk_cell BK376.out 0).trans rfl, (blk_cell BK376.out 1).trans rfl, (blk_cell BK385.out 0).trans rfl, HS3_, HS4_⟩ (fun hHeld => ?_)
                  clear hK K
                  refine norm_ (a' := ?_) ?_ ?_
                  rotate_left
                  · show Act.put _ (some 64) _ = _
                    simp only [Act.put, List.setIfInBounds_toArray, List.set_cons_zero, List.set_cons_succ, i64_w, i32_w]
                    rfl
                  refine pz (i := 6) (N := some 65) #[Y,Y,Y,Y,Y,Y,Y,Z,Z,Z,Z,Z,Z,Z,Z,Z,Z,Z,Z,Z,Z,Z] (any_of HT_.out (by kernel_rfl)) ?_
                  refine pz (i := 7) (N := some 66) #[Y,Y,Y,Y,Y,Y,Y,Y,Z,Z,Z,Z,Z,Z,Z,Z,Z,Z,Z,Z,Z,Z] (any_of HT_.out (by kernel_rfl)) ?_
                  refine pu (i := 8) (N := some 67) #[Y,Y,Y,Y,Y,Y,Y,Y,Y,Z,Z,Z,Z,Z,Z,Z,Z,Z,Z,Z,Z,Z] (any_of HT_.out (by kernel_rfl)) ?_
                  refine pu (i := 9) (N := some 68) #[Y,Y,Y,Y,Y,Y,Y,Y,Y,Y,Z,Z,Z,Z,Z,Z,Z,Z,Z,Z,Z,Z] (any_of HT_.out (by kernel_rfl)) ?_
                  refine pu (i := 10) (N := some 69) #[Y,Y,Y,Y,Y,Y,Y,Y,Y,Y,Y,Z,Z,Z,Z,Z,Z,Z,Z,Z,Z,Z] (any_of HT_.out (by kernel_rfl)) ?_
                  refine pz (i := 11) (N := some 70) #[Y,Y,Y,Y,Y,Y,Y,Y,Y,Y,Y,Y,Z,Z,Z,Z,Z,Z,Z,Z,Z,Z] (any_of HT_.out (by kernel_rfl)) ?_
                  refine pz (i := 12) (N := some 71) #[Y,Y,Y,Y,Y,Y,Y,Y,Y,Y,Y,Y,Y,Z,Z,Z,Z,Z,Z,Z,Z,Z] (any_of HT_.out (by kernel_rfl)) ?_
                  refine pz (i := 13) (N := some 72) #[Y,Y,Y,Y,Y,Y,Y,Y,Y,Y,Y,Y,Y,Y,Z,Z,Z,Z,Z,Z,Z,Z] (any_of HT_.out (by kernel_rfl)) ?_
                  refine pz (i := 15) (N := some 74) #[Y,Y,Y,Y,Y,Y,Y,Y,Y,Y,Y,Y,Y,Y,Z,Y,Z,Z,Z,Z,Z,Z] (any_of HT_.out (by kernel_rfl)) ?_
                  refine pz (i := 16) (N := some 75) #[Y,Y,Y,Y,Y,Y,Y,Y,Y,Y,Y,Y,Y,Y,Z,Y,Y,Z,Z,Z,Z,Z] (any_of HT_.out (by kernel_rfl)) ?_
                  refine pz (i := 17) (N := some 76) #[Y,Y,Y,Y,Y,Y,Y,Y,Y,Y,Y,Y,Y,Y,Z,Y,Y,Y,Z,Z,Z,Z] (any_of HT_.out (by kernel_rfl)) ?_
                  refine tz (i := 14) (N := some 73) #[Y,Y,Y,Y,Y,Y,Y,Y,Y,Y,Y,Y,Y,Y,Y,Y,Y,Y,Z,Z,Z,Z] rfl (take_ofW HT_.out HW_.out (by kernel_rfl)) (Or.inl ⟨by rfl, by rintro w' ⟨s0, s1, s2, s3, s4⟩; go_simp; with_reducible rfl⟩) hHeld ?_
                  refine tz (i := 18) (N := some 77) #[Y,Y,Y,Y,Y,Y,Y,Y,Y,Y,Y,Y,Y,Y,Y,Y,Y,Y,Y,Z,Z,Z] rfl (take_ofW HT_.out HW_.out (by kernel_rfl)) (Or.inl ⟨by rfl, by rintro w' ⟨s0, s1, s2, s3, s4⟩; go_simp; with_reducible rfl⟩) hHeld ?_
                  refine one_ (i := 19) (N := some 78) #[Y,Y,Y,Y,Y,Y,Y,Y,Y,Y,Y,Y,Y,Y,Y,Y,Y,Y,Y,Y,Z,Z] rfl rfl (one_of HT_.out (by kernel_rfl)) (by decide) (fun K hK => ?_)
                  refine goes_ Try.func32 (by kernel_rfl) rfl #[.agg #[.slice Ao22 t381.length co22], .int .i64 (rd y389 x10_1)] (by rfl) rfl rfl (by (try simp only [List.map_toArray, List.map_cons, List.map_nil]); first | done | rfl | (simp only [List.length_drop, List.length_take]; rfl)) ?_
                  with_reducible refine (spec_TrieFind.calls k1 _ _ t381 (rd y389 x10_1) t399 _ ?side1 ?side2 A37.out).mono ?_
                  (case side1 => repeat (first | exact (Kd.R_reads' HO_386000.out).2.2 | (with_reducible refine Kd.C_alloc ?_ _) | (with_reducible refine Kd.C_drewN ?_ _) | (with_reducible refine Kd.C_drew ?_)))
                  (case side2 => exact (Kd.R_reads' HO_386000.out).2.1)
                  rintro e w46 ⟨rfl, hb⟩
                  have HS3_ := (hb.cell (World.block_lt_of_cell? _ _ (hHeld.2.2.2.1))).trans (hHeld.2.2.2.1)
                  have HS4_ := (hb.cell (World.block_lt_of_cell? _ _ (hHeld.2.2.2.2))).trans (hHeld.2.2.2.2)
                  refine ⟨_, rfl, ?_⟩
                  replace HO_5 := Aside0.mk (Kd.R_below (zr HO_5) hb)
                  replace HO_381000 := Aside0.mk (Kd.R_below (zr HO_381000) hb)
                  replace HO_386000 := Aside0.mk (Kd.R_below (zr HO_386000) hb)
                  replace BK376 := zk BK376 hb
                  replace BK380 := zk BK380 hb
                  replace BK385 := zk BK385 hb
                  replace HB := Aside0.mk (below_step (zh3 HB GE376 GE380 GE385) hb)
                  (try clear hb)
                  (try clear hb2)
                  (try clear hk)
                  (try clear hi)
                  refine hK.out _ _ ⟨(blk_cell BK376.out 0).trans rfl, (blk_cell BK376.out 1).trans rfl, (blk_cell BK385.out 0).trans rfl, HS3_, HS4_⟩ (fun hHeld => ?_)
                  clear hK K
                  refine norm_ (a' := ?_) ?_ ?_
                  rotate_left
                  · show Act.put _ (some 78) _ = _
                    simp only [Act.put, List.setIfInBounds_toArray, List.set_cons_zero, List.set_cons_succ, i64_w, i32_w]
                    rfl
                  refine pz (i := 20) (N := some 79) #[Y,Y,Y,Y,Y,Y,Y,Y,Y,Y,Y,Y,Y,Y,Y,Y,Y,Y,Y,Y,Y,Z] (any_of HT_.out (by kernel_rfl)) ?_
                  refine pz (i := 21) (N := some 80) #[Y,Y,Y,Y,Y,Y,Y,Y,Y,Y,Y,Y,Y,Y,Y,Y,Y,Y,Y,Y,Y,Y] (any_of HT_.out (by kernel_rfl)) ?_
                  refine done_ (done_of HT_.out (by kernel_rfl)) ?_
                  try go_wp2
                  go_roundg k1
                  case measure => have := HK1.out; omega
                  case rel => exact ⟨(wrap64 (x10_1 + 1)), (by first | rfl | (simp; done) | (simp [*]; done)), H', ⟨by have := HK1.out; omega⟩, ⟨by (with_reducible repeat (first | apply Kd.R_alloc | apply Kd.R_drewN | apply Kd.R_drew)); exact HO_5.out⟩, ⟨by (with_reducible repeat (first | apply Kd.R_alloc | apply Kd.R_drewN | apply Kd.R_drew)); exact HO_381000.out⟩, ⟨by (with_reducible repeat (first | apply Kd.R_alloc | apply Kd.R_drewN | apply Kd.R_drew)); exact HO_386000.out⟩, ⟨by (with_reducible repeat (first | refine blk_drewN ?_ _ | refine blk_drew ?_ | refine blk_alloc ?_ _)); exact BK376.out⟩, ⟨by (with_reducible repeat (first | refine blk_drewN ?_ _ | refine blk_drew ?_ | refine blk_alloc ?_ _)); exact BK380.out⟩, ⟨by (with_reducible repeat (first | refine blk_drewN ?_ _ | refine blk_drew ?_ | refine blk_alloc ?_ _)); exact BK385.out⟩, ⟨zh3 HB GE376 GE380 GE385⟩⟩
                · rw [if_neg c38] at H
                  have c38b0 : (t395 == t399) = false := beq_eq_false_iff_ne.mpr c38
                  have c38b1 : (t395 != t399) = true := bne_iff_ne.mpr c38
                  obtain rfl := Option.some.inj H
                  obtain ⟨Ao47, co47, eo47⟩ := Kd.R_slice HO_5.out
                  subst eo47
                  try go_wp2
                  replace HO_5 := Aside0.mk (Kd.R_drew HO_5.out)
                  replace HO_381000 := Aside0.mk (Kd.R_drew HO_381000.out)
                  replace HO_386000 := Aside0.mk (Kd.R_drew HO_386000.out)
                  replace BK376 := Aside0.mk (blk_drew BK376.out)
                  replace BK380 := Aside0.mk (blk_drew BK380.out)
                  replace BK385 := Aside0.mk (blk_drew BK385.out)
                  replace HB := Aside0.mk (below_drew1 HB.out)
                  have p392 : 0 ≤ (x10_1 : Int) := of_decide_eq_true (by first | (with_reducible assumption) | assumption)
                  have q392 : x10_1 < (y389.length : Int) := of_decide_eq_true (by first | (with_reducible assumption) | assumption)
                  obtain ⟨ad392, e392, hx392_0⟩ := Kd.at_int (Kd.R_reads' HO_5.out).2.2 x10_1 p392 q392
                  cases e392
                  replace p392 := eq_true p392
                  replace q392 := eq_true q392
                  refine start_ (n := 7) (S := fun w' => w'.cell? ⟨gb380, 0, none⟩ = some (.slice Ao16 t377.length co16) ∧ w'.cell? (ad392.add (x10_1).toNat) = some (.int .i64 (rd y389 x10_1))) (ds := []) #[Z,Z,Z,Z,Z,Z,Z] (by kernel_rfl) rfl rfl ⟨(blk_cell BK380.out 0).trans rfl, hx392_0⟩ (fun hHeld => ?_)
                  generalize wr.drew = w48 at HO_5 HO_381000 HO_386000 BK376 BK380 BK385 HB hx392_0 hHeld ⊢
                  refine pz (i := 1) (N := some 48) #[Z,Y,Z,Z,Z,Z,Z] (by kernel_rfl) ?_
                  refine pz (i := 2) (N := some 49) #[Z,Y,Y,Z,Z,Z,Z] (by kernel_rfl) ?_
                  refine pz (i := 3) (N := some 50) #[Z,Y,Y,Y,Z,Z,Z] (by kernel_rfl) ?_
                  refine tz (i := 0) (N := some 47) #[Y,Y,Y,Y,Z,Z,Z] rfl (by kernel_rfl) (Or.inl ⟨by rfl, by rintro w' ⟨s0, s1⟩; go_simp; with_reducible rfl⟩) hHeld ?_
                  refine tz (i := 4) (N := some 51) #[Y,Y,Y,Y,Y,Z,Z] rfl (by kernel_rfl) (Or.inl ⟨by rfl, by rintro w' ⟨s0, s1⟩; go_simp; with_reducible rfl⟩) hHeld ?_
                  refine one_ (i := 5) (N := some 52) #[Y,Y,Y,Y,Y,Y,Z] rfl rfl (by kernel_rfl) (by decide) (fun K hK => ?_)
                  refine goes_ Try.func34 (by kernel_rfl) rfl #[.agg #[.slice Ao16 t377.length co16], .int .i64 (rd y389 x10_1)] (by rfl) rfl rfl (by (try simp only [List.map_toArray, List.map_cons, List.map_nil]); first | done | rfl | (simp only [List.length_drop, List.length_take]; rfl)) ?_
                  with_reducible refine (impl_TrieFind.calls k1 _ _ t377 (rd y389 x10_1) t393 _ ?side1 ?side2 A33.out).mono ?_
                  (case side1 => repeat (first | exact (Kd.R_reads' HO_381000.out).2.2 | (with_reducible refine Kd.C_alloc ?_ _) | (with_reducible refine Kd.C_drewN ?_ _) | (with_reducible refine Kd.C_drew ?_)))
                  (case side2 => exact (Kd.R_reads' HO_381000.out).2.1)
                  rintro e w49 ⟨rfl, hb⟩
                  have HS1_ := (hb.cell (World.block_lt_of_cell? _ _ (hHeld.2))).trans (hHeld.2)
                  refine ⟨_, rfl, ?_⟩
                  replace HO_5 := Aside0.mk (Kd.R_below (zr HO_5) hb)
                  replace HO_381000 := Aside0.mk (Kd.R_below (zr HO_381000) hb)
                  replace HO_386000 := Aside0.mk (Kd.R_below (zr HO_386000) hb)
                  replace BK376 := zk BK376 hb
                  replace BK380 := zk BK380 hb
                  replace BK385 := zk BK385 hb
                  replace HB := Aside0.mk (below_step (zh3 HB GE376 GE380 GE385) hb)
                  (try clear hb)
                  (try clear hb2)
                  (try clear hk)
                  (try clear hi)
                  refine hK.out _ _ ⟨(blk_cell BK380.out 0).trans rfl, HS1_⟩ (fun hHeld => ?_)
                  clear hK K
                  refine norm_ (a' := ?_) ?_ ?_
                  rotate_left
                  · show Act.put _ (some 52) _ = _
                    simp only [Act.put, List.setIfInBounds_toArray, List.set_cons_zero, List.set_cons_succ, i64_w, i32_w]
                    rfl
                  refine pz (i := 6) (N := some 11) #[Y,Y,Y,Y,Y,Y,Y] (by kernel_rfl) ?_
                  refine done_ (by kernel_rfl) ?_
                  try go_wp2
                  replace HO_5 := Aside0.mk (Kd.R_drew HO_5.out)
                  replace HO_381000 := Aside0.mk (Kd.R_drew HO_381000.out)
                  replace HO_386000 := Aside0.mk (Kd.R_drew HO_386000.out)
                  replace BK376 := Aside0.mk (blk_drew BK376.out)
                  replace BK380 := Aside0.mk (blk_drew BK380.out)
                  replace BK385 := Aside0.mk (blk_drew BK385.out)
                  replace HB := Aside0.mk (below_drew1 HB.out)
                  have p394 : 0 ≤ (x10_1 : Int) := of_decide_eq_true (by first | (with_reducible assumption) | assumption)
                  have q394 : x10_1 < (y389.length : Int) := of_decide_eq_true (by first | (with_reducible assumption) | assumption)
                  obtain ⟨ad394, e394, hx394_0⟩ := Kd.at_int (Kd.R_reads' HO_5.out).2.2 x10_1 p394 q394
                  obtain rfl : ad392 = ad394 := (by injection e394)
                  replace p394 := eq_true p394
                  replace q394 := eq_true q394
                  refine start_ (n := 7) (S := fun w' => w'.cell? ⟨gb385, 0, none⟩ = some (.slice Ao22 t381.length co22) ∧ w'.cell? (ad392.add (x10_1).toNat) = some (.int .i64 (rd y389 x10_1))) (ds := []) #[Z,Z,Z,Z,Z,Z,Z] (by kernel_rfl) rfl rfl ⟨(blk_cell BK385.out 0).trans rfl, hx394_0⟩ (fun hHeld => ?_)
                  generalize w49.drew = w50 at HO_5 HO_381000 HO_386000 BK376 BK380 BK385 HB hx394_0 hHeld ⊢
                  refine pz (i := 1) (N := some 54) #[Z,Y,Z,Z,Z,Z,Z] (by kernel_rfl) ?_
                  refine pz (i := 2) (N := some 55) #[Z,Y,Y,Z,Z,Z,Z] (by kernel_rfl) ?_
                  refine pz (i := 3) (N := some 56) #[Z,Y,Y,Y,Z,Z,Z] (by kernel_rfl) ?_
                  refine tz (i := 0) (N := some 53) #[Y,Y,Y,Y,Z,Z,Z] rfl (by kernel_rfl) (Or.inl ⟨by rfl, by rintro w' ⟨s0, s1⟩; go_simp; with_reducible rfl⟩) hHeld ?_
                  refine tz (i := 4) (N := some 57) #[Y,Y,Y,Y,Y,Z,Z] rfl (by kernel_rfl) (Or.inl ⟨by rfl, by rintro w' ⟨s0, s1⟩; go_simp; with_reducible rfl⟩) hHeld ?_
                  refine one_ (i := 5) (N := some 58) #[Y,Y,Y,Y,Y,Y,Z] rfl rfl (by kernel_rfl) (by decide) (fun K hK => ?_)
                  refine goes_ Try.func34 (by kernel_rfl) rfl #[.agg #[.slice Ao22 t381.length co22], .int .i64 (rd y389 x10_1)] (by rfl) rfl rfl (by (try simp only [List.map_toArray, List.map_cons, List.map_nil]); first | done | rfl | (simp only [List.length_drop, List.length_take]; rfl)) ?_
                  with_reducible refine (impl_TrieFind.calls k1 _ _ t381 (rd y389 x10_1) t395 _ ?side1 ?side2 A34.out).mono ?_
                  (case side1 => repeat (first | exact (Kd.R_reads' HO_386000.out).2.2 | (with_reducible refine Kd.C_alloc ?_ _) | (with_reducible refine Kd.C_drewN ?_ _) | (with_reducible refine Kd.C_drew ?_)))
                  (case side2 => exact (Kd.R_reads' HO_386000.out).2.1)
                  rintro e w51 ⟨rfl, hb⟩
                  have HS1_ := (hb.cell (World.block_lt_of_cell? _ _ (hHeld.2))).trans (hHeld.2)
                  refine ⟨_, rfl, ?_⟩
                  replace HO_5 := Aside0.mk (Kd.R_below (zr HO_5) hb)
                  replace HO_381000 := Aside0.mk (Kd.R_below (zr HO_381000) hb)
                  replace HO_386000 := Aside0.mk (Kd.R_below (zr HO_386000) hb)
                  replace BK376 := zk BK376 hb
                  replace BK380 := zk BK380 hb
                  replace BK385 := zk BK385 hb
                  replace HB := Aside0.mk (below_step (zh3 HB GE376 GE380 GE385) hb)
                  (try clear hb)
                  (try clear hb2)
                  (try clear hk)
                  (try clear hi)
                  refine hK.out _ _ ⟨(blk_cell BK385.out 0).trans rfl, HS1_⟩ (fun hHeld => ?_)
                  clear hK K
                  refine norm_ (a' := ?_) ?_ ?_
                  rotate_left
                  · show Act.put _ (some 58) _ = _
                    simp only [Act.put, List.setIfInBounds_toArray, List.set_cons_zero, List.set_cons_succ, i64_w, i32_w]
                    rfl
                  refine pz (i := 6) (N := some 12) #[Y,Y,Y,Y,Y,Y,Y] (by kernel_rfl) ?_
                  refine done_ (by kernel_rfl) ?_
                  try go_wp2
                  replace HO_5 := Aside0.mk (Kd.R_drew HO_5.out)
                  replace HO_381000 := Aside0.mk (Kd.R_drew HO_381000.out)
                  replace HO_386000 := Aside0.mk (Kd.R_drew HO_386000.out)
                  replace BK376 := Aside0.mk (blk_drew BK376.out)
                  replace BK380 := Aside0.mk (blk_drew BK380.out)
                  replace BK385 := Aside0.mk (blk_drew BK385.out)
                  replace HB := Aside0.mk (below_drew1 HB.out)
                  have p396 : 0 ≤ (x10_1 : Int) := of_decide_eq_true (by first | (with_reducible assumption) | assumption)
                  have q396 : x10_1 < (y389.length : Int) := of_decide_eq_true (by first | (with_reducible assumption) | assumption)
                  obtain ⟨ad396, e396, hx396_0⟩ := Kd.at_int (Kd.R_reads' HO_5.out).2.2 x10_1 p396 q396
                  obtain rfl : ad392 = ad396 := (by injection e396)
                  replace p396 := eq_true p396
                  replace q396 := eq_true q396
                  have p398 : 0 ≤ (x10_1 : Int) := of_decide_eq_true (by first | (with_reducible assumption) | assumption)
                  have q398 : x10_1 < (y389.length : Int) := of_decide_eq_true (by first | (with_reducible assumption) | assumption)
                  obtain ⟨ad398, e398, hx398_0⟩ := Kd.at_int (Kd.R_reads' HO_5.out).2.2 x10_1 p398 q398
                  obtain rfl : ad392 = ad398 := (by injection e398)
                  replace p398 := eq_true p398
                  replace q398 := eq_true q398
                  refine start_ (n := 22) (S := fun w' => w'.cell? ⟨gb376, 0, none⟩ = some (.int .i64 t374) ∧ w'.cell? ⟨gb376, 1, none⟩ = some (.int .i64 t375) ∧ w'.cell? ⟨gb385, 0, none⟩ = some (.slice Ao22 t381.length co22) ∧ w'.cell? (ad392.add (x10_1).toNat) = some (.int .i64 (rd y389 x10_1)) ∧ w'.cell? (ad392.add (x10_1).toNat) = some (.int .i64 (rd y389 x10_1))) (ds := []) #[Z,Z,Z,Z,Z,Z,Z,Z,Z,Z,Z,Z,Z,Z,Z,Z,Z,Z,Z,Z,Z,Z] (by kernel_rfl) rfl rfl ⟨(blk_cell BK376.out 0).trans rfl, (blk_cell BK376.out 1).trans rfl, (blk_cell BK385.out 0).trans rfl, hx396_0, hx398_0⟩ (fun hHeld => ?_); refine with_tabW laws_FnTriePuts.tab13 laws_FnTriePuts.bits13 (fun HT_ HW_ => ?_)
                  generalize w51.drew = w52 at HO_5 HO_381000 HO_386000 BK376 BK380 BK385 HB hx396_0 hx398_0 hHeld ⊢
                  refine pz (i := 1) (N := some 60) #[Z,Y,Z,Z,Z,Z,Z,Z,Z,Z,Z,Z,Z,Z,Z,Z,Z,Z,Z,Z,Z,Z] (any_of HT_.out (by kernel_rfl)) ?_
                  refine pz (i := 2) (N := some 61) #[Z,Y,Y,Z,Z,Z,Z,Z,Z,Z,Z,Z,Z,Z,Z,Z,Z,Z,Z,Z,Z,Z] (any_of HT_.out (by kernel_rfl)) ?_
                  refine pz (i := 3) (N := some 62) #[Z,Y,Y,Y,Z,Z,Z,Z,Z,Z,Z,Z,Z,Z,Z,Z,Z,Z,Z,Z,Z,Z] (any_of HT_.out (by kernel_rfl)) ?_
                  refine tz (i := 0) (N := some 59) #[Y,Y,Y,Y,Z,Z,Z,Z,Z,Z,Z,Z,Z,Z,Z,Z,Z,Z,Z,Z,Z,Z] rfl (take_ofW HT_.out HW_.out (by kernel_rfl)) (Or.inl ⟨by rfl, by rintro w' ⟨s0, s1, s2, s3, s4⟩; go_simp; with_reducible rfl⟩) hHeld ?_
                  refine tz (i := 4) (N := some 63) #[Y,Y,Y,Y,Y,Z,Z,Z,Z,Z,Z,Z,Z,Z,Z,Z,Z,Z,Z,Z,Z,Z] rfl (take_ofW HT_.out HW_.out (by kernel_rfl)) (Or.inl ⟨by rfl, by rintro w' ⟨s0, s1, s2, s3, s4⟩; go_simp; with_reducible rfl⟩) hHeld ?_
                  refine one_ (i := 5) (N := some 64) #[Y,Y,Y,Y,Y,Y,Z,Z,Z,Z,Z,Z,Z,Z,Z,Z,Z,Z,Z,Z,Z,Z] rfl rfl (one_of HT_.out (by kernel_rfl)) (by decide) (fun K hK => ?_)
                  refine goes_ Try.func38 (by kernel_rfl) rfl #[.agg #[.int .i64 t374, .int .i64 t375], .int .i64 (rd y389 x10_1)] (by rfl) rfl rfl (by (try simp only [List.map_toArray, List.map_cons, List.map_nil]); first | done | rfl | (simp only [List.length_drop, List.length_take]; rfl)) ?_
                  with_reducible refine (spec_InPrefix.calls k1 t374 t375 (rd y389 x10_1) true _ A35.out).mono ?_
                  rintro e w53 ⟨rfl, hb⟩
                  have HS3_ := (hb.cell (World.block_lt_of_cell? _ _ (hHeld.2.2.2.1))).trans (hHeld.2.2.2.1)
                  have HS4_ := (hb.cell (World.block_lt_of_cell? _ _ (hHeld.2.2.2.2))).trans (hHeld.2.2.2.2)
                  refine ⟨_, rfl, ?_⟩
                  replace HO_5 := Aside0.mk (Kd.R_below (zr HO_5) hb)
                  replace HO_381000 := Aside0.mk (Kd.R_below (zr HO_381000) hb)
                  replace HO_386000 := Aside0.mk (Kd.R_below (zr HO_386000) hb)
                  replace BK376 := zk BK376 hb
                  replace BK380 := zk BK380 hb
                  replace BK385 := zk BK385 hb
                  replace HB := Aside0.mk (below_step (zh3 HB GE376 GE380 GE385) hb)
                  (try clear hb)
                  (try clear hb2)
                  (try clear hk)
                  (try clear hi)
                  refine hK.out _ _ ⟨(blk_cell BK376.out 0).trans rfl, (blk_cell BK376.out 1).trans rfl, (blk_cell BK385.out 0).trans rfl, HS3_, HS4_⟩ (fun hHeld => ?_)
                  clear hK K
                  refine norm_ (a' := ?_) ?_ ?_
                  rotate_left
                  · show Act.put _ (some 64) _ = _
                    simp only [Act.put, List.setIfInBounds_toArray, List.set_cons_zero, List.set_cons_succ, i64_w, i32_w]
                    rfl
                  refine pz (i := 6) (N := some 65) #[Y,Y,Y,Y,Y,Y,Y,Z,Z,Z,Z,Z,Z,Z,Z,Z,Z,Z,Z,Z,Z,Z] (any_of HT_.out (by kernel_rfl)) ?_
                  refine pz (i := 7) (N := some 66) #[Y,Y,Y,Y,Y,Y,Y,Y,Z,Z,Z,Z,Z,Z,Z,Z,Z,Z,Z,Z,Z,Z] (any_of HT_.out (by kernel_rfl)) ?_
                  refine pu (i := 8) (N := some 67) #[Y,Y,Y,Y,Y,Y,Y,Y,Y,Z,Z,Z,Z,Z,Z,Z,Z,Z,Z,Z,Z,Z] (any_of HT_.out (by kernel_rfl)) ?_
                  refine pu (i := 9) (N := some 68) #[Y,Y,Y,Y,Y,Y,Y,Y,Y,Y,Z,Z,Z,Z,Z,Z,Z,Z,Z,Z,Z,Z] (any_of HT_.out (by kernel_rfl)) ?_
                  refine pu (i := 10) (N := some 69) #[Y,Y,Y,Y,Y,Y,Y,Y,Y,Y,Y,Z,Z,Z,Z,Z,Z,Z,Z,Z,Z,Z] (any_of HT_.out (by kernel_rfl)) ?_
                  refine pz (i := 11) (N := some 70) #[Y,Y,Y,Y,Y,Y,Y,Y,Y,Y,Y,Y,Z,Z,Z,Z,Z,Z,Z,Z,Z,Z] (any_of HT_.out (by kernel_rfl)) ?_
                  refine pz (i := 12) (N := some 71) #[Y,Y,Y,Y,Y,Y,Y,Y,Y,Y,Y,Y,Y,Z,Z,Z,Z,Z,Z,Z,Z,Z] (any_of HT_.out (by kernel_rfl)) ?_
                  refine pz (i := 13) (N := some 72) #[Y,Y,Y,Y,Y,Y,Y,Y,Y,Y,Y,Y,Y,Y,Z,Z,Z,Z,Z,Z,Z,Z] (any_of HT_.out (by kernel_rfl)) ?_
                  refine pz (i := 15) (N := some 74) #[Y,Y,Y,Y,Y,Y,Y,Y,Y,Y,Y,Y,Y,Y,Z,Y,Z,Z,Z,Z,Z,Z] (any_of HT_.out (by kernel_rfl)) ?_
                  refine pz (i := 16) (N := some 75) #[Y,Y,Y,Y,Y,Y,Y,Y,Y,Y,Y,Y,Y,Y,Z,Y,Y,Z,Z,Z,Z,Z] (any_of HT_.out (by kernel_rfl)) ?_
                  refine pz (i := 17) (N := some 76) #[Y,Y,Y,Y,Y,Y,Y,Y,Y,Y,Y,Y,Y,Y,Z,Y,Y,Y,Z,Z,Z,Z] (any_of HT_.out (by kernel_rfl)) ?_
                  refine tz (i := 14) (N := some 73) #[Y,Y,Y,Y,Y,Y,Y,Y,Y,Y,Y,Y,Y,Y,Y,Y,Y,Y,Z,Z,Z,Z] rfl (take_ofW HT_.out HW_.out (by kernel_rfl)) (Or.inl ⟨by rfl, by rintro w' ⟨s0, s1, s2, s3, s4⟩; go_simp; with_reducible rfl⟩) hHeld ?_
                  refine tz (i := 18) (N := some 77) #[Y,Y,Y,Y,Y,Y,Y,Y,Y,Y,Y,Y,Y,Y,Y,Y,Y,Y,Y,Z,Z,Z] rfl (take_ofW HT_.out HW_.out (by kernel_rfl)) (Or.inl ⟨by rfl, by rintro w' ⟨s0, s1, s2, s3, s4⟩; go_simp; with_reducible rfl⟩) hHeld ?_
                  refine one_ (i := 19) (N := some 78) #[Y,Y,Y,Y,Y,Y,Y,Y,Y,Y,Y,Y,Y,Y,Y,Y,Y,Y,Y,Y,Z,Z] rfl rfl (one_of HT_.out (by kernel_rfl)) (by decide) (fun K hK => ?_)
                  refine goes_ Try.func32 (by kernel_rfl) rfl #[.agg #[.slice Ao22 t381.length co22], .int .i64 (rd y389 x10_1)] (by rfl) rfl rfl (by (try simp only [List.map_toArray, List.map_cons, List.map_nil]); first | done | rfl | (simp only [List.length_drop, List.length_take]; rfl)) ?_
                  with_reducible refine (spec_TrieFind.calls k1 _ _ t381 (rd y389 x10_1) t399 _ ?side1 ?side2 A37.out).mono ?_
                  (case side1 => repeat (first | exact (Kd.R_reads' HO_386000.out).2.2 | (with_reducible refine Kd.C_alloc ?_ _) | (with_reducible refine Kd.C_drewN ?_ _) | (with_reducible refine Kd.C_drew ?_)))
                  (case side2 => exact (Kd.R_reads' HO_386000.out).2.1)
                  rintro e w54 ⟨rfl, hb⟩
                  have HS3_ := (hb.cell (World.block_lt_of_cell? _ _ (hHeld.2.2.2.1))).trans (hHeld.2.2.2.1)
                  have HS4_ := (hb.cell (World.block_lt_of_cell? _ _ (hHeld.2.2.2.2))).trans (hHeld.2.2.2.2)
                  refine ⟨_, rfl, ?_⟩
                  replace HO_5 := Aside0.mk (Kd.R_below (zr HO_5) hb)
                  replace HO_381000 := Aside0.mk (Kd.R_below (zr HO_381000) hb)
                  replace HO_386000 := Aside0.mk (Kd.R_below (zr HO_386000) hb)
                  replace BK376 := zk BK376 hb
                  replace BK380 := zk BK380 hb
                  replace BK385 := zk BK385 hb
                  replace HB := Aside0.mk (below_step (zh3 HB GE376 GE380 GE385) hb)
                  (try clear hb)
                  (try clear hb2)
                  (try clear hk)
                  (try clear hi)
                  refine hK.out _ _ ⟨(blk_cell BK376.out 0).trans rfl, (blk_cell BK376.out 1).trans rfl, (blk_cell BK385.out 0).trans rfl, HS3_, HS4_⟩ (fun hHeld => ?_)
                  clear hK K
                  refine norm_ (a' := ?_) ?_ ?_
                  rotate_left
                  · show Act.put _ (some 78) _ = _
                    simp only [Act.put, List.setIfInBounds_toArray, List.set_cons_zero, List.set_cons_succ, i64_w, i32_w]
                    rfl
                  refine pz (i := 20) (N := some 79) #[Y,Y,Y,Y,Y,Y,Y,Y,Y,Y,Y,Y,Y,Y,Y,Y,Y,Y,Y,Y,Y,Z] (any_of HT_.out (by kernel_rfl)) ?_
                  refine pz (i := 21) (N := some 80) #[Y,Y,Y,Y,Y,Y,Y,Y,Y,Y,Y,Y,Y,Y,Y,Y,Y,Y,Y,Y,Y,Y] (any_of HT_.out (by kernel_rfl)) ?_
                  refine done_ (done_of HT_.out (by kernel_rfl)) ?_
                  try go_wp2
                  go_ret
                  exact ⟨by first | rfl | (simp [errW_none, errW_some] <;> rfl) | (simp [*, errW_none, errW_some] <;> rfl), zh3 HB GE376 GE380 GE385⟩
              · replace c36 := Bool.eq_false_iff.mpr c36
                subst c36
                have H1 : (if t393 = t395 then ((spec_TrieFind.f k1 t381 (rd y389 x10_1)).bind fun t401 => (if t395 = t401 then (laws_FnTriePuts.l0 k1 y389 t384 (wrap64 (x10_1 + 1)) t374 t375 t377 t381) else (some false))) else (some false)) = some r := by rw [if_neg (show ¬ (false = true) by decide)] at H; exact H
                clear H
                have H := H1
                clear H1
                by_cases c55 : t393 = t395
                · rw [if_pos c55] at H
                  have c55b0 : (t393 == t395) = true := beq_iff_eq.mpr c55
                  have c55b1 : (t393 != t395) = false := bne_eq_false_iff_eq.mpr c55
                  clear c55
                  replace H := Option.bind_eq_some_iff.mp H
                  obtain ⟨t401, A560, H⟩ := H
                  replace H : (if t395 = t401 then (laws_FnTriePuts.l0 k1 y389 t384 (wrap64 (x10_1 + 1)) t374 t375 t377 t381) else (some false)) = some r := H
                  have A56 := Aside0.mk A560
                  clear A560
                  by_cases c57 : t395 = t401
                  · rw [if_pos c57] at H
                    have c57b0 : (t395 == t401) = true := beq_iff_eq.mpr c57
                    have c57b1 : (t395 != t401) = false := bne_eq_false_iff_eq.mpr c57
                    clear c57
                    have H' := Aside0.mk H
                    clear H
                    obtain ⟨Ao58, co58, eo58⟩ := Kd.R_slice HO_5.out
                    subst eo58
                    try go_wp2
                    replace HO_5 := Aside0.mk (Kd.R_drew HO_5.out)
                    replace HO_381000 := Aside0.mk (Kd.R_drew HO_381000.out)
                    replace HO_386000 := Aside0.mk (Kd.R_drew HO_386000.out)
                    replace BK376 := Aside0.mk (blk_drew BK376.out)
                    replace BK380 := Aside0.mk (blk_drew BK380.out)
                    replace BK385 := Aside0.mk (blk_drew BK385.out)
                    replace HB := Aside0.mk (below_drew1 HB.out)
                    have p392 : 0 ≤ (x10_1 : Int) := of_decide_eq_true (by first | (with_reducible assumption) | assumption)
                    have q392 : x10_1 < (y389.length : Int) := of_decide_eq_true (by first | (with_reducible assumption) | assumption)
                    obtain ⟨ad392, e392, hx392_0⟩ := Kd.at_int (Kd.R_reads' HO_5.out).2.2 x10_1 p392 q392
                    cases e392
                    replace p392 := eq_true p392
                    replace q392 := eq_true q392
                    refine start_ (n := 7) (S := fun w' => w'.cell? ⟨gb380, 0, none⟩ = some (.slice Ao16 t377.length co16) ∧ w'.cell? (ad392.add (x10_1).toNat) = some (.int .i64 (rd y389 x10_1))) (ds := []) #[Z,Z,Z,Z,Z,Z,Z] (by kernel_rfl) rfl rfl ⟨(blk_cell BK380.out 0).trans rfl, hx392_0⟩ (fun hHeld => ?_)
                    generalize wr.drew = w59 at HO_5 HO_381000 HO_386000 BK376 BK380 BK385 HB hx392_0 hHeld ⊢
                    refine pz (i := 1) (N := some 48) #[Z,Y,Z,Z,Z,Z,Z] (by kernel_rfl) ?_
                    refine pz (i := 2) (N := some 49) #[Z,Y,Y,Z,Z,Z,Z] (by kernel_rfl) ?_
                    refine pz (i := 3) (N := some 50) #[Z,Y,Y,Y,Z,Z,Z] (by kernel_rfl) ?_
                    refine tz (i := 0) (N := some 47) #[Y,Y,Y,Y,Z,Z,Z] rfl (by kernel_rfl) (Or.inl ⟨by rfl, by rintro w' ⟨s0, s1⟩; go_simp; with_reducible rfl⟩) hHeld ?_
                    refine tz (i := 4) (N := some 51) #[Y,Y,Y,Y,Y,Z,Z] rfl (by kernel_rfl) (Or.inl ⟨by rfl, by rintro w' ⟨s0, s1⟩; go_simp; with_reducible rfl⟩) hHeld ?_
                    refine one_ (i := 5) (N := some 52) #[Y,Y,Y,Y,Y,Y,Z] rfl rfl (by kernel_rfl) (by decide) (fun K hK => ?_)
                    refine goes_ Try.func34 (by kernel_rfl) rfl #[.agg #[.slice Ao16 t377.length co16], .int .i64 (rd y389 x10_1)] (by rfl) rfl rfl (by (try simp only [List.map_toArray, List.map_cons, List.map_nil]); first | done | rfl | (simp only [List.length_drop, List.length_take]; rfl)) ?_
                    with_reducible refine (impl_TrieFind.calls k1 _ _ t377 (rd y389 x10_1) t393 _ ?side1 ?side2 A33.out).mono ?_
                    (case side1 => repeat (first | exact (Kd.R_reads' HO_381000.out).2.2 | (with_reducible refine Kd.C_alloc ?_ _) | (with_reducible refine Kd.C_drewN ?_ _) | (with_reducible refine Kd.C_drew ?_)))
                    (case side2 => exact (Kd.R_reads' HO_381000.out).2.1)
                    rintro e w60 ⟨rfl, hb⟩
                    have HS1_ := (hb.cell (World.block_lt_of_cell? _ _ (hHeld.2))).trans (hHeld.2)
                    refine ⟨_, rfl, ?_⟩
                    replace HO_5 := Aside0.mk (Kd.R_below (zr HO_5) hb)
                    replace HO_381000 := Aside0.mk (Kd.R_below (zr HO_381000) hb)
                    replace HO_386000 := Aside0.mk (Kd.R_below (zr HO_386000) hb)
                    replace BK376 := zk BK376 hb
                    replace BK380 := zk BK380 hb
                    replace BK385 := zk BK385 hb
                    replace HB := Aside0.mk (below_step (zh3 HB GE376 GE380 GE385) hb)
                    (try clear hb)
                    (try clear hb2)
                    (try clear hk)
                    (try clear hi)
                    refine hK.out _ _ ⟨(blk_cell BK380.out 0).trans rfl, HS1_⟩ (fun hHeld => ?_)
                    clear hK K
                    refine norm_ (a' := ?_) ?_ ?_
                    rotate_left
                    · show Act.put _ (some 52) _ = _
                      simp only [Act.put, List.setIfInBounds_toArray, List.set_cons_zero, List.set_cons_succ, i64_w, i32_w]
                      rfl
                    refine pz (i := 6) (N := some 11) #[Y,Y,Y,Y,Y,Y,Y] (by kernel_rfl) ?_
                    refine done_ (by kernel_rfl) ?_
                    try go_wp2
                    replace HO_5 := Aside0.mk (Kd.R_drew HO_5.out)
                    replace HO_381000 := Aside0.mk (Kd.R_drew HO_381000.out)
                    replace HO_386000 := Aside0.mk (Kd.R_drew HO_386000.out)
                    replace BK376 := Aside0.mk (blk_drew BK376.out)
                    replace BK380 := Aside0.mk (blk_drew BK380.out)
                    replace BK385 := Aside0.mk (blk_drew BK385.out)
                    replace HB := Aside0.mk (below_drew1 HB.out)
                    have p394 : 0 ≤ (x10_1 : Int) := of_decide_eq_true (by first | (with_reducible assumption) | assumption)
                    have q394 : x10_1 < (y389.length : Int) := of_decide_eq_true (by first | (with_reducible assumption) | assumption)
                    obtain ⟨ad394, e394, hx394_0⟩ := Kd.at_int (Kd.R_reads' HO_5.out).2.2 x10_1 p394 q394
                    obtain rfl : ad392 = ad394 := (by injection e394)
                    replace p394 := eq_true p394
                    replace q394 := eq_true q394
                    refine start_ (n := 7) (S := fun w' => w'.cell? ⟨gb385, 0, none⟩ = some (.slice Ao22 t381.length co22) ∧ w'.cell? (ad392.add (x10_1).toNat) = some (.int .i64 (rd y389 x10_1))) (ds := []) #[Z,Z,Z,Z,Z,Z,Z] (by kernel_rfl) rfl rfl ⟨(blk_cell BK385.out 0).trans rfl, hx394_0⟩ (fun hHeld => ?_)
                    generalize w60.drew = w61 at HO_5 HO_381000 HO_386000 BK376 BK380 BK385 HB hx394_0 hHeld ⊢
                    refine pz (i := 1) (N := some 54) #[Z,Y,Z,Z,Z,Z,Z] (by kernel_rfl) ?_
                    refine pz (i := 2) (N := some 55) #[Z,Y,Y,Z,Z,Z,Z] (by kernel_rfl) ?_
                    refine pz (i := 3) (N := some 56) #[Z,Y,Y,Y,Z,Z,Z] (by kernel_rfl) ?_
                    refine tz (i := 0) (N := some 53) #[Y,Y,Y,Y,Z,Z,Z] rfl (by kernel_rfl) (Or.inl ⟨by rfl, by rintro w' ⟨s0, s1⟩; go_simp; with_reducible rfl⟩) hHeld ?_
                    refine tz (i := 4) (N := some 57) #[Y,Y,Y,Y,Y,Z,Z] rfl (by kernel_rfl) (Or.inl ⟨by rfl, by rintro w' ⟨s0, s1⟩; go_simp; with_reducible rfl⟩) hHeld ?_
                    refine one_ (i := 5) (N := some 58) #[Y,Y,Y,Y,Y,Y,Z] rfl rfl (by kernel_rfl) (by decide) (fun K hK => ?_)
                    refine goes_ Try.func34 (by kernel_rfl) rfl #[.agg #[.slice Ao22 t381.length co22], .int .i64 (rd y389 x10_1)] (by rfl) rfl rfl (by (try simp only [List.map_toArray, List.map_cons, List.map_nil]); first | done | rfl | (simp only [List.length_drop, List.length_take]; rfl)) ?_
                    with_reducible refine (impl_TrieFind.calls k1 _ _ t381 (rd y389 x10_1) t395 _ ?side1 ?side2 A34.out).mono ?_
                    (case side1 => repeat (first | exact (Kd.R_reads' HO_386000.out).2.2 | (with_reducible refine Kd.C_alloc ?_ _) | (with_reducible refine Kd.C_drewN ?_ _) | (with_reducible refine Kd.C_drew ?_)))
                    (case side2 => exact (Kd.R_reads' HO_386000.out).2.1)
                    rintro e w62 ⟨rfl, hb⟩
                    have HS1_ := (hb.cell (World.block_lt_of_cell? _ _ (hHeld.2))).trans (hHeld.2)
                    refine ⟨_, rfl, ?_⟩
                    replace HO_5 := Aside0.mk (Kd.R_below (zr HO_5) hb)
                    replace HO_381000 := Aside0.mk (Kd.R_below (zr HO_381000) hb)
                    replace HO_386000 := Aside0.mk (Kd.R_below (zr HO_386000) hb)
                    replace BK376 := zk BK376 hb
                    replace BK380 := zk BK380 hb
                    replace BK385 := zk BK385 hb
                    replace HB := Aside0.mk (below_step (zh3 HB GE376 GE380 GE385) hb)
                    (try clear hb)
                    (try clear hb2)
                    (try clear hk)
                    (try clear hi)
                    refine hK.out _ _ ⟨(blk_cell BK385.out 0).trans rfl, HS1_⟩ (fun hHeld => ?_)
                    clear hK K
                    refine norm_ (a' := ?_) ?_ ?_
                    rotate_left
                    · show Act.put _ (some 58) _ = _
                      simp only [Act.put, List.setIfInBounds_toArray, List.set_cons_zero, List.set_cons_succ, i64_w, i32_w]
                      rfl
                    refine pz (i := 6) (N := some 12) #[Y,Y,Y,Y,Y,Y,Y] (by kernel_rfl) ?_
                    refine done_ (by kernel_rfl) ?_
                    try go_wp2
                    replace HO_5 := Aside0.mk (Kd.R_drew HO_5.out)
                    replace HO_381000 := Aside0.mk (Kd.R_drew HO_381000.out)
                    replace HO_386000 := Aside0.mk (Kd.R_drew HO_386000.out)
                    replace BK376 := Aside0.mk (blk_drew BK376.out)
                    replace BK380 := Aside0.mk (blk_drew BK380.out)
                    replace BK385 := Aside0.mk (blk_drew BK385.out)
                    replace HB := Aside0.mk (below_drew1 HB.out)
                    have p396 : 0 ≤ (x10_1 : Int) := of_decide_eq_true (by first | (with_reducible assumption) | assumption)
                    have q396 : x10_1 < (y389.length : Int) := of_decide_eq_true (by first | (with_reducible assumption) | assumption)
                    obtain ⟨ad396, e396, hx396_0⟩ := Kd.at_int (Kd.R_reads' HO_5.out).2.2 x10_1 p396 q396
                    obtain rfl : ad392 = ad396 := (by injection e396)
                    replace p396 := eq_true p396
                    replace q396 := eq_true q396
                    have p400 : 0 ≤ (x10_1 : Int) := of_decide_eq_true (by first | (with_reducible assumption) | assumption)
                    have q400 : x10_1 < (y389.length : Int) := of_decide_eq_true (by first | (with_reducible assumption) | assumption)
                    obtain ⟨ad400, e400, hx400_0⟩ := Kd.at_int (Kd.R_reads' HO_5.out).2.2 x10_1 p400 q400
                    obtain rfl : ad392 = ad400 := (by injection e400)
                    replace p400 := eq_true p400
                    replace q400 := eq_true q400
                    refine start_ (n := 22) (S := fun w' => w'.cell? ⟨gb376, 0, none⟩ = some (.int .i64 t374) ∧ w'.cell? ⟨gb376, 1, none⟩ = some (.int .i64 t375) ∧ w'.cell? ⟨gb385, 0, none⟩ = some (.slice Ao22 t381.length co22) ∧ w'.cell? (ad392.add (x10_1).toNat) = some (.int .i64 (rd y389 x10_1)) ∧ w'.cell? (ad392.add (x10_1).toNat) = some (.int .i64 (rd y389 x10_1))) (ds := []) #[Z,Z,Z,Z,Z,Z,Z,Z,Z,Z,Z,Z,Z,Z,Z,Z,Z,Z,Z,Z,Z,Z] (by kernel_rfl) rfl rfl ⟨(blk_cell BK376.out 0).trans rfl, (blk_cell BK376.out 1).trans rfl, (blk_cell BK385.out 0).trans rfl, hx396_0, hx400_0⟩ (fun hHeld => ?_); refine with_tabW laws_FnTriePuts.tab13 laws_FnTriePuts.bits13 (fun HT_ HW_ => ?_)
                    generalize w62.drew = w63 at HO_5 HO_381000 HO_386000 BK376 BK380 BK385 HB hx396_0 hx400_0 hHeld ⊢
                    refine pz (i := 1) (N := some 60) #[Z,Y,Z,Z,Z,Z,Z,Z,Z,Z,Z,Z,Z,Z,Z,Z,Z,Z,Z,Z,Z,Z] (any_of HT_.out (by kernel_rfl)) ?_
                    refine pz (i := 2) (N := some 61) #[Z,Y,Y,Z,Z,Z,Z,Z,Z,Z,Z,Z,Z,Z,Z,Z,Z,Z,Z,Z,Z,Z] (any_of HT_.out (by kernel_rfl)) ?_
                    refine pz (i := 3) (N := some 62) #[Z,Y,Y,Y,Z,Z,Z,Z,Z,Z,Z,Z,Z,Z,Z,Z,Z,Z,Z,Z,Z,Z] (any_of HT_.out (by kernel_rfl)) ?_
                    refine tz (i := 0) (N := some 59) #[Y,Y,Y,Y,Z,Z,Z,Z,Z,Z,Z,Z,Z,Z,Z,Z,Z,Z,Z,Z,Z,Z] rfl (take_ofW HT_.out HW_.out (by kernel_rfl)) (Or.inl ⟨by rfl, by rintro w' ⟨s0, s1, s2, s3, s4⟩; go_simp; with_reducible rfl⟩) hHeld ?_
                    refine tz (i := 4) (N := some 63) #[Y,Y,Y,Y,Y,Z,Z,Z,Z,Z,Z,Z,Z,Z,Z,Z,Z,Z,Z,Z,Z,Z] rfl (take_ofW HT_.out HW_.out (by kernel_rfl)) (Or.inl ⟨by rfl, by rintro w' ⟨s0, s1, s2, s3, s4⟩; go_simp; with_reducible rfl⟩) hHeld ?_
                    refine one_ (i := 5) (N := some 64) #[Y,Y,Y,Y,Y,Y,Z,Z,Z,Z,Z,Z,Z,Z,Z,Z,Z,Z,Z,Z,Z,Z] rfl rfl (one_of HT_.out (by kernel_rfl)) (by decide) (fun K hK => ?_)
                    refine goes_ Try.func38 (by kernel_rfl) rfl #[.agg #[.int .i64 t374, .int .i64 t375], .int .i64 (rd y389 x10_1)] (by rfl) rfl rfl (by (try simp only [List.map_toArray, List.map_cons, List.map_nil]); first | done | rfl | (simp only [List.length_drop, List.length_take]; rfl)) ?_
                    with_reducible refine (spec_InPrefix.calls k1 t374 t375 (rd y389 x10_1) false _ A35.out).mono ?_
                    rintro e w64 ⟨rfl, hb⟩
                    have HS3_ := (hb.cell (World.block_lt_of_cell? _ _ (hHeld.2.2.2.1))).trans (hHeld.2.2.2.1)
                    have HS4_ := (hb.cell (World.block_lt_of_cell? _ _ (hHeld.2.2.2.2))).trans (hHeld.2.2.2.2)
                    refine ⟨_, rfl, ?_⟩
                    replace HO_5 := Aside0.mk (Kd.R_below (zr HO_5) hb)
                    replace HO_381000 := Aside0.mk (Kd.R_below (zr HO_381000) hb)
                    replace HO_386000 := Aside0.mk (Kd.R_below (zr HO_386000) hb)
                    replace BK376 := zk BK376 hb
                    replace BK380 := zk BK380 hb
                    replace BK385 := zk BK385 hb
                    replace HB := Aside0.mk (below_step (zh3 HB GE376 GE380 GE385) hb)
                    (try clear hb)
                    (try clear hb2)
                    (try clear hk)
                    (try clear hi)
                    refine hK.out _ _ ⟨(blk_cell BK376.out 0).trans rfl, (blk_cell BK376.out 1).trans rfl, (blk_cell BK385.out 0).trans rfl, HS3_, HS4_⟩ (fun hHeld => ?_)
                    clear hK K
                    refine norm_ (a' := ?_) ?_ ?_
                    rotate_left
                    · show Act.put _ (some 64) _ = _
                      simp only [Act.put, List.setIfInBounds_toArray, List.set_cons_zero, List.set_cons_succ, i64_w, i32_w]
                      rfl
                    refine pz (i := 6) (N := some 65) #[Y,Y,Y,Y,Y,Y,Y,Z,Z,Z,Z,Z,Z,Z,Z,Z,Z,Z,Z,Z,Z,Z] (any_of HT_.out (by kernel_rfl)) ?_
                    refine pz (i := 7) (N := some 66) #[Y,Y,Y,Y,Y,Y,Y,Y,Z,Z,Z,Z,Z,Z,Z,Z,Z,Z,Z,Z,Z,Z] (any_of HT_.out (by kernel_rfl)) ?_
                    refine pz (i := 8) (N := some 67) #[Y,Y,Y,Y,Y,Y,Y,Y,Y,Z,Z,Z,Z,Z,Z,Z,Z,Z,Z,Z,Z,Z] (any_of HT_.out (by kernel_rfl)) ?_
                    refine pz (i := 9) (N := some 68) #[Y,Y,Y,Y,Y,Y,Y,Y,Y,Y,Z,Z,Z,Z,Z,Z,Z,Z,Z,Z,Z,Z] (any_of HT_.out (by kernel_rfl)) ?_
                    refine pz (i := 10) (N := some 69) #[Y,Y,Y,Y,Y,Y,Y,Y,Y,Y,Y,Z,Z,Z,Z,Z,Z,Z,Z,Z,Z,Z] (any_of HT_.out (by kernel_rfl)) ?_
                    refine pz (i := 11) (N := some 70) #[Y,Y,Y,Y,Y,Y,Y,Y,Y,Y,Y,Y,Z,Z,Z,Z,Z,Z,Z,Z,Z,Z] (any_of HT_.out (by kernel_rfl)) ?_
                    refine pz (i := 12) (N := some 71) #[Y,Y,Y,Y,Y,Y,Y,Y,Y,Y,Y,Y,Y,Z,Z,Z,Z,Z,Z,Z,Z,Z] (any_of HT_.out (by kernel_rfl)) ?_
                    refine pz (i := 13) (N := some 72) #[Y,Y,Y,Y,Y,Y,Y,Y,Y,Y,Y,Y,Y,Y,Z,Z,Z,Z,Z,Z,Z,Z] (any_of HT_.out (by kernel_rfl)) ?_
                    refine pz (i := 15) (N := some 74) #[Y,Y,Y,Y,Y,Y,Y,Y,Y,Y,Y,Y,Y,Y,Z,Y,Z,Z,Z,Z,Z,Z] (any_of HT_.out (by kernel_rfl)) ?_
                    refine pz (i := 16) (N := some 75) #[Y,Y,Y,Y,Y,Y,Y,Y,Y,Y,Y,Y,Y,Y,Z,Y,Y,Z,Z,Z,Z,Z] (any_of HT_.out (by kernel_rfl)) ?_
                    refine pz (i := 17) (N := some 76) #[Y,Y,Y,Y,Y,Y,Y,Y,Y,Y,Y,Y,Y,Y,Z,Y,Y,Y,Z,Z,Z,Z] (any_of HT_.out (by kernel_rfl)) ?_
                    refine tz (i := 14) (N := some 73) #[Y,Y,Y,Y,Y,Y,Y,Y,Y,Y,Y,Y,Y,Y,Y,Y,Y,Y,Z,Z,Z,Z] rfl (take_ofW HT_.out HW_.out (by kernel_rfl)) (Or.inl ⟨by rfl, by rintro w' ⟨s0, s1, s2, s3, s4⟩; go_simp; with_reducible rfl⟩) hHeld ?_
                    refine tz (i := 18) (N := some 77) #[Y,Y,Y,Y,Y,Y,Y,Y,Y,Y,Y,Y,Y,Y,Y,Y,Y,Y,Y,Z,Z,Z] rfl (take_ofW HT_.out HW_.out (by kernel_rfl)) (Or.inl ⟨by rfl, by rintro w' ⟨s0, s1, s2, s3, s4⟩; go_simp; with_reducible rfl⟩) hHeld ?_
                    refine one_ (i := 19) (N := some 78) #[Y,Y,Y,Y,Y,Y,Y,Y,Y,Y,Y,Y,Y,Y,Y,Y,Y,Y,Y,Y,Z,Z] rfl rfl (one_of HT_.out (by kernel_rfl)) (by decide) (fun K hK => ?_)
                    refine goes_ Try.func32 (by kernel_rfl) rfl #[.agg #[.slice Ao22 t381.length co22], .int .i64 (rd y389 x10_1)] (by rfl) rfl rfl (by (try simp only [List.map_toArray, List.map_cons, List.map_nil]); first | done | rfl | (simp only [List.length_drop, List.length_take]; rfl)) ?_
                    with_reducible refine (spec_TrieFind.calls k1 _ _ t381 (rd y389 x10_1) t401 _ ?side1 ?side2 A56.out).mono ?_
                    (case side1 => repeat (first | exact (Kd.R_reads' HO_386000.out).2.2 | (with_reducible refine Kd.C_alloc ?_ _) | (with_reducible refine Kd.C_drewN ?_ _) | (with_reducible refine Kd.C_drew ?_)))
                    (case side2 => exact (Kd.R_reads' HO_386000.out).2.1)
                    rintro e w65 ⟨rfl, hb⟩
                    have HS3_ := (hb.cell (World.block_lt_of_cell? _ _ (hHeld.2.2.2.1))).trans (hHeld.2.2.2.1)
                    have HS4_ := (hb.cell (World.block_lt_of_cell? _ _ (hHeld.2.2.2.2))).trans (hHeld.2.2.2.2)
                    refine ⟨_, rfl, ?_⟩
                    replace HO_5 := Aside0.mk (Kd.R_below (zr HO_5) hb)
                    replace HO_381000 := Aside0.mk (Kd.R_below (zr HO_381000) hb)
                    replace HO_386000 := Aside0.mk (Kd.R_below (zr HO_386000) hb)
                    replace BK376 := zk BK376 hb
                    replace BK380 := zk BK380 hb
                    replace BK385 := zk BK385 hb
                    replace HB := Aside0.mk (below_step (zh3 HB GE376 GE380 GE385) hb)
                    (try clear hb)
                    (try clear hb2)
                    (try clear hk)
                    (try clear hi)
                    refine hK.out _ _ ⟨(blk_cell BK376.out 0).trans rfl, (blk_cell BK376.out 1).trans rfl, (blk_cell BK385.out 0).trans rfl, HS3_, HS4_⟩ (fun hHeld => ?_)
                    clear hK K
                    refine norm_ (a' := ?_) ?_ ?_
                    rotate_left
                    · show Act.put _ (some 78) _ = _
                      simp only [Act.put, List.setIfInBounds_toArray, List.set_cons_zero, List.set_cons_succ, i64_w, i32_w]
                      rfl
                    refine pz (i := 20) (N := some 79) #[Y,Y,Y,Y,Y,Y,Y,Y,Y,Y,Y,Y,Y,Y,Y,Y,Y,Y,Y,Y,Y,Z] (any_of HT_.out (by kernel_rfl)) ?_
                    refine pz (i := 21) (N := some 80) #[Y,Y,Y,Y,Y,Y,Y,Y,Y,Y,Y,Y,Y,Y,Y,Y,Y,Y,Y,Y,Y,Y] (any_of HT_.out (by kernel_rfl)) ?_
                    refine done_ (done_of HT_.out (by kernel_rfl)) ?_
                    try go_wp2
                    go_roundg k1
                    case measure => have := HK1.out; omega
                    case rel => exact ⟨(wrap64 (x10_1 + 1)), (by first | rfl | (simp; done) | (simp [*]; done)), H', ⟨by have := HK1.out; omega⟩, ⟨by (with_reducible repeat (first | apply Kd.R_alloc | apply Kd.R_drewN | apply Kd.R_drew)); exact HO_5.out⟩, ⟨by (with_reducible repeat (first | apply Kd.R_alloc | apply Kd.R_drewN | apply Kd.R_drew)); exact HO_381000.out⟩, ⟨by (with_reducible repeat (first | apply Kd.R_alloc | apply Kd.R_drewN | apply Kd.R_drew)); exact HO_386000.out⟩, ⟨by (with_reducible repeat (first | refine blk_drewN ?_ _ | refine blk_drew ?_ | refine blk_alloc ?_ _)); exact BK376.out⟩, ⟨by (with_reducible repeat (first | refine blk_drewN ?_ _ | refine blk_drew ?_ | refine blk_alloc ?_ _)); exact BK380.out⟩, ⟨by (with_reducible repeat (first | refine blk_drewN ?_ _ | refine blk_drew ?_ | refine blk_alloc ?_ _)); exact BK385.out⟩, ⟨zh3 HB GE376 GE380 GE385⟩⟩
                  · rw [if_neg c57] at H
                    have c57b0 : (t395 == t401) = false := beq_eq_false_iff_ne.mpr c57
                    have c57b1 : (t395 != t401) = true := bne_iff_ne.mpr c57
                    obtain rfl := Option.some.inj H
                    obtain ⟨Ao66, co66, eo66⟩ := Kd.R_slice HO_5.out
                    subst eo66
                    try go_wp2
                    replace HO_5 := Aside0.mk (Kd.R_drew HO_5.out)
                    replace HO_381000 := Aside0.mk (Kd.R_drew HO_381000.out)
                    replace HO_386000 := Aside0.mk (Kd.R_drew HO_386000.out)
                    replace BK376 := Aside0.mk (blk_drew BK376.out)
                    replace BK380 := Aside0.mk (blk_drew BK380.out)
                    replace BK385 := Aside0.mk (blk_drew BK385.out)
                    replace HB := Aside0.mk (below_drew1 HB.out)
                    have p392 : 0 ≤ (x10_1 : Int) := of_decide_eq_true (by first | (with_reducible assumption) | assumption)
                    have q392 : x10_1 < (y389.length : Int) := of_decide_eq_true (by first | (with_reducible assumption) | assumption)
                    obtain ⟨ad392, e392, hx392_0⟩ := Kd.at_int (Kd.R_reads' HO_5.out).2.2 x10_1 p392 q392
                    cases e392
                    replace p392 := eq_true p392
                    replace q392 := eq_true q392
                    refine start_ (n := 7) (S := fun w' => w'.cell? ⟨gb380, 0, none⟩ = some (.slice Ao16 t377.length co16) ∧ w'.cell? (ad392.add (x10_1).toNat) = some (.int .i64 (rd y389 x10_1))) (ds := []) #[Z,Z,Z,Z,Z,Z,Z] (by kernel_rfl) rfl rfl ⟨(blk_cell BK380.out 0).trans rfl, hx392_0⟩ (fun hHeld => ?_)
                    generalize wr.drew = w67 at HO_5 HO_381000 HO_386000 BK376 BK380 BK385 HB hx392_0 hHeld ⊢
                    refine pz (i := 1) (N := some 48) #[Z,Y,Z,Z,Z,Z,Z] (by kernel_rfl) ?_
                    refine pz (i := 2) (N := some 49) #[Z,Y,Y,Z,Z,Z,Z] (by kernel_rfl) ?_
                    refine pz (i := 3) (N := some 50) #[Z,Y,Y,Y,Z,Z,Z] (by kernel_rfl) ?_
                    refine tz (i := 0) (N := some 47) #[Y,Y,Y,Y,Z,Z,Z] rfl (by kernel_rfl) (Or.inl ⟨by rfl, by rintro w' ⟨s0, s1⟩; go_simp; with_reducible rfl⟩) hHeld ?_
                    refine tz (i := 4) (N := some 51) #[Y,Y,Y,Y,Y,Z,Z] rfl (by kernel_rfl) (Or.inl ⟨by rfl, by rintro w' ⟨s0, s1⟩; go_simp; with_reducible rfl⟩) hHeld ?_
                    refine one_ (i := 5) (N := some 52) #[Y,Y,Y,Y,Y,Y,Z] rfl rfl (by kernel_rfl) (by decide) (fun K hK => ?_)
                    refine goes_ Try.func34 (by kernel_rfl) rfl #[.agg #[.slice Ao16 t377.length co16], .int .i64 (rd y389 x10_1)] (by rfl) rfl rfl (by (try simp only [List.map_toArray, List.map_cons, List.map_nil]); first | done | rfl | (simp only [List.length_drop, List.length_take]; rfl)) ?_
                    with_reducible refine (impl_TrieFind.calls k1 _ _ t377 (rd y389 x10_1) t393 _ ?side1 ?side2 A33.out).mono ?_
                    (case side1 => repeat (first | exact (Kd.R_reads' HO_381000.out).2.2 | (with_reducible refine Kd.C_alloc ?_ _) | (with_reducible refine Kd.C_drewN ?_ _) | (with_reducible refine Kd.C_drew ?_)))
                    (case side2 => exact (Kd.R_reads' HO_381000.out).2.1)
                    rintro e w68 ⟨rfl, hb⟩
                    have HS1_ := (hb.cell (World.block_lt_of_cell? _ _ (hHeld.2))).trans (hHeld.2)
                    refine ⟨_, rfl, ?_⟩
                    replace HO_5 := Aside0.mk (Kd.R_below (zr HO_5) hb)
                    replace HO_381000 := Aside0.mk (Kd.R_below (zr HO_381000) hb)
                    replace HO_386000 := Aside0.mk (Kd.R_below (zr HO_386000) hb)
                    replace BK376 := zk BK376 hb
                    replace BK380 := zk BK380 hb
                    replace BK385 := zk BK385 hb
                    replace HB := Aside0.mk (below_step (zh3 HB GE376 GE380 GE385) hb)
                    (try clear hb)
                    (try clear hb2)
                    (try clear hk)
                    (try clear hi)
                    refine hK.out _ _ ⟨(blk_cell BK380.out 0).trans rfl, HS1_⟩ (fun hHeld => ?_)
                    clear hK K
                    refine norm_ (a' := ?_) ?_ ?_
                    rotate_left
                    · show Act.put _ (some 52) _ = _
                      simp only [Act.put, List.setIfInBounds_toArray, List.set_cons_zero, List.set_cons_succ, i64_w, i32_w]
                      rfl
                    refine pz (i := 6) (N := some 11) #[Y,Y,Y,Y,Y,Y,Y] (by kernel_rfl) ?_
                    refine done_ (by kernel_rfl) ?_
                    try go_wp2
                    replace HO_5 := Aside0.mk (Kd.R_drew HO_5.out)
                    replace HO_381000 := Aside0.mk (Kd.R_drew HO_381000.out)
                    replace HO_386000 := Aside0.mk (Kd.R_drew HO_386000.out)
                    replace BK376 := Aside0.mk (blk_drew BK376.out)
                    replace BK380 := Aside0.mk (blk_drew BK380.out)
                    replace BK385 := Aside0.mk (blk_drew BK385.out)
                    replace HB := Aside0.mk (below_drew1 HB.out)
                    have p394 : 0 ≤ (x10_1 : Int) := of_decide_eq_true (by first | (with_reducible assumption) | assumption)
                    have q394 : x10_1 < (y389.length : Int) := of_decide_eq_true (by first | (with_reducible assumption) | assumption)
                    obtain ⟨ad394, e394, hx394_0⟩ := Kd.at_int (Kd.R_reads' HO_5.out).2.2 x10_1 p394 q394
                    obtain rfl : ad392 = ad394 := (by injection e394)
                    replace p394 := eq_true p394
                    replace q394 := eq_true q394
                    refine start_ (n := 7) (S := fun w' => w'.cell? ⟨gb385, 0, none⟩ = some (.slice Ao22 t381.length co22) ∧ w'.cell? (ad392.add (x10_1).toNat) = some (.int .i64 (rd y389 x10_1))) (ds := []) #[Z,Z,Z,Z,Z,Z,Z] (by kernel_rfl) rfl rfl ⟨(blk_cell BK385.out 0).trans rfl, hx394_0⟩ (fun hHeld => ?_)
                    generalize w68.drew = w69 at HO_5 HO_381000 HO_386000 BK376 BK380 BK385 HB hx394_0 hHeld ⊢
                    refine pz (i := 1) (N := some 54) #[Z,Y,Z,Z,Z,Z,Z] (by kernel_rfl) ?_
                    refine pz (i := 2) (N := some 55) #[Z,Y,Y,Z,Z,Z,Z] (by kernel_rfl) ?_
                    refine pz (i := 3) (N := some 56) #[Z,Y,Y,Y,Z,Z,Z] (by kernel_rfl) ?_
                    refine tz (i := 0) (N := some 53) #[Y,Y,Y,Y,Z,Z,Z] rfl (by kernel_rfl) (Or.inl ⟨by rfl, by rintro w' ⟨s0, s1⟩; go_simp; with_reducible rfl⟩) hHeld ?_
                    refine tz (i := 4) (N := some 57) #[Y,Y,Y,Y,Y,Z,Z] rfl (by kernel_rfl) (Or.inl ⟨by rfl, by rintro w' ⟨s0, s1⟩; go_simp; with_reducible rfl⟩) hHeld ?_
                    refine one_ (i := 5) (N := some 58) #[Y,Y,Y,Y,Y,Y,Z] rfl rfl (by kernel_rfl) (by decide) (fun K hK => ?_)
                    refine goes_ Try.func34 (by kernel_rfl) rfl #[.agg #[.slice Ao22 t381.length co22], .int .i64 (rd y389 x10_1)] (by rfl) rfl rfl (by (try simp only [List.map_toArray, List.map_cons, List.map_nil]); first | done | rfl | (simp only [List.length_drop, List.length_take]; rfl)) ?_
                    with_reducible refine (impl_TrieFind.calls k1 _ _ t381 (rd y389 x10_1) t395 _ ?side1 ?side2 A34.out).mono ?_
                    (case side1 => repeat (first | exact (Kd.R_reads' HO_386000.out).2.2 | (with_reducible refine Kd.C_alloc ?_ _) | (with_reducible refine Kd.C_drewN ?_ _) | (with_reducible refine Kd.C_drew ?_)))
                    (case side2 => exact (Kd.R_reads' HO_386000.out).2.1)
                    rintro e w70 ⟨rfl, hb⟩
                    have HS1_ := (hb.cell (World.block_lt_of_cell? _ _ (hHeld.2))).trans (hHeld.2)
                    refine ⟨_, rfl, ?_⟩
                    replace HO_5 := Aside0.mk (Kd.R_below (zr HO_5) hb)
                    replace HO_381000 := Aside0.mk (Kd.R_below (zr HO_381000) hb)
                    replace HO_386000 := Aside0.mk (Kd.R_below (zr HO_386000) hb)
                    replace BK376 := zk BK376 hb
                    replace BK380 := zk BK380 hb
                    replace BK385 := zk BK385 hb
                    replace HB := Aside0.mk (below_step (zh3 HB GE376 GE380 GE385) hb)
                    (try clear hb)
                    (try clear hb2)
                    (try clear hk)
                    (try clear hi)
                    refine hK.out _ _ ⟨(blk_cell BK385.out 0).trans rfl, HS1_⟩ (fun hHeld => ?_)
                    clear hK K
                    refine norm_ (a' := ?_) ?_ ?_
                    rotate_left
                    · show Act.put _ (some 58) _ = _
                      simp only [Act.put, List.setIfInBounds_toArray, List.set_cons_zero, List.set_cons_succ, i64_w, i32_w]
                      rfl
                    refine pz (i := 6) (N := some 12) #[Y,Y,Y,Y,Y,Y,Y] (by kernel_rfl) ?_
                    refine done_ (by kernel_rfl) ?_
                    try go_wp2
                    replace HO_5 := Aside0.mk (Kd.R_drew HO_5.out)
                    replace HO_381000 := Aside0.mk (Kd.R_drew HO_381000.out)
                    replace HO_386000 := Aside0.mk (Kd.R_drew HO_386000.out)
                    replace BK376 := Aside0.mk (blk_drew BK376.out)
                    replace BK380 := Aside0.mk (blk_drew BK380.out)
                    replace BK385 := Aside0.mk (blk_drew BK385.out)
                    replace HB := Aside0.mk (below_drew1 HB.out)
                    have p396 : 0 ≤ (x10_1 : Int) := of_decide_eq_true (by first | (with_reducible assumption) | assumption)
                    have q396 : x10_1 < (y389.length : Int) := of_decide_eq_true (by first | (with_reducible assumption) | assumption)
                    obtain ⟨ad396, e396, hx396_0⟩ := Kd.at_int (Kd.R_reads' HO_5.out).2.2 x10_1 p396 q396
                    obtain rfl : ad392 = ad396 := (by injection e396)
                    replace p396 := eq_true p396
                    replace q396 := eq_true q396
                    have p400 : 0 ≤ (x10_1 : Int) := of_decide_eq_true (by first | (with_reducible assumption) | assumption)
                    have q400 : x10_1 < (y389.length : Int) := of_decide_eq_true (by first | (with_reducible assumption) | assumption)
                    obtain ⟨ad400, e400, hx400_0⟩ := Kd.at_int (Kd.R_reads' HO_5.out).2.2 x10_1 p400 q400
                    obtain rfl : ad392 = ad400 := (by injection e400)
                    replace p400 := eq_true p400
                    replace q400 := eq_true q400
                    refine start_ (n := 22) (S := fun w' => w'.cell? ⟨gb376, 0, none⟩ = some (.int .i64 t374) ∧ w'.cell? ⟨gb376, 1, none⟩ = some (.int .i64 t375) ∧ w'.cell? ⟨gb385, 0, none⟩ = some (.slice Ao22 t381.length co22) ∧ w'.cell? (ad392.add (x10_1).toNat) = some (.int .i64 (rd y389 x10_1)) ∧ w'.cell? (ad392.add (x10_1).toNat) = some (.int .i64 (rd y389 x10_1))) (ds := []) #[Z,Z,Z,Z,Z,Z,Z,Z,Z,Z,Z,Z,Z,Z,Z,Z,Z,Z,Z,Z,Z,Z] (by kernel_rfl) rfl rfl ⟨(blk_cell BK376.out 0).trans rfl, (blk_cell BK376.out 1).trans rfl, (blk_cell BK385.out 0).trans rfl, hx396_0, hx400_0⟩ (fun hHeld => ?_); refine with_tabW laws_FnTriePuts.tab13 laws_FnTriePuts.bits13 (fun HT_ HW_ => ?_)
                    generalize w70.drew = w71 at HO_5 HO_381000 HO_386000 BK376 BK380 BK385 HB hx396_0 hx400_0 hHeld ⊢
                    refine pz (i := 1) (N := some 60) #[Z,Y,Z,Z,Z,Z,Z,Z,Z,Z,Z,Z,Z,Z,Z,Z,Z,Z,Z,Z,Z,Z] (any_of HT_.out (by kernel_rfl)) ?_
                    refine pz (i := 2) (N := some 61) #[Z,Y,Y,Z,Z,Z,Z,Z,Z,Z,Z,Z,Z,Z,Z,Z,Z,Z,Z,Z,Z,Z] (any_of HT_.out (by kernel_rfl)) ?_
                    refine pz (i := 3) (N := some 62) #[Z,Y,Y,Y,Z,Z,Z,Z,Z,Z,Z,Z,Z,Z,Z,Z,Z,Z,Z,Z,Z,Z] (any_of HT_.out (by kernel_rfl)) ?_
                    refine tz (i := 0) (N := some 59) #[Y,Y,Y,Y,Z,Z,Z,Z,Z,Z,Z,Z,Z,Z,Z,Z,Z,Z,Z,Z,Z,Z] rfl (take_ofW HT_.out HW_.out (by kernel_rfl)) (Or.inl ⟨by rfl, by rintro w' ⟨s0, s1, s2, s3, s4⟩; go_simp; with_reducible rfl⟩) hHeld ?_
                    refine tz (i := 4) (N := some 63) #[Y,Y,Y,Y,Y,Z,Z,Z,Z,Z,Z,Z,Z,Z,Z,Z,Z,Z,Z,Z,Z,Z] rfl (take_ofW HT_.out HW_.out (by kernel_rfl)) (Or.inl ⟨by rfl, by rintro w' ⟨s0, s1, s2, s3, s4⟩; go_simp; with_reducible rfl⟩) hHeld ?_
                    refine one_ (i := 5) (N := some 64) #[Y,Y,Y,Y,Y,Y,Z,Z,Z,Z,Z,Z,Z,Z,Z,Z,Z,Z,Z,Z,Z,Z] rfl rfl (one_of HT_.out (by kernel_rfl)) (by decide) (fun K hK => ?_)
                    refine goes_ Try.func38 (by kernel_rfl) rfl #[.agg #[.int .i64 t374, .int .i64 t375], .int .i64 (rd y389 x10_1)] (by rfl) rfl rfl (by (try simp only [List.map_toArray, List.map_cons, List.map_nil]); first | done | rfl | (simp only [List.length_drop, List.length_take]; rfl)) ?_
                    with_reducible refine (spec_InPrefix.calls k1 t374 t375 (rd y389 x10_1) false _ A35.out).mono ?_
                    rintro e w72 ⟨rfl, hb⟩
                    have HS3_ := (hb.cell (World.block_lt_of_cell? _ _ (hHeld.2.2.2.1))).trans (hHeld.2.2.2.1)
                    have HS4_ := (hb.cell (World.block_lt_of_cell? _ _ (hHeld.2.2.2.2))).trans (hHeld.2.2.2.2)
                    refine ⟨_, rfl, ?_⟩
                    replace HO_5 := Aside0.mk (Kd.R_below (zr HO_5) hb)
                    replace HO_381000 := Aside0.mk (Kd.R_below (zr HO_381000) hb)
                    replace HO_386000 := Aside0.mk (Kd.R_below (zr HO_386000) hb)
                    replace BK376 := zk BK376 hb
                    replace BK380 := zk BK380 hb
                    replace BK385 := zk BK385 hb
                    replace HB := Aside0.mk (below_step (zh3 HB GE376 GE380 GE385) hb)
                    (try clear hb)
                    (try clear hb2)
                    (try clear hk)
                    (try clear hi)
                    refine hK.out _ _ ⟨(blk_cell BK376.out 0).trans rfl, (blk_cell BK376.out 1).trans rfl, (blk_cell BK385.out 0).trans rfl, HS3_, HS4_⟩ (fun hHeld => ?_)
                    clear hK K
                    refine norm_ (a' := ?_) ?_ ?_
                    rotate_left
                    · show Act.put _ (some 64) _ = _
                      simp only [Act.put, List.setIfInBounds_toArray, List.set_cons_zero, List.set_cons_succ, i64_w, i32_w]
                      rfl
                    refine pz (i := 6) (N := some 65) #[Y,Y,Y,Y,Y,Y,Y,Z,Z,Z,Z,Z,Z,Z,Z,Z,Z,Z,Z,Z,Z,Z] (any_of HT_.out (by kernel_rfl)) ?_
                    refine pz (i := 7) (N := some 66) #[Y,Y,Y,Y,Y,Y,Y,Y,Z,Z,Z,Z,Z,Z,Z,Z,Z,Z,Z,Z,Z,Z] (any_of HT_.out (by kernel_rfl)) ?_
                    refine pz (i := 8) (N := some 67) #[Y,Y,Y,Y,Y,Y,Y,Y,Y,Z,Z,Z,Z,Z,Z,Z,Z,Z,Z,Z,Z,Z] (any_of HT_.out (by kernel_rfl)) ?_
                    refine pz (i := 9) (N := some 68) #[Y,Y,Y,Y,Y,Y,Y,Y,Y,Y,Z,Z,Z,Z,Z,Z,Z,Z,Z,Z,Z,Z] (any_of HT_.out (by kernel_rfl)) ?_
                    refine pz (i := 10) (N := some 69) #[Y,Y,Y,Y,Y,Y,Y,Y,Y,Y,Y,Z,Z,Z,Z,Z,Z,Z,Z,Z,Z,Z] (any_of HT_.out (by kernel_rfl)) ?_
                    refine pz (i := 11) (N := some 70) #[Y,Y,Y,Y,Y,Y,Y,Y,Y,Y,Y,Y,Z,Z,Z,Z,Z,Z,Z,Z,Z,Z] (any_of HT_.out (by kernel_rfl)) ?_
                    refine pz (i := 12) (N := some 71) #[Y,Y,Y,Y,Y,Y,Y,Y,Y,Y,Y,Y,Y,Z,Z,Z,Z,Z,Z,Z,Z,Z] (any_of HT_.out (by kernel_rfl)) ?_
                    refine pz (i := 13) (N := some 72) #[Y,Y,Y,Y,Y,Y,Y,Y,Y,Y,Y,Y,Y,Y,Z,Z,Z,Z,Z,Z,Z,Z] (any_of HT_.out (by kernel_rfl)) ?_
                    refine pz (i := 15) (N := some 74) #[Y,Y,Y,Y,Y,Y,Y,Y,Y,Y,Y,Y,Y,Y,Z,Y,Z,Z,Z,Z,Z,Z] (any_of HT_.out (by kernel_rfl)) ?_
                    refine pz (i := 16) (N := some 75) #[Y,Y,Y,Y,Y,Y,Y,Y,Y,Y,Y,Y,Y,Y,Z,Y,Y,Z,Z,Z,Z,Z] (any_of HT_.out (by kernel_rfl)) ?_
                    refine pz (i := 17) (N := some 76) #[Y,Y,Y,Y,Y,Y,Y,Y,Y,Y,Y,Y,Y,Y,Z,Y,Y,Y,Z,Z,Z,Z] (any_of HT_.out (by kernel_rfl)) ?_
                    refine tz (i := 14) (N := some 73) #[Y,Y,Y,Y,Y,Y,Y,Y,Y,Y,Y,Y,Y,Y,Y,Y,Y,Y,Z,Z,Z,Z] rfl (take_ofW HT_.out HW_.out (by kernel_rfl)) (Or.inl ⟨by rfl, by rintro w' ⟨s0, s1, s2, s3, s4⟩; go_simp; with_reducible rfl⟩) hHeld ?_
                    refine tz (i := 18) (N := some 77) #[Y,Y,Y,Y,Y,Y,Y,Y,Y,Y,Y,Y,Y,Y,Y,Y,Y,Y,Y,Z,Z,Z] rfl (take_ofW HT_.out HW_.out (by kernel_rfl)) (Or.inl ⟨by rfl, by rintro w' ⟨s0, s1, s2, s3, s4⟩; go_simp; with_reducible rfl⟩) hHeld ?_
                    refine one_ (i := 19) (N := some 78) #[Y,Y,Y,Y,Y,Y,Y,Y,Y,Y,Y,Y,Y,Y,Y,Y,Y,Y,Y,Y,Z,Z] rfl rfl (one_of HT_.out (by kernel_rfl)) (by decide) (fun K hK => ?_)
                    refine goes_ Try.func32 (by kernel_rfl) rfl #[.agg #[.slice Ao22 t381.length co22], .int .i64 (rd y389 x10_1)] (by rfl) rfl rfl (by (try simp only [List.map_toArray, List.map_cons, List.map_nil]); first | done | rfl | (simp only [List.length_drop, List.length_take]; rfl)) ?_
                    with_reducible refine (spec_TrieFind.calls k1 _ _ t381 (rd y389 x10_1) t401 _ ?side1 ?side2 A56.out).mono ?_
                    (case side1 => repeat (first | exact (Kd.R_reads' HO_386000.out).2.2 | (with_reducible refine Kd.C_alloc ?_ _) | (with_reducible refine Kd.C_drewN ?_ _) | (with_reducible refine Kd.C_drew ?_)))
                    (case side2 => exact (Kd.R_reads' HO_386000.out).2.1)
                    rintro e w73 ⟨rfl, hb⟩
                    have HS3_ := (hb.cell (World.block_lt_of_cell? _ _ (hHeld.2.2.2.1))).trans (hHeld.2.2.2.1)
                    have HS4_ := (hb.cell (World.block_lt_of_cell? _ _ (hHeld.2.2.2.2))).trans (hHeld.2.2.2.2)
                    refine ⟨_, rfl, ?_⟩
                    replace HO_5 := Aside0.mk (Kd.R_below (zr HO_5) hb)
                    replace HO_381000 := Aside0.mk (Kd.R_below (zr HO_381000) hb)
                    replace HO_386000 := Aside0.mk (Kd.R_below (zr HO_386000) hb)
                    replace BK376 := zk BK376 hb
                    replace BK380 := zk BK380 hb
                    replace BK385 := zk BK385 hb
                    replace HB := Aside0.mk (below_step (zh3 HB GE376 GE380 GE385) hb)
                    (try clear hb)
                    (try clear hb2)
                    (try clear hk)
                    (try clear hi)
                    refine hK.out _ _ ⟨(blk_cell BK376.out 0).trans rfl, (blk_cell BK376.out 1).trans rfl, (blk_cell BK385.out 0).trans rfl, HS3_, HS4_⟩ (fun hHeld => ?_)
                    clear hK K
                    refine norm_ (a' := ?_) ?_ ?_
                    rotate_left
                    · show Act.put _ (some 78) _ = _
                      simp only [Act.put, List.setIfInBounds_toArray, List.set_cons_zero, List.set_cons_succ, i64_w, i32_w]
                      rfl
                    refine pz (i := 20) (N := some 79) #[Y,Y,Y,Y,Y,Y,Y,Y,Y,Y,Y,Y,Y,Y,Y,Y,Y,Y,Y,Y,Y,Z] (any_of HT_.out (by kernel_rfl)) ?_
                    refine pz (i := 21) (N := some 80) #[Y,Y,Y,Y,Y,Y,Y,Y,Y,Y,Y,Y,Y,Y,Y,Y,Y,Y,Y,Y,Y,Y] (any_of HT_.out (by kernel_rfl)) ?_
                    refine done_ (done_of HT_.out (by kernel_rfl)) ?_
                    try go_wp2
                    go_ret
                    exact ⟨by first | rfl | (simp [errW_none, errW_some] <;> rfl) | (simp [*, errW_none, errW_some] <;> rfl), zh3 HB GE376 GE380 GE385⟩
                · rw [if_neg c55] at H
                  have c55b0 : (t393 == t395) = false := beq_eq_false_iff_ne.mpr c55
                  have c55b1 : (t393 != t395) = true := bne_iff_ne.mpr c55
                  obtain rfl := Option.some.inj H
                  obtain ⟨Ao74, co74, eo74⟩ := Kd.R_slice HO_5.out
                  subst eo74
                  try go_wp2
                  replace HO_5 := Aside0.mk (Kd.R_drew HO_5.out)
                  replace HO_381000 := Aside0.mk (Kd.R_drew HO_381000.out)
                  replace HO_386000 := Aside0.mk (Kd.R_drew HO_386000.out)
                  replace BK376 := Aside0.mk (blk_drew BK376.out)
                  replace BK380 := Aside0.mk (blk_drew BK380.out)
                  replace BK385 := Aside0.mk (blk_drew BK385.out)
                  replace HB := Aside0.mk (below_drew1 HB.out)
                  have p392 : 0 ≤ (x10_1 : Int) := of_decide_eq_true (by first | (with_reducible assumption) | assumption)
                  have q392 : x10_1 < (y389.length : Int) := of_decide_eq_true (by first | (with_reducible assumption) | assumption)
                  obtain ⟨ad392, e392, hx392_0⟩ := Kd.at_int (Kd.R_reads' HO_5.out).2.2 x10_1 p392 q392
                  cases e392
                  replace p392 := eq_true p392
                  replace q392 := eq_true q392
                  refine start_ (n := 7) (S := fun w' => w'.cell? ⟨gb380, 0, none⟩ = some (.slice Ao16 t377.length co16) ∧ w'.cell? (ad392.add (x10_1).toNat) = some (.int .i64 (rd y389 x10_1))) (ds := []) #[Z,Z,Z,Z,Z,Z,Z] (by kernel_rfl) rfl rfl ⟨(blk_cell BK380.out 0).trans rfl, hx392_0⟩ (fun hHeld => ?_)
                  generalize wr.drew = w75 at HO_5 HO_381000 HO_386000 BK376 BK380 BK385 HB hx392_0 hHeld ⊢
                  refine pz (i := 1) (N := some 48) #[Z,Y,Z,Z,Z,Z,Z] (by kernel_rfl) ?_
                  refine pz (i := 2) (N := some 49) #[Z,Y,Y,Z,Z,Z,Z] (by kernel_rfl) ?_
                  refine pz (i := 3) (N := some 50) #[Z,Y,Y,Y,Z,Z,Z] (by kernel_rfl) ?_
                  refine tz (i := 0) (N := some 47) #[Y,Y,Y,Y,Z,Z,Z] rfl (by kernel_rfl) (Or.inl ⟨by rfl, by rintro w' ⟨s0, s1⟩; go_simp; with_reducible rfl⟩) hHeld ?_
                  refine tz (i := 4) (N := some 51) #[Y,Y,Y,Y,Y,Z,Z] rfl (by kernel_rfl) (Or.inl ⟨by rfl, by rintro w' ⟨s0, s1⟩; go_simp; with_reducible rfl⟩) hHeld ?_
                  refine one_ (i := 5) (N := some 52) #[Y,Y,Y,Y,Y,Y,Z] rfl rfl (by kernel_rfl) (by decide) (fun K hK => ?_)
                  refine goes_ Try.func34 (by kernel_rfl) rfl #[.agg #[.slice Ao16 t377.length co16], .int .i64 (rd y389 x10_1)] (by rfl) rfl rfl (by (try simp only [List.map_toArray, List.map_cons, List.map_nil]); first | done | rfl | (simp only [List.length_drop, List.length_take]; rfl)) ?_
                  with_reducible refine (impl_TrieFind.calls k1 _ _ t377 (rd y389 x10_1) t393 _ ?side1 ?side2 A33.out).mono ?_
                  (case side1 => repeat (first | exact (Kd.R_reads' HO_381000.out).2.2 | (with_reducible refine Kd.C_alloc ?_ _) | (with_reducible refine Kd.C_drewN ?_ _) | (with_reducible refine Kd.C_drew ?_)))
                  (case side2 => exact (Kd.R_reads' HO_381000.out).2.1)
                  rintro e w76 ⟨rfl, hb⟩
                  have HS1_ := (hb.cell (World.block_lt_of_cell? _ _ (hHeld.2))).trans (hHeld.2)
                  refine ⟨_, rfl, ?_⟩
                  replace HO_5 := Aside0.mk (Kd.R_below (zr HO_5) hb)
                  replace HO_381000 := Aside0.mk (Kd.R_below (zr HO_381000) hb)
                  replace HO_386000 := Aside0.mk (Kd.R_below (zr HO_386000) hb)
                  replace BK376 := zk BK376 hb
                  replace BK380 := zk BK380 hb
                  replace BK385 := zk BK385 hb
                  replace HB := Aside0.mk (below_step (zh3 HB GE376 GE380 GE385) hb)
                  (try clear hb)
                  (try clear hb2)
                  (try clear hk)
                  (try clear hi)
                  refine hK.out _ _ ⟨(blk_cell BK380.out 0).trans rfl, HS1_⟩ (fun hHeld => ?_)
                  clear hK K
                  refine norm_ (a' := ?_) ?_ ?_
                  rotate_left
                  · show Act.put _ (some 52) _ = _
                    simp only [Act.put, List.setIfInBounds_toArray, List.set_cons_zero, List.set_cons_succ, i64_w, i32_w]
                    rfl
                  refine pz (i := 6) (N := some 11) #[Y,Y,Y,Y,Y,Y,Y] (by kernel_rfl) ?_
                  refine done_ (by kernel_rfl) ?_
                  try go_wp2
                  replace HO_5 := Aside0.mk (Kd.R_drew HO_5.out)
                  replace HO_381000 := Aside0.mk (Kd.R_drew HO_381000.out)
                  replace HO_386000 := Aside0.mk (Kd.R_drew HO_386000.out)
                  replace BK376 := Aside0.mk (blk_drew BK376.out)
                  replace BK380 := Aside0.mk (blk_drew BK380.out)
                  replace BK385 := Aside0.mk (blk_drew BK385.out)
                  replace HB := Aside0.mk (below_drew1 HB.out)
                  have p394 : 0 ≤ (x10_1 : Int) := of_decide_eq_true (by first | (with_reducible assumption) | assumption)
                  have q394 : x10_1 < (y389.length : Int) := of_decide_eq_true (by first | (with_reducible assumption) | assumption)
                  obtain ⟨ad394, e394, hx394_0⟩ := Kd.at_int (Kd.R_reads' HO_5.out).2.2 x10_1 p394 q394
                  obtain rfl : ad392 = ad394 := (by injection e394)
                  replace p394 := eq_true p394
                  replace q394 := eq_true q394
                  refine start_ (n := 7) (S := fun w' => w'.cell? ⟨gb385, 0, none⟩ = some (.slice Ao22 t381.length co22) ∧ w'.cell? (ad392.add (x10_1).toNat) = some (.int .i64 (rd y389 x10_1))) (ds := []) #[Z,Z,Z,Z,Z,Z,Z] (by kernel_rfl) rfl rfl ⟨(blk_cell BK385.out 0).trans rfl, hx394_0⟩ (fun hHeld => ?_)
                  generalize w76.drew = w77 at HO_5 HO_381000 HO_386000 BK376 BK380 BK385 HB hx394_0 hHeld ⊢
                  refine pz (i := 1) (N := some 54) #[Z,Y,Z,Z,Z,Z,Z] (by kernel_rfl) ?_
                  refine pz (i := 2) (N := some 55) #[Z,Y,Y,Z,Z,Z,Z] (by kernel_rfl) ?_
                  refine pz (i := 3) (N := some 56) #[Z,Y,Y,Y,Z,Z,Z] (by kernel_rfl) ?_
                  refine tz (i := 0) (N := some 53) #[Y,Y,Y,Y,Z,Z,Z] rfl (by kernel_rfl) (Or.inl ⟨by rfl, by rintro w' ⟨s0, s1⟩; go_simp; with_reducible rfl⟩) hHeld ?_
                  refine tz (i := 4) (N := some 57) #[Y,Y,Y,Y,Y,Z,Z] rfl (by kernel_rfl) (Or.inl ⟨by rfl, by rintro w' ⟨s0, s1⟩; go_simp; with_reducible rfl⟩) hHeld ?_
                  refine one_ (i := 5) (N := some 58) #[Y,Y,Y,Y,Y,Y,Z] rfl rfl (by kernel_rfl) (by decide) (fun K hK => ?_)
                  refine goes_ Try.func34 (by kernel_rfl) rfl #[.agg #[.slice Ao22 t381.length co22], .int .i64 (rd y389 x10_1)] (by rfl) rfl rfl (by (try simp only [List.map_toArray, List.map_cons, List.map_nil]); first | done | rfl | (simp only [List.length_drop, List.length_take]; rfl)) ?_
                  with_reducible refine (impl_TrieFind.calls k1 _ _ t381 (rd y389 x10_1) t395 _ ?side1 ?side2 A34.out).mono ?_
                  (case side1 => repeat (first | exact (Kd.R_reads' HO_386000.out).2.2 | (with_reducible refine Kd.C_alloc ?_ _) | (with_reducible refine Kd.C_drewN ?_ _) | (with_reducible refine Kd.C_drew ?_)))
                  (case side2 => exact (Kd.R_reads' HO_386000.out).2.1)
                  rintro e w78 ⟨rfl, hb⟩
                  have HS1_ := (hb.cell (World.block_lt_of_cell? _ _ (hHeld.2))).trans (hHeld.2)
                  refine ⟨_, rfl, ?_⟩
                  replace HO_5 := Aside0.mk (Kd.R_below (zr HO_5) hb)
                  replace HO_381000 := Aside0.mk (Kd.R_below (zr HO_381000) hb)
                  replace HO_386000 := Aside0.mk (Kd.R_below (zr HO_386000) hb)
                  replace BK376 := zk BK376 hb
                  replace BK380 := zk BK380 hb
                  replace BK385 := zk BK385 hb
                  replace HB := Aside0.mk (below_step (zh3 HB GE376 GE380 GE385) hb)
                  (try clear hb)
                  (try clear hb2)
                  (try clear hk)
                  (try clear hi)
                  refine hK.out _ _ ⟨(blk_cell BK385.out 0).trans rfl, HS1_⟩ (fun hHeld => ?_)
                  clear hK K
                  refine norm_ (a' := ?_) ?_ ?_
                  rotate_left
                  · show Act.put _ (some 58) _ = _
                    simp only [Act.put, List.setIfInBounds_toArray, List.set_cons_zero, List.set_cons_succ, i64_w, i32_w]
                    rfl
                  refine pz (i := 6) (N := some 12) #[Y,Y,Y,Y,Y,Y,Y] (by kernel_rfl) ?_
                  refine done_ (by kernel_rfl) ?_
                  try go_wp2
                  replace HO_5 := Aside0.mk (Kd.R_drew HO_5.out)
                  replace HO_381000 := Aside0.mk (Kd.R_drew HO_381000.out)
                  replace HO_386000 := Aside0.mk (Kd.R_drew HO_386000.out)
                  replace BK376 := Aside0.mk (blk_drew BK376.out)
                  replace BK380 := Aside0.mk (blk_drew BK380.out)
                  replace BK385 := Aside0.mk (blk_drew BK385.out)
                  replace HB := Aside0.mk (below_drew1 HB.out)
                  have p396 : 0 ≤ (x10_1 : Int) := of_decide_eq_true (by first | (with_reducible assumption) | assumption)
                  have q396 : x10_1 < (y389.length : Int) := of_decide_eq_true (by first | (with_reducible assumption) | assumption)
                  obtain ⟨ad396, e396, hx396_0⟩ := Kd.at_int (Kd.R_reads' HO_5.out).2.2 x10_1 p396 q396
                  obtain rfl : ad392 = ad396 := (by injection e396)
                  replace p396 := eq_true p396
                  replace q396 := eq_true q396
                  refine start_ (n := 22) (S := fun w' => w'.cell? ⟨gb376, 0, none⟩ = some (.int .i64 t374) ∧ w'.cell? ⟨gb376, 1, none⟩ = some (.int .i64 t375) ∧ w'.cell? (ad392.add (x10_1).toNat) = some (.int .i64 (rd y389 x10_1))) (ds := []) #[Z,Z,Z,Z,Z,Z,Z,Z,Z,Z,Z,Z,Z,Z,Z,Z,Z,Z,Z,Z,Z,Z] (by kernel_rfl) rfl rfl ⟨(blk_cell BK376.out 0).trans rfl, (blk_cell BK376.out 1).trans rfl, hx396_0⟩ (fun hHeld => ?_); refine with_tabW laws_FnTriePuts.tab13 laws_FnTriePuts.bits13 (fun HT_ HW_ => ?_)
                  generalize w78.drew = w79 at HO_5 HO_381000 HO_386000 BK376 BK380 BK385 HB hx396_0 hHeld ⊢
                  refine pz (i := 1) (N := some 60) #[Z,Y,Z,Z,Z,Z,Z,Z,Z,Z,Z,Z,Z,Z,Z,Z,Z,Z,Z,Z,Z,Z] (any_of HT_.out (by kernel_rfl)) ?_
                  refine pz (i := 2) (N := some 61) #[Z,Y,Y,Z,Z,Z,Z,Z,Z,Z,Z,Z,Z,Z,Z,Z,Z,Z,Z,Z,Z,Z] (any_of HT_.out (by kernel_rfl)) ?_
                  refine pz (i := 3) (N := some 62) #[Z,Y,Y,Y,Z,Z,Z,Z,Z,Z,Z,Z,Z,Z,Z,Z,Z,Z,Z,Z,Z,Z] (any_of HT_.out (by kernel_rfl)) ?_
                  refine tz (i := 0) (N := some 59) #[Y,Y,Y,Y,Z,Z,Z,Z,Z,Z,Z,Z,Z,Z,Z,Z,Z,Z,Z,Z,Z,Z] rfl (take_ofW HT_.out HW_.out (by kernel_rfl)) (Or.inl ⟨by rfl, by rintro w' ⟨s0, s1, s2⟩; go_simp; with_reducible rfl⟩) hHeld ?_
                  refine tz (i := 4) (N := some 63) #[Y,Y,Y,Y,Y,Z,Z,Z,Z,Z,Z,Z,Z,Z,Z,Z,Z,Z,Z,Z,Z,Z] rfl (take_ofW HT_.out HW_.out (by kernel_rfl)) (Or.inl ⟨by rfl, by rintro w' ⟨s0, s1, s2⟩; go_simp; with_reducible rfl⟩) hHeld ?_
                  refine one_ (i := 5) (N := some 64) #[Y,Y,Y,Y,Y,Y,Z,Z,Z,Z,Z,Z,Z,Z,Z,Z,Z,Z,Z,Z,Z,Z] rfl rfl (one_of HT_.out (by kernel_rfl)) (by decide) (fun K hK => ?_)
                  refine goes_ Try.func38 (by kernel_rfl) rfl #[.agg #[.int .i64 t374, .int .i64 t375], .int .i64 (rd y389 x10_1)] (by rfl) rfl rfl (by (try simp only [List.map_toArray, List.map_cons, List.map_nil]); first | done | rfl | (simp only [List.length_drop, List.length_take]; rfl)) ?_
                  with_reducible refine (spec_InPrefix.calls k1 t374 t375 (rd y389 x10_1) false _ A35.out).mono ?_
                  rintro e w80 ⟨rfl, hb⟩
                  have HS2_ := (hb.cell (World.block_lt_of_cell? _ _ (hHeld.2.2))).trans (hHeld.2.2)
                  refine ⟨_, rfl, ?_⟩
                  replace HO_5 := Aside0.mk (Kd.R_below (zr HO_5) hb)
                  replace HO_381000 := Aside0.mk (Kd.R_below (zr HO_381000) hb)
                  replace HO_386000 := Aside0.mk (Kd.R_below (zr HO_386000) hb)
                  replace BK376 := zk BK376 hb
                  replace BK380 := zk BK380 hb
                  replace BK385 := zk BK385 hb
                  replace HB := Aside0.mk (below_step (zh3 HB GE376 GE380 GE385) hb)
                  (try clear hb)
                  (try clear hb2)
                  (try clear hk)
                  (try clear hi)
                  refine hK.out _ _ ⟨(blk_cell BK376.out 0).trans rfl, (blk_cell BK376.out 1).trans rfl, HS2_⟩ (fun hHeld => ?_)
                  clear hK K
                  refine norm_ (a' := ?_) ?_ ?_
                  rotate_left
                  · show Act.put _ (some 64) _ = _
                    simp only [Act.put, List.setIfInBounds_toArray, List.set_cons_zero, List.set_cons_succ, i64_w, i32_w]
                    rfl
                  refine pz (i := 6) (N := some 65) #[Y,Y,Y,Y,Y,Y,Y,Z,Z,Z,Z,Z,Z,Z,Z,Z,Z,Z,Z,Z,Z,Z] (any_of HT_.out (by kernel_rfl)) ?_
                  refine pz (i := 7) (N := some 66) #[Y,Y,Y,Y,Y,Y,Y,Y,Z,Z,Z,Z,Z,Z,Z,Z,Z,Z,Z,Z,Z,Z] (any_of HT_.out (by kernel_rfl)) ?_
                  refine pz (i := 8) (N := some 67) #[Y,Y,Y,Y,Y,Y,Y,Y,Y,Z,Z,Z,Z,Z,Z,Z,Z,Z,Z,Z,Z,Z] (any_of HT_.out (by kernel_rfl)) ?_
                  refine pz (i := 9) (N := some 68) #[Y,Y,Y,Y,Y,Y,Y,Y,Y,Y,Z,Z,Z,Z,Z,Z,Z,Z,Z,Z,Z,Z] (any_of HT_.out (by kernel_rfl)) ?_
                  refine pz (i := 10) (N := some 69) #[Y,Y,Y,Y,Y,Y,Y,Y,Y,Y,Y,Z,Z,Z,Z,Z,Z,Z,Z,Z,Z,Z] (any_of HT_.out (by kernel_rfl)) ?_
                  refine pz (i := 11) (N := some 70) #[Y,Y,Y,Y,Y,Y,Y,Y,Y,Y,Y,Y,Z,Z,Z,Z,Z,Z,Z,Z,Z,Z] (any_of HT_.out (by kernel_rfl)) ?_
                  refine pz (i := 12) (N := some 71) #[Y,Y,Y,Y,Y,Y,Y,Y,Y,Y,Y,Y,Y,Z,Z,Z,Z,Z,Z,Z,Z,Z] (any_of HT_.out (by kernel_rfl)) ?_
                  refine pu (i := 13) (N := some 72) #[Y,Y,Y,Y,Y,Y,Y,Y,Y,Y,Y,Y,Y,Y,Z,Z,Z,Z,Z,Z,Z,Z] (any_of HT_.out (by kernel_rfl)) ?_
                  refine pu (i := 14) (N := some 73) #[Y,Y,Y,Y,Y,Y,Y,Y,Y,Y,Y,Y,Y,Y,Y,Z,Z,Z,Z,Z,Z,Z] (any_of HT_.out (by kernel_rfl)) ?_
                  refine pu (i := 15) (N := some 74) #[Y,Y,Y,Y,Y,Y,Y,Y,Y,Y,Y,Y,Y,Y,Y,Y,Z,Z,Z,Z,Z,Z] (any_of HT_.out (by kernel_rfl)) ?_
                  refine pu (i := 16) (N := some 75) #[Y,Y,Y,Y,Y,Y,Y,Y,Y,Y,Y,Y,Y,Y,Y,Y,Y,Z,Z,Z,Z,Z] (any_of HT_.out (by kernel_rfl)) ?_
                  refine pu (i := 17) (N := some 76) #[Y,Y,Y,Y,Y,Y,Y,Y,Y,Y,Y,Y,Y,Y,Y,Y,Y,Y,Z,Z,Z,Z] (any_of HT_.out (by kernel_rfl)) ?_
                  refine pu (i := 18) (N := some 77) #[Y,Y,Y,Y,Y,Y,Y,Y,Y,Y,Y,Y,Y,Y,Y,Y,Y,Y,Y,Z,Z,Z] (any_of HT_.out (by kernel_rfl)) ?_
                  refine pu (i := 19) (N := some 78) #[Y,Y,Y,Y,Y,Y,Y,Y,Y,Y,Y,Y,Y,Y,Y,Y,Y,Y,Y,Y,Z,Z] (any_of HT_.out (by kernel_rfl)) ?_
                  refine pu (i := 20) (N := some 79) #[Y,Y,Y,Y,Y,Y,Y,Y,Y,Y,Y,Y,Y,Y,Y,Y,Y,Y,Y,Y,Y,Z] (any_of HT_.out (by kernel_rfl)) ?_
                  refine pz (i := 21) (N := some 80) #[Y,Y,Y,Y,Y,Y,Y,Y,Y,Y,Y,Y,Y,Y,Y,Y,Y,Y,Y,Y,Y,Y] (any_of HT_.out (by kernel_rfl)) ?_
                  refine done_ (done_of HT_.out (by kernel_rfl)) ?_
                  try go_wp2
                  go_ret
                  exact ⟨by first | rfl | (simp [errW_none, errW_some] <;> rfl) | (simp [*, errW_none, errW_some] <;> rfl), zh3 HB GE376 GE380 GE385⟩
            · rw [if_neg c32] at H
              exact absurd H (by simp)
          · rw [if_neg c31] at H
            have c31b0 : decide (x10_1 < (y389.length : Int)) = false := decide_eq_false c31
            clear c31
            replace H := Option.bind_eq_some_iff.mp H
            obtain ⟨⟨t402, t405⟩, A810, H⟩ := H
            replace H : (if t384 = true then (if t405 = true then (some false) else ((impl_TrieOk.f k1 t381).bind fun t407 => (if t407 = true then ((impl_TrieFind.f k1 t381 t374).bind fun t408 => (if t408 = 9 then (some true) else ((impl_TrieFind.f k1 t377 t374).bind fun t409 => ((impl_TrieFind.f k1 t381 t374).bind fun t410 => (some (t409 == t410)))))) else (some false)))) else (some false)) = some r := H
            have A81 := Aside0.mk A810
            clear A810
            by_cases c82 : t384 = true
            · subst c82
              have H1 : (if t405 = true then (some false) else ((impl_TrieOk.f k1 t381).bind fun t407 => (if t407 = true then ((impl_TrieFind.f k1 t381 t374).bind fun t408 => (if t408 = 9 then (some true) else ((impl_TrieFind.f k1 t377 t374).bind fun t409 => ((impl_TrieFind.f k1 t381 t374).bind fun t410 => (some (t409 == t410)))))) else (some false)))) = some r := by rw [if_pos rfl] at H; exact H
              clear H
              have H := H1
              clear H1
              by_cases c83 : t405 = true
              · subst c83
                have H1 : (some false) = some r := by rw [if_pos rfl] at H; exact H
                clear H
                have H := H1
                clear H1
                obtain rfl := Option.some.inj H
                obtain ⟨Ao84, co84, eo84⟩ := Kd.R_slice HO_5.out
                subst eo84
                have hnb85 := NB380_376.out
                have hnc85 := NB376_380.out
                have hnb86 := NB380_385.out
                have hnc86 := NB385_380.out
                have hcz87_0 : wr.cell? ⟨gb380, 0, none⟩ = some (.slice Ao16 t377.length co16) := (blk_cell BK380.out 0).trans rfl
                have hfz87_0 := blk_frozen BK380.out 0
                try go_wp2_with (first | ((with_reducible refine gate_callee (f := 45) rfl ?_); refine goesL_ (some 84) rfl rfl Try.func45 (by kernel_rfl) rfl #[.agg #[.slice Ao16 t377.length co16], .agg #[.int .i64 1, .int .i64 8], .int .i64 3] rfl (by (try simp only [List.map_toArray, List.map_cons, List.map_nil]); first | done | rfl | (simp only [List.length_drop, List.length_take]; rfl)) ?_; (with_reducible refine (impl_TriePut.calls k1 _ _ t377 1 8 3 t402 true _ ?side1 ?side2 A81.out).mono ?_); (case side1 => repeat (first | exact (Kd.R_reads' HO_381000.out).2.2 | (with_reducible refine Kd.C_alloc ?_ _) | (with_reducible refine Kd.C_drewN ?_ _) | (with_reducible refine Kd.C_drew ?_))); (case side2 => exact (Kd.R_reads' HO_381000.out).2.1); rintro e w88 ⟨v403, rfl, ho0, hb⟩; refine ⟨_, rfl, ?_⟩; replace HO_5 := Aside0.mk (Kd.R_below (zr HO_5) hb); have HO404 := Aside0.mk (Kd.R_lower (Kd.R_new' (Kd.R_new' ho0 (Kd.R_lt (zr HO_381000))) (Kd.R_lt (zr HO_386000))) (below_size (zh3 HB GE376 GE380 GE385))); replace HO_381000 := Aside0.mk (Kd.R_elder' (zr HO_381000) (Kd.R_base ho0) hb); replace HO_386000 := Aside0.mk (Kd.R_elder' (zr HO_386000) (Kd.R_base ho0) hb); replace BK376 := zk BK376 hb; replace BK380 := zk BK380 hb; replace BK385 := zk BK385 hb; replace HB := Aside0.mk (below_step (zh3 HB GE376 GE380 GE385) hb); (try clear hb); (try clear hb2); (try clear hk); (try clear hi); (try clear ho0)) | ((with_reducible refine gate_dst (N := 13) rfl ?_); refine box_event ?hg (N := 13) ?hd (cs := #[.slice none 0 0]) (t := 55) ?hr ?_; (case hd => rfl); (case hg => rfl); (case hr => first | (go_simp; done) | (go_simp; rfl)); intro gb406 hg w89 hbox hb; replace HO_5 := Aside0.mk (Kd.R_below (zr HO_5) hb); replace HO_381000 := Aside0.mk (Kd.R_below (zr HO_381000) hb); replace HO_386000 := Aside0.mk (Kd.R_below (zr HO_386000) hb); replace HO404 := Aside0.mk (Kd.R_below (zr HO404) hb); have BK406 := Aside0.mk (hbox); have GW406 := Aside0.mk ((by rw [hg]; exact (below_size (zh3 HB GE376 GE380 GE385)) : w.heap.size ≤ gb406)); have GE406 := Aside0.mk ((by rw [hg]; exact (below_size (zh3 HB GE376 GE380 GE385)) : w.heap.size ≤ gb406)); replace HB := Aside0.mk (below_step (zh3 HB GE376 GE380 GE385) hb); have NB376_406 := Aside0.mk ((by rw [hg]; exact Nat.ne_of_lt (blk_lt (g := gb376) (o := .cells #[.int .i64 t374, .int .i64 t375] 40 (0, 0)) (zb BK376)) : gb376 ≠ gb406)); have NB406_376 := Aside0.mk ((by rw [hg]; exact Nat.ne_of_gt (blk_lt (g := gb376) (o := .cells #[.int .i64 t374, .int .i64 t375] 40 (0, 0)) (zb BK376)) : gb406 ≠ gb376)); replace BK376 := zk BK376 hb; have NB380_406 := Aside0.mk ((by rw [hg]; exact Nat.ne_of_lt (blk_lt (g := gb380) (o := .cells #[.slice Ao16 t377.length co16] 55 (0, 0)) (zb BK380)) : gb380 ≠ gb406)); have NB406_380 := Aside0.mk ((by rw [hg]; exact Nat.ne_of_gt (blk_lt (g := gb380) (o := .cells #[.slice Ao16 t377.length co16] 55 (0, 0)) (zb BK380)) : gb406 ≠ gb380)); replace BK380 := zk BK380 hb; have NB385_406 := Aside0.mk ((by rw [hg]; exact Nat.ne_of_lt (blk_lt (g := gb385) (o := .cells #[.slice Ao22 t381.length co22] 55 (0, 0)) (zb BK385)) : gb385 ≠ gb406)); have NB406_385 := Aside0.mk ((by rw [hg]; exact Nat.ne_of_gt (blk_lt (g := gb385) (o := .cells #[.slice Ao22 t381.length co22] 55 (0, 0)) (zb BK385)) : gb406 ≠ gb385)); replace BK385 := zk BK385 hb; clear hb hbox hg; obtain ⟨Ao90, co90, eo90⟩ := Kd.R_slice HO404.out; subst eo90; have hnb91 := NB406_376.out; have hnc91 := NB376_406.out; have hnb92 := NB406_380.out; have hnc92 := NB380_406.out; have hnb93 := NB406_385.out; have hnc93 := NB385_406.out; have hcz94_0 : w89.cell? ⟨gb406, 0, none⟩ = some (.slice none 0 0) := (blk_cell BK406.out 0).trans rfl; have hfz94_0 := blk_frozen BK406.out 0))
                have n0_ : Aside0 (Kd.R (Kd.int .i64) 3 (w89.setCell ⟨gb406, 0, none⟩ (.slice Ao90 t402.length co90)) w.heap.size (fun _ => True) (.slice Ao84 y389.length co84) y389) := ⟨by (with_reducible repeat (first | apply Kd.R_alloc | apply Kd.R_drewN | apply Kd.R_drew)); exact Kd.R_mono (Kd.R_far (p := ⟨gb406, 0, none⟩) (Kd.R_types HO_5.out BK406.out (by decide)) (fun _ hk => hk.2) (.slice Ao90 t402.length co90)) (fun _ hk => trivial)⟩
                have n1_ : Aside0 (Kd.R k104 104 (w89.setCell ⟨gb406, 0, none⟩ (.slice Ao90 t402.length co90)) w.heap.size (fun k_ => some k_ ≠ (.slice Ao22 t381.length co22 : Value).ownBlock ∧ some k_ ≠ (.slice Ao90 t402.length co90 : Value).ownBlock) (.slice Ao16 t377.length co16) t377) := ⟨by (with_reducible repeat (first | apply Kd.R_alloc | apply Kd.R_drewN | apply Kd.R_drew)); exact Kd.R_mono (Kd.R_far (p := ⟨gb406, 0, none⟩) (Kd.R_types HO_381000.out BK406.out (by decide)) (fun _ hk => hk.2) (.slice Ao90 t402.length co90)) (fun _ hk => ⟨hk.1.1, hk.1.2⟩)⟩
                have n2_ : Aside0 (Kd.R k104 104 (w89.setCell ⟨gb406, 0, none⟩ (.slice Ao90 t402.length co90)) w.heap.size (fun k_ => some k_ ≠ (.slice Ao16 t377.length co16 : Value).ownBlock ∧ some k_ ≠ (.slice Ao90 t402.length co90 : Value).ownBlock) (.slice Ao22 t381.length co22) t381) := ⟨by (with_reducible repeat (first | apply Kd.R_alloc | apply Kd.R_drewN | apply Kd.R_drew)); exact Kd.R_mono (Kd.R_far (p := ⟨gb406, 0, none⟩) (Kd.R_types HO_386000.out BK406.out (by decide)) (fun _ hk => hk.2) (.slice Ao90 t402.length co90)) (fun _ hk => ⟨hk.1.1, hk.1.2⟩)⟩
                have n3_ : Aside0 (Kd.R k104 104 (w89.setCell ⟨gb406, 0, none⟩ (.slice Ao90 t402.length co90)) w.heap.size (fun k_ => some k_ ≠ (.slice Ao16 t377.length co16 : Value).ownBlock ∧ some k_ ≠ (.slice Ao22 t381.length co22 : Value).ownBlock) (.slice Ao90 t402.length co90) t402) := ⟨by (with_reducible repeat (first | apply Kd.R_alloc | apply Kd.R_drewN | apply Kd.R_drew)); exact Kd.R_mono (Kd.R_far (p := ⟨gb406, 0, none⟩) (Kd.R_types HO404.out BK406.out (by decide)) (fun _ hk => hk.2) (.slice Ao90 t402.length co90)) (fun _ hk => ⟨hk.1.1.2, hk.1.2⟩)⟩
                have n4_ : Aside0 ((w89.setCell ⟨gb406, 0, none⟩ (.slice Ao90 t402.length co90)).heap[gb376]? = some (.cells #[.int .i64 t374, .int .i64 t375] 40 (0, 0))) := ⟨by (with_reducible repeat (first | refine blk_drewN ?_ _ | refine blk_drew ?_ | refine blk_alloc ?_ _)); refine blk_far ?_ NB376_406.out _; (with_reducible repeat (first | refine blk_drewN ?_ _ | refine blk_drew ?_ | refine blk_alloc ?_ _)); exact BK376.out⟩
                have n5_ : Aside0 ((w89.setCell ⟨gb406, 0, none⟩ (.slice Ao90 t402.length co90)).heap[gb380]? = some (.cells #[.slice Ao16 t377.length co16] 55 (0, 0))) := ⟨by (with_reducible repeat (first | refine blk_drewN ?_ _ | refine blk_drew ?_ | refine blk_alloc ?_ _)); refine blk_far ?_ NB380_406.out _; (with_reducible repeat (first | refine blk_drewN ?_ _ | refine blk_drew ?_ | refine blk_alloc ?_ _)); exact BK380.out⟩
                have n6_ : Aside0 ((w89.setCell ⟨gb406, 0, none⟩ (.slice Ao90 t402.length co90)).heap[gb385]? = some (.cells #[.slice Ao22 t381.length co22] 55 (0, 0))) := ⟨by (with_reducible repeat (first | refine blk_drewN ?_ _ | refine blk_drew ?_ | refine blk_alloc ?_ _)); refine blk_far ?_ NB385_406.out _; (with_reducible repeat (first | refine blk_drewN ?_ _ | refine blk_drew ?_ | refine blk_alloc ?_ _)); exact BK385.out⟩
                have n7_ : Aside0 ((w89.setCell ⟨gb406, 0, none⟩ (.slice Ao90 t402.length co90)).heap[gb406]? = some (.cells #[.slice Ao90 t402.length co90] 55 (0, 0))) := ⟨by (with_reducible repeat (first | refine blk_drewN ?_ _ | refine blk_drew ?_ | refine blk_alloc ?_ _)); refine blk_put (cs := #[.slice none 0 0]) ?_ 0 _ rfl; (with_reducible repeat (first | refine blk_drewN ?_ _ | refine blk_drew ?_ | refine blk_alloc ?_ _)); exact BK406.out⟩
                have n8_ : Aside0 (Below w.heap.size w (w89.setCell ⟨gb406, 0, none⟩ (.slice Ao90 t402.length co90))) := ⟨zh4 HB GE376 GE380 GE385 GE406⟩
                (try clear HO_5)
                (try clear HO_381000)
                (try clear HO_386000)
                (try clear HO404)
                (try clear BK376)
                (try clear BK380)
                (try clear BK385)
                (try clear BK406)
                (try clear HB)
                generalize (w89.setCell ⟨gb406, 0, none⟩ (.slice Ao90 t402.length co90)) = w95 at n0_ n1_ n2_ n3_ n4_ n5_ n6_ n7_ n8_ ⊢
                have HO_5 := n0_
                have HO_381000 := n1_
                have HO_386000 := n2_
                have HO404 := n3_
                have BK376 := n4_
                have BK380 := n5_
                have BK385 := n6_
                have BK406 := n7_
                have HB := n8_
                clear n0_ n1_ n2_ n3_ n4_ n5_ n6_ n7_ n8_
                replace HO_5 := Aside0.mk (Kd.R_drew HO_5.out)
                replace HO_381000 := Aside0.mk (Kd.R_drew HO_381000.out)
                replace HO_386000 := Aside0.mk (Kd.R_drew HO_386000.out)
                replace HO404 := Aside0.mk (Kd.R_drew HO404.out)
                replace BK376 := Aside0.mk (blk_drew BK376.out)
                replace BK380 := Aside0.mk (blk_drew BK380.out)
                replace BK385 := Aside0.mk (blk_drew BK385.out)
                replace BK406 := Aside0.mk (blk_drew BK406.out)
                replace HB := Aside0.mk (below_drew1 HB.out)
                refine start_ (n := 28) (S := fun w' => True) (ds := []) #[Z,Z,Z,Z,Z,Z,Z,Z,Z,Z,Z,Z,Z,Z,Z,Z,Z,Z,Z,Z,Z,Z,Z,Z,Z,Z,Z,Z] (by kernel_rfl) rfl rfl trivial (fun hHeld => ?_); refine with_tabW laws_FnTriePuts.tab16 laws_FnTriePuts.bits16 (fun HT_ HW_ => ?_)
                generalize w95.drew = w96 at HO_5 HO_381000 HO_386000 HO404 BK376 BK380 BK385 BK406 HB hHeld ⊢
                refine pz (i := 0) (N := some 87) #[Y,Z,Z,Z,Z,Z,Z,Z,Z,Z,Z,Z,Z,Z,Z,Z,Z,Z,Z,Z,Z,Z,Z,Z,Z,Z,Z,Z] (any_of HT_.out (by kernel_rfl)) ?_
                refine pz (i := 1) (N := some 88) #[Y,Y,Z,Z,Z,Z,Z,Z,Z,Z,Z,Z,Z,Z,Z,Z,Z,Z,Z,Z,Z,Z,Z,Z,Z,Z,Z,Z] (any_of HT_.out (by kernel_rfl)) ?_
                refine pz (i := 2) (N := some 89) #[Y,Y,Y,Z,Z,Z,Z,Z,Z,Z,Z,Z,Z,Z,Z,Z,Z,Z,Z,Z,Z,Z,Z,Z,Z,Z,Z,Z] (any_of HT_.out (by kernel_rfl)) ?_
                refine pz (i := 3) (N := some 90) #[Y,Y,Y,Y,Z,Z,Z,Z,Z,Z,Z,Z,Z,Z,Z,Z,Z,Z,Z,Z,Z,Z,Z,Z,Z,Z,Z,Z] (any_of HT_.out (by kernel_rfl)) ?_
                refine pz (i := 4) (N := some 91) #[Y,Y,Y,Y,Y,Z,Z,Z,Z,Z,Z,Z,Z,Z,Z,Z,Z,Z,Z,Z,Z,Z,Z,Z,Z,Z,Z,Z] (any_of HT_.out (by kernel_rfl)) ?_
                refine pz (i := 5) (N := some 92) #[Y,Y,Y,Y,Y,Y,Z,Z,Z,Z,Z,Z,Z,Z,Z,Z,Z,Z,Z,Z,Z,Z,Z,Z,Z,Z,Z,Z] (any_of HT_.out (by kernel_rfl)) ?_
                refine pu (i := 6) (N := some 93) #[Y,Y,Y,Y,Y,Y,Y,Z,Z,Z,Z,Z,Z,Z,Z,Z,Z,Z,Z,Z,Z,Z,Z,Z,Z,Z,Z,Z] (any_of HT_.out (by kernel_rfl)) ?_
                refine pu (i := 7) (N := some 94) #[Y,Y,Y,Y,Y,Y,Y,Y,Z,Z,Z,Z,Z,Z,Z,Z,Z,Z,Z,Z,Z,Z,Z,Z,Z,Z,Z,Z] (any_of HT_.out (by kernel_rfl)) ?_
                refine pz (i := 8) (N := some 95) #[Y,Y,Y,Y,Y,Y,Y,Y,Y,Z,Z,Z,Z,Z,Z,Z,Z,Z,Z,Z,Z,Z,Z,Z,Z,Z,Z,Z] (any_of HT_.out (by kernel_rfl)) ?_
                refine pz (i := 9) (N := some 96) #[Y,Y,Y,Y,Y,Y,Y,Y,Y,Y,Z,Z,Z,Z,Z,Z,Z,Z,Z,Z,Z,Z,Z,Z,Z,Z,Z,Z] (any_of HT_.out (by kernel_rfl)) ?_
                refine pu (i := 10) (N := some 97) #[Y,Y,Y,Y,Y,Y,Y,Y,Y,Y,Y,Z,Z,Z,Z,Z,Z,Z,Z,Z,Z,Z,Z,Z,Z,Z,Z,Z] (any_of HT_.out (by kernel_rfl)) ?_
                refine pu (i := 11) (N := some 98) #[Y,Y,Y,Y,Y,Y,Y,Y,Y,Y,Y,Y,Z,Z,Z,Z,Z,Z,Z,Z,Z,Z,Z,Z,Z,Z,Z,Z] (any_of HT_.out (by kernel_rfl)) ?_
                refine pu (i := 12) (N := some 99) #[Y,Y,Y,Y,Y,Y,Y,Y,Y,Y,Y,Y,Y,Z,Z,Z,Z,Z,Z,Z,Z,Z,Z,Z,Z,Z,Z,Z] (any_of HT_.out (by kernel_rfl)) ?_
                refine pu (i := 13) (N := some 100) #[Y,Y,Y,Y,Y,Y,Y,Y,Y,Y,Y,Y,Y,Y,Z,Z,Z,Z,Z,Z,Z,Z,Z,Z,Z,Z,Z,Z] (any_of HT_.out (by kernel_rfl)) ?_
                refine pu (i := 14) (N := some 101) #[Y,Y,Y,Y,Y,Y,Y,Y,Y,Y,Y,Y,Y,Y,Y,Z,Z,Z,Z,Z,Z,Z,Z,Z,Z,Z,Z,Z] (any_of HT_.out (by kernel_rfl)) ?_
                refine pu (i := 15) (N := some 102) #[Y,Y,Y,Y,Y,Y,Y,Y,Y,Y,Y,Y,Y,Y,Y,Y,Z,Z,Z,Z,Z,Z,Z,Z,Z,Z,Z,Z] (any_of HT_.out (by kernel_rfl)) ?_
                refine pu (i := 16) (N := some 103) #[Y,Y,Y,Y,Y,Y,Y,Y,Y,Y,Y,Y,Y,Y,Y,Y,Y,Z,Z,Z,Z,Z,Z,Z,Z,Z,Z,Z] (any_of HT_.out (by kernel_rfl)) ?_
                refine pu (i := 17) (N := some 104) #[Y,Y,Y,Y,Y,Y,Y,Y,Y,Y,Y,Y,Y,Y,Y,Y,Y,Y,Z,Z,Z,Z,Z,Z,Z,Z,Z,Z] (any_of HT_.out (by kernel_rfl)) ?_
                refine pu (i := 18) (N := some 105) #[Y,Y,Y,Y,Y,Y,Y,Y,Y,Y,Y,Y,Y,Y,Y,Y,Y,Y,Y,Z,Z,Z,Z,Z,Z,Z,Z,Z] (any_of HT_.out (by kernel_rfl)) ?_
                refine pu (i := 19) (N := some 106) #[Y,Y,Y,Y,Y,Y,Y,Y,Y,Y,Y,Y,Y,Y,Y,Y,Y,Y,Y,Y,Z,Z,Z,Z,Z,Z,Z,Z] (any_of HT_.out (by kernel_rfl)) ?_
                refine pu (i := 20) (N := some 107) #[Y,Y,Y,Y,Y,Y,Y,Y,Y,Y,Y,Y,Y,Y,Y,Y,Y,Y,Y,Y,Y,Z,Z,Z,Z,Z,Z,Z] (any_of HT_.out (by kernel_rfl)) ?_
                refine pu (i := 21) (N := some 108) #[Y,Y,Y,Y,Y,Y,Y,Y,Y,Y,Y,Y,Y,Y,Y,Y,Y,Y,Y,Y,Y,Y,Z,Z,Z,Z,Z,Z] (any_of HT_.out (by kernel_rfl)) ?_
                refine pu (i := 22) (N := some 109) #[Y,Y,Y,Y,Y,Y,Y,Y,Y,Y,Y,Y,Y,Y,Y,Y,Y,Y,Y,Y,Y,Y,Y,Z,Z,Z,Z,Z] (any_of HT_.out (by kernel_rfl)) ?_
                refine pu (i := 23) (N := some 110) #[Y,Y,Y,Y,Y,Y,Y,Y,Y,Y,Y,Y,Y,Y,Y,Y,Y,Y,Y,Y,Y,Y,Y,Y,Z,Z,Z,Z] (any_of HT_.out (by kernel_rfl)) ?_
                refine pu (i := 24) (N := some 111) #[Y,Y,Y,Y,Y,Y,Y,Y,Y,Y,Y,Y,Y,Y,Y,Y,Y,Y,Y,Y,Y,Y,Y,Y,Y,Z,Z,Z] (any_of HT_.out (by kernel_rfl)) ?_
                refine pu (i := 25) (N := some 112) #[Y,Y,Y,Y,Y,Y,Y,Y,Y,Y,Y,Y,Y,Y,Y,Y,Y,Y,Y,Y,Y,Y,Y,Y,Y,Y,Z,Z] (any_of HT_.out (by kernel_rfl)) ?_
                refine pz (i := 26) (N := some 113) #[Y,Y,Y,Y,Y,Y,Y,Y,Y,Y,Y,Y,Y,Y,Y,Y,Y,Y,Y,Y,Y,Y,Y,Y,Y,Y,Y,Z] (any_of HT_.out (by kernel_rfl)) ?_
                refine pz (i := 27) (N := some 2) #[Y,Y,Y,Y,Y,Y,Y,Y,Y,Y,Y,Y,Y,Y,Y,Y,Y,Y,Y,Y,Y,Y,Y,Y,Y,Y,Y,Y] (any_of HT_.out (by kernel_rfl)) ?_
                refine done_ (done_of HT_.out (by kernel_rfl)) ?_
                try go_wp2
                go_ret
                exact ⟨by first | rfl | (simp [errW_none, errW_some] <;> rfl) | (simp [*, errW_none, errW_some] <;> rfl), zh4 HB GE376 GE380 GE385 GE406⟩
              · replace c83 := Bool.eq_false_iff.mpr c83
                subst c83
                have H1 : ((impl_TrieOk.f k1 t381).bind fun t407 => (if t407 = true then ((impl_TrieFind.f k1 t381 t374).bind fun t408 => (if t408 = 9 then (some true) else ((impl_TrieFind.f k1 t377 t374).bind fun t409 => ((impl_TrieFind.f k1 t381 t374).bind fun t410 => (some (t409 == t410)))))) else (some false))) = some r := by rw [if_neg (show ¬ (false = true) by decide)] at H; exact H
                clear H
                have H := H1
                clear H1
                replace H := Option.bind_eq_some_iff.mp H
                obtain ⟨t407, A970, H⟩ := H
                replace H : (if t407 = true then ((impl_TrieFind.f k1 t381 t374).bind fun t408 => (if t408 = 9 then (some true) else ((impl_TrieFind.f k1 t377 t374).bind fun t409 => ((impl_TrieFind.f k1 t381 t374).bind fun t410 => (some (t409 == t410)))))) else (some false)) = some r := H
                have A97 := Aside0.mk A970
                clear A970
                by_cases c98 : t407 = true
                · subst c98
                  have H1 : ((impl_TrieFind.f k1 t381 t374).bind fun t408 => (if t408 = 9 then (some true) else ((impl_TrieFind.f k1 t377 t374).bind fun t409 => ((impl_TrieFind.f k1 t381 t374).bind fun t410 => (some (t409 == t410)))))) = some r := by rw [if_pos rfl] at H; exact H
                  clear H
                  have H := H1
                  clear H1
                  replace H := Option.bind_eq_some_iff.mp H
                  obtain ⟨t408, A990, H⟩ := H
                  replace H : (if t408 = 9 then (some true) else ((impl_TrieFind.f k1 t377 t374).bind fun t409 => ((impl_TrieFind.f k1 t381 t374).bind fun t410 => (some (t409 == t410))))) = some r := H
                  have A99 := Aside0.mk A990
                  clear A990
                  by_cases c100 : t408 = 9
                  · rw [if_pos c100] at H
                    have c100b0 : (t408 == 9) = true := beq_iff_eq.mpr c100
                    have c100b1 : (t408 != 9) = false := bne_eq_false_iff_eq.mpr c100
                    clear c100
                    obtain rfl := Option.some.inj H
                    obtain ⟨Ao101, co101, eo101⟩ := Kd.R_slice HO_5.out
                    subst eo101
                    have hnb102 := NB380_376.out
                    have hnc102 := NB376_380.out
                    have hnb103 := NB380_385.out
                    have hnc103 := NB385_380.out
                    have hcz104_0 : wr.cell? ⟨gb380, 0, none⟩ = some (.slice Ao16 t377.length co16) := (blk_cell BK380.out 0).trans rfl
                    have hfz104_0 := blk_frozen BK380.out 0
                    try go_wp2_with (first | ((with_reducible refine gate_callee (f := 45) rfl ?_); refine goesL_ (some 84) rfl rfl Try.func45 (by kernel_rfl) rfl #[.agg #[.slice Ao16 t377.length co16], .agg #[.int .i64 1, .int .i64 8], .int .i64 3] rfl (by (try simp only [List.map_toArray, List.map_cons, List.map_nil]); first | done | rfl | (simp only [List.length_drop, List.length_take]; rfl)) ?_; (with_reducible refine (impl_TriePut.calls k1 _ _ t377 1 8 3 t402 false _ ?side1 ?side2 A81.out).mono ?_); (case side1 => repeat (first | exact (Kd.R_reads' HO_381000.out).2.2 | (with_reducible refine Kd.C_alloc ?_ _) | (with_reducible refine Kd.C_drewN ?_ _) | (with_reducible refine Kd.C_drew ?_))); (case side2 => exact (Kd.R_reads' HO_381000.out).2.1); rintro e w105 ⟨v403, rfl, ho0, hb⟩; refine ⟨_, rfl, ?_⟩; replace HO_5 := Aside0.mk (Kd.R_below (zr HO_5) hb); have HO404 := Aside0.mk (Kd.R_lower (Kd.R_new' (Kd.R_new' ho0 (Kd.R_lt (zr HO_381000))) (Kd.R_lt (zr HO_386000))) (below_size (zh3 HB GE376 GE380 GE385))); replace HO_381000 := Aside0.mk (Kd.R_elder' (zr HO_381000) (Kd.R_base ho0) hb); replace HO_386000 := Aside0.mk (Kd.R_elder' (zr HO_386000) (Kd.R_base ho0) hb); replace BK376 := zk BK376 hb; replace BK380 := zk BK380 hb; replace BK385 := zk BK385 hb; replace HB := Aside0.mk (below_step (zh3 HB GE376 GE380 GE385) hb); (try clear hb); (try clear hb2); (try clear hk); (try clear hi); (try clear ho0)) | ((with_reducible refine gate_dst (N := 13) rfl ?_); refine box_event ?hg (N := 13) ?hd (cs := #[.slice none 0 0]) (t := 55) ?hr ?_; (case hd => rfl); (case hg => rfl); (case hr => first | (go_simp; done) | (go_simp; rfl)); intro gb406 hg w106 hbox hb; replace HO_5 := Aside0.mk (Kd.R_below (zr HO_5) hb); replace HO_381000 := Aside0.mk (Kd.R_below (zr HO_381000) hb); replace HO_386000 := Aside0.mk (Kd.R_below (zr HO_386000) hb); replace HO404 := Aside0.mk (Kd.R_below (zr HO404) hb); have BK406 := Aside0.mk (hbox); have GW406 := Aside0.mk ((by rw [hg]; exact (below_size (zh3 HB GE376 GE380 GE385)) : w.heap.size ≤ gb406)); have GE406 := Aside0.mk ((by rw [hg]; exact (below_size (zh3 HB GE376 GE380 GE385)) : w.heap.size ≤ gb406)); replace HB := Aside0.mk (below_step (zh3 HB GE376 GE380 GE385) hb); have NB376_406 := Aside0.mk ((by rw [hg]; exact Nat.ne_of_lt (blk_lt (g := gb376) (o := .cells #[.int .i64 t374, .int .i64 t375] 40 (0, 0)) (zb BK376)) : gb376 ≠ gb406)); have NB406_376 := Aside0.mk ((by rw [hg]; exact Nat.ne_of_gt (blk_lt (g := gb376) (o := .cells #[.int .i64 t374, .int .i64 t375] 40 (0, 0)) (zb BK376)) : gb406 ≠ gb376)); replace BK376 := zk BK376 hb; have NB380_406 := Aside0.mk ((by rw [hg]; exact Nat.ne_of_lt (blk_lt (g := gb380) (o := .cells #[.slice Ao16 t377.length co16] 55 (0, 0)) (zb BK380)) : gb380 ≠ gb406)); have NB406_380 := Aside0.mk ((by rw [hg]; exact Nat.ne_of_gt (blk_lt (g := gb380) (o := .cells #[.slice Ao16 t377.length co16] 55 (0, 0)) (zb BK380)) : gb406 ≠ gb380)); replace BK380 := zk BK380 hb; have NB385_406 := Aside0.mk ((by rw [hg]; exact Nat.ne_of_lt (blk_lt (g := gb385) (o := .cells #[.slice Ao22 t381.length co22] 55 (0, 0)) (zb BK385)) : gb385 ≠ gb406)); have NB406_385 := Aside0.mk ((by rw [hg]; exact Nat.ne_of_gt (blk_lt (g := gb385) (o := .cells #[.slice Ao22 t381.length co22] 55 (0, 0)) (zb BK385)) : gb406 ≠ gb385)); replace BK385 := zk BK385 hb; clear hb hbox hg; obtain ⟨Ao107, co107, eo107⟩ := Kd.R_slice HO404.out; subst eo107; have hnb108 := NB406_376.out; have hnc108 := NB376_406.out; have hnb109 := NB406_380.out; have hnc109 := NB380_406.out; have hnb110 := NB406_385.out; have hnc110 := NB385_406.out; have hcz111_0 : w106.cell? ⟨gb406, 0, none⟩ = some (.slice none 0 0) := (blk_cell BK406.out 0).trans rfl; have hfz111_0 := blk_frozen BK406.out 0))
                    have n0_ : Aside0 (Kd.R (Kd.int .i64) 3 (w106.setCell ⟨gb406, 0, none⟩ (.slice Ao107 t402.length co107)) w.heap.size (fun _ => True) (.slice Ao101 y389.length co101) y389) := ⟨by (with_reducible repeat (first | apply Kd.R_alloc | apply Kd.R_drewN | apply Kd.R_drew)); exact Kd.R_mono (Kd.R_far (p := ⟨gb406, 0, none⟩) (Kd.R_types HO_5.out BK406.out (by decide)) (fun _ hk => hk.2) (.slice Ao107 t402.length co107)) (fun _ hk => trivial)⟩
                    have n1_ : Aside0 (Kd.R k104 104 (w106.setCell ⟨gb406, 0, none⟩ (.slice Ao107 t402.length co107)) w.heap.size (fun k_ => some k_ ≠ (.slice Ao22 t381.length co22 : Value).ownBlock ∧ some k_ ≠ (.slice Ao107 t402.length co107 : Value).ownBlock) (.slice Ao16 t377.length co16) t377) := ⟨by (with_reducible repeat (first | apply Kd.R_alloc | apply Kd.R_drewN | apply Kd.R_drew)); exact Kd.R_mono (Kd.R_far (p := ⟨gb406, 0, none⟩) (Kd.R_types HO_381000.out BK406.out (by decide)) (fun _ hk => hk.2) (.slice Ao107 t402.length co107)) (fun _ hk => ⟨hk.1.1, hk.1.2⟩)⟩
                    have n2_ : Aside0 (Kd.R k104 104 (w106.setCell ⟨gb406, 0, none⟩ (.slice Ao107 t402.length co107)) w.heap.size (fun k_ => some k_ ≠ (.slice Ao16 t377.length co16 : Value).ownBlock ∧ some k_ ≠ (.slice Ao107 t402.length co107 : Value).ownBlock) (.slice Ao22 t381.length co22) t381) := ⟨by (with_reducible repeat (first | apply Kd.R_alloc | apply Kd.R_drewN | apply Kd.R_drew)); exact Kd.R_mono (Kd.R_far (p := ⟨gb406, 0, none⟩) (Kd.R_types HO_386000.out BK406.out (by decide)) (fun _ hk => hk.2) (.slice Ao107 t402.length co107)) (fun _ hk => ⟨hk.1.1, hk.1.2⟩)⟩
                    have n3_ : Aside0 (Kd.R k104 104 (w106.setCell ⟨gb406, 0, none⟩ (.slice Ao107 t402.length co107)) w.heap.size (fun k_ => some k_ ≠ (.slice Ao16 t377.length co16 : Value).ownBlock ∧ some k_ ≠ (.slice Ao22 t381.length co22 : Value).ownBlock) (.slice Ao107 t402.length co107) t402) := ⟨by (with_reducible repeat (first | apply Kd.R_alloc | apply Kd.R_drewN | apply Kd.R_drew)); exact Kd.R_mono (Kd.R_far (p := ⟨gb406, 0, none⟩) (Kd.R_types HO404.out BK406.out (by decide)) (fun _ hk => hk.2) (.slice Ao107 t402.length co107)) (fun _ hk => ⟨hk.1.1.2, hk.1.2⟩)⟩
                    have n4_ : Aside0 ((w106.setCell ⟨gb406, 0, none⟩ (.slice Ao107 t402.length co107)).heap[gb376]? = some (.cells #[.int .i64 t374, .int .i64 t375] 40 (0, 0))) := ⟨by (with_reducible repeat (first | refine blk_drewN ?_ _ | refine blk_drew ?_ | refine blk_alloc ?_ _)); refine blk_far ?_ NB376_406.out _; (with_reducible repeat (first | refine blk_drewN ?_ _ | refine blk_drew ?_ | refine blk_alloc ?_ _)); exact BK376.out⟩
                    have n5_ : Aside0 ((w106.setCell ⟨gb406, 0, none⟩ (.slice Ao107 t402.length co107)).heap[gb380]? = some (.cells #[.slice Ao16 t377.length co16] 55 (0, 0))) := ⟨by (with_reducible repeat (first | refine blk_drewN ?_ _ | refine blk_drew ?_ | refine blk_alloc ?_ _)); refine blk_far ?_ NB380_406.out _; (with_reducible repeat (first | refine blk_drewN ?_ _ | refine blk_drew ?_ | refine blk_alloc ?_ _)); exact BK380.out⟩
                    have n6_ : Aside0 ((w106.setCell ⟨gb406, 0, none⟩ (.slice Ao107 t402.length co107)).heap[gb385]? = some (.cells #[.slice Ao22 t381.length co22] 55 (0, 0))) := ⟨by (with_reducible repeat (first | refine blk_drewN ?_ _ | refine blk_drew ?_ | refine blk_alloc ?_ _)); refine blk_far ?_ NB385_406.out _; (with_reducible repeat (first | refine blk_drewN ?_ _ | refine blk_drew ?_ | refine blk_alloc ?_ _)); exact BK385.out⟩
                    have n7_ : Aside0 ((w106.setCell ⟨gb406, 0, none⟩ (.slice Ao107 t402.length co107)).heap[gb406]? = some (.cells #[.slice Ao107 t402.length co107] 55 (0, 0))) := ⟨by (with_reducible repeat (first | refine blk_drewN ?_ _ | refine blk_drew ?_ | refine blk_alloc ?_ _)); refine blk_put (cs := #[.slice none 0 0]) ?_ 0 _ rfl; (with_reducible repeat (first | refine blk_drewN ?_ _ | refine blk_drew ?_ | refine blk_alloc ?_ _)); exact BK406.out⟩
                    have n8_ : Aside0 (Below w.heap.size w (w106.setCell ⟨gb406, 0, none⟩ (.slice Ao107 t402.length co107))) := ⟨zh4 HB GE376 GE380 GE385 GE406⟩
                    (try clear HO_5)
                    (try clear HO_381000)
                    (try clear HO_386000)
                    (try clear HO404)
                    (try clear BK376)
                    (try clear BK380)
                    (try clear BK385)
                    (try clear BK406)
                    (try clear HB)
                    generalize (w106.setCell ⟨gb406, 0, none⟩ (.slice Ao107 t402.length co107)) = w112 at n0_ n1_ n2_ n3_ n4_ n5_ n6_ n7_ n8_ ⊢
                    have HO_5 := n0_
                    have HO_381000 := n1_
                    have HO_386000 := n2_
                    have HO404 := n3_
                    have BK376 := n4_
                    have BK380 := n5_
                    have BK385 := n6_
                    have BK406 := n7_
                    have HB := n8_
                    clear n0_ n1_ n2_ n3_ n4_ n5_ n6_ n7_ n8_
                    replace HO_5 := Aside0.mk (Kd.R_drew HO_5.out)
                    replace HO_381000 := Aside0.mk (Kd.R_drew HO_381000.out)
                    replace HO_386000 := Aside0.mk (Kd.R_drew HO_386000.out)
                    replace HO404 := Aside0.mk (Kd.R_drew HO404.out)
                    replace BK376 := Aside0.mk (blk_drew BK376.out)
                    replace BK380 := Aside0.mk (blk_drew BK380.out)
                    replace BK385 := Aside0.mk (blk_drew BK385.out)
                    replace BK406 := Aside0.mk (blk_drew BK406.out)
                    replace HB := Aside0.mk (below_drew1 HB.out)
                    refine start_ (n := 28) (S := fun w' => w'.cell? ⟨gb385, 0, none⟩ = some (.slice Ao22 t381.length co22) ∧ w'.cell? ⟨gb376, 0, none⟩ = some (.int .i64 t374) ∧ w'.cell? ⟨gb376, 1, none⟩ = some (.int .i64 t375)) (ds := []) #[Z,Z,Z,Z,Z,Z,Z,Z,Z,Z,Z,Z,Z,Z,Z,Z,Z,Z,Z,Z,Z,Z,Z,Z,Z,Z,Z,Z] (by kernel_rfl) rfl rfl ⟨(blk_cell BK385.out 0).trans rfl, (blk_cell BK376.out 0).trans rfl, (blk_cell BK376.out 1).trans rfl⟩ (fun hHeld => ?_); refine with_tabW laws_FnTriePuts.tab16 laws_FnTriePuts.bits16 (fun HT_ HW_ => ?_)
                    generalize w112.drew = w113 at HO_5 HO_381000 HO_386000 HO404 BK376 BK380 BK385 BK406 HB hHeld ⊢
                    refine pz (i := 0) (N := some 87) #[Y,Z,Z,Z,Z,Z,Z,Z,Z,Z,Z,Z,Z,Z,Z,Z,Z,Z,Z,Z,Z,Z,Z,Z,Z,Z,Z,Z] (any_of HT_.out (by kernel_rfl)) ?_
                    refine pz (i := 1) (N := some 88) #[Y,Y,Z,Z,Z,Z,Z,Z,Z,Z,Z,Z,Z,Z,Z,Z,Z,Z,Z,Z,Z,Z,Z,Z,Z,Z,Z,Z] (any_of HT_.out (by kernel_rfl)) ?_
                    refine pz (i := 2) (N := some 89) #[Y,Y,Y,Z,Z,Z,Z,Z,Z,Z,Z,Z,Z,Z,Z,Z,Z,Z,Z,Z,Z,Z,Z,Z,Z,Z,Z,Z] (any_of HT_.out (by kernel_rfl)) ?_
                    refine pz (i := 3) (N := some 90) #[Y,Y,Y,Y,Z,Z,Z,Z,Z,Z,Z,Z,Z,Z,Z,Z,Z,Z,Z,Z,Z,Z,Z,Z,Z,Z,Z,Z] (any_of HT_.out (by kernel_rfl)) ?_
                    refine pz (i := 4) (N := some 91) #[Y,Y,Y,Y,Y,Z,Z,Z,Z,Z,Z,Z,Z,Z,Z,Z,Z,Z,Z,Z,Z,Z,Z,Z,Z,Z,Z,Z] (any_of HT_.out (by kernel_rfl)) ?_
                    refine pz (i := 5) (N := some 92) #[Y,Y,Y,Y,Y,Y,Z,Z,Z,Z,Z,Z,Z,Z,Z,Z,Z,Z,Z,Z,Z,Z,Z,Z,Z,Z,Z,Z] (any_of HT_.out (by kernel_rfl)) ?_
                    refine tz (i := 6) (N := some 93) #[Y,Y,Y,Y,Y,Y,Y,Z,Z,Z,Z,Z,Z,Z,Z,Z,Z,Z,Z,Z,Z,Z,Z,Z,Z,Z,Z,Z] rfl (take_ofW HT_.out HW_.out (by kernel_rfl)) (Or.inl ⟨by rfl, by rintro w' ⟨s0, s1, s2⟩; go_simp; with_reducible rfl⟩) hHeld ?_
                    refine one_ (i := 7) (N := some 94) #[Y,Y,Y,Y,Y,Y,Y,Y,Z,Z,Z,Z,Z,Z,Z,Z,Z,Z,Z,Z,Z,Z,Z,Z,Z,Z,Z,Z] rfl rfl (one_of HT_.out (by kernel_rfl)) (by decide) (fun K hK => ?_)
                    refine goes_ Try.func51 (by kernel_rfl) rfl #[.agg #[.slice Ao22 t381.length co22]] (by rfl) rfl rfl (by (try simp only [List.map_toArray, List.map_cons, List.map_nil]); first | done | rfl | (simp only [List.length_drop, List.length_take]; rfl)) ?_
                    with_reducible refine (impl_TrieOk.calls k1 _ _ t381 true _ ?side1 ?side2 A97.out).mono ?_
                    (case side1 => repeat (first | exact (Kd.R_reads' HO_386000.out).2.2 | (with_reducible refine Kd.C_alloc ?_ _) | (with_reducible refine Kd.C_drewN ?_ _) | (with_reducible refine Kd.C_drew ?_)))
                    (case side2 => exact (Kd.R_reads' HO_386000.out).2.1)
                    rintro e w114 ⟨rfl, hb⟩
                    refine ⟨_, rfl, ?_⟩
                    replace HO_5 := Aside0.mk (Kd.R_below (zr HO_5) hb)
                    replace HO_381000 := Aside0.mk (Kd.R_below (zr HO_381000) hb)
                    replace HO_386000 := Aside0.mk (Kd.R_below (zr HO_386000) hb)
                    replace HO404 := Aside0.mk (Kd.R_below (zr HO404) hb)
                    replace BK376 := zk BK376 hb
                    replace BK380 := zk BK380 hb
                    replace BK385 := zk BK385 hb
                    replace BK406 := zk BK406 hb
                    replace HB := Aside0.mk (below_step (zh4 HB GE376 GE380 GE385 GE406) hb)
                    (try clear hb)
                    (try clear hb2)
                    (try clear hk)
                    (try clear hi)
                    refine hK.out _ _ ⟨(blk_cell BK385.out 0).trans rfl, (blk_cell BK376.out 0).trans rfl, (blk_cell BK376.out 1).trans rfl⟩ (fun hHeld => ?_)
                    clear hK K
                    refine norm_ (a' := ?_) ?_ ?_
                    rotate_left
                    · show Act.put _ (some 94) _ = _
                      simp only [Act.put, List.setIfInBounds_toArray, List.set_cons_zero, List.set_cons_succ, i64_w, i32_w]
                      rfl
                    refine pz (i := 8) (N := some 95) #[Y,Y,Y,Y,Y,Y,Y,Y,Y,Z,Z,Z,Z,Z,Z,Z,Z,Z,Z,Z,Z,Z,Z,Z,Z,Z,Z,Z] (any_of HT_.out (by kernel_rfl)) ?_
                    refine pz (i := 9) (N := some 96) #[Y,Y,Y,Y,Y,Y,Y,Y,Y,Y,Z,Z,Z,Z,Z,Z,Z,Z,Z,Z,Z,Z,Z,Z,Z,Z,Z,Z] (any_of HT_.out (by kernel_rfl)) ?_
                    refine pz (i := 11) (N := some 98) #[Y,Y,Y,Y,Y,Y,Y,Y,Y,Y,Z,Y,Z,Z,Z,Z,Z,Z,Z,Z,Z,Z,Z,Z,Z,Z,Z,Z] (any_of HT_.out (by kernel_rfl)) ?_
                    refine tz (i := 10) (N := some 97) #[Y,Y,Y,Y,Y,Y,Y,Y,Y,Y,Y,Y,Z,Z,Z,Z,Z,Z,Z,Z,Z,Z,Z,Z,Z,Z,Z,Z] rfl (take_ofW HT_.out HW_.out (by kernel_rfl)) (Or.inl ⟨by rfl, by rintro w' ⟨s0, s1, s2⟩; go_simp; with_reducible rfl⟩) hHeld ?_
                    refine tz (i := 12) (N := some 99) #[Y,Y,Y,Y,Y,Y,Y,Y,Y,Y,Y,Y,Y,Z,Z,Z,Z,Z,Z,Z,Z,Z,Z,Z,Z,Z,Z,Z] rfl (take_ofW HT_.out HW_.out (by kernel_rfl)) (Or.inl ⟨by rfl, by rintro w' ⟨s0, s1, s2⟩; go_simp; with_reducible rfl⟩) hHeld ?_
                    refine one_ (i := 13) (N := some 100) #[Y,Y,Y,Y,Y,Y,Y,Y,Y,Y,Y,Y,Y,Y,Z,Z,Z,Z,Z,Z,Z,Z,Z,Z,Z,Z,Z,Z] rfl rfl (one_of HT_.out (by kernel_rfl)) (by decide) (fun K hK => ?_)
                    refine goes_ Try.func34 (by kernel_rfl) rfl #[.agg #[.slice Ao22 t381.length co22], .int .i64 t374] (by rfl) rfl rfl (by (try simp only [List.map_toArray, List.map_cons, List.map_nil]); first | done | rfl | (simp only [List.length_drop, List.length_take]; rfl)) ?_
                    with_reducible refine (impl_TrieFind.calls k1 _ _ t381 t374 t408 _ ?side1 ?side2 A99.out).mono ?_
                    (case side1 => repeat (first | exact (Kd.R_reads' HO_386000.out).2.2 | (with_reducible refine Kd.C_alloc ?_ _) | (with_reducible refine Kd.C_drewN ?_ _) | (with_reducible refine Kd.C_drew ?_)))
                    (case side2 => exact (Kd.R_reads' HO_386000.out).2.1)
                    rintro e w115 ⟨rfl, hb⟩
                    refine ⟨_, rfl, ?_⟩
                    replace HO_5 := Aside0.mk (Kd.R_below (zr HO_5) hb)
                    replace HO_381000 := Aside0.mk (Kd.R_below (zr HO_381000) hb)
                    replace HO_386000 := Aside0.mk (Kd.R_below (zr HO_386000) hb)
                    replace HO404 := Aside0.mk (Kd.R_below (zr HO404) hb)
                    replace BK376 := zk BK376 hb
                    replace BK380 := zk BK380 hb
                    replace BK385 := zk BK385 hb
                    replace BK406 := zk BK406 hb
                    replace HB := Aside0.mk (below_step (zh4 HB GE376 GE380 GE385 GE406) hb)
                    (try clear hb)
                    (try clear hb2)
                    (try clear hk)
                    (try clear hi)
                    refine hK.out _ _ ⟨(blk_cell BK385.out 0).trans rfl, (blk_cell BK376.out 0).trans rfl, (blk_cell BK376.out 1).trans rfl⟩ (fun hHeld => ?_)
                    clear hK K
                    refine norm_ (a' := ?_) ?_ ?_
                    rotate_left
                    · show Act.put _ (some 100) _ = _
                      simp only [Act.put, List.setIfInBounds_toArray, List.set_cons_zero, List.set_cons_succ, i64_w, i32_w]
                      rfl
                    refine pz (i := 14) (N := some 101) #[Y,Y,Y,Y,Y,Y,Y,Y,Y,Y,Y,Y,Y,Y,Y,Z,Z,Z,Z,Z,Z,Z,Z,Z,Z,Z,Z,Z] (any_of HT_.out (by kernel_rfl)) ?_
                    refine pz (i := 15) (N := some 102) #[Y,Y,Y,Y,Y,Y,Y,Y,Y,Y,Y,Y,Y,Y,Y,Y,Z,Z,Z,Z,Z,Z,Z,Z,Z,Z,Z,Z] (any_of HT_.out (by kernel_rfl)) ?_
                    refine pu (i := 16) (N := some 103) #[Y,Y,Y,Y,Y,Y,Y,Y,Y,Y,Y,Y,Y,Y,Y,Y,Y,Z,Z,Z,Z,Z,Z,Z,Z,Z,Z,Z] (any_of HT_.out (by kernel_rfl)) ?_
                    refine pu (i := 17) (N := some 104) #[Y,Y,Y,Y,Y,Y,Y,Y,Y,Y,Y,Y,Y,Y,Y,Y,Y,Y,Z,Z,Z,Z,Z,Z,Z,Z,Z,Z] (any_of HT_.out (by kernel_rfl)) ?_
                    refine pu (i := 18) (N := some 105) #[Y,Y,Y,Y,Y,Y,Y,Y,Y,Y,Y,Y,Y,Y,Y,Y,Y,Y,Y,Z,Z,Z,Z,Z,Z,Z,Z,Z] (any_of HT_.out (by kernel_rfl)) ?_
                    refine pu (i := 19) (N := some 106) #[Y,Y,Y,Y,Y,Y,Y,Y,Y,Y,Y,Y,Y,Y,Y,Y,Y,Y,Y,Y,Z,Z,Z,Z,Z,Z,Z,Z] (any_of HT_.out (by kernel_rfl)) ?_
                    refine pu (i := 20) (N := some 107) #[Y,Y,Y,Y,Y,Y,Y,Y,Y,Y,Y,Y,Y,Y,Y,Y,Y,Y,Y,Y,Y,Z,Z,Z,Z,Z,Z,Z] (any_of HT_.out (by kernel_rfl)) ?_
                    refine pu (i := 21) (N := some 108) #[Y,Y,Y,Y,Y,Y,Y,Y,Y,Y,Y,Y,Y,Y,Y,Y,Y,Y,Y,Y,Y,Y,Z,Z,Z,Z,Z,Z] (any_of HT_.out (by kernel_rfl)) ?_
                    refine pu (i := 22) (N := some 109) #[Y,Y,Y,Y,Y,Y,Y,Y,Y,Y,Y,Y,Y,Y,Y,Y,Y,Y,Y,Y,Y,Y,Y,Z,Z,Z,Z,Z] (any_of HT_.out (by kernel_rfl)) ?_
                    refine pu (i := 23) (N := some 110) #[Y,Y,Y,Y,Y,Y,Y,Y,Y,Y,Y,Y,Y,Y,Y,Y,Y,Y,Y,Y,Y,Y,Y,Y,Z,Z,Z,Z] (any_of HT_.out (by kernel_rfl)) ?_
                    refine pu (i := 24) (N := some 111) #[Y,Y,Y,Y,Y,Y,Y,Y,Y,Y,Y,Y,Y,Y,Y,Y,Y,Y,Y,Y,Y,Y,Y,Y,Y,Z,Z,Z] (any_of HT_.out (by kernel_rfl)) ?_
                    refine pz (i := 25) (N := some 112) #[Y,Y,Y,Y,Y,Y,Y,Y,Y,Y,Y,Y,Y,Y,Y,Y,Y,Y,Y,Y,Y,Y,Y,Y,Y,Y,Z,Z] (any_of HT_.out (by kernel_rfl)) ?_
                    refine pz (i := 26) (N := some 113) #[Y,Y,Y,Y,Y,Y,Y,Y,Y,Y,Y,Y,Y,Y,Y,Y,Y,Y,Y,Y,Y,Y,Y,Y,Y,Y,Y,Z] (any_of HT_.out (by kernel_rfl)) ?_
                    refine pz (i := 27) (N := some 2) #[Y,Y,Y,Y,Y,Y,Y,Y,Y,Y,Y,Y,Y,Y,Y,Y,Y,Y,Y,Y,Y,Y,Y,Y,Y,Y,Y,Y] (any_of HT_.out (by kernel_rfl)) ?_
                    refine done_ (done_of HT_.out (by kernel_rfl)) ?_
                    try go_wp2
                    go_ret
                    exact ⟨by first | rfl | (simp [errW_none, errW_some] <;> rfl) | (simp [*, errW_none, errW_some] <;> rfl), zh4 HB GE376 GE380 GE385 GE406⟩
                  · rw [if_neg c100] at H
                    have c100b0 : (t408 == 9) = false := beq_eq_false_iff_ne.mpr c100
                    have c100b1 : (t408 != 9) = true := bne_iff_ne.mpr c100
                    replace H := Option.bind_eq_some_iff.mp H
                    obtain ⟨t409, A1160, H⟩ := H
                    replace H : ((impl_TrieFind.f k1 t381 t374).bind fun t410 => (some (t409 == t410))) = some r := H
                    have A116 := Aside0.mk A1160
                    clear A1160
                    replace H := Option.bind_eq_some_iff.mp H
                    obtain ⟨t410, A1170, H⟩ := H
                    replace H : (some (t409 == t410)) = some r := H
                    have A117 := Aside0.mk A1170
                    clear A1170
                    obtain rfl := Option.some.inj H
                    obtain ⟨Ao118, co118, eo118⟩ := Kd.R_slice HO_5.out
                    subst eo118
                    have hnb119 := NB380_376.out
                    have hnc119 := NB376_380.out
                    have hnb120 := NB380_385.out
                    have hnc120 := NB385_380.out
                    have hcz121_0 : wr.cell? ⟨gb380, 0, none⟩ = some (.slice Ao16 t377.length co16) := (blk_cell BK380.out 0).trans rfl
                    have hfz121_0 := blk_frozen BK380.out 0
                    try go_wp2_with (first | ((with_reducible refine gate_callee (f := 45) rfl ?_); refine goesL_ (some 84) rfl rfl Try.func45 (by kernel_rfl) rfl #[.agg #[.slice Ao16 t377.length co16], .agg #[.int .i64 1, .int .i64 8], .int .i64 3] rfl (by (try simp only [List.map_toArray, List.map_cons, List.map_nil]); first | done | rfl | (simp only [List.length_drop, List.length_take]; rfl)) ?_; (with_reducible refine (impl_TriePut.calls k1 _ _ t377 1 8 3 t402 false _ ?side1 ?side2 A81.out).mono ?_); (case side1 => repeat (first | exact (Kd.R_reads' HO_381000.out).2.2 | (with_reducible refine Kd.C_alloc ?_ _) | (with_reducible refine Kd.C_drewN ?_ _) | (with_reducible refine Kd.C_drew ?_))); (case side2 => exact (Kd.R_reads' HO_381000.out).2.1); rintro e w122 ⟨v403, rfl, ho0, hb⟩; refine ⟨_, rfl, ?_⟩; replace HO_5 := Aside0.mk (Kd.R_below (zr HO_5) hb); have HO404 := Aside0.mk (Kd.R_lower (Kd.R_new' (Kd.R_new' ho0 (Kd.R_lt (zr HO_381000))) (Kd.R_lt (zr HO_386000))) (below_size (zh3 HB GE376 GE380 GE385))); replace HO_381000 := Aside0.mk (Kd.R_elder' (zr HO_381000) (Kd.R_base ho0) hb); replace HO_386000 := Aside0.mk (Kd.R_elder' (zr HO_386000) (Kd.R_base ho0) hb); replace BK376 := zk BK376 hb; replace BK380 := zk BK380 hb; replace BK385 := zk BK385 hb; replace HB := Aside0.mk (below_step (zh3 HB GE376 GE380 GE385) hb); (try clear hb); (try clear hb2); (try clear hk); (try clear hi); (try clear ho0)) | ((with_reducible refine gate_dst (N := 13) rfl ?_); refine box_event ?hg (N := 13) ?hd (cs := #[.slice none 0 0]) (t := 55) ?hr ?_; (case hd => rfl); (case hg => rfl); (case hr => first | (go_simp; done) | (go_simp; rfl)); intro gb406 hg w123 hbox hb; replace HO_5 := Aside0.mk (Kd.R_below (zr HO_5) hb); replace HO_381000 := Aside0.mk (Kd.R_below (zr HO_381000) hb); replace HO_386000 := Aside0.mk (Kd.R_below (zr HO_386000) hb); replace HO404 := Aside0.mk (Kd.R_below (zr HO404) hb); have BK406 := Aside0.mk (hbox); have GW406 := Aside0.mk ((by rw [hg]; exact (below_size (zh3 HB GE376 GE380 GE385)) : w.heap.size ≤ gb406)); have GE406 := Aside0.mk ((by rw [hg]; exact (below_size (zh3 HB GE376 GE380 GE385)) : w.heap.size ≤ gb406)); replace HB := Aside0.mk (below_step (zh3 HB GE376 GE380 GE385) hb); have NB376_406 := Aside0.mk ((by rw [hg]; exact Nat.ne_of_lt (blk_lt (g := gb376) (o := .cells #[.int .i64 t374, .int .i64 t375] 40 (0, 0)) (zb BK376)) : gb376 ≠ gb406)); have NB406_376 := Aside0.mk ((by rw [hg]; exact Nat.ne_of_gt (blk_lt (g := gb376) (o := .cells #[.int .i64 t374, .int .i64 t375] 40 (0, 0)) (zb BK376)) : gb406 ≠ gb376)); replace BK376 := zk BK376 hb; have NB380_406 := Aside0.mk ((by rw [hg]; exact Nat.ne_of_lt (blk_lt (g := gb380) (o := .cells #[.slice Ao16 t377.length co16] 55 (0, 0)) (zb BK380)) : gb380 ≠ gb406)); have NB406_380 := Aside0.mk ((by rw [hg]; exact Nat.ne_of_gt (blk_lt (g := gb380) (o := .cells #[.slice Ao16 t377.length co16] 55 (0, 0)) (zb BK380)) : gb406 ≠ gb380)); replace BK380 := zk BK380 hb; have NB385_406 := Aside0.mk ((by rw [hg]; exact Nat.ne_of_lt (blk_lt (g := gb385) (o := .cells #[.slice Ao22 t381.length co22] 55 (0, 0)) (zb BK385)) : gb385 ≠ gb406)); have NB406_385 := Aside0.mk ((by rw [hg]; exact Nat.ne_of_gt (blk_lt (g := gb385) (o := .cells #[.slice Ao22 t381.length co22] 55 (0, 0)) (zb BK385)) : gb406 ≠ gb385)); replace BK385 := zk BK385 hb; clear hb hbox hg; obtain ⟨Ao124, co124, eo124⟩ := Kd.R_slice HO404.out; subst eo124; have hnb125 := NB406_376.out; have hnc125 := NB376_406.out; have hnb126 := NB406_380.out; have hnc126 := NB380_406.out; have hnb127 := NB406_385.out; have hnc127 := NB385_406.out; have hcz128_0 : w123.cell? ⟨gb406, 0, none⟩ = some (.slice none 0 0) := (blk_cell BK406.out 0).trans rfl; have hfz128_0 := blk_frozen BK406.out 0))
                    have n0_ : Aside0 (Kd.R (Kd.int .i64) 3 (w123.setCell ⟨gb406, 0, none⟩ (.slice Ao124 t402.length co124)) w.heap.size (fun _ => True) (.slice Ao118 y389.length co118) y389) := ⟨by (with_reducible repeat (first | apply Kd.R_alloc | apply Kd.R_drewN | apply Kd.R_drew)); exact Kd.R_mono (Kd.R_far (p := ⟨gb406, 0, none⟩) (Kd.R_types HO_5.out BK406.out (by decide)) (fun _ hk => hk.2) (.slice Ao124 t402.length co124)) (fun _ hk => trivial)⟩
                    have n1_ : Aside0 (Kd.R k104 104 (w123.setCell ⟨gb406, 0, none⟩ (.slice Ao124 t402.length co124)) w.heap.size (fun k_ => some k_ ≠ (.slice Ao22 t381.length co22 : Value).ownBlock ∧ some k_ ≠ (.slice Ao124 t402.length co124 : Value).ownBlock) (.slice Ao16 t377.length co16) t377) := ⟨by (with_reducible repeat (first | apply Kd.R_alloc | apply Kd.R_drewN | apply Kd.R_drew)); exact Kd.R_mono (Kd.R_far (p := ⟨gb406, 0, none⟩) (Kd.R_types HO_381000.out BK406.out (by decide)) (fun _ hk => hk.2) (.slice Ao124 t402.length co124)) (fun _ hk => ⟨hk.1.1, hk.1.2⟩)⟩
                    have n2_ : Aside0 (Kd.R k104 104 (w123.setCell ⟨gb406, 0, none⟩ (.slice Ao124 t402.length co124)) w.heap.size (fun k_ => some k_ ≠ (.slice Ao16 t377.length co16 : Value).ownBlock ∧ some k_ ≠ (.slice Ao124 t402.length co124 : Value).ownBlock) (.slice Ao22 t381.length co22) t381) := ⟨by (with_reducible repeat (first | apply Kd.R_alloc | apply Kd.R_drewN | apply Kd.R_drew)); exact Kd.R_mono (Kd.R_far (p := ⟨gb406, 0, none⟩) (Kd.R_types HO_386000.out BK406.out (by decide)) (fun _ hk => hk.2) (.slice Ao124 t402.length co124)) (fun _ hk => ⟨hk.1.1, hk.1.2⟩)⟩
                    have n3_ : Aside0 (Kd.R k104 104 (w123.setCell ⟨gb406, 0, none⟩ (.slice Ao124 t402.length co124)) w.heap.size (fun k_ => some k_ ≠ (.slice Ao16 t377.length co16 : Value).ownBlock ∧ some k_ ≠ (.slice Ao22 t381.length co22 : Value).ownBlock) (.slice Ao124 t402.length co124) t402) := ⟨by (with_reducible repeat (first | apply Kd.R_alloc | apply Kd.R_drewN | apply Kd.R_drew)); exact Kd.R_mono (Kd.R_far (p := ⟨gb406, 0, none⟩) (Kd.R_types HO404.out BK406.out (by decide)) (fun _ hk => hk.2) (.slice Ao124 t402.length co124)) (fun _ hk => ⟨hk.1.1.2, hk.1.2⟩)⟩
                    have n4_ : Aside0 ((w123.setCell ⟨gb406, 0, none⟩ (.slice Ao124 t402.length co124)).heap[gb376]? = some (.cells #[.int .i64 t374, .int .i64 t375] 40 (0, 0))) := ⟨by (with_reducible repeat (first | refine blk_drewN ?_ _ | refine blk_drew ?_ | refine blk_alloc ?_ _)); refine blk_far ?_ NB376_406.out _; (with_reducible repeat (first | refine blk_drewN ?_ _ | refine blk_drew ?_ | refine blk_alloc ?_ _)); exact BK376.out⟩
                    have n5_ : Aside0 ((w123.setCell ⟨gb406, 0, none⟩ (.slice Ao124 t402.length co124)).heap[gb380]? = some (.cells #[.slice Ao16 t377.length co16] 55 (0, 0))) := ⟨by (with_reducible repeat (first | refine blk_drewN ?_ _ | refine blk_drew ?_ | refine blk_alloc ?_ _)); refine blk_far ?_ NB380_406.out _; (with_reducible repeat (first | refine blk_drewN ?_ _ | refine blk_drew ?_ | refine blk_alloc ?_ _)); exact BK380.out⟩
                    have n6_ : Aside0 ((w123.setCell ⟨gb406, 0, none⟩ (.slice Ao124 t402.length co124)).heap[gb385]? = some (.cells #[.slice Ao22 t381.length co22] 55 (0, 0))) := ⟨by (with_reducible repeat (first | refine blk_drewN ?_ _ | refine blk_drew ?_ | refine blk_alloc ?_ _)); refine blk_far ?_ NB385_406.out _; (with_reducible repeat (first | refine blk_drewN ?_ _ | refine blk_drew ?_ | refine blk_alloc ?_ _)); exact BK385.out⟩
                    have n7_ : Aside0 ((w123.setCell ⟨gb406, 0, none⟩ (.slice Ao124 t402.length co124)).heap[gb406]? = some (.cells #[.slice Ao124 t402.length co124] 55 (0, 0))) := ⟨by (with_reducible repeat (first | refine blk_drewN ?_ _ | refine blk_drew ?_ | refine blk_alloc ?_ _)); refine blk_put (cs := #[.slice none 0 0]) ?_ 0 _ rfl; (with_reducible repeat (first | refine blk_drewN ?_ _ | refine blk_drew ?_ | refine blk_alloc ?_ _)); exact BK406.out⟩
                    have n8_ : Aside0 (Below w.heap.size w (w123.setCell ⟨gb406, 0, none⟩ (.slice Ao124 t402.length co124))) := ⟨zh4 HB GE376 GE380 GE385 GE406⟩
                    (try clear HO_5)
                    (try clear HO_381000)
                    (try clear HO_386000)
                    (try clear HO404)
                    (try clear BK376)
                    (try clear BK380)
                    (try clear BK385)
                    (try clear BK406)
                    (try clear HB)
                    generalize (w123.setCell ⟨gb406, 0, none⟩ (.slice Ao124 t402.length co124)) = w129 at n0_ n1_ n2_ n3_ n4_ n5_ n6_ n7_ n8_ ⊢
                    have HO_5 := n0_
                    have HO_381000 := n1_
                    have HO_386000 := n2_
                    have HO404 := n3_
                    have BK376 := n4_
                    have BK380 := n5_
                    have BK385 := n6_
                    have BK406 := n7_
                    have HB := n8_
                    clear n0_ n1_ n2_ n3_ n4_ n5_ n6_ n7_ n8_
                    replace HO_5 := Aside0.mk (Kd.R_drew HO_5.out)
                    replace HO_381000 := Aside0.mk (Kd.R_drew HO_381000.out)
                    replace HO_386000 := Aside0.mk (Kd.R_drew HO_386000.out)
                    replace HO404 := Aside0.mk (Kd.R_drew HO404.out)
                    replace BK376 := Aside0.mk (blk_drew BK376.out)
                    replace BK380 := Aside0.mk (blk_drew BK380.out)
                    replace BK385 := Aside0.mk (blk_drew BK385.out)
                    replace BK406 := Aside0.mk (blk_drew BK406.out)
                    replace HB := Aside0.mk (below_drew1 HB.out)
                    refine start_ (n := 28) (S := fun w' => w'.cell? ⟨gb385, 0, none⟩ = some (.slice Ao22 t381.length co22) ∧ w'.cell? ⟨gb376, 0, none⟩ = some (.int .i64 t374) ∧ w'.cell? ⟨gb376, 1, none⟩ = some (.int .i64 t375) ∧ w'.cell? ⟨gb380, 0, none⟩ = some (.slice Ao16 t377.length co16)) (ds := []) #[Z,Z,Z,Z,Z,Z,Z,Z,Z,Z,Z,Z,Z,Z,Z,Z,Z,Z,Z,Z,Z,Z,Z,Z,Z,Z,Z,Z] (by kernel_rfl) rfl rfl ⟨(blk_cell BK385.out 0).trans rfl, (blk_cell BK376.out 0).trans rfl, (blk_cell BK376.out 1).trans rfl, (blk_cell BK380.out 0).trans rfl⟩ (fun hHeld => ?_); refine with_tabW laws_FnTriePuts.tab16 laws_FnTriePuts.bits16 (fun HT_ HW_ => ?_)
                    generalize w129.drew = w130 at HO_5 HO_381000 HO_386000 HO404 BK376 BK380 BK385 BK406 HB hHeld ⊢
                    refine pz (i := 0) (N := some 87) #[Y,Z,Z,Z,Z,Z,Z,Z,Z,Z,Z,Z,Z,Z,Z,Z,Z,Z,Z,Z,Z,Z,Z,Z,Z,Z,Z,Z] (any_of HT_.out (by kernel_rfl)) ?_
                    refine pz (i := 1) (N := some 88) #[Y,Y,Z,Z,Z,Z,Z,Z,Z,Z,Z,Z,Z,Z,Z,Z,Z,Z,Z,Z,Z,Z,Z,Z,Z,Z,Z,Z] (any_of HT_.out (by kernel_rfl)) ?_
                    refine pz (i := 2) (N := some 89) #[Y,Y,Y,Z,Z,Z,Z,Z,Z,Z,Z,Z,Z,Z,Z,Z,Z,Z,Z,Z,Z,Z,Z,Z,Z,Z,Z,Z] (any_of HT_.out (by kernel_rfl)) ?_
                    refine pz (i := 3) (N := some 90) #[Y,Y,Y,Y,Z,Z,Z,Z,Z,Z,Z,Z,Z,Z,Z,Z,Z,Z,Z,Z,Z,Z,Z,Z,Z,Z,Z,Z] (any_of HT_.out (by kernel_rfl)) ?_
                    refine pz (i := 4) (N := some 91) #[Y,Y,Y,Y,Y,Z,Z,Z,Z,Z,Z,Z,Z,Z,Z,Z,Z,Z,Z,Z,Z,Z,Z,Z,Z,Z,Z,Z] (any_of HT_.out (by kernel_rfl)) ?_
                    refine pz (i := 5) (N := some 92) #[Y,Y,Y,Y,Y,Y,Z,Z,Z,Z,Z,Z,Z,Z,Z,Z,Z,Z,Z,Z,Z,Z,Z,Z,Z,Z,Z,Z] (any_of HT_.out (by kernel_rfl)) ?_
                    refine tz (i := 6) (N := some 93) #[Y,Y,Y,Y,Y,Y,Y,Z,Z,Z,Z,Z,Z,Z,Z,Z,Z,Z,Z,Z,Z,Z,Z,Z,Z,Z,Z,Z] rfl (take_ofW HT_.out HW_.out (by kernel_rfl)) (Or.inl ⟨by rfl, by rintro w' ⟨s0, s1, s2, s3⟩; go_simp; with_reducible rfl⟩) hHeld ?_
                    refine one_ (i := 7) (N := some 94) #[Y,Y,Y,Y,Y,Y,Y,Y,Z,Z,Z,Z,Z,Z,Z,Z,Z,Z,Z,Z,Z,Z,Z,Z,Z,Z,Z,Z] rfl rfl (one_of HT_.out (by kernel_rfl)) (by decide) (fun K hK => ?_)
                    refine goes_ Try.func51 (by kernel_rfl) rfl #[.agg #[.slice Ao22 t381.length co22]] (by rfl) rfl rfl (by (try simp only [List.map_toArray, List.map_cons, List.map_nil]); first | done | rfl | (simp only [List.length_drop, List.length_take]; rfl)) ?_
                    with_reducible refine (impl_TrieOk.calls k1 _ _ t381 true _ ?side1 ?side2 A97.out).mono ?_
                    (case side1 => repeat (first | exact (Kd.R_reads' HO_386000.out).2.2 | (with_reducible refine Kd.C_alloc ?_ _) | (with_reducible refine Kd.C_drewN ?_ _) | (with_reducible refine Kd.C_drew ?_)))
                    (case side2 => exact (Kd.R_reads' HO_386000.out).2.1)
                    rintro e w131 ⟨rfl, hb⟩
                    refine ⟨_, rfl, ?_⟩
                    replace HO_5 := Aside0.mk (Kd.R_below (zr HO_5) hb)
                    replace HO_381000 := Aside0.mk (Kd.R_below (zr HO_381000) hb)
                    replace HO_386000 := Aside0.mk (Kd.R_below (zr HO_386000) hb)
                    replace HO404 := Aside0.mk (Kd.R_below (zr HO404) hb)
                    replace BK376 := zk BK376 hb
                    replace BK380 := zk BK380 hb
                    replace BK385 := zk BK385 hb
                    replace BK406 := zk BK406 hb
                    replace HB := Aside0.mk (below_step (zh4 HB GE376 GE380 GE385 GE406) hb)
                    (try clear hb)
                    (try clear hb2)
                    (try clear hk)
                    (try clear hi)
                    refine hK.out _ _ ⟨(blk_cell BK385.out 0).trans rfl, (blk_cell BK376.out 0).trans rfl, (blk_cell BK376.out 1).trans rfl, (blk_cell BK380.out 0).trans rfl⟩ (fun hHeld => ?_)
                    clear hK K
                    refine norm_ (a' := ?_) ?_ ?_
                    rotate_left
                    · show Act.put _ (some 94) _ = _
                      simp only [Act.put, List.setIfInBounds_toArray, List.set_cons_zero, List.set_cons_succ, i64_w, i32_w]
                      rfl
                    refine pz (i := 8) (N := some 95) #[Y,Y,Y,Y,Y,Y,Y,Y,Y,Z,Z,Z,Z,Z,Z,Z,Z,Z,Z,Z,Z,Z,Z,Z,Z,Z,Z,Z] (any_of HT_.out (by kernel_rfl)) ?_
                    refine pz (i := 9) (N := some 96) #[Y,Y,Y,Y,Y,Y,Y,Y,Y,Y,Z,Z,Z,Z,Z,Z,Z,Z,Z,Z,Z,Z,Z,Z,Z,Z,Z,Z] (any_of HT_.out (by kernel_rfl)) ?_
                    refine pz (i := 11) (N := some 98) #[Y,Y,Y,Y,Y,Y,Y,Y,Y,Y,Z,Y,Z,Z,Z,Z,Z,Z,Z,Z,Z,Z,Z,Z,Z,Z,Z,Z] (any_of HT_.out (by kernel_rfl)) ?_
                    refine tz (i := 10) (N := some 97) #[Y,Y,Y,Y,Y,Y,Y,Y,Y,Y,Y,Y,Z,Z,Z,Z,Z,Z,Z,Z,Z,Z,Z,Z,Z,Z,Z,Z] rfl (take_ofW HT_.out HW_.out (by kernel_rfl)) (Or.inl ⟨by rfl, by rintro w' ⟨s0, s1, s2, s3⟩; go_simp; with_reducible rfl⟩) hHeld ?_
                    refine tz (i := 12) (N := some 99) #[Y,Y,Y,Y,Y,Y,Y,Y,Y,Y,Y,Y,Y,Z,Z,Z,Z,Z,Z,Z,Z,Z,Z,Z,Z,Z,Z,Z] rfl (take_ofW HT_.out HW_.out (by kernel_rfl)) (Or.inl ⟨by rfl, by rintro w' ⟨s0, s1, s2, s3⟩; go_simp; with_reducible rfl⟩) hHeld ?_
                    refine one_ (i := 13) (N := some 100) #[Y,Y,Y,Y,Y,Y,Y,Y,Y,Y,Y,Y,Y,Y,Z,Z,Z,Z,Z,Z,Z,Z,Z,Z,Z,Z,Z,Z] rfl rfl (one_of HT_.out (by kernel_rfl)) (by decide) (fun K hK => ?_)
                    refine goes_ Try.func34 (by kernel_rfl) rfl #[.agg #[.slice Ao22 t381.length co22], .int .i64 t374] (by rfl) rfl rfl (by (try simp only [List.map_toArray, List.map_cons, List.map_nil]); first | done | rfl | (simp only [List.length_drop, List.length_take]; rfl)) ?_
                    with_reducible refine (impl_TrieFind.calls k1 _ _ t381 t374 t408 _ ?side1 ?side2 A99.out).mono ?_
                    (case side1 => repeat (first | exact (Kd.R_reads' HO_386000.out).2.2 | (with_reducible refine Kd.C_alloc ?_ _) | (with_reducible refine Kd.C_drewN ?_ _) | (with_reducible refine Kd.C_drew ?_)))
                    (case side2 => exact (Kd.R_reads' HO_386000.out).2.1)
                    rintro e w132 ⟨rfl, hb⟩
                    refine ⟨_, rfl, ?_⟩
                    replace HO_5 := Aside0.mk (Kd.R_below (zr HO_5) hb)
                    replace HO_381000 := Aside0.mk (Kd.R_below (zr HO_381000) hb)
                    replace HO_386000 := Aside0.mk (Kd.R_below (zr HO_386000) hb)
                    replace HO404 := Aside0.mk (Kd.R_below (zr HO404) hb)
                    replace BK376 := zk BK376 hb
                    replace BK380 := zk BK380 hb
                    replace BK385 := zk BK385 hb
                    replace BK406 := zk BK406 hb
                    replace HB := Aside0.mk (below_step (zh4 HB GE376 GE380 GE385 GE406) hb)
                    (try clear hb)
                    (try clear hb2)
                    (try clear hk)
                    (try clear hi)
                    refine hK.out _ _ ⟨(blk_cell BK385.out 0).trans rfl, (blk_cell BK376.out 0).trans rfl, (blk_cell BK376.out 1).trans rfl, (blk_cell BK380.out 0).trans rfl⟩ (fun hHeld => ?_)
                    clear hK K
                    refine norm_ (a' := ?_) ?_ ?_
                    rotate_left
                    · show Act.put _ (some 100) _ = _
                      simp only [Act.put, List.setIfInBounds_toArray, List.set_cons_zero, List.set_cons_succ, i64_w, i32_w]
                      rfl
                    refine pz (i := 14) (N := some 101) #[Y,Y,Y,Y,Y,Y,Y,Y,Y,Y,Y,Y,Y,Y,Y,Z,Z,Z,Z,Z,Z,Z,Z,Z,Z,Z,Z,Z] (any_of HT_.out (by kernel_rfl)) ?_
                    refine pz (i := 15) (N := some 102) #[Y,Y,Y,Y,Y,Y,Y,Y,Y,Y,Y,Y,Y,Y,Y,Y,Z,Z,Z,Z,Z,Z,Z,Z,Z,Z,Z,Z] (any_of HT_.out (by kernel_rfl)) ?_
                    refine pz (i := 17) (N := some 104) #[Y,Y,Y,Y,Y,Y,Y,Y,Y,Y,Y,Y,Y,Y,Y,Y,Z,Y,Z,Z,Z,Z,Z,Z,Z,Z,Z,Z] (any_of HT_.out (by kernel_rfl)) ?_
                    refine pz (i := 21) (N := some 108) #[Y,Y,Y,Y,Y,Y,Y,Y,Y,Y,Y,Y,Y,Y,Y,Y,Z,Y,Z,Z,Z,Y,Z,Z,Z,Z,Z,Z] (any_of HT_.out (by kernel_rfl)) ?_
                    refine tz (i := 16) (N := some 103) #[Y,Y,Y,Y,Y,Y,Y,Y,Y,Y,Y,Y,Y,Y,Y,Y,Y,Y,Z,Z,Z,Y,Z,Z,Z,Z,Z,Z] rfl (take_ofW HT_.out HW_.out (by kernel_rfl)) (Or.inl ⟨by rfl, by rintro w' ⟨s0, s1, s2, s3⟩; go_simp; with_reducible rfl⟩) hHeld ?_
                    refine tz (i := 18) (N := some 105) #[Y,Y,Y,Y,Y,Y,Y,Y,Y,Y,Y,Y,Y,Y,Y,Y,Y,Y,Y,Z,Z,Y,Z,Z,Z,Z,Z,Z] rfl (take_ofW HT_.out HW_.out (by kernel_rfl)) (Or.inl ⟨by rfl, by rintro w' ⟨s0, s1, s2, s3⟩; go_simp; with_reducible rfl⟩) hHeld ?_
                    refine tz (i := 20) (N := some 107) #[Y,Y,Y,Y,Y,Y,Y,Y,Y,Y,Y,Y,Y,Y,Y,Y,Y,Y,Y,Z,Y,Y,Z,Z,Z,Z,Z,Z] rfl (take_ofW HT_.out HW_.out (by kernel_rfl)) (Or.inl ⟨by rfl, by rintro w' ⟨s0, s1, s2, s3⟩; go_simp; with_reducible rfl⟩) hHeld ?_
                    refine tz (i := 22) (N := some 109) #[Y,Y,Y,Y,Y,Y,Y,Y,Y,Y,Y,Y,Y,Y,Y,Y,Y,Y,Y,Z,Y,Y,Y,Z,Z,Z,Z,Z] rfl (take_ofW HT_.out HW_.out (by kernel_rfl)) (Or.inl ⟨by rfl, by rintro w' ⟨s0, s1, s2, s3⟩; go_simp; with_reducible rfl⟩) hHeld ?_
                    refine one_ (i := 19) (N := some 106) #[Y,Y,Y,Y,Y,Y,Y,Y,Y,Y,Y,Y,Y,Y,Y,Y,Y,Y,Y,Y,Y,Y,Y,Z,Z,Z,Z,Z] rfl rfl (one_of HT_.out (by kernel_rfl)) (by decide) (fun K hK => ?_)
                    refine goes_ Try.func34 (by kernel_rfl) rfl #[.agg #[.slice Ao16 t377.length co16], .int .i64 t374] (by rfl) rfl rfl (by (try simp only [List.map_toArray, List.map_cons, List.map_nil]); first | done | rfl | (simp only [List.length_drop, List.length_take]; rfl)) ?_
                    with_reducible refine (impl_TrieFind.calls k1 _ _ t377 t374 t409 _ ?side1 ?side2 A116.out).mono ?_
                    (case side1 => repeat (first | exact (Kd.R_reads' HO_381000.out).2.2 | (with_reducible refine Kd.C_alloc ?_ _) | (with_reducible refine Kd.C_drewN ?_ _) | (with_reducible refine Kd.C_drew ?_)))
                    (case side2 => exact (Kd.R_reads' HO_381000.out).2.1)
                    rintro e w133 ⟨rfl, hb⟩
                    refine ⟨_, rfl, ?_⟩
                    replace HO_5 := Aside0.mk (Kd.R_below (zr HO_5) hb)
                    replace HO_381000 := Aside0.mk (Kd.R_below (zr HO_381000) hb)
                    replace HO_386000 := Aside0.mk (Kd.R_below (zr HO_386000) hb)
                    replace HO404 := Aside0.mk (Kd.R_below (zr HO404) hb)
                    replace BK376 := zk BK376 hb
                    replace BK380 := zk BK380 hb
                    replace BK385 := zk BK385 hb
                    replace BK406 := zk BK406 hb
                    replace HB := Aside0.mk (below_step (zh4 HB GE376 GE380 GE385 GE406) hb)
                    (try clear hb)
                    (try clear hb2)
                    (try clear hk)
                    (try clear hi)
                    refine hK.out _ _ ⟨(blk_cell BK385.out 0).trans rfl, (blk_cell BK376.out 0).trans rfl, (blk_cell BK376.out 1).trans rfl, (blk_cell BK380.out 0).trans rfl⟩ (fun hHeld => ?_)
                    clear hK K
                    refine norm_ (a' := ?_) ?_ ?_
                    rotate_left
                    · show Act.put _ (some 106) _ = _
                      simp only [Act.put, List.setIfInBounds_toArray, List.set_cons_zero, List.set_cons_succ, i64_w, i32_w]
                      rfl
                    refine one_ (i := 23) (N := some 110) #[Y,Y,Y,Y,Y,Y,Y,Y,Y,Y,Y,Y,Y,Y,Y,Y,Y,Y,Y,Y,Y,Y,Y,Y,Z,Z,Z,Z] rfl rfl (one_of HT_.out (by kernel_rfl)) (by decide) (fun K hK => ?_)
                    refine goes_ Try.func34 (by kernel_rfl) rfl #[.agg #[.slice Ao22 t381.length co22], .int .i64 t374] (by rfl) rfl rfl (by (try simp only [List.map_toArray, List.map_cons, List.map_nil]); first | done | rfl | (simp only [List.length_drop, List.length_take]; rfl)) ?_
                    with_reducible refine (impl_TrieFind.calls k1 _ _ t381 t374 t410 _ ?side1 ?side2 A117.out).mono ?_
                    (case side1 => repeat (first | exact (Kd.R_reads' HO_386000.out).2.2 | (with_reducible refine Kd.C_alloc ?_ _) | (with_reducible refine Kd.C_drewN ?_ _) | (with_reducible refine Kd.C_drew ?_)))
                    (case side2 => exact (Kd.R_reads' HO_386000.out).2.1)
                    rintro e w134 ⟨rfl, hb⟩
                    refine ⟨_, rfl, ?_⟩
                    replace HO_5 := Aside0.mk (Kd.R_below (zr HO_5) hb)
                    replace HO_381000 := Aside0.mk (Kd.R_below (zr HO_381000) hb)
                    replace HO_386000 := Aside0.mk (Kd.R_below (zr HO_386000) hb)
                    replace HO404 := Aside0.mk (Kd.R_below (zr HO404) hb)
                    replace BK376 := zk BK376 hb
                    replace BK380 := zk BK380 hb
                    replace BK385 := zk BK385 hb
                    replace BK406 := zk BK406 hb
                    replace HB := Aside0.mk (below_step (zh4 HB GE376 GE380 GE385 GE406) hb)
                    (try clear hb)
                    (try clear hb2)
                    (try clear hk)
                    (try clear hi)
                    refine hK.out _ _ ⟨(blk_cell BK385.out 0).trans rfl, (blk_cell BK376.out 0).trans rfl, (blk_cell BK376.out 1).trans rfl, (blk_cell BK380.out 0).trans rfl⟩ (fun hHeld => ?_)
                    clear hK K
                    refine norm_ (a' := ?_) ?_ ?_
                    rotate_left
                    · show Act.put _ (some 110) _ = _
                      simp only [Act.put, List.setIfInBounds_toArray, List.set_cons_zero, List.set_cons_succ, i64_w, i32_w]
                      rfl
                    refine pz (i := 24) (N := some 111) #[Y,Y,Y,Y,Y,Y,Y,Y,Y,Y,Y,Y,Y,Y,Y,Y,Y,Y,Y,Y,Y,Y,Y,Y,Y,Z,Z,Z] (any_of HT_.out (by kernel_rfl)) ?_
                    refine pz (i := 25) (N := some 112) #[Y,Y,Y,Y,Y,Y,Y,Y,Y,Y,Y,Y,Y,Y,Y,Y,Y,Y,Y,Y,Y,Y,Y,Y,Y,Y,Z,Z] (any_of HT_.out (by kernel_rfl)) ?_
                    refine pz (i := 26) (N := some 113) #[Y,Y,Y,Y,Y,Y,Y,Y,Y,Y,Y,Y,Y,Y,Y,Y,Y,Y,Y,Y,Y,Y,Y,Y,Y,Y,Y,Z] (any_of HT_.out (by kernel_rfl)) ?_
                    refine pz (i := 27) (N := some 2) #[Y,Y,Y,Y,Y,Y,Y,Y,Y,Y,Y,Y,Y,Y,Y,Y,Y,Y,Y,Y,Y,Y,Y,Y,Y,Y,Y,Y] (any_of HT_.out (by kernel_rfl)) ?_
                    refine done_ (done_of HT_.out (by kernel_rfl)) ?_
                    try go_wp2
                    go_ret
                    exact ⟨by first | rfl | (simp [errW_none, errW_some] <;> rfl) | (simp [*, errW_none, errW_some] <;> rfl), zh4 HB GE376 GE380 GE385 GE406⟩
                · replace c98 := Bool.eq_false_iff.mpr c98
                  subst c98
                  have H1 : (some false) = some r := by rw [if_neg (show ¬ (false = true) by decide)] at H; exact H
                  clear H
                  have H := H1
                  clear H1
                  obtain rfl := Option.some.inj H
                  obtain ⟨Ao135, co135, eo135⟩ := Kd.R_slice HO_5.out
                  subst eo135
                  have hnb136 := NB380_376.out
                  have hnc136 := NB376_380.out
                  have hnb137 := NB380_385.out
                  have hnc137 := NB385_380.out
                  have hcz138_0 : wr.cell? ⟨gb380, 0, none⟩ = some (.slice Ao16 t377.length co16) := (blk_cell BK380.out 0).trans rfl
                  have hfz138_0 := blk_frozen BK380.out 0
                  try go_wp2_with (first | ((with_reducible refine gate_callee (f := 45) rfl ?_); refine goesL_ (some 84) rfl rfl Try.func45 (by kernel_rfl) rfl #[.agg #[.slice Ao16 t377.length co16], .agg #[.int .i64 1, .int .i64 8], .int .i64 3] rfl (by (try simp only [List.map_toArray, List.map_cons, List.map_nil]); first | done | rfl | (simp only [List.length_drop, List.length_take]; rfl)) ?_; (with_reducible refine (impl_TriePut.calls k1 _ _ t377 1 8 3 t402 false _ ?side1 ?side2 A81.out).mono ?_); (case side1 => repeat (first | exact (Kd.R_reads' HO_381000.out).2.2 | (with_reducible refine Kd.C_alloc ?_ _) | (with_reducible refine Kd.C_drewN ?_ _) | (with_reducible refine Kd.C_drew ?_))); (case side2 => exact (Kd.R_reads' HO_381000.out).2.1); rintro e w139 ⟨v403, rfl, ho0, hb⟩; refine ⟨_, rfl, ?_⟩; replace HO_5 := Aside0.mk (Kd.R_below (zr HO_5) hb); have HO404 := Aside0.mk (Kd.R_lower (Kd.R_new' (Kd.R_new' ho0 (Kd.R_lt (zr HO_381000))) (Kd.R_lt (zr HO_386000))) (below_size (zh3 HB GE376 GE380 GE385))); replace HO_381000 := Aside0.mk (Kd.R_elder' (zr HO_381000) (Kd.R_base ho0) hb); replace HO_386000 := Aside0.mk (Kd.R_elder' (zr HO_386000) (Kd.R_base ho0) hb); replace BK376 := zk BK376 hb; replace BK380 := zk BK380 hb; replace BK385 := zk BK385 hb; replace HB := Aside0.mk (below_step (zh3 HB GE376 GE380 GE385) hb); (try clear hb); (try clear hb2); (try clear hk); (try clear hi); (try clear ho0)) | ((with_reducible refine gate_dst (N := 13) rfl ?_); refine box_event ?hg (N := 13) ?hd (cs := #[.slice none 0 0]) (t := 55) ?hr ?_; (case hd => rfl); (case hg => rfl); (case hr => first | (go_simp; done) | (go_simp; rfl)); intro gb406 hg w140 hbox hb; replace HO_5 := Aside0.mk (Kd.R_below (zr HO_5) hb); replace HO_381000 := Aside0.mk (Kd.R_below (zr HO_381000) hb); replace HO_386000 := Aside0.mk (Kd.R_below (zr HO_386000) hb); replace HO404 := Aside0.mk (Kd.R_below (zr HO404) hb); have BK406 := Aside0.mk (hbox); have GW406 := Aside0.mk ((by rw [hg]; exact (below_size (zh3 HB GE376 GE380 GE385)) : w.heap.size ≤ gb406)); have GE406 := Aside0.mk ((by rw [hg]; exact (below_size (zh3 HB GE376 GE380 GE385)) : w.heap.size ≤ gb406)); replace HB := Aside0.mk (below_step (zh3 HB GE376 GE380 GE385) hb); have NB376_406 := Aside0.mk ((by rw [hg]; exact Nat.ne_of_lt (blk_lt (g := gb376) (o := .cells #[.int .i64 t374, .int .i64 t375] 40 (0, 0)) (zb BK376)) : gb376 ≠ gb406)); have NB406_376 := Aside0.mk ((by rw [hg]; exact Nat.ne_of_gt (blk_lt (g := gb376) (o := .cells #[.int .i64 t374, .int .i64 t375] 40 (0, 0)) (zb BK376)) : gb406 ≠ gb376)); replace BK376 := zk BK376 hb; have NB380_406 := Aside0.mk ((by rw [hg]; exact Nat.ne_of_lt (blk_lt (g := gb380) (o := .cells #[.slice Ao16 t377.length co16] 55 (0, 0)) (zb BK380)) : gb380 ≠ gb406)); have NB406_380 := Aside0.mk ((by rw [hg]; exact Nat.ne_of_gt (blk_lt (g := gb380) (o := .cells #[.slice Ao16 t377.length co16] 55 (0, 0)) (zb BK380)) : gb406 ≠ gb380)); replace BK380 := zk BK380 hb; have NB385_406 := Aside0.mk ((by rw [hg]; exact Nat.ne_of_lt (blk_lt (g := gb385) (o := .cells #[.slice Ao22 t381.length co22] 55 (0, 0)) (zb BK385)) : gb385 ≠ gb406)); have NB406_385 := Aside0.mk ((by rw [hg]; exact Nat.ne_of_gt (blk_lt (g := gb385) (o := .cells #[.slice Ao22 t381.length co22] 55 (0, 0)) (zb BK385)) : gb406 ≠ gb385)); replace BK385 := zk BK385 hb; clear hb hbox hg; obtain ⟨Ao141, co141, eo141⟩ := Kd.R_slice HO404.out; subst eo141; have hnb142 := NB406_376.out; have hnc142 := NB376_406.out; have hnb143 := NB406_380.out; have hnc143 := NB380_406.out; have hnb144 := NB406_385.out; have hnc144 := NB385_406.out; have hcz145_0 : w140.cell? ⟨gb406, 0, none⟩ = some (.slice none 0 0) := (blk_cell BK406.out 0).trans rfl; have hfz145_0 := blk_frozen BK406.out 0))
                  have n0_ : Aside0 (Kd.R (Kd.int .i64) 3 (w140.setCell ⟨gb406, 0, none⟩ (.slice Ao141 t402.length co141)) w.heap.size (fun _ => True) (.slice Ao135 y389.length co135) y389) := ⟨by (with_reducible repeat (first | apply Kd.R_alloc | apply Kd.R_drewN | apply Kd.R_drew)); exact Kd.R_mono (Kd.R_far (p := ⟨gb406, 0, none⟩) (Kd.R_types HO_5.out BK406.out (by decide)) (fun _ hk => hk.2) (.slice Ao141 t402.length co141)) (fun _ hk => trivial)⟩
                  have n1_ : Aside0 (Kd.R k104 104 (w140.setCell ⟨gb406, 0, none⟩ (.slice Ao141 t402.length co141)) w.heap.size (fun k_ => some k_ ≠ (.slice Ao22 t381.length co22 : Value).ownBlock ∧ some k_ ≠ (.slice Ao141 t402.length co141 : Value).ownBlock) (.slice Ao16 t377.length co16) t377) := ⟨by (with_reducible repeat (first | apply Kd.R_alloc | apply Kd.R_drewN | apply Kd.R_drew)); exact Kd.R_mono (Kd.R_far (p := ⟨gb406, 0, none⟩) (Kd.R_types HO_381000.out BK406.out (by decide)) (fun _ hk => hk.2) (.slice Ao141 t402.length co141)) (fun _ hk => ⟨hk.1.1, hk.1.2⟩)⟩
                  have n2_ : Aside0 (Kd.R k104 104 (w140.setCell ⟨gb406, 0, none⟩ (.slice Ao141 t402.length co141)) w.heap.size (fun k_ => some k_ ≠ (.slice Ao16 t377.length co16 : Value).ownBlock ∧ some k_ ≠ (.slice Ao141 t402.length co141 : Value).ownBlock) (.slice Ao22 t381.length co22) t381) := ⟨by (with_reducible repeat (first | apply Kd.R_alloc | apply Kd.R_drewN | apply Kd.R_drew)); exact Kd.R_mono (Kd.R_far (p := ⟨gb406, 0, none⟩) (Kd.R_types HO_386000.out BK406.out (by decide)) (fun _ hk => hk.2) (.slice Ao141 t402.length co141)) (fun _ hk => ⟨hk.1.1, hk.1.2⟩)⟩
                  have n3_ : Aside0 (Kd.R k104 104 (w140.setCell ⟨gb406, 0, none⟩ (.slice Ao141 t402.length co141)) w.heap.size (fun k_ => some k_ ≠ (.slice Ao16 t377.length co16 : Value).ownBlock ∧ some k_ ≠ (.slice Ao22 t381.length co22 : Value).ownBlock) (.slice Ao141 t402.length co141) t402) := ⟨by (with_reducible repeat (first | apply Kd.R_alloc | apply Kd.R_drewN | apply Kd.R_drew)); exact Kd.R_mono (Kd.R_far (p := ⟨gb406, 0, none⟩) (Kd.R_types HO404.out BK406.out (by decide)) (fun _ hk => hk.2) (.slice Ao141 t402.length co141)) (fun _ hk => ⟨hk.1.1.2, hk.1.2⟩)⟩
                  have n4_ : Aside0 ((w140.setCell ⟨gb406, 0, none⟩ (.slice Ao141 t402.length co141)).heap[gb376]? = some (.cells #[.int .i64 t374, .int .i64 t375] 40 (0, 0))) := ⟨by (with_reducible repeat (first | refine blk_drewN ?_ _ | refine blk_drew ?_ | refine blk_alloc ?_ _)); refine blk_far ?_ NB376_406.out _; (with_reducible repeat (first | refine blk_drewN ?_ _ | refine blk_drew ?_ | refine blk_alloc ?_ _)); exact BK376.out⟩
                  have n5_ : Aside0 ((w140.setCell ⟨gb406, 0, none⟩ (.slice Ao141 t402.length co141)).heap[gb380]? = some (.cells #[.slice Ao16 t377.length co16] 55 (0, 0))) := ⟨by (with_reducible repeat (first | refine blk_drewN ?_ _ | refine blk_drew ?_ | refine blk_alloc ?_ _)); refine blk_far ?_ NB380_406.out _; (with_reducible repeat (first | refine blk_drewN ?_ _ | refine blk_drew ?_ | refine blk_alloc ?_ _)); exact BK380.out⟩
                  have n6_ : Aside0 ((w140.setCell ⟨gb406, 0, none⟩ (.slice Ao141 t402.length co141)).heap[gb385]? = some (.cells #[.slice Ao22 t381.length co22] 55 (0, 0))) := ⟨by (with_reducible repeat (first | refine blk_drewN ?_ _ | refine blk_drew ?_ | refine blk_alloc ?_ _)); refine blk_far ?_ NB385_406.out _; (with_reducible repeat (first | refine blk_drewN ?_ _ | refine blk_drew ?_ | refine blk_alloc ?_ _)); exact BK385.out⟩
                  have n7_ : Aside0 ((w140.setCell ⟨gb406, 0, none⟩ (.slice Ao141 t402.length co141)).heap[gb406]? = some (.cells #[.slice Ao141 t402.length co141] 55 (0, 0))) := ⟨by (with_reducible repeat (first | refine blk_drewN ?_ _ | refine blk_drew ?_ | refine blk_alloc ?_ _)); refine blk_put (cs := #[.slice none 0 0]) ?_ 0 _ rfl; (with_reducible repeat (first | refine blk_drewN ?_ _ | refine blk_drew ?_ | refine blk_alloc ?_ _)); exact BK406.out⟩
                  have n8_ : Aside0 (Below w.heap.size w (w140.setCell ⟨gb406, 0, none⟩ (.slice Ao141 t402.length co141))) := ⟨zh4 HB GE376 GE380 GE385 GE406⟩
                  (try clear HO_5)
                  (try clear HO_381000)
                  (try clear HO_386000)
                  (try clear HO404)
                  (try clear BK376)
                  (try clear BK380)
                  (try clear BK385)
                  (try clear BK406)
                  (try clear HB)
                  generalize (w140.setCell ⟨gb406, 0, none⟩ (.slice Ao141 t402.length co141)) = w146 at n0_ n1_ n2_ n3_ n4_ n5_ n6_ n7_ n8_ ⊢
                  have HO_5 := n0_
                  have HO_381000 := n1_
                  have HO_386000 := n2_
                  have HO404 := n3_
                  have BK376 := n4_
                  have BK380 := n5_
                  have BK385 := n6_
                  have BK406 := n7_
                  have HB := n8_
                  clear n0_ n1_ n2_ n3_ n4_ n5_ n6_ n7_ n8_
                  replace HO_5 := Aside0.mk (Kd.R_drew HO_5.out)
                  replace HO_381000 := Aside0.mk (Kd.R_drew HO_381000.out)
                  replace HO_386000 := Aside0.mk (Kd.R_drew HO_386000.out)
                  replace HO404 := Aside0.mk (Kd.R_drew HO404.out)
                  replace BK376 := Aside0.mk (blk_drew BK376.out)
                  replace BK380 := Aside0.mk (blk_drew BK380.out)
                  replace BK385 := Aside0.mk (blk_drew BK385.out)
                  replace BK406 := Aside0.mk (blk_drew BK406.out)
                  replace HB := Aside0.mk (below_drew1 HB.out)
                  refine start_ (n := 28) (S := fun w' => w'.cell? ⟨gb385, 0, none⟩ = some (.slice Ao22 t381.length co22)) (ds := []) #[Z,Z,Z,Z,Z,Z,Z,Z,Z,Z,Z,Z,Z,Z,Z,Z,Z,Z,Z,Z,Z,Z,Z,Z,Z,Z,Z,Z] (by kernel_rfl) rfl rfl ((blk_cell BK385.out 0).trans rfl) (fun hHeld => ?_); refine with_tabW laws_FnTriePuts.tab16 laws_FnTriePuts.bits16 (fun HT_ HW_ => ?_)
                  generalize w146.drew = w147 at HO_5 HO_381000 HO_386000 HO404 BK376 BK380 BK385 BK406 HB hHeld ⊢
                  refine pz (i := 0) (N := some 87) #[Y,Z,Z,Z,Z,Z,Z,Z,Z,Z,Z,Z,Z,Z,Z,Z,Z,Z,Z,Z,Z,Z,Z,Z,Z,Z,Z,Z] (any_of HT_.out (by kernel_rfl)) ?_
                  refine pz (i := 1) (N := some 88) #[Y,Y,Z,Z,Z,Z,Z,Z,Z,Z,Z,Z,Z,Z,Z,Z,Z,Z,Z,Z,Z,Z,Z,Z,Z,Z,Z,Z] (any_of HT_.out (by kernel_rfl)) ?_
                  refine pz (i := 2) (N := some 89) #[Y,Y,Y,Z,Z,Z,Z,Z,Z,Z,Z,Z,Z,Z,Z,Z,Z,Z,Z,Z,Z,Z,Z,Z,Z,Z,Z,Z] (any_of HT_.out (by kernel_rfl)) ?_
                  refine pz (i := 3) (N := some 90) #[Y,Y,Y,Y,Z,Z,Z,Z,Z,Z,Z,Z,Z,Z,Z,Z,Z,Z,Z,Z,Z,Z,Z,Z,Z,Z,Z,Z] (any_of HT_.out (by kernel_rfl)) ?_
                  refine pz (i := 4) (N := some 91) #[Y,Y,Y,Y,Y,Z,Z,Z,Z,Z,Z,Z,Z,Z,Z,Z,Z,Z,Z,Z,Z,Z,Z,Z,Z,Z,Z,Z] (any_of HT_.out (by kernel_rfl)) ?_
                  refine pz (i := 5) (N := some 92) #[Y,Y,Y,Y,Y,Y,Z,Z,Z,Z,Z,Z,Z,Z,Z,Z,Z,Z,Z,Z,Z,Z,Z,Z,Z,Z,Z,Z] (any_of HT_.out (by kernel_rfl)) ?_
                  refine take_ (i := 6) (N := some 93) (v := ?_) (a' := ?_) #[Y,Y,Y,Y,Y,Y,Y,Z,Z,Z,Z,Z,Z,Z,Z,Z,Z,Z,Z,Z,Z,Z,Z,Z,Z,Z,Z,Z] rfl rfl (take_ofW HT_.out HW_.out (by kernel_rfl)) (fun _ _ _ h => h) (Or.inl ⟨by rfl, ?_⟩) hHeld ?_ ?_
                  rotate_left
                  · intro w' s0
                    go_simp
                    with_reducible rfl
                  rotate_left
                  · simp only [Act.put, List.setIfInBounds_toArray, List.set_cons_zero, List.set_cons_succ, i64_w, i32_w]
                    rfl
                  refine one_ (i := 7) (N := some 94) #[Y,Y,Y,Y,Y,Y,Y,Y,Z,Z,Z,Z,Z,Z,Z,Z,Z,Z,Z,Z,Z,Z,Z,Z,Z,Z,Z,Z] rfl rfl (one_of HT_.out (by kernel_rfl)) (by decide) (fun K hK => ?_)
                  refine goes_ Try.func51 (by kernel_rfl) rfl #[.agg #[.slice Ao22 t381.length co22]] (by rfl) rfl rfl (by (try simp only [List.map_toArray, List.map_cons, List.map_nil]); first | done | rfl | (simp only [List.length_drop, List.length_take]; rfl)) ?_
                  with_reducible refine (impl_TrieOk.calls k1 _ _ t381 false _ ?side1 ?side2 A97.out).mono ?_
                  (case side1 => repeat (first | exact (Kd.R_reads' HO_386000.out).2.2 | (with_reducible refine Kd.C_alloc ?_ _) | (with_reducible refine Kd.C_drewN ?_ _) | (with_reducible refine Kd.C_drew ?_)))
                  (case side2 => exact (Kd.R_reads' HO_386000.out).2.1)
                  rintro e w148 ⟨rfl, hb⟩
                  refine ⟨_, rfl, ?_⟩
                  replace HO_5 := Aside0.mk (Kd.R_below (zr HO_5) hb)
                  replace HO_381000 := Aside0.mk (Kd.R_below (zr HO_381000) hb)
                  replace HO_386000 := Aside0.mk (Kd.R_below (zr HO_386000) hb)
                  replace HO404 := Aside0.mk (Kd.R_below (zr HO404) hb)
                  replace BK376 := zk BK376 hb
                  replace BK380 := zk BK380 hb
                  replace BK385 := zk BK385 hb
                  replace BK406 := zk BK406 hb
                  replace HB := Aside0.mk (below_step (zh4 HB GE376 GE380 GE385 GE406) hb)
                  (try clear hb)
                  (try clear hb2)
                  (try clear hk)
                  (try clear hi)
                  refine hK.out _ _ ((blk_cell BK385.out 0).trans rfl) (fun hHeld => ?_)
                  clear hK K
                  refine norm_ (a' := ?_) ?_ ?_
                  rotate_left
                  · show Act.put _ (some 94) _ = _
                    simp only [Act.put, List.setIfInBounds_toArray, List.set_cons_zero, List.set_cons_succ, i64_w, i32_w]
                    rfl
                  refine pz (i := 8) (N := some 95) #[Y,Y,Y,Y,Y,Y,Y,Y,Y,Z,Z,Z,Z,Z,Z,Z,Z,Z,Z,Z,Z,Z,Z,Z,Z,Z,Z,Z] (any_of HT_.out (by kernel_rfl)) ?_
                  refine pz (i := 9) (N := some 96) #[Y,Y,Y,Y,Y,Y,Y,Y,Y,Y,Z,Z,Z,Z,Z,Z,Z,Z,Z,Z,Z,Z,Z,Z,Z,Z,Z,Z] (any_of HT_.out (by kernel_rfl)) ?_
                  refine pu (i := 10) (N := some 97) #[Y,Y,Y,Y,Y,Y,Y,Y,Y,Y,Y,Z,Z,Z,Z,Z,Z,Z,Z,Z,Z,Z,Z,Z,Z,Z,Z,Z] (any_of HT_.out (by kernel_rfl)) ?_
                  refine pu (i := 11) (N := some 98) #[Y,Y,Y,Y,Y,Y,Y,Y,Y,Y,Y,Y,Z,Z,Z,Z,Z,Z,Z,Z,Z,Z,Z,Z,Z,Z,Z,Z] (any_of HT_.out (by kernel_rfl)) ?_
                  refine pu (i := 12) (N := some 99) #[Y,Y,Y,Y,Y,Y,Y,Y,Y,Y,Y,Y,Y,Z,Z,Z,Z,Z,Z,Z,Z,Z,Z,Z,Z,Z,Z,Z] (any_of HT_.out (by kernel_rfl)) ?_
                  refine pu (i := 13) (N := some 100) #[Y,Y,Y,Y,Y,Y,Y,Y,Y,Y,Y,Y,Y,Y,Z,Z,Z,Z,Z,Z,Z,Z,Z,Z,Z,Z,Z,Z] (any_of HT_.out (by kernel_rfl)) ?_
                  refine pu (i := 14) (N := some 101) #[Y,Y,Y,Y,Y,Y,Y,Y,Y,Y,Y,Y,Y,Y,Y,Z,Z,Z,Z,Z,Z,Z,Z,Z,Z,Z,Z,Z] (any_of HT_.out (by kernel_rfl)) ?_
                  refine pu (i := 15) (N := some 102) #[Y,Y,Y,Y,Y,Y,Y,Y,Y,Y,Y,Y,Y,Y,Y,Y,Z,Z,Z,Z,Z,Z,Z,Z,Z,Z,Z,Z] (any_of HT_.out (by kernel_rfl)) ?_
                  refine pu (i := 16) (N := some 103) #[Y,Y,Y,Y,Y,Y,Y,Y,Y,Y,Y,Y,Y,Y,Y,Y,Y,Z,Z,Z,Z,Z,Z,Z,Z,Z,Z,Z] (any_of HT_.out (by kernel_rfl)) ?_
                  refine pu (i := 17) (N := some 104) #[Y,Y,Y,Y,Y,Y,Y,Y,Y,Y,Y,Y,Y,Y,Y,Y,Y,Y,Z,Z,Z,Z,Z,Z,Z,Z,Z,Z] (any_of HT_.out (by kernel_rfl)) ?_
                  refine pu (i := 18) (N := some 105) #[Y,Y,Y,Y,Y,Y,Y,Y,Y,Y,Y,Y,Y,Y,Y,Y,Y,Y,Y,Z,Z,Z,Z,Z,Z,Z,Z,Z] (any_of HT_.out (by kernel_rfl)) ?_
                  refine pu (i := 19) (N := some 106) #[Y,Y,Y,Y,Y,Y,Y,Y,Y,Y,Y,Y,Y,Y,Y,Y,Y,Y,Y,Y,Z,Z,Z,Z,Z,Z,Z,Z] (any_of HT_.out (by kernel_rfl)) ?_
                  refine pu (i := 20) (N := some 107) #[Y,Y,Y,Y,Y,Y,Y,Y,Y,Y,Y,Y,Y,Y,Y,Y,Y,Y,Y,Y,Y,Z,Z,Z,Z,Z,Z,Z] (any_of HT_.out (by kernel_rfl)) ?_
                  refine pu (i := 21) (N := some 108) #[Y,Y,Y,Y,Y,Y,Y,Y,Y,Y,Y,Y,Y,Y,Y,Y,Y,Y,Y,Y,Y,Y,Z,Z,Z,Z,Z,Z] (any_of HT_.out (by kernel_rfl)) ?_
                  refine pu (i := 22) (N := some 109) #[Y,Y,Y,Y,Y,Y,Y,Y,Y,Y,Y,Y,Y,Y,Y,Y,Y,Y,Y,Y,Y,Y,Y,Z,Z,Z,Z,Z] (any_of HT_.out (by kernel_rfl)) ?_
                  refine pu (i := 23) (N := some 110) #[Y,Y,Y,Y,Y,Y,Y,Y,Y,Y,Y,Y,Y,Y,Y,Y,Y,Y,Y,Y,Y,Y,Y,Y,Z,Z,Z,Z] (any_of HT_.out (by kernel_rfl)) ?_
                  refine pu (i := 24) (N := some 111) #[Y,Y,Y,Y,Y,Y,Y,Y,Y,Y,Y,Y,Y,Y,Y,Y,Y,Y,Y,Y,Y,Y,Y,Y,Y,Z,Z,Z] (any_of HT_.out (by kernel_rfl)) ?_
                  refine pu (i := 25) (N := some 112) #[Y,Y,Y,Y,Y,Y,Y,Y,Y,Y,Y,Y,Y,Y,Y,Y,Y,Y,Y,Y,Y,Y,Y,Y,Y,Y,Z,Z] (any_of HT_.out (by kernel_rfl)) ?_
                  refine pz (i := 26) (N := some 113) #[Y,Y,Y,Y,Y,Y,Y,Y,Y,Y,Y,Y,Y,Y,Y,Y,Y,Y,Y,Y,Y,Y,Y,Y,Y,Y,Y,Z] (any_of HT_.out (by kernel_rfl)) ?_
                  refine pz (i := 27) (N := some 2) #[Y,Y,Y,Y,Y,Y,Y,Y,Y,Y,Y,Y,Y,Y,Y,Y,Y,Y,Y,Y,Y,Y,Y,Y,Y,Y,Y,Y] (any_of HT_.out (by kernel_rfl)) ?_
                  refine done_ (done_of HT_.out (by kernel_rfl)) ?_
                  try go_wp2
                  go_ret
                  exact ⟨by first | rfl | (simp [errW_none, errW_some] <;> rfl) | (simp [*, errW_none, errW_some] <;> rfl), zh4 HB GE376 GE380 GE385 GE406⟩
            · replace c82 := Bool.eq_false_iff.mpr c82
              subst c82
              have H1 : (some false) = some r := by rw [if_neg (show ¬ (false = true) by decide)] at H; exact H
              clear H
              have H := H1
              clear H1
              obtain rfl := Option.some.inj H
              obtain ⟨Ao149, co149, eo149⟩ := Kd.R_slice HO_5.out
              subst eo149
              have hnb150 := NB380_376.out
              have hnc150 := NB376_380.out
              have hnb151 := NB380_385.out
              have hnc151 := NB385_380.out
              have hcz152_0 : wr.cell? ⟨gb380, 0, none⟩ = some (.slice Ao16 t377.length co16) := (blk_cell BK380.out 0).trans rfl
              have hfz152_0 := blk_frozen BK380.out 0
              try go_wp2_with (first | ((with_reducible refine gate_callee (f := 45) rfl ?_); refine goesL_ (some 84) rfl rfl Try.func45 (by kernel_rfl) rfl #[.agg #[.slice Ao16 t377.length co16], .agg #[.int .i64 1, .int .i64 8], .int .i64 3] rfl (by (try simp only [List.map_toArray, List.map_cons, List.map_nil]); first | done | rfl | (simp only [List.length_drop, List.length_take]; rfl)) ?_; (with_reducible refine (impl_TriePut.calls k1 _ _ t377 1 8 3 t402 t405 _ ?side1 ?side2 A81.out).mono ?_); (case side1 => repeat (first | exact (Kd.R_reads' HO_381000.out).2.2 | (with_reducible refine Kd.C_alloc ?_ _) | (with_reducible refine Kd.C_drewN ?_ _) | (with_reducible refine Kd.C_drew ?_))); (case side2 => exact (Kd.R_reads' HO_381000.out).2.1); rintro e w153 ⟨v403, rfl, ho0, hb⟩; refine ⟨_, rfl, ?_⟩; replace HO_5 := Aside0.mk (Kd.R_below (zr HO_5) hb); have HO404 := Aside0.mk (Kd.R_lower (Kd.R_new' (Kd.R_new' ho0 (Kd.R_lt (zr HO_381000))) (Kd.R_lt (zr HO_386000))) (below_size (zh3 HB GE376 GE380 GE385))); replace HO_381000 := Aside0.mk (Kd.R_elder' (zr HO_381000) (Kd.R_base ho0) hb); replace HO_386000 := Aside0.mk (Kd.R_elder' (zr HO_386000) (Kd.R_base ho0) hb); replace BK376 := zk BK376 hb; replace BK380 := zk BK380 hb; replace BK385 := zk BK385 hb; replace HB := Aside0.mk (below_step (zh3 HB GE376 GE380 GE385) hb); (try clear hb); (try clear hb2); (try clear hk); (try clear hi); (try clear ho0)) | ((with_reducible refine gate_dst (N := 13) rfl ?_); refine box_event ?hg (N := 13) ?hd (cs := #[.slice none 0 0]) (t := 55) ?hr ?_; (case hd => rfl); (case hg => rfl); (case hr => first | (go_simp; done) | (go_simp; rfl)); intro gb406 hg w154 hbox hb; replace HO_5 := Aside0.mk (Kd.R_below (zr HO_5) hb); replace HO_381000 := Aside0.mk (Kd.R_below (zr HO_381000) hb); replace HO_386000 := Aside0.mk (Kd.R_below (zr HO_386000) hb); replace HO404 := Aside0.mk (Kd.R_below (zr HO404) hb); have BK406 := Aside0.mk (hbox); have GW406 := Aside0.mk ((by rw [hg]; exact (below_size (zh3 HB GE376 GE380 GE385)) : w.heap.size ≤ gb406)); have GE406 := Aside0.mk ((by rw [hg]; exact (below_size (zh3 HB GE376 GE380 GE385)) : w.heap.size ≤ gb406)); replace HB := Aside0.mk (below_step (zh3 HB GE376 GE380 GE385) hb); have NB376_406 := Aside0.mk ((by rw [hg]; exact Nat.ne_of_lt (blk_lt (g := gb376) (o := .cells #[.int .i64 t374, .int .i64 t375] 40 (0, 0)) (zb BK376)) : gb376 ≠ gb406)); have NB406_376 := Aside0.mk ((by rw [hg]; exact Nat.ne_of_gt (blk_lt (g := gb376) (o := .cells #[.int .i64 t374, .int .i64 t375] 40 (0, 0)) (zb BK376)) : gb406 ≠ gb376)); replace BK376 := zk BK376 hb; have NB380_406 := Aside0.mk ((by rw [hg]; exact Nat.ne_of_lt (blk_lt (g := gb380) (o := .cells #[.slice Ao16 t377.length co16] 55 (0, 0)) (zb BK380)) : gb380 ≠ gb406)); have NB406_380 := Aside0.mk ((by rw [hg]; exact Nat.ne_of_gt (blk_lt (g := gb380) (o := .cells #[.slice Ao16 t377.length co16] 55 (0, 0)) (zb BK380)) : gb406 ≠ gb380)); replace BK380 := zk BK380 hb; have NB385_406 := Aside0.mk ((by rw [hg]; exact Nat.ne_of_lt (blk_lt (g := gb385) (o := .cells #[.slice Ao22 t381.length co22] 55 (0, 0)) (zb BK385)) : gb385 ≠ gb406)); have NB406_385 := Aside0.mk ((by rw [hg]; exact Nat.ne_of_gt (blk_lt (g := gb385) (o := .cells #[.slice Ao22 t381.length co22] 55 (0, 0)) (zb BK385)) : gb406 ≠ gb385)); replace BK385 := zk BK385 hb; clear hb hbox hg; obtain ⟨Ao155, co155, eo155⟩ := Kd.R_slice HO404.out; subst eo155; have hnb156 := NB406_376.out; have hnc156 := NB376_406.out; have hnb157 := NB406_380.out; have hnc157 := NB380_406.out; have hnb158 := NB406_385.out; have hnc158 := NB385_406.out; have hcz159_0 : w154.cell? ⟨gb406, 0, none⟩ = some (.slice none 0 0) := (blk_cell BK406.out 0).trans rfl; have hfz159_0 := blk_frozen BK406.out 0))
              have n0_ : Aside0 (Kd.R (Kd.int .i64) 3 (w154.setCell ⟨gb406, 0, none⟩ (.slice Ao155 t402.length co155)) w.heap.size (fun _ => True) (.slice Ao149 y389.length co149) y389) := ⟨by (with_reducible repeat (first | apply Kd.R_alloc | apply Kd.R_drewN | apply Kd.R_drew)); exact Kd.R_mono (Kd.R_far (p := ⟨gb406, 0, none⟩) (Kd.R_types HO_5.out BK406.out (by decide)) (fun _ hk => hk.2) (.slice Ao155 t402.length co155)) (fun _ hk => trivial)⟩
              have n1_ : Aside0 (Kd.R k104 104 (w154.setCell ⟨gb406, 0, none⟩ (.slice Ao155 t402.length co155)) w.heap.size (fun k_ => some k_ ≠ (.slice Ao22 t381.length co22 : Value).ownBlock ∧ some k_ ≠ (.slice Ao155 t402.length co155 : Value).ownBlock) (.slice Ao16 t377.length co16) t377) := ⟨by (with_reducible repeat (first | apply Kd.R_alloc | apply Kd.R_drewN | apply Kd.R_drew)); exact Kd.R_mono (Kd.R_far (p := ⟨gb406, 0, none⟩) (Kd.R_types HO_381000.out BK406.out (by decide)) (fun _ hk => hk.2) (.slice Ao155 t402.length co155)) (fun _ hk => ⟨hk.1.1, hk.1.2⟩)⟩
              have n2_ : Aside0 (Kd.R k104 104 (w154.setCell ⟨gb406, 0, none⟩ (.slice Ao155 t402.length co155)) w.heap.size (fun k_ => some k_ ≠ (.slice Ao16 t377.length co16 : Value).ownBlock ∧ some k_ ≠ (.slice Ao155 t402.length co155 : Value).ownBlock) (.slice Ao22 t381.length co22) t381) := ⟨by (with_reducible repeat (first | apply Kd.R_alloc | apply Kd.R_drewN | apply Kd.R_drew)); exact Kd.R_mono (Kd.R_far (p := ⟨gb406, 0, none⟩) (Kd.R_types HO_386000.out BK406.out (by decide)) (fun _ hk => hk.2) (.slice Ao155 t402.length co155)) (fun _ hk => ⟨hk.1.1, hk.1.2⟩)⟩
              have n3_ : Aside0 (Kd.R k104 104 (w154.setCell ⟨gb406, 0, none⟩ (.slice Ao155 t402.length co155)) w.heap.size (fun k_ => some k_ ≠ (.slice Ao16 t377.length co16 : Value).ownBlock ∧ some k_ ≠ (.slice Ao22 t381.length co22 : Value).ownBlock) (.slice Ao155 t402.length co155) t402) := ⟨by (with_reducible repeat (first | apply Kd.R_alloc | apply Kd.R_drewN | apply Kd.R_drew)); exact Kd.R_mono (Kd.R_far (p := ⟨gb406, 0, none⟩) (Kd.R_types HO404.out BK406.out (by decide)) (fun _ hk => hk.2) (.slice Ao155 t402.length co155)) (fun _ hk => ⟨hk.1.1.2, hk.1.2⟩)⟩
              have n4_ : Aside0 ((w154.setCell ⟨gb406, 0, none⟩ (.slice Ao155 t402.length co155)).heap[gb376]? = some (.cells #[.int .i64 t374, .int .i64 t375] 40 (0, 0))) := ⟨by (with_reducible repeat (first | refine blk_drewN ?_ _ | refine blk_drew ?_ | refine blk_alloc ?_ _)); refine blk_far ?_ NB376_406.out _; (with_reducible repeat (first | refine blk_drewN ?_ _ | refine blk_drew ?_ | refine blk_alloc ?_ _)); exact BK376.out⟩
              have n5_ : Aside0 ((w154.setCell ⟨gb406, 0, none⟩ (.slice Ao155 t402.length co155)).heap[gb380]? = some (.cells #[.slice Ao16 t377.length co16] 55 (0, 0))) := ⟨by (with_reducible repeat (first | refine blk_drewN ?_ _ | refine blk_drew ?_ | refine blk_alloc ?_ _)); refine blk_far ?_ NB380_406.out _; (with_reducible repeat (first | refine blk_drewN ?_ _ | refine blk_drew ?_ | refine blk_alloc ?_ _)); exact BK380.out⟩
              have n6_ : Aside0 ((w154.setCell ⟨gb406, 0, none⟩ (.slice Ao155 t402.length co155)).heap[gb385]? = some (.cells #[.slice Ao22 t381.length co22] 55 (0, 0))) := ⟨by (with_reducible repeat (first | refine blk_drewN ?_ _ | refine blk_drew ?_ | refine blk_alloc ?_ _)); refine blk_far ?_ NB385_406.out _; (with_reducible repeat (first | refine blk_drewN ?_ _ | refine blk_drew ?_ | refine blk_alloc ?_ _)); exact BK385.out⟩
              have n7_ : Aside0 ((w154.setCell ⟨gb406, 0, none⟩ (.slice Ao155 t402.length co155)).heap[gb406]? = some (.cells #[.slice Ao155 t402.length co155] 55 (0, 0))) := ⟨by (with_reducible repeat (first | refine blk_drewN ?_ _ | refine blk_drew ?_ | refine blk_alloc ?_ _)); refine blk_put (cs := #[.slice none 0 0]) ?_ 0 _ rfl; (with_reducible repeat (first | refine blk_drewN ?_ _ | refine blk_drew ?_ | refine blk_alloc ?_ _)); exact BK406.out⟩
              have n8_ : Aside0 (Below w.heap.size w (w154.setCell ⟨gb406, 0, none⟩ (.slice Ao155 t402.length co155))) := ⟨zh4 HB GE376 GE380 GE385 GE406⟩
              (try clear HO_5)
              (try clear HO_381000)
              (try clear HO_386000)
              (try clear HO404)
              (try clear BK376)
              (try clear BK380)
              (try clear BK385)
              (try clear BK406)
              (try clear HB)
              generalize (w154.setCell ⟨gb406, 0, none⟩ (.slice Ao155 t402.length co155)) = w160 at n0_ n1_ n2_ n3_ n4_ n5_ n6_ n7_ n8_ ⊢
              have HO_5 := n0_
              have HO_381000 := n1_
              have HO_386000 := n2_
              have HO404 := n3_
              have BK376 := n4_
              have BK380 := n5_
              have BK385 := n6_
              have BK406 := n7_
              have HB := n8_
              clear n0_ n1_ n2_ n3_ n4_ n5_ n6_ n7_ n8_
              replace HO_5 := Aside0.mk (Kd.R_drew HO_5.out)
              replace HO_381000 := Aside0.mk (Kd.R_drew HO_381000.out)
              replace HO_386000 := Aside0.mk (Kd.R_drew HO_386000.out)
              replace HO404 := Aside0.mk (Kd.R_drew HO404.out)
              replace BK376 := Aside0.mk (blk_drew BK376.out)
              replace BK380 := Aside0.mk (blk_drew BK380.out)
              replace BK385 := Aside0.mk (blk_drew BK385.out)
              replace BK406 := Aside0.mk (blk_drew BK406.out)
              replace HB := Aside0.mk (below_drew1 HB.out)
              refine start_ (n := 28) (S := fun w' => True) (ds := []) #[Z,Z,Z,Z,Z,Z,Z,Z,Z,Z,Z,Z,Z,Z,Z,Z,Z,Z,Z,Z,Z,Z,Z,Z,Z,Z,Z,Z] (by kernel_rfl) rfl rfl trivial (fun hHeld => ?_); refine with_tabW laws_FnTriePuts.tab16 laws_FnTriePuts.bits16 (fun HT_ HW_ => ?_)
              generalize w160.drew = w161 at HO_5 HO_381000 HO_386000 HO404 BK376 BK380 BK385 BK406 HB hHeld ⊢
              refine pz (i := 0) (N := some 87) #[Y,Z,Z,Z,Z,Z,Z,Z,Z,Z,Z,Z,Z,Z,Z,Z,Z,Z,Z,Z,Z,Z,Z,Z,Z,Z,Z,Z] (any_of HT_.out (by kernel_rfl)) ?_
              refine pz (i := 1) (N := some 88) #[Y,Y,Z,Z,Z,Z,Z,Z,Z,Z,Z,Z,Z,Z,Z,Z,Z,Z,Z,Z,Z,Z,Z,Z,Z,Z,Z,Z] (any_of HT_.out (by kernel_rfl)) ?_
              refine pu (i := 2) (N := some 89) #[Y,Y,Y,Z,Z,Z,Z,Z,Z,Z,Z,Z,Z,Z,Z,Z,Z,Z,Z,Z,Z,Z,Z,Z,Z,Z,Z,Z] (any_of HT_.out (by kernel_rfl)) ?_
              refine pu (i := 3) (N := some 90) #[Y,Y,Y,Y,Z,Z,Z,Z,Z,Z,Z,Z,Z,Z,Z,Z,Z,Z,Z,Z,Z,Z,Z,Z,Z,Z,Z,Z] (any_of HT_.out (by kernel_rfl)) ?_
              refine pz (i := 4) (N := some 91) #[Y,Y,Y,Y,Y,Z,Z,Z,Z,Z,Z,Z,Z,Z,Z,Z,Z,Z,Z,Z,Z,Z,Z,Z,Z,Z,Z,Z] (any_of HT_.out (by kernel_rfl)) ?_
              refine pz (i := 5) (N := some 92) #[Y,Y,Y,Y,Y,Y,Z,Z,Z,Z,Z,Z,Z,Z,Z,Z,Z,Z,Z,Z,Z,Z,Z,Z,Z,Z,Z,Z] (any_of HT_.out (by kernel_rfl)) ?_
              refine pu (i := 6) (N := some 93) #[Y,Y,Y,Y,Y,Y,Y,Z,Z,Z,Z,Z,Z,Z,Z,Z,Z,Z,Z,Z,Z,Z,Z,Z,Z,Z,Z,Z] (any_of HT_.out (by kernel_rfl)) ?_
              refine pu (i := 7) (N := some 94) #[Y,Y,Y,Y,Y,Y,Y,Y,Z,Z,Z,Z,Z,Z,Z,Z,Z,Z,Z,Z,Z,Z,Z,Z,Z,Z,Z,Z] (any_of HT_.out (by kernel_rfl)) ?_
              refine pz (i := 8) (N := some 95) #[Y,Y,Y,Y,Y,Y,Y,Y,Y,Z,Z,Z,Z,Z,Z,Z,Z,Z,Z,Z,Z,Z,Z,Z,Z,Z,Z,Z] (any_of HT_.out (by kernel_rfl)) ?_
              refine pz (i := 9) (N := some 96) #[Y,Y,Y,Y,Y,Y,Y,Y,Y,Y,Z,Z,Z,Z,Z,Z,Z,Z,Z,Z,Z,Z,Z,Z,Z,Z,Z,Z] (any_of HT_.out (by kernel_rfl)) ?_
              refine pu (i := 10) (N := some 97) #[Y,Y,Y,Y,Y,Y,Y,Y,Y,Y,Y,Z,Z,Z,Z,Z,Z,Z,Z,Z,Z,Z,Z,Z,Z,Z,Z,Z] (any_of HT_.out (by kernel_rfl)) ?_
              refine pu (i := 11) (N := some 98) #[Y,Y,Y,Y,Y,Y,Y,Y,Y,Y,Y,Y,Z,Z,Z,Z,Z,Z,Z,Z,Z,Z,Z,Z,Z,Z,Z,Z] (any_of HT_.out (by kernel_rfl)) ?_
              refine pu (i := 12) (N := some 99) #[Y,Y,Y,Y,Y,Y,Y,Y,Y,Y,Y,Y,Y,Z,Z,Z,Z,Z,Z,Z,Z,Z,Z,Z,Z,Z,Z,Z] (any_of HT_.out (by kernel_rfl)) ?_
              refine pu (i := 13) (N := some 100) #[Y,Y,Y,Y,Y,Y,Y,Y,Y,Y,Y,Y,Y,Y,Z,Z,Z,Z,Z,Z,Z,Z,Z,Z,Z,Z,Z,Z] (any_of HT_.out (by kernel_rfl)) ?_
              refine pu (i := 14) (N := some 101) #[Y,Y,Y,Y,Y,Y,Y,Y,Y,Y,Y,Y,Y,Y,Y,Z,Z,Z,Z,Z,Z,Z,Z,Z,Z,Z,Z,Z] (any_of HT_.out (by kernel_rfl)) ?_
              refine pu (i := 15) (N := some 102) #[Y,Y,Y,Y,Y,Y,Y,Y,Y,Y,Y,Y,Y,Y,Y,Y,Z,Z,Z,Z,Z,Z,Z,Z,Z,Z,Z,Z] (any_of HT_.out (by kernel_rfl)) ?_
              refine pu (i := 16) (N := some 103) #[Y,Y,Y,Y,Y,Y,Y,Y,Y,Y,Y,Y,Y,Y,Y,Y,Y,Z,Z,Z,Z,Z,Z,Z,Z,Z,Z,Z] (any_of HT_.out (by kernel_rfl)) ?_
              refine pu (i := 17) (N := some 104) #[Y,Y,Y,Y,Y,Y,Y,Y,Y,Y,Y,Y,Y,Y,Y,Y,Y,Y,Z,Z,Z,Z,Z,Z,Z,Z,Z,Z] (any_of HT_.out (by kernel_rfl)) ?_
              refine pu (i := 18) (N := some 105) #[Y,Y,Y,Y,Y,Y,Y,Y,Y,Y,Y,Y,Y,Y,Y,Y,Y,Y,Y,Z,Z,Z,Z,Z,Z,Z,Z,Z] (any_of HT_.out (by kernel_rfl)) ?_
              refine pu (i := 19) (N := some 106) #[Y,Y,Y,Y,Y,Y,Y,Y,Y,Y,Y,Y,Y,Y,Y,Y,Y,Y,Y,Y,Z,Z,Z,Z,Z,Z,Z,Z] (any_of HT_.out (by kernel_rfl)) ?_
              refine pu (i := 20) (N := some 107) #[Y,Y,Y,Y,Y,Y,Y,Y,Y,Y,Y,Y,Y,Y,Y,Y,Y,Y,Y,Y,Y,Z,Z,Z,Z,Z,Z,Z] (any_of HT_.out (by kernel_rfl)) ?_
              refine pu (i := 21) (N := some 108) #[Y,Y,Y,Y,Y,Y,Y,Y,Y,Y,Y,Y,Y,Y,Y,Y,Y,Y,Y,Y,Y,Y,Z,Z,Z,Z,Z,Z] (any_of HT_.out (by kernel_rfl)) ?_
              refine pu (i := 22) (N := some 109) #[Y,Y,Y,Y,Y,Y,Y,Y,Y,Y,Y,Y,Y,Y,Y,Y,Y,Y,Y,Y,Y,Y,Y,Z,Z,Z,Z,Z] (any_of HT_.out (by kernel_rfl)) ?_
              refine pu (i := 23) (N := some 110) #[Y,Y,Y,Y,Y,Y,Y,Y,Y,Y,Y,Y,Y,Y,Y,Y,Y,Y,Y,Y,Y,Y,Y,Y,Z,Z,Z,Z] (any_of HT_.out (by kernel_rfl)) ?_
              refine pu (i := 24) (N := some 111) #[Y,Y,Y,Y,Y,Y,Y,Y,Y,Y,Y,Y,Y,Y,Y,Y,Y,Y,Y,Y,Y,Y,Y,Y,Y,Z,Z,Z] (any_of HT_.out (by kernel_rfl)) ?_
              refine pu (i := 25) (N := some 112) #[Y,Y,Y,Y,Y,Y,Y,Y,Y,Y,Y,Y,Y,Y,Y,Y,Y,Y,Y,Y,Y,Y,Y,Y,Y,Y,Z,Z] (any_of HT_.out (by kernel_rfl)) ?_
              refine pz (i := 26) (N := some 113) #[Y,Y,Y,Y,Y,Y,Y,Y,Y,Y,Y,Y,Y,Y,Y,Y,Y,Y,Y,Y,Y,Y,Y,Y,Y,Y,Y,Z] (any_of HT_.out (by kernel_rfl)) ?_
              refine pz (i := 27) (N := some 2) #[Y,Y,Y,Y,Y,Y,Y,Y,Y,Y,Y,Y,Y,Y,Y,Y,Y,Y,Y,Y,Y,Y,Y,Y,Y,Y,Y,Y] (any_of HT_.out (by kernel_rfl)) ?_
              refine done_ (done_of HT_.out (by kernel_rfl)) ?_
              try go_wp2
              go_ret
              exact ⟨by first | rfl | (simp [errW_none, errW_some] <;> rfl) | (simp [*, errW_none, errW_some] <;> rfl), zh4 HB GE376 GE380 GE385 GE406⟩
    · rw [if_neg c8] at H
      exact absurd H (by simp)

/-- THE ONE PURE STATEMENT of laws_FnTriePuts: yours. -/
def laws_FnTriePuts.Pure : Prop := ∀ (l0 : List Int), l0.length ≤ maxLen → l0.length * 1 ≤ 140737488351232 → (∀ x ∈ l0, (Lit.int .u8 x).wf = true) → ∃ k, laws_FnTriePuts.f k l0 = some true
theorem laws_FnTriePuts.walk (P : laws_FnTriePuts.Pure) (a0 : Option Addr) (len0 cap0 : Nat) (z0 : List Int) (w : World) (w0 : (a0 = none ∧ len0 = 0 ∧ cap0 = 0 ∧ z0 = []) ∨ ∃ x, a0 = some x ∧ len0 ≤ cap0 ∧ cap0 ≤ maxLen ∧ z0.length = cap0 ∧ (∀ i, i < z0.length → w.cell? (x.add i) = some (.int .u8 (z0.getD i 0))) ∧ ∀ n ∈ z0, (Lit.int .u8 n).wf = true) (y0 : len0 * 1 ≤ 140737488351232) :
    Calls Try.prog 13 #[.slice a0 len0 cap0] w fun e w' => e = .returned (.bool true) ∧ Below w.heap.size w w' := by
  obtain ⟨l0, rfl, hr0, hm0, hw0, hc0⟩ := ReadsInt.ofRowC w0
  obtain ⟨k, h⟩ := P l0 hm0 y0 hw0
  refine (laws_FnTriePuts.calls k _ _ l0 true w (Kd.C_of_reads (d := (0 : Int)) (h1 := fun _ => rfl) hr0) hc0 h).mono ?_
  rintro e w' ⟨rfl, hd⟩
  exact ⟨rfl, hd⟩

end Go.Proofs.Ytbddppnhpapfkaa.PFnTriePuts
