/- The machine of values: slices.Insert, whose three roads are walked for each program by themselves (what the operations come to is given there, and shown here). -/
import Derived.Test.YtfaeklomiofpdaaDoorDICtr
import Derived.Lib.AppendZerosOnto
import Derived.Laws.NewBlocks
namespace Go.Proofs.YtfaeklomiofpdaaDoor.DI
open Go Go.RowKit
set_option linter.unusedVariables false
set_option linter.unusedSimpArgs false
structure InsRoads (P : Program) (f t g sz : Nat) : Prop where
  fn : ∃ fn, P.funcs[f]? = some fn ∧ (fn.name == "runtime.NumGoroutine") = false ∧ fn.body.isNone = false
  t3 : P.underlying 3 = some (.int .i64)
  ov : ∀ (w : World) (a b : Addr) (la ca lb cb : Nat), a.block ≠ b.block → ∀ (tA tB : TypeId) (kA kB : Nat), w.shape? a.block = some (tA, kA) → w.shape? b.block = some (tB, kB) → kB ≠ 0 → w.frozen? a = false → w.frozen? { block := a.block, off := kA } = false →
    (callFunc g #[.slice (some a) la ca, .slice (some b) lb cb]).run P w = .ok (.value (.bool false)) w
  end_ : ∀ (base : Option Addr) (n c m : Nat) (hm : 0 < m) (hb : base = none → n = 0 ∧ c = 0) (hnc : n ≤ c) (hsp : ∀ a, base = some a → a.spot = none) (va : Addr) (vc : Nat) (w w' : World) (v' : Value)
    (hA : (Builtin.append_ #[t, t] t #[.slice base n c, .slice (some va) m vc]).run P w = .ok v' w'),
    Calls P f #[.slice base n c, .int .i64 n, .slice (some va) m vc] w fun e w'' => e = .returned v' ∧ w'' = w'
  room : ∀ (b off n c i vb voff m vc : Nat) (hi : i < n) (hm : 0 < m) (hroom : n + m ≤ c) (hnm : n + m ≤ 9223372036854775807) (w w1 w2 : World) (x1 x2 : Value)
    (hov : ∀ lb cb, (callFunc g #[.slice (some ⟨vb, voff, none⟩) m vc, .slice (some ⟨b, off + (i + m) * sz, none⟩) lb cb]).run P w = .ok (.value (.bool false)) w)
    (hcp1 : ∀ ty dc sc, (Builtin.copy_ #[t, t] ty #[.slice (some ⟨b, off + (i + m) * sz, none⟩) (n + m - (i + m)) dc, .slice (some ⟨b, off + i * sz, none⟩) (n + m - i) sc]).run P w.drew = .ok x1 w1)
    (hcp2 : ∀ ty dc, (Builtin.copy_ #[t, t] ty #[.slice (some ⟨b, off + i * sz, none⟩) (n + m - i) dc, .slice (some ⟨vb, voff, none⟩) m vc]).run P w1 = .ok x2 w2),
    Calls P f #[.slice (some ⟨b, off, none⟩) n c, .int .i64 i, .slice (some ⟨vb, voff, none⟩) m vc] w fun e w'' => e = .returned (.slice (some ⟨b, off, none⟩) (n + m) c) ∧ w'' = w2
  grow : ∀ (b off n c i vb voff m vc h G : Nat) (hi : i < n) (hm : 0 < m) (hnc : n ≤ c) (hroom : c < n + m) (hG : n + m ≤ G) (hG63 : G ≤ 9223372036854775807) (w w1 w2 w3 : World) (x1 x2 : Value)
    (hrz : ∀ ty, (Builtin.append_ #[t, 3] ty #[.slice (some ⟨b, off, none⟩) i c, .int .i64 ((n : Int) + (m : Int) - (i : Int))]).run P w = .ok (.slice (some ⟨h, 0, none⟩) (n + m) G) w1)
    (hcpA : ∀ ty dc, (Builtin.copy_ #[t, t] ty #[.slice (some ⟨h, i * sz, none⟩) (n + m - i) dc, .slice (some ⟨vb, voff, none⟩) m vc]).run P w1 = .ok x1 w2)
    (hcpB : ∀ ty dc sc, (Builtin.copy_ #[t, t] ty #[.slice (some ⟨h, (i + m) * sz, none⟩) (n + m - (i + m)) dc, .slice (some ⟨b, off + i * sz, none⟩) (n - i) sc]).run P w2.drew = .ok x2 w3),
    Calls P f #[.slice (some ⟨b, off, none⟩) n c, .int .i64 i, .slice (some ⟨vb, voff, none⟩) m vc] w fun e w'' => e = .returned (.slice (some ⟨h, 0, none⟩) (n + m) G) ∧ w'' = w3
theorem ins_list {α : Type} {C xs ys : List α} {p q r : Nat} (hp : p ≤ r) (hx : C.take r = xs) (hxl : xs.length = r) (hy : ys.length = q) (hC : r + q ≤ C.length) :
    (((C.take (p + q) ++ xs.drop p ++ C.drop (p + q + (xs.drop p).length)).take p ++ ys ++ (C.take (p + q) ++ xs.drop p ++ C.drop (p + q + (xs.drop p).length)).drop (p + ys.length))).take (r + q) = xs.take p ++ ys ++ xs.drop p := by
  have e1 : (C.take (p + q)).length = p + q := by rw [List.length_take]; omega
  have e2 : (C.take (p + q) ++ xs.drop p ++ C.drop (p + q + (xs.drop p).length)).take p = xs.take p := by
    rw [List.append_assoc, List.take_append_of_le_length (by omega), List.take_take, Nat.min_eq_left (by omega), ← hx, List.take_take, Nat.min_eq_left hp]
  have e3 : (C.take (p + q) ++ xs.drop p ++ C.drop (p + q + (xs.drop p).length)).drop (p + ys.length) = xs.drop p ++ C.drop (p + q + (xs.drop p).length) := by
    rw [List.append_assoc, hy, List.drop_append, e1, Nat.sub_self, List.drop_zero, List.drop_of_length_le (by omega), List.nil_append]
  rw [e2, e3, ← List.append_assoc]
  have e4 : (xs.take p ++ ys ++ xs.drop p).length = r + q := by simp only [List.length_append, List.length_take, List.length_drop]; omega
  rw [← e4]
  exact List.take_left
theorem ins_list2 {α : Type} {A ys t : List α} {p q r : Nat} (hp : p ≤ r) (hy : ys.length = q) (ht : t.length = r - p) (hA : r + q ≤ A.length) :
    (((A.take p ++ ys ++ A.drop (p + ys.length)).take (p + q) ++ t ++ (A.take p ++ ys ++ A.drop (p + ys.length)).drop (p + q + t.length))).take (r + q) = A.take p ++ ys ++ t := by
  have e1 : (A.take p ++ ys).length = p + q := by rw [List.length_append, List.length_take]; omega
  have e2 : (A.take p ++ ys ++ A.drop (p + ys.length)).take (p + q) = A.take p ++ ys := by rw [← e1]; exact List.take_left
  rw [e2]
  have e4 : (A.take p ++ ys ++ t).length = r + q := by rw [List.length_append, e1]; omega
  rw [← e4]
  exact List.take_left
section
variable {P : Program} {w0 : World} {X M : Nat → Prop} {ι : Nat → In} {w : World}
theorem run_copy_blk {t t' e : Nat} {ti te : TI} (hti : TIok P t ti) (hk : ti.k = .sl e) (hte : TIok P e te) (ty : TypeId) (g o dl dc : Nat) (cur : Array Value) (fz : Nat × Nat) (hg : w.heap[g]? = some (.cells cur e fz)) (hfz : NoFz cur fz)
    (sa : Addr) (sl sc cnt : Nat) (hc : Nat.min sl dl = cnt) (news : List Value) (hl : news.length = cnt * te.sz) (hn : ∀ j u, news[j]? = some u → w.cell? (sa.add j) = some u) (h1 : ∀ u ∈ news, u.oneCell' = true) (hfit : o + news.length ≤ cur.size) :
    (Builtin.copy_ #[t, t'] ty #[.slice (some ⟨g, o, none⟩) dl dc, .slice (some sa) sl sc]).run P w = .ok (goInt cnt) (w.setRow g (cur.toList.take o ++ news ++ cur.toList.drop (o + news.length)).toArray) := by
  have hu := hti.und
  rw [hk] at hu
  obtain ⟨i, z, i1, i2, _⟩ := hte.info
  have hf := run_firstCells_some (P := P) w te.sz cnt sa sl sc news hl hn
  have hst := run_storeCells_fz P g o e fz news 0 cur w hg hfz (by simpa using hfit) h1
  simp only [Nat.add_zero] at hst
  have hc' : min sl dl = cnt := hc
  simp [Builtin.copy_, run_underlying hu, sizeOf, typeInfo, i1, i2, Builtin.lenOf, hc, hc', hf, hst]
theorem shape_of {g : Nat} {cur : Array Value} {e : TypeId} {fz : Nat × Nat} (hg : w.heap[g]? = some (.cells cur e fz)) : w.shape? g = some (e, cur.size) := by
  unfold World.shape?
  rw [hg]
theorem not_frozen {g o : Nat} {cur : Array Value} {e : TypeId} {fz : Nat × Nat} (hg : w.heap[g]? = some (.cells cur e fz)) (h : fz.2 ≤ fz.1) : w.frozen? ⟨g, o, none⟩ = false := by
  obtain ⟨lo, hi⟩ := fz
  simp only [World.frozen?, hg, Bool.and_eq_false_iff, decide_eq_false_iff_not]
  simp only at h
  omega
theorem ins_world {N : Nat → Prop} {f t g e : Nat} {ti te : TI} (R : InsRoads P f t g te.sz) (hti : TIok P t ti) (hk : ti.k = .sl e) (hte : TIok P e te) (h2 : te.sz ≠ 1)
    (l lv : List te.ty.den) (S V : Value) (xs ys : List Value) (hS : OwnAt w e te.sz S l.length xs) (hl : RepL w N te.ty l xs) (hV : OwnAt w e te.sz V lv.length ys) (Av : Option Addr) (cv : Nat) (hVv : V = .slice Av lv.length cv) (hr : Rd w N te.ty lv Av cv) (hne : lv ≠ [])
    (hsep : ∀ b, S.ownBlock = some b → V.ownBlock = some b → False) (i : Nat) (hi : i ≤ l.length) (hb : (l.length + lv.length) * te.bytes ≤ 140737488355328) :
    Calls P f #[S, .int .i64 i, V] w fun en w' => ∃ v' zs, en = .returned v' ∧ OwnAt w' e te.sz v' (l.length + lv.length) zs ∧ RepL w N te.ty (l.take i ++ lv ++ l.drop i) zs ∧ w.grownBy w' S.ownBlock ∧ (v'.ownBlock = S.ownBlock ∨ v'.ownBlock = some w.heap.size) := by
  have hm : 0 < lv.length := List.length_pos_iff.2 hne
  obtain ⟨ad, news, rfl, hn1, hn2⟩ := hr.flat hne
  have hl1 : news.length = lv.length * te.sz := by rw [RepL.len hn1, hte.ty]
  by_cases hin : i = l.length
  · subst hin
    obtain ⟨v', w', news', k1, k2, k3, k4, k5⟩ := run_append (P := P) t t e ti te hti hk hte S l.length xs hS lv (some ad) cv hr hb
    rw [List.take_length, List.drop_length, List.append_nil]
    rw [hVv]
    rcases hS.2 with ⟨rfl, h0⟩ | ⟨b, o, cap, cur, fz, rfl, hg, hfz, hnc, hcs, htake⟩
    · rw [h0]
      have := R.end_ none 0 0 lv.length hm (fun _ => ⟨rfl, rfl⟩) (Nat.le_refl _) (fun _ h => by cases h) ad cv w w' v' k1
      refine Calls.mono this fun en w'' h => ?_
      obtain ⟨rfl, rfl⟩ := h
      rw [h0] at k2
      exact ⟨v', _, rfl, k2, RepL.append hl k3, k4, k5⟩
    · have := R.end_ (some ⟨b, o, none⟩) l.length cap lv.length hm (fun h => by cases h) hnc (fun _ h => by cases h; rfl) ad cv w w' v' k1
      refine Calls.mono this fun en w'' h => ?_
      obtain ⟨rfl, rfl⟩ := h
      exact ⟨v', _, rfl, k2, RepL.append hl k3, k4, k5⟩
  · have hi' : i < l.length := by omega
    have hxl := RepL.len hl
    rw [hte.ty] at hxl
    have h63 : l.length + lv.length ≤ 140737488355328 := Nat.le_trans (Nat.le_mul_of_pos_right _ hte.bpos) hb
    rcases hS.2 with ⟨rfl, h0⟩ | ⟨b, o, cap, cur, fz, rfl, hg, hfz, hnc, hcs, htake⟩
    · omega
    rcases hV.2 with ⟨_, h0⟩ | ⟨vb, vo, vcap, vcur, vfz, hVe, hvg, hvfz, hvnc, hvcs, hvtake⟩
    · omega
    have hVe' := hVe
    rw [hVv] at hVe'
    injection hVe' with q1 q2 q3
    injection q1 with q1
    subst q1; subst q3
    have hvb : vb ≠ b := fun h => hsep b rfl (by rw [hVe, h]; rfl)
    have p1 : i * te.sz ≤ l.length * te.sz := Nat.mul_le_mul_right _ (by omega)
    have holds : ∀ j u, xs[j]? = some u → w.cell? ⟨b, o + j, none⟩ = some u := by
      intro j u hu
      rw [cell_of_row w b _ cur e fz hg]
      rw [← htake, List.getElem?_take] at hu
      split at hu
      · simpa using hu
      · cases hu
    have hone := RepL.one hl
    have honev := RepL.one hn1
    have htl : (xs.drop (i * te.sz)).length = (l.length - i) * te.sz := by rw [List.length_drop, hxl, Nat.sub_mul]
    have hrl : RepL w N te.ty (l.take i ++ lv ++ l.drop i) (xs.take (i * te.sz) ++ news ++ xs.drop (i * te.sz)) := by
      have a1 := RepL.take i hl
      have a2 := RepL.drop' i hl
      rw [hte.ty] at a1 a2
      exact RepL.append (RepL.append a1 hn1) a2
    have hzl : (xs.take (i * te.sz) ++ news ++ xs.drop (i * te.sz)).length = (l.length + lv.length) * te.sz := by
      simp only [List.length_append, List.length_take, List.length_drop, hxl, hl1, Nat.add_mul]
      omega
    rw [hVe]
    by_cases hroom : l.length + lv.length ≤ cap
    · have hcm : (l.length + lv.length) * te.sz ≤ cap * te.sz := Nat.mul_le_mul_right _ hroom
      have hcur : cur.size ≠ 0 := by
        have := Nat.mul_pos hm hte.pos
        rw [Nat.add_mul] at hcm
        omega
      have hvz : vfz.2 ≤ vfz.1 := hvfz.elim id fun h => absurd h.1 h2
      have hov : ∀ lb cb, (callFunc g #[.slice (some ⟨vb, vo, none⟩) lv.length cv, .slice (some ⟨b, o + (i + lv.length) * te.sz, none⟩) lb cb]).run P w = .ok (.value (.bool false)) w := fun lb cb =>
        R.ov w ⟨vb, vo, none⟩ ⟨b, o + (i + lv.length) * te.sz, none⟩ lv.length cv lb cb hvb e e vcur.size cur.size (shape_of hvg) (shape_of hg) hcur (not_frozen hvg hvz) (not_frozen hvg hvz)
      rw [Nat.add_mul] at hcm
      have e1 : (i + lv.length) * te.sz = i * te.sz + lv.length * te.sz := Nat.add_mul _ _ _
      have e2 : (l.length - i) * te.sz = l.length * te.sz - i * te.sz := Nat.sub_mul _ _ _
      have hcp1 : ∀ ty dc sc, (Builtin.copy_ #[t, t] ty #[.slice (some ⟨b, o + (i + lv.length) * te.sz, none⟩) (l.length + lv.length - (i + lv.length)) dc, .slice (some ⟨b, o + i * te.sz, none⟩) (l.length + lv.length - i) sc]).run P w.drew = _ := fun ty dc sc =>
        run_copy_blk (w := w.drew) hti hk hte ty b (o + (i + lv.length) * te.sz) _ dc cur fz hg hfz.to ⟨b, o + i * te.sz, none⟩ (l.length + lv.length - i) sc (l.length - i) (by show min _ _ = _; omega) (xs.drop (i * te.sz)) htl (fun j u hj => by
          rw [List.getElem?_drop] at hj
          have := holds _ _ hj
          rw [Addr.add_mid, show o + i * te.sz + j = o + (i * te.sz + j) by omega]
          exact this) (fun u hu => hone u (List.mem_of_mem_drop hu)) (by rw [htl]; omega)
      generalize hA1 : (cur.toList.take (o + (i + lv.length) * te.sz) ++ xs.drop (i * te.sz) ++ cur.toList.drop (o + (i + lv.length) * te.sz + (xs.drop (i * te.sz)).length)) = A1 at hcp1
      have hA1l : A1.length = cur.size := by
        rw [← hA1]
        simp only [List.length_append, List.length_take, List.length_drop, Array.length_toList, htl, hxl]
        omega
      have hw1 : (w.drew.setRow b A1.toArray).heap[b]? = some (.cells A1.toArray e fz) := setRow_heap w.drew b cur _ e _ hg
      have hcp2 : ∀ ty dc, (Builtin.copy_ #[t, t] ty #[.slice (some ⟨b, o + i * te.sz, none⟩) (l.length + lv.length - i) dc, .slice (some ⟨vb, vo, none⟩) lv.length cv]).run P (w.drew.setRow b A1.toArray) = _ := fun ty dc =>
        run_copy_blk (w := w.drew.setRow b A1.toArray) hti hk hte ty b (o + i * te.sz) _ dc A1.toArray fz hw1 (hfz.size (by simpa using hA1l)).to ⟨vb, vo, none⟩ lv.length cv lv.length (by show min _ _ = _; omega) news hl1 (fun j u hj => by
          have := hn2 j u hj
          rw [Addr.add_mid] at this ⊢
          rw [← this]
          exact cell_same (setRow_other w.drew b vb _ hvb)) honev (by rw [hl1]; simp only [List.size_toArray]; omega)
      have hrun := R.room b o l.length cap i vb vo lv.length cv hi' hm hroom (by omega) w _ _ _ _ hov hcp1 hcp2
      refine Calls.mono hrun fun en w'' h => ?_
      obtain ⟨rfl, rfl⟩ := h
      rw [setRow_setRow]
      refine ⟨_, xs.take (i * te.sz) ++ news ++ xs.drop (i * te.sz), rfl, ⟨hzl, .inr ⟨b, o, cap, _, fz, rfl, setRow_heap w.drew b cur _ e _ hg, hfz.size ?_, hroom, ?_, ?_⟩⟩, hrl, ⟨rfl, rfl, rfl, by simp [World.setRow], fun k _ hk => setRow_other w.drew b k _ (fun e => hk (by simp [Value.ownBlock, e]))⟩, .inl rfl⟩
      · simp only [List.size_toArray, List.length_append, List.length_take, List.length_drop, hA1l, hl1]
        omega
      · simp only [List.size_toArray, List.length_append, List.length_take, List.length_drop, hA1l, hl1]
        omega
      · have s1 := splice_drop A1 news o (i * te.sz) news.length (by rw [hA1l]; omega)
        have s2 := splice_drop cur.toList (xs.drop (i * te.sz)) o (i * te.sz + lv.length * te.sz) (xs.drop (i * te.sz)).length (by have := Array.length_toList (xs := cur); omega)
        have hA2 : A1.drop o = (cur.toList.drop o).take (i * te.sz + lv.length * te.sz) ++ xs.drop (i * te.sz) ++ (cur.toList.drop o).drop (i * te.sz + lv.length * te.sz + (xs.drop (i * te.sz)).length) := by
          rw [← s2, ← hA1, e1]
        rw [List.toList_toArray, List.toList_toArray, s1, hA2, Nat.add_mul]
        exact ins_list p1 htake hxl hl1 (by have := Array.length_toList (xs := cur); rw [List.length_drop]; omega)
    · obtain ⟨i0, z, i1, i2, i3, i4, i5, i6⟩ := hte.info
      have hzs : z.cells.size = te.sz := by rw [← hte.zl, ← i5]; simp
      have e1 : (i + lv.length) * te.sz = i * te.sz + lv.length * te.sz := Nat.add_mul _ _ _
      have e2 : (l.length - i) * te.sz = l.length * te.sz - i * te.sz := Nat.sub_mul _ _ _
      have hu := hti.und
      rw [hk] at hu
      have hik : i + (l.length + lv.length - i) = l.length + lv.length := by omega
      have hkk : (l.length : Int) + (lv.length : Int) - (i : Int) = ((l.length + lv.length - i : Nat) : Int) := by omega
      have hpl : (xs.take (i * te.sz)).length = i * te.sz := by rw [List.length_take, hxl]; omega
      have hrz := fun ty : TypeId => Lib.run_append_grow_zeros w t 3 ty e i0 z .i64 .i64 hu R.t3 i1 i4 (some ⟨b, o, none⟩) i cap (xs.take (i * te.sz)) (run_firstCells_some (P := P) w.drew i0.size i ⟨b, o, none⟩ i cap _ (by rw [i2, hpl]) (fun j u hj => by
            rw [Addr.add_mid]
            rw [List.getElem?_take] at hj
            split at hj
            · exact holds j u hj
            · cases hj)) (l.length + lv.length - i) (by omega) (by rw [i2]; exact hte.pos) (by omega) (by omega)
          (by rw [i3]; exact Nat.le_trans (Nat.mul_le_mul_right _ (Nat.sub_le _ _)) (Nat.le_trans hb (by omega))) (by rw [hik]; exact growslice_fits (by omega) (by rw [i3]; exact hb))
      simp only [hik, ← hkk] at hrz
      have hGn := grownCap_ge w (l.length + lv.length) cap e
      have hG63 := grownCap_le_maxLen w (l.length + lv.length) cap e (by rw [maxLen_pos]; omega)
      rw [maxLen_pos] at hG63
      generalize grownCap w (l.length + lv.length) cap e = G at hrz hGn hG63
      generalize hROW : (xs.take (i * te.sz)).toArray ++ Builtin.zeroCells z.cells (l.length + lv.length - i) ++ Builtin.zeroCells z.cells (G - (l.length + lv.length)) = ROW at hrz
      have hRl : ROW.size = G * te.sz := by
        rw [← hROW]
        simp only [Array.size_append, List.size_toArray, size_zeroCells, hzs, hpl, ← Nat.add_mul]
        congr 1
        omega
      have hGm : (l.length + lv.length) * te.sz ≤ G * te.sz := Nat.mul_le_mul_right _ hGn
      rw [Nat.add_mul] at hGm
      have hlt : b < w.heap.size := heap_lt hg
      have hvlt : vb < w.heap.size := heap_lt hvg
      have hw1 : (w.drew.alloc (.cells ROW e)).heap[w.heap.size]? = some (.cells ROW e (0, 0)) := heap_alloc_new w.drew _
      have hcpA : ∀ ty dc, (Builtin.copy_ #[t, t] ty #[.slice (some ⟨w.heap.size, i * te.sz, none⟩) (l.length + lv.length - i) dc, .slice (some ⟨vb, vo, none⟩) lv.length cv]).run P (w.drew.alloc (.cells ROW e)) = _ := fun ty dc =>
        run_copy_blk (w := w.drew.alloc (.cells ROW e)) hti hk hte ty w.heap.size (i * te.sz) _ dc ROW (0, 0) hw1 (.inl (Nat.le_refl _)) ⟨vb, vo, none⟩ lv.length cv lv.length (by show min _ _ = _; omega) news hl1 (fun j u hj => by
          have := hn2 j u hj
          rw [Addr.add_mid] at this ⊢
          rw [← this]
          exact cell_same (Below.heap_alloc w.drew _ vb hvlt)) honev (by rw [hl1, hRl]; omega)
      generalize hA1 : (ROW.toList.take (i * te.sz) ++ news ++ ROW.toList.drop (i * te.sz + news.length)) = A1 at hcpA
      have hA1l : A1.length = ROW.size := by
        rw [← hA1]
        simp only [List.length_append, List.length_take, List.length_drop, Array.length_toList, hl1]
        omega
      have hw2 : ((w.drew.alloc (.cells ROW e)).setRow w.heap.size A1.toArray).drew.heap[w.heap.size]? = some (.cells A1.toArray e (0, 0)) := setRow_heap _ w.heap.size ROW _ e _ hw1
      have hcpB : ∀ ty dc sc, (Builtin.copy_ #[t, t] ty #[.slice (some ⟨w.heap.size, (i + lv.length) * te.sz, none⟩) (l.length + lv.length - (i + lv.length)) dc, .slice (some ⟨b, o + i * te.sz, none⟩) (l.length - i) sc]).run P ((w.drew.alloc (.cells ROW e)).setRow w.heap.size A1.toArray).drew = _ := fun ty dc sc =>
        run_copy_blk (w := ((w.drew.alloc (.cells ROW e)).setRow w.heap.size A1.toArray).drew) hti hk hte ty w.heap.size ((i + lv.length) * te.sz) _ dc A1.toArray (0, 0) hw2 (.inl (Nat.le_refl _)) ⟨b, o + i * te.sz, none⟩ (l.length - i) sc (l.length - i) (by show min _ _ = _; omega) (xs.drop (i * te.sz)) htl (fun j u hj => by
          rw [List.getElem?_drop] at hj
          have := holds _ _ hj
          rw [Addr.add_mid, show o + i * te.sz + j = o + (i * te.sz + j) by omega, ← this]
          refine cell_same ?_
          show ((w.drew.alloc (.cells ROW e)).setRow w.heap.size A1.toArray).heap[b]? = w.heap[b]?
          rw [setRow_other _ _ _ _ (by omega)]
          exact Below.heap_alloc w.drew _ b hlt) (fun u hu => hone u (List.mem_of_mem_drop hu)) (by rw [htl]; simp only [List.size_toArray, hA1l, hRl]; omega)
      have hrun := R.grow b o l.length cap i vb vo lv.length cv w.heap.size G hi' hm hnc (by omega) hGn hG63 w _ _ _ _ _ hrz hcpA hcpB
      refine Calls.mono hrun fun en w'' h => ?_
      obtain ⟨rfl, rfl⟩ := h
      refine ⟨_, xs.take (i * te.sz) ++ news ++ xs.drop (i * te.sz), rfl, ⟨hzl, .inr ⟨w.heap.size, 0, G, _, (0, 0), rfl, setRow_heap _ w.heap.size _ _ e _ hw2, .inl (Nat.le_refl _), hGn, ?_, ?_⟩⟩, hrl, ⟨rfl, rfl, rfl, ?_, fun k hk _ => ?_⟩, .inr rfl⟩
      · simp only [List.size_toArray, List.length_append, List.length_take, List.length_drop, List.toList_toArray, hA1l, hRl, htl]
        omega
      · have hRt : ROW.toList.take (i * te.sz) = xs.take (i * te.sz) := by
          rw [← hROW]
          simp only [Array.toList_append, List.append_assoc]
          rw [List.take_append_of_le_length (by omega), List.take_of_length_le (by omega)]
        rw [List.toList_toArray, List.drop_zero, List.toList_toArray, ← hA1, e1, Nat.add_mul, ← hRt]
        exact ins_list2 p1 hl1 (by rw [htl]; omega) (by have := Array.length_toList (xs := ROW); omega)
      · show _ ≤ (((w.drew.alloc (.cells ROW e)).setRow w.heap.size A1.toArray).setRow w.heap.size _).heap.size
        rw [setRow_size, setRow_size]
        show w.heap.size ≤ (w.heap.push _).size
        simp
      · show (((w.drew.alloc (.cells ROW e)).setRow w.heap.size A1.toArray).setRow w.heap.size _).heap[k]? = _
        rw [setRow_other _ _ _ _ (by omega), setRow_other _ _ _ _ (by omega)]
        exact Below.heap_alloc w.drew _ k hk
theorem HS.kill {ob : Ob} (h : HS w0 X M ι ob w) {r : Nat} {o : Obj} (hr : ob r = some o) : HS w0 X M ι (upd ob r (some .dead)) w ∧ ∀ b, Nb w0 M ι ob w b → Nb w0 M ι (upd ob r (some .dead)) w b := by
  have hW : ∀ b, W ι (upd ob r (some .dead)) b → W ι ob b := by
    rintro b ⟨j, o', ad, h1, h2, h3, h4⟩
    by_cases e : j = r
    · subst e; rw [upd_same] at h1; cases h1; exact h2.elim
    · rw [upd_ne _ _ _ _ e] at h1; exact ⟨j, o', ad, h1, h2, h3, h4⟩
  have hN : ∀ b, Nb w0 M ι ob w b → Nb w0 M ι (upd ob r (some .dead)) w b := fun b hb => ⟨hb.1, hb.2.1, fun k => hb.2.2 (hW b k)⟩
  refine ⟨h.step0 h.fr (Nat.le_refl _) (fun _ _ _ => rfl) (Keeps.put r o .dead hr (by cases o <;> trivial)) (fun b hb => .inl (hW b hb)) (fun j j' o1 o2 ad ad' a1 a2 a3 a4 a5 a6 a7 => ?_) (fun _ j o' ho' => ?_), hN⟩
  · have k1 : ob j = some o1 := by
      by_cases e : j = r
      · subst e; rw [upd_same] at a1; cases a1; exact a3.elim
      · rwa [upd_ne _ _ _ _ e] at a1
    have k2 : ob j' = some o2 := by
      by_cases e : j' = r
      · subst e; rw [upd_same] at a2; cases a2; exact a4.elim
      · rwa [upd_ne _ _ _ _ e] at a2
    exact h.sep j j' o1 o2 ad ad' k1 k2 a3 a4 a5 a6 a7
  · by_cases e : j = r
    · subst e; rw [upd_same] at ho'; cases ho'; exact .inr trivial
    · rw [upd_ne _ _ _ _ e] at ho'; exact .inl ⟨ho', rfl, fun _ _ _ => rfl⟩
theorem flat_give {ob : Ob} {ps : List PK} : ∀ {args : List DV} {avs : List AV}, flat ob (.give :: ps) args = some avs → ∃ i r e t l q, args = .at (.whole i) :: r ∧ ob i = some (.row e t true l) ∧ flat ob ps r = some q ∧ avs = .whole i :: q
  | [], _, h => by simp [flat] at h
  | .agg _ :: _, _, h => by simp [flat] at h
  | .tup _ :: _, _, h => by simp [flat] at h
  | .at x :: r, avs, h => by
    cases x <;> simp only [flat] at h <;> try (cases h; done)
    rename_i i
    split at h
    · rename_i e t l ho
      obtain ⟨q, h1, h2⟩ := Option.bind_eq_some_iff.1 h
      cases h2
      exact ⟨i, r, e, t, l, q, rfl, ho, h1, rfl⟩
    · cases h
theorem flat_one {ob : Ob} {ps : List PK} : ∀ {args : List DV} {avs : List AV}, flat ob (.one :: ps) args = some avs → ∃ x r q, args = .at x :: r ∧ flat ob ps r = some q ∧ avs = x :: q
  | [], _, h => by simp [flat] at h
  | .agg _ :: _, _, h => by simp [flat] at h
  | .tup _ :: _, _, h => by simp [flat] at h
  | .at x :: r, avs, h => by
    simp only [flat] at h
    obtain ⟨q, h1, h2⟩ := Option.bind_eq_some_iff.1 h
    cases h2
    exact ⟨x, r, q, rfl, h1, rfl⟩
theorem flat_nil {ob : Ob} : ∀ {args : List DV} {avs : List AV}, flat ob [] args = some avs → args = [] ∧ avs = []
  | [], _, h => by simp only [flat] at h; cases h; exact ⟨rfl, rfl⟩
  | _ :: _, _, h => by simp [flat] at h
theorem ofAV_whole {ob : Ob} {e e1 i : Nat} {t t1 : Ty} {own : Bool} {l1 : List t1.den} {l : List t.den} (h : ofAV ob (.sl e t) (.whole i) = some l) (ho : ob i = some (.row e1 t1 own l1)) : ob i = some (.row e t own l) := by
  have := IsC.whole (ob := ob) (c := ⟨.sl e t, l⟩) h ho
  cases this
  exact ho
theorem ofAV_i64 {ob : Ob} {y : AV} {n : Int} (h : ofAV ob (.int .i64) y = some n) : y = .int .i64 n := by
  cases y <;> simp only [ofAV] at h <;> try (cases h; done)
  split at h
  · rename_i e; cases h; rw [e]
  · cases h
def insRun (e : Nat) (te : TI) (x : (Ty.two (.sl e te.ty) (.two (.int .i64) (.sl e te.ty))).den) : Option (Ty.sl e te.ty).den :=
  if (0 ≤ x.2.1 ∧ x.2.1 ≤ (List.length (α := te.ty.den) x.1 : Int)) ∧ (0 < List.length (α := te.ty.den) x.2.2 ∧ (List.length (α := te.ty.den) x.1 + List.length (α := te.ty.den) x.2.2) * te.bytes ≤ 140737488355328) then some (List.take (α := te.ty.den) x.2.1.toNat x.1 ++ x.2.2 ++ List.drop (α := te.ty.den) x.2.1.toNat x.1) else none
theorem CtrOk.ins {f t g e : Nat} {ti te : TI} (R : InsRoads P f t g te.sz) (hti : TIok P t ti) (hk : ti.k = .sl e) (hte : TIok P e te) (h2 : te.sz ≠ 1) :
    CtrOk P f ⟨[.give, .one, .give], [.one true], true, .two (.sl e te.ty) (.two (.int .i64) (.sl e te.ty)), .sl e te.ty, fun _ => insRun e te⟩ := by
  refine ⟨R.fn, fun w0 X M ι ob w hhs hXM args vals hargs k id avs x r o q h1 h2' h3 h4 h5 h6 h7 h8 h9 h10 => ?_⟩
  obtain ⟨a, r1, e1, t1, l1, q1, rfl, ha, f1, rfl⟩ := flat_give h1
  obtain ⟨y, r2, q2, rfl, f2, rfl⟩ := flat_one f1
  obtain ⟨c, r3, e3, t3, l3, q3, rfl, hc, f3, rfl⟩ := flat_give f2
  obtain ⟨rfl, rfl⟩ := flat_nil f3
  obtain ⟨l, n, lv⟩ := x
  simp only [ofAVs] at h2'
  obtain ⟨x1, g1, h2'⟩ := Option.bind_eq_some_iff.1 h2'
  obtain ⟨x2, g2, h2'⟩ := Option.bind_eq_some_iff.1 h2'
  obtain ⟨x3, g3, h2'⟩ := Option.bind_eq_some_iff.1 g2
  obtain ⟨x4, g4, h2''⟩ := Option.bind_eq_some_iff.1 h2'
  rename_i h2o
  cases h2''
  cases h2o
  have ha := ofAV_whole g1 ha
  have hc := ofAV_whole g4 hc
  have hy := ofAV_i64 g3
  subst hy
  have hac : a ≠ c := by
    intro e
    subst e
    simp [boxIds, gvIds, disj] at h3
  match vals, hargs with
  | [v1, v2, v3], hargs =>
  obtain ⟨b1, b2, b3, _⟩ := hargs
  obtain ⟨_, _, o1, b1⟩ := b1
  rw [ha] at o1
  cases o1
  have b1 := b1 _ _ _ _ rfl
  obtain ⟨_, _, o3, b3⟩ := b3
  rw [hc] at o3
  cases o3
  have b3 := b3 _ _ _ _ rfl
  have b2 : v2 = .int .i64 n := b2
  have h6' : outR id [.one true] (Ty.cells (.sl e te.ty) r) = some ⟨[(false, [.whole id])], [(id, .row e te.ty true r)], id + 1, []⟩ := rfl
  simp only [h6'] at h6
  cases h6
  have h7' : outP (id + 1) [.give, .one, .give] [.at (.whole a), .at (.int .i64 n), .at (.whole c)] [] = some ([], []) := rfl
  simp only [h7'] at h7
  cases h7
  have hid : ob id = none := by
    simp only [outIds, List.map_cons, List.map_nil, List.append_nil, freshB, Bool.and_true] at h8
    cases ho : ob id with
    | none => rfl
    | some _ => rw [ho] at h8; cases h8
  have hobE : updL ob ((bif true then freeze ob (flatR ob [.give, .one, .give] [.at (.whole a), .at (.int .i64 n), .at (.whole c)]) else []) ++ (deads (gvIds ob [.give, .one, .give] [.at (.whole a), .at (.int .i64 n), .at (.whole c)]) ++ (([] : List (Nat × Obj)) ++ ([(id, .row e te.ty true r)] ++ [])))) = upd (upd (upd ob a (some .dead)) c (some .dead)) id (some (.row e te.ty true r)) := rfl
  simp only [hobE]
  simp only [insRun] at h5
  split at h5
  · rename_i hcond
    obtain ⟨⟨n0, n1⟩, m0, mb⟩ := hcond
    have n0 : 0 ≤ n := n0
    have n1 : n ≤ (List.length (α := te.ty.den) l : Int) := n1
    have n2 : n.toNat ≤ List.length (α := te.ty.den) l := Int.toNat_le.2 n1
    cases h5
    obtain ⟨xs, hS, hl⟩ := hhs.obs a _ ha
    obtain ⟨ys, hV, hlv⟩ := hhs.obs c _ hc
    rw [hte.ty] at hS hV
    rw [← b1] at hS
    rw [← b3] at hV
    have hrd := rd_row (s := ⟨fun _ => .at .undef, ob⟩) hhs hc
    have hsep : ∀ b, v1.ownBlock = some b → v3.ownBlock = some b → False := by
      intro b hb1 hb3
      rw [b1] at hb1
      rw [b3] at hb3
      cases hA : (ι a).a with
      | none => rw [hA] at hb1; cases hb1
      | some ad =>
        cases hC : (ι c).a with
        | none => rw [hC] at hb3; cases hb3
        | some ad' =>
          rw [hA] at hb1
          rw [hC] at hb3
          refine hac (hhs.sep a c _ _ ad ad' ha hc trivial trivial hA hC ?_)
          simp only [Value.ownBlock, Option.map_some, Option.some.injEq] at hb1 hb3
          rw [hb1, hb3]
    obtain ⟨hs1, hN1⟩ := hhs.kill hc
    have hn : (n.toNat : Int) = n := Int.toNat_of_nonneg n0
    have hrun := ins_world (N := Nb w0 M ι ob w) R hti hk hte h2 l lv v1 v3 xs ys hS hl hV _ _ b3 hrd (List.ne_nil_of_length_pos m0) hsep n.toNat n2 mb
    rw [hn, ← b2] at hrun
    refine Calls.mono hrun fun en w' h => ?_
    obtain ⟨v', zs, z1, z2, z3, z4, z5⟩ := h
    obtain ⟨A', c', rfl⟩ := own_slice' z2
    have hlen : (List.take (α := te.ty.den) n.toNat l ++ lv ++ List.drop (α := te.ty.den) n.toNat l).length = List.length (α := te.ty.den) l + List.length (α := te.ty.den) lv := by
      simp only [List.length_append, List.length_take, List.length_drop]
      rw [Nat.min_eq_left n2]
      omega
    have haid : a ≠ id := fun e => by rw [e, hid] at ha; cases ha
    have hcid : c ≠ id := fun e => by rw [e, hid] at hc; cases hc
    obtain ⟨k1, k2⟩ := HS.appended hs1 id e te.ty l (List.take (α := te.ty.den) n.toNat l ++ lv ++ List.drop (α := te.ty.den) n.toNat l) zs v1 _ w' A' c' (by rw [hlen]) (by rw [upd_ne _ _ _ _ (fun e => hcid e.symm)]; exact hid) (some a)
      ⟨haid, by rw [upd_ne _ _ _ _ hac]; exact ha, b1⟩ (by rw [hlen, hte.ty]; exact z2) (RepL.mono (fun b hb => ⟨hN1 b hb, rfl⟩) z3) z4 z5
    have hcomm : oldOb (upd ob c (some .dead)) (some a) = upd (upd ob a (some .dead)) c (some .dead) := by
      funext j
      simp only [oldOb, upd]
      cases Nat.beq j a <;> cases Nat.beq j c <;> rfl
    rw [hcomm] at k1 k2
    refine ⟨_, z1, _, k1, (Keeps.put c _ .dead hc trivial).trans k2, rfl, _, upd_same _ _ _, fun e' t' o' l' he' => ?_⟩
    cases he'
    rw [upd_same, hlen]
  · cases h5
end
end Go.Proofs.YtfaeklomiofpdaaDoor.DI
