/- The machine of values: slices.Delete, whose road is walked for each program by itself. -/
import Derived.Test.YtfaeklomiofpdaaDIIns
namespace Go.Proofs.Ytfaeklomiofpdaa.DI
open Go Go.RowKit
set_option linter.unusedVariables false
set_option linter.unusedSimpArgs false
structure DelRoads (P : Program) (f t sz : Nat) : Prop where
  fn : ∃ fn, P.funcs[f]? = some fn ∧ (fn.name == "runtime.NumGoroutine") = false ∧ fn.body.isNone = false
  road : ∀ (b off n c i j : Nat) (hij : i < j) (hjn : j ≤ n) (hnc : n ≤ c) (hn63 : n ≤ 9223372036854775807) (w w1 w2 : World) (x : Value)
    (hap : ∀ (ty : TypeId) (A : Addr), (c ≠ j → A = ⟨b, off + j * sz, none⟩) → (Builtin.append_ #[t, t] ty #[.slice (some ⟨b, off, none⟩) i c, .slice (some A) (n - j) (c - j)]).run P w.drew = .ok (.slice (some ⟨b, off, none⟩) (i + (n - j)) c) w1)
    (hcl : ∀ ty : TypeId, (Builtin.clear_ #[t] ty #[.slice (some ⟨b, off + (i + (n - j)) * sz, none⟩) (n - (i + (n - j))) (c - (i + (n - j)))]).run P w1 = .ok x w2),
    Calls P f #[.slice (some ⟨b, off, none⟩) n c, .int .i64 i, .int .i64 j] w fun e w'' => e = .returned (.slice (some ⟨b, off, none⟩) (i + (n - j)) c) ∧ w'' = w2
section
variable {P : Program} {w0 : World} {X M : Nat → Prop} {ι : Nat → In} {w : World}
theorem run_clear_blk {t e : Nat} {ti te : TI} (hti : TIok P t ti) (hk : ti.k = .sl e) (hte : TIok P e te) {z : Value} {i0 : TypeInfo} (i1 : P.info? e = some i0) (i4 : i0.zero = some z) (i5 : z.cells.toList.map AV.ofV = te.z) {zd : te.ty.den} (hzd : ofAVs (fun _ => none) te.ty te.z = some zd)
    (ty : TypeId) (g o k c : Nat) (hk0 : 0 < k) (cur : Array Value) (fz : Nat × Nat) (hg : w.heap[g]? = some (.cells cur e fz)) (hfz : NoFz cur fz) (hfit : o + k * te.sz ≤ cur.size) :
    ∃ Z : List Value, Z.length = k * te.sz ∧ (Builtin.clear_ #[t] ty #[.slice (some ⟨g, o, none⟩) k c]).run P w = .ok (.tuple #[]) (w.setRow g (cur.toList.take o ++ Z ++ cur.toList.drop (o + Z.length)).toArray) := by
  have hu := hti.und
  rw [hk] at hu
  have hzs : z.cells.size = te.sz := by rw [← hte.zl, ← i5]; simp
  have lz : (madeCells z.cells (k * te.sz)).toList.length = k * te.sz := by simp [madeCells]
  have hrz := rep_zeros (w := w) (s := ⟨fun _ => .at .undef, fun _ => none⟩) hte hzd i5 (fun _ => False) k
  have hst := run_storeCells_fz P g o e fz (madeCells z.cells (k * te.sz)).toList 0 cur w hg hfz (by rw [lz]; omega) (RepL.one hrz)
  simp only [Nat.add_zero] at hst
  refine ⟨_, lz, ?_⟩
  have hzv : (zeroValue e).run P w = .ok z w := by simp [zeroValue, typeInfo, i1, i4]
  obtain ⟨m, rfl⟩ : ∃ m, k = m + 1 := ⟨k - 1, by omega⟩
  simp only [Builtin.clear_, run_underlying hu, Sem.run_bind, List.getElem?_toArray, List.getElem?_cons_zero, Result.andThen_ok, hzv, madeCells_zero, hzs, hst, Sem.run_pure]
theorem del_world {N : Nat → Prop} {f t e : Nat} {ti te : TI} (R : DelRoads P f t te.sz) (hti : TIok P t ti) (hk : ti.k = .sl e) (hte : TIok P e te) {zd : te.ty.den} (hzd : ofAVs (fun _ => none) te.ty te.z = some zd)
    (l : List te.ty.den) (S : Value) (xs : List Value) (hS : OwnAt w e te.sz S l.length xs) (hl : RepL w N te.ty l xs) (i j : Nat) (hij : i < j) (hj : j ≤ l.length) (hb : l.length ≤ 9223372036854775807) :
    Calls P f #[S, .int .i64 i, .int .i64 j] w fun en w' => ∃ v' zs, en = .returned v' ∧ OwnAt w' e te.sz v' (i + (l.length - j)) zs ∧ RepL w N te.ty (l.take i ++ l.drop j) zs ∧ w.grownBy w' S.ownBlock ∧ (v'.ownBlock = S.ownBlock ∨ v'.ownBlock = some w.heap.size) := by
  have hxl := RepL.len hl
  rw [hte.ty] at hxl
  rcases hS.2 with ⟨rfl, h0⟩ | ⟨b, o, cap, cur, fz, rfl, hg, hfz, hnc, hcs, htake⟩
  · omega
  obtain ⟨i0, z, i1, i2, i3, i4, i5, i6⟩ := hte.info
  have hu := hti.und
  rw [hk] at hu
  have p1 : i * te.sz ≤ j * te.sz := Nat.mul_le_mul_right _ (by omega)
  have p2 : j * te.sz ≤ l.length * te.sz := Nat.mul_le_mul_right _ hj
  have p3 : l.length * te.sz ≤ cap * te.sz := Nat.mul_le_mul_right _ hnc
  have e1 : (l.length - j) * te.sz = l.length * te.sz - j * te.sz := Nat.sub_mul _ _ _
  have e2 : (i + (l.length - j)) * te.sz = i * te.sz + (l.length * te.sz - j * te.sz) := by rw [Nat.add_mul, e1]
  have htl : (xs.drop (j * te.sz)).length = (l.length - j) * te.sz := by rw [List.length_drop, hxl, e1]
  have hone := RepL.one hl
  have holds : ∀ k u, xs[k]? = some u → w.cell? ⟨b, o + k, none⟩ = some u := by
    intro k u hu
    rw [cell_of_row w b _ cur e fz hg]
    rw [← htake, List.getElem?_take] at hu
    split at hu
    · simpa using hu
    · cases hu
  have hap : ∀ (ty : TypeId) (A : Addr), (cap ≠ j → A = ⟨b, o + j * te.sz, none⟩) → (Builtin.append_ #[t, t] ty #[.slice (some ⟨b, o, none⟩) i cap, .slice (some A) (l.length - j) (cap - j)]).run P w.drew = .ok (.slice (some ⟨b, o, none⟩) (i + (l.length - j)) cap) (w.drew.setRow b (cur.toList.take (o + i * te.sz) ++ xs.drop (j * te.sz) ++ cur.toList.drop (o + i * te.sz + (xs.drop (j * te.sz)).length)).toArray) := by
    intro ty A hA
    have h := run_append_off (P := P) (w := w.drew) t ty e i0 hu i1 b o i cap cur fz hg hfz.to A (l.length - j) (cap - j) (xs.drop (j * te.sz)) (by rw [i2]; exact htl) (fun k u hk => by
      have hlt := (List.getElem?_eq_some_iff.1 hk).1
      have hne : l.length ≠ j := fun h => by rw [htl, h, Nat.sub_self, Nat.zero_mul] at hlt; omega
      rw [hA (by omega)]
      rw [List.getElem?_drop] at hk
      have := holds _ _ hk
      rw [Addr.add_mid, show o + j * te.sz + k = o + (j * te.sz + k) by omega]
      exact this) (fun u hu => hone u (List.mem_of_mem_drop hu)) (by omega) (by rw [i2, htl]; omega)
    rw [i2] at h
    exact h
  generalize hA1 : (cur.toList.take (o + i * te.sz) ++ xs.drop (j * te.sz) ++ cur.toList.drop (o + i * te.sz + (xs.drop (j * te.sz)).length)) = A1 at hap
  have hA1l : A1.length = cur.size := by
    rw [← hA1]
    simp only [List.length_append, List.length_take, List.length_drop, Array.length_toList, htl, hxl]
    omega
  have hw1 : (w.drew.setRow b A1.toArray).heap[b]? = some (.cells A1.toArray e fz) := setRow_heap w.drew b cur _ e _ hg
  have ek : l.length - (i + (l.length - j)) = j - i := by omega
  have e3 : (j - i) * te.sz = j * te.sz - i * te.sz := Nat.sub_mul _ _ _
  have hfit : o + (i + (l.length - j)) * te.sz + (l.length - (i + (l.length - j))) * te.sz ≤ A1.toArray.size := by
    rw [ek, e2, e3]
    simp only [List.size_toArray, hA1l]
    omega
  obtain ⟨Z, hZ, _⟩ := run_clear_blk (w := w.drew.setRow b A1.toArray) hti hk hte i1 i4 i5 hzd 0 b (o + (i + (l.length - j)) * te.sz) (l.length - (i + (l.length - j))) (cap - (i + (l.length - j))) (by omega) A1.toArray fz hw1 (hfz.size (by simpa using hA1l)).to hfit
  have hcl : ∃ Z : List Value, Z.length = (l.length - (i + (l.length - j))) * te.sz ∧ ∀ ty : TypeId, (Builtin.clear_ #[t] ty #[.slice (some ⟨b, o + (i + (l.length - j)) * te.sz, none⟩) (l.length - (i + (l.length - j))) (cap - (i + (l.length - j)))]).run P (w.drew.setRow b A1.toArray) = .ok (.tuple #[]) ((w.drew.setRow b A1.toArray).setRow b (A1.toArray.toList.take (o + (i + (l.length - j)) * te.sz) ++ Z ++ A1.toArray.toList.drop (o + (i + (l.length - j)) * te.sz + Z.length)).toArray) := by
    obtain ⟨Z, hZ, h⟩ := run_clear_blk (w := w.drew.setRow b A1.toArray) hti hk hte i1 i4 i5 hzd 0 b (o + (i + (l.length - j)) * te.sz) (l.length - (i + (l.length - j))) (cap - (i + (l.length - j))) (by omega) A1.toArray fz hw1 (hfz.size (by simpa using hA1l)).to hfit
    exact ⟨Z, hZ, fun ty => h⟩
  clear hZ
  obtain ⟨Z, hZ, hcl⟩ := hcl
  have hrun := R.road b o l.length cap i j hij hj hnc hb w _ _ _ hap hcl
  refine Calls.mono hrun fun en w'' h => ?_
  obtain ⟨rfl, rfl⟩ := h
  rw [setRow_setRow]
  have hrl : RepL w N te.ty (l.take i ++ l.drop j) (xs.take (i * te.sz) ++ xs.drop (j * te.sz)) := by
    have a1 := RepL.take i hl
    have a2 := RepL.drop' j hl
    rw [hte.ty] at a1 a2
    exact RepL.append a1 a2
  have hzl : (xs.take (i * te.sz) ++ xs.drop (j * te.sz)).length = (i + (l.length - j)) * te.sz := by
    simp only [List.length_append, List.length_take, List.length_drop, hxl, e2]
    omega
  have hsz : (A1.toArray.toList.take (o + (i + (l.length - j)) * te.sz) ++ Z ++ A1.toArray.toList.drop (o + (i + (l.length - j)) * te.sz + Z.length)).toArray.size = cur.size := by
    rw [ek] at hZ
    simp only [List.size_toArray, List.length_append, List.length_take, List.length_drop, hA1l, hZ, e2, e3]
    omega
  refine ⟨_, xs.take (i * te.sz) ++ xs.drop (j * te.sz), rfl, ⟨hzl, .inr ⟨b, o, cap, _, fz, rfl, setRow_heap w.drew b cur _ e _ hg, hfz.size hsz, by omega, by rw [hsz]; exact hcs, ?_⟩⟩, hrl, ⟨rfl, rfl, rfl, by simp [World.setRow], fun k _ hk => setRow_other w.drew b k _ (fun e => hk (by simp [Value.ownBlock, e]))⟩, .inl rfl⟩
  have s1 := splice_drop A1 Z o ((i + (l.length - j)) * te.sz) Z.length (by rw [hA1l, e2]; omega)
  have s2 := splice_drop cur.toList (xs.drop (j * te.sz)) o (i * te.sz) (xs.drop (j * te.sz)).length (by have := Array.length_toList (xs := cur); omega)
  have hA2 : A1.drop o = (cur.toList.drop o).take (i * te.sz) ++ xs.drop (j * te.sz) ++ (cur.toList.drop o).drop (i * te.sz + (xs.drop (j * te.sz)).length) := by
    rw [← s2, ← hA1]
  rw [List.toList_toArray, List.toList_toArray, s1]
  have k0 : (cur.toList.drop o).take (i * te.sz) = xs.take (i * te.sz) := by
    rw [← htake, List.take_take, Nat.min_eq_left (by omega)]
  have k1 : (A1.drop o).take ((i + (l.length - j)) * te.sz) = xs.take (i * te.sz) ++ xs.drop (j * te.sz) := by
    rw [hA2, k0, ← hzl]
    exact List.take_left
  rw [k1, List.append_assoc, ← hzl]
  exact List.take_left
def delRun (e : Nat) (te : TI) (x : (Ty.two (.sl e te.ty) (.two (.int .i64) (.int .i64))).den) : Option (Ty.sl e te.ty).den :=
  if (0 ≤ x.2.1 ∧ x.2.1 < x.2.2) ∧ (x.2.2 ≤ (List.length (α := te.ty.den) x.1 : Int) ∧ (List.length (α := te.ty.den) x.1) ≤ 9223372036854775807) then some (List.take (α := te.ty.den) x.2.1.toNat x.1 ++ List.drop (α := te.ty.den) x.2.2.toNat x.1) else none
theorem CtrOk.del {f t e : Nat} {ti te : TI} (R : DelRoads P f t te.sz) (hti : TIok P t ti) (hk : ti.k = .sl e) (hte : TIok P e te) {zd : te.ty.den} (hzd : ofAVs (fun _ => none) te.ty te.z = some zd) :
    CtrOk P f ⟨[.give, .one, .one], [.one true], true, .two (.sl e te.ty) (.two (.int .i64) (.int .i64)), .sl e te.ty, fun _ => delRun e te⟩ := by
  refine ⟨R.fn, fun w0 X M ι ob w hhs hXM args vals hargs k id avs x r o q h1 h2' h3 h4 h5 h6 h7 h8 h9 h10 => ?_⟩
  obtain ⟨a, r1, e1, t1, l1, q1, rfl, ha, f1, rfl⟩ := flat_give h1
  obtain ⟨y, r2, q2, rfl, f2, rfl⟩ := flat_one f1
  obtain ⟨c, r3, q3, rfl, f3, rfl⟩ := flat_one f2
  obtain ⟨rfl, rfl⟩ := flat_nil f3
  obtain ⟨l, n, m⟩ := x
  simp only [ofAVs] at h2'
  obtain ⟨x1, g1, h2'⟩ := Option.bind_eq_some_iff.1 h2'
  obtain ⟨x2, g2, h2'⟩ := Option.bind_eq_some_iff.1 h2'
  obtain ⟨x3, g3, h2'⟩ := Option.bind_eq_some_iff.1 g2
  obtain ⟨x4, g4, h2''⟩ := Option.bind_eq_some_iff.1 h2'
  rename_i h2o
  cases h2''
  cases h2o
  have ha := ofAV_whole g1 ha
  have hy := ofAV_i64 g3
  subst hy
  have hc := ofAV_i64 g4
  subst hc
  match vals, hargs with
  | [v1, v2, v3], hargs =>
  obtain ⟨b1, b2, b3, _⟩ := hargs
  obtain ⟨_, _, o1, b1⟩ := b1
  rw [ha] at o1
  cases o1
  have b1 := b1 _ _ _ _ rfl
  have b2 : v2 = .int .i64 n := b2
  have b3 : v3 = .int .i64 m := b3
  have h6' : outR id [.one true] (Ty.cells (.sl e te.ty) r) = some ⟨[(false, [.whole id])], [(id, .row e te.ty true r)], id + 1, []⟩ := rfl
  simp only [h6'] at h6
  cases h6
  have h7' : outP (id + 1) [.give, .one, .one] [.at (.whole a), .at (.int .i64 n), .at (.int .i64 m)] [] = some ([], []) := rfl
  simp only [h7'] at h7
  cases h7
  have hid : ob id = none := by
    simp only [outIds, List.map_cons, List.map_nil, List.append_nil, freshB, Bool.and_true] at h8
    cases ho : ob id with
    | none => rfl
    | some _ => rw [ho] at h8; cases h8
  have hobE : updL ob ((bif true then freeze ob (flatR ob [.give, .one, .one] [.at (.whole a), .at (.int .i64 n), .at (.int .i64 m)]) else []) ++ (deads (gvIds ob [.give, .one, .one] [.at (.whole a), .at (.int .i64 n), .at (.int .i64 m)]) ++ (([] : List (Nat × Obj)) ++ ([(id, .row e te.ty true r)] ++ [])))) = upd (upd ob a (some .dead)) id (some (.row e te.ty true r)) := rfl
  simp only [hobE]
  simp only [delRun] at h5
  split at h5
  · rename_i hcond
    obtain ⟨⟨n0, n1⟩, m0, mb⟩ := hcond
    have n0 : 0 ≤ n := n0
    have n1 : n < m := n1
    have m0 : m ≤ (List.length (α := te.ty.den) l : Int) := m0
    have n2 : m.toNat ≤ List.length (α := te.ty.den) l := Int.toNat_le.2 m0
    have hm0 : 0 < m := Int.lt_of_le_of_lt n0 n1
    have n3 : n.toNat < m.toNat := (Int.toNat_lt_toNat hm0).2 n1
    cases h5
    obtain ⟨xs, hS, hl⟩ := hhs.obs a _ ha
    rw [hte.ty] at hS
    rw [← b1] at hS
    have hn : (n.toNat : Int) = n := Int.toNat_of_nonneg n0
    have hm : (m.toNat : Int) = m := Int.toNat_of_nonneg (Int.le_of_lt hm0)
    have hrun := del_world (N := Nb w0 M ι ob w) R hti hk hte hzd l v1 xs hS hl n.toNat m.toNat n3 n2 mb
    rw [hn, hm, ← b2, ← b3] at hrun
    refine Calls.mono hrun fun en w' h => ?_
    obtain ⟨v', zs, z1, z2, z3, z4, z5⟩ := h
    obtain ⟨A', c', rfl⟩ := own_slice' z2
    have hlen : (List.take (α := te.ty.den) n.toNat l ++ List.drop (α := te.ty.den) m.toNat l).length = n.toNat + (List.length (α := te.ty.den) l - m.toNat) := by
      simp only [List.length_append, List.length_take, List.length_drop]
      rw [Nat.min_eq_left (Nat.le_trans (Nat.le_of_lt n3) n2)]
    have haid : a ≠ id := fun e => by rw [e, hid] at ha; cases ha
    obtain ⟨k1, k2⟩ := HS.appended hhs id e te.ty l (List.take (α := te.ty.den) n.toNat l ++ List.drop (α := te.ty.den) m.toNat l) zs v1 _ w' A' c' (by rw [hlen]) hid (some a)
      ⟨haid, ha, b1⟩ (by rw [hlen, hte.ty]; exact z2) z3 z4 z5
    refine ⟨_, z1, _, k1, k2, rfl, _, upd_same _ _ _, fun e' t' o' l' he' => ?_⟩
    cases he'
    rw [upd_same, hlen]
  · cases h5
end
end Go.Proofs.Ytfaeklomiofpdaa.DI
