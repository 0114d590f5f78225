/- Deep rows: their cells are written, lent out and taken back. -/
import Derived.Test.YtpinehfjimphmaaGreatDIOps2
namespace Go.Proofs.YtpinehfjimphmaaGreat.DI
open Go Go.RowKit
set_option linter.unusedVariables false
set_option linter.unusedSimpArgs false
theorem RepD.len {w : World} : ∀ {t : Ty} {x : t.den} {cs : List Value} {bs : List Nat}, RepD w t x cs bs → cs.length = t.size
  | .unit, _, _, _, h => by simp only [RepD] at h; rw [h.1]; rfl
  | .int _, _, _, _, h => by simp only [RepD] at h; rw [h.1]; rfl
  | .bool, _, _, _, h => by simp only [RepD] at h; rw [h.1]; rfl
  | .str, _, _, _, h => by simp only [RepD] at h; rw [h.1]; rfl
  | .sl _ _, _, _, _, h => by simp only [RepD] at h; obtain ⟨A, c, h, _⟩ := h; rw [h]; rfl
  | .two _ _, _, _, _, h => by
    simp only [RepD] at h
    obtain ⟨c1, c2, b1, b2, ⟨e1, _⟩, h1, h2⟩ := h
    rw [e1, List.length_append, RepD.len h1, RepD.len h2]
    rfl
theorem RepDL.len {w : World} {t : Ty} : ∀ {l : List t.den} {cs : List Value} {bs : List Nat}, RepDL w t l cs bs → cs.length = l.length * t.size
  | [], _, _, h => by simp only [RepDL] at h; rw [h.1]; simp
  | _ :: _, _, _, h => by
    simp only [RepDL] at h
    obtain ⟨c1, c2, b1, b2, ⟨e1, _⟩, h1, h2⟩ := h
    rw [e1, List.length_append, RepD.len h1, RepDL.len h2, List.length_cons, Nat.add_mul]
    omega
theorem cells_atom : ∀ {t : Ty} (x : t.den), t.size = 1 → (∀ a b, t ≠ .two a b) → Ty.cells t x = [⟨t, x⟩]
  | .unit, _, h, _ => by cases h
  | .two a b, _, _, h => (h a b rfl).elim
  | .int _, _, _, _ => rfl
  | .bool, _, _, _ => rfl
  | .str, _, _, _ => rfl
  | .sl _ _, _, _, _ => rfl
theorem cells_size : ∀ (t : Ty) (x : t.den), (Ty.cells t x).length = t.size
  | .unit, _ => rfl
  | .two a b, x => by simp only [Ty.cells, List.length_append, cells_size a, cells_size b]; rfl
  | .int _, _ => rfl
  | .bool, _ => rfl
  | .str, _ => rfl
  | .sl _ _, _ => rfl
theorem ofAV_atom {ob : Ob} {t : Ty} {v : AV} {x : t.den} (h : ofAV ob t v = some x) : t.size = 1 ∧ ∀ a b, t ≠ .two a b := by
  refine ⟨ofAV_size h, fun a b e => ?_⟩
  subst e
  cases v <;> cases h
/-- One cell of an element is written. -/
theorem RepD.put1 {ob : Ob} {w : World} {va : AV} {u : Value} {qb : List Nat} (hva : ∀ (t : Ty) (x : t.den), ofAV ob t va = some x → RepD w t x [u] qb) :
    ∀ {t : Ty} {y z : t.den} {off : Nat} {cs : List Value} {bs : List Nat}, Ty.put ob t y off [va] = some z → RepD w t y cs bs →
    ∃ ba bo bb, bs = ba ++ (bo ++ bb) ∧ (∃ (t0 : Ty) (x0 : t0.den) (v0 : Value), (Ty.cells t y)[off]? = some ⟨t0, x0⟩ ∧ cs[off]? = some v0 ∧ RepD w t0 x0 [v0] bo ∧ ∀ a b, t0 ≠ .two a b) ∧ RepD w t z (cs.set off u) (ba ++ (qb ++ bb)) := by
  have one : ∀ {t : Ty} {y z : t.den} {cs : List Value} {bs : List Nat}, ofAV ob t va = some z → RepD w t y cs bs →
    ∃ ba bo bb, bs = ba ++ (bo ++ bb) ∧ (∃ (t0 : Ty) (x0 : t0.den) (v0 : Value), (Ty.cells t y)[0]? = some ⟨t0, x0⟩ ∧ cs[0]? = some v0 ∧ RepD w t0 x0 [v0] bo ∧ ∀ a b, t0 ≠ .two a b) ∧ RepD w t z (cs.set 0 u) (ba ++ (qb ++ bb)) := by
    intro t y z cs bs h hd
    obtain ⟨a1, a2⟩ := ofAV_atom h
    have hl := hd.len
    rw [a1] at hl
    obtain ⟨v0, rfl⟩ := List.length_eq_one_iff.1 hl
    exact ⟨[], bs, [], by simp, ⟨t, y, v0, by rw [cells_atom y a1 a2]; rfl, rfl, hd, a2⟩, by simpa using hva t z h⟩
  intro t
  induction t with
  | unit => intro y z off cs bs h _; cases off <;> cases h
  | int k => intro y z off cs bs h hd; cases off with
    | zero => exact one h hd
    | succ _ => cases h
  | bool => intro y z off cs bs h hd; cases off with
    | zero => exact one h hd
    | succ _ => cases h
  | str => intro y z off cs bs h hd; cases off with
    | zero => exact one h hd
    | succ _ => cases h
  | sl e t _ => intro y z off cs bs h hd; cases off with
    | zero => exact one h hd
    | succ _ => cases h
  | two a b iha ihb =>
    intro y z off cs bs h hd
    simp only [RepD] at hd
    obtain ⟨c1, c2, b1, b2, ⟨rfl, rfl⟩, h1, h2⟩ := hd
    cases off with
    | zero =>
      simp only [Ty.put] at h
      obtain ⟨y', h3, h4⟩ := Option.bind_eq_some_iff.1 h
      cases h4
      obtain ⟨a1, a2⟩ := ofAV_atom h3
      have hl := h1.len
      rw [a1] at hl
      obtain ⟨v0, rfl⟩ := List.length_eq_one_iff.1 hl
      refine ⟨[], b1, b2, rfl, ⟨a, y.1, v0, by simp only [Ty.cells, cells_atom y.1 a1 a2]; rfl, rfl, h1, a2⟩, ?_⟩
      simp only [RepD]
      exact ⟨[u], c2, qb, b2, ⟨rfl, rfl⟩, hva a y' h3, h2⟩
    | succ j =>
      simp only [Ty.put] at h
      split at h
      · rename_i a1
        obtain ⟨z2, h3, h4⟩ := Option.bind_eq_some_iff.1 h
        cases h4
        obtain ⟨ba, bo, bb, e, ⟨t0, x0, v0, k1, k2, k3, k5⟩, k4⟩ := ihb h3 h2
        have hl := h1.len
        rw [a1] at hl
        obtain ⟨v1, rfl⟩ := List.length_eq_one_iff.1 hl
        have hc := cells_size a y.1
        rw [a1] at hc
        obtain ⟨c0, hc0⟩ := List.length_eq_one_iff.1 hc
        refine ⟨b1 ++ ba, bo, bb, by rw [e, List.append_assoc], ⟨t0, x0, v0, ?_, by simpa using k2, k3, k5⟩, ?_⟩
        · simp only [Ty.cells, hc0]
          simpa using k1
        · simp only [RepD]
          exact ⟨[v1], c2.set j u, b1, ba ++ (qb ++ bb), ⟨by simp, by rw [List.append_assoc]⟩, h1, k4⟩
      · cases h
theorem RepDL.at {w : World} {t : Ty} : ∀ {l : List t.den} {xs : List Value} {bs : List Nat} {i : Nat} {y : t.den}, RepDL w t l xs bs → l[i]? = some y →
    ∃ ba bi bb, bs = ba ++ (bi ++ bb) ∧ RepD w t y ((xs.drop (i * t.size)).take t.size) bi ∧ ∀ z cs' bi', RepD w t z cs' bi' → RepDL w t (l.set i z) (xs.take (i * t.size) ++ (cs' ++ xs.drop ((i + 1) * t.size))) (ba ++ (bi' ++ bb))
  | [], _, _, _, _, _, h => by simp at h
  | x :: r, xs, bs, 0, y, h, hy => by
    simp only [RepDL] at h
    obtain ⟨c1, c2, b1, b2, ⟨rfl, rfl⟩, h1, h2⟩ := h
    simp at hy
    subst hy
    have hl := h1.len
    refine ⟨[], b1, b2, rfl, by simpa [← hl] using h1, fun z cs' bi' hz => ?_⟩
    simp only [List.set_cons_zero, RepDL]
    exact ⟨cs', c2, bi', b2, ⟨by simp [← hl], rfl⟩, hz, h2⟩
  | x :: r, xs, bs, i + 1, y, h, hy => by
    simp only [RepDL] at h
    obtain ⟨c1, c2, b1, b2, ⟨rfl, rfl⟩, h1, h2⟩ := h
    obtain ⟨ba, bi, bb, e, k1, k2⟩ := RepDL.at (i := i) h2 (by simpa using hy)
    have hl := h1.len
    have e1 : (i + 1) * t.size = c1.length + i * t.size := by rw [hl, Nat.add_mul]; omega
    have e2 : (i + 1 + 1) * t.size = c1.length + (i + 1) * t.size := by rw [hl, Nat.add_mul (i + 1)]; omega
    refine ⟨b1 ++ ba, bi, bb, by rw [e, List.append_assoc], by rw [e1, ← List.drop_drop, List.drop_left]; exact k1, fun z cs' bi' hz => ?_⟩
    simp only [List.set_cons_succ, RepDL]
    refine ⟨c1, _, b1, _, ⟨?_, by rw [List.append_assoc]⟩, h1, k2 z cs' bi' hz⟩
    rw [e2, List.take_append, List.take_of_length_le (by omega), ← List.drop_drop, List.drop_left, List.append_assoc]
    congr 3
    omega
theorem set_part {α : Type} {xs : List α} {p n off : Nat} {u : α} (ho : off < n) (hx : p + n ≤ xs.length) : xs.take p ++ ((((xs.drop p).take n).set off u) ++ xs.drop (p + n)) = xs.set (p + off) u := by
  apply List.ext_getElem?
  intro j
  simp only [List.getElem?_append, List.length_take, List.getElem?_take, List.getElem?_set, List.length_set, List.length_drop, List.getElem?_drop]
  by_cases h1 : j < p
  · rw [if_pos (by omega), if_pos h1, if_neg (by omega)]
  · rw [if_neg (by omega), Nat.min_eq_left (by omega)]
    by_cases h2 : j < p + n
    · rw [if_pos (by omega)]
      by_cases h3 : p + off = j
      · subst h3
        rw [if_pos (by omega), if_pos (by omega), if_pos rfl, if_pos (by omega)]
      · rw [if_neg (by omega), if_neg h3, if_pos (by omega)]
        congr 1
        omega
    · rw [if_neg (by omega), if_neg (by omega)]
      congr 1
      omega
/-- One cell of a deep row is written. -/
theorem RepDL.put1 {ob : Ob} {w : World} {va : AV} {u : Value} {qb : List Nat} (hva : ∀ (t : Ty) (x : t.den), ofAV ob t va = some x → RepD w t x [u] qb) {t : Ty} {l : List t.den} {xs : List Value} {bs : List Nat} {i off : Nat} {y z : t.den}
    (h : RepDL w t l xs bs) (hy : l[i]? = some y) (hz : Ty.put ob t y off [va] = some z) :
    ∃ ba bo bb, bs = ba ++ (bo ++ bb) ∧ (∃ (t0 : Ty) (x0 : t0.den) (v0 : Value), (Ty.cells t y)[off]? = some ⟨t0, x0⟩ ∧ xs[i * t.size + off]? = some v0 ∧ RepD w t0 x0 [v0] bo ∧ ∀ a b, t0 ≠ .two a b) ∧ RepDL w t (l.set i z) (xs.set (i * t.size + off) u) (ba ++ (qb ++ bb)) := by
  obtain ⟨ba, bi, bb, e, k1, k2⟩ := h.at hy
  obtain ⟨ca, co, cb, e', ⟨t0, x0, v0, q1, q2, q3, q5⟩, q4⟩ := RepD.put1 hva hz k1
  have hi := (List.getElem?_eq_some_iff.1 hy).1
  have hl := h.len
  have hm : (i + 1) * t.size ≤ l.length * t.size := Nat.mul_le_mul_right _ hi
  have e1 : (i + 1) * t.size = i * t.size + t.size := by rw [Nat.add_mul]; omega
  have ho : off < t.size := by
    have := (List.getElem?_eq_some_iff.1 q2).1
    have := k1.len
    omega
  refine ⟨ba ++ ca, co, cb ++ bb, by rw [e, e']; simp only [List.append_assoc], ⟨t0, x0, v0, q1, ?_, q3, q5⟩, ?_⟩
  · rw [List.getElem?_take, if_pos ho, List.getElem?_drop] at q2
    exact q2
  · have := k2 z _ _ q4
    rw [e1, set_part ho (by omega)] at this
    simpa only [List.append_assoc] using this
theorem RepC.plainF {w : World} {N N' : Nat → Prop} : ∀ {t : Ty} {x : t.den} {cs : List Value}, t.plain = true → RepC w N t x cs → RepC w N' t x cs
  | .unit, _, _, _, h => h
  | .int _, _, _, _, h => h
  | .bool, _, _, _, h => h
  | .str, _, _, _, h => h
  | .sl _ _, _, _, h, _ => by cases h
  | .two a b, _, _, hp, h => by
    simp only [Ty.plain, Bool.and_eq_true] at hp
    simp only [RepC] at h ⊢
    obtain ⟨c1, c2, e, h1, h2⟩ := h
    exact ⟨c1, c2, e, RepC.plainF hp.1 h1, RepC.plainF hp.2 h2⟩
theorem RepL.plainF {w : World} {N N' : Nat → Prop} {t : Ty} (hp : t.plain = true) : ∀ {l : List t.den} {cs : List Value}, RepL w N t l cs → RepL w N' t l cs
  | [], _, h => h
  | _ :: _, _, h => by
    simp only [RepL] at h ⊢
    obtain ⟨c1, c2, e, h1, h2⟩ := h
    exact ⟨c1, c2, e, h1.plainF hp, RepL.plainF hp h2⟩
theorem Own.plainF {w : World} {N N' : Nat → Prop} {e : Nat} {t : Ty} {l : List t.den} {A : Option Addr} {c : Nat} (hp : t.plain = true) (h : Own w N e t l A c) : Own w N' e t l A c := by
  obtain ⟨xs, h1, h2⟩ := h
  exact ⟨xs, h1, h2.plainF hp⟩
theorem RepD.nil {w : World} {t : Ty} {x : t.den} {bs : List Nat} (h : RepD w t x [.slice none 0 0] bs) (h2 : ∀ a b, t ≠ .two a b) : bs = [] := by
  cases t with
  | unit => simp only [RepD] at h; exact h.2
  | int => simp only [RepD] at h; exact h.2
  | bool => simp only [RepD] at h; exact h.2
  | str => simp only [RepD] at h; exact h.2
  | two a b => exact (h2 a b rfl).elim
  | sl e t =>
    simp only [RepD] at h
    obtain ⟨A, c, e1, _, e2⟩ := h
    simp only [List.cons.injEq, Value.slice.injEq, and_true] at e1
    rw [e2, ← e1.1]
    rfl
theorem ofAV_row {ob : Ob} {q e' : Nat} {t' : Ty} {own : Bool} {x : List t'.den} (hq : ob q = some (.row e' t' own x)) {t : Ty} {y : t.den} (h : ofAV ob t (.whole q) = some y) : (⟨t, y⟩ : Cell) = ⟨.sl e' t', x⟩ := by
  cases t <;> simp only [ofAV, hq] at h <;> try (cases h; done)
  split at h
  · rename_i hh
    obtain ⟨rfl, rfl⟩ := hh
    cases h
    rfl
  · cases h
theorem nil_own {w : World} {N : Nat → Prop} {e : Nat} {t : Ty} : Own w N e t [] none 0 := ⟨[], ⟨by simp, .inl ⟨rfl, rfl⟩⟩, rfl⟩
theorem ofAV_nils {ob : Ob} {w : World} {t : Ty} {y : t.den} (h : ofAV ob t .nils = some y) : RepD w t y [.slice none 0 0] [] := by
  cases t <;> simp only [ofAV] at h <;> try (cases h; done)
  cases h
  simp only [RepD]
  exact ⟨none, 0, rfl, nil_own, rfl⟩
section
variable {w0 : World} {X M : Nat → Prop} {ι : Nat → In} {w : World} {ob : Ob}
theorem inBlks {a : Option Addr} {c : Nat} {bs : List Nat} {b : Nat} : b ∈ In.blks ⟨a, c, bs⟩ ↔ (∃ ad, a = some ad ∧ ad.block = b) ∨ b ∈ bs := mem_blks
/-- What was lent comes back. -/
theorem HS.back (h : HS w0 X M ι ob w) {r e : Nat} {t : Ty} {l : List t.den} {i off q : Nat} (hr : ob r = some (.deep e t l (some (i, off, q)))) {y z : t.den} (hy : l[i]? = some y) (hz : Ty.put ob t y off [.whole q] = some z)
    {e' : Nat} {t' : Ty} {x : List t'.den} (hq : ob q = some (.row e' t' true x)) (hp : t'.plain = true) :
    ∃ ι', HS w0 X M ι' (upd (upd ob r (some (.deep e t (l.set i z) none))) q (some .dead)) w ∧ Keeps ι ι' ob (upd (upd ob r (some (.deep e t (l.set i z) none))) q (some .dead)) := by
  have hne : r ≠ q := fun k => by rw [k, hq] at hr; cases hr
  obtain ⟨xs, v, h1, h2, h3, h4, h5⟩ := h.obs r _ hr
  obtain ⟨_, o5, ho5, h5⟩ := h5
  rw [hq] at ho5
  cases ho5
  have hv := h5 _ _ rfl
  have hown : Own w (fun _ => False) e' t' x (ι q).a (ι q).c := Own.plainF hp (h.obs q _ hq)
  have hva : ∀ (t0 : Ty) (x0 : t0.den), ofAV ob t0 (.whole q) = some x0 → RepD w t0 x0 [v] ((ι q).a.toList.map Addr.block) := by
    intro t0 x0 h0
    have := ofAV_row hq h0
    cases this
    simp only [RepD]
    exact ⟨_, _, by rw [hv], hown, rfl⟩
  obtain ⟨ba, bo, bb, e1, ⟨t0, x0, v0, c1, c2, c3, c4⟩, k⟩ := RepDL.put1 hva h2 hy hz
  have hlt := (List.getElem?_eq_some_iff.1 h4).1
  rw [List.getElem?_set_self hlt] at c2
  cases c2
  have hbo := c3.nil c4
  subst hbo
  rw [List.nil_append] at e1
  have hxs : (xs.set (i * t.size + off) (.slice none 0 0)).set (i * t.size + off) v = xs := by
    rw [List.set_set]
    apply List.ext_getElem?
    intro j
    by_cases hj : i * t.size + off = j
    · subst hj; rw [List.getElem?_set_self hlt, h4]
    · rw [List.getElem?_set_ne hj]
  rw [hxs] at k
  have hqb : ∀ b, b ∈ (ι q).a.toList.map Addr.block ↔ ∃ ad, (ι q).a = some ad ∧ ad.block = b := fun b => by cases (ι q).a <;> simp [eq_comm]
  have hdis : ∀ b, b ∈ (ι q).a.toList.map Addr.block → b ∉ (ι r).blks := fun b hb hb' => hne (h.sep r q _ _ b hr hq trivial trivial hb' ((hqb b).1 hb))
  let J : In := ⟨(ι r).a, (ι r).c, ba ++ ((ι q).a.toList.map Addr.block ++ bb)⟩
  have hJ : ∀ b, b ∈ J.blks ↔ b ∈ (ι r).blks ∨ b ∈ (ι q).a.toList.map Addr.block := fun b => by
    rw [mem_blks, mem_blks]
    simp only [J, e1, List.mem_append]
    constructor
    · rintro (k | k | k | k)
      · exact .inl (.inl k)
      · exact .inl (.inr (.inl k))
      · exact .inr k
      · exact .inl (.inr (.inr k))
    · rintro ((k | k | k) | k)
      · exact .inl k
      · exact .inr (.inl k)
      · exact .inr (.inr (.inr k))
      · exact .inr (.inr (.inl k))
  have hJn : J.blks.Nodup := by
    have hp : J.blks.Perm ((ι q).a.toList.map Addr.block ++ (ι r).blks) := List.perm_iff_count.2 fun b => by
      simp only [J, In.blks, e1, List.count_append]
      omega
    rw [hp.nodup_iff]
    refine List.nodup_append.2 ⟨by cases (ι q).a <;> simp, h3, fun a ha b hb k => hdis a ha (k ▸ hb)⟩
  refine ⟨upd ι r J, ?_⟩
  let ob' := upd (upd ob r (some (.deep e t (l.set i z) none))) q (some .dead)
  have ob'r : ob' r = some (.deep e t (l.set i z) none) := by simp only [ob']; rw [upd_ne _ _ _ _ hne, upd_same]
  have ob'q : ob' q = some .dead := upd_same _ _ _
  have ob'o : ∀ j, j ≠ r → j ≠ q → ob' j = ob j := fun j k1 k2 => by simp only [ob']; rw [upd_ne _ _ _ _ k2, upd_ne _ _ _ _ k1]
  have hk : Keeps ι (upd ι r J) ob ob' := fun j o ho => by
    by_cases e1 : j = r
    · subst e1
      rw [hr] at ho
      cases ho
      exact ⟨_, ob'r, ⟨rfl, rfl, by simp⟩, by rw [upd_same], by rw [upd_same]⟩
    · by_cases e2 : j = q
      · subst e2
        exact ⟨_, ob'q, trivial, by rw [upd_ne _ _ _ _ e1], by rw [upd_ne _ _ _ _ e1]⟩
      · exact ⟨o, by rw [ob'o j e1 e2]; exact ho, Sh.refl _, by rw [upd_ne _ _ _ _ e1], by rw [upd_ne _ _ _ _ e1]⟩
  -- where a block of an object was
  have was : ∀ j o b, ob' j = some o → Wr o → Blk (upd ι r J j) o b → (j ≠ r ∧ j ≠ q ∧ ob j = some o ∧ Blk (ι j) o b) ∨ (j = r ∧ (b ∈ (ι r).blks ∨ b ∈ (ι q).a.toList.map Addr.block)) := by
    intro j o b hj hw hb
    by_cases e1 : j = r
    · subst e1
      rw [ob'r] at hj
      cases hj
      rw [upd_same] at hb
      exact .inr ⟨rfl, (hJ b).1 hb⟩
    · by_cases e2 : j = q
      · subst e2; rw [ob'q] at hj; cases hj; exact hw.elim
      · rw [ob'o j e1 e2] at hj
        rw [upd_ne _ _ _ _ e1] at hb
        exact .inl ⟨e1, e2, hj, hb⟩
  refine ⟨h.step0 h.fr (Nat.le_refl _) (fun _ _ _ => rfl) hk ?_ ?_ ?_, hk⟩
  · rintro b ⟨j, o, q1, q2, q3⟩
    rcases was j o b q1 q2 q3 with ⟨_, _, k1, k2⟩ | ⟨_, k1 | k1⟩
    · exact .inl ⟨j, o, k1, q2, k2⟩
    · exact .inl ⟨r, _, hr, trivial, k1⟩
    · exact .inl ⟨q, _, hq, trivial, (hqb b).1 k1⟩
  · intro j j' o o' b a1 a2 a3 a4 a5 a6
    rcases was j o b a1 a3 a5 with ⟨n1, n2, k1, k2⟩ | ⟨rfl, k1⟩ <;> rcases was j' o' b a2 a4 a6 with ⟨m1, m2, p1, p2⟩ | ⟨rfl, p1⟩
    · exact h.sep j j' o o' b k1 p1 a3 a4 k2 p2
    · rcases p1 with p1 | p1
      · exact h.sep j _ o _ b k1 hr a3 trivial k2 p1
      · exact (n2 (h.sep j q o _ b k1 hq a3 trivial k2 ((hqb b).1 p1))).elim
    · rcases k1 with k1 | k1
      · exact h.sep _ j' _ o' b hr p1 trivial a4 k1 p2
      · exact (m2 (h.sep q j' _ o' b hq p1 trivial a4 ((hqb b).1 k1) p2).symm).elim
    · rfl
  · intro hN j o ho
    change ob' j = some o at ho
    by_cases e1' : j = r
    · subst e1'
      rw [ob'r] at ho
      cases ho
      right
      simp only [RepO, upd_same]
      exact ⟨xs, by simpa using h1, k, hJn⟩
    · by_cases e2 : j = q
      · subst e2; rw [ob'q] at ho; cases ho; exact .inr trivial
      · rw [ob'o j e1' e2] at ho
        exact .inl ⟨ho, upd_ne _ _ _ _ e1', fun _ _ _ => rfl⟩
theorem OwnAt.cell {e sz n : Nat} {A : Option Addr} {c : Nat} {xs : List Value} (h : OwnAt w e sz (.slice A n c) n xs) {p : Nat} {u : Value} (hp : xs[p]? = some u) : ∃ ad, A = some ad ∧ ad.spot = none ∧ w.cell? (ad.add p) = some u := by
  obtain ⟨h3, h4⟩ := h
  have hlt := (List.getElem?_eq_some_iff.1 hp).1
  rcases h4 with ⟨_, h5⟩ | ⟨g, o, cap, cur, fz, e1, e3, ef, e4, e6, e7⟩
  · rw [h5] at h3; omega
  · have ea : A = some ⟨g, o, none⟩ := by injection e1
    refine ⟨_, ea, rfl, ?_⟩
    rw [← e7, List.getElem?_take, if_pos (by omega), List.getElem?_drop] at hp
    rw [Addr.add_mid, cell_of_row w g _ cur e fz e3]
    simpa using hp
/-- An inner row is lent. -/
theorem HS.lend (h : HS w0 X M ι ob w) {r e : Nat} {t : Ty} {l : List t.den} {i off id : Nat} (hr : ob r = some (.deep e t l none)) {y z : t.den} (hy : l[i]? = some y) {obz : Ob} (hz : Ty.put obz t y off [.nils] = some z)
    {e' : Nat} {t' : Ty} {x : List t'.den} (hc : (Ty.cells t y)[off]? = some ⟨.sl e' t', x⟩) (hid : ob id = none) :
    ∃ A c ad, ((ι r).a = some ad ∧ ad.spot = none ∧ w.cell? (ad.add (i * t.size + off)) = some (.slice A x.length c)) ∧
      ∃ ι', HS w0 X M ι' (upd (upd ob r (some (.deep e t (l.set i z) (some (i, off, id))))) id (some (.row e' t' true x))) w ∧ Keeps ι ι' ob (upd (upd ob r (some (.deep e t (l.set i z) (some (i, off, id))))) id (some (.row e' t' true x))) ∧ ι' id = ⟨A, c, []⟩ := by
  have hne : r ≠ id := fun k => by rw [k, hid] at hr; cases hr
  obtain ⟨xs, h1, h2, h3⟩ := h.obs r _ hr
  obtain ⟨ba, bo, bb, e1, ⟨t0, x0, v0, c1, c2, c3, c4⟩, k⟩ := RepDL.put1 (ob := obz) (va := .nils) (fun t x hx => ofAV_nils hx) h2 hy hz
  rw [hc] at c1
  cases c1
  simp only [RepD] at c3
  obtain ⟨A, c, hv, hown, hbo⟩ := c3
  simp only [List.cons.injEq, and_true] at hv
  subst hv
  obtain ⟨ad, ha, hs0, hcell⟩ := h1.cell c2
  refine ⟨A, c, ad, ⟨ha, hs0, hcell⟩, ?_⟩
  rw [List.nil_append] at k
  have hbm : ∀ b, b ∈ bo ↔ ∃ ad, A = some ad ∧ ad.block = b := fun b => by rw [hbo]; cases A <;> simp [eq_comm]
  let J : In := ⟨(ι r).a, (ι r).c, ba ++ bb⟩
  let K : In := ⟨A, c, []⟩
  have hperm : (ι r).blks.Perm (bo ++ J.blks) := List.perm_iff_count.2 fun b => by
    simp only [J, In.blks, e1, List.count_append]
    omega
  have hnd := hperm.nodup_iff.1 h3
  obtain ⟨nd1, nd2, nd3⟩ := List.nodup_append.1 hnd
  have hsub : ∀ b, b ∈ (ι r).blks ↔ b ∈ bo ∨ b ∈ J.blks := fun b => by rw [hperm.mem_iff, List.mem_append]
  let ι' := upd (upd ι r J) id K
  let ob' := upd (upd ob r (some (.deep e t (l.set i z) (some (i, off, id))))) id (some (.row e' t' true x))
  have ob'r : ob' r = some (.deep e t (l.set i z) (some (i, off, id))) := by simp only [ob']; rw [upd_ne _ _ _ _ hne, upd_same]
  have ob'q : ob' id = some (.row e' t' true x) := upd_same _ _ _
  have ob'o : ∀ j, j ≠ r → j ≠ id → ob' j = ob j := fun j k1 k2 => by simp only [ob']; rw [upd_ne _ _ _ _ k2, upd_ne _ _ _ _ k1]
  have ι'r : ι' r = J := by simp only [ι']; rw [upd_ne _ _ _ _ hne, upd_same]
  have ι'q : ι' id = K := upd_same _ _ _
  have ι'o : ∀ j, j ≠ r → j ≠ id → ι' j = ι j := fun j k1 k2 => by simp only [ι']; rw [upd_ne _ _ _ _ k2, upd_ne _ _ _ _ k1]
  have hk : Keeps ι ι' ob ob' := fun j o ho => by
    by_cases e1 : j = r
    · subst e1
      rw [hr] at ho
      cases ho
      exact ⟨_, ob'r, ⟨rfl, rfl, by simp⟩, by rw [ι'r], by rw [ι'r]⟩
    · by_cases e2 : j = id
      · subst e2; rw [hid] at ho; cases ho
      · exact ⟨o, by rw [ob'o j e1 e2]; exact ho, Sh.refl _, by rw [ι'o j e1 e2], by rw [ι'o j e1 e2]⟩
  have was : ∀ j o b, ob' j = some o → Wr o → Blk (ι' j) o b → (j ≠ r ∧ j ≠ id ∧ ob j = some o ∧ Blk (ι j) o b) ∨ (j = r ∧ b ∈ J.blks) ∨ (j = id ∧ b ∈ bo) := by
    intro j o b hj hw hb
    by_cases e1 : j = r
    · subst e1
      rw [ob'r] at hj
      cases hj
      rw [ι'r] at hb
      exact .inr (.inl ⟨rfl, hb⟩)
    · by_cases e2 : j = id
      · subst e2
        rw [ob'q] at hj
        cases hj
        rw [ι'q] at hb
        exact .inr (.inr ⟨rfl, (hbm b).2 hb⟩)
      · rw [ob'o j e1 e2] at hj
        rw [ι'o j e1 e2] at hb
        exact .inl ⟨e1, e2, hj, hb⟩
  refine ⟨ι', h.step0 h.fr (Nat.le_refl _) (fun _ _ _ => rfl) hk ?_ ?_ ?_, hk, ι'q⟩
  · rintro b ⟨j, o, q1, q2, q3⟩
    rcases was j o b q1 q2 q3 with ⟨_, _, k1, k2⟩ | ⟨_, k1⟩ | ⟨_, k1⟩
    · exact .inl ⟨j, o, k1, q2, k2⟩
    · exact .inl ⟨r, _, hr, trivial, (hsub b).2 (.inr k1)⟩
    · exact .inl ⟨r, _, hr, trivial, (hsub b).2 (.inl k1)⟩
  · intro j j' o o' b a1 a2 a3 a4 a5 a6
    rcases was j o b a1 a3 a5 with ⟨n1, n2, k1, k2⟩ | ⟨n1, k1⟩ | ⟨n1, k1⟩ <;> rcases was j' o' b a2 a4 a6 with ⟨m1, m2, p1, p2⟩ | ⟨m1, p1⟩ | ⟨m1, p1⟩
    · exact h.sep j j' o o' b k1 p1 a3 a4 k2 p2
    · exact (n1 (h.sep j r o _ b k1 hr a3 trivial k2 ((hsub b).2 (.inr p1)))).elim
    · exact (n1 (h.sep j r o _ b k1 hr a3 trivial k2 ((hsub b).2 (.inl p1)))).elim
    · exact (m1 (h.sep j' r o' _ b p1 hr a4 trivial p2 ((hsub b).2 (.inr k1)))).elim
    · rw [n1, m1]
    · exact (nd3 b p1 b k1 rfl).elim
    · exact (m1 (h.sep j' r o' _ b p1 hr a4 trivial p2 ((hsub b).2 (.inl k1)))).elim
    · exact (nd3 b k1 b p1 rfl).elim
    · rw [n1, m1]
  · intro hN j o ho
    change ob' j = some o at ho
    by_cases e1' : j = r
    · subst e1'
      rw [ob'r] at ho
      cases ho
      right
      change RepO w (Nb w0 M ι' ob' w) ι' ob' j (.deep e t (l.set i z) (some (i, off, id)))
      simp only [RepO, ι'r]
      refine ⟨xs, _, by simpa using h1, k, nd2, c2, rfl, _, ob'q, fun t m hm => ?_⟩
      cases hm
      rw [ι'q]
    · by_cases e2 : j = id
      · subst e2
        rw [ob'q] at ho
        cases ho
        right
        change Own w _ e' t' x (ι' j).a (ι' j).c
        rw [ι'q]
        obtain ⟨ys, y1, y2⟩ := hown
        exact ⟨ys, y1, RepL.mono (fun _ k => k.elim) y2⟩
      · rw [ob'o j e1' e2] at ho
        exact .inl ⟨ho, ι'o j e1' e2, fun _ _ _ => rfl⟩
theorem updL_deads : ∀ (ids : List Nat) (ob : Ob) (j : Nat), updL ob (deads ids) j = if j ∈ ids then some .dead else ob j := by
  intro ids
  induction ids with
  | nil => intro ob j; simp [deads, updL]
  | cons q r ih =>
    intro ob j
    simp only [deads, List.map_cons, updL]
    have := ih (upd ob q (some .dead)) j
    simp only [deads] at this
    rw [this]
    by_cases hj : j ∈ r
    · rw [if_pos hj, if_pos (List.mem_cons_of_mem _ hj)]
    · rw [if_neg hj]
      by_cases hq : j = q
      · subst hq; rw [upd_same, if_pos List.mem_cons_self]
      · rw [upd_ne _ _ _ _ hq, if_neg (by simp [hq, hj])]
theorem OwnAt.set1 {e sz n : Nat} {A : Option Addr} {c : Nat} {xs : List Value} (h : OwnAt w e sz (.slice A n c) n xs) {p : Nat} (hp : p < xs.length) (u : Value) :
    ∃ g o cur fz, A = some ⟨g, o, none⟩ ∧ w.heap[g]? = some (.cells cur e fz) ∧ NoFz cur fz ∧ o + p < cur.size ∧ OwnAt (w.setRow g (cur.toList.take (o + p) ++ [u] ++ cur.toList.drop (o + p + 1)).toArray) e sz (.slice A n c) n (xs.set p u) := by
  obtain ⟨h3, h4⟩ := h
  rcases h4 with ⟨_, h5⟩ | ⟨g, o, cap, cur, fz, e1, e3, ef, e4, e6, e7⟩
  · rw [h5] at h3; omega
  · have hb2 : n * sz ≤ cap * sz := Nat.mul_le_mul_right _ e4
    have ea : A = some ⟨g, o, none⟩ := by injection e1
    refine ⟨g, o, cur, fz, ea, e3, ef.to, by omega, by rw [List.length_set]; exact h3, .inr ⟨g, o, cap, _, fz, e1, setRow_heap w g cur _ e _ e3, ef.size (by simp; omega), e4, by simp; omega, ?_⟩⟩
    have hc : cur.toList.length = cur.size := Array.length_toList
    rw [← e7]
    apply List.ext_getElem?
    intro j
    simp only [List.getElem?_take, List.getElem?_drop, List.getElem?_set, List.length_take, List.length_drop, hc, List.append_assoc]
    by_cases hj : j < n * sz
    · rw [if_pos hj, List.getElem?_append]
      simp only [List.length_take, hc]
      by_cases h1 : o + j < o + p
      · rw [if_pos (by omega), List.getElem?_take, if_pos (by omega), if_neg (by omega), if_pos hj]
      · rw [if_neg (by omega)]
        by_cases h2 : p = j
        · subst h2
          rw [if_pos rfl, if_pos (by omega)]
          have : o + p - min (o + p) cur.size = 0 := by omega
          rw [this]
          rfl
        · rw [if_neg h2, if_pos hj]
          have : o + j - min (o + p) cur.size = (j - p - 1) + 1 := by omega
          rw [this, List.singleton_append, List.getElem?_cons_succ, List.getElem?_drop]
          congr 1
          omega
    · rw [if_neg hj]
      by_cases h2 : p = j
      · omega
      · rw [if_neg h2, if_neg hj]
/-- A cell of a deep row is stored; the row that is stored is taken in. -/
theorem HS.storeD (h : HS w0 X M ι ob w) {r e : Nat} {t : Ty} {l : List t.den} {hh : Option (Nat × Nat × Nat)} (hr : ob r = some (.deep e t l hh)) {i off : Nat} {y z : t.den} (hy : l[i]? = some y) {obz : Ob} {va : AV} (hz : Ty.put obz t y off [va] = some z)
    {xs xs0 : List Value} {u : Value} (h1 : OwnAt w e t.size (.slice (ι r).a l.length (ι r).c) l.length xs) (h2 : RepDL w t l xs0 (ι r).bs) (h3 : (ι r).blks.Nodup) (hxs : xs0.set (i * t.size + off) u = xs.set (i * t.size + off) u) (hlen : xs0.length = xs.length)
    {w' : World} {qb ids : List Nat} (hva : ∀ (t0 : Ty) (x0 : t0.den), ofAV obz t0 va = some x0 → RepD w' t0 x0 [u] qb) (hqn : qb.Nodup) (hqb : ∀ b ∈ qb, ∃ q ∈ ids, ∃ o, ob q = some o ∧ Wr o ∧ Blk (ι q) o b)
    (hids : ∀ q ∈ ids, q ≠ r ∧ ∃ o, ob q = some o) (hsz : w'.heap.size = w.heap.size) (e1 : w'.os = w.os) (e2 : w'.tape = w.tape) (e3 : w'.output = w.output) (hheap : ∀ b, (∀ ad, (ι r).a = some ad → ad.block ≠ b) → w'.heap[b]? = w.heap[b]?)
    (hnew : OwnAt w' e t.size (.slice (ι r).a l.length (ι r).c) l.length (xs.set (i * t.size + off) u)) :
    ∃ ι', HS w0 X M ι' (updL ob (deads ids ++ [(r, .deep e t (l.set i z) none)])) w' ∧ Keeps ι ι' ob (updL ob (deads ids ++ [(r, .deep e t (l.set i z) none)])) := by
  have dl := updL_deads
  let ob' := updL ob (deads ids ++ [(r, .deep e t (l.set i z) none)])
  have hob' : ob' = upd (updL ob (deads ids)) r (some (.deep e t (l.set i z) none)) := by simp only [ob', updL_append, updL]
  have ob'r : ob' r = some (.deep e t (l.set i z) none) := by rw [hob', upd_same]
  have ob'd : ∀ j, j ∈ ids → ob' j = some .dead := fun j hj => by rw [hob', upd_ne _ _ _ _ (hids j hj).1, dl, if_pos hj]
  have ob'o : ∀ j, j ≠ r → j ∉ ids → ob' j = ob j := fun j k1 k2 => by rw [hob', upd_ne _ _ _ _ k1, dl, if_neg k2]
  have hg : ∀ b ∈ (ι r).bs, w'.heap[b]? = w.heap[b]? := fun b hb => hheap b fun ad ha hab => by
    have : ((ι r).a.toList.map Addr.block ++ (ι r).bs).Nodup := h3
    exact (List.nodup_append.1 this).2.2 ad.block (by rw [ha]; simp) b hb hab
  obtain ⟨ba, bo, bb, f1, _, k⟩ := RepDL.put1 hva (h2.keep hg) hy hz
  rw [hxs] at k
  let J : In := ⟨(ι r).a, (ι r).c, ba ++ (qb ++ bb)⟩
  have hqr : ∀ b ∈ qb, b ∉ (ι r).blks := fun b hb hb' => by
    obtain ⟨q, hq, o, q1, q2, q3⟩ := hqb b hb
    exact (hids q hq).1 (h.sep q r o _ b q1 hr q2 trivial q3 hb')
  have hJ : ∀ b, b ∈ J.blks → b ∈ (ι r).blks ∨ b ∈ qb := fun b hb => by
    rw [mem_blks]
    rcases mem_blks.1 hb with hb | hb
    · exact .inl (.inl hb)
    · simp only [J, List.mem_append] at hb
      rw [f1]
      simp only [List.mem_append]
      rcases hb with hb | hb | hb
      · exact .inl (.inr (.inl hb))
      · exact .inr hb
      · exact .inl (.inr (.inr (.inr hb)))
  have hJn : J.blks.Nodup := by
    have hp : J.blks.Perm (qb ++ ((ι r).a.toList.map Addr.block ++ (ba ++ bb))) := List.perm_iff_count.2 fun b => by
      simp only [J, In.blks, List.count_append]
      omega
    have hs : ((ι r).a.toList.map Addr.block ++ (ba ++ bb)).Sublist (ι r).blks := by
      unfold In.blks
      rw [f1]
      exact List.Sublist.append (List.Sublist.refl _) (List.Sublist.append (List.Sublist.refl _) (List.sublist_append_right _ _))
    rw [hp.nodup_iff]
    exact List.nodup_append.2 ⟨hqn, hs.nodup h3, fun a ha b hb k => hqr a ha (k ▸ hs.subset hb)⟩
  have hk : Keeps ι (upd ι r J) ob ob' := fun j o ho => by
    by_cases n1 : j = r
    · subst n1
      rw [hr] at ho
      cases ho
      exact ⟨_, ob'r, ⟨rfl, rfl, by simp⟩, by rw [upd_same], by rw [upd_same]⟩
    · by_cases n2 : j ∈ ids
      · exact ⟨_, ob'd j n2, (by cases o <;> trivial), by rw [upd_ne _ _ _ _ n1], by rw [upd_ne _ _ _ _ n1]⟩
      · exact ⟨o, by rw [ob'o j n1 n2]; exact ho, Sh.refl _, by rw [upd_ne _ _ _ _ n1], by rw [upd_ne _ _ _ _ n1]⟩
  have was : ∀ j o b, ob' j = some o → Wr o → Blk (upd ι r J j) o b → (j ≠ r ∧ j ∉ ids ∧ ob j = some o ∧ Blk (ι j) o b) ∨ (j = r ∧ (b ∈ (ι r).blks ∨ b ∈ qb)) := by
    intro j o b hj hw hb
    by_cases n1 : j = r
    · subst n1
      rw [ob'r] at hj
      cases hj
      rw [upd_same] at hb
      exact .inr ⟨rfl, hJ b hb⟩
    · by_cases n2 : j ∈ ids
      · rw [ob'd j n2] at hj; cases hj; exact hw.elim
      · rw [ob'o j n1 n2] at hj
        rw [upd_ne _ _ _ _ n1] at hb
        exact .inl ⟨n1, n2, hj, hb⟩
  have hW0 : ∀ b, b < w.heap.size → ¬ W ι ob b → w'.heap[b]? = w.heap[b]? := fun b _ hb => hheap b fun ad ha k => hb ⟨r, _, hr, trivial, k ▸ Blk.main ha⟩
  refine ⟨upd ι r J, h.step0 (h.fr_step e1 e2 e3 (by omega) hW0) (by omega) hW0 hk ?_ ?_ ?_, hk⟩
  · rintro b ⟨j, o, q1, q2, q3⟩
    rcases was j o b q1 q2 q3 with ⟨_, _, k1, k2⟩ | ⟨_, k1 | k1⟩
    · exact .inl ⟨j, o, k1, q2, k2⟩
    · exact .inl ⟨r, _, hr, trivial, k1⟩
    · obtain ⟨q, _, o', p1, p2, p3⟩ := hqb b k1
      exact .inl ⟨q, o', p1, p2, p3⟩
  · intro j j' o o' b a1 a2 a3 a4 a5 a6
    rcases was j o b a1 a3 a5 with ⟨n1, n2, k1, k2⟩ | ⟨n1, k1⟩ <;> rcases was j' o' b a2 a4 a6 with ⟨m1, m2, p1, p2⟩ | ⟨m1, p1⟩
    · exact h.sep j j' o o' b k1 p1 a3 a4 k2 p2
    · rcases p1 with p1 | p1
      · exact (n1 (h.sep j r o _ b k1 hr a3 trivial k2 p1)).elim
      · obtain ⟨q, hq, o2, s1, s2, s3⟩ := hqb b p1
        exact (n2 (h.sep j q o o2 b k1 s1 a3 s2 k2 s3 ▸ hq)).elim
    · rcases k1 with k1 | k1
      · exact (m1 (h.sep j' r o' _ b p1 hr a4 trivial p2 k1)).elim
      · obtain ⟨q, hq, o2, s1, s2, s3⟩ := hqb b k1
        exact (m2 (h.sep j' q o' o2 b p1 s1 a4 s2 p2 s3 ▸ hq)).elim
    · rw [n1, m1]
  · intro hN j o ho
    change ob' j = some o at ho
    by_cases n1 : j = r
    · subst n1
      rw [ob'r] at ho
      cases ho
      right
      simp only [RepO, upd_same]
      exact ⟨_, by simpa using hnew, k, hJn⟩
    · by_cases n2 : j ∈ ids
      · rw [ob'd j n2] at ho; cases ho; exact .inr trivial
      · rw [ob'o j n1 n2] at ho
        exact .inl ⟨ho, upd_ne _ _ _ _ n1, fun hw b hb => hheap b fun ad ha k => n1 (h.sep j r o _ b ho hr hw trivial hb (k ▸ Blk.main ha))⟩
theorem takeBack_spec (h : HS w0 X M ι ob w) {r : Nat} {wb : List (Nat × Obj)} (hb : takeBack ob r = some wb) : ∃ ι', HS w0 X M ι' (updL ob wb) w ∧ Keeps ι ι' ob (updL ob wb) ∧ ∀ j, ob j = none → updL ob wb j = none := by
  unfold takeBack at hb
  split at hb
  · rename_i e t l i off q hr
    obtain ⟨y, hy, hb⟩ := Option.bind_eq_some_iff.1 hb
    obtain ⟨z, hz, hb⟩ := Option.bind_eq_some_iff.1 hb
    split at hb
    · rename_i e' t' x hq
      obtain ⟨hp, hb⟩ : _ ∧ _ := by
        cases hpl : t'.plain with
        | true => rw [hpl] at hb; exact ⟨hpl, hb⟩
        | false => rw [hpl] at hb; cases hb
      simp only [hp, cond_true, Option.some.injEq] at hb
      subst hb
      obtain ⟨ι', k1, k2⟩ := h.back hr hy hz hq hp
      refine ⟨ι', k1, k2, fun j hj => ?_⟩
      simp only [updL]
      rw [upd_ne _ _ _ _ (fun e => by subst e; rw [hq] at hj; cases hj), upd_ne _ _ _ _ (fun e => by subst e; rw [hr] at hj; cases hj)]
      exact hj
    · cases hb
  · cases hb
    exact ⟨ι, h, Keeps.refl _ _, fun _ h => h⟩
end
section
variable {P : Program} {w0 : World} {X M : Nat → Prop} {ι : Nat → In} {s : DS} {a : Act} {w : World}
theorem RepL.drop {N : Nat → Prop} {t : Ty} : ∀ {l : List t.den} {cs : List Value} (n : Nat), RepL w N t l cs → RepL w N t (l.drop n) (cs.drop (n * t.size))
  | l, cs, 0, h => by simpa using h
  | [], cs, n + 1, h => by simp only [RepL] at h; subst h; simp [RepL]
  | x :: r, cs, n + 1, h => by
    simp only [RepL] at h
    obtain ⟨c1, c2, rfl, h1, h2⟩ := h
    have l1 := RepC.len h1
    have e : (n + 1) * t.size = c1.length + n * t.size := by rw [l1, Nat.add_mul]; omega
    have e2 : (c1 ++ c2).drop (c1.length + n * t.size) = c2.drop (n * t.size) := by rw [← List.drop_drop, List.drop_left]
    rw [e, e2]
    exact RepL.drop n h2
/-- A part of a row of the call's own is a row of the call's own. -/
theorem own_cut {N : Nat → Prop} {e : Nat} {t : Ty} {l : List t.den} {xs : List Value} {A0 A : Option Addr} {c off n : Nat} (k1 : OwnAt w e t.size (.slice A0 l.length c) l.length xs) (k2 : RepL w N t l xs) (hle : off + n ≤ l.length)
    (hA : off < c ∨ off = 0 → A = A0.map (·.add (off * t.size))) (hA0 : c ≤ off → A = A0) : Own w N e t ((l.drop off).take n) A (c - off) := by
  have hlen : ((l.drop off).take n).length = n := by simp; omega
  refine ⟨(xs.drop (off * t.size)).take (n * t.size), ?_, RepL.take n (RepL.drop off k2)⟩
  have lx := RepL.len k2
  have hmul : off * t.size + n * t.size ≤ l.length * t.size := by rw [← Nat.add_mul]; exact Nat.mul_le_mul_right _ hle
  rw [hlen]
  refine ⟨by simp; omega, ?_⟩
  rcases k1.2 with ⟨e1, e2⟩ | ⟨g, o, cap, cur, fz, e1, e3, ef, e4, e6, e7⟩
  · injection e1 with e1 e8 e9
    subst e1 e9
    have h0 : n = 0 := by omega
    subst h0
    rw [hA0 (Nat.zero_le _)]
    exact .inl ⟨by simp, rfl⟩
  · injection e1 with e1 e8 e9
    subst e1 e9
    by_cases hc : off < c
    · have hA' := hA (.inl hc)
      subst hA'
      refine .inr ⟨g, o + off * t.size, c - off, cur, fz, by simp [Addr.add_mid], e3, ef, by omega, ?_, ?_⟩
      · rw [Nat.sub_mul]
        have := Nat.mul_le_mul_right t.size (Nat.le_of_lt hc)
        omega
      · rw [← e7, List.drop_take, List.drop_drop, List.take_take, Nat.min_eq_left (by omega)]
    · have h0 : n = 0 := by omega
      subst h0
      rw [hA0 (by omega)]
      exact .inr ⟨g, o, c - off, cur, fz, rfl, e3, ef, Nat.zero_le _, by rw [Nat.sub_eq_zero_of_le (by omega)]; omega, by simp⟩
/-- What is told of a value that a deep row takes in. -/
theorem take_val {ob : Ob} (h : HS w0 X M ι ob w) {r : Nat} {va : AV} (hk : takeOk ob r va = true) {u : Value} (hu : RepAV ι ob va u) {o0 : Obj} (hr : ob r = some o0) (hw0 : Wr o0) {w' : World} (hheap : ∀ b, (∀ ad, (ι r).a = some ad → ad.block ≠ b) → w'.heap[b]? = w.heap[b]?) :
    ∃ qb : List Nat, (∀ (t0 : Ty) (x0 : t0.den), ofAV ob t0 va = some x0 → RepD w' t0 x0 [u] qb) ∧ qb.Nodup ∧ (∀ b ∈ qb, ∃ q ∈ va.ids, ∃ o, ob q = some o ∧ Wr o ∧ Blk (ι q) o b) ∧ ∀ q ∈ va.ids, q ≠ r ∧ ∃ o, ob q = some o := by
  have nb : ∀ (A : Option Addr), (A.toList.map Addr.block).Nodup := fun A => by cases A <;> simp
  have mb : ∀ (A : Option Addr) (b : Nat), b ∈ A.toList.map Addr.block → ∃ ad, A = some ad ∧ ad.block = b := fun A b hb => by cases A <;> simp at hb ⊢; exact hb.symm
  have hne : ∀ {q : Nat} {x : Bool}, (!(Nat.beq q r) && x) = true → q ≠ r ∧ x = true := fun {q x} hq => by
    simp only [Bool.and_eq_true, Bool.not_eq_true'] at hq
    exact ⟨fun e => by rw [e] at hq; simp at hq, hq.2⟩
  -- a row's blocks stay as they were
  have stay : ∀ {q e' : Nat} {t' : Ty} {x : List t'.den}, q ≠ r → ob q = some (.row e' t' true x) → ∀ ad, (ι q).a = some ad → w'.heap[ad.block]? = w.heap[ad.block]? := fun hq ho ad ha => hheap _ fun ad' ha' k => hq (h.sep _ r _ o0 ad.block ho hr trivial hw0 (Blk.main ha) (k ▸ Blk.main ha'))
  cases va with
  | undef => cases hk
  | bptr => cases hk
  | eptr => cases hk
  | fn => cases hk
  | int k n =>
    simp only [RepAV] at hu
    subst hu
    refine ⟨[], fun t0 x0 h0 => ?_, List.nodup_nil, by simp, by simp [AV.ids]⟩
    cases t0 <;> simp only [ofAV] at h0 <;> try (cases h0; done)
    split at h0
    · rename_i hk; subst hk; cases h0; simp [RepD]
    · cases h0
  | bool b =>
    simp only [RepAV] at hu
    subst hu
    refine ⟨[], fun t0 x0 h0 => ?_, List.nodup_nil, by simp, by simp [AV.ids]⟩
    cases t0 <;> simp only [ofAV] at h0 <;> try (cases h0; done)
    cases h0; simp [RepD]
  | str b =>
    simp only [RepAV] at hu
    subst hu
    refine ⟨[], fun t0 x0 h0 => ?_, List.nodup_nil, by simp, by simp [AV.ids]⟩
    cases t0 <;> simp only [ofAV] at h0 <;> try (cases h0; done)
    cases h0; simp [RepD]
  | nils =>
    simp only [RepAV] at hu
    subst hu
    exact ⟨[], fun t0 x0 h0 => ofAV_nils h0, List.nodup_nil, by simp, by simp [AV.ids]⟩
  | whole q =>
    obtain ⟨hq, hk⟩ := hne hk
    split at hk
    · rename_i e' t' x ho
      have hv := whole_of (s := ⟨fun _ => .at .undef, ob⟩) hu ho
      have hown : Own w' (fun _ => False) e' t' x (ι q).a (ι q).c := (Own.plainF hk (h.obs q _ ho)).keepF (stay hq ho)
      refine ⟨(ι q).a.toList.map Addr.block, fun t0 x0 h0 => ?_, nb _, fun b hb => ⟨q, by simp [AV.ids], _, ho, trivial, mb _ _ hb⟩, fun q' hq' => ?_⟩
      · have := ofAV_row ho h0
        cases this
        simp only [RepD]
        exact ⟨_, _, by rw [hv], hown, rfl⟩
      · simp only [AV.ids, List.mem_singleton] at hq'
        subst hq'
        exact ⟨hq, _, ho⟩
    · cases hk
  | cut q off n =>
    obtain ⟨hq, hk⟩ := hne hk
    split at hk
    · rename_i e' t' x ho
      obtain ⟨hle, A, hv, hA, hA0⟩ := cut_of (s := ⟨fun _ => .at .undef, ob⟩) hu ho
      obtain ⟨xs, k1, k2⟩ := (Own.plainF (N' := fun _ => False) hk (h.obs q _ ho)).keepF (stay hq ho)
      have hown := own_cut k1 k2 hle hA hA0
      have hblk : ∀ ad, A = some ad → ∃ ad0, (ι q).a = some ad0 ∧ ad0.block = ad.block := fun ad ha => by
        by_cases hc : off < (ι q).c
        · rw [hA (.inl hc)] at ha
          cases h0 : (ι q).a with
          | none => rw [h0] at ha; cases ha
          | some ad0 => rw [h0] at ha; cases ha; exact ⟨ad0, rfl, (add_block _ _).symm⟩
        · rw [hA0 (by omega)] at ha; exact ⟨ad, ha, rfl⟩
      refine ⟨A.toList.map Addr.block, fun t0 x0 h0 => ?_, nb _, fun b hb => ?_, fun q' hq' => ?_⟩
      · have hlen : ((x.drop off).take n).length = n := by simp; omega
        cases t0 <;> simp only [ofAV, ho] at h0 <;> try (cases h0; done)
        split at h0
        · rename_i hh
          obtain ⟨rfl, rfl⟩ := hh
          cases h0
          simp only [RepD]
          exact ⟨A, (ι q).c - off, by rw [hv]; simp only [castL]; rw [hlen], hown, rfl⟩
        · cases h0
      · obtain ⟨ad, ha, rfl⟩ := mb _ _ hb
        obtain ⟨ad0, a1, a2⟩ := hblk ad ha
        exact ⟨q, by simp [AV.ids], _, ho, trivial, a2 ▸ Blk.main a1⟩
      · simp only [AV.ids, List.mem_singleton] at hq'
        subst hq'
        exact ⟨hq, _, ho⟩
    · cases hk
theorem put_lt {ob : Ob} {va : AV} : ∀ {t : Ty} {y z : t.den} {off : Nat}, Ty.put ob t y off [va] = some z → off < t.size := by
  intro t
  induction t with
  | unit => intro y z off h; cases off <;> cases h
  | int k => intro y z off h; cases off with
    | zero => exact Nat.zero_lt_one
    | succ _ => cases h
  | bool => intro y z off h; cases off with
    | zero => exact Nat.zero_lt_one
    | succ _ => cases h
  | str => intro y z off h; cases off with
    | zero => exact Nat.zero_lt_one
    | succ _ => cases h
  | sl e t _ => intro y z off h; cases off with
    | zero => exact Nat.zero_lt_one
    | succ _ => cases h
  | two a b iha ihb =>
    intro y z off h
    have hs : (Ty.two a b).size = a.size + b.size := rfl
    cases off with
    | zero =>
      simp only [Ty.put] at h
      obtain ⟨y', h3, _⟩ := Option.bind_eq_some_iff.1 h
      have := ofAV_size h3
      omega
    | succ j =>
      simp only [Ty.put] at h
      split at h
      · obtain ⟨z2, h3, _⟩ := Option.bind_eq_some_iff.1 h
        have := ihb h3
        omega
      · cases h
theorem op_store_core (ht : TS ι s a) (t : Nat) (ti : TI) (hti : TIok P t ti) (x y : Operand) (r i off : Nat) (hx : ev s x = .at (.eptr r i off)) {e0 : Nat} {t0 : Ty} {l0 : List t0.den} {h0 : Option (Nat × Nat × Nat)} (hr : s.ob r = some (.deep e0 t0 l0 h0))
    {va : AV} (hc : (ev s y).cells = some [va]) (hsz : ti.sz = 1) (hok : va.ok = true) {wb : List (Nat × Obj)} {ι1 : Nat → In} (b1 : HS w0 X M ι1 (updL s.ob wb) w) (b2 : Keeps ι ι1 s.ob (updL s.ob wb)) {e : Nat} {rt : Ty} {l : List rt.den} {hh : Option (Nat × Nat × Nat)}
    (hr1 : updL s.ob wb r = some (.deep e rt l hh)) (hhole : hh = none ∨ ∃ q0, hh = some (i, off, q0)) {y0 z : rt.den} (hy : l[i]? = some y0) (hz : Ty.put (updL s.ob wb) rt y0 off [va] = some z) (htk : takeOk (updL s.ob wb) r va = true) (tc : List Nat) (ty : TypeId) :
    Does P (.store t x y) ty a.eval w (Post w0 X M ι s ⟨.at .undef, wb ++ (deads va.ids ++ [(r, .deep e rt (l.set i z) none)]), tc⟩) := by
  obtain ⟨hi, ad, h1, hsp, h2⟩ := eptr_sh (ev_at ht hx) hr rfl
  obtain ⟨o', k1, k2, k3⟩ := b2 r _ hr
  rw [hr1] at k1
  cases k1
  obtain ⟨rfl, rfl, hll⟩ := k2
  obtain ⟨us, u1, u2⟩ := RepDV.cells (RepDV.ev ht y) hc
  have lu := All2.len u2
  obtain ⟨u, rfl⟩ := List.length_eq_one_iff.1 lu.symm
  have hu := RepAV.mono b2 u2.1
  have ha1 : (ι1 r).a = some ad := by rw [k3.1, h1]
  have hplt := put_lt hz
  have hi' := (List.getElem?_eq_some_iff.1 hy).1
  have hm : i * t0.size + off < l.length * t0.size := by
    have := Nat.mul_le_mul_right t0.size (by omega : i + 1 ≤ l.length)
    rw [Nat.add_mul] at this
    omega
  obtain ⟨xs, xs0, q1, q2, q3, q4, q5⟩ : ∃ xs xs0, OwnAt w e0 t0.size (.slice (ι1 r).a l.length (ι1 r).c) l.length xs ∧ RepDL w t0 l xs0 (ι1 r).bs ∧ (ι1 r).blks.Nodup ∧ xs0.set (i * t0.size + off) u = xs.set (i * t0.size + off) u ∧ xs0.length = xs.length := by
    have ho := b1.obs r _ hr1
    rcases hhole with rfl | ⟨q0, rfl⟩
    · obtain ⟨xs, m1, m2, m3⟩ := ho
      exact ⟨xs, xs, m1, m2, m3, rfl, rfl⟩
    · obtain ⟨xs, v, m1, m2, m3, _⟩ := ho
      exact ⟨xs, _, m1, m2, m3, List.set_set _, by simp⟩
  have hxl : xs.length = l.length * t0.size := q1.1
  obtain ⟨g, o, cur, fz, g1, g2, g3, g4, g5⟩ := q1.set1 (p := i * t0.size + off) (by omega) u
  rw [ha1] at g1
  cases g1
  have hheap : ∀ b, (∀ ad, (ι1 r).a = some ad → ad.block ≠ b) → (w.setRow g (cur.toList.take (o + (i * t0.size + off)) ++ [u] ++ cur.toList.drop (o + (i * t0.size + off) + 1)).toArray).heap[b]? = w.heap[b]? := fun b hb => setRow_heap_ne _ (hb _ ha1)
  obtain ⟨qb, v1, v2, v3, v4⟩ := take_val b1 htk hu hr1 trivial hheap
  obtain ⟨ι2, n1, n2⟩ := b1.storeD hr1 hy hz q1 q2 q3 q4 q5 v1 v2 v3 v4 (setRow_size _) rfl rfl rfl hheap g5
  have hst := run_storeCells_fz P g (o + (i * t0.size + off)) e0 fz [u] 0 cur w g2 g3 (by simp; omega) (All2.one (by simp [hok]) u2)
  simp only [Nat.add_zero, List.length_singleton] at hst
  rw [Addr.add_mid] at h2
  refine Does.skip (fun _ _ _ _ => ?_) ?_ (w' := w.setRow g (cur.toList.take (o + (i * t0.size + off)) ++ [u] ++ cur.toList.drop (o + (i * t0.size + off) + 1)).toArray)
  · simp only [execOp, h2, Instr.storeAt, Instr.sureAddr, Sem.run_bind, Sem.run_pure, Result.andThen_ok, storeVar, run_sizeOf hti, u1]
    have : ([u].toArray.size ≠ ti.sz) = False := by rw [hsz]; simp
    simp only [this, if_false]
    rw [hst]
    rfl
  · refine ⟨ι2, ?_, ?_, trivial⟩
    · rw [updL_append]; exact n1
    · rw [updL_append]; exact b2.trans n2
theorem deep_addr (hs : HS w0 X M ι s.ob w) {r e : Nat} {t : Ty} {l : List t.den} {h : Option (Nat × Nat × Nat)} (hr : s.ob r = some (.deep e t l h)) (hl : 0 < l.length) : ∃ ad, (ι r).a = some ad ∧ ad.spot = none := by
  have ho := hs.obs r _ hr
  have key : ∀ xs, OwnAt w e t.size (.slice (ι r).a l.length (ι r).c) l.length xs → ∃ ad, (ι r).a = some ad ∧ ad.spot = none := by
    rintro xs ⟨_, h4⟩
    rcases h4 with ⟨_, h5⟩ | ⟨g, o, cap, cur, fz, e1, _⟩
    · omega
    · exact ⟨⟨g, o, none⟩, by injection e1, rfl⟩
  cases h with
  | none => obtain ⟨xs, h1, _⟩ := ho; exact key xs h1
  | some p => obtain ⟨i, off, q⟩ := p; obtain ⟨xs, v, h1, _⟩ := ho; exact key xs h1
theorem op_indexAddr_deep {cx : Cx} (htt : TTok P cx.tt) (hs : HS w0 X M ι s.ob w) (ht : TS ι s a) (t z : Nat) (hz : szE cx t = some z) (x i : Operand) (r : Nat) (hx : ev s x = .at (.whole r)) (k : IntKind) (n : Int) (hi : ev s i = .at (.int k n)) {e : Nat} {rt : Ty} {l : List rt.den} {h : Option (Nat × Nat × Nat)} (hr : s.ob r = some (.deep e rt l h)) (hsz : rt.size = z)
    (h0 : 0 ≤ n) (h1 : n < l.length) (tc : List Nat) (ty : TypeId) :
    Does P (.indexAddr t x i) ty a.eval w (Post w0 X M ι s ⟨.at (.eptr r n.toNat 0), [], tc⟩) := by
  have h2 : a.eval i = .int k n := ev_at ht hi
  obtain ⟨_, o', ho', hv⟩ := (ev_at ht hx : RepAV ι s.ob (.whole r) (a.eval x))
  rw [hr] at ho'
  cases ho'
  have hv := hv _ _ rfl
  unfold szE at hz
  obtain ⟨ti, q1, hz⟩ := Option.bind_eq_some_iff.1 hz
  split at hz
  · rename_i e' hk
    obtain ⟨te, q2, hz⟩ := Option.bind_eq_some_iff.1 hz
    cases hz
    have hu := (htt _ _ q1).und
    rw [hk] at hu
    obtain ⟨ad, k1, k2⟩ := deep_addr hs hr (by omega)
    refine Does.value (v := .pointer (some (ad.add (n.toNat * rt.size)))) (w' := w) (fun _ _ _ _ => ?_) (Post.same hs (d := .at (.eptr r n.toNat 0)) ⟨rfl, _, hr, fun t' m he => ?_⟩ tc)
    · simp only [execOp, hv, h2, k1, Instr.indexAt, run_underlying hu, asIntOf, Sem.run_bind, Sem.run_pure, Result.andThen_ok]
      rw [if_pos ⟨h0, h1⟩]
      simp [run_sizeOf (htt _ _ q2), ← hsz]
    · cases he; exact ⟨by omega, ad, k1, k2, rfl⟩
  · cases hz
theorem op_load_deep (hs : HS w0 X M ι s.ob w) (ht : TS ι s a) (t : Nat) (ti : TI) (hti : TIok P t ti) (x : Operand) (r i off : Nat) (hx : ev s x = .at (.eptr r i off)) {e0 : Nat} {t0 : Ty} {l0 : List t0.den} {h0 : Option (Nat × Nat × Nat)} (hr : s.ob r = some (.deep e0 t0 l0 h0))
    (hsz : ti.sz = 1) (hag : ti.agg = false) {wb : List (Nat × Obj)} (hb : takeBack s.ob r = some wb) {e : Nat} {rt : Ty} {l : List rt.den} (hr1 : updL s.ob wb r = some (.deep e rt l none)) {y z : rt.den} (hy : l[i]? = some y) {e' : Nat} {t' : Ty} {q : List t'.den} (hc : (Ty.cells rt y)[off]? = some ⟨.sl e' t', q⟩)
    (hz : Ty.put s.ob rt y off [.nils] = some z) (id : Nat) (hid : s.ob id = none) (tc : List Nat) (ty : TypeId) :
    Does P (.load t x) ty a.eval w (Post w0 X M ι s ⟨.at (.whole id), wb ++ [(r, .deep e rt (l.set i z) (some (i, off, id))), (id, .row e' t' true q)], tc⟩) := by
  obtain ⟨hi, ad, h1, hsp, h2⟩ := eptr_sh (ev_at ht hx) hr rfl
  obtain ⟨ι1, b1, b2, b3⟩ := takeBack_spec hs hb
  obtain ⟨o', k1, k2, k3⟩ := b2 r _ hr
  rw [hr1] at k1
  cases k1
  obtain ⟨rfl, rfl, _⟩ := k2
  obtain ⟨A, c, ad', ⟨c1, c2, c3⟩, ι2, d1, d2, d3⟩ := b1.lend hr1 hy hz hc (b3 id hid)
  rw [k3.1, h1] at c1
  cases c1
  have hrun := run_loadVar' (P := P) (w := w) hti (ad.add (i * t0.size + off)) [.slice A q.length c] (by rw [hsz]; rfl) (fun j u hj => by
    cases j with
    | zero => simp at hj; subst hj; rw [add_add _ _ _ hsp]; exact c3
    | succ j => simp at hj)
  refine Does.value (v := .slice A q.length c) (w' := w) (fun _ _ _ _ => ?_) ⟨ι2, ?_, ?_, ?_⟩
  · simp only [execOp, h2, Instr.loadAt, Instr.sureAddr, Sem.run_bind, Sem.run_pure, Result.andThen_ok, hrun, hag]
    rfl
  · simp only [updL_append, updL]; exact d1
  · simp only [updL_append, updL]; exact b2.trans d2
  · simp only [updL_append, updL]
    refine ⟨rfl, _, upd_same _ _ _, fun t m he => ?_⟩
    cases he
    rw [d3]
/-- What an append comes to, told of the cells alone. -/
theorem run_appendV (t ty e : Nat) (ti te : TI) (hti : TIok P t ti) (hk : ti.k = .sl e) (hte : TIok P e te) (v : Value) (n : Nat) (xs : List Value) (hown : OwnAt w e te.sz v n xs) (m : Nat) (news : List Value) (A : Option Addr) (c : Nat) (hl1 : news.length = m * te.sz)
    (hsrc : m ≠ 0 → ∃ ad, A = some ad ∧ ∀ j u, news[j]? = some u → w.cell? (ad.add j) = some u) (h1c : ∀ u ∈ news, u.oneCell' = true) (hb : (n + m) * te.bytes ≤ 140737488355328) :
    ∃ v' w', (Builtin.append_ #[t, t] ty #[v, .slice A m c]).run P w = .ok v' w' ∧ OwnAt w' e te.sz v' (n + m) (xs ++ news) ∧ w.grownBy w' v.ownBlock ∧ (v'.ownBlock = v.ownBlock ∨ v'.ownBlock = some w.heap.size) := by
  have hu := hti.und
  rw [hk] at hu
  obtain ⟨i, z, i1, i2, i3, i4, i5, i6⟩ := hte.info
  have hzs : z.cells.size = te.sz := by rw [← hte.zl, ← i5]; simp
  have h63 : n + m ≤ maxLen := by
    have := Nat.le_mul_of_pos_right (n + m) hte.bpos
    rw [maxLen_pos]; omega
  by_cases hq : m = 0
  · subst hq
    obtain rfl : news = [] := List.eq_nil_of_length_eq_zero (by rw [hl1]; simp)
    refine ⟨v, w, ?_, by simpa using hown, grownBy_refl w _, .inl rfl⟩
    rcases hown.2 with ⟨rfl, rfl⟩ | ⟨g, o, cap, cur, fz, rfl, _, _, hnc, _⟩
    · cases A <;> simp [Builtin.append_, run_underlying hu, sizeOf, typeInfo, i1, Builtin.lenOf, Builtin.firstCells, loadCells, loadCellsFrom]
    · cases A <;> simp [Builtin.append_, run_underlying hu, sizeOf, typeInfo, i1, Builtin.lenOf, Builtin.firstCells, hnc, storeCells, loadCells, loadCellsFrom]
  · obtain ⟨ad, rfl, h2⟩ := hsrc hq
    rcases hown.2 with ⟨rfl, rfl⟩ | ⟨g, o, cap, cur, fz, rfl, hg, hfz, hnc, hcs, htake⟩
    · have hx : xs = [] := List.eq_nil_of_length_eq_zero (by simpa using hown.1)
      subst hx
      obtain ⟨v', w', k1, k2, k3, _, k5⟩ := run_append_own_at (P := P) w 0 t ty e i z te.sz te.bytes hu i1 i4 i2 i3 hzs hte.pos (.slice none 0 0) 0 [] (World.ownsRow_nil w 0 e te.sz) ad m c news hl1 h2 h1c h63 hb (Nat.zero_le _)
      exact ⟨v', w', k1, OwnAt.of k2, k3, k5⟩
    · have hlen : (xs ++ news).length = (n + m) * te.sz := by rw [List.length_append, hown.1, hl1, Nat.add_mul]
      by_cases hroom : n + m ≤ cap
      · have hm : (n + m) * te.sz ≤ cap * te.sz := Nat.mul_le_mul_right _ hroom
        have hfit : o + n * i.size + news.length ≤ cur.size := by rw [i2, hl1]; rw [Nat.add_mul] at hm; omega
        have hr := run_append_off (P := P) (w := w) t ty e i hu i1 g o n cap cur fz hg hfz.to ad m c news (by rw [i2]; exact hl1) h2 h1c hroom hfit
        have hsz : (cur.toList.take (o + n * i.size) ++ news ++ cur.toList.drop (o + n * i.size + news.length)).toArray.size = cur.size := by simp; omega
        refine ⟨_, _, hr, ⟨hlen, .inr ⟨g, o, cap, _, fz, rfl, setRow_heap w g cur _ e _ hg, hfz.size hsz, hroom, by rw [hsz]; exact hcs, ?_⟩⟩, ⟨rfl, rfl, rfl, by simp, fun k _ hk => setRow_other w g k _ (fun e => hk (by simp [Value.ownBlock, e]))⟩, .inl rfl⟩
        rw [List.toList_toArray, splice_drop _ _ _ _ _ (by simp; omega), i2, htake, ← hlen]
        exact List.take_left
      · have holds : ∀ j u, xs[j]? = some u → w.cell? ((⟨g, o, none⟩ : Addr).add j) = some u := by
          intro j u hu
          rw [Addr.add_mid, cell_of_row w g _ cur e fz hg]
          rw [← htake, List.getElem?_take] at hu
          split at hu
          · simpa using hu
          · cases hu
        have hr := run_append_grow (P := P) w t ty e i z hu i1 i4 ⟨g, o, none⟩ n cap xs (by rw [i2]; exact hown.1) holds ad m c news (by rw [i2]; exact hl1) h2 (by omega) (by rw [maxLen_pos] at h63; omega) (growslice_fits (by omega) (by rw [i3]; exact hb))
        have hge := grownCap_ge w (n + m) cap e
        refine ⟨_, _, hr, ⟨hlen, .inr ⟨w.heap.size, 0, _, _, (0, 0), rfl, heap_alloc_new w.drew _, .inl (Nat.le_refl _), hge, ?_, ?_⟩⟩, ⟨rfl, rfl, rfl, by simp, fun k hk _ => Below.heap_alloc w.drew _ k hk⟩, .inr rfl⟩
        · simp only [Array.size_append, List.size_toArray, size_zeroCells, hzs, hown.1, hl1, ← Nat.add_mul, Nat.zero_add]
          apply Nat.le_of_eq
          congr 1
          omega
        · simp only [Array.toList_append, List.append_assoc, List.drop_zero]
          rw [← List.append_assoc, ← hlen]
          exact List.take_left
theorem RepD.one {w : World} : ∀ {t : Ty} {x : t.den} {cs : List Value} {bs : List Nat}, RepD w t x cs bs → ∀ v ∈ cs, v.oneCell' = true
  | .unit, _, _, _, h => by simp only [RepD] at h; rw [h.1]; simp
  | .int _, _, _, _, h => by simp only [RepD] at h; rw [h.1]; simp [Value.oneCell']
  | .bool, _, _, _, h => by simp only [RepD] at h; rw [h.1]; simp [Value.oneCell']
  | .str, _, _, _, h => by simp only [RepD] at h; rw [h.1]; simp [Value.oneCell']
  | .sl _ _, _, _, _, h => by simp only [RepD] at h; obtain ⟨A, c, h, _⟩ := h; rw [h]; simp [Value.oneCell']
  | .two _ _, _, _, _, h => by
    simp only [RepD] at h
    obtain ⟨c1, c2, b1, b2, ⟨e1, _⟩, h1, h2⟩ := h
    intro v hv
    rw [e1] at hv
    rcases List.mem_append.1 hv with hv | hv
    · exact RepD.one h1 v hv
    · exact RepD.one h2 v hv
theorem RepDL.one {w : World} {t : Ty} : ∀ {l : List t.den} {cs : List Value} {bs : List Nat}, RepDL w t l cs bs → ∀ v ∈ cs, v.oneCell' = true
  | [], _, _, h => by simp only [RepDL] at h; rw [h.1]; simp
  | _ :: _, _, _, h => by
    simp only [RepDL] at h
    obtain ⟨c1, c2, b1, b2, ⟨e1, _⟩, h1, h2⟩ := h
    intro v hv
    rw [e1] at hv
    rcases List.mem_append.1 hv with hv | hv
    · exact h1.one v hv
    · exact RepDL.one h2 v hv
theorem RepDL.append {w : World} {t : Ty} : ∀ {l l' : List t.den} {cs cs' : List Value} {bs bs' : List Nat}, RepDL w t l cs bs → RepDL w t l' cs' bs' → RepDL w t (l ++ l') (cs ++ cs') (bs ++ bs')
  | [], _, _, _, _, _, h, k => by simp only [RepDL] at h; rw [h.1, h.2]; exact k
  | _ :: _, _, _, _, _, _, h, k => by
    simp only [RepDL] at h
    obtain ⟨c1, c2, b1, b2, ⟨e1, e2⟩, h1, h2⟩ := h
    simp only [List.cons_append, RepDL]
    exact ⟨c1, c2 ++ _, b1, b2 ++ _, ⟨by rw [e1, List.append_assoc], by rw [e2, List.append_assoc]⟩, h1, RepDL.append h2 k⟩
/-- A deep row is appended to another. -/
theorem HS.appendD {ob : Ob} (h : HS w0 X M ι ob w) {r r2 id e : Nat} {t : Ty} {l l2 : List t.den} (hne : r ≠ r2) (hr : ob r = some (.deep e t l none)) (hr2 : ob r2 = some (.deep e t l2 none)) (hid : ob id = none)
    {xs xs2 : List Value} (k1 : RepDL w t l xs (ι r).bs) (k2 : RepDL w t l2 xs2 (ι r2).bs) (n1 : (ι r).blks.Nodup) (n2 : (ι r2).blks.Nodup) {v v' : Value} {w' : World} {A' : Option Addr} {c' : Nat} (hv : v = .slice (ι r).a l.length (ι r).c) (hv' : v' = .slice A' (l ++ l2).length c')
    (hown : OwnAt w' e t.size v' (l ++ l2).length (xs ++ xs2)) (hg : w.grownBy w' v.ownBlock) (hb : v'.ownBlock = v.ownBlock ∨ v'.ownBlock = some w.heap.size) :
    ∃ J : In, J.a = A' ∧ J.c = c' ∧ HS w0 X M (upd ι id J) (updL ob [(r, .dead), (r2, .dead), (id, .deep e t (l ++ l2) none)]) w' ∧ Keeps ι (upd ι id J) ob (updL ob [(r, .dead), (r2, .dead), (id, .deep e t (l ++ l2) none)]) := by
  have hnr : id ≠ r := fun e => by rw [e, hr] at hid; cases hid
  have hnr2 : id ≠ r2 := fun e => by rw [e, hr2] at hid; cases hid
  let ob' := updL ob [(r, .dead), (r2, .dead), (id, .deep e t (l ++ l2) none)]
  have ob'i : ob' id = some (.deep e t (l ++ l2) none) := upd_same _ _ _
  have ob'2 : ob' r2 = some .dead := by simp only [ob', updL]; rw [upd_ne _ _ _ _ hnr2.symm, upd_same]
  have ob'1 : ob' r = some .dead := by simp only [ob', updL]; rw [upd_ne _ _ _ _ hnr.symm, upd_ne _ _ _ _ hne, upd_same]
  have ob'o : ∀ j, j ≠ id → j ≠ r → j ≠ r2 → ob' j = ob j := fun j a b c => by simp only [ob', updL]; rw [upd_ne _ _ _ _ a, upd_ne _ _ _ _ c, upd_ne _ _ _ _ b]
  have hob : ∀ b, v.ownBlock = some b → ∃ ad, (ι r).a = some ad ∧ ad.block = b := fun b hb' => by
    rw [hv] at hb'
    cases ha : (ι r).a with
    | none => rw [ha] at hb'; cases hb'
    | some ad => rw [ha] at hb'; exact ⟨ad, rfl, by simpa [Value.ownBlock] using hb'⟩
  have hheap : ∀ b, b < w.heap.size → (∀ ad, (ι r).a = some ad → ad.block ≠ b) → w'.heap[b]? = w.heap[b]? := fun b hb' hn => hg.block b hb' fun k => by
    obtain ⟨ad, h1, h2⟩ := hob b k.symm
    exact hn ad h1 h2
  have hA : ∀ ad, A' = some ad → (∃ ad0, (ι r).a = some ad0 ∧ ad0.block = ad.block) ∨ ad.block = w.heap.size := fun ad ha => by
    rw [hv', ha] at hb
    rcases hb with hb | hb
    · obtain ⟨ad0, h1, h2⟩ := hob ad.block (by simpa [Value.ownBlock] using hb.symm)
      exact .inl ⟨ad0, h1, h2⟩
    · right; simpa [Value.ownBlock] using hb
  have d1 : ∀ ad, (ι r).a = some ad → ad.block ∉ (ι r).bs := fun ad ha hm => (List.nodup_append.1 (show ((ι r).a.toList.map Addr.block ++ (ι r).bs).Nodup from n1)).2.2 ad.block (by rw [ha]; simp) _ hm rfl
  have lt1 : ∀ b ∈ (ι r).blks, b < w.heap.size := fun b hb' => (h.obs r _ hr).lt trivial hb'
  have lt2 : ∀ b ∈ (ι r2).blks, b < w.heap.size := fun b hb' => (h.obs r2 _ hr2).lt trivial hb'
  have dis : ∀ b, b ∈ (ι r).blks → b ∉ (ι r2).blks := fun b h1 h2 => hne (h.sep r r2 _ _ b hr hr2 trivial trivial h1 h2)
  have s1 : ∀ b ∈ (ι r).bs, b ∈ (ι r).blks := fun b hb' => mem_blks.2 (.inr hb')
  have s2 : ∀ b ∈ (ι r2).bs, b ∈ (ι r2).blks := fun b hb' => mem_blks.2 (.inr hb')
  have a1 : ∀ ad, (ι r).a = some ad → ad.block ∈ (ι r).blks := fun ad ha => mem_blks.2 (.inl ⟨ad, ha, rfl⟩)
  have q1 : ∀ b ∈ (ι r).bs, w'.heap[b]? = w.heap[b]? := fun b hb' => hheap b (lt1 b (s1 b hb')) fun ad ha k => d1 ad ha (k ▸ hb')
  have q2 : ∀ b ∈ (ι r2).bs, w'.heap[b]? = w.heap[b]? := fun b hb' => hheap b (lt2 b (s2 b hb')) fun ad ha k => dis b (k ▸ a1 ad ha) (s2 b hb')
  let J : In := ⟨A', c', (ι r).bs ++ (ι r2).bs⟩
  have hJ : ∀ b, b ∈ J.blks → (b ∈ (ι r).blks ∨ b ∈ (ι r2).blks) ∨ b = w.heap.size := fun b hb' => by
    rcases mem_blks.1 hb' with ⟨ad, ha, rfl⟩ | hb'
    · rcases hA ad ha with ⟨ad0, h1, h2⟩ | h1
      · exact .inl (.inl (h2 ▸ a1 ad0 h1))
      · exact .inr h1
    · rcases List.mem_append.1 hb' with hb' | hb'
      · exact .inl (.inl (s1 b hb'))
      · exact .inl (.inr (s2 b hb'))
  have hJn : J.blks.Nodup := by
    unfold In.blks
    have nb : ∀ (A : Option Addr), (A.toList.map Addr.block).Nodup := fun A => by cases A <;> simp
    refine List.nodup_append.2 ⟨nb A', List.nodup_append.2 ⟨(List.nodup_append.1 (show ((ι r).a.toList.map Addr.block ++ (ι r).bs).Nodup from n1)).2.1, (List.nodup_append.1 (show ((ι r2).a.toList.map Addr.block ++ (ι r2).bs).Nodup from n2)).2.1, fun a ha b hb' k => dis a (s1 a ha) (k ▸ s2 b hb')⟩, fun a ha b hb' k => ?_⟩
    subst k
    simp only [J, List.mem_map, Option.mem_toList] at ha
    obtain ⟨ad, ha, rfl⟩ := ha
    simp only [J, List.mem_append] at hb'
    rcases hA ad ha with ⟨ad0, h1, h2⟩ | h1
    · rcases hb' with hb' | hb'
      · exact d1 ad0 h1 (h2 ▸ hb')
      · exact dis _ (h2 ▸ a1 ad0 h1) (s2 _ hb')
    · rcases hb' with hb' | hb'
      · have := lt1 _ (s1 _ hb'); omega
      · have := lt2 _ (s2 _ hb'); omega
  have hk : Keeps ι (upd ι id J) ob ob' := fun j o ho => by
    have hj : j ≠ id := fun e => by rw [e, hid] at ho; cases ho
    refine ⟨if j = r ∨ j = r2 then .dead else o, ?_, ?_, by rw [upd_ne _ _ _ _ hj], by rw [upd_ne _ _ _ _ hj]⟩
    · by_cases c1 : j = r
      · subst c1; rw [if_pos (.inl rfl), ob'1]
      · by_cases c2 : j = r2
        · subst c2; rw [if_pos (.inr rfl), ob'2]
        · rw [if_neg (by simp [c1, c2]), ob'o j hj c1 c2, ho]
    · split
      · cases o <;> trivial
      · exact Sh.refl o
  have was : ∀ j o b, ob' j = some o → Wr o → Blk (upd ι id J j) o b → (j ≠ id ∧ j ≠ r ∧ j ≠ r2 ∧ ob j = some o ∧ Blk (ι j) o b) ∨ (j = id ∧ ((b ∈ (ι r).blks ∨ b ∈ (ι r2).blks) ∨ b = w.heap.size)) := by
    intro j o b hj hw hb'
    by_cases c0 : j = id
    · subst c0
      rw [ob'i] at hj
      cases hj
      rw [upd_same] at hb'
      exact .inr ⟨rfl, hJ b hb'⟩
    · by_cases c1 : j = r
      · subst c1; rw [ob'1] at hj; cases hj; exact hw.elim
      · by_cases c2 : j = r2
        · subst c2; rw [ob'2] at hj; cases hj; exact hw.elim
        · rw [ob'o j c0 c1 c2] at hj
          rw [upd_ne _ _ _ _ c0] at hb'
          exact .inl ⟨c0, c1, c2, hj, hb'⟩
  have hW0 : ∀ b, b < w.heap.size → ¬ W ι ob b → w'.heap[b]? = w.heap[b]? := fun b hb' hn => hheap b hb' fun ad ha k => hn ⟨r, _, hr, trivial, k ▸ Blk.main ha⟩
  refine ⟨J, rfl, rfl, h.step0 (h.fr_step hg.os hg.tape hg.output hg.size hW0) hg.size hW0 hk ?_ ?_ ?_, hk⟩
  · rintro b ⟨j, o, p1, p2, p3⟩
    rcases was j o b p1 p2 p3 with ⟨_, _, _, m1, m2⟩ | ⟨_, (m1 | m1) | m1⟩
    · exact .inl ⟨j, o, m1, p2, m2⟩
    · exact .inl ⟨r, _, hr, trivial, m1⟩
    · exact .inl ⟨r2, _, hr2, trivial, m1⟩
    · exact .inr (by omega)
  · intro j j' o o' b b1 b2 b3 b4 b5 b6
    rcases was j o b b1 b3 b5 with ⟨c0, c1, c2, m1, m2⟩ | ⟨c0, m1⟩ <;> rcases was j' o' b b2 b4 b6 with ⟨e0, e1, e2, p1, p2⟩ | ⟨e0, p1⟩
    · exact h.sep j j' o o' b m1 p1 b3 b4 m2 p2
    · rcases p1 with (p1 | p1) | p1
      · exact (c1 (h.sep j r o _ b m1 hr b3 trivial m2 p1)).elim
      · exact (c2 (h.sep j r2 o _ b m1 hr2 b3 trivial m2 p1)).elim
      · have := (h.obs j o m1).lt b3 m2; omega
    · rcases m1 with (m1 | m1) | m1
      · exact (e1 (h.sep j' r o' _ b p1 hr b4 trivial p2 m1)).elim
      · exact (e2 (h.sep j' r2 o' _ b p1 hr2 b4 trivial p2 m1)).elim
      · have := (h.obs j' o' p1).lt b4 p2; omega
    · rw [c0, e0]
  · intro hN j o ho
    change ob' j = some o at ho
    by_cases c0 : j = id
    · subst c0
      rw [ob'i] at ho
      cases ho
      right
      simp only [RepO, upd_same]
      exact ⟨xs ++ xs2, by rw [← hv']; exact hown, (k1.keep q1).append (k2.keep q2), hJn⟩
    · by_cases c1 : j = r
      · subst c1; rw [ob'1] at ho; cases ho; exact .inr trivial
      · by_cases c2 : j = r2
        · subst c2; rw [ob'2] at ho; cases ho; exact .inr trivial
        · rw [ob'o j c0 c1 c2] at ho
          exact .inl ⟨ho, upd_ne _ _ _ _ c0, fun hw b hb' => hheap b ((h.obs j o ho).lt hw hb') fun ad ha k => c1 (h.sep j r o _ b ho hr hw trivial hb' (k ▸ Blk.main ha))⟩
theorem op_append_deep {cx : Cx} (htt : TTok P cx.tt) (hs : HS w0 X M ι s.ob w) (ht : TS ι s a) (t : Nat) (ti : TI) (hti : TIok P t ti) (e : Nat) (hk : ti.k = .sl e) (te : TI) (hte : TIok P e te) (x y : Operand) (r r2 : Nat) (hx : ev s x = .at (.whole r)) (hy : ev s y = .at (.whole r2))
    (hne : r ≠ r2) (l l2 : List te.ty.den) (hr : s.ob r = some (.deep e te.ty l none)) (hr2 : s.ob r2 = some (.deep e te.ty l2 none)) (id : Nat) (hid : s.ob id = none) (hb : (l ++ l2).length * te.bytes ≤ 140737488355328) (tc : List Nat) (ty : TypeId) :
    Does P (.call ⟨.builtin .append, #[x, y], #[t, t]⟩) ty a.eval w (Post w0 X M ι s ⟨.at (.whole id), [(r, .dead), (r2, .dead), (id, .deep e te.ty (l ++ l2) none)], tc⟩) := by
  have val : ∀ {z : Operand} {q : Nat} {m : List te.ty.den}, ev s z = .at (.whole q) → s.ob q = some (.deep e te.ty m none) → a.eval z = .slice (ι q).a m.length (ι q).c := fun hz hq => by
    obtain ⟨_, o', ho', hv⟩ := (ev_at ht hz : RepAV ι s.ob (.whole _) (a.eval _))
    rw [hq] at ho'
    cases ho'
    exact hv _ _ rfl
  have hv := val hx hr
  have hv2 := val hy hr2
  obtain ⟨xs, m1, m2, m3⟩ := hs.obs r _ hr
  obtain ⟨xs2, o1, o2, o3⟩ := hs.obs r2 _ hr2
  have hty := hte.ty
  have hl2 : xs2.length = l2.length * te.sz := by rw [o2.len, hty]
  obtain ⟨v', w', k1, k2, k3, k4⟩ := run_appendV (P := P) t ty e ti te hti hk hte (.slice (ι r).a l.length (ι r).c) l.length xs (by rw [← hty]; exact m1) l2.length xs2 (ι r2).a (ι r2).c hl2 (fun h0 => by
    obtain ⟨ad, ha, _⟩ := deep_addr hs hr2 (by omega)
    refine ⟨ad, ha, fun j u hu => ?_⟩
    obtain ⟨ad', ha', _, hc⟩ := o1.cell hu
    rw [ha] at ha'
    cases ha'
    exact hc) o2.one (by simpa using hb)
  obtain ⟨A', c', hv'⟩ := own_slice' k2
  have hll : l.length + l2.length = (l ++ l2).length := by simp
  rw [hll] at k2 hv'
  obtain ⟨J, j1, j2, j3, j4⟩ := hs.appendD hne hr hr2 hid m2 o2 m3 o3 rfl hv' (by rw [hty]; exact k2) k3 k4
  refine Does.value (v := v') (w' := w') (fun _ _ _ _ => ?_) ⟨upd ι id J, j3, j4, ?_⟩
  · rw [run_call]
    simp only [builtin, List.map_toArray, List.map_cons, List.map_nil, hv, hv2, Sem.run_bind, k1, Result.andThen_ok]
    rfl
  · refine ⟨by rw [hv']; rfl, _, upd_same _ _ _, fun t' m' he => ?_⟩
    cases he
    rw [upd_same, hv', j1, j2]
theorem disj_pw : ∀ {l : List Nat}, disj l = true → l.Pairwise (· ≠ ·)
  | [], _ => List.Pairwise.nil
  | x :: r, h => by
    simp only [disj, Bool.and_eq_true, Bool.not_eq_true'] at h
    refine List.Pairwise.cons (fun y hy e => ?_) (disj_pw h.2)
    subst e
    have : r.any (Nat.beq x) = true := List.any_eq_true.2 ⟨x, hy, Nat.beq_refl x⟩
    rw [h.1] at this; cases this
/-- The blocks that a value brings. -/
def vblk : Value → List Nat | .slice A _ _ => A.toList.map Addr.block | _ => []
theorem vblk_nodup (u : Value) : (vblk u).Nodup := by
  unfold vblk
  split
  · rename_i A _ _
    cases A with
    | none => exact List.nodup_nil
    | some ad => exact List.nodup_cons.2 ⟨by simp, List.nodup_nil⟩
  · exact List.nodup_nil
/-- What is told of a value that a new deep row takes in. -/
theorem take_own {ob : Ob} (h : HS w0 X M ι ob w) {r : Nat} {va : AV} (hk : takeOk ob r va = true) {u : Value} (hu : RepAV ι ob va u) :
    (∀ (t0 : Ty) (x0 : t0.den), ofAV ob t0 va = some x0 → RepD w t0 x0 [u] (vblk u)) ∧ (∀ b ∈ vblk u, ∃ q ∈ va.ids, ∃ o, ob q = some o ∧ Wr o ∧ Blk (ι q) o b) ∧ ∀ q ∈ va.ids, q ≠ r ∧ ∃ o, ob q = some o := by
  have mb : ∀ (A : Option Addr) (b : Nat), b ∈ A.toList.map Addr.block → ∃ ad, A = some ad ∧ ad.block = b := fun A b hb => by cases A <;> simp at hb ⊢; exact hb.symm
  have hne : ∀ {q : Nat} {x : Bool}, (!(Nat.beq q r) && x) = true → q ≠ r ∧ x = true := fun {q x} hq => by
    simp only [Bool.and_eq_true, Bool.not_eq_true'] at hq
    exact ⟨fun e => by rw [e] at hq; simp at hq, hq.2⟩
  cases va with
  | undef => cases hk
  | bptr => cases hk
  | eptr => cases hk
  | fn => cases hk
  | int k n =>
    simp only [RepAV] at hu
    subst hu
    refine ⟨fun t0 x0 h0 => ?_, by simp [vblk], by simp [AV.ids]⟩
    cases t0 <;> simp only [ofAV] at h0 <;> try (cases h0; done)
    split at h0
    · rename_i hk; subst hk; cases h0; simp [RepD, vblk]
    · cases h0
  | bool b =>
    simp only [RepAV] at hu
    subst hu
    refine ⟨fun t0 x0 h0 => ?_, by simp [vblk], by simp [AV.ids]⟩
    cases t0 <;> simp only [ofAV] at h0 <;> try (cases h0; done)
    cases h0; simp [RepD, vblk]
  | str b =>
    simp only [RepAV] at hu
    subst hu
    refine ⟨fun t0 x0 h0 => ?_, by simp [vblk], by simp [AV.ids]⟩
    cases t0 <;> simp only [ofAV] at h0 <;> try (cases h0; done)
    cases h0; simp [RepD, vblk]
  | nils =>
    simp only [RepAV] at hu
    subst hu
    exact ⟨fun t0 x0 h0 => ofAV_nils h0, by simp [vblk], by simp [AV.ids]⟩
  | whole q =>
    obtain ⟨hq, hk⟩ := hne hk
    split at hk
    · rename_i e' t' x ho
      have hv := whole_of (s := ⟨fun _ => .at .undef, ob⟩) hu ho
      have hown : Own w (fun _ => False) e' t' x (ι q).a (ι q).c := Own.plainF hk (h.obs q _ ho)
      subst hv
      refine ⟨fun t0 x0 h0 => ?_, fun b hb => ⟨q, by simp [AV.ids], _, ho, trivial, mb _ _ hb⟩, fun q' hq' => ?_⟩
      · have := ofAV_row ho h0
        cases this
        simp only [RepD]
        exact ⟨_, _, rfl, hown, rfl⟩
      · simp only [AV.ids, List.mem_singleton] at hq'
        subst hq'
        exact ⟨hq, _, ho⟩
    · cases hk
  | cut q off n =>
    obtain ⟨hq, hk⟩ := hne hk
    split at hk
    · rename_i e' t' x ho
      obtain ⟨hle, A, hv, hA, hA0⟩ := cut_of (s := ⟨fun _ => .at .undef, ob⟩) hu ho
      obtain ⟨xs, k1, k2⟩ := Own.plainF (N' := fun _ => False) hk (h.obs q _ ho)
      have hown := own_cut k1 k2 hle hA hA0
      have hblk : ∀ ad, A = some ad → ∃ ad0, (ι q).a = some ad0 ∧ ad0.block = ad.block := fun ad ha => by
        by_cases hc : off < (ι q).c
        · rw [hA (.inl hc)] at ha
          cases h0 : (ι q).a with
          | none => rw [h0] at ha; cases ha
          | some ad0 => rw [h0] at ha; cases ha; exact ⟨ad0, rfl, (add_block _ _).symm⟩
        · rw [hA0 (by omega)] at ha; exact ⟨ad, ha, rfl⟩
      subst hv
      refine ⟨fun t0 x0 h0 => ?_, fun b hb => ?_, fun q' hq' => ?_⟩
      · have hlen : ((x.drop off).take n).length = n := by simp; omega
        cases t0 <;> simp only [ofAV, ho] at h0 <;> try (cases h0; done)
        split at h0
        · rename_i hh
          obtain ⟨rfl, rfl⟩ := hh
          cases h0
          simp only [RepD]
          exact ⟨A, (ι q).c - off, by simp only [castL]; rw [hlen], hown, rfl⟩
        · cases h0
      · obtain ⟨ad, ha, rfl⟩ := mb _ _ hb
        obtain ⟨ad0, a1, a2⟩ := hblk ad ha
        exact ⟨q, by simp [AV.ids], _, ho, trivial, a2 ▸ Blk.main a1⟩
      · simp only [AV.ids, List.mem_singleton] at hq'
        subst hq'
        exact ⟨hq, _, ho⟩
    · cases hk
theorem take_cells {ob : Ob} (h : HS w0 X M ι ob w) {r : Nat} : ∀ {t : Ty} {c : List AV} {x : t.den} {us : List Value}, ofAVs ob t c = some x → All2 (RepAV ι ob) c us → c.all (takeOk ob r) = true → RepD w t x us (us.flatMap vblk) := by
  have one : ∀ {t : Ty} {y : AV} {x : t.den} {us : List Value}, ofAV ob t y = some x → All2 (RepAV ι ob) [y] us → [y].all (takeOk ob r) = true → RepD w t x us (us.flatMap vblk) := by
    intro t y x us h1 h2 h3
    match us, h2 with
    | [u], h2 => simpa using (take_own h (by simpa using h3) h2.1).1 t x h1
    | [], h2 => exact h2.elim
    | _ :: _ :: _, h2 => exact h2.2.elim
  intro t
  induction t with
  | unit =>
    intro c x us h1 h2 h3
    cases c with
    | nil => cases us with
      | nil => simp [RepD]
      | cons _ _ => exact h2.elim
    | cons _ _ => cases h1
  | two a b iha ihb =>
    intro c x us h1 h2 h3
    cases c with
    | nil => cases h1
    | cons y c => cases us with
      | nil => exact h2.elim
      | cons u us =>
        simp only [ofAVs] at h1
        obtain ⟨y1, k1, h1⟩ := Option.bind_eq_some_iff.1 h1
        obtain ⟨y2, k2, h1⟩ := Option.bind_eq_some_iff.1 h1
        cases h1
        simp only [List.all_cons, Bool.and_eq_true] at h3
        simp only [RepD]
        exact ⟨[u], us, vblk u, us.flatMap vblk, ⟨rfl, by simp⟩, (take_own h h3.1 h2.1).1 _ _ k1, ihb k2 h2.2 h3.2⟩
  | int k => intro c x us h1 h2 h3; match c, h1 with | [y], h1 => exact one h1 h2 h3
  | bool => intro c x us h1 h2 h3; match c, h1 with | [y], h1 => exact one h1 h2 h3
  | str => intro c x us h1 h2 h3; match c, h1 with | [y], h1 => exact one h1 h2 h3
  | sl e t _ => intro c x us h1 h2 h3; match c, h1 with | [y], h1 => exact one h1 h2 h3
theorem take_nodup {ob : Ob} (h : HS w0 X M ι ob w) {r : Nat} : ∀ {L : List AV} {U : List Value}, All2 (RepAV ι ob) L U → L.all (takeOk ob r) = true → (idsOf L).Pairwise (· ≠ ·) → (U.flatMap vblk).Nodup ∧ ∀ b ∈ U.flatMap vblk, ∃ q ∈ idsOf L, ∃ o, ob q = some o ∧ Wr o ∧ Blk (ι q) o b
  | [], [], _, _, _ => ⟨List.nodup_nil, by simp⟩
  | [], _ :: _, h1, _, _ => h1.elim
  | _ :: _, [], h1, _, _ => h1.elim
  | y :: L, u :: U, h1, h2, h3 => by
    simp only [List.all_cons, Bool.and_eq_true] at h2
    simp only [idsOf, List.flatMap_cons] at h3
    obtain ⟨p1, p2, p3⟩ := List.pairwise_append.1 h3
    obtain ⟨q1, q2⟩ := take_nodup h h1.2 h2.2 p2
    obtain ⟨_, k2, _⟩ := take_own h h2.1 h1.1
    simp only [List.flatMap_cons]
    refine ⟨List.nodup_append.2 ⟨vblk_nodup u, q1, fun a ha b hb e => ?_⟩, fun b hb => ?_⟩
    · subst e
      obtain ⟨q, m1, o, m2, m3, m4⟩ := k2 a ha
      obtain ⟨q', n1, o', n2, n3, n4⟩ := q2 a hb
      exact p3 q m1 q' n1 (h.sep q q' o o' a m2 n2 m3 n3 m4 n4)
    · simp only [idsOf, List.flatMap_cons, List.mem_append]
      rcases List.mem_append.1 hb with hb | hb
      · obtain ⟨q, m1, o, m2⟩ := k2 b hb; exact ⟨q, .inl m1, o, m2⟩
      · obtain ⟨q, m1, o, m2⟩ := q2 b hb; exact ⟨q, .inr m1, o, m2⟩
/-- A new deep row. -/
theorem HS.built {ob : Ob} (h : HS w0 X M ι ob w) {ids : List Nat} {id e n : Nat} {t : Ty} {l : List t.den} {vs : List Value} {bs : List Nat} (hid : ob id = none) (hids : ∀ q ∈ ids, ∃ o, ob q = some o) (hl : l.length = n) (hvs : vs.length = n * t.size)
    (hd : RepDL w t l vs bs) (hn : bs.Nodup) (hb : ∀ b ∈ bs, ∃ q ∈ ids, ∃ o, ob q = some o ∧ Wr o ∧ Blk (ι q) o b) :
    HS w0 X M (upd ι id ⟨some ⟨w.heap.size, 0, none⟩, n, bs⟩) (updL ob (deads ids ++ [(id, .deep e t l none)])) (w.alloc (.cells vs.toArray e)) ∧ Keeps ι (upd ι id ⟨some ⟨w.heap.size, 0, none⟩, n, bs⟩) ob (updL ob (deads ids ++ [(id, .deep e t l none)])) := by
  let J : In := ⟨some ⟨w.heap.size, 0, none⟩, n, bs⟩
  let ob' := updL ob (deads ids ++ [(id, .deep e t l none)])
  have hob' : ob' = upd (updL ob (deads ids)) id (some (.deep e t l none)) := by simp only [ob', updL_append, updL]
  have hni : id ∉ ids := fun k => by obtain ⟨o, ho⟩ := hids id k; rw [hid] at ho; cases ho
  have ob'i : ob' id = some (.deep e t l none) := by rw [hob', upd_same]
  have ob'd : ∀ j, j ∈ ids → ob' j = some .dead := fun j hj => by rw [hob', upd_ne _ _ _ _ (fun k : j = id => hni (k ▸ hj)), updL_deads, if_pos hj]
  have ob'o : ∀ j, j ≠ id → j ∉ ids → ob' j = ob j := fun j k1 k2 => by rw [hob', upd_ne _ _ _ _ k1, updL_deads, if_neg k2]
  have hh : ∀ b', b' < w.heap.size → (w.alloc (.cells vs.toArray e)).heap[b']? = w.heap[b']? := fun k hk => Below.heap_alloc w _ k hk
  have hs : w.heap.size ≤ (w.alloc (.cells vs.toArray e)).heap.size := by show _ ≤ (w.heap.push _).size; simp
  have hlt : ∀ b ∈ bs, b < w.heap.size := hd.lt
  have hk : Keeps ι (upd ι id J) ob ob' := fun j o ho => by
    have hj : j ≠ id := fun e => by rw [e, hid] at ho; cases ho
    by_cases c1 : j ∈ ids
    · exact ⟨_, ob'd j c1, (by cases o <;> trivial), by rw [upd_ne _ _ _ _ hj], by rw [upd_ne _ _ _ _ hj]⟩
    · exact ⟨o, by rw [ob'o j hj c1, ho], Sh.refl _, by rw [upd_ne _ _ _ _ hj], by rw [upd_ne _ _ _ _ hj]⟩
  have was : ∀ j o b, ob' j = some o → Wr o → Blk (upd ι id J j) o b → (j ≠ id ∧ j ∉ ids ∧ ob j = some o ∧ Blk (ι j) o b) ∨ (j = id ∧ (b ∈ bs ∨ b = w.heap.size)) := by
    intro j o b hj hw hb'
    by_cases c0 : j = id
    · subst c0
      rw [ob'i] at hj
      cases hj
      rw [upd_same] at hb'
      rcases mem_blks.1 hb' with ⟨ad, ha, rfl⟩ | hb'
      · cases ha; exact .inr ⟨rfl, .inr rfl⟩
      · exact .inr ⟨rfl, .inl hb'⟩
    · by_cases c1 : j ∈ ids
      · rw [ob'd j c1] at hj; cases hj; exact hw.elim
      · rw [ob'o j c0 c1] at hj
        rw [upd_ne _ _ _ _ c0] at hb'
        exact .inl ⟨c0, c1, hj, hb'⟩
  refine ⟨h.step0 (h.fr_step rfl rfl rfl hs (fun b hb _ => hh b hb)) hs (fun b hb _ => hh b hb) hk ?_ ?_ ?_, hk⟩
  · rintro b ⟨j, o, p1, p2, p3⟩
    rcases was j o b p1 p2 p3 with ⟨_, _, m1, m2⟩ | ⟨_, m1 | m1⟩
    · exact .inl ⟨j, o, m1, p2, m2⟩
    · obtain ⟨q, _, o', r1, r2, r3⟩ := hb b m1
      exact .inl ⟨q, o', r1, r2, r3⟩
    · exact .inr (by omega)
  · intro j j' o o' b b1 b2 b3 b4 b5 b6
    rcases was j o b b1 b3 b5 with ⟨c0, c1, m1, m2⟩ | ⟨c0, m1⟩ <;> rcases was j' o' b b2 b4 b6 with ⟨e0, e1, p1, p2⟩ | ⟨e0, p1⟩
    · exact h.sep j j' o o' b m1 p1 b3 b4 m2 p2
    · rcases p1 with p1 | p1
      · obtain ⟨q, hq, o2, r1, r2, r3⟩ := hb b p1
        exact (c1 (h.sep j q o o2 b m1 r1 b3 r2 m2 r3 ▸ hq)).elim
      · have := (h.obs j o m1).lt b3 m2; omega
    · rcases m1 with m1 | m1
      · obtain ⟨q, hq, o2, r1, r2, r3⟩ := hb b m1
        exact (e1 (h.sep j' q o' o2 b p1 r1 b4 r2 p2 r3 ▸ hq)).elim
      · have := (h.obs j' o' p1).lt b4 p2; omega
    · rw [c0, e0]
  · intro hN j o ho
    change ob' j = some o at ho
    by_cases c0 : j = id
    · subst c0
      rw [ob'i] at ho
      cases ho
      right
      simp only [RepO, upd_same]
      refine ⟨vs, ⟨by rw [hl]; exact hvs, .inr ⟨w.heap.size, 0, n, _, (0, 0), by rw [hl], heap_alloc_new w _, .inl (Nat.le_refl _), by omega, ?_, ?_⟩⟩, hd.keep fun b k => hh b (hlt b k), ?_⟩
      · simp only [List.size_toArray, hvs, Nat.zero_add]; exact Nat.le_refl _
      · rw [List.toList_toArray, List.drop_zero, List.take_of_length_le (by rw [hl]; omega)]
      · unfold In.blks
        refine List.nodup_append.2 ⟨List.nodup_cons.2 ⟨by simp, List.nodup_nil⟩, hn, fun x hx y hy k => ?_⟩
        have h1 : x = w.heap.size := by simpa using hx
        have := hlt y hy
        omega
    · by_cases c1 : j ∈ ids
      · rw [ob'd j c1] at ho; cases ho; exact .inr trivial
      · rw [ob'o j c0 c1] at ho
        exact .inl ⟨ho, upd_ne _ _ _ _ c0, fun hw b hb' => hh b ((h.obs j o ho).lt hw hb')⟩
theorem op_buildSlice_deep {cx : Cx} (htt : TTok P cx.tt) (hs : HS w0 X M ι s.ob w) (ht : TS ι s a) (t : Nat) (ti : TI) (hti : TIok P t ti) (e : Nat) (hk : ti.k = .sl e) (te : TI) (hte : TIok P e te) (n : Nat) (ps : Array (Nat × Operand)) (hps : ps.toList.map (·.1) = List.range n) (hn : n * te.sz ≤ 16777216)
    (cs : List (List AV)) (hcs : mapO (fun p : Nat × Operand => (ev s p.2).cells) ps.toList = some cs) (l : List te.ty.den) (hl : mapO (fun c : List AV => if c.length = te.sz then ofAVs s.ob te.ty c else none) cs = some l) (id : Nat) (hid : s.ob id = none) (htk : cs.flatten.all (takeOk s.ob id) = true) (hdj : disj (idsOf cs.flatten) = true) (tc : List Nat) (ty : TypeId) :
    Does P (.buildSlice t n ps) ty a.eval w (Post w0 X M ι s ⟨.at (.whole id), deads (idsOf cs.flatten) ++ [(id, .deep e te.ty l none)], tc⟩) := by
  have hu := hti.und
  rw [hk] at hu
  obtain ⟨z, hz, hz1, hz2, hz3⟩ := run_zero hte
  have parts : ∀ (q : List (Nat × Operand)) (cs' : List (List AV)) (l' : List te.ty.den), mapO (fun p : Nat × Operand => (ev s p.2).cells) q = some cs' → mapO (fun c : List AV => if c.length = te.sz then ofAVs s.ob te.ty c else none) cs' = some l' → cs'.flatten.all (takeOk s.ob id) = true →
      RepDL w te.ty l' ((q.map fun p => (a.eval p.2).cells.toList).flatten) (((q.map fun p => (a.eval p.2).cells.toList).flatten).flatMap vblk) ∧ All2 (RepAV ι s.ob) cs'.flatten ((q.map fun p => (a.eval p.2).cells.toList).flatten) ∧ (∀ p ∈ q, (a.eval p.2).cells.size = te.sz) ∧ l'.length = q.length := by
    intro q
    induction q with
    | nil => intro cs' l' h1 h2 _; cases h1; cases h2; exact ⟨by simp [RepDL], trivial, by simp, rfl⟩
    | cons p r ih =>
      intro cs' l' h1 h2 h3
      simp only [mapO] at h1
      obtain ⟨c, k1, h1⟩ := Option.bind_eq_some_iff.1 h1
      obtain ⟨cr, k2, h1⟩ := Option.bind_eq_some_iff.1 h1
      cases h1
      simp only [mapO] at h2
      obtain ⟨y, k3, h2⟩ := Option.bind_eq_some_iff.1 h2
      obtain ⟨yr, k4, h2⟩ := Option.bind_eq_some_iff.1 h2
      cases h2
      split at k3
      · rename_i hcl
        obtain ⟨us, m1, m2⟩ := RepDV.cells (RepDV.ev ht p.2) k1
        simp only [List.flatten_cons, List.all_append, Bool.and_eq_true] at h3
        obtain ⟨q1, q2, q3, q4⟩ := ih cr yr k2 k4 h3.2
        have mm : (a.eval p.2).cells.toList = us := by rw [m1]
        simp only [List.map_cons, List.flatten_cons, mm]
        refine ⟨?_, All2.append m2 q2, fun p' hp' => ?_, by simp [q4]⟩
        · simp only [RepDL]
          exact ⟨us, _, us.flatMap vblk, _, ⟨rfl, by rw [List.flatMap_append]⟩, take_cells hs k3 m2 h3.1, q1⟩
        · rcases List.mem_cons.1 hp' with rfl | hp'
          · rw [m1]; simp [← All2.len m2, hcl]
          · exact q3 p' hp'
      · cases k3
  obtain ⟨p1, pA, p2, p3⟩ := parts ps.toList cs l hcs hl htk
  have hlen : ps.toList.length = n := by have := congrArg List.length hps; simpa using this
  have hll : l.length = n := by omega
  have hxs := p1.len
  have hty := hte.ty
  have hzip : (ps.map fun x => (x.1, a.eval x.2)).toList = (List.range' 0 (ps.toList.map fun p => a.eval p.2).length).zip (ps.toList.map fun p => a.eval p.2) := by
    simp only [List.length_map, hlen, Array.toList_map, ← List.range_eq_range', ← hps]
    induction ps.toList with
    | nil => rfl
    | cons p r ih => simp [ih]
  have hfill : ∀ cells0 : Array Value, cells0.size = n * te.sz → Instr.fill (fun i => some (i * te.sz, te.sz)) cells0 (ps.map fun x => (x.1, a.eval x.2)).toList = some ((ps.toList.map fun p => (a.eval p.2).cells.toList).flatten).toArray := by
    intro cells0 h0
    have := fill_row te.sz (ps.toList.map fun p => a.eval p.2) 0 [] cells0.toList (by simp) (by simp [h0, hlen]) (by
      intro v hv
      obtain ⟨p, hp, rfl⟩ := List.mem_map.1 hv
      exact p2 p hp)
    rw [hzip]
    simpa [List.map_map, Function.comp_def] using this
  have hrun : ∀ (dst : Option Tmp) (pos : String) (after : Array Edge) (g : Option (Nat × Bool)), (execOp a.eval ⟨dst, .buildSlice t n ps, ty, pos, after, g⟩).run P w = .ok (.value (.slice (some ⟨w.heap.size, 0, none⟩) n n)) (w.alloc (.cells ((ps.toList.map fun p => (a.eval p.2).cells.toList).flatten).toArray e)) := by
    intro dst pos after g
    have hn' : ¬ n * te.sz > 2 ^ 24 := by omega
    simp only [execOp, Instr.buildSlice, Sem.run_bind, run_underlying hu, Result.andThen_ok, run_sizeOf hte, if_neg hn', Sem.run_pure]
    by_cases h0 : n * te.sz = 0
    · simp only [h0, if_true, Sem.run_bind, Sem.run_pure, Result.andThen_ok]
      rw [hfill _ (by simp [h0])]
      rfl
    · simp only [h0, if_false, Sem.run_bind, hz, Result.andThen_ok, Sem.run_pure]
      rw [hfill _ (by simp)]
      rfl
  obtain ⟨n1, n2⟩ := take_nodup hs pA htk (disj_pw hdj)
  have hids : ∀ q ∈ idsOf cs.flatten, ∃ o, s.ob q = some o := fun q hq => by
    simp only [idsOf, List.mem_flatMap] at hq
    obtain ⟨y, hy, hq⟩ := hq
    obtain ⟨k, hk⟩ := List.mem_iff_getElem?.1 hy
    obtain ⟨u, _, hu⟩ := All2.get pA hk
    exact ((take_own hs (List.all_eq_true.1 htk y hy) hu).2.2 q hq).2
  obtain ⟨b1, b2⟩ := hs.built (e := e) hid hids hll (by rw [hxs, hll]) p1 n1 n2
  refine Does.value (fun dst pos after g => hrun dst pos after g) ⟨_, b1, b2, rfl, _, by rw [updL_append]; exact upd_same _ _ _, fun t' m' he => ?_⟩
  cases he
  rw [upd_same, hll]
end
end Go.Proofs.YtpinehfjimphmaaGreat.DI
