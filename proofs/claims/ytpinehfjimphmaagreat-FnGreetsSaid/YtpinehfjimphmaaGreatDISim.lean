/- The machine of values: what its states say of a world. -/
import Derived.Test.YtpinehfjimphmaaGreatDIGlob
import Derived.Below
import Derived.Laws.AppendOwn
namespace Go.Proofs.YtpinehfjimphmaaGreat.DI
open Go Go.RowKit
set_option linter.unusedVariables false
set_option linter.unusedSimpArgs false
def All2 {α β : Type} (R : α → β → Prop) : List α → List β → Prop
  | [], [] => True | a :: r, b :: q => R a b ∧ All2 R r q | _, _ => False
theorem All2.len {α β : Type} {R : α → β → Prop} : ∀ {l : List α} {q : List β}, All2 R l q → l.length = q.length
  | [], [], _ => rfl
  | _ :: _, _ :: _, h => by simp [All2.len h.2]
  | [], _ :: _, h => h.elim
  | _ :: _, [], h => h.elim
theorem All2.mono {α β : Type} {R S : α → β → Prop} : ∀ {l : List α} {q : List β}, (∀ a ∈ l, ∀ b, R a b → S a b) → All2 R l q → All2 S l q
  | [], [], _, _ => trivial
  | a :: r, b :: q, h, k => ⟨h a (by simp) b k.1, All2.mono (fun a ha => h a (by simp [ha])) k.2⟩
  | [], _ :: _, _, h => h.elim
  | _ :: _, [], _, h => h.elim
theorem All2.get {α β : Type} {R : α → β → Prop} : ∀ {l : List α} {q : List β} {i : Nat} {a : α}, All2 R l q → l[i]? = some a → ∃ b, q[i]? = some b ∧ R a b
  | a :: r, b :: q, 0, _, h, e => by simp at e; subst e; exact ⟨b, rfl, h.1⟩
  | a :: r, b :: q, i + 1, _, h, e => All2.get (i := i) h.2 (by simpa using e)
  | [], _, _, _, _, e => by simp at e
  | _ :: _, [], _, _, h, _ => h.elim
theorem All2.append {α β : Type} {R : α → β → Prop} : ∀ {l l' : List α} {q q' : List β}, All2 R l q → All2 R l' q' → All2 R (l ++ l') (q ++ q')
  | [], _, [], _, _, h => h
  | a :: r, _, b :: q, _, h, k => ⟨h.1, All2.append h.2 k⟩
  | [], _, _ :: _, _, h, _ => h.elim
  | _ :: _, _, [], _, h, _ => h.elim
theorem All2.drop {α β : Type} {R : α → β → Prop} : ∀ {l : List α} {q : List β} (n : Nat), All2 R l q → All2 R (l.drop n) (q.drop n)
  | l, q, 0, h => by simpa using h
  | [], [], _ + 1, _ => trivial
  | _ :: _, _ :: _, n + 1, h => All2.drop n h.2
  | [], _ :: _, _ + 1, h => h.elim
  | _ :: _, [], _ + 1, h => h.elim
theorem All2.take {α β : Type} {R : α → β → Prop} : ∀ {l : List α} {q : List β} (n : Nat), All2 R l q → All2 R (l.take n) (q.take n)
  | l, q, 0, h => by simp [All2]
  | [], [], _ + 1, _ => trivial
  | _ :: _, _ :: _, n + 1, h => ⟨h.1, All2.take n h.2⟩
  | [], _ :: _, _ + 1, h => h.elim
  | _ :: _, [], _ + 1, h => h.elim
/-- An element's cells in a world; the rows in it lie in blocks of N. -/
def RepC (w : World) (N : Nat → Prop) : (t : Ty) → t.den → List Value → Prop
  | .unit, _, cs => cs = []
  | .int k, n, cs => cs = [.int k n]
  | .bool, b, cs => cs = [.bool b]
  | .str, s, cs => cs = [.string s]
  | .sl _ t, l, cs => ∃ A c, cs = [.slice A (List.length (α := t.den) l) c] ∧ List.length (α := t.den) l ≤ c ∧ ∀ i x, (l : List t.den)[i]? = some x → ∃ ad, A = some ad ∧ ad.spot = none ∧ N ad.block ∧ ∃ es, RepC w N t x es ∧ ∀ j u, es[j]? = some u → w.cell? (ad.add (i * t.size + j)) = some u
  | .two a b, x, cs => ∃ c1 c2, cs = c1 ++ c2 ∧ RepC w N a x.1 c1 ∧ RepC w N b x.2 c2
/-- A row that is read alone. -/
def Ro (w : World) (N : Nat → Prop) (t : Ty) (l : List t.den) (A : Option Addr) (c : Nat) : Prop :=
  l.length ≤ c ∧ ∀ i x, l[i]? = some x → ∃ ad, A = some ad ∧ ad.spot = none ∧ N ad.block ∧ ∃ es, RepC w N t x es ∧ ∀ j u, es[j]? = some u → w.cell? (ad.add (i * t.size + j)) = some u
def RepL (w : World) (N : Nat → Prop) (t : Ty) : List t.den → List Value → Prop
  | [], cs => cs = []
  | x :: r, cs => ∃ c1 c2, cs = c1 ++ c2 ∧ RepC w N t x c1 ∧ RepL w N t r c2
theorem RepC.len {w : World} {N : Nat → Prop} : ∀ {t : Ty} {x : t.den} {cs : List Value}, RepC w N t x cs → cs.length = t.size
  | .unit, _, _, h => by simp only [RepC] at h; subst h; rfl
  | .int _, _, _, h => by simp only [RepC] at h; subst h; rfl
  | .bool, _, _, h => by simp only [RepC] at h; subst h; rfl
  | .str, _, _, h => by simp only [RepC] at h; subst h; rfl
  | .sl _ _, _, _, h => by simp only [RepC] at h; obtain ⟨_, _, rfl, _⟩ := h; rfl
  | .two _ _, _, _, h => by simp only [RepC] at h; obtain ⟨_, _, rfl, h1, h2⟩ := h; simp [RepC.len h1, RepC.len h2, Ty.size]
theorem cell_same {w w' : World} {a : Addr} (h : w'.heap[a.block]? = w.heap[a.block]?) : w'.cell? a = w.cell? a := by unfold World.cell?; rw [h]
theorem add_block (a : Addr) (n : Nat) : (a.add n).block = a.block := by unfold Addr.add; split <;> rfl
theorem add_add (a : Addr) (m n : Nat) (h : a.spot = none) : (a.add m).add n = a.add (m + n) := by
  obtain ⟨b, o, s⟩ := a
  simp only at h
  subst h
  unfold Addr.add
  by_cases h1 : m = 0 <;> by_cases h2 : n = 0 <;> simp [h1, h2, Nat.add_assoc]
theorem add_spot (a : Addr) (m : Nat) (h : a.spot = none) : (a.add m).spot = none := by unfold Addr.add; split <;> simp [h]
theorem RepC.mono {w w' : World} {N N' : Nat → Prop} (hN : ∀ b, N b → N' b ∧ w'.heap[b]? = w.heap[b]?) : ∀ {t : Ty} {x : t.den} {cs : List Value}, RepC w N t x cs → RepC w' N' t x cs
  | .unit, _, _, h => h
  | .int _, _, _, h => h
  | .bool, _, _, h => h
  | .str, _, _, h => h
  | .sl _ t, l, cs, h => by
    simp only [RepC] at h ⊢
    obtain ⟨A, c, e, hl, h⟩ := h
    refine ⟨A, c, e, hl, fun i x hx => ?_⟩
    obtain ⟨ad, h1, h2, h3, es, h4, h5⟩ := h i x hx
    exact ⟨ad, h1, h2, (hN _ h3).1, es, RepC.mono hN h4, fun j u hj => (cell_same (by rw [add_block]; exact (hN _ h3).2)).trans (h5 j u hj)⟩
  | .two _ _, _, _, h => by
    simp only [RepC] at h ⊢
    obtain ⟨c1, c2, e, h1, h2⟩ := h
    exact ⟨c1, c2, e, RepC.mono hN h1, RepC.mono hN h2⟩
theorem Ro.mono {w w' : World} {N N' : Nat → Prop} (hN : ∀ b, N b → N' b ∧ w'.heap[b]? = w.heap[b]?) {t : Ty} {l : List t.den} {A : Option Addr} {c : Nat} (h : Ro w N t l A c) : Ro w' N' t l A c := by
  refine ⟨h.1, fun i x hx => ?_⟩
  obtain ⟨ad, h1, h2, h3, es, h4, h5⟩ := h.2 i x hx
  exact ⟨ad, h1, h2, (hN _ h3).1, es, RepC.mono hN h4, fun j u hj => (cell_same (by rw [add_block]; exact (hN _ h3).2)).trans (h5 j u hj)⟩
theorem RepL.mono {w w' : World} {N N' : Nat → Prop} (hN : ∀ b, N b → N' b ∧ w'.heap[b]? = w.heap[b]?) {t : Ty} : ∀ {l : List t.den} {cs : List Value}, RepL w N t l cs → RepL w' N' t l cs
  | [], _, h => h
  | _ :: _, _, h => by
    simp only [RepL] at h ⊢
    obtain ⟨c1, c2, e, h1, h2⟩ := h
    exact ⟨c1, c2, e, RepC.mono hN h1, RepL.mono hN h2⟩
theorem RepL.len {w : World} {N : Nat → Prop} {t : Ty} : ∀ {l : List t.den} {cs : List Value}, RepL w N t l cs → cs.length = l.length * t.size
  | [], _, h => by simp only [RepL] at h; subst h; simp
  | _ :: _, _, h => by
    simp only [RepL] at h
    obtain ⟨c1, c2, rfl, h1, h2⟩ := h
    simp [RepC.len h1, RepL.len h2, Nat.add_mul, Nat.add_comm]
theorem RepL.append {w : World} {N : Nat → Prop} {t : Ty} : ∀ {l l' : List t.den} {cs cs' : List Value}, RepL w N t l cs → RepL w N t l' cs' → RepL w N t (l ++ l') (cs ++ cs')
  | [], _, _, _, h, k => by simp only [RepL] at h; subst h; exact k
  | _ :: _, _, _, _, h, k => by
    simp only [RepL] at h
    obtain ⟨c1, c2, rfl, h1, h2⟩ := h
    simp only [List.cons_append, RepL]
    exact ⟨c1, c2 ++ _, by rw [List.append_assoc], h1, RepL.append h2 k⟩
theorem RepL.get {w : World} {N : Nat → Prop} {t : Ty} : ∀ {l : List t.den} {cs : List Value} {i : Nat} {x : t.den}, RepL w N t l cs → l[i]? = some x → ∃ es, RepC w N t x es ∧ ∀ j u, es[j]? = some u → cs[i * t.size + j]? = some u
  | [], _, _, _, _, e => by simp at e
  | y :: r, cs, 0, x, h, e => by
    simp only [RepL] at h
    obtain ⟨c1, c2, rfl, h1, h2⟩ := h
    simp at e
    subst e
    refine ⟨c1, h1, fun j u hj => ?_⟩
    have := (List.getElem?_eq_some_iff.1 hj).1
    simpa [List.getElem?_append_left this] using hj
  | y :: r, cs, i + 1, x, h, e => by
    simp only [RepL] at h
    obtain ⟨c1, c2, rfl, h1, h2⟩ := h
    obtain ⟨es, h3, h4⟩ := RepL.get (i := i) h2 (by simpa using e)
    refine ⟨es, h3, fun j u hj => ?_⟩
    rw [List.getElem?_append_right (by rw [RepC.len h1, Nat.add_mul]; omega), RepC.len h1]
    have e2 : (i + 1) * t.size + j - t.size = i * t.size + j := by rw [Nat.add_mul]; omega
    rw [e2]
    exact h4 j u hj
/-- An element's cells are replaced. -/
theorem RepL.set {w : World} {N : Nat → Prop} {t : Ty} : ∀ {l : List t.den} {cs : List Value} {i : Nat} {y : t.den} {es : List Value}, RepL w N t l cs → i < l.length → RepC w N t y es → RepL w N t (l.set i y) (cs.take (i * t.size) ++ (es ++ cs.drop ((i + 1) * t.size)))
  | [], _, _, _, _, _, e, _ => by simp at e
  | z :: r, cs, 0, y, es, h, e, k => by
    simp only [RepL] at h
    obtain ⟨c1, c2, rfl, h1, h2⟩ := h
    simp only [List.set_cons_zero, RepL]
    refine ⟨es, c2, ?_, k, h2⟩
    have : (c1 ++ c2).drop t.size = c2 := by rw [← RepC.len h1]; exact List.drop_left
    simp [this]
  | z :: r, cs, i + 1, y, es, h, e, k => by
    simp only [RepL] at h
    obtain ⟨c1, c2, rfl, h1, h2⟩ := h
    simp only [List.set_cons_succ, RepL]
    refine ⟨c1, _, ?_, h1, RepL.set h2 (by simpa using e) k⟩
    have l1 := RepC.len h1
    rw [List.take_append, List.drop_append, List.take_of_length_le (by rw [l1, Nat.add_mul]; omega), List.drop_of_length_le (l := c1) (by rw [l1, Nat.add_mul (i + 1)]; omega), l1]
    have e1 : (i + 1) * t.size - t.size = i * t.size := by rw [Nat.add_mul]; omega
    have e2 : (i + 1 + 1) * t.size - t.size = (i + 1) * t.size := by rw [Nat.add_mul (i + 1)]; omega
    rw [e1, e2, List.nil_append, List.append_assoc]
theorem RepL.take {w : World} {N : Nat → Prop} {t : Ty} : ∀ {l : List t.den} {cs : List Value} (n : Nat), RepL w N t l cs → RepL w N t (l.take n) (cs.take (n * t.size))
  | l, cs, 0, h => by simp [RepL]
  | [], cs, n + 1, h => by simp only [RepL] at h; subst h; simp [RepL]
  | x :: r, cs, n + 1, h => by
    simp only [RepL] at h
    obtain ⟨c1, c2, rfl, h1, h2⟩ := h
    simp only [List.take_succ_cons, RepL]
    refine ⟨c1, _, ?_, h1, RepL.take n h2⟩
    have l1 := RepC.len h1
    rw [List.take_append, List.take_of_length_le (by rw [l1, Nat.add_mul]; omega), l1]
    have e1 : (n + 1) * t.size - t.size = n * t.size := by rw [Nat.add_mul]; omega
    rw [e1]
/-- Nothing of a block is frozen. -/
def NoFz (cur : Array Value) (fz : Nat × Nat) : Prop := fz.2 ≤ fz.1 ∨ cur.size ≤ fz.1
/-- .. and only behind cells that are elements by themselves. -/
def NoFzS (sz : Nat) (cur : Array Value) (fz : Nat × Nat) : Prop := fz.2 ≤ fz.1 ∨ (sz = 1 ∧ cur.size ≤ fz.1)
theorem NoFzS.to {sz : Nat} {cur : Array Value} {fz : Nat × Nat} (h : NoFzS sz cur fz) : NoFz cur fz := h.elim .inl fun h => .inr h.2
theorem NoFzS.size {sz : Nat} {cur cur' : Array Value} {fz : Nat × Nat} (h : NoFzS sz cur fz) (hs : cur'.size = cur.size) : NoFzS sz cur' fz := by
  unfold NoFzS at *
  rw [hs]
  exact h
/-- The slice lies in a block of the call's own; it may begin within it. -/
def OwnAt (w : World) (e sz : Nat) (v : Value) (n : Nat) (xs : List Value) : Prop :=
  xs.length = n * sz ∧ ((v = .slice none 0 0 ∧ n = 0) ∨ ∃ g o cap cur fz, v = .slice (some ⟨g, o, none⟩) n cap ∧ w.heap[g]? = some (.cells cur e fz) ∧ NoFzS sz cur fz ∧ n ≤ cap ∧ o + cap * sz ≤ cur.size ∧ (cur.toList.drop o).take (n * sz) = xs)
theorem OwnAt.of {w : World} {e sz : Nat} {v : Value} {n : Nat} {xs : List Value} (h : w.ownsRow 0 e sz v n xs) : OwnAt w e sz v n xs := by
  refine ⟨h.1, ?_⟩
  rcases h.2 with h | ⟨g, cap, cur, e1, _, e3, e4, e5, e6, e7⟩
  · exact .inl h
  · exact .inr ⟨g, 0, cap, cur, (0, 0), e1, e3, .inl (Nat.le_refl _), e4, by omega, by simpa using e7⟩
theorem OwnAt.lt {w : World} {e sz : Nat} {v : Value} {n : Nat} {xs : List Value} (h : OwnAt w e sz v n xs) : ∀ k, v.ownBlock = some k → k < w.heap.size := by
  intro k hk
  rcases h.2 with ⟨rfl, _⟩ | ⟨g, o, cap, cur, fz, rfl, hg, _⟩
  · simp [Value.ownBlock] at hk
  · simp [Value.ownBlock] at hk
    subst hk
    exact (Array.getElem?_eq_some_iff.1 hg).1
/-- A row of the call's own. -/
def Own (w : World) (N : Nat → Prop) (e : Nat) (t : Ty) (l : List t.den) (A : Option Addr) (c : Nat) : Prop :=
  ∃ xs, OwnAt w e t.size (.slice A l.length c) l.length xs ∧ RepL w N t l xs
structure In where
  a : Option Addr
  c : Nat
  bs : List Nat
/-- The cells of a deep row's element: rows in them are of its own; their blocks. -/
def RepD (w : World) : (t : Ty) → t.den → List Value → List Nat → Prop
  | .unit, _, cs, bs => cs = [] ∧ bs = []
  | .int k, n, cs, bs => cs = [.int k n] ∧ bs = []
  | .bool, b, cs, bs => cs = [.bool b] ∧ bs = []
  | .str, s, cs, bs => cs = [.string s] ∧ bs = []
  | .sl e t, l, cs, bs => ∃ A c, cs = [.slice A (List.length (α := t.den) l) c] ∧ Own w (fun _ => False) e t l A c ∧ bs = A.toList.map Addr.block
  | .two a b, x, cs, bs => ∃ c1 c2 b1 b2, (cs = c1 ++ c2 ∧ bs = b1 ++ b2) ∧ RepD w a x.1 c1 b1 ∧ RepD w b x.2 c2 b2
def RepDL (w : World) (t : Ty) : List t.den → List Value → List Nat → Prop
  | [], cs, bs => cs = [] ∧ bs = []
  | x :: r, cs, bs => ∃ c1 c2 b1 b2, (cs = c1 ++ c2 ∧ bs = b1 ++ b2) ∧ RepD w t x c1 b1 ∧ RepDL w t r c2 b2
def In.blks (i : In) : List Nat := i.a.toList.map Addr.block ++ i.bs
/-- A row of the call's own whose inner rows are its own too. -/
def DeepOk (w : World) (e : Nat) (t : Ty) (l : List t.den) (i : In) : Prop := ∃ xs, OwnAt w e t.size (.slice i.a l.length i.c) l.length xs ∧ RepDL w t l xs i.bs ∧ i.blks.Nodup
/-- The blocks of an object. -/
def Blk (i : In) : Obj → Nat → Prop
  | .deep _ _ _ _, b => b ∈ i.blks
  | _, b => ∃ ad, i.a = some ad ∧ ad.block = b
def Obj.shp : Obj → Option (Ty × Nat)
  | .row _ t _ l => some (t, l.length)
  | .deep _ t l _ => some (t, l.length)
  | _ => none
abbrev Ob := Nat → Option Obj
def RepB (ι : Nat → In) (ob : Ob) (b off : Nat) (v : Value) : Prop := v.oneCell' = true ∧ ∃ o, ob b = some o ∧ ∀ t c, o = .box t c → ∃ g, (ι b).a = some ⟨g, 0, none⟩ ∧ v = .pointer (some ⟨g, off, none⟩)
def RepAV (ι : Nat → In) (ob : Ob) : AV → Value → Prop
  | .undef, _ => True
  | .int k n, v => v = .int k n
  | .bool b, v => v = .bool b
  | .str s, v => v = .string s
  | .nils, v => v = .slice none 0 0
  | .whole r, v => v.oneCell' = true ∧ ∃ o, ob r = some o ∧ ∀ t m, o.shp = some (t, m) → v = .slice (ι r).a m (ι r).c
  | .cut r off n, v => v.oneCell' = true ∧ ∃ o, ob r = some o ∧ ∀ t m, o.shp = some (t, m) → off + n ≤ m ∧ ∃ A, v = .slice A n ((ι r).c - off) ∧ (off < (ι r).c ∨ off = 0 → A = (ι r).a.map (·.add (off * t.size))) ∧ ((ι r).c ≤ off → A = (ι r).a)
  | .bptr b off, v => RepB ι ob b off v
  | .eptr r i off, v => v.oneCell' = true ∧ ∃ o, ob r = some o ∧ ∀ t m, o.shp = some (t, m) → i < m ∧ ∃ ad, (ι r).a = some ad ∧ ad.spot = none ∧ v = .pointer (some (ad.add (i * t.size + off)))
  | .fn f c, v => ∃ vs : List Value, v = .func (.func f) #[] vs.toArray ∧ All2 (fun p v => RepB ι ob p.1 p.2 v) c vs
def RepP (ι : Nat → In) (ob : Ob) (p : Bool × List AV) (v : Value) : Prop :=
  match p with
  | (true, l) => ∃ cs, v = .agg (List.toArray cs) ∧ All2 (RepAV ι ob) l cs
  | (false, l) => ∀ x, l = [x] → RepAV ι ob x v
def RepDV (ι : Nat → In) (ob : Ob) : DV → Value → Prop
  | .at x, v => RepAV ι ob x v
  | .agg l, v => ∃ cs, v = .agg (List.toArray cs) ∧ All2 (RepAV ι ob) l cs
  | .tup l, v => ∃ vs, v = .tuple (List.toArray vs) ∧ All2 (RepP ι ob) l vs
/-- What an object may become without a word on it falling. -/
def Sh : Obj → Obj → Prop
  | _, .dead => True
  | .box _ _, .box _ _ => True
  | .row e t _ l, .row e' t' _ l' => e = e' ∧ t = t' ∧ l.length = l'.length
  | .deep e t l _, .deep e' t' l' _ => e = e' ∧ t = t' ∧ l.length = l'.length
  | .deep e t l _, .row e' t' _ l' => e = e' ∧ t = t' ∧ l.length = l'.length
  | _, _ => False
theorem Sh.refl : ∀ o, Sh o o
  | .box _ _ => trivial | .row _ _ _ _ => ⟨rfl, rfl, rfl⟩ | .deep _ _ _ _ => ⟨rfl, rfl, rfl⟩ | .dead => trivial
theorem Sh.shp {o o' : Obj} (h : Sh o o') {t : Ty} {m : Nat} (e : o'.shp = some (t, m)) : o.shp = some (t, m) := by
  cases o' with
  | dead => cases e
  | box => cases e
  | row e' t' w' l' => cases o with
    | row => obtain ⟨rfl, rfl, hl⟩ := h; simp only [Obj.shp] at e ⊢; rw [hl]; exact e
    | deep => obtain ⟨rfl, rfl, hl⟩ := h; simp only [Obj.shp] at e ⊢; rw [hl]; exact e
    | _ => exact h.elim
  | deep e' t' l' h' => cases o with
    | deep => obtain ⟨rfl, rfl, hl⟩ := h; simp only [Obj.shp] at e ⊢; rw [hl]; exact e
    | _ => exact h.elim
def Alike (i j : In) : Prop := i.a = j.a ∧ i.c = j.c
theorem Alike.refl (i : In) : Alike i i := ⟨rfl, rfl⟩
theorem Alike.trans {i j k : In} (h : Alike i j) (q : Alike j k) : Alike i k := ⟨h.1.trans q.1, h.2.trans q.2⟩
def Keeps (ι ι' : Nat → In) (ob ob' : Ob) : Prop := ∀ id o, ob id = some o → ∃ o', ob' id = some o' ∧ Sh o o' ∧ Alike (ι' id) (ι id)
theorem Keeps.refl (ι : Nat → In) (ob : Ob) : Keeps ι ι ob ob := fun _ o h => ⟨o, h, Sh.refl o, rfl, rfl⟩
theorem Sh.trans {a b c : Obj} (h : Sh a b) (k : Sh b c) : Sh a c := by
  cases c with
  | dead => cases a <;> trivial
  | box => cases b <;> simp only [Sh] at k <;> cases a <;> simp_all [Sh]
  | row => cases b <;> simp only [Sh] at k <;> cases a <;> simp_all [Sh]
  | deep => cases b <;> simp only [Sh] at k <;> cases a <;> simp_all [Sh]
theorem Keeps.trans {ι ι' ι'' : Nat → In} {ob ob' ob'' : Ob} (h : Keeps ι ι' ob ob') (k : Keeps ι' ι'' ob' ob'') : Keeps ι ι'' ob ob'' := fun id o ho => by
  obtain ⟨o', h1, h2, h3⟩ := h id o ho
  obtain ⟨o'', k1, k2, k3⟩ := k id o' h1
  exact ⟨o'', k1, h2.trans k2, k3.1.trans h3.1, k3.2.trans h3.2⟩
theorem RepB.mono {ι ι' : Nat → In} {ob ob' : Ob} (hk : Keeps ι ι' ob ob') {b off : Nat} {v : Value} (h : RepB ι ob b off v) : RepB ι' ob' b off v := by
  obtain ⟨h1c, o, ho, h⟩ := h
  obtain ⟨o', ho', hs, hi⟩ := hk b o ho
  refine ⟨h1c, o', ho', fun t c e => ?_⟩
  subst e
  cases o with
  | box t0 c0 => rw [hi.1]; exact h t0 c0 rfl
  | row => exact hs.elim
  | deep => exact hs.elim
  | dead => exact hs.elim
theorem RepAV.mono {ι ι' : Nat → In} {ob ob' : Ob} (hk : Keeps ι ι' ob ob') : ∀ {x : AV} {v : Value}, RepAV ι ob x v → RepAV ι' ob' x v
  | .undef, _, _ => trivial
  | .int _ _, _, h => h
  | .bool _, _, h => h
  | .str _, _, h => h
  | .nils, _, h => h
  | .whole r, v, h => by
    obtain ⟨h1c, o, ho, h⟩ := h
    obtain ⟨o', ho', hs, hi⟩ := hk r o ho
    refine ⟨h1c, o', ho', fun t m he => ?_⟩
    have := h _ _ (hs.shp he)
    simpa only [hi.1, hi.2] using this
  | .cut r _ _, v, h => by
    obtain ⟨h1c, o, ho, h⟩ := h
    obtain ⟨o', ho', hs, hi⟩ := hk r o ho
    refine ⟨h1c, o', ho', fun t m he => ?_⟩
    have := h _ _ (hs.shp he)
    simpa only [hi.1, hi.2] using this
  | .bptr _ _, _, h => RepB.mono hk h
  | .eptr r _ _, v, h => by
    obtain ⟨h1c, o, ho, h⟩ := h
    obtain ⟨o', ho', hs, hi⟩ := hk r o ho
    refine ⟨h1c, o', ho', fun t m he => ?_⟩
    have := h _ _ (hs.shp he)
    simpa only [hi.1, hi.2] using this
  | .fn _ _, _, h => by
    obtain ⟨vs, e, h⟩ := h
    exact ⟨vs, e, All2.mono (fun _ _ _ h => RepB.mono hk h) h⟩
theorem RepP.mono {ι ι' : Nat → In} {ob ob' : Ob} (hk : Keeps ι ι' ob ob') {p : Bool × List AV} {v : Value} (h : RepP ι ob p v) : RepP ι' ob' p v := by
  obtain ⟨b, l⟩ := p
  cases b with
  | true => obtain ⟨cs, e, h⟩ := h; exact ⟨cs, e, All2.mono (fun _ _ _ h => RepAV.mono hk h) h⟩
  | false => exact fun x hx => RepAV.mono hk (h x hx)
theorem RepDV.mono {ι ι' : Nat → In} {ob ob' : Ob} (hk : Keeps ι ι' ob ob') : ∀ {d : DV} {v : Value}, RepDV ι ob d v → RepDV ι' ob' d v
  | .at _, _, h => RepAV.mono hk h
  | .agg _, _, h => by obtain ⟨cs, e, h⟩ := h; exact ⟨cs, e, All2.mono (fun _ _ _ h => RepAV.mono hk h) h⟩
  | .tup _, _, h => by obtain ⟨cs, e, h⟩ := h; exact ⟨cs, e, All2.mono (fun _ _ _ h => RepP.mono hk h) h⟩
/-- Objects that may be written. -/
def Wr : Obj → Prop
  | .box _ _ => True | .row _ _ true _ => True | .deep _ _ _ _ => True | _ => False
def W (ι : Nat → In) (ob : Ob) (b : Nat) : Prop := ∃ id o, ob id = some o ∧ Wr o ∧ Blk (ι id) o b
def Nb (w0 : World) (M : Nat → Prop) (ι : Nat → In) (ob : Ob) (w : World) (b : Nat) : Prop := b < w.heap.size ∧ (M b ∨ w0.heap.size ≤ b) ∧ ¬ W ι ob b
def RepO (w : World) (N : Nat → Prop) (ι : Nat → In) (ob : Ob) (id : Nat) : Obj → Prop
  | .box t c => ∃ g cs, (ι id).a = some ⟨g, 0, none⟩ ∧ w.heap[g]? = some (.cells (List.toArray cs) t (0, 0)) ∧ All2 (RepAV ι ob) c cs
  | .row e t true l => Own w N e t l (ι id).a (ι id).c
  | .row _ t false l => Ro w N t l (ι id).a (ι id).c
  | .deep e t l none => DeepOk w e t l (ι id)
  | .deep e t l (some (i, off, q)) => ∃ xs v, OwnAt w e t.size (.slice (ι id).a l.length (ι id).c) l.length xs ∧ RepDL w t l (xs.set (i * t.size + off) (.slice none 0 0)) (ι id).bs ∧ (ι id).blks.Nodup ∧ xs[i * t.size + off]? = some v ∧ RepAV ι ob (.whole q) v
  | .dead => True
/-- Outside of X the blocks of w0 are as they were. -/
structure Fr (w0 : World) (X : Nat → Prop) (w : World) : Prop where
  os : w.os = w0.os
  tape : w.tape = w0.tape
  output : w.output = w0.output
  size : w0.heap.size ≤ w.heap.size
  block : ∀ k, k < w0.heap.size → ¬ X k → w.heap[k]? = w0.heap[k]?
  gl : GOK w0 ∧ ∀ b, GB b → b < w0.heap.size ∧ ¬ X b
theorem Fr.gok {w0 : World} {X : Nat → Prop} {w : World} (h : Fr w0 X w) : GOK w := GOK.keep (fun b hb => h.block b (h.gl.2 b hb).1 (h.gl.2 b hb).2) h.gl.1
structure HS (w0 : World) (X M : Nat → Prop) (ι : Nat → In) (ob : Ob) (w : World) : Prop where
  fr : Fr w0 X w
  obs : ∀ id o, ob id = some o → RepO w (Nb w0 M ι ob w) ι ob id o
  wr : ∀ b, W ι ob b → w0.heap.size ≤ b ∨ X b
  sep : ∀ id id' o o' b, ob id = some o → ob id' = some o' → Wr o → Wr o' → Blk (ι id) o b → Blk (ι id') o' b → id = id'
theorem heap_lt {w : World} {g : Nat} {o : Go.Obj} (h : w.heap[g]? = some o) : g < w.heap.size := (Array.getElem?_eq_some_iff.1 h).1
theorem OwnAt.keep {w w' : World} {e sz : Nat} {A : Option Addr} {n c : Nat} {xs : List Value} (h : OwnAt w e sz (.slice A n c) n xs) (hb : ∀ ad, A = some ad → w'.heap[ad.block]? = w.heap[ad.block]?) : OwnAt w' e sz (.slice A n c) n xs := by
  obtain ⟨h3, h4⟩ := h
  refine ⟨h3, ?_⟩
  rcases h4 with h4 | ⟨g, o, cap, cur, fz, e1, e3, e4⟩
  · exact .inl h4
  · refine .inr ⟨g, o, cap, cur, fz, e1, ?_, e4⟩
    have ea : A = some ⟨g, o, none⟩ := by injection e1
    exact (hb _ ea).trans e3
theorem Own.keepF {w w' : World} {e : Nat} {t : Ty} {l : List t.den} {A : Option Addr} {c : Nat} (h : Own w (fun _ => False) e t l A c) (hb : ∀ ad, A = some ad → w'.heap[ad.block]? = w.heap[ad.block]?) : Own w' (fun _ => False) e t l A c := by
  obtain ⟨xs, h1, h2⟩ := h
  exact ⟨xs, h1.keep hb, RepL.mono (fun _ k => k.elim) h2⟩
theorem RepD.keep {w w' : World} : ∀ {t : Ty} {x : t.den} {cs : List Value} {bs : List Nat}, (∀ b ∈ bs, w'.heap[b]? = w.heap[b]?) → RepD w t x cs bs → RepD w' t x cs bs
  | .unit, _, _, _, _, h => h
  | .int _, _, _, _, _, h => h
  | .bool, _, _, _, _, h => h
  | .str, _, _, _, _, h => h
  | .sl _ _, _, _, _, hb, h => by
    simp only [RepD] at h ⊢
    obtain ⟨A, c, e, h1, h2⟩ := h
    exact ⟨A, c, e, h1.keepF fun ad ha => hb _ (by rw [h2, ha]; simp), h2⟩
  | .two _ _, _, _, _, hb, h => by
    simp only [RepD] at h ⊢
    obtain ⟨c1, c2, b1, b2, ⟨e1, e2⟩, h1, h2⟩ := h
    subst e2
    exact ⟨c1, c2, b1, b2, ⟨e1, rfl⟩, RepD.keep (fun b k => hb b (List.mem_append_left _ k)) h1, RepD.keep (fun b k => hb b (List.mem_append_right _ k)) h2⟩
theorem RepDL.keep {w w' : World} {t : Ty} : ∀ {l : List t.den} {cs : List Value} {bs : List Nat}, (∀ b ∈ bs, w'.heap[b]? = w.heap[b]?) → RepDL w t l cs bs → RepDL w' t l cs bs
  | [], _, _, _, h => h
  | _ :: _, _, _, hb, h => by
    simp only [RepDL] at h ⊢
    obtain ⟨c1, c2, b1, b2, ⟨e1, e2⟩, h1, h2⟩ := h
    subst e2
    exact ⟨c1, c2, b1, b2, ⟨e1, rfl⟩, RepD.keep (fun b k => hb b (List.mem_append_left _ k)) h1, RepDL.keep (fun b k => hb b (List.mem_append_right _ k)) h2⟩
theorem Own.lt {w : World} {N : Nat → Prop} {e : Nat} {t : Ty} {l : List t.den} {A : Option Addr} {c : Nat} (h : Own w N e t l A c) {ad : Addr} (ha : A = some ad) : ad.block < w.heap.size := by
  obtain ⟨xs, h1, _⟩ := h
  rw [ha] at h1
  exact OwnAt.lt h1 ad.block rfl
theorem RepD.lt {w : World} : ∀ {t : Ty} {x : t.den} {cs : List Value} {bs : List Nat}, RepD w t x cs bs → ∀ b ∈ bs, b < w.heap.size
  | .unit, _, _, _, h, b, hb => by simp only [RepD] at h; rw [h.2] at hb; cases hb
  | .int _, _, _, _, h, b, hb => by simp only [RepD] at h; rw [h.2] at hb; cases hb
  | .bool, _, _, _, h, b, hb => by simp only [RepD] at h; rw [h.2] at hb; cases hb
  | .str, _, _, _, h, b, hb => by simp only [RepD] at h; rw [h.2] at hb; cases hb
  | .sl _ _, _, _, _, h, b, hb => by
    simp only [RepD] at h
    obtain ⟨A, c, e, h1, h2⟩ := h
    subst h2
    cases A with
    | none => cases hb
    | some ad => simp at hb; subst hb; exact h1.lt rfl
  | .two _ _, _, _, _, h, b, hb => by
    simp only [RepD] at h
    obtain ⟨c1, c2, b1, b2, ⟨e1, e2⟩, h1, h2⟩ := h
    subst e2
    rcases List.mem_append.1 hb with hb | hb
    · exact RepD.lt h1 b hb
    · exact RepD.lt h2 b hb
theorem RepDL.lt {w : World} {t : Ty} : ∀ {l : List t.den} {cs : List Value} {bs : List Nat}, RepDL w t l cs bs → ∀ b ∈ bs, b < w.heap.size
  | [], _, _, h, b, hb => by simp only [RepDL] at h; rw [h.2] at hb; cases hb
  | _ :: _, _, _, h, b, hb => by
    simp only [RepDL] at h
    obtain ⟨c1, c2, b1, b2, ⟨e1, e2⟩, h1, h2⟩ := h
    subst e2
    rcases List.mem_append.1 hb with hb | hb
    · exact h1.lt b hb
    · exact RepDL.lt h2 b hb
theorem mem_blks {i : In} {b : Nat} : b ∈ i.blks ↔ (∃ ad, i.a = some ad ∧ ad.block = b) ∨ b ∈ i.bs := by
  unfold In.blks
  cases i.a <;> simp [eq_comm]
theorem Blk.main {i : In} {o : Obj} {ad : Addr} (h : i.a = some ad) : Blk i o ad.block := by
  cases o with
  | deep => exact mem_blks.2 (.inl ⟨ad, h, rfl⟩)
  | _ => exact ⟨ad, h, rfl⟩
/-- An object that is no deep row has one block. -/
def Obj.isDeep : Obj → Bool | .deep _ _ _ _ => true | _ => false
theorem Blk.flat {i : In} {o : Obj} (ho : o.isDeep = false) {b : Nat} : Blk i o b ↔ ∃ ad, i.a = some ad ∧ ad.block = b := by
  cases o with
  | deep => cases ho
  | _ => exact Iff.rfl
theorem RepO.lt {w : World} {N : Nat → Prop} {ι : Nat → In} {ob : Ob} {id : Nat} {o : Obj} (h : RepO w N ι ob id o) (hw : Wr o) {b : Nat} (hb : Blk (ι id) o b) : b < w.heap.size := by
  match o, h, hw with
  | .box t c, ⟨g, cs, h1, h2, _⟩, _ =>
    obtain ⟨ad, ha, rfl⟩ := hb
    rw [ha] at h1; cases h1; exact heap_lt h2
  | .row e t true l, ⟨xs, h1, _⟩, _ =>
    obtain ⟨ad, ha, rfl⟩ := hb
    rw [ha] at h1
    exact OwnAt.lt h1 ad.block rfl
  | .deep e t l none, h, _ =>
    obtain ⟨xs, h1, h2, _⟩ := h
    rcases mem_blks.1 hb with ⟨ad, ha, rfl⟩ | hb
    · rw [ha] at h1
      exact OwnAt.lt h1 ad.block rfl
    · exact h2.lt b hb
  | .deep e t l (some (i, off, q)), h, _ =>
    obtain ⟨xs, v, h1, h2, _⟩ := h
    rcases mem_blks.1 hb with ⟨ad, ha, rfl⟩ | hb
    · rw [ha] at h1
      exact OwnAt.lt h1 ad.block rfl
    · exact h2.lt b hb
theorem HS.lt {w0 : World} {X M : Nat → Prop} {ι : Nat → In} {ob : Ob} {w : World} (h : HS w0 X M ι ob w) {b : Nat} (hb : W ι ob b) : b < w.heap.size := by
  obtain ⟨id, o, h1, h2, h3⟩ := hb
  exact (h.obs id o h1).lt h2 h3

theorem RepO.keep {w w' : World} {N N' : Nat → Prop} {ι ι' : Nat → In} {ob ob' : Ob} {id : Nat} {o : Obj} (hN : ∀ b, N b → N' b ∧ w'.heap[b]? = w.heap[b]?) (hk : Keeps ι ι' ob ob') (hi : ι' id = ι id)
    (hb : Wr o → ∀ b, Blk (ι id) o b → w'.heap[b]? = w.heap[b]?) (h : RepO w N ι ob id o) : RepO w' N' ι' ob' id o := by
  match o, h, hb with
  | .box t c, ⟨g, cs, h1, h2, h3⟩, hb =>
    exact ⟨g, cs, by rw [hi]; exact h1, (hb trivial _ (Blk.main h1)).trans h2, All2.mono (fun _ _ _ h => RepAV.mono hk h) h3⟩
  | .row e t true l, ⟨xs, h1, h2⟩, hb =>
    refine ⟨xs, ?_, RepL.mono hN h2⟩
    rw [hi]
    exact h1.keep fun ad ha => hb trivial _ (Blk.main ha)
  | .row _ t false l, h, _ => rw [RepO, hi]; exact Ro.mono hN h
  | .deep e t l none, h, hb =>
    rw [RepO] at h ⊢
    rw [hi]
    obtain ⟨xs, h1, h2, h3⟩ := h
    exact ⟨xs, h1.keep fun ad ha => hb trivial _ (Blk.main ha), h2.keep fun b k => hb trivial b (mem_blks.2 (.inr k)), h3⟩
  | .deep e t l (some (i, off, q)), h, hb =>
    rw [RepO] at h ⊢
    rw [hi]
    obtain ⟨xs, v, h1, h2, h3, h4, h5⟩ := h
    exact ⟨xs, v, h1.keep fun ad ha => hb trivial _ (Blk.main ha), h2.keep fun b k => hb trivial b (mem_blks.2 (.inr k)), h3, h4, RepAV.mono hk h5⟩
  | .dead, _, _ => trivial
/-- One step of rows and boxes. -/
theorem HS.step0 {w0 : World} {X M : Nat → Prop} {ι ι' : Nat → In} {ob ob' : Ob} {w w' : World} (h : HS w0 X M ι ob w) (hfr : Fr w0 X w') (hsz : w.heap.size ≤ w'.heap.size)
    (hheap : ∀ b, b < w.heap.size → ¬ W ι ob b → w'.heap[b]? = w.heap[b]?)
    (hk : Keeps ι ι' ob ob')
    (hW : ∀ b, W ι' ob' b → W ι ob b ∨ w.heap.size ≤ b)
    (hsep : ∀ id id' o o' b, ob' id = some o → ob' id' = some o' → Wr o → Wr o' → Blk (ι' id) o b → Blk (ι' id') o' b → id = id')
    (hob : (∀ b, Nb w0 M ι ob w b → Nb w0 M ι' ob' w' b ∧ w'.heap[b]? = w.heap[b]?) → ∀ id o, ob' id = some o → (ob id = some o ∧ ι' id = ι id ∧ (Wr o → ∀ b, Blk (ι id) o b → w'.heap[b]? = w.heap[b]?)) ∨ RepO w' (Nb w0 M ι' ob' w') ι' ob' id o) :
    HS w0 X M ι' ob' w' := by
  have hN : ∀ b, Nb w0 M ι ob w b → Nb w0 M ι' ob' w' b ∧ w'.heap[b]? = w.heap[b]? := by
    rintro b ⟨h1, h2, h3⟩
    refine ⟨⟨by omega, h2, fun k => ?_⟩, hheap b h1 h3⟩
    rcases hW b k with k | k
    · exact h3 k
    · omega
  refine ⟨hfr, fun id o ho => ?_, fun b hb => ?_, hsep⟩
  · rcases hob hN id o ho with ⟨h1, h2, h3⟩ | h1
    · exact RepO.keep hN hk h2 h3 (h.obs id o h1)
    · exact h1
  · rcases hW b hb with k | k
    · exact h.wr b k
    · exact .inl (Nat.le_trans h.fr.size k)
theorem HS.step {w0 : World} {X M : Nat → Prop} {ι ι' : Nat → In} {ob ob' : Ob} {w w' : World} (h : HS w0 X M ι ob w) (hfr : Fr w0 X w') (hsz : w.heap.size ≤ w'.heap.size)
    (hheap : ∀ b, b < w.heap.size → ¬ W ι ob b → w'.heap[b]? = w.heap[b]?)
    (hk : Keeps ι ι' ob ob')
    (hnew : ∀ id o b, ob' id = some o → Wr o → Blk (ι' id) o b → (∃ o0, ob id = some o0 ∧ Wr o0 ∧ Blk (ι id) o0 b) ∨ w.heap.size ≤ b)
    (hinj : ∀ id id' o o' b, ob' id = some o → ob' id' = some o' → Wr o → Wr o' → Blk (ι' id) o b → Blk (ι' id') o' b → w.heap.size ≤ b → id = id')
    (hob : (∀ b, Nb w0 M ι ob w b → Nb w0 M ι' ob' w' b ∧ w'.heap[b]? = w.heap[b]?) → ∀ id o, ob' id = some o → (ob id = some o ∧ ι' id = ι id ∧ (Wr o → ∀ b, Blk (ι id) o b → w'.heap[b]? = w.heap[b]?)) ∨ RepO w' (Nb w0 M ι' ob' w') ι' ob' id o) :
    HS w0 X M ι' ob' w' := by
  refine h.step0 hfr hsz hheap hk ?_ (fun id id' o o' b a1 a2 a3 a4 a5 a6 => ?_) hob
  · rintro b ⟨id, o, h1, h2, h3⟩
    rcases hnew id o b h1 h2 h3 with ⟨o0, k1, k2, k3⟩ | k
    · exact .inl ⟨id, o0, k1, k2, k3⟩
    · exact .inr k
  · rcases hnew id o b a1 a3 a5 with ⟨o0, k1, k2, k3⟩ | k
    · rcases hnew id' o' b a2 a4 a6 with ⟨o0', q1, q2, q3⟩ | q
      · exact h.sep id id' o0 o0' b k1 q1 k2 q2 k3 q3
      · have := (h.obs id o0 k1).lt k2 k3
        omega
    · exact hinj id id' o o' b a1 a2 a3 a4 a5 a6 k
theorem Fr.refl (w : World) (X : Nat → Prop) (h : GOK w ∧ ∀ b, GB b → b < w.heap.size ∧ ¬ X b) : Fr w X w := ⟨rfl, rfl, rfl, Nat.le_refl _, fun _ _ _ => rfl, h⟩
theorem Fr.step {w0 : World} {X : Nat → Prop} {w w' : World} (h : Fr w0 X w) (h1 : w'.os = w.os) (h2 : w'.tape = w.tape) (h3 : w'.output = w.output) (h4 : w.heap.size ≤ w'.heap.size)
    (hb : ∀ k, k < w0.heap.size → ¬ X k → w'.heap[k]? = w.heap[k]?) : Fr w0 X w' :=
  ⟨h1.trans h.os, h2.trans h.tape, h3.trans h.output, Nat.le_trans h.size h4, fun k hk hx => (hb k hk hx).trans (h.block k hk hx), h.gl⟩
/-- What stays outside of the blocks that may be written. -/
theorem HS.fr_step {w0 : World} {X M : Nat → Prop} {ι : Nat → In} {ob : Ob} {w w' : World} (h : HS w0 X M ι ob w) (h1 : w'.os = w.os) (h2 : w'.tape = w.tape) (h3 : w'.output = w.output) (h4 : w.heap.size ≤ w'.heap.size)
    (hheap : ∀ b, b < w.heap.size → ¬ W ι ob b → w'.heap[b]? = w.heap[b]?) : Fr w0 X w' :=
  h.fr.step h1 h2 h3 h4 fun k hk hx => hheap k (Nat.lt_of_lt_of_le hk h.fr.size) fun hw => by
    rcases h.wr k hw with q | q
    · omega
    · exact hx q
theorem upd_same {α : Type} (f : Nat → α) (i : Nat) (x : α) : upd f i x i = x := by simp [upd]
theorem upd_ne {α : Type} (f : Nat → α) (i : Nat) (x : α) (j : Nat) (h : j ≠ i) : upd f i x j = f j := by
  have : Nat.beq j i = false := by
    cases h' : Nat.beq j i with
    | false => rfl
    | true => exact absurd (Nat.eq_of_beq_eq_true h') h
  simp [upd, this]
theorem Keeps.new {ι : Nat → In} {ob : Ob} (id : Nat) (o : Obj) (i : In) (h : ob id = none) : Keeps ι (upd ι id i) ob (upd ob id (some o)) := fun j p hp => by
  have : j ≠ id := fun e => by subst e; rw [h] at hp; cases hp
  exact ⟨p, by rw [upd_ne _ _ _ _ this]; exact hp, Sh.refl p, by rw [upd_ne _ _ _ _ this], by rw [upd_ne _ _ _ _ this]⟩
theorem Keeps.put {ι : Nat → In} {ob : Ob} (id : Nat) (o o' : Obj) (h : ob id = some o) (hs : Sh o o') : Keeps ι ι ob (upd ob id (some o')) := fun j p hp => by
  by_cases e : j = id
  · subst e; rw [h] at hp; cases hp; exact ⟨o', upd_same _ _ _, hs, rfl, rfl⟩
  · exact ⟨p, by rw [upd_ne _ _ _ _ e]; exact hp, Sh.refl p, rfl, rfl⟩
theorem Blk.one {i : In} (hi : i.bs = []) {o : Obj} {b : Nat} (h : Blk i o b) : ∃ ad, i.a = some ad ∧ ad.block = b := by
  cases o with
  | deep =>
    rcases mem_blks.1 h with h | h
    · exact h
    · rw [hi] at h; cases h
  | _ => exact h
theorem Blk.sh {o o' : Obj} (hs : Sh o o') (hw : Wr o') {i : In} {b : Nat} (h : Blk i o' b) : Blk i o b := by
  cases o' with
  | dead => exact hw.elim
  | row => cases o <;> first | exact h | exact hs.elim | exact mem_blks.2 (.inl h)
  | _ => cases o <;> first | exact h | exact hs.elim
/-- A new row that is read alone. -/
theorem HS.newRo {w0 : World} {X M : Nat → Prop} {ι : Nat → In} {ob : Ob} {w : World} (h : HS w0 X M ι ob w) (id e : Nat) (t : Ty) (l : List t.den) (A : Option Addr) (c : Nat) (hid : ob id = none) (hr : Ro w (Nb w0 M ι ob w) t l A c) :
    HS w0 X M (upd ι id ⟨A, c, []⟩) (upd ob id (some (.row e t false l))) w := by
  have hk := Keeps.new (ι := ι) id (.row e t false l) ⟨A, c, []⟩ hid
  have hne : ∀ j o, upd ob id (some (.row e t false l)) j = some o → Wr o → j ≠ id := fun j o ho hw e => by
    subst e; rw [upd_same] at ho; cases ho; exact hw
  refine h.step h.fr (Nat.le_refl _) (fun _ _ _ => rfl) hk (fun j o b ho hw ha => .inl ?_) (fun j j' o o' b a1 a2 a3 a4 a5 a6 a7 => ?_) (fun hN j o ho => ?_)
  · have := hne j o ho hw
    rw [upd_ne _ _ _ _ this] at ho ha
    exact ⟨o, ho, hw, ha⟩
  · have n1 := hne j o a1 a3
    rw [upd_ne _ _ _ _ n1] at a1 a5
    have := (h.obs j o a1).lt a3 a5
    omega
  · by_cases e : j = id
    · subst e
      rw [upd_same] at ho
      cases ho
      right
      simp only [RepO, upd_same]
      exact Ro.mono hN hr
    · rw [upd_ne _ _ _ _ e] at ho
      exact .inl ⟨ho, upd_ne _ _ _ _ e, fun _ _ _ => rfl⟩
/-- A new block: a box or a row of the call's own. -/
theorem HS.newBlk {w0 : World} {X M : Nat → Prop} {ι : Nat → In} {ob : Ob} {w : World} (h : HS w0 X M ι ob w) (id : Nat) (o : Obj) (c : Nat) (b : Go.Obj) (hid : ob id = none) (hw : Wr o)
    (hr : ∀ N ι' ob' w', Keeps ι ι' ob ob' → (∀ b, Nb w0 M ι ob w b → N b ∧ w'.heap[b]? = w.heap[b]?) → ι' id = ⟨some ⟨w.heap.size, 0, none⟩, c, []⟩ → w'.heap[w.heap.size]? = some b → RepO w' N ι' ob' id o) :
    HS w0 X M (upd ι id ⟨some ⟨w.heap.size, 0, none⟩, c, []⟩) (upd ob id (some o)) (w.alloc b) := by
  have hk := Keeps.new (ι := ι) id o ⟨some ⟨w.heap.size, 0, none⟩, c, []⟩ hid
  have hh : ∀ b', b' < w.heap.size → (w.alloc b).heap[b']? = w.heap[b']? := fun k hk => Below.heap_alloc w b k hk
  have hs : w.heap.size ≤ (w.alloc b).heap.size := by show _ ≤ (w.heap.push b).size; simp
  refine h.step (h.fr_step rfl rfl rfl hs (fun b hb _ => hh b hb)) hs (fun b hb _ => hh b hb) hk (fun j o' b' ho hw ha => ?_) (fun j j' o1 o2 b' a1 a2 a3 a4 a5 a6 a7 => ?_) (fun hN j o' ho => ?_)
  · by_cases e : j = id
    · subst e
      rw [upd_same] at ha
      obtain ⟨ad, h1, rfl⟩ := Blk.one rfl ha
      cases h1
      exact .inr (Nat.le_refl _)
    · rw [upd_ne _ _ _ _ e] at ho ha
      exact .inl ⟨o', ho, hw, ha⟩
  · have key : ∀ j o1, upd ob id (some o) j = some o1 → Wr o1 → Blk (upd ι id ⟨some ⟨w.heap.size, 0, none⟩, c, []⟩ j) o1 b' → j = id := by
      intro j o1 a1 a3 a5
      by_cases e : j = id
      · exact e
      · rw [upd_ne _ _ _ _ e] at a1 a5
        have := (h.obs j o1 a1).lt a3 a5
        omega
    rw [key j o1 a1 a3 a5, key j' o2 a2 a4 a6]
  · by_cases e : j = id
    · subst e
      rw [upd_same] at ho
      cases ho
      exact .inr (hr _ _ _ _ hk hN (upd_same _ _ _) (heap_alloc_new w b))
    · rw [upd_ne _ _ _ _ e] at ho
      exact .inl ⟨ho, upd_ne _ _ _ _ e, fun hw b' ha => hh _ ((h.obs j o' ho).lt hw ha)⟩
/-- An object is written in its own block, or only its word changes. -/
theorem HS.put {w0 : World} {X M : Nat → Prop} {ι : Nat → In} {ob : Ob} {w w' : World} (h : HS w0 X M ι ob w) (id : Nat) (o o' : Obj) (hid : ob id = some o) (hwr : Wr o) (hs : Sh o o') (hsz : w'.heap.size = w.heap.size)
    (e1 : w'.os = w.os) (e2 : w'.tape = w.tape) (e3 : w'.output = w.output)
    (hheap : ∀ b, (∀ ad, (ι id).a = some ad → ad.block ≠ b) → w'.heap[b]? = w.heap[b]?)
    (hr : ∀ N ob', Keeps ι ι ob ob' → (∀ b, Nb w0 M ι ob w b → N b ∧ w'.heap[b]? = w.heap[b]?) → (¬ Wr o' → ∀ ad, (ι id).a = some ad → ad.block < w.heap.size → (M ad.block ∨ w0.heap.size ≤ ad.block) → N ad.block) → RepO w' N ι ob' id o') :
    HS w0 X M ι (upd ob id (some o')) w' := by
  have hk := Keeps.put (ι := ι) id o o' hid hs
  have hh : ∀ b, b < w.heap.size → ¬ W ι ob b → w'.heap[b]? = w.heap[b]? := fun b _ hb => hheap b fun ad ha e => hb ⟨id, o, hid, hwr, e ▸ Blk.main ha⟩
  refine h.step (h.fr_step e1 e2 e3 (by omega) hh) (by omega) hh hk (fun j o1 b ho hw ha => .inl ?_) (fun j j' o1 o2 b a1 a2 a3 a4 a5 a6 a7 => ?_) (fun hN j o1 ho => ?_)
  · by_cases e : j = id
    · subst e
      rw [upd_same] at ho
      cases ho
      exact ⟨o, hid, hwr, Blk.sh hs hw ha⟩
    · rw [upd_ne _ _ _ _ e] at ho; exact ⟨o1, ho, hw, ha⟩
  · by_cases e : j = id
    · subst e
      rw [upd_same] at a1
      cases a1
      have := (h.obs _ o hid).lt hwr (Blk.sh hs a3 a5)
      omega
    · rw [upd_ne _ _ _ _ e] at a1
      have := (h.obs j o1 a1).lt a3 a5
      omega
  · by_cases e : j = id
    · subst e
      rw [upd_same] at ho
      cases ho
      refine .inr (hr _ _ hk hN fun hn ad ha hlt hM => ⟨by omega, hM, ?_⟩)
      rintro ⟨j', o2, k1, k2, k3⟩
      by_cases e' : j' = j
      · subst e'; rw [upd_same] at k1; cases k1; exact hn k2
      · rw [upd_ne _ _ _ _ e'] at k1
        exact e' (h.sep j' j o2 o _ k1 hid k2 hwr k3 (Blk.main ha))
    · rw [upd_ne _ _ _ _ e] at ho
      refine .inl ⟨ho, rfl, fun hw b ha => hheap _ fun ad' ha' e' => e ?_⟩
      exact h.sep j id o1 o b ho hid hw hwr ha (e' ▸ Blk.main ha')
end Go.Proofs.YtpinehfjimphmaaGreat.DI
