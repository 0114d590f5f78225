/- The machine of values: what a function's run in it says of calls. -/
import Derived.Test.YtfaeklomiofpdaaDoorDICode
namespace Go.Proofs.YtfaeklomiofpdaaDoor.DI
open Go Go.RowKit
set_option linter.unusedVariables false
set_option linter.unusedSimpArgs false
/-- A slot's value is a cell. -/
def IsC (ob : Ob) (y : AV) (c : Cell) : Prop := ofAV ob c.t y = some c.v
theorem cells_of : ∀ {ob : Ob} {t : Ty} {l : List AV} {x : t.den}, ofAVs ob t l = some x → All2 (IsC ob) l (Ty.cells t x)
  | ob, .two a b, x :: r, y, h => by
    simp only [ofAVs] at h
    obtain ⟨y1, h1, h⟩ := Option.bind_eq_some_iff.1 h
    obtain ⟨y2, h2, h⟩ := Option.bind_eq_some_iff.1 h
    cases h
    have s1 := ofAV_size h1
    have : Ty.cells a y1 = [⟨a, y1⟩] := by
      cases a <;> first | rfl | (simp [ofAV] at h1; done) | (cases x <;> simp [ofAV] at h1)
    simp only [Ty.cells, this]
    exact ⟨h1, cells_of h2⟩
  | ob, .two _ _, [], y, h => by cases h
  | ob, .unit, [], _, _ => trivial
  | ob, .unit, _ :: _, _, h => by cases h
  | ob, .int k, [x], y, h => ⟨h, trivial⟩
  | ob, .bool, [x], y, h => ⟨h, trivial⟩
  | ob, .str, [x], y, h => ⟨h, trivial⟩
  | ob, .sl e t, [x], y, h => ⟨h, trivial⟩
  | ob, .int _, [], _, h => by cases h
  | ob, .bool, [], _, h => by cases h
  | ob, .str, [], _, h => by cases h
  | ob, .sl _ _, [], _, h => by cases h
  | ob, .int _, _ :: _ :: _, _, h => by cases h
  | ob, .bool, _ :: _ :: _, _, h => by cases h
  | ob, .str, _ :: _ :: _, _, h => by cases h
  | ob, .sl _ _, _ :: _ :: _, _, h => by cases h
def inOf : Value → In | .slice a _ c => ⟨a, c⟩ | _ => ⟨none, 0⟩
/-- The places of the rows that cells become. -/
def insOf : Nat → List Cell → List Value → List (Nat × In)
  | id, ⟨.sl _ _, _⟩ :: r, u :: us => (id, inOf u) :: insOf (id + 1) r us
  | id, _ :: r, _ :: us => insOf (id + 1) r us
  | _, _, _ => []
/-- A cell's value: numbers as they are, a row's place. -/
def CellV : Cell → Value → Prop
  | ⟨.int k, n⟩, u => u = .int k n
  | ⟨.bool, b⟩, u => u = .bool b
  | ⟨.str, s⟩, u => u = .string s
  | ⟨.sl _ t, l⟩, u => ∃ A c, u = .slice A (List.length (α := t.den) l) c
  | _, _ => False
/-- What is told of the row of a cell. -/
def CellR (own : Bool) (w : World) (N : Nat → Prop) : Cell → Value → Prop
  | ⟨.sl e t, l⟩, u => if own then Own w N e t l (inOf u).a (inOf u).c else Ro w N t l (inOf u).a (inOf u).c
  | _, _ => True
theorem toOwns_cons (own : Bool) (id : Nat) (c : Cell) (r : List Cell) : toOwns own id (c :: r) = ((c.toOwn own id).1 :: (toOwns own (id + 1) r).1, (c.toOwn own id).2 ++ (toOwns own (id + 1) r).2) := rfl
theorem insOf_fst (own : Bool) : ∀ (id : Nat) (cs : List Cell) (us : List Value), cs.length = us.length → (insOf id cs us).map Prod.fst = outIds (toOwns own id cs).2
  | id, [], [], _ => rfl
  | id, [], _ :: _, h => by cases h
  | id, _ :: _, [], h => by cases h
  | id, ⟨t, v⟩ :: r, u :: us, h => by
    rw [toOwns_cons]
    have ih := insOf_fst own (id + 1) r us (by simpa using h)
    cases t <;> simp [insOf, Cell.toOwn, Cell.toAV, outIds] at ih ⊢ <;> exact ih
/-- The slots that cells become, in any state that has their rows. -/
theorem toOwns_rep (own : Bool) {ι0 : Nat → In} {ob0 : Ob} : ∀ (id : Nat) (cs : List Cell) (us : List Value), All2 CellV cs us → (∀ p ∈ (toOwns own id cs).2, ob0 p.1 = some p.2) → (∀ p ∈ insOf id cs us, ι0 p.1 = p.2) → All2 (RepAV ι0 ob0) (toOwns own id cs).1 us
  | id, [], [], _, _, _ => trivial
  | id, [], _ :: _, h, _, _ => h.elim
  | id, _ :: _, [], h, _, _ => h.elim
  | id, ⟨t, v⟩ :: r, u :: us, h, ho, hi => by
    rw [toOwns_cons] at ho ⊢
    have ih : ∀ (h1 : ∀ p ∈ insOf (id + 1) r us, ι0 p.1 = p.2), All2 (RepAV ι0 ob0) (toOwns own (id + 1) r).1 us := fun h1 => toOwns_rep own (id + 1) r us h.2 (fun p hp => ho p (List.mem_append_right _ hp)) h1
    have hv := h.1
    cases t with
    | unit => exact hv.elim
    | two a b => exact hv.elim
    | int k => exact ⟨hv, ih fun p hp => hi p hp⟩
    | bool => exact ⟨hv, ih fun p hp => hi p hp⟩
    | str => exact ⟨hv, ih fun p hp => hi p hp⟩
    | sl e t =>
      obtain ⟨A, c, rfl⟩ := hv
      refine ⟨⟨rfl, _, ho (id, .row e t own v) (by simp [Cell.toOwn]), fun e' t' o' l' he => ?_⟩, ih fun p hp => hi p (List.mem_cons_of_mem _ hp)⟩
      cases he
      rw [hi (id, inOf (.slice A (List.length (α := t.den) v) c)) (by simp [insOf])]
      rfl
/-- The rows that cells become, each at its place. -/
theorem toOwns_obj (own : Bool) {ι0 : Nat → In} {w : World} {N : Nat → Prop} : ∀ (id : Nat) (cs : List Cell) (us : List Value), All2 (CellR own w N) cs us → (∀ p ∈ insOf id cs us, ι0 p.1 = p.2) →
    ∀ p ∈ (toOwns own id cs).2, ∃ e t l, p.2 = .row e t own l ∧ (if own then Own w N e t l (ι0 p.1).a (ι0 p.1).c else Ro w N t l (ι0 p.1).a (ι0 p.1).c)
  | id, [], [], _, _ => by intro p hp; cases hp
  | id, [], _ :: _, h, _ => h.elim
  | id, _ :: _, [], h, _ => h.elim
  | id, ⟨t, v⟩ :: r, u :: us, h, hi => by
    rw [toOwns_cons]
    intro p hp
    rcases List.mem_append.1 hp with hp | hp
    · cases t <;> simp [Cell.toOwn, Cell.toAV] at hp
      subst hp
      refine ⟨_, _, v, rfl, ?_⟩
      rw [hi (id, inOf u) (by simp [insOf])]
      exact h.1
    · refine toOwns_obj own (id + 1) r us h.2 (fun q hq => hi q ?_) p hp
      cases t <;> first | exact hq | exact List.mem_cons_of_mem _ hq
theorem CellV.of {N : Nat → Prop} {w : World} {c : Cell} {u : Value} (h : RepC w N c.t c.v [u]) (hs : c.t.size = 1) (h2 : ∀ a b, c.t ≠ .two a b) : CellV c u ∧ CellR false w N c u := by
  obtain ⟨t, v⟩ := c
  cases t with
  | unit => cases hs
  | two a b => exact (h2 a b rfl).elim
  | int k => simp only [RepC, List.cons.injEq, and_true] at h; exact ⟨h, trivial⟩
  | bool => simp only [RepC, List.cons.injEq, and_true] at h; exact ⟨h, trivial⟩
  | str => simp only [RepC, List.cons.injEq, and_true] at h; exact ⟨h, trivial⟩
  | sl e t =>
    obtain ⟨A, c, h1, h2⟩ := Ro.of_cell h
    simp only [List.cons.injEq, and_true] at h1
    subst h1
    exact ⟨⟨A, c, rfl⟩, h2⟩
theorem IsC.whole {ob : Ob} {i e : Nat} {t : Ty} {own : Bool} {l : List t.den} {c : Cell} (h : IsC ob (.whole i) c) (hob : ob i = some (.row e t own l)) : c = ⟨.sl e t, l⟩ := by
  obtain ⟨ct, cv⟩ := c
  unfold IsC at h
  cases ct <;> simp only [ofAV, hob] at h <;> try (cases h; done)
  split at h
  · rename_i hh
    obtain ⟨rfl, rfl⟩ := hh
    cases h
    rfl
  · cases h
theorem IsC.atom {ob : Ob} {y : AV} {c : Cell} (h : IsC ob y c) : c.t.size = 1 ∧ ∀ a b, c.t ≠ .two a b := by
  refine ⟨ofAV_size h, fun a b e => ?_⟩
  obtain ⟨t, v⟩ := c
  simp only at e
  subst e
  cases y <;> cases h
section
variable {w0 : World} {X M : Nat → Prop} {ι : Nat → In} {w : World} {ob : Ob}
/-- Cells that are handed over to be read. -/
theorem read_cells {N : Nat → Prop} : ∀ {l : List AV} {cs : List Cell} {us : List Value}, All2 (IsC ob) l cs → All2 (RepAV ι ob) l us → (∀ r ∈ idsOf l, ∀ e t own x, ob r = some (.row e t own x) → Ro w N t x (ι r).a (ι r).c) →
    All2 CellV cs us ∧ All2 (CellR false w N) cs us
  | [], [], [], _, _, _ => ⟨trivial, trivial⟩
  | [], [], _ :: _, _, h, _ => h.elim
  | [], _ :: _, _, h, _, _ => h.elim
  | _ :: _, [], _, h, _, _ => h.elim
  | _ :: _, _ :: _, [], _, h, _ => h.elim
  | y :: l, c :: cs, u :: us, h1, h2, h3 => by
    have h := rep_ofAV (s := ⟨fun _ => .at .undef, ob⟩) h1.1 h2.1 (fun r hr => h3 r (mem_idsOf_cons.2 (.inl hr)))
    obtain ⟨k1, k2⟩ := CellV.of h h1.1.atom.1 h1.1.atom.2
    obtain ⟨q1, q2⟩ := read_cells h1.2 h2.2 (fun r hr => h3 r (mem_idsOf_cons.2 (.inr hr)))
    exact ⟨⟨k1, q1⟩, ⟨k2, q2⟩⟩
theorem All2.split {α β : Type} {R : α → β → Prop} : ∀ {l l' : List α} {q : List β}, All2 R (l ++ l') q → All2 R l (q.take l.length) ∧ All2 R l' (q.drop l.length)
  | [], l', q, h => ⟨by simp [All2], h⟩
  | a :: l, l', b :: q, h => by
    obtain ⟨h1, h2⟩ := All2.split (l := l) h.2
    exact ⟨⟨h.1, h1⟩, h2⟩
  | a :: l, l', [], h => h.elim
/-- Names of the rows of cells of the call's own. -/
def owL : Nat → List AV → List (Nat × Nat)
  | _, [] => []
  | id, x :: l => x.ids.map (fun r => (id, r)) ++ owL (id + 1) l
theorem owL_snd : ∀ (id : Nat) (l : List AV), (owL id l).map Prod.snd = idsOf l
  | _, [] => rfl
  | id, x :: l => by
    have := owL_snd (id + 1) l
    simp only [owL, List.map_append, this, idsOf, List.flatMap_cons, List.map_map]
    congr 1
    exact List.map_id _
/-- Objects of the call's own that are handed over to be written and stay: the callee's name of each, and the caller's. -/
def owP : Nat → List PK → List DV → List (Nat × Nat)
  | j, .box _ _ :: ps, .at (.bptr b _) :: r => (j * 16, b) :: owP (j + 1) ps r
  | j, .row :: ps, .at (.whole i) :: r => (j * 16, i) :: owP (j + 1) ps r
  | j, .aggw _ _ :: ps, .agg l :: r => owL (j * 16) l ++ owP (j + 1) ps r
  | j, .boxg _ _ :: ps, .at (.bptr b _) :: r => (j * 16, b) :: owP (j + 1) ps r
  | j, .fnp _ _ _ :: ps, .at (.fn _ [(b, _)]) :: r => (j * 16, b) :: owP (j + 1) ps r
  | j, _ :: ps, _ :: r => owP (j + 1) ps r
  | _, _, _ => []
theorem owP_snd : ∀ (j : Nat) (ps : List PK) (args : List DV), (owP j ps args).map Prod.snd = boxIds ps args := by
  intro j ps args
  induction j, ps, args using owP.induct <;> simp_all [owP, boxIds, owL_snd]
/-- Rows that are handed over for good. -/
def gvP (ob : Ob) : Nat → List PK → List DV → List (Nat × Nat)
  | j, .give :: ps, .at (.whole i) :: r => (j * 16, i) :: gvP ob (j + 1) ps r
  | j, .boxg _ _ :: ps, .at (.bptr b _) :: r => owL (j * 16 + 1) (match ob b with | some (.box _ c) => c | _ => []) ++ gvP ob (j + 1) ps r
  | j, _ :: ps, _ :: r => gvP ob (j + 1) ps r
  | _, _, _ => []
theorem gvP_snd {ob : Ob} : ∀ (j : Nat) (ps : List PK) (args : List DV), (gvP ob j ps args).map Prod.snd = gvIds ob ps args := by
  intro j ps args
  induction j, ps, args using gvP.induct <;> simp_all [gvP, gvIds, owL_snd]
  split <;> simp_all [idsOf]
/-- What a callee's objects are at its entry. -/
def InObj (ι : Nat → In) (ob : Ob) (w : World) (N : Nat → Prop) (OW : List (Nat × Nat)) (ι0 : Nat → In) (ob0 : Ob) (p : Nat × Obj) : Prop :=
  match p.2 with
  | .row _ t false l => Ro w N t l (ι0 p.1).a (ι0 p.1).c
  | .row e t true l => ∃ i, (p.1, i) ∈ OW ∧ ι0 p.1 = ι i ∧ ob i = some (.row e t true l)
  | .box t c => ∃ i c0 g cs, (p.1, i) ∈ OW ∧ ι0 p.1 = ι i ∧ ob i = some (.box t c0) ∧ (ι i).a = some ⟨g, 0, none⟩ ∧ w.heap[g]? = some (.cells (List.toArray cs) t (0, 0)) ∧ All2 (RepAV ι0 ob0) c cs
  | .dead => False
theorem InObj.more {N : Nat → Prop} {OW OW' : List (Nat × Nat)} (ho : ∀ x ∈ OW, x ∈ OW') {ι0 : Nat → In} {ob0 : Ob} {p : Nat × Obj} (h : InObj ι ob w N OW ι0 ob0 p) : InObj ι ob w N OW' ι0 ob0 p := by
  obtain ⟨n, o⟩ := p
  match o, h with
  | .row _ t false l, h => exact h
  | .row e t true l, ⟨i, h1, h2⟩ => exact ⟨i, ho _ h1, h2⟩
  | .box t c, ⟨i, c0, g, cs, h1, h2⟩ => exact ⟨i, c0, g, cs, ho _ h1, h2⟩
  | .dead, h => exact h
/-- Cells of rows of the call's own that are handed over. -/
theorem own_in {w : World} : ∀ {l : List AV} {cs : List Cell} {us : List Value} (id : Nat), All2 (IsC ob) l cs → All2 (RepAV ι ob) l us → l.all (ownAV ob) = true →
    All2 CellV cs us ∧ ∀ ι0 : Nat → In, (∀ p ∈ insOf id cs us, ι0 p.1 = p.2) → (∀ p ∈ (toOwns true id cs).2, ∃ i e t x, (p.1, i) ∈ owL id l ∧ p.2 = .row e t true x ∧ ι0 p.1 = ι i ∧ ob i = some (.row e t true x)) ∧
      ∀ x ∈ owL id l, ∃ e t y, (x.1, Obj.row e t true y) ∈ (toOwns true id cs).2 ∧ ι0 x.1 = ι x.2 ∧ ob x.2 = some (.row e t true y)
  | [], [], [], _, _, _, _ => ⟨trivial, fun _ _ => ⟨by simp [toOwns], by simp [owL]⟩⟩
  | [], [], _ :: _, _, _, h, _ => h.elim
  | [], _ :: _, _, _, h, _, _ => h.elim
  | _ :: _, [], _, _, h, _, _ => h.elim
  | _ :: _, _ :: _, [], _, _, h, _ => h.elim
  | y :: l, c :: cs, u :: us, id, h1, h2, h3 => by
    simp only [List.all_cons, Bool.and_eq_true] at h3
    obtain ⟨q1, q2⟩ := own_in (w := w) (id + 1) h1.2 h2.2 h3.2
    have hc := h1.1
    have hv := h2.1
    have ho := h3.1
    obtain ⟨ct, cv⟩ := c
    have plain : CellV ⟨ct, cv⟩ u → y.ids = [] → (∀ e t, ct ≠ .sl e t) → All2 CellV (⟨ct, cv⟩ :: cs) (u :: us) ∧ ∀ ι0 : Nat → In, (∀ p ∈ insOf id (⟨ct, cv⟩ :: cs) (u :: us), ι0 p.1 = p.2) → (∀ p ∈ (toOwns true id (⟨ct, cv⟩ :: cs)).2, ∃ i e t x, (p.1, i) ∈ owL id (y :: l) ∧ p.2 = .row e t true x ∧ ι0 p.1 = ι i ∧ ob i = some (.row e t true x)) ∧
      ∀ x ∈ owL id (y :: l), ∃ e t y, (x.1, Obj.row e t true y) ∈ (toOwns true id (⟨ct, cv⟩ :: cs)).2 ∧ ι0 x.1 = ι x.2 ∧ ob x.2 = some (.row e t true y) := by
      intro k1 k2 k3
      have e1 : insOf id (⟨ct, cv⟩ :: cs) (u :: us) = insOf (id + 1) cs us := by cases ct <;> first | rfl | exact (k3 _ _ rfl).elim
      have e2 : (toOwns true id (⟨ct, cv⟩ :: cs)).2 = (toOwns true (id + 1) cs).2 := by rw [toOwns_cons]; cases ct <;> first | rfl | exact (k3 _ _ rfl).elim
      have e3 : owL id (y :: l) = owL (id + 1) l := by simp [owL, k2]
      rw [e1, e2, e3]
      exact ⟨⟨k1, q1⟩, q2⟩
    unfold IsC at hc
    cases y with
    | int k n =>
      cases ct <;> simp only [ofAV] at hc <;> try (cases hc; done)
      obtain ⟨rfl, hc⟩ := ite_some hc
      cases hc
      exact plain hv rfl (fun _ _ h => by cases h)
    | bool b =>
      cases ct <;> simp only [ofAV] at hc <;> try (cases hc; done)
      cases hc
      exact plain hv rfl (fun _ _ h => by cases h)
    | str b =>
      cases ct <;> simp only [ofAV] at hc <;> try (cases hc; done)
      cases hc
      exact plain hv rfl (fun _ _ h => by cases h)
    | whole r =>
      unfold ownAV at ho
      simp only at ho
      split at ho
      · rename_i e t x hob
        have hcc := IsC.whole (c := ⟨ct, cv⟩) h1.1 hob
        cases hcc
        have hu := whole_of (s := ⟨fun _ => .at .undef, ob⟩) hv hob
        refine ⟨⟨⟨_, _, hu⟩, q1⟩, fun ι0 hi => ?_⟩
        obtain ⟨r1, r2⟩ := q2 ι0 (fun p hp => hi p (List.mem_cons_of_mem _ hp))
        have hi0 : ι0 id = ι r := by
          have := hi (id, inOf u) List.mem_cons_self
          simp only at this
          rw [this, hu]
          rfl
        refine ⟨fun p hp => ?_, fun z hz => ?_⟩
        · rw [toOwns_cons] at hp
          simp only [Cell.toOwn, List.cons_append, List.nil_append, List.mem_cons] at hp
          rcases hp with rfl | hp
          · exact ⟨r, e, t, x, by simp [owL, AV.ids], rfl, hi0, hob⟩
          · obtain ⟨i, e', t', x', m1, m2⟩ := r1 p hp
            exact ⟨i, e', t', x', by simp only [owL, List.mem_append]; exact .inr m1, m2⟩
        · simp only [owL, AV.ids, List.map_cons, List.map_nil, List.cons_append, List.nil_append, List.mem_cons] at hz
          rw [toOwns_cons]
          rcases hz with rfl | hz
          · exact ⟨e, t, x, by simp [Cell.toOwn], hi0, hob⟩
          · obtain ⟨e', t', y', m1, m2⟩ := r2 z hz
            exact ⟨e', t', y', List.mem_append_right _ m1, m2⟩
      · cases ho
    | _ => cases ho
theorem subset_more {α : Type} {a b a' b' : List α} (h : ∀ x ∈ a, x ∈ a') (k : ∀ x ∈ b, x ∈ b') : ∀ x ∈ a ++ b, x ∈ a' ++ b' := fun x hx => by
  rcases List.mem_append.1 hx with hx | hx
  · exact List.mem_append_left _ (h x hx)
  · exact List.mem_append_right _ (k x hx)
theorem in_spec (hs : HS w0 X M ι ob w) {N : Nat → Prop} : ∀ (ps : List PK) (args : List DV) (vals : List Value) (j : Nat) (avs : List AV) (cells : List Cell), flat ob ps args = some avs → All2 (IsC ob) avs cells → All2 (RepDV ι ob) args vals →
    (∀ r ∈ idsOf (flatR ob ps args), ∀ e t own x, ob r = some (.row e t own x) → Ro w N t x (ι r).a (ι r).c) →
    ∃ (G : List (Nat × In)), G.map Prod.fst = outIds (inS j ps cells).2 ∧ (inS j ps cells).1.map Prod.fst = List.range' j ps.length ∧
      ∀ (ι0 : Nat → In) (ob0 : Ob), (∀ p ∈ (inS j ps cells).2, ob0 p.1 = some p.2) → (∀ p ∈ G, ι0 p.1 = p.2) →
        All2 (fun p v => RepDV ι0 ob0 p.2 v) (inS j ps cells).1 vals ∧ (∀ p ∈ (inS j ps cells).2, InObj ι ob w N (owP j ps args ++ gvP ob j ps args) ι0 ob0 p) ∧
          (∀ x ∈ owP j ps args, x.1 ∈ kpS j ps cells ∧ ι0 x.1 = ι x.2 ∧ ∃ o oo, ob0 x.1 = some o ∧ ob x.2 = some oo ∧ Wr oo ∧ Sh oo o) ∧ ∀ x ∈ gvP ob j ps args, ι0 x.1 = ι x.2 ∧ ∃ oo, ob x.2 = some oo ∧ Wr oo
  | [], [], [], j, avs, cells, h, hc, hv, hr => by cases h; exact ⟨[], rfl, rfl, fun _ _ _ _ => ⟨trivial, by simp [inS], by simp [owP], by simp [gvP]⟩⟩
  | [], [], _ :: _, j, avs, cells, h, hc, hv, hr => hv.elim
  | [], _ :: _, _, j, avs, cells, h, hc, hv, hr => by cases h
  | p :: _, [], _, j, avs, cells, h, hc, hv, hr => by cases p <;> simp [flat] at h
  | _ :: _, _ :: _, [], j, avs, cells, h, hc, hv, hr => hv.elim
  | p :: ps, d :: args, v :: vals, j, avs, cells, h, hc, hv, hr => by
    cases p with
    | one =>
      cases d with
      | «at» x =>
        simp only [flat] at h
        obtain ⟨q, h1, h⟩ := Option.bind_eq_some_iff.1 h
        cases h
        cases cells with
        | nil => exact hc.elim
        | cons c cells =>
          obtain ⟨k1, k2⟩ := read_cells (w := w) (N := N) (l := [x]) (cs := [c]) (us := [v]) ⟨hc.1, trivial⟩ ⟨hv.1, trivial⟩ (fun r hr' => hr r (by simp only [flatR, idsOf, List.flatMap_cons, List.mem_append]; exact .inl (by simpa [idsOf] using hr')))
          obtain ⟨G, g1, g3, g4⟩ := in_spec hs ps args vals (j + 1) q cells h1 hc.2 hv.2 (fun r hr' => hr r (by simp only [flatR, idsOf, List.flatMap_cons, List.mem_append]; exact .inr hr'))
          refine ⟨insOf (j * 16) [c] [v] ++ G, by simp [inS, outIds, insOf_fst false _ [c] [v] rfl] at g1 ⊢; exact g1, by simp [inS, List.range'_succ, g3], fun ι0 ob0 ho hi => ?_⟩
          have ho1 : ∀ p ∈ (toOwns false (j * 16) [c]).2, ob0 p.1 = some p.2 := fun p hp => ho p (by simp only [inS, List.take_succ_cons, List.take_zero, List.mem_append]; exact .inl hp)
          have hi1 : ∀ p ∈ insOf (j * 16) [c] [v], ι0 p.1 = p.2 := fun p hp => hi p (List.mem_append_left _ hp)
          obtain ⟨q1, q2, q3, q4⟩ := g4 ι0 ob0 (fun p hp => ho p (by simp only [inS, List.mem_append]; exact .inr hp)) (fun p hp => hi p (List.mem_append_right _ hp))
          have r1 := toOwns_rep false (j * 16) [c] [v] k1 ho1 hi1
          refine ⟨⟨?_, q1⟩, fun p hp => ?_, fun x hx => ⟨?_, (q3 x hx).2⟩, fun x hx => q4 x (by simpa [gvP] using hx)⟩
          rotate_left 2
          · have := (q3 x hx).1
            simp only [kpS, List.mem_append]
            exact .inr this
          · simp only [List.take_succ_cons, List.take_zero]
            rw [toOwns_cons] at r1 ⊢
            exact r1.1
          · simp only [inS, List.take_succ_cons, List.take_zero, List.mem_append] at hp
            rcases hp with hp | hp
            · obtain ⟨e, t, l, e1, e2⟩ := toOwns_obj false (j * 16) [c] [v] k2 hi1 p hp
              unfold InObj
              rw [e1]
              exact e2
            · simpa [owP, gvP] using q2 p hp
      | agg l => cases h
      | tup l => cases h
    | agg n =>
      cases d with
      | «at» x => cases h
      | tup l => cases h
      | agg l =>
        simp only [flat] at h
        obtain ⟨hn, h⟩ := ite_some h
        obtain ⟨q, h1, h⟩ := Option.bind_eq_some_iff.1 h
        cases h
        obtain ⟨us, rfl, hus⟩ := hv.1
        obtain ⟨c1, c2⟩ := All2.split hc
        rw [hn] at c1 c2
        obtain ⟨k1, k2⟩ := read_cells (w := w) (N := N) c1 hus (fun r hr' => hr r (by simp only [flatR, idsOf, List.flatMap_append, List.mem_append]; exact .inl (by simpa [idsOf] using hr')))
        obtain ⟨G, g1, g3, g4⟩ := in_spec hs ps args vals (j + 1) q _ h1 c2 hv.2 (fun r hr' => hr r (by simp only [flatR, idsOf, List.flatMap_append, List.mem_append]; exact .inr hr'))
        refine ⟨insOf (j * 16) (cells.take n) us ++ G, by simp [inS, outIds, insOf_fst false _ _ us k1.len] at g1 ⊢; exact g1, by simp [inS, List.range'_succ, g3], fun ι0 ob0 ho hi => ?_⟩
        have ho1 : ∀ p ∈ (toOwns false (j * 16) (cells.take n)).2, ob0 p.1 = some p.2 := fun p hp => ho p (by simp only [inS, List.mem_append]; exact .inl hp)
        have hi1 : ∀ p ∈ insOf (j * 16) (cells.take n) us, ι0 p.1 = p.2 := fun p hp => hi p (List.mem_append_left _ hp)
        obtain ⟨q1, q2, q3, q4⟩ := g4 ι0 ob0 (fun p hp => ho p (by simp only [inS, List.mem_append]; exact .inr hp)) (fun p hp => hi p (List.mem_append_right _ hp))
        have r1 := toOwns_rep false (j * 16) (cells.take n) us k1 ho1 hi1
        refine ⟨⟨⟨us, rfl, r1⟩, q1⟩, fun p hp => ?_, fun x hx => ⟨?_, (q3 x hx).2⟩, fun x hx => q4 x (by simpa [gvP] using hx)⟩
        rotate_left 1
        · have := (q3 x hx).1
          simp only [kpS, List.mem_append]
          exact .inr this
        simp only [inS, List.mem_append] at hp
        rcases hp with hp | hp
        · obtain ⟨e, t, l, e1, e2⟩ := toOwns_obj false (j * 16) (cells.take n) us k2 hi1 p hp
          unfold InObj
          rw [e1]
          exact e2
        · simpa [owP, gvP] using q2 p hp
    | aggw n sl =>
      cases d with
      | «at» x => cases h
      | tup l => cases h
      | agg l =>
        simp only [flat] at h
        obtain ⟨⟨hn, hall⟩, h⟩ := ite_some h
        simp only [Bool.and_eq_true] at hall
        obtain ⟨q, h1, h⟩ := Option.bind_eq_some_iff.1 h
        cases h
        obtain ⟨us, rfl, hus⟩ := hv.1
        obtain ⟨c1, c2⟩ := All2.split hc
        rw [hn] at c1 c2
        obtain ⟨k1, k2⟩ := own_in (w := w) (j * 16) c1 hus hall.1
        obtain ⟨G, g1, g3, g4⟩ := in_spec hs ps args vals (j + 1) q _ h1 c2 hv.2 (fun r hr' => hr r (by simpa [flatR] using hr'))
        refine ⟨insOf (j * 16) (cells.take n) us ++ G, by simp [inS, outIds, insOf_fst true _ _ us k1.len] at g1 ⊢; exact g1, by simp [inS, List.range'_succ, g3], fun ι0 ob0 ho hi => ?_⟩
        have ho1 : ∀ p ∈ (toOwns true (j * 16) (cells.take n)).2, ob0 p.1 = some p.2 := fun p hp => ho p (by simp only [inS, List.mem_append]; exact .inl hp)
        have hi1 : ∀ p ∈ insOf (j * 16) (cells.take n) us, ι0 p.1 = p.2 := fun p hp => hi p (List.mem_append_left _ hp)
        obtain ⟨q1, q2, q3, q4⟩ := g4 ι0 ob0 (fun p hp => ho p (by simp only [inS, List.mem_append]; exact .inr hp)) (fun p hp => hi p (List.mem_append_right _ hp))
        have r1 := toOwns_rep true (j * 16) (cells.take n) us k1 ho1 hi1
        obtain ⟨r2, r3⟩ := k2 ι0 hi1
        refine ⟨⟨⟨us, rfl, r1⟩, q1⟩, fun p hp => ?_, fun x hx => ?_, fun x hx => q4 x (by simpa [gvP] using hx)⟩
        · simp only [inS, List.mem_append] at hp
          rcases hp with hp | hp
          · obtain ⟨i, e, t, y, m1, m2, m3, m4⟩ := r2 p hp
            unfold InObj
            rw [m2]
            exact ⟨i, by simp only [owP, List.mem_append]; exact .inl (.inl m1), m3, m4⟩
          · exact (q2 p hp).more (by simp only [owP, gvP]; exact subset_more (fun x hx => List.mem_append_right _ hx) (fun x hx => hx))
        · simp only [owP, List.mem_append] at hx
          rcases hx with hx | hx
          · obtain ⟨e, t, y, m1, m2, m3⟩ := r3 x hx
            refine ⟨?_, m2, _, _, ho1 _ m1, m3, trivial, rfl, rfl, rfl⟩
            simp only [kpS, List.mem_append]
            exact .inl (List.mem_map.2 ⟨_, m1, rfl⟩)
          · refine ⟨?_, (q3 x hx).2⟩
            simp only [kpS, List.mem_append]
            exact .inr (q3 x hx).1
    | row =>
      match d, h, hv, hr with
      | .at (.whole i), h, hv, hr =>
        simp only [flat] at h
        split at h
        · rename_i e0 t0 l0 hob
          obtain ⟨q, h1, h⟩ := Option.bind_eq_some_iff.1 h
          cases h
          cases cells with
          | nil => exact hc.elim
          | cons c cells =>
            obtain rfl : c = ⟨.sl e0 t0, l0⟩ := IsC.whole hc.1 hob
            obtain ⟨G, g1, g3, g4⟩ := in_spec hs ps args vals (j + 1) q cells h1 hc.2 hv.2 (fun r hr' => hr r (by simpa [flatR] using hr'))
            refine ⟨(j * 16, ι i) :: G, by simpa [inS, outIds, toOwns, Cell.toOwn] using g1, by simp [inS, List.range'_succ, g3], fun ι0 ob0 ho hi => ?_⟩
            have ho1 : ob0 (j * 16) = some (.row e0 t0 true l0) := ho (j * 16, .row e0 t0 true l0) (by simp [inS, toOwns, Cell.toOwn])
            have hi1 : ι0 (j * 16) = ι i := hi (j * 16, ι i) (by simp)
            obtain ⟨q1, q2, q3, q4⟩ := g4 ι0 ob0 (fun p hp => ho p (by simp only [inS, List.mem_append]; exact .inr (by simpa using hp))) (fun p hp => hi p (List.mem_cons_of_mem _ hp))
            refine ⟨⟨?_, by simpa using q1⟩, fun p hp => ?_, fun x hx => ?_, fun x hx => q4 x (by simpa [gvP] using hx)⟩
            rotate_left 2
            · rcases List.mem_cons.1 hx with rfl | hx
              · exact ⟨by simp [kpS, outIds, toOwns, Cell.toOwn], hi1, _, _, ho1, hob, trivial, rfl, rfl, rfl⟩
              · refine ⟨?_, (q3 x hx).2⟩
                simp only [kpS, List.mem_append]
                exact .inr (by simpa using (q3 x hx).1)
            · obtain ⟨v1, o, v2, v3⟩ := hv.1
              rw [hob] at v2
              cases v2
              have := v3 _ _ _ _ rfl
              refine ⟨v1, _, ho1, fun e' t' o' l' he => ?_⟩
              cases he
              rw [hi1]
              exact this
            · simp only [inS, List.take_succ_cons, List.take_zero, toOwns, Cell.toOwn, List.append_nil, List.cons_append, List.nil_append, List.mem_cons] at hp
              rcases hp with rfl | hp
              · exact ⟨i, by simp [owP], hi1, hob⟩
              · exact (q2 p (by simpa using hp)).more (by simp only [owP, gvP]; exact subset_more (fun x hx => List.mem_cons_of_mem _ hx) (fun x hx => hx))
        · cases h
    | give =>
      match d, h, hv, hr with
      | .at (.whole i), h, hv, hr =>
        simp only [flat] at h
        split at h
        · rename_i e0 t0 l0 hob
          obtain ⟨q, h1, h⟩ := Option.bind_eq_some_iff.1 h
          cases h
          cases cells with
          | nil => exact hc.elim
          | cons c cells =>
            obtain rfl : c = ⟨.sl e0 t0, l0⟩ := IsC.whole hc.1 hob
            obtain ⟨G, g1, g3, g4⟩ := in_spec hs ps args vals (j + 1) q cells h1 hc.2 hv.2 (fun r hr' => hr r (by simpa [flatR] using hr'))
            refine ⟨(j * 16, ι i) :: G, by simpa [inS, outIds, toOwns, Cell.toOwn] using g1, by simp [inS, List.range'_succ, g3], fun ι0 ob0 ho hi => ?_⟩
            have ho1 : ob0 (j * 16) = some (.row e0 t0 true l0) := ho (j * 16, .row e0 t0 true l0) (by simp [inS, toOwns, Cell.toOwn])
            have hi1 : ι0 (j * 16) = ι i := hi (j * 16, ι i) (by simp)
            obtain ⟨q1, q2, q3, q4⟩ := g4 ι0 ob0 (fun p hp => ho p (by simp only [inS, List.mem_append]; exact .inr (by simpa using hp))) (fun p hp => hi p (List.mem_cons_of_mem _ hp))
            refine ⟨⟨?_, by simpa using q1⟩, fun p hp => ?_, fun x hx => ⟨?_, (q3 x hx).2⟩, fun x hx => ?_⟩
            rotate_left 2
            · have := (q3 x hx).1
              simpa [kpS] using this
            · simp only [gvP, List.mem_cons] at hx
              rcases hx with rfl | hx
              · exact ⟨hi1, _, hob, trivial⟩
              · exact q4 x hx
            · obtain ⟨v1, o, v2, v3⟩ := hv.1
              rw [hob] at v2
              cases v2
              have := v3 _ _ _ _ rfl
              refine ⟨v1, _, ho1, fun e' t' o' l' he => ?_⟩
              cases he
              rw [hi1]
              exact this
            · simp only [inS, List.take_succ_cons, List.take_zero, toOwns, Cell.toOwn, List.append_nil, List.cons_append, List.nil_append, List.mem_cons] at hp
              rcases hp with rfl | hp
              · exact ⟨i, by simp [gvP], hi1, hob⟩
              · exact (q2 p (by simpa using hp)).more (by simp only [owP, gvP]; exact subset_more (fun x hx => hx) (fun x hx => List.mem_cons_of_mem _ hx))
        · cases h
    | box t n =>
      match d, h, hv, hr with
      | .at (.bptr b 0), h, hv, hr =>
        simp only [flat] at h
        split at h
        · rename_i t' c hob
          obtain ⟨⟨ht, hn⟩, h'⟩ := ite_some h
          subst ht
          obtain ⟨q, h1, h'⟩ := Option.bind_eq_some_iff.1 h'
          cases h'
          obtain ⟨g, us, b1, b2, hus⟩ := hs.obs b _ hob
          obtain ⟨c1, c2⟩ := All2.split hc
          rw [hn] at c1 c2
          have hfr : flatR ob (.box t' n :: ps) (.at (.bptr b 0) :: args) = c ++ flatR ob ps args := by simp [flatR, hob]
          rw [hfr] at hr
          obtain ⟨k1, k2⟩ := read_cells (w := w) (N := N) c1 hus (fun r hr' => hr r (by simp only [idsOf, List.flatMap_append, List.mem_append]; exact .inl (by simpa [idsOf] using hr')))
          obtain ⟨G, g1, g3, g4⟩ := in_spec hs ps args vals (j + 1) q _ h1 c2 hv.2 (fun r hr' => hr r (by simp only [idsOf, List.flatMap_append, List.mem_append]; exact .inr hr'))
          refine ⟨(j * 16, ι b) :: (insOf (j * 16 + 1) (cells.take n) us ++ G), by simp [inS, outIds, insOf_fst false _ _ us k1.len] at g1 ⊢; exact g1, by simp [inS, List.range'_succ, g3], fun ι0 ob0 ho hi => ?_⟩
          have ho0 : ob0 (j * 16) = some (.box t' (toOwns false (j * 16 + 1) (cells.take n)).1) := ho (j * 16, .box t' (toOwns false (j * 16 + 1) (cells.take n)).1) (by simp [inS])
          have hi0 : ι0 (j * 16) = ι b := hi (j * 16, ι b) (by simp)
          have ho1 : ∀ p ∈ (toOwns false (j * 16 + 1) (cells.take n)).2, ob0 p.1 = some p.2 := fun p hp => ho p (by simp only [inS, List.mem_append, List.mem_cons]; exact .inr (.inl hp))
          have hi1 : ∀ p ∈ insOf (j * 16 + 1) (cells.take n) us, ι0 p.1 = p.2 := fun p hp => hi p (List.mem_cons_of_mem _ (List.mem_append_left _ hp))
          obtain ⟨q1, q2, q3, q4⟩ := g4 ι0 ob0 (fun p hp => ho p (by simp only [inS, List.mem_append, List.mem_cons]; exact .inr (.inr hp))) (fun p hp => hi p (List.mem_cons_of_mem _ (List.mem_append_right _ hp)))
          have r1 := toOwns_rep false (j * 16 + 1) (cells.take n) us k1 ho1 hi1
          refine ⟨⟨?_, q1⟩, fun p hp => ?_, fun x hx => ?_, fun x hx => q4 x (by simpa [gvP] using hx)⟩
          rotate_left 2
          · rcases List.mem_cons.1 hx with rfl | hx
            · exact ⟨by simp [kpS], hi0, _, _, ho0, hob, trivial, trivial⟩
            · refine ⟨?_, (q3 x hx).2⟩
              simp only [kpS, List.mem_append, List.mem_cons]
              exact .inr (.inr (q3 x hx).1)
          · obtain ⟨v1, o, v2, v3⟩ := hv.1
            rw [hob] at v2
            cases v2
            obtain ⟨g', e1, e2⟩ := v3 _ _ rfl
            refine ⟨v1, _, ho0, fun t' c' he => ⟨g', ?_, e2⟩⟩
            rw [hi0]
            exact e1
          · simp only [inS, List.mem_append, List.mem_cons] at hp
            rcases hp with rfl | hp | hp
            · exact ⟨b, c, g, us, by simp [owP], hi0, hob, b1, b2, r1⟩
            · obtain ⟨e, t, l, e1, e2⟩ := toOwns_obj false (j * 16 + 1) (cells.take n) us k2 hi1 p hp
              unfold InObj
              rw [e1]
              exact e2
            · exact (q2 p hp).more (by simp only [owP, gvP]; exact subset_more (fun x hx => List.mem_cons_of_mem _ hx) (fun x hx => hx))
        · cases h
    | fnp g0 t n =>
      match d, h, hv, hr with
      | .at (.fn f0 [(b, 0)]), h, hv, hr =>
        simp only [flat] at h
        split at h
        · rename_i t' c hob
          obtain ⟨⟨hg, ht, hn⟩, h'⟩ := ite_some h
          subst ht
          subst hg
          obtain ⟨q, h1, h'⟩ := Option.bind_eq_some_iff.1 h'
          cases h'
          obtain ⟨g, us, b1, b2, hus⟩ := hs.obs b _ hob
          obtain ⟨c1, c2⟩ := All2.split hc
          rw [hn] at c1 c2
          have hfr : flatR ob (.fnp f0 t' n :: ps) (.at (.fn f0 [(b, 0)]) :: args) = c ++ flatR ob ps args := by simp [flatR, hob]
          rw [hfr] at hr
          obtain ⟨k1, k2⟩ := read_cells (w := w) (N := N) c1 hus (fun r hr' => hr r (by simp only [idsOf, List.flatMap_append, List.mem_append]; exact .inl (by simpa [idsOf] using hr')))
          obtain ⟨G, g1, g3, g4⟩ := in_spec hs ps args vals (j + 1) q _ h1 c2 hv.2 (fun r hr' => hr r (by simp only [idsOf, List.flatMap_append, List.mem_append]; exact .inr hr'))
          refine ⟨(j * 16, ι b) :: (insOf (j * 16 + 1) (cells.take n) us ++ G), by simp [inS, outIds, insOf_fst false _ _ us k1.len] at g1 ⊢; exact g1, by simp [inS, List.range'_succ, g3], fun ι0 ob0 ho hi => ?_⟩
          have ho0 : ob0 (j * 16) = some (.box t' (toOwns false (j * 16 + 1) (cells.take n)).1) := ho (j * 16, .box t' (toOwns false (j * 16 + 1) (cells.take n)).1) (by simp [inS])
          have hi0 : ι0 (j * 16) = ι b := hi (j * 16, ι b) (by simp)
          have ho1 : ∀ p ∈ (toOwns false (j * 16 + 1) (cells.take n)).2, ob0 p.1 = some p.2 := fun p hp => ho p (by simp only [inS, List.mem_append, List.mem_cons]; exact .inr (.inl hp))
          have hi1 : ∀ p ∈ insOf (j * 16 + 1) (cells.take n) us, ι0 p.1 = p.2 := fun p hp => hi p (List.mem_cons_of_mem _ (List.mem_append_left _ hp))
          obtain ⟨q1, q2, q3, q4⟩ := g4 ι0 ob0 (fun p hp => ho p (by simp only [inS, List.mem_append, List.mem_cons]; exact .inr (.inr hp))) (fun p hp => hi p (List.mem_cons_of_mem _ (List.mem_append_right _ hp)))
          have r1 := toOwns_rep false (j * 16 + 1) (cells.take n) us k1 ho1 hi1
          refine ⟨⟨?_, q1⟩, fun p hp => ?_, fun x hx => ?_, fun x hx => q4 x (by simpa [gvP] using hx)⟩
          rotate_left 2
          · rcases List.mem_cons.1 hx with rfl | hx
            · exact ⟨by simp [kpS], hi0, _, _, ho0, hob, trivial, trivial⟩
            · refine ⟨?_, (q3 x hx).2⟩
              simp only [kpS, List.mem_append, List.mem_cons]
              exact .inr (.inr (q3 x hx).1)
          · obtain ⟨vs, v0, v1⟩ := hv.1
            match vs, v0, v1 with
            | [u], v0, ⟨⟨v1, o, v2, v3⟩, _⟩ =>
              rw [hob] at v2
              cases v2
              obtain ⟨g', e1, e2⟩ := v3 _ _ rfl
              refine ⟨[u], v0, ⟨v1, _, ho0, fun t' c' he => ⟨g', ?_, e2⟩⟩, trivial⟩
              rw [hi0]
              exact e1
          · simp only [inS, List.mem_append, List.mem_cons] at hp
            rcases hp with rfl | hp | hp
            · exact ⟨b, c, g, us, by simp [owP], hi0, hob, b1, b2, r1⟩
            · obtain ⟨e, t, l, e1, e2⟩ := toOwns_obj false (j * 16 + 1) (cells.take n) us k2 hi1 p hp
              unfold InObj
              rw [e1]
              exact e2
            · exact (q2 p hp).more (by simp only [owP, gvP]; exact subset_more (fun x hx => List.mem_cons_of_mem _ hx) (fun x hx => hx))
        · cases h
    | boxg t n =>
      match d, h, hv, hr with
      | .at (.bptr b 0), h, hv, hr =>
        simp only [flat] at h
        split at h
        · rename_i t' c hob
          obtain ⟨⟨⟨ht, hn⟩, hall⟩, h'⟩ := ite_some h
          subst ht
          obtain ⟨q, h1, h'⟩ := Option.bind_eq_some_iff.1 h'
          cases h'
          obtain ⟨g, us, b1, b2, hus⟩ := hs.obs b _ hob
          obtain ⟨c1, c2⟩ := All2.split hc
          rw [hn] at c1 c2
          obtain ⟨k1, k2⟩ := own_in (w := w) (j * 16 + 1) c1 hus hall
          obtain ⟨G, g1, g3, g4⟩ := in_spec hs ps args vals (j + 1) q _ h1 c2 hv.2 (fun r hr' => hr r (by simpa [flatR] using hr'))
          refine ⟨(j * 16, ι b) :: (insOf (j * 16 + 1) (cells.take n) us ++ G), by simp [inS, outIds, insOf_fst true _ _ us k1.len] at g1 ⊢; exact g1, by simp [inS, List.range'_succ, g3], fun ι0 ob0 ho hi => ?_⟩
          have ho0 : ob0 (j * 16) = some (.box t' (toOwns true (j * 16 + 1) (cells.take n)).1) := ho (j * 16, .box t' (toOwns true (j * 16 + 1) (cells.take n)).1) (by simp [inS])
          have hi0 : ι0 (j * 16) = ι b := hi (j * 16, ι b) (by simp)
          have ho1 : ∀ p ∈ (toOwns true (j * 16 + 1) (cells.take n)).2, ob0 p.1 = some p.2 := fun p hp => ho p (by simp only [inS, List.mem_append, List.mem_cons]; exact .inr (.inl hp))
          have hi1 : ∀ p ∈ insOf (j * 16 + 1) (cells.take n) us, ι0 p.1 = p.2 := fun p hp => hi p (List.mem_cons_of_mem _ (List.mem_append_left _ hp))
          obtain ⟨q1, q2, q3, q4⟩ := g4 ι0 ob0 (fun p hp => ho p (by simp only [inS, List.mem_append, List.mem_cons]; exact .inr (.inr hp))) (fun p hp => hi p (List.mem_cons_of_mem _ (List.mem_append_right _ hp)))
          have r1 := toOwns_rep true (j * 16 + 1) (cells.take n) us k1 ho1 hi1
          obtain ⟨r2, r3⟩ := k2 ι0 hi1
          refine ⟨⟨?_, q1⟩, fun p hp => ?_, fun x hx => ?_, fun x hx => ?_⟩
          rotate_left 2
          · rcases List.mem_cons.1 hx with rfl | hx
            · exact ⟨by simp [kpS], hi0, _, _, ho0, hob, trivial, trivial⟩
            · refine ⟨?_, (q3 x hx).2⟩
              simp only [kpS, List.mem_cons]
              exact .inr (q3 x hx).1
          · simp only [gvP, hob, List.mem_append] at hx
            rcases hx with hx | hx
            · obtain ⟨e, t, y, m1, m2, m3⟩ := r3 x hx
              exact ⟨m2, _, m3, trivial⟩
            · exact q4 x hx
          · obtain ⟨v1, o, v2, v3⟩ := hv.1
            rw [hob] at v2
            cases v2
            obtain ⟨g', e1, e2⟩ := v3 _ _ rfl
            refine ⟨v1, _, ho0, fun t' c' he => ⟨g', ?_, e2⟩⟩
            rw [hi0]
            exact e1
          · simp only [inS, List.mem_append, List.mem_cons] at hp
            rcases hp with rfl | hp | hp
            · exact ⟨b, c, g, us, by simp [owP], hi0, hob, b1, b2, r1⟩
            · obtain ⟨i, e, t, y, m1, m2, m3, m4⟩ := r2 p hp
              unfold InObj
              rw [m2]
              exact ⟨i, by simp only [gvP, hob, List.mem_append]; exact .inr (.inl m1), m3, m4⟩
            · exact (q2 p hp).more (by simp only [owP, gvP]; exact subset_more (fun x hx => List.mem_cons_of_mem _ hx) (fun x hx => List.mem_append_right _ hx))
        · cases h

/-- The world as a callee finds it. -/
theorem enter_HS {avs : List AV} {ids : List Nat} {OW : List (Nat × Nat)} (hs : HS w0 X M ι ob w) (hXM : ∀ b, X b → M b) {ps : List PK} {cells : List Cell} {ι0 : Nat → In} (hOW : OW.map Prod.snd = ids) (hd : disj ids = true) (ha : (ids.any fun i => (idsOf avs).any (Nat.beq i)) = false)
    (hI : ∀ p ∈ (inS 0 ps cells).2, InObj ι ob w (Nb w0 M ι (updL ob (freeze ob avs)) w) OW ι0 (lookO (inS 0 ps cells).2) p)
    (hW : ∀ x ∈ OW, ι0 x.1 = ι x.2 ∧ ∃ oo, ob x.2 = some oo ∧ Wr oo) :
    HS w (fun b => ∃ i ∈ ids, ∃ ad, (ι i).a = some ad ∧ ad.block = b) (fun b => (∃ i ∈ ids, ∃ ad, (ι i).a = some ad ∧ ad.block = b) ∨ Nb w0 M ι (updL ob (freeze ob avs)) w b) ι0 (lookO (inS 0 ps cells).2) w := by
  obtain ⟨g1, g2, g3, g4⟩ := HS.give hXM hs avs
  have hap : ∀ i ∈ ids, i ∉ idsOf avs := fun i hi hk => by
    have : (ids.any fun i => (idsOf avs).any (Nat.beq i)) = true := List.any_eq_true.2 ⟨i, hi, List.any_eq_true.2 ⟨i, hk, Nat.beq_refl i⟩⟩
    rw [ha] at this; cases this
  have hsnd : ∀ {x}, x ∈ OW → x.2 ∈ ids := fun {x} hx => by rw [← hOW]; exact List.mem_map.2 ⟨x, hx, rfl⟩
  have hWr : ∀ id o, lookO (inS 0 ps cells).2 id = some o → Wr o → ∃ i, (id, i) ∈ OW := fun id o ho hw => by
    have := hI _ (lookO_mem ho)
    match o, hw, this with
    | .box _ _, _, ⟨i, _, _, _, h, _⟩ => exact ⟨i, h⟩
    | .row _ _ true _, _, ⟨i, h, _⟩ => exact ⟨i, h⟩
  have hblk : ∀ b, W ι0 (lookO (inS 0 ps cells).2) b → ∃ i ∈ ids, ∃ ad, (ι i).a = some ad ∧ ad.block = b := by
    rintro b ⟨id, o, ad, h1, h2, h3, rfl⟩
    obtain ⟨i, hi⟩ := hWr id o h1 h2
    exact ⟨i, hsnd hi, ad, by rw [← (hW _ hi).1]; exact h3, rfl⟩
  have hN : ∀ b, Nb w0 M ι (updL ob (freeze ob avs)) w b → Nb w (fun b => (∃ i ∈ ids, ∃ ad, (ι i).a = some ad ∧ ad.block = b) ∨ Nb w0 M ι (updL ob (freeze ob avs)) w b) ι0 (lookO (inS 0 ps cells).2) w b := by
    intro b hb
    refine ⟨hb.1, .inl (.inr hb), fun hw => ?_⟩
    obtain ⟨i, hi, ad, h1, h2⟩ := hblk b hw
    obtain ⟨x, hx, rfl⟩ : ∃ x ∈ OW, x.2 = i := by rw [← hOW] at hi; simpa using hi
    obtain ⟨_, oo, k1, k2⟩ := hW x hx
    exact hb.2.2 ⟨x.2, oo, ad, by rw [g3 _ (hap _ hi)]; exact k1, k2, h1, h2⟩
  have hgl : GOK w ∧ ∀ b, GB b → b < w.heap.size ∧ ¬ ∃ i ∈ ids, ∃ ad, (ι i).a = some ad ∧ ad.block = b := ⟨hs.fr.gok, fun b hb => ⟨Nat.lt_of_lt_of_le (hs.fr.gl.2 b hb).1 hs.fr.size, by
    rintro ⟨i, hi, ad, h1, h2⟩
    obtain ⟨x, hx, rfl⟩ : ∃ x ∈ OW, x.2 = i := by rw [← hOW] at hi; simpa using hi
    obtain ⟨_, oo, k1, k2⟩ := hW x hx
    rcases hs.wr b ⟨x.2, oo, ad, k1, k2, h1, h2⟩ with h | h
    · exact Nat.not_le_of_lt (hs.fr.gl.2 b hb).1 h
    · exact (hs.fr.gl.2 b hb).2 h⟩⟩
  refine ⟨Fr.refl _ _ hgl, fun id o ho => ?_, fun b hb => .inr (hblk b hb), fun id id' o o' ad ad' h1 h2 h3 h4 h5 h6 h7 => ?_⟩
  · have := hI _ (lookO_mem ho)
    match o, this with
    | .row _ t false l, h => exact Ro.mono (fun b hb => ⟨hN b hb, rfl⟩) h
    | .row e t true l, ⟨i, m1, m2, m3⟩ =>
      have hk := g1.obs i (.row e t true l) (by rw [g3 _ (hap _ (hsnd m1))]; exact m3)
      obtain ⟨xs, k1, k2⟩ := hk
      exact ⟨xs, by rw [m2]; exact k1, RepL.mono (fun b hb => ⟨hN b hb, rfl⟩) k2⟩
    | .box t c, ⟨i, c0, g, cs, m1, m2, m3, m4, m5, m6⟩ => exact ⟨g, cs, by rw [m2]; exact m4, m5, m6⟩
  · obtain ⟨i, hi⟩ := hWr id o h1 h3
    obtain ⟨i', hi'⟩ := hWr id' o' h2 h4
    obtain ⟨e1, oo, e2, e3⟩ := hW _ hi
    obtain ⟨f1, oo', f2, f3⟩ := hW _ hi'
    have : i = i' := hs.sep i i' oo oo' ad ad' e2 f2 e3 f3 (by rw [← e1]; exact h5) (by rw [← f1]; exact h6) h7
    subst this
    have hnd := disj_pw hd
    rw [← hOW] at hnd
    have := pw_eq (R := fun (x y : Nat × Nat) => x.2 ≠ y.2) (fun a b h e => h e.symm) (List.pairwise_map.1 hnd) hi hi' (fun h => h rfl)
    exact (Prod.mk.inj this).1
/-- What a caller gets. -/
def OutObj (ι1 : Nat → In) (ob1 : Ob) (w1 : World) (NN : Nat → Prop) (OW : List (Nat × Nat)) (ι' : Nat → In) (ob' : Ob) (p : Nat × Obj) : Prop :=
  match p.2 with
  | .row _ t false l => Ro w1 NN t l (ι' p.1).a (ι' p.1).c
  | .row e t true l => Own w1 NN e t l (ι' p.1).a (ι' p.1).c ∧ ∀ ad, (ι' p.1).a = some ad → ∃ i ad0, (p.1, i) ∈ OW ∧ (ι1 i).a = some ad0 ∧ ad0.block = ad.block
  | .box t c => ∃ i g cs, (p.1, i) ∈ OW ∧ (ι' p.1).a = some ⟨g, 0, none⟩ ∧ (ι1 i).a = some ⟨g, 0, none⟩ ∧ w1.heap[g]? = some (.cells (List.toArray cs) t (0, 0)) ∧ All2 (RepAV ι' ob') c cs
  | .dead => False
theorem OutObj.more {ι1 : Nat → In} {ob1 : Ob} {w1 : World} {NN : Nat → Prop} {OW OW' : List (Nat × Nat)} (ho : ∀ x ∈ OW, x ∈ OW') {ι' : Nat → In} {ob' : Ob} {p : Nat × Obj} (h : OutObj ι1 ob1 w1 NN OW ι' ob' p) : OutObj ι1 ob1 w1 NN OW' ι' ob' p := by
  obtain ⟨n, o⟩ := p
  match o, h with
  | .row _ t false l, h => exact h
  | .row e t true l, ⟨h1, h2⟩ => exact ⟨h1, fun ad ha => by obtain ⟨i, ad0, k1, k2⟩ := h2 ad ha; exact ⟨i, ad0, ho _ k1, k2⟩⟩
  | .box t c, ⟨i, g, cs, h1, h2⟩ => exact ⟨i, g, cs, ho _ h1, h2⟩
theorem isOwn_row {s : DS} {r e : Nat} {t : Ty} {own : Bool} {l : List t.den} (h : isOwn s r = true) (ho : s.ob r = some (.row e t own l)) : own = true := by
  unfold isOwn at h
  rw [ho] at h
  cases own <;> simp at h ⊢
section
variable {s : DS} {w1 : World} {NN : Nat → Prop}
theorem own_cells (hs : HS w0 X M ι s.ob w1) (hNN : ∀ b, Nb w0 M ι s.ob w1 b → NN b) : ∀ {l : List AV} {cs : List Cell} {us : List Value} (id : Nat), All2 (IsC s.ob) l cs → All2 (RepAV ι s.ob) l us → (∀ r ∈ idsOf l, isOwn s r = true) →
    All2 CellV cs us ∧ All2 (CellR true w1 NN) cs us ∧ ∀ p ∈ insOf id cs us, ∀ ad, p.2.a = some ad → ∃ i ad0, (p.1, i) ∈ owL id l ∧ (ι i).a = some ad0 ∧ ad0.block = ad.block
  | [], [], [], _, _, _, _ => ⟨trivial, trivial, by simp [insOf]⟩
  | [], [], _ :: _, _, _, h, _ => h.elim
  | [], _ :: _, _, _, h, _, _ => h.elim
  | _ :: _, [], _, _, h, _, _ => h.elim
  | _ :: _, _ :: _, [], _, _, h, _ => h.elim
  | y :: l, c :: cs, u :: us, id, h1, h2, h3 => by
    obtain ⟨q1, q2, q3⟩ := own_cells hs hNN (id + 1) h1.2 h2.2 (fun r hr => h3 r (mem_idsOf_cons.2 (.inr hr)))
    have q4 : ∀ p ∈ insOf (id + 1) cs us, ∀ ad, p.2.a = some ad → ∃ i ad0, (p.1, i) ∈ owL id (y :: l) ∧ (ι i).a = some ad0 ∧ ad0.block = ad.block := fun p hp ad ha => by
      obtain ⟨i, ad0, k1, k2⟩ := q3 p hp ad ha
      exact ⟨i, ad0, by simp only [owL, List.mem_append]; exact .inr k1, k2⟩
    have hown : ∀ r ∈ y.ids, isOwn s r = true := fun r hr => h3 r (mem_idsOf_cons.2 (.inl hr))
    suffices hh : CellV c u ∧ CellR true w1 NN c u ∧ ∀ e t l, c = ⟨.sl e t, l⟩ → ∀ ad, (inOf u).a = some ad → ∃ i ∈ y.ids, ∃ ad0, (ι i).a = some ad0 ∧ ad0.block = ad.block by
      obtain ⟨k1, k2, k3⟩ := hh
      refine ⟨⟨k1, q1⟩, ⟨k2, q2⟩, fun p hp ad ha => ?_⟩
      obtain ⟨ct, cv⟩ := c
      cases ct with
      | sl e t =>
        simp only [insOf, List.mem_cons] at hp
        rcases hp with rfl | hp
        · obtain ⟨i, m1, ad0, m2⟩ := k3 e t cv rfl ad ha
          exact ⟨i, ad0, by simp only [owL, List.mem_append, List.mem_map]; exact .inl ⟨i, m1, rfl⟩, m2⟩
        · exact q4 p hp ad ha
      | int k => exact q4 p hp ad ha
      | bool => exact q4 p hp ad ha
      | str => exact q4 p hp ad ha
      | unit => exact q4 p hp ad ha
      | two a b => exact q4 p hp ad ha
    have hc := h1.1
    have hv := h2.1
    obtain ⟨ct, cv⟩ := c
    unfold IsC at hc
    cases ct with
    | unit => cases y <;> simp [ofAV] at hc
    | two a b => cases y <;> simp [ofAV] at hc
    | int k =>
      cases y <;> simp only [ofAV] at hc <;> try (cases hc; done)
      obtain ⟨rfl, hc⟩ := ite_some hc
      cases hc
      exact ⟨hv, trivial, fun _ _ _ h => by cases h⟩
    | bool =>
      cases y <;> simp only [ofAV] at hc <;> try (cases hc; done)
      cases hc
      exact ⟨hv, trivial, fun _ _ _ h => by cases h⟩
    | str =>
      cases y <;> simp only [ofAV] at hc <;> try (cases hc; done)
      cases hc
      exact ⟨hv, trivial, fun _ _ _ h => by cases h⟩
    | sl e t =>
      cases y <;> simp only [ofAV] at hc <;> try (cases hc; done)
      · rename_i r
        split at hc
        · rename_i e' t' own l' hob
          split at hc
          · rename_i hh
            obtain ⟨rfl, rfl⟩ := hh
            cases hc
            simp only [castL_self]
            have hw := isOwn_row (hown r (by simp [AV.ids])) hob
            subst hw
            have hu := whole_of hv hob
            subst hu
            obtain ⟨xs, o1, o2⟩ := hs.obs r _ hob
            exact ⟨⟨_, _, rfl⟩, ⟨xs, o1, RepL.mono (fun b hb => ⟨hNN b hb, rfl⟩) o2⟩, fun _ _ _ _ ad ha => ⟨r, by simp [AV.ids], ad, ha, rfl⟩⟩
          · cases hc
        · cases hc
      · rename_i r off n
        split at hc
        · rename_i e' t' own l' hob
          split at hc
          · rename_i hh
            obtain ⟨rfl, rfl⟩ := hh
            cases hc
            simp only [castL_self]
            have hw := isOwn_row (hown r (by simp [AV.ids])) hob
            subst hw
            obtain ⟨i, m1, m3⟩ := (claim_spec hs (id := 0) (e := e') (t := t') (en := ⟨0, .row e' t' true ((l'.drop off).take n), some r⟩) (by simp [claim, hob]) hv).2
            have m4 := m3.rep NN hNN (fun r' _ hnw => (hnw trivial).elim)
            have hll : lenO (.row e' t' true ((l'.drop off).take n)) = ((l'.drop off).take n).length := rfl
            subst m1
            refine ⟨⟨i.a, i.c, by rw [hll]⟩, m4, fun _ _ _ _ ad ha => ?_⟩
            obtain ⟨r', ad0, e1, e2, e3⟩ := m3.wr trivial ad ha
            cases e1
            exact ⟨r, by simp [AV.ids], ad0, e2, e3⟩
          · cases hc
        · cases hc
      · cases hc
        simp only [RepAV] at hv
        subst hv
        exact ⟨⟨none, 0, rfl⟩, ⟨[], ⟨by simp, .inl ⟨rfl, rfl⟩⟩, rfl⟩, fun _ _ _ _ ad ha => by cases ha⟩
theorem toOwns_mem (own : Bool) : ∀ (id : Nat) (cs : List Cell), ∀ p ∈ (toOwns own id cs).2, ∃ e t x, p.2 = .row e t own x ∧ (⟨.sl e t, x⟩ : Cell) ∈ cs
  | id, [], p, hp => by cases hp
  | id, ⟨t, v⟩ :: r, p, hp => by
    rw [toOwns_cons] at hp
    rcases List.mem_append.1 hp with hp | hp
    · cases t <;> simp [Cell.toOwn, Cell.toAV] at hp
      subst hp
      exact ⟨_, _, v, rfl, by simp⟩
    · obtain ⟨e, t', x, h1, h2⟩ := toOwns_mem own (id + 1) r p hp
      exact ⟨e, t', x, h1, List.mem_cons_of_mem _ h2⟩
/-- Cells that a caller gets. -/
theorem grp (hs : HS w0 X M ι s.ob w1) (hNN : ∀ b, Nb w0 M ι s.ob w1 b → NN b) (own : Bool) {l : List AV} {cs : List Cell} {us : List Value} (id : Nat) (h1 : All2 (IsC s.ob) l cs) (h2 : All2 (RepAV ι s.ob) l us)
    (h3 : own = true → ∀ r ∈ idsOf l, isOwn s r = true) (h4 : own = false → ∀ r ∈ idsOf l, ∀ e t own x, s.ob r = some (.row e t own x) → Ro w1 NN t x (ι r).a (ι r).c) :
    (insOf id cs us).map Prod.fst = outIds (toOwns own id cs).2 ∧ All2 CellV cs us ∧
    ∀ (ι' : Nat → In) (ob' : Ob), (∀ p ∈ (toOwns own id cs).2, ob' p.1 = some p.2) → (∀ p ∈ insOf id cs us, ι' p.1 = p.2) →
      All2 (RepAV ι' ob') (toOwns own id cs).1 us ∧ ∀ p ∈ (toOwns own id cs).2, OutObj ι s.ob w1 NN (bif own then owL id l else []) ι' ob' p := by
  have hk : All2 CellV cs us ∧ All2 (CellR own w1 NN) cs us ∧ (own = true → ∀ p ∈ insOf id cs us, ∀ ad, p.2.a = some ad → ∃ i ad0, (p.1, i) ∈ owL id l ∧ (ι i).a = some ad0 ∧ ad0.block = ad.block) := by
    cases own with
    | true => obtain ⟨k1, k2, k3⟩ := own_cells hs hNN id h1 h2 (h3 rfl); exact ⟨k1, k2, fun _ => k3⟩
    | false => obtain ⟨k1, k2⟩ := read_cells (w := w1) (N := NN) h1 h2 (h4 rfl); exact ⟨k1, k2, fun h => by cases h⟩
  obtain ⟨k1, k2, k3⟩ := hk
  refine ⟨insOf_fst own id cs us k1.len, k1, fun ι' ob' ho hi => ⟨toOwns_rep own id cs us k1 ho hi, fun p hp => ?_⟩⟩
  obtain ⟨e, t, x, e1, e2⟩ := toOwns_obj own id cs us k2 hi p hp
  obtain ⟨n, o⟩ := p
  simp only at e1
  subst e1
  cases own with
  | false => exact e2
  | true =>
    refine ⟨e2, fun ad ha => ?_⟩
    have hm : n ∈ (insOf id cs us).map Prod.fst := by rw [insOf_fst true id cs us k1.len]; exact List.mem_map.2 ⟨_, hp, rfl⟩
    obtain ⟨q, hq, rfl⟩ := List.mem_map.1 hm
    have := hi q hq
    simp only at ha
    rw [this] at ha
    exact k3 rfl q hq ad ha
end

def RK.isOwn : RK → Bool | .one o => o | .agg _ o => o | .ptr _ _ o => o
def notRo : Obj → Bool | .row _ _ false _ => false | _ => true
section
variable {s : DS} {w1 : World} {NN : Nat → Prop}
theorem out_spec {tt : Nat → Option TI} (hs : HS w0 X M ι s.ob w1) (hNN : ∀ b, Nb w0 M ι s.ob w1 b → NN b) : ∀ (ks : List RK) (vs : List ResultVar) (us0 : List Value) (id : Nat) (q : Ra) (rest : List AV) (cells : List Cell) (o : Out), resA tt s ks vs = some q → All2 (fun v u => ∀ d, resD tt s v = some d → RepDV ι s.ob d u) vs us0 → (∀ r ∈ q.own, isOwn s r = true) →
    (∀ r ∈ q.oth, ∀ e t own x, s.ob r = some (.row e t own x) → Ro w1 NN t x (ι r).a (ι r).c) → All2 (IsC s.ob) (q.a ++ rest) cells → outR id ks cells = some o →
    ∃ (G : List (Nat × In)) (OW : List (Nat × Nat)), G.map Prod.fst = outIds o.w ∧ OW.map Prod.snd = q.own ∧ All2 (IsC s.ob) rest o.cs ∧ (∀ c ∈ o.cs, c ∈ cells) ∧ (∀ p ∈ o.vs, p.1 = false → ∃ x, p.2 = [x]) ∧ (ks.all RK.isOwn = true → ∀ p ∈ o.w, notRo p.2 = true) ∧
      (∀ p ∈ o.w, ∀ e t own x, p.2 = .row e t own x → (⟨.sl e t, x⟩ : Cell) ∈ cells) ∧
      ∀ (ι' : Nat → In) (ob' : Ob), (∀ p ∈ o.w, ob' p.1 = some p.2) → (∀ p ∈ G, ι' p.1 = p.2) → All2 (RepP ι' ob') o.vs us0 ∧ ∀ p ∈ o.w, OutObj ι s.ob w1 NN OW ι' ob' p
  | [], [], _ :: _, id, q, rest, cells, o, h, hv, _, _, hc, ho => hv.elim
  | _ :: _, _ :: _, [], id, q, rest, cells, o, h, hv, _, _, hc, ho => hv.elim
  | [], [], [], id, q, rest, cells, o, h, _, _, _, hc, ho => by
    cases h
    cases ho
    exact ⟨[], [], rfl, rfl, hc, fun _ h => h, by simp, by simp, by simp, fun _ _ _ _ => ⟨trivial, by simp⟩⟩
  | [], _ :: _, _, id, q, rest, cells, o, h, _, _, _, hc, ho => by cases h
  | _ :: _, [], _, id, q, rest, cells, o, h, _, _, _, hc, ho => by cases h
  | k :: ks, v :: vs, u0 :: us0, id, q, rest, cells, o, h, hv, how, hro, hc, ho => by
    simp only [resA] at h
    obtain ⟨dd, hdd, hb1⟩ := Option.bind_eq_some_iff.1 h
    obtain ⟨q0, h0, hb2⟩ := Option.bind_eq_some_iff.1 hb1
    have htt := hv.1 dd hdd
    clear h hb1
    revert hb2
    intro h
    cases k with
    | one own =>
      split at h
      all_goals try first | (cases h; done) | (rename_i hk; cases hk; done)
      · rename_i own' x hk
        cases hk
        cases h
        cases cells with
        | nil => exact hc.elim
        | cons c cells =>
          simp only [outR] at ho
          obtain ⟨o0, ho0, ho⟩ := Option.bind_eq_some_iff.1 ho
          cases ho
          have how1 : own = true → ∀ r ∈ idsOf [x], isOwn s r = true := fun h => by
            subst h
            exact fun r hr => how r (by simp only [ownL, cond_true]; exact List.mem_append_left _ hr)
          have hro1 : own = false → ∀ r ∈ idsOf [x], ∀ e t own x, s.ob r = some (.row e t own x) → Ro w1 NN t x (ι r).a (ι r).c := fun h r hr => hro r (by subst h; simp only [ownL, cond_false]; exact List.mem_append_left _ hr)
          obtain ⟨g1, g2, g3⟩ := grp hs hNN own (l := [x]) (cs := [c]) (us := [u0]) id ⟨hc.1, trivial⟩ ⟨htt, trivial⟩ how1 hro1
          obtain ⟨G, OW, r1, r2, r3, r4, r5, r6, r7, r8⟩ := out_spec hs hNN ks vs us0 (id + 1) q0 rest cells o0 h0 hv.2 (fun r hr => how r (List.mem_append_right _ hr)) (fun r hr => hro r (List.mem_append_right _ hr)) hc.2 ho0
          have hto : toOwns own id [c] = ([(c.toOwn own id).1], (c.toOwn own id).2) := by rw [toOwns_cons]; simp [toOwns]
          rw [hto] at g1 g3
          refine ⟨insOf id [c] [u0] ++ G, (bif own then owL id [x] else []) ++ OW, by simp only [List.map_append, outIds] at g1 r1 ⊢; rw [g1, r1], ?_, r3, fun c' h' => List.mem_cons_of_mem _ (r4 c' h'), fun p hp => ?_, fun hall p hp => ?_, fun p hp e t own x he => ?_, fun ι' ob' hob hin => ?_⟩
          · rw [List.map_append, r2]
            cases own
            · simp [ownL]
            · simp only [ownL, cond_true, owL_snd]
          · rcases List.mem_cons.1 hp with rfl | hp
            · exact fun _ => ⟨_, rfl⟩
            · exact r5 p hp
          · simp only [List.all_cons, Bool.and_eq_true, RK.isOwn] at hall
            rcases List.mem_append.1 hp with hp | hp
            · obtain ⟨e, t, x, e1, _⟩ := toOwns_mem own id [c] p (by rw [hto]; exact hp)
              rw [e1, hall.1]; rfl
            · exact r6 hall.2 p hp
          · rcases List.mem_append.1 hp with hp | hp
            · obtain ⟨e', t', x', e1, e2⟩ := toOwns_mem _ id [c] p (by rw [hto]; exact hp)
              rw [e1] at he
              cases he
              simp only [List.mem_singleton] at e2
              rw [e2]
              exact List.mem_cons_self
            · exact List.mem_cons_of_mem _ (r7 p hp e t own x he)
          · obtain ⟨m1, m2⟩ := g3 ι' ob' (fun p hp => hob p (List.mem_append_left _ hp)) (fun p hp => hin p (List.mem_append_left _ hp))
            obtain ⟨n1, n2⟩ := r8 ι' ob' (fun p hp => hob p (List.mem_append_right _ hp)) (fun p hp => hin p (List.mem_append_right _ hp))
            refine ⟨⟨fun y hy => ?_, n1⟩, fun p hp => ?_⟩
            · cases hy
              exact m1.1
            · rcases List.mem_append.1 hp with hp | hp
              · exact (m2 p hp).more fun z hz => List.mem_append_left _ hz
              · exact (n2 p hp).more fun z hz => List.mem_append_right _ hz
    | agg n own =>
      split at h
      all_goals try first | (cases h; done) | (rename_i hk; cases hk; done)
      · rename_i n' own' l hk
        cases hk
        obtain ⟨hn, h⟩ := ite_some h
        cases h
        obtain ⟨us, hus, hul⟩ := htt
        simp only [outR] at ho
        obtain ⟨o0, ho0, ho⟩ := Option.bind_eq_some_iff.1 ho
        cases ho
        have hc' : All2 (IsC s.ob) (l ++ (q0.a ++ rest)) cells := by simpa [ownL, List.append_assoc] using hc
        obtain ⟨c1, c2⟩ := All2.split hc'
        rw [hn] at c1 c2
        have how1 : own = true → ∀ r ∈ idsOf l, isOwn s r = true := fun h => by
          subst h
          exact fun r hr => how r (by simp only [ownL, cond_true]; exact List.mem_append_left _ hr)
        have hro1 : own = false → ∀ r ∈ idsOf l, ∀ e t own x, s.ob r = some (.row e t own x) → Ro w1 NN t x (ι r).a (ι r).c := fun h r hr => hro r (by subst h; simp only [ownL, cond_false]; exact List.mem_append_left _ hr)
        obtain ⟨g1, g2, g3⟩ := grp hs hNN own id c1 hul how1 hro1
        obtain ⟨G, OW, r1, r2, r3, r4, r5, r6, r7, r8⟩ := out_spec hs hNN ks vs us0 (id + n) q0 rest _ o0 h0 hv.2 (fun r hr => how r (List.mem_append_right _ hr)) (fun r hr => hro r (List.mem_append_right _ hr)) c2 ho0
        refine ⟨insOf id (cells.take n) us ++ G, (bif own then owL id l else []) ++ OW, by simp only [List.map_append, outIds] at g1 r1 ⊢; rw [g1, r1], ?_, r3, fun c' h' => List.mem_of_mem_drop (r4 c' h'), fun p hp => ?_, fun hall p hp => ?_, fun p hp e t own x he => ?_, fun ι' ob' hob hin => ?_⟩
        · rw [List.map_append, r2]
          cases own
          · simp [ownL]
          · simp only [ownL, cond_true, owL_snd]
        · rcases List.mem_cons.1 hp with rfl | hp
          · exact fun h => by cases h
          · exact r5 p hp
        · simp only [List.all_cons, Bool.and_eq_true, RK.isOwn] at hall
          rcases List.mem_append.1 hp with hp | hp
          · obtain ⟨e, t, x, e1, _⟩ := toOwns_mem own id _ p hp
            rw [e1, hall.1]; rfl
          · exact r6 hall.2 p hp
        · rcases List.mem_append.1 hp with hp | hp
          · obtain ⟨e', t', x', e1, e2⟩ := toOwns_mem _ id _ p hp
            rw [e1] at he
            cases he
            exact List.mem_of_mem_take e2
          · exact List.mem_of_mem_drop (r7 p hp e t own x he)
        · obtain ⟨m1, m2⟩ := g3 ι' ob' (fun p hp => hob p (List.mem_append_left _ hp)) (fun p hp => hin p (List.mem_append_left _ hp))
          obtain ⟨n1, n2⟩ := r8 ι' ob' (fun p hp => hob p (List.mem_append_right _ hp)) (fun p hp => hin p (List.mem_append_right _ hp))
          refine ⟨⟨⟨us, hus, m1⟩, n1⟩, fun p hp => ?_⟩
          rcases List.mem_append.1 hp with hp | hp
          · exact (m2 p hp).more fun z hz => List.mem_append_left _ hz
          · exact (n2 p hp).more fun z hz => List.mem_append_right _ hz
    | ptr t0 n own =>
      split at h
      all_goals try first | (cases h; done) | (rename_i hk; cases hk; done)
      · rename_i t' n' own' b hk
        cases hk
        split at h
        · rename_i t'' c hob
          obtain ⟨⟨e1, hn⟩, h'⟩ := ite_some h
          subst e1
          cases h'
          obtain ⟨g, us, b1, b2, hul⟩ := hs.obs b _ hob
          simp only [outR] at ho
          obtain ⟨o0, ho0, ho⟩ := Option.bind_eq_some_iff.1 ho
          cases ho
          have hc' : All2 (IsC s.ob) (c ++ (q0.a ++ rest)) cells := by simpa [ownL, List.append_assoc] using hc
          obtain ⟨c1, c2⟩ := All2.split hc'
          rw [hn] at c1 c2
          have how1 : own = true → ∀ r ∈ idsOf c, isOwn s r = true := fun h => by
            subst h
            exact fun r hr => how r (by simp only [ownL, cond_true]; exact List.mem_cons_of_mem _ (List.mem_append_left _ hr))
          have hro1 : own = false → ∀ r ∈ idsOf c, ∀ e t own x, s.ob r = some (.row e t own x) → Ro w1 NN t x (ι r).a (ι r).c := fun h r hr => hro r (by subst h; simp only [ownL, cond_false]; exact List.mem_append_left _ hr)
          obtain ⟨g1, g2, g3⟩ := grp hs hNN own (id + 1) c1 hul how1 hro1
          obtain ⟨G, OW, r1, r2, r3, r4, r5, r6, r7, r8⟩ := out_spec hs hNN ks vs us0 (id + 1 + n) q0 rest _ o0 h0 hv.2 (fun r hr => how r (List.mem_cons_of_mem _ (List.mem_append_right _ hr))) (fun r hr => hro r (List.mem_append_right _ hr)) c2 ho0
          obtain ⟨v1, ob1, v2, v3⟩ := htt
          rw [hob] at v2
          cases v2
          obtain ⟨g', v4, v5⟩ := v3 _ _ rfl
          rw [b1] at v4
          cases v4
          refine ⟨(id, ι b) :: (insOf (id + 1) (cells.take n) us ++ G), (id, b) :: ((bif own then owL (id + 1) c else []) ++ OW), by simp only [List.map_append, outIds, List.map_cons] at g1 r1 ⊢; rw [g1, r1], ?_, r3, fun c' h' => List.mem_of_mem_drop (r4 c' h'), fun p hp => ?_, fun hall p hp => ?_, fun p hp e t own x he => ?_, fun ι' ob' hob' hin => ?_⟩
          · rw [List.map_cons, List.map_append, r2]
            cases own
            · simp [ownL]
            · simp only [ownL, cond_true, owL_snd]
          · rcases List.mem_cons.1 hp with rfl | hp
            · exact fun _ => ⟨_, rfl⟩
            · exact r5 p hp
          · simp only [List.all_cons, Bool.and_eq_true, RK.isOwn] at hall
            rcases List.mem_cons.1 hp with rfl | hp
            · rfl
            rcases List.mem_append.1 hp with hp | hp
            · obtain ⟨e, t, x, e1, _⟩ := toOwns_mem own _ _ p hp
              rw [e1, hall.1]; rfl
            · exact r6 hall.2 p hp
          · rcases List.mem_cons.1 hp with rfl | hp
            · cases he
            rcases List.mem_append.1 hp with hp | hp
            · obtain ⟨e', t', x', e1, e2⟩ := toOwns_mem _ _ _ p hp
              rw [e1] at he
              cases he
              exact List.mem_of_mem_take e2
            · exact List.mem_of_mem_drop (r7 p hp e t own x he)
          · obtain ⟨m1, m2⟩ := g3 ι' ob' (fun p hp => hob' p (List.mem_cons_of_mem _ (List.mem_append_left _ hp))) (fun p hp => hin p (List.mem_cons_of_mem _ (List.mem_append_left _ hp)))
            obtain ⟨n1, n2⟩ := r8 ι' ob' (fun p hp => hob' p (List.mem_cons_of_mem _ (List.mem_append_right _ hp))) (fun p hp => hin p (List.mem_cons_of_mem _ (List.mem_append_right _ hp)))
            have hid : ι' id = ι b := hin (id, ι b) List.mem_cons_self
            have hidb := hob' _ List.mem_cons_self
            refine ⟨⟨fun y hy => ?_, n1⟩, fun p hp => ?_⟩
            · cases hy
              refine ⟨v1, _, hidb, fun t2 c2 _ => ⟨g, ?_, v5⟩⟩
              rw [hid]; exact b1
            · rcases List.mem_cons.1 hp with rfl | hp
              · exact ⟨b, g, us, List.mem_cons_self, by rw [hid]; exact b1, b1, b2, m1⟩
              rcases List.mem_append.1 hp with hp | hp
              · exact (m2 p hp).more fun z hz => List.mem_cons_of_mem _ (List.mem_append_left _ hz)
              · exact (n2 p hp).more fun z hz => List.mem_cons_of_mem _ (List.mem_append_right _ hz)
        · cases h
end

def noBox : PK → Bool | .box _ _ => false | .fnp _ _ _ => false | _ => true
/-- What a caller gets back of what it handed over to be written. -/
def ParObj (ι1 : Nat → In) (w1 : World) (NN : Nat → Prop) (jj : Nat) (ι' : Nat → In) (ob' : Ob) (o : Obj) : Prop :=
  match o with
  | .row e t true l => Own w1 NN e t l (ι1 jj).a (ι1 jj).c
  | .box t c => ∃ g cs, (ι1 jj).a = some ⟨g, 0, none⟩ ∧ w1.heap[g]? = some (.cells (List.toArray cs) t (0, 0)) ∧ All2 (RepAV ι' ob') c cs
  | _ => False
section
variable {w0' : World} {X' M' : Nat → Prop} {ι1 : Nat → In} {s : DS} {w1 : World} {NN : Nat → Prop}
theorem slots_owL : ∀ (l : List AV) (id k : Nat), l.all (ownAV ob) = true → (owL (id + k) l).map Prod.fst = (slots k l).map fun i => id + i
  | [], _, _, _ => rfl
  | x :: l, id, k, h => by
    simp only [List.all_cons, Bool.and_eq_true] at h
    have ih := slots_owL l id (k + 1) h.2
    have hx := h.1
    rw [← Nat.add_assoc] at ih
    cases x <;> first | (simp [ownAV] at hx; done) | (simp [owL, slots, AV.ids, ih])
theorem sameL_eq : ∀ {l q : List Nat}, sameL l q = true → l = q
  | [], [], _ => rfl
  | a :: l, b :: q, h => by
    simp only [sameL, Bool.and_eq_true] at h
    rw [Nat.eq_of_beq_eq_true h.1, sameL_eq h.2]
  | [], _ :: _, h => by cases h
  | _ :: _, [], h => by cases h
/-- Rows that stay come back. -/
theorem outW_spec (k1 : HS w0' X' M' ι1 s.ob w1) (hNN : ∀ b, Nb w0' M' ι1 s.ob w1 b → NN b) {rest : List AV} : ∀ (P : List (Nat × Nat)) (cells : List Cell) (a : List (Nat × Obj) × List Cell), outW (P.map Prod.snd) cells = some a → All2 (IsC s.ob) ((P.map Prod.fst).map AV.whole ++ rest) cells →
    (∀ x ∈ P, ι1 x.1 = ι x.2 ∧ ∃ o oo, s.ob x.1 = some o ∧ ob x.2 = some oo ∧ Wr oo ∧ Sh oo o) → (∀ x ∈ P, isOwn s x.1 = true) → (∀ x ∈ P, ∃ e t l, ob x.2 = some (.row e t true l)) →
    outIds a.1 = P.map Prod.snd ∧ All2 (IsC s.ob) rest a.2 ∧ (∀ c ∈ a.2, c ∈ cells) ∧ (∀ y ∈ a.1, ∀ e t own x, y.2 = .row e t own x → (⟨.sl e t, x⟩ : Cell) ∈ cells) ∧
    ∀ (ι' : Nat → In) (ob' : Ob), ∀ y ∈ a.1, ∃ jj oo, (jj, y.1) ∈ P ∧ ob y.1 = some oo ∧ Wr oo ∧ Sh oo y.2 ∧ ParObj ι1 w1 NN jj ι' ob' y.2
  | [], cells, a, h, hc, _, _, _ => by cases h; exact ⟨rfl, hc, fun _ h => h, by simp, by simp⟩
  | (jj, i) :: P, [], a, h, hc, _, _, _ => by cases h
  | (jj, i) :: P, c :: cells, a, h, hc, hkeep, how, hrow => by
    obtain ⟨ct, cv⟩ := c
    cases ct with
    | sl e t =>
      simp only [List.map_cons, outW] at h
      obtain ⟨q, h1, h⟩ := Option.bind_eq_some_iff.1 h
      cases h
      obtain ⟨b1, b2, b3, b4, b5⟩ := outW_spec k1 hNN P cells q h1 hc.2 (fun x hx => hkeep x (List.mem_cons_of_mem _ hx)) (fun x hx => how x (List.mem_cons_of_mem _ hx)) (fun x hx => hrow x (List.mem_cons_of_mem _ hx))
      obtain ⟨a1, o, oo, a2, a3, a4, a5⟩ := hkeep (jj, i) List.mem_cons_self
      obtain ⟨e0, t0, l0, a6⟩ := hrow (jj, i) List.mem_cons_self
      have a7 := how (jj, i) List.mem_cons_self
      simp only at a1 a2 a3 a6 a7
      rw [a6] at a3
      cases a3
      cases o with
      | box _ _ => exact a5.elim
      | dead => simp [isOwn, a2] at a7
      | row e1 t1 w1' l1 =>
        obtain ⟨rfl, rfl, a8⟩ := a5
        have hw := isOwn_row a7 a2
        subst hw
        have := IsC.whole hc.1 a2
        cases this
        refine ⟨by simp only [outIds, List.map_cons] at b1 ⊢; rw [b1], b2, fun c hc => List.mem_cons_of_mem _ (b3 c hc), fun y hy e t own x he => ?_, fun ι' ob' y hy => ?_⟩
        · rcases List.mem_cons.1 hy with rfl | hy
          · cases he; exact List.mem_cons_self
          · exact List.mem_cons_of_mem _ (b4 y hy e t own x he)
        · rcases List.mem_cons.1 hy with rfl | hy
          · obtain ⟨xs, o1, o2⟩ := k1.obs _ _ a2
            exact ⟨jj, _, List.mem_cons_self, a6, trivial, ⟨rfl, rfl, a8⟩, xs, o1, RepL.mono (fun b hb => ⟨hNN b hb, rfl⟩) o2⟩
          · obtain ⟨jj', oo, c1, c2⟩ := b5 ι' ob' y hy
            exact ⟨jj', oo, List.mem_cons_of_mem _ c1, c2⟩
    | _ => simp [outW] at h
theorem owL_rows : ∀ (l : List AV) (id : Nat), l.all (ownAV ob) = true → ∀ x ∈ owL id l, ∃ e t y, ob x.2 = some (.row e t true y)
  | [], _, _, x, hx => by cases hx
  | y :: l, id, h, x, hx => by
    simp only [List.all_cons, Bool.and_eq_true] at h
    simp only [owL, List.mem_append] at hx
    rcases hx with hx | hx
    · have hy := h.1
      cases y with
      | whole r =>
        simp only [AV.ids, List.map_cons, List.map_nil, List.mem_singleton] at hx
        subst hx
        unfold ownAV at hy
        simp only at hy
        split at hy
        · rename_i e t z hz; exact ⟨e, t, z, hz⟩
        · cases hy
      | cut _ _ _ => simp [ownAV] at hy
      | _ => simp [AV.ids] at hx
    · exact owL_rows l (id + 1) h.2 x hx
theorem outP_spec (k1 : HS w0' X' M' ι1 s.ob w1) (hNN : ∀ b, Nb w0' M' ι1 s.ob w1 b → NN b) : ∀ (ps : List PK) (args : List DV) (j : Nat) (avs : List AV) (p : Ra) (cells : List Cell) (id : Nat) (q : List (Nat × Obj) × List (Nat × Obj)), flat ob ps args = some avs → pA s j ps = some p →
    (∀ r ∈ p.oth, ∀ e t own x, s.ob r = some (.row e t own x) → Ro w1 NN t x (ι1 r).a (ι1 r).c) → All2 (IsC s.ob) p.a cells → outP id ps args cells = some q →
    (∀ x ∈ owP j ps args, ι1 x.1 = ι x.2 ∧ ∃ o oo, s.ob x.1 = some o ∧ ob x.2 = some oo ∧ Wr oo ∧ Sh oo o) → (∀ r ∈ p.kp, isOwn s r = true) → (∀ r ∈ p.own, isOwn s r = true) →
    p.kp = (owP j ps args).map Prod.fst ∧ outIds q.1 = boxIds ps args ∧ (ps.all noBox = true → ∀ y ∈ q.2, notRo y.2 = true) ∧ (∀ y ∈ q.1, ∀ e t own x, y.2 = .row e t own x → (⟨.sl e t, x⟩ : Cell) ∈ cells) ∧ (∀ y ∈ q.2, ∀ e t own x, y.2 = .row e t own x → (⟨.sl e t, x⟩ : Cell) ∈ cells) ∧
    ∃ (G : List (Nat × In)) (OW2 : List (Nat × Nat)), G.map Prod.fst = outIds q.2 ∧ OW2.map Prod.snd = p.own ∧ ∀ (ι' : Nat → In) (ob' : Ob), (∀ y ∈ q.2, ob' y.1 = some y.2) → (∀ y ∈ G, ι' y.1 = y.2) →
      (∀ y ∈ q.2, OutObj ι1 s.ob w1 NN OW2 ι' ob' y) ∧ ∀ y ∈ q.1, ∃ jj oo, (jj, y.1) ∈ owP j ps args ∧ ob y.1 = some oo ∧ Wr oo ∧ Sh oo y.2 ∧ ParObj ι1 w1 NN jj ι' ob' y.2
  | [], [], j, avs, p, cells, id, q, hf, hp, hro, hc, ho, hkeep, how, hown => by
    cases hp
    cases cells with
    | nil => cases ho; exact ⟨rfl, rfl, by simp, by simp, by simp, [], [], rfl, rfl, fun _ _ _ _ => ⟨by simp, by simp⟩⟩
    | cons _ _ => exact hc.elim
  | [], _ :: _, j, avs, p, cells, id, q, hf, hp, hro, hc, ho, hkeep, how, hown => by cases hf
  | pk :: _, [], j, avs, p, cells, id, q, hf, hp, hro, hc, ho, hkeep, how, hown => by cases pk <;> simp [flat] at hf
  | pk :: ps, d :: args, j, avs, p, cells, id, q, hf, hp, hro, hc, ho, hkeep, how, hown => by
    cases pk with
    | one =>
      cases d with
      | «at» x =>
        simp only [flat] at hf
        obtain ⟨avs', hf3, _⟩ := Option.bind_eq_some_iff.1 hf
        simp only [pA] at hp
        simp only [outP] at ho
        have := outP_spec k1 hNN ps args (j + 1) avs' p cells id q hf3 hp hro hc ho (fun x hx => hkeep x (by simpa [owP] using hx)) how hown
        simpa [owP, boxIds, noBox] using this
      | agg l => cases hf
      | tup l => cases hf
    | agg n =>
      cases d with
      | «at» x => cases hf
      | tup l => cases hf
      | agg l =>
        simp only [flat] at hf
        obtain ⟨_, hf⟩ := ite_some hf
        obtain ⟨avs', hf3, _⟩ := Option.bind_eq_some_iff.1 hf
        simp only [pA] at hp
        simp only [outP] at ho
        have := outP_spec k1 hNN ps args (j + 1) avs' p cells id q hf3 hp hro hc ho (fun x hx => hkeep x (by simpa [owP] using hx)) how hown
        simpa [owP, boxIds, noBox] using this
    | give =>
      match d, hf, ho, hkeep with
      | .at (.whole i), hf, ho, hkeep =>
        simp only [flat] at hf
        split at hf
        · obtain ⟨avs', hf3, _⟩ := Option.bind_eq_some_iff.1 hf
          simp only [pA] at hp
          simp only [outP] at ho
          have := outP_spec k1 hNN ps args (j + 1) avs' p cells id q hf3 hp hro hc ho (fun x hx => hkeep x (by simpa [owP] using hx)) how hown
          simpa [owP, boxIds, noBox] using this
        · cases hf
    | row =>
      match d, hf, ho, hkeep with
      | .at (.whole i), hf, ho, hkeep =>
        simp only [flat] at hf
        split at hf
        · rename_i e0 t0 l0 hob
          obtain ⟨avs', hf3, _⟩ := Option.bind_eq_some_iff.1 hf
          simp only [pA] at hp
          obtain ⟨p', hp3, hp2⟩ := Option.bind_eq_some_iff.1 hp
          cases hp2
          cases cells with
          | nil => exact hc.elim
          | cons c cells =>
            obtain ⟨ct, cv⟩ := c
            have hc1 := hc.1
            cases ct with
            | sl e t =>
              simp only [outP] at ho
              obtain ⟨q', ho3, hq⟩ := Option.bind_eq_some_iff.1 ho
              cases hq
              obtain ⟨a1, o, oo, a2, a3, a4, a5⟩ := hkeep (j * 16, i) (by simp [owP])
              simp only at a1 a2 a3
              rw [hob] at a3
              cases a3
              have hw0 : isOwn s (j * 16) = true := how (j * 16) List.mem_cons_self
              cases o with
              | box _ _ => exact a5.elim
              | dead => simp [isOwn, a2] at hw0
              | row e1 t1 w1' l1 =>
                obtain ⟨rfl, rfl, a6⟩ := a5
                have hw := isOwn_row hw0 a2
                subst hw
                have := IsC.whole hc1 a2
                cases this
                obtain ⟨b1, b2, b3, b4, b4', G, OW2, b5, b52, b6⟩ := outP_spec k1 hNN ps args (j + 1) avs' p' cells id q' hf3 hp3 hro hc.2 ho3 (fun x hx => hkeep x (by simp only [owP]; exact List.mem_cons_of_mem _ hx)) (fun r hr => how r (List.mem_cons_of_mem _ hr)) hown
                refine ⟨by simp [owP, b1], by simp [boxIds, ← b2, outIds], fun h => b3 (by simpa [noBox] using h), fun y hy e t own x he => ?_, fun y hy e t own x he => List.mem_cons_of_mem _ (b4' y hy e t own x he), G, OW2, b5, b52, fun ι' ob' h1 h2 => ⟨(b6 ι' ob' h1 h2).1, fun y hy => ?_⟩⟩
                · rcases List.mem_cons.1 hy with rfl | hy
                  · cases he; exact List.mem_cons_self
                  · exact List.mem_cons_of_mem _ (b4 y hy e t own x he)
                · rcases List.mem_cons.1 hy with rfl | hy
                  · obtain ⟨xs, o1, o2⟩ := k1.obs _ _ a2
                    exact ⟨j * 16, _, by simp [owP], hob, trivial, ⟨rfl, rfl, a6⟩, xs, o1, RepL.mono (fun b hb => ⟨hNN b hb, rfl⟩) o2⟩
                  · obtain ⟨jj, oo, c1, c2⟩ := (b6 ι' ob' h1 h2).2 y hy
                    exact ⟨jj, oo, by simp only [owP]; exact List.mem_cons_of_mem _ c1, c2⟩
            | _ => simp [outP] at ho
        · cases hf
    | aggw n sl =>
      cases d with
      | «at» x => cases hf
      | tup l => cases hf
      | agg l =>
        simp only [flat] at hf
        obtain ⟨⟨hn, hall⟩, hf⟩ := ite_some hf
        simp only [Bool.and_eq_true] at hall
        obtain ⟨avs', hf3, _⟩ := Option.bind_eq_some_iff.1 hf
        simp only [pA] at hp
        obtain ⟨p', hp3, hp2⟩ := Option.bind_eq_some_iff.1 hp
        cases hp2
        simp only [outP] at ho
        obtain ⟨a, ho1, ho2⟩ := Option.bind_eq_some_iff.1 ho
        obtain ⟨q', ho3, hq⟩ := Option.bind_eq_some_iff.1 ho2
        cases hq
        have hkp : sl.map (fun i => j * 16 + i) = (owL (j * 16) l).map Prod.fst := by
          have := slots_owL (ob := ob) l (j * 16) 0 hall.1
          rw [Nat.add_zero] at this
          rw [this, sameL_eq hall.2]
        have hkp2 : sl.map (fun i => AV.whole (j * 16 + i)) = ((owL (j * 16) l).map Prod.fst).map AV.whole := by
          rw [← hkp, List.map_map]
          rfl
        have hc' : All2 (IsC s.ob) (sl.map (fun i => AV.whole (j * 16 + i)) ++ p'.a) cells := hc
        have how' : ∀ r ∈ sl.map (fun i => j * 16 + i) ++ p'.kp, isOwn s r = true := how
        rw [hkp2] at hc'
        rw [hkp] at how'
        rw [← owL_snd (j * 16)] at ho1
        obtain ⟨w1, w2, w3, w4, w5⟩ := outW_spec k1 hNN (owL (j * 16) l) cells a ho1 hc' (fun x hx => hkeep x (by simp only [owP, List.mem_append]; exact .inl hx)) (fun x hx => how' x.1 (List.mem_append_left _ (List.mem_map.2 ⟨x, hx, rfl⟩))) (owL_rows l (j * 16) hall.1)
        obtain ⟨b1, b2, b3, b4, b4', G, OW2, b5, b52, b6⟩ := outP_spec k1 hNN ps args (j + 1) avs' p' a.2 id q' hf3 hp3 hro w2 ho3 (fun x hx => hkeep x (by simp only [owP, List.mem_append]; exact .inr hx)) (fun r hr => how' r (List.mem_append_right _ hr)) hown
        refine ⟨by simp only [owP, List.map_append]; rw [hkp, b1], ?_, fun h => b3 (by simpa [noBox] using h), fun y hy e t own x he => ?_, fun y hy e t own x he => w3 _ (b4' y hy e t own x he), G, OW2, b5, b52, fun ι' ob' h1 h2 => ⟨(b6 ι' ob' h1 h2).1, fun y hy => ?_⟩⟩
        · simp only [boxIds, ← b2, outIds, List.map_append] at w1 ⊢
          rw [w1, owL_snd]
        · rcases List.mem_append.1 hy with hy | hy
          · exact w4 y hy e t own x he
          · exact w3 _ (b4 y hy e t own x he)
        · rcases List.mem_append.1 hy with hy | hy
          · obtain ⟨jj, oo, c1, c2⟩ := w5 ι' ob' y hy
            exact ⟨jj, oo, by simp only [owP, List.mem_append]; exact .inl c1, c2⟩
          · obtain ⟨jj, oo, c1, c2⟩ := (b6 ι' ob' h1 h2).2 y hy
            exact ⟨jj, oo, by simp only [owP, List.mem_append]; exact .inr c1, c2⟩
    | box t n =>
      match d, hf, ho, hkeep with
      | .at (.bptr b 0), hf, ho, hkeep =>
        simp only [flat] at hf
        split at hf
        · rename_i t0 c0 hob
          obtain ⟨⟨ht0, _⟩, hf⟩ := ite_some hf
          obtain ⟨avs', hf3, _⟩ := Option.bind_eq_some_iff.1 hf
          simp only [pA] at hp
          split at hp
          · rename_i t' c hsb
            obtain ⟨⟨e1, hn⟩, hp'⟩ := ite_some hp
            obtain ⟨p', hp3, hp2⟩ := Option.bind_eq_some_iff.1 hp'
            cases hp2
            simp only [outP] at ho
            obtain ⟨q', ho3, hq⟩ := Option.bind_eq_some_iff.1 ho
            cases hq
            have hc' : All2 (IsC s.ob) (c ++ p'.a) cells := hc
            obtain ⟨c1, c2⟩ := All2.split hc'
            rw [hn] at c1 c2
            obtain ⟨g, us, u1, u2, hul⟩ := k1.obs _ _ hsb
            obtain ⟨g1, g2, g3⟩ := grp k1 hNN false id c1 hul (fun h => by cases h) (fun _ r hr => hro r (List.mem_append_left _ hr))
            obtain ⟨b1, b2, b3, b4, b4', G, OW2, b5, b52, b6⟩ := outP_spec k1 hNN ps args (j + 1) avs' p' _ (id + n) q' hf3 hp3 (fun r hr => hro r (List.mem_append_right _ hr)) c2 ho3 (fun x hx => hkeep x (by simp only [owP]; exact List.mem_cons_of_mem _ hx)) (fun r hr => how r (List.mem_cons_of_mem _ hr)) hown
            refine ⟨by simp [owP, b1], by simp [boxIds, ← b2, outIds], fun h => by simp [noBox] at h, fun y hy e t own x he => ?_, fun y hy e t own x he => ?_, insOf id (cells.take n) us ++ G, OW2, by simp only [List.map_append, outIds] at g1 b5 ⊢; rw [g1, b5], b52, fun ι' ob' h1 h2 => ?_⟩
            · rcases List.mem_cons.1 hy with rfl | hy
              · cases he
              · exact List.mem_of_mem_drop (b4 y hy e t own x he)
            · rcases List.mem_append.1 hy with hy | hy
              · obtain ⟨e', t', x', m1, m2⟩ := toOwns_mem _ id _ y hy
                rw [m1] at he
                cases he
                exact List.mem_of_mem_take m2
              · exact List.mem_of_mem_drop (b4' y hy e t own x he)
            · obtain ⟨m1, m2⟩ := g3 ι' ob' (fun y hy => h1 y (List.mem_append_left _ hy)) (fun y hy => h2 y (List.mem_append_left _ hy))
              obtain ⟨n1, n2⟩ := b6 ι' ob' (fun y hy => h1 y (List.mem_append_right _ hy)) (fun y hy => h2 y (List.mem_append_right _ hy))
              refine ⟨fun y hy => ?_, fun y hy => ?_⟩
              · rcases List.mem_append.1 hy with hy | hy
                · exact (m2 y hy).more (by simp)
                · exact n1 y hy
              · rcases List.mem_cons.1 hy with rfl | hy
                · subst e1
                  exact ⟨j * 16, _, by simp [owP], hob, trivial, trivial, g, us, u1, u2, m1⟩
                · obtain ⟨jj, oo, d1, d2⟩ := n2 y hy
                  exact ⟨jj, oo, by simp only [owP]; exact List.mem_cons_of_mem _ d1, d2⟩
          · cases hp
        · cases hf
    | fnp g0 t n =>
      match d, hf, ho, hkeep with
      | .at (.fn f0 [(b, 0)]), hf, ho, hkeep =>
        simp only [flat] at hf
        split at hf
        · rename_i t0 c0 hob
          obtain ⟨⟨_, ht0, _⟩, hf⟩ := ite_some hf
          obtain ⟨avs', hf3, _⟩ := Option.bind_eq_some_iff.1 hf
          simp only [pA] at hp
          split at hp
          · rename_i t' c hsb
            obtain ⟨⟨e1, hn⟩, hp'⟩ := ite_some hp
            obtain ⟨p', hp3, hp2⟩ := Option.bind_eq_some_iff.1 hp'
            cases hp2
            simp only [outP] at ho
            obtain ⟨q', ho3, hq⟩ := Option.bind_eq_some_iff.1 ho
            cases hq
            have hc' : All2 (IsC s.ob) (c ++ p'.a) cells := hc
            obtain ⟨c1, c2⟩ := All2.split hc'
            rw [hn] at c1 c2
            obtain ⟨g, us, u1, u2, hul⟩ := k1.obs _ _ hsb
            obtain ⟨g1, g2, g3⟩ := grp k1 hNN false id c1 hul (fun h => by cases h) (fun _ r hr => hro r (List.mem_append_left _ hr))
            obtain ⟨b1, b2, b3, b4, b4', G, OW2, b5, b52, b6⟩ := outP_spec k1 hNN ps args (j + 1) avs' p' _ (id + n) q' hf3 hp3 (fun r hr => hro r (List.mem_append_right _ hr)) c2 ho3 (fun x hx => hkeep x (by simp only [owP]; exact List.mem_cons_of_mem _ hx)) (fun r hr => how r (List.mem_cons_of_mem _ hr)) hown
            refine ⟨by simp [owP, b1], by simp [boxIds, ← b2, outIds], fun h => by simp [noBox] at h, fun y hy e t own x he => ?_, fun y hy e t own x he => ?_, insOf id (cells.take n) us ++ G, OW2, by simp only [List.map_append, outIds] at g1 b5 ⊢; rw [g1, b5], b52, fun ι' ob' h1 h2 => ?_⟩
            · rcases List.mem_cons.1 hy with rfl | hy
              · cases he
              · exact List.mem_of_mem_drop (b4 y hy e t own x he)
            · rcases List.mem_append.1 hy with hy | hy
              · obtain ⟨e', t', x', m1, m2⟩ := toOwns_mem _ id _ y hy
                rw [m1] at he
                cases he
                exact List.mem_of_mem_take m2
              · exact List.mem_of_mem_drop (b4' y hy e t own x he)
            · obtain ⟨m1, m2⟩ := g3 ι' ob' (fun y hy => h1 y (List.mem_append_left _ hy)) (fun y hy => h2 y (List.mem_append_left _ hy))
              obtain ⟨n1, n2⟩ := b6 ι' ob' (fun y hy => h1 y (List.mem_append_right _ hy)) (fun y hy => h2 y (List.mem_append_right _ hy))
              refine ⟨fun y hy => ?_, fun y hy => ?_⟩
              · rcases List.mem_append.1 hy with hy | hy
                · exact (m2 y hy).more (by simp)
                · exact n1 y hy
              · rcases List.mem_cons.1 hy with rfl | hy
                · subst e1
                  exact ⟨j * 16, _, by simp [owP], hob, trivial, trivial, g, us, u1, u2, m1⟩
                · obtain ⟨jj, oo, d1, d2⟩ := n2 y hy
                  exact ⟨jj, oo, by simp only [owP]; exact List.mem_cons_of_mem _ d1, d2⟩
          · cases hp
        · cases hf
    | boxg t n =>
      match d, hf, ho, hkeep with
      | .at (.bptr b 0), hf, ho, hkeep =>
        simp only [flat] at hf
        split at hf
        · rename_i t0 c0 hob
          obtain ⟨⟨⟨ht0, _⟩, _⟩, hf⟩ := ite_some hf
          obtain ⟨avs', hf3, _⟩ := Option.bind_eq_some_iff.1 hf
          simp only [pA] at hp
          split at hp
          · rename_i t' c hsb
            obtain ⟨⟨e1, hn⟩, hp'⟩ := ite_some hp
            obtain ⟨p', hp3, hp2⟩ := Option.bind_eq_some_iff.1 hp'
            cases hp2
            simp only [outP] at ho
            obtain ⟨q', ho3, hq⟩ := Option.bind_eq_some_iff.1 ho
            cases hq
            have hc' : All2 (IsC s.ob) (c ++ p'.a) cells := hc
            obtain ⟨c1, c2⟩ := All2.split hc'
            rw [hn] at c1 c2
            obtain ⟨g, us, u1, u2, hul⟩ := k1.obs _ _ hsb
            obtain ⟨g1, g2, g3⟩ := grp k1 hNN true id c1 hul (fun _ r hr => hown r (List.mem_append_left _ hr)) (fun h => by cases h)
            obtain ⟨b1, b2, b3, b4, b4', G, OW2, b5, b52, b6⟩ := outP_spec k1 hNN ps args (j + 1) avs' p' _ (id + n) q' hf3 hp3 hro c2 ho3 (fun x hx => hkeep x (by simp only [owP]; exact List.mem_cons_of_mem _ hx)) (fun r hr => how r (List.mem_cons_of_mem _ hr)) (fun r hr => hown r (List.mem_append_right _ hr))
            refine ⟨by simp [owP, b1], by simp [boxIds, ← b2, outIds], fun h y hy => ?_, fun y hy e t own x he => ?_, fun y hy e t own x he => ?_, insOf id (cells.take n) us ++ G, owL id c ++ OW2, by simp only [List.map_append, outIds] at g1 b5 ⊢; rw [g1, b5], by rw [List.map_append, owL_snd, b52], fun ι' ob' h1 h2 => ?_⟩
            · rcases List.mem_append.1 hy with hy | hy
              · obtain ⟨e, t, x, m1, _⟩ := toOwns_mem true id _ y hy
                rw [m1]; rfl
              · exact b3 (by simpa [noBox] using h) y hy
            · rcases List.mem_cons.1 hy with rfl | hy
              · cases he
              · exact List.mem_of_mem_drop (b4 y hy e t own x he)
            · rcases List.mem_append.1 hy with hy | hy
              · obtain ⟨e', t', x', m1, m2⟩ := toOwns_mem _ id _ y hy
                rw [m1] at he
                cases he
                exact List.mem_of_mem_take m2
              · exact List.mem_of_mem_drop (b4' y hy e t own x he)
            · obtain ⟨m1, m2⟩ := g3 ι' ob' (fun y hy => h1 y (List.mem_append_left _ hy)) (fun y hy => h2 y (List.mem_append_left _ hy))
              obtain ⟨n1, n2⟩ := b6 ι' ob' (fun y hy => h1 y (List.mem_append_right _ hy)) (fun y hy => h2 y (List.mem_append_right _ hy))
              refine ⟨fun y hy => ?_, fun y hy => ?_⟩
              · rcases List.mem_append.1 hy with hy | hy
                · exact (m2 y hy).more fun z hz => List.mem_append_left _ hz
                · exact (n1 y hy).more fun z hz => List.mem_append_right _ hz
              · rcases List.mem_cons.1 hy with rfl | hy
                · subst e1
                  exact ⟨j * 16, _, by simp [owP], hob, trivial, trivial, g, us, u1, u2, m1⟩
                · obtain ⟨jj, oo, d1, d2⟩ := n2 y hy
                  exact ⟨jj, oo, by simp only [owP]; exact List.mem_cons_of_mem _ d1, d2⟩
          · cases hp
        · cases hf
end
theorem updL_mem {ob : Ob} : ∀ {L : List (Nat × Obj)} {i : Nat}, i ∈ outIds L → ∃ p ∈ L, p.1 = i ∧ updL ob L i = some p.2
  | [], i, h => by cases h
  | p :: r, i, h => by
    by_cases hr : i ∈ outIds r
    · obtain ⟨p', h1, h2, h3⟩ := updL_mem (ob := upd ob p.1 (some p.2)) hr
      exact ⟨p', List.mem_cons_of_mem _ h1, h2, h3⟩
    · have : i = p.1 := by
        rcases List.mem_cons.1 h with e | e
        · exact e
        · exact (hr e).elim
      subst this
      exact ⟨p, List.mem_cons_self, rfl, by simp only [updL]; rw [updL_ne hr, upd_same]⟩
theorem updL_of {ob : Ob} {L : List (Nat × Obj)} {p : Nat × Obj} (h : (outIds L).Pairwise (· ≠ ·)) (hp : p ∈ L) : updL ob L p.1 = some p.2 := by
  obtain ⟨p', h1, h2, h3⟩ := updL_mem (ob := ob) (L := L) (i := p.1) (List.mem_map.2 ⟨p, hp, rfl⟩)
  have := pw_eq (R := fun (x y : Nat × Obj) => x.1 ≠ y.1) (fun a b h e => h e.symm) (List.pairwise_map.1 h) h1 hp (fun hh => hh h2)
  rw [h3, this]
theorem lookI_mem {d : In} : ∀ {L : List (Nat × In)} {p : Nat × In}, (L.map Prod.fst).Pairwise (· ≠ ·) → p ∈ L → lookI d L p.1 = p.2
  | q :: L, p, h, hp => by
    simp only [List.map_cons] at h
    simp only [lookI]
    rcases List.mem_cons.1 hp with rfl | hp
    · simp
    · rw [if_neg (fun e => List.rel_of_pairwise_cons h (List.mem_map.2 ⟨p, hp, rfl⟩) e.symm)]
      exact lookI_mem (List.Pairwise.of_cons h) hp
theorem freeze_is {ob : Ob} {l : List AV} {p : Nat × Obj} (h : p ∈ freeze ob l) : ∃ e t x, ob p.1 = some (.row e t true x) ∧ p.2 = .row e t false x := by
  simp only [freeze, List.mem_filterMap] at h
  obtain ⟨r, _, h⟩ := h
  split at h
  · rename_i e t x hr; cases h; exact ⟨e, t, x, hr, rfl⟩
  · cases h
theorem freeze_Wr {ob : Ob} {l : List AV} {i : Nat} {o : Obj} (h : updL ob (freeze ob l) i = some o) (hw : Wr o) : ob i = some o := by
  by_cases hi : i ∈ outIds (freeze ob l)
  · obtain ⟨p, h1, h2, h3⟩ := updL_mem (ob := ob) hi
    obtain ⟨e, t, x, _, h5⟩ := freeze_is h1
    rw [h3] at h
    cases h
    rw [h5] at hw
    exact hw.elim
  · rw [updL_ne hi] at h; exact h
theorem idsOf_whole : ∀ (l : List Nat), idsOf (l.map AV.whole) = l
  | [] => rfl
  | x :: r => by have := idsOf_whole r; simp only [idsOf, List.map_cons, List.flatMap_cons] at this ⊢; rw [this]; rfl
theorem RepC.plain {w : World} {N N' : Nat → Prop} : ∀ {t : Ty} {x : t.den} {cs : List Value}, t.plain = true → RepC w N t x cs → RepC w N' t x cs
  | .unit, _, _, _, h => h
  | .int _, _, _, _, h => h
  | .bool, _, _, _, h => h
  | .str, _, _, _, h => h
  | .two _ _, _, _, hp, h => by
    simp only [Ty.plain, Bool.and_eq_true] at hp
    simp only [RepC] at h ⊢
    obtain ⟨c1, c2, e, h1, h2⟩ := h
    exact ⟨c1, c2, e, RepC.plain hp.1 h1, RepC.plain hp.2 h2⟩
  | .sl _ t, _, _, hp, h => by cases hp
theorem RepL.plain {w : World} {N N' : Nat → Prop} {t : Ty} (ht : t.plain = true) : ∀ {l : List t.den} {cs : List Value}, RepL w N t l cs → RepL w N' t l cs
  | [], _, h => h
  | _ :: _, _, h => by
    simp only [RepL] at h ⊢
    obtain ⟨c1, c2, e, h1, h2⟩ := h
    exact ⟨c1, c2, e, RepC.plain ht h1, RepL.plain ht h2⟩

def XI (ι : Nat → In) (ids : List Nat) (b : Nat) : Prop := ∃ i ∈ ids, ∃ ad, (ι i).a = some ad ∧ ad.block = b
def MI (w0 : World) (M : Nat → Prop) (ι : Nat → In) (ob : Ob) (w : World) (ids : List Nat) (b : Nat) : Prop := XI ι ids b ∨ Nb w0 M ι ob w b
def fzOk (c : Ctr) : Bool := c.frz || (c.rs.all RK.isOwn && c.ps.all noBox)
theorem isOwn_Wr {s : DS} {i : Nat} (h : isOwn s i = true) : ∃ o, s.ob i = some o ∧ Wr o := by
  unfold isOwn at h
  split at h
  · rename_i h'; exact ⟨_, h', trivial⟩
  · rename_i h'; exact ⟨_, h', trivial⟩
  · cases h
theorem pw_append {α : Type} {R : α → α → Prop} {l l' : List α} (h : (l ++ l').Pairwise R) : l.Pairwise R ∧ l'.Pairwise R ∧ ∀ x ∈ l, ∀ y ∈ l', R x y := List.pairwise_append.1 h
theorem deads_ids (l : List Nat) : outIds (deads l) = l := by simp [outIds, deads, List.map_map, Function.comp_def]
theorem deads_mem {l : List Nat} {p : Nat × Obj} (h : p ∈ deads l) : p.2 = .dead := by
  simp only [deads, List.mem_map] at h
  obtain ⟨_, _, rfl⟩ := h
  rfl
/-- The world as a caller finds it again. -/
theorem leave {c : Ctr} (hs : HS w0 X M ι ob w) (hXM : ∀ b, X b → M b) {args : List DV} {avs : List AV} (h1 : flat ob c.ps args = some avs) (h3 : disj (boxIds c.ps args ++ gvIds ob c.ps args) = true) (h4 : ((boxIds c.ps args ++ gvIds ob c.ps args).any fun i => (idsOf (flatR ob c.ps args)).any (Nat.beq i)) = false)
    {ι1 : Nat → In} {s : DS} {w1 : World} (hkeep : ∀ x ∈ owP 0 c.ps args, ι1 x.1 = ι x.2 ∧ ∃ o oo, s.ob x.1 = some o ∧ ob x.2 = some oo ∧ Wr oo ∧ Sh oo o) (hgv : ∀ x ∈ gvP ob 0 c.ps args, ∃ oo, ob x.2 = some oo ∧ Wr oo)
    (k1 : HS w (XI ι (boxIds c.ps args ++ gvIds ob c.ps args)) (MI w0 M ι (updL ob (freeze ob (flatR ob c.ps args))) w (boxIds c.ps args ++ gvIds ob c.ps args)) ι1 s.ob w1) {tt : Nat → Option TI} {vs : List ResultVar} {us0 : List Value} (hres : All2 (fun v u => ∀ d, resD tt s v = some d → RepDV ι1 s.ob d u) vs us0)
    {q0 p0 : Ra} (hq : resA tt s c.rs vs = some q0) (hp : pA s 0 c.ps = some p0) (how : ((q0.own ++ p0.own) ++ p0.kp).all (isOwn s) = true) (hdj : disj ((q0.own ++ p0.own) ++ p0.kp) = true) (hoth : ((q0.oth ++ p0.oth).all fun i => !mem ((q0.own ++ p0.own) ++ p0.kp) i) = true)
    {r : c.O.den} (hO : ofAVs s.ob c.O (q0.a ++ p0.a) = some r) {id : Nat} {o : Out} {q : List (Nat × Obj) × List (Nat × Obj)} (h6 : outR id c.rs (Ty.cells c.O r) = some o) (h7 : outP o.id c.ps args o.cs = some q)
    (h8 : freshB ob (outIds (o.w ++ q.2)) = true) (h9 : disj (outIds (o.w ++ q.2)) = true) (h10 : (c.frz || (Ty.cells c.O r).all Cell.plain) = true) (hfz : fzOk c = true) :
    ∃ ι', HS w0 X M ι' (updL ob ((bif c.frz then freeze ob (flatR ob c.ps args) else []) ++ (deads (gvIds ob c.ps args) ++ (q.1 ++ (o.w ++ q.2))))) w1 ∧ Keeps ι ι' ob (updL ob ((bif c.frz then freeze ob (flatR ob c.ps args) else []) ++ (deads (gvIds ob c.ps args) ++ (q.1 ++ (o.w ++ q.2))))) ∧
      All2 (RepP ι' (updL ob ((bif c.frz then freeze ob (flatR ob c.ps args) else []) ++ (deads (gvIds ob c.ps args) ++ (q.1 ++ (o.w ++ q.2)))))) o.vs us0 ∧ ∀ p ∈ o.vs, p.1 = false → ∃ x, p.2 = [x] := by
  obtain ⟨g1, g2, g3, g4⟩ := HS.give hXM hs (flatR ob c.ps args)
  have how' : ∀ i ∈ (q0.own ++ p0.own) ++ p0.kp, isOwn s i = true := fun i hi => List.all_eq_true.1 how i hi
  obtain ⟨f1, f2, f3, f4⟩ := HS.give (M := MI w0 M ι (updL ob (freeze ob (flatR ob c.ps args))) w (boxIds c.ps args ++ gvIds ob c.ps args)) (fun b hb => Or.inl hb) k1 ((q0.oth ++ p0.oth).map AV.whole)
  rw [idsOf_whole] at f3 f4
  generalize hobF : updL s.ob (freeze s.ob ((q0.oth ++ p0.oth).map AV.whole)) = obF at f1 f2 f3 f4
  have hobFW : ∀ i o, obF i = some o → Wr o → s.ob i = some o := fun i o h hw => by rw [← hobF] at h; exact freeze_Wr h hw
  have hoff : ∀ i ∈ (q0.own ++ p0.own) ++ p0.kp, obF i = s.ob i := fun i hi => f3 i fun hk => by
    have := List.all_eq_true.1 hoth i hk
    rw [mem_iff.2 hi] at this
    cases this
  generalize hids : boxIds c.ps args ++ gvIds ob c.ps args = ids at *
  have hNN : ∀ b, Nb w (MI w0 M ι (updL ob (freeze ob (flatR ob c.ps args))) w ids) ι1 s.ob w1 b → Nb w (MI w0 M ι (updL ob (freeze ob (flatR ob c.ps args))) w ids) ι1 obF w1 b := by
    rintro b ⟨m1, m2, m3⟩
    refine ⟨m1, m2, ?_⟩
    rintro ⟨i, o, ad, e1, e2, e3, e4⟩
    exact m3 ⟨i, o, ad, hobFW i o e1 e2, e2, e3, e4⟩
  generalize hNNd : Nb w (MI w0 M ι (updL ob (freeze ob (flatR ob c.ps args))) w ids) ι1 obF w1 = NN at f4 hNN
  have hcs := cells_of hO
  obtain ⟨G, OW, r1, r2, r3, r4, r5, r6, r7, r8⟩ := out_spec k1 hNN c.rs vs us0 id q0 p0.a _ o hq hres (fun i hi => how' i (List.mem_append_left _ (List.mem_append_left _ hi))) (fun i hi => f4 i (List.mem_append_left _ hi)) hcs h6
  obtain ⟨s1, s2, s3, s4, s4', G2, OW2, s5, s52, s6⟩ := outP_spec k1 hNN c.ps args 0 avs p0 o.cs o.id q h1 hp (fun i hi => f4 i (List.mem_append_right _ hi)) r3 h7 hkeep (fun i hi => how' i (List.mem_append_right _ hi)) (fun i hi => how' i (List.mem_append_left _ (List.mem_append_right _ hi)))
  -- names
  have hdom : ∀ j ∈ outIds (o.w ++ q.2), ob j = none := ids_none h8
  have hnd := disj_pw h9
  have hin := pw_append (hids ▸ disj_pw h3)
  have hbg : ∀ i ∈ boxIds c.ps args, i ∉ gvIds ob c.ps args := fun i hi hk => hin.2.2 i hi i hk rfl
  have hbd : ∀ i ∈ boxIds c.ps args, ∃ x ∈ owP 0 c.ps args, x.2 = i := fun i hi => by rw [← owP_snd 0] at hi; simpa using hi
  have hbob : ∀ i ∈ boxIds c.ps args, ∃ oo, ob i = some oo ∧ Wr oo := fun i hi => by
    obtain ⟨x, hx, rfl⟩ := hbd i hi
    obtain ⟨_, _, oo, _, k3, k4, _⟩ := hkeep x hx
    exact ⟨oo, k3, k4⟩
  have hgob : ∀ i ∈ gvIds ob c.ps args, ∃ oo, ob i = some oo ∧ Wr oo := fun i hi => by
    rw [← gvP_snd 0] at hi
    obtain ⟨x, hx, rfl⟩ := List.mem_map.1 hi
    exact hgv x hx
  have hiob : ∀ i ∈ ids, ∃ oo, ob i = some oo ∧ Wr oo := fun i hi => by
    rw [← hids] at hi
    rcases List.mem_append.1 hi with hi | hi
    · exact hbob i hi
    · exact hgob i hi
  have hap : ∀ i ∈ ids, i ∉ idsOf (flatR ob c.ps args) := fun i hi hk => by
    have : (ids.any fun i => (idsOf (flatR ob c.ps args)).any (Nat.beq i)) = true := List.any_eq_true.2 ⟨i, hi, List.any_eq_true.2 ⟨i, hk, Nat.beq_refl i⟩⟩
    rw [h4] at this; cases this
  have hXb : ∀ b, XI ι (boxIds c.ps args) b → XI ι ids b := fun b ⟨i, hi, h⟩ => ⟨i, by rw [← hids]; exact List.mem_append_left _ hi, h⟩
  have hXg : ∀ b, XI ι (gvIds ob c.ps args) b → XI ι ids b := fun b ⟨i, hi, h⟩ => ⟨i, by rw [← hids]; exact List.mem_append_right _ hi, h⟩
  have hXs : ∀ b, XI ι ids b → XI ι (boxIds c.ps args) b ∨ XI ι (gvIds ob c.ps args) b := fun b ⟨i, hi, h⟩ => by
    rw [← hids] at hi
    rcases List.mem_append.1 hi with hi | hi
    · exact .inl ⟨i, hi, h⟩
    · exact .inr ⟨i, hi, h⟩
  generalize hfr : (bif c.frz then freeze ob (flatR ob c.ps args) else []) = fr
  have hfrm : ∀ p ∈ fr, c.frz = true ∧ p ∈ freeze ob (flatR ob c.ps args) := fun p hp => by
    cases hc : c.frz <;> rw [hc] at hfr <;> simp only [cond_true, cond_false] at hfr <;> subst hfr
    · cases hp
    · exact ⟨rfl, hp⟩
  generalize hobN : updL ob (fr ++ (deads (gvIds ob c.ps args) ++ (q.1 ++ (o.w ++ q.2)))) = obN
  have hob1 : obN = updL (updL (updL (updL ob fr) (deads (gvIds ob c.ps args))) q.1) (o.w ++ q.2) := by rw [← hobN, updL_append, updL_append, updL_append]
  have hnew : ∀ p ∈ o.w ++ q.2, obN p.1 = some p.2 := fun p hp => by rw [hob1]; exact updL_of hnd hp
  have hnotnew : ∀ j oo, ob j = some oo → j ∉ outIds (o.w ++ q.2) := fun j oo h hk => by rw [hdom j hk] at h; cases h
  have hq1nd : (outIds q.1).Pairwise (· ≠ ·) := by rw [s2]; exact hin.1
  have hpar : ∀ p ∈ q.1, obN p.1 = some p.2 := fun p hp => by
    have hm : p.1 ∈ boxIds c.ps args := by rw [← s2]; exact List.mem_map.2 ⟨p, hp, rfl⟩
    obtain ⟨oo, e1, _⟩ := hbob _ hm
    rw [hob1, updL_ne (hnotnew _ _ e1)]
    exact updL_of hq1nd hp
  have hdd : ∀ j ∈ gvIds ob c.ps args, obN j = some .dead := fun j hj => by
    obtain ⟨oo, e1, _⟩ := hgob _ hj
    rw [hob1, updL_ne (hnotnew _ _ e1), updL_ne (by rw [s2]; exact fun h => hbg j h hj)]
    obtain ⟨p, m1, m2, m3⟩ := updL_mem (ob := updL ob fr) (L := deads (gvIds ob c.ps args)) (i := j) (by rw [deads_ids]; exact hj)
    rw [m3, deads_mem m1]
  have hold : ∀ j, j ∉ outIds (o.w ++ q.2) → j ∉ boxIds c.ps args → j ∉ gvIds ob c.ps args → obN j = updL ob fr j := fun j e1 e2 e3 => by
    rw [hob1, updL_ne e1, updL_ne (by rw [s2]; exact e2), updL_ne (by rw [deads_ids]; exact e3)]
  have hcl : ∀ j o', obN j = some o' → (∃ p ∈ o.w ++ q.2, p.1 = j ∧ p.2 = o') ∨ (∃ p ∈ q.1, p.1 = j ∧ p.2 = o') ∨ o' = .dead ∨ (j ∉ boxIds c.ps args ∧ j ∉ gvIds ob c.ps args ∧ updL ob fr j = some o') := fun j o' h => by
    by_cases e1 : j ∈ outIds (o.w ++ q.2)
    · obtain ⟨p, hp, rfl⟩ := List.mem_map.1 e1
      rw [hnew p hp] at h
      cases h
      exact .inl ⟨p, hp, rfl, rfl⟩
    · by_cases e2 : j ∈ boxIds c.ps args
      · rw [← s2] at e2
        obtain ⟨p, hp, rfl⟩ := List.mem_map.1 e2
        rw [hpar p hp] at h
        cases h
        exact .inr (.inl ⟨p, hp, rfl, rfl⟩)
      · by_cases e3 : j ∈ gvIds ob c.ps args
        · rw [hdd j e3] at h
          cases h
          exact .inr (.inr (.inl rfl))
        · rw [hold j e1 e2 e3] at h
          exact .inr (.inr (.inr ⟨e2, e3, h⟩))
  have hfrz : ∀ j o', updL ob fr j = some o' → ob j = some o' ∨ (c.frz = true ∧ ∃ e t x, ob j = some (.row e t true x) ∧ o' = .row e t false x) := fun j o' h => by
    by_cases e1 : j ∈ outIds fr
    · obtain ⟨p, m1, m2, m3⟩ := updL_mem (ob := ob) e1
      obtain ⟨n0, n1⟩ := hfrm p m1
      obtain ⟨e, t, x, n2, n3⟩ := freeze_is n1
      rw [m3] at h
      cases h
      rw [← m2]
      exact .inr ⟨n0, e, t, x, n2, n3⟩
    · rw [updL_ne e1] at h; exact .inl h
  -- places
  have hGid : (G ++ G2).map Prod.fst = outIds (o.w ++ q.2) := by simp only [List.map_append, r1, s5, outIds]
  obtain ⟨ι', hι'⟩ : ∃ ι' : Nat → In, ι' = fun j => lookI (ι j) (G ++ G2) j := ⟨_, rfl⟩
  have hιG : ∀ p ∈ G ++ G2, ι' p.1 = p.2 := fun p hp => by rw [hι']; exact lookI_mem (by rw [hGid]; exact hnd) hp
  have hιo : ∀ j oo, ob j = some oo → ι' j = ι j := fun j oo h => by
    rw [hι']
    exact lookI_none fun p hp e => hnotnew j oo h (by rw [← hGid, ← e]; exact List.mem_map.2 ⟨p, hp, rfl⟩)
  obtain ⟨v1, v2⟩ := r8 ι' obN (fun p hp => hnew p (List.mem_append_left _ hp)) (fun p hp => hιG p (List.mem_append_left _ hp))
  obtain ⟨v3, v4⟩ := s6 ι' obN (fun p hp => hnew p (List.mem_append_right _ hp)) (fun p hp => hιG p (List.mem_append_right _ hp))
  have hOut : ∀ p ∈ o.w ++ q.2, OutObj ι1 s.ob w1 NN (OW ++ OW2) ι' obN p := fun p hp => by
    rcases List.mem_append.1 hp with hp | hp
    · exact (v2 p hp).more fun x hx => List.mem_append_left _ hx
    · exact (v3 p hp).more fun x hx => List.mem_append_right _ hx
  have hOWn : ∀ p ∈ o.w ++ q.2, Wr p.2 → ∀ ad, (ι' p.1).a = some ad → ∃ i ad0, (p.1, i) ∈ OW ++ OW2 ∧ (ι1 i).a = some ad0 ∧ ad0.block = ad.block := fun p hp hw ad ha => by
    have := hOut p hp
    obtain ⟨n, o'⟩ := p
    match o', hw, this with
    | .row _ _ true _, _, ⟨_, h⟩ => exact h ad ha
    | .box _ _, _, ⟨i, g, cs, m1, m2, m3, _⟩ => exact ⟨i, _, m1, m3, by simp only at ha; rw [m2] at ha; cases ha; rfl⟩
  have hOWo : ∀ j i, (j, i) ∈ OW ++ OW2 → i ∈ q0.own ++ p0.own := fun j i h => by rw [← r2, ← s52, ← List.map_append]; exact List.mem_map.2 ⟨_, h, rfl⟩
  have hdj2 := pw_append (disj_pw hdj)
  -- blocks
  have hbox1 : ∀ b, XI ι (boxIds c.ps args) b → W ι1 s.ob b ∧ ∃ jj ∈ p0.kp, ∃ ad, (ι1 jj).a = some ad ∧ ad.block = b := by
    rintro b ⟨i, hi, ad, e1, e2⟩
    obtain ⟨x, hx, rfl⟩ := hbd i hi
    have hm : x.1 ∈ p0.kp := by rw [s1]; exact List.mem_map.2 ⟨x, hx, rfl⟩
    obtain ⟨ox, m1, m2⟩ := isOwn_Wr (how' _ (List.mem_append_right _ hm))
    have hxi := (hkeep x hx).1
    exact ⟨⟨x.1, ox, ad, m1, m2, by rw [hxi]; exact e1, e2⟩, x.1, hm, ad, by rw [hxi]; exact e1, e2⟩
  have hXW : ∀ b, XI ι ids b → W ι ob b := by
    rintro b ⟨i, hi, ad, e1, e2⟩
    obtain ⟨oo, m1, m2⟩ := hiob i hi
    exact ⟨i, oo, ad, m1, m2, e1, e2⟩
  have hbig : ∀ i ∈ q0.own ++ p0.own, ∀ ad, (ι1 i).a = some ad → w.heap.size ≤ ad.block ∨ XI ι (gvIds ob c.ps args) ad.block := fun i hi ad ha => by
    obtain ⟨oi, m1, m2⟩ := isOwn_Wr (how' _ (List.mem_append_left _ hi))
    rcases k1.wr ad.block ⟨i, oi, ad, m1, m2, ha, rfl⟩ with h | h
    · exact .inl h
    · rcases hXs _ h with h | h
      · obtain ⟨_, jj, n1, ad', n2, n3⟩ := hbox1 _ h
        obtain ⟨oj, n4, n5⟩ := isOwn_Wr (how' _ (List.mem_append_right _ n1))
        have := k1.sep i jj oi oj ad ad' m1 n4 m2 n5 ha n2 n3.symm
        exact (hdj2.2.2 i hi jj n1 this).elim
      · exact .inr h
  have hlt : ∀ j oo ad, ob j = some oo → Wr oo → (ι j).a = some ad → ad.block < w.heap.size := fun j oo ad e1 e2 e3 => (hs.obs j oo e1).lt e2 e3
  have hgj : ∀ j oo ad, ob j = some oo → Wr oo → (ι j).a = some ad → XI ι (gvIds ob c.ps args) ad.block → j ∈ gvIds ob c.ps args := fun j oo ad e1 e2 e3 ⟨i, hi, ad', e4, e5⟩ => by
    obtain ⟨oi, m1, m2⟩ := hgob i hi
    have := hs.sep i j oi oo ad' ad m1 e1 m2 e2 e4 e3 e5
    subst this
    exact hi
  have hsize : w.heap.size ≤ w1.heap.size := k1.fr.size
  -- what may be written, of the caller
  have hWN : ∀ j o', obN j = some o' → Wr o' → ∀ ad, (ι' j).a = some ad → (∃ oo, ob j = some oo ∧ Wr oo ∧ ι' j = ι j ∧ j ∉ gvIds ob c.ps args ∧ (j ∉ boxIds c.ps args → ob j = some o' ∧ updL ob fr j = some o')) ∨ ∃ i ad0, (j, i) ∈ OW ++ OW2 ∧ (ι1 i).a = some ad0 ∧ ad0.block = ad.block := fun j o' h hw ad ha => by
    rcases hcl j o' h with ⟨p, hp, rfl, rfl⟩ | ⟨p, hp, rfl, rfl⟩ | e0 | ⟨e1, e0, e2⟩
    · exact .inr (hOWn p hp hw ad ha)
    · have hm : p.1 ∈ boxIds c.ps args := by rw [← s2]; exact List.mem_map.2 ⟨p, hp, rfl⟩
      obtain ⟨oo, e1, e2⟩ := hbob _ hm
      exact .inl ⟨oo, e1, e2, hιo _ _ e1, hbg _ hm, fun h => (h hm).elim⟩
    · subst e0; exact hw.elim
    · rcases hfrz j o' e2 with e3 | ⟨_, e, t, x, _, e4⟩
      · exact .inl ⟨o', e3, hw, hιo _ _ e3, e0, fun _ => ⟨e3, e2⟩⟩
      · rw [e4] at hw; exact hw.elim
  have hfr1 : Fr w0 X w1 := ⟨k1.fr.os.trans hs.fr.os, k1.fr.tape.trans hs.fr.tape, k1.fr.output.trans hs.fr.output, Nat.le_trans hs.fr.size k1.fr.size, fun b e1 e2 => (k1.fr.block b (Nat.lt_of_lt_of_le e1 hs.fr.size) fun hx => (hs.wr b (hXW b hx)).elim (fun h => Nat.not_le_of_lt e1 h) e2).trans (hs.fr.block b e1 e2), hs.fr.gl⟩
  have hheap : ∀ b, b < w.heap.size → ¬ XI ι ids b → w1.heap[b]? = w.heap[b]? := fun b e1 e2 => k1.fr.block b e1 e2
  have hWR : ∀ j oo, c.frz = true → updL ob fr j = some oo → Wr oo → ob j = some oo ∧ updL ob (freeze ob (flatR ob c.ps args)) j = some oo := fun j oo hz h hw => by
    have : fr = freeze ob (flatR ob c.ps args) := by rw [← hfr, hz]; rfl
    rw [this] at h
    exact ⟨freeze_Wr h hw, h⟩
  have hNo : c.frz = true → ∀ b, (XI ι ids b ∨ Nb w0 M ι (updL ob (freeze ob (flatR ob c.ps args))) w b ∨ w.heap.size ≤ b) → ¬ (∃ i ∈ q0.own ++ p0.own, ∃ ad, (ι1 i).a = some ad ∧ ad.block = b) → ¬ XI ι (boxIds c.ps args) b → ¬ W ι' obN b := by
    rintro hz b hb e1 e2 ⟨j, o', ad, m1, m2, m3, rfl⟩
    rcases hWN j o' m1 m2 ad m3 with ⟨oo, n1, n2, n3, n0, n4⟩ | ⟨i, ad0, n1, n2, n3⟩
    · by_cases hj : j ∈ boxIds c.ps args
      · exact e2 ⟨j, hj, ad, by rw [← n3]; exact m3, rfl⟩
      · obtain ⟨n5, n6⟩ := n4 hj
        obtain ⟨n7, n8⟩ := hWR j o' hz n6 m2
        rcases hb with hb | hb | hb
        · rcases hXs _ hb with hb | hb
          · exact e2 hb
          · exact n0 (hgj j o' ad n7 m2 (by rw [← n3]; exact m3) hb)
        · exact hb.2.2 ⟨j, o', ad, n8, m2, by rw [← n3]; exact m3, rfl⟩
        · have := hlt j o' ad n7 m2 (by rw [← n3]; exact m3)
          omega
    · exact e1 ⟨i, hOWo _ _ n1, ad0, n2, n3⟩
  have hNNw : ∀ b, NN b → b < w1.heap.size ∧ (XI ι ids b ∨ Nb w0 M ι (updL ob (freeze ob (flatR ob c.ps args))) w b ∨ w.heap.size ≤ b) ∧ ¬ (∃ i ∈ (q0.own ++ p0.own) ++ p0.kp, ∃ ad, (ι1 i).a = some ad ∧ ad.block = b) := fun b hb => by
    rw [← hNNd] at hb
    obtain ⟨m1, m2, m3⟩ := hb
    refine ⟨m1, ?_, ?_⟩
    · rcases m2 with (h | h) | h
      · exact .inl h
      · exact .inr (.inl h)
      · exact .inr (.inr h)
    · rintro ⟨i, hi, ad, e1, e2⟩
      obtain ⟨oi, n1, n2⟩ := isOwn_Wr (how' i hi)
      exact m3 ⟨i, oi, ad, by rw [hoff i hi]; exact n1, n2, e1, e2⟩
  have hMw : ∀ b, (XI ι ids b ∨ Nb w0 M ι (updL ob (freeze ob (flatR ob c.ps args))) w b ∨ w.heap.size ≤ b) → M b ∨ w0.heap.size ≤ b := fun b hb => by
    rcases hb with hb | hb | hb
    · rcases hs.wr b (hXW b hb) with h | h
      · exact .inr h
      · exact .inl (hXM b h)
    · exact hb.2.1
    · exact .inr (Nat.le_trans hs.fr.size hb)
  have hN' : c.frz = true → ∀ b, NN b → Nb w0 M ι' obN w1 b := fun hz b hb => by
    obtain ⟨m1, m2, m3⟩ := hNNw b hb
    refine ⟨m1, hMw b m2, hNo hz b m2 (fun ⟨i, hi, h⟩ => m3 ⟨i, List.mem_append_left _ hi, h⟩) fun hx => ?_⟩
    obtain ⟨_, jj, n1, n2⟩ := hbox1 b hx
    exact m3 ⟨jj, List.mem_append_right _ n1, n2⟩
  have hN2 : c.frz = true → ∀ b, Nb w0 M ι (updL ob (freeze ob (flatR ob c.ps args))) w b → Nb w0 M ι' obN w1 b ∧ w1.heap[b]? = w.heap[b]? := fun hz b hb => by
    have hx : ¬ XI ι ids b := fun hx => by
      obtain ⟨i, hi, ad, e1, e2⟩ := hx
      obtain ⟨oo, m1, m2⟩ := hiob i hi
      exact hb.2.2 ⟨i, oo, ad, by rw [g3 _ (hap i hi)]; exact m1, m2, e1, e2⟩
    refine ⟨⟨Nat.lt_of_lt_of_le hb.1 hsize, hb.2.1, hNo hz b (.inr (.inl hb)) ?_ (fun h => hx (hXb b h))⟩, hheap b hb.1 hx⟩
    rintro ⟨i, hi, ad, e1, e2⟩
    rcases hbig i hi ad e1 with h | h
    · have := hb.1
      omega
    · rw [e2] at h
      exact hx (hXg b h)
  have hpl : c.frz = false → (Ty.cells c.O r).all Cell.plain = true ∧ c.rs.all RK.isOwn = true ∧ c.ps.all noBox = true := fun hz => by
    rw [hz, Bool.false_or] at h10
    unfold fzOk at hfz
    rw [hz, Bool.false_or, Bool.and_eq_true] at hfz
    exact ⟨h10, hfz.1, hfz.2⟩
  have hOwn' : ∀ e t (l : List t.den) A cc, (⟨.sl e t, l⟩ : Cell) ∈ Ty.cells c.O r → Own w1 NN e t l A cc → Own w1 (Nb w0 M ι' obN w1) e t l A cc := fun e t l A cc hm h => by
    obtain ⟨xs, o1, o2⟩ := h
    refine ⟨xs, o1, ?_⟩
    cases hz : c.frz with
    | true => exact RepL.mono (fun b hb => ⟨hN' hz b hb, rfl⟩) o2
    | false =>
      have := List.all_eq_true.1 (hpl hz).1 _ hm
      exact RepL.plain (by simpa [Cell.plain] using this) o2
  have hkeeps : Keeps ι ι' ob obN := fun j oj hj => by
    by_cases hb : j ∈ boxIds c.ps args
    · have hb' := hb
      rw [← s2] at hb'
      obtain ⟨p, hp, rfl⟩ := List.mem_map.1 hb'
      obtain ⟨_, oo, _, e2, _, e3, _⟩ := v4 p hp
      rw [hj] at e2
      cases e2
      exact ⟨_, hpar p hp, e3, hιo _ _ hj⟩
    · by_cases hg : j ∈ gvIds ob c.ps args
      · exact ⟨_, hdd j hg, by cases oj <;> exact trivial, hιo _ _ hj⟩
      rw [hold j (hnotnew j oj hj) hb hg]
      by_cases e1 : j ∈ outIds fr
      · obtain ⟨p, m1, m2, m3⟩ := updL_mem (ob := ob) e1
        obtain ⟨e, t, x, n2, n3⟩ := freeze_is (hfrm p m1).2
        rw [m2, hj] at n2
        cases n2
        exact ⟨_, m3, by rw [n3]; exact ⟨rfl, rfl, rfl⟩, hιo _ _ hj⟩
      · exact ⟨oj, by rw [updL_ne e1]; exact hj, Sh.refl _, hιo _ _ hj⟩
  refine ⟨ι', HS.step0 hs hfr1 hsize (fun b e1 e2 => hheap b e1 fun hx => e2 (hXW b hx)) hkeeps ?_ ?_ ?_, hkeeps, v1, r5⟩
  · rintro b ⟨j, o', ad, m1, m2, m3, rfl⟩
    rcases hWN j o' m1 m2 ad m3 with ⟨oo, n1, n2, n3, _⟩ | ⟨i, ad0, n1, n2, n3⟩
    · exact .inl ⟨j, oo, ad, n1, n2, by rw [← n3]; exact m3, rfl⟩
    · rw [← n3]
      rcases hbig i (hOWo _ _ n1) ad0 n2 with h | h
      · exact .inr h
      · exact .inl (hXW _ (hXg _ h))
  · have hon : ∀ (j : Nat) (o1 : Obj) (ad : Addr) (j' : Nat) (o2 : Obj) (ad' : Addr) (i : Nat) (ad0 : Addr), obN j = some o1 → Wr o1 → (ι' j).a = some ad → (∃ oo, ob j = some oo ∧ Wr oo ∧ ι' j = ι j ∧ j ∉ gvIds ob c.ps args) → (j', i) ∈ OW ++ OW2 → (ι1 i).a = some ad0 → ad0.block = ad'.block → ad.block = ad'.block → o2 = o1 → False := by
      rintro j o1 ad j' o2 ad' i ad0 m1 m2 m3 ⟨oo, n1, n2, n3, n4⟩ l1 l2 l3 l4 -
      rw [n3] at m3
      have h1 := hlt j oo ad n1 n2 m3
      rcases hbig i (hOWo _ _ l1) ad0 l2 with h | h
      · omega
      · rw [l3, ← l4] at h
        exact n4 (hgj j oo ad n1 n2 m3 h)
    intro j j' o1 o2 ad ad' m1 m1' m2 m2' m3 m3' he
    rcases hWN j o1 m1 m2 ad m3 with ⟨oo, n1, n2, n3, n4, _⟩ | ⟨i, ad0, n1, n2, n3⟩
    · rcases hWN j' o2 m1' m2' ad' m3' with ⟨oo', l1, l2, l3, _⟩ | ⟨i', ad0', l1, l2, l3⟩
      · exact hs.sep j j' oo oo' ad ad' n1 l1 n2 l2 (by rw [← n3]; exact m3) (by rw [← l3]; exact m3') he
      · exact (hon j o1 ad j' o1 ad' i' ad0' m1 m2 m3 ⟨oo, n1, n2, n3, n4⟩ l1 l2 l3 he rfl).elim
    · rcases hWN j' o2 m1' m2' ad' m3' with ⟨oo', l1, l2, l3, l4, _⟩ | ⟨i', ad0', l1, l2, l3⟩
      · exact (hon j' o2 ad' j o2 ad i ad0 m1' m2' m3' ⟨oo', l1, l2, l3, l4⟩ n1 n2 n3 he.symm rfl).elim
      · obtain ⟨oi, p1, p2⟩ := isOwn_Wr (how' i (List.mem_append_left _ (hOWo _ _ n1)))
        obtain ⟨oi', p1', p2'⟩ := isOwn_Wr (how' i' (List.mem_append_left _ (hOWo _ _ l1)))
        have := k1.sep i i' oi oi' ad0 ad0' p1 p1' p2 p2' n2 l2 (n3.trans (he.trans l3.symm))
        subst this
        have hsn := hdj2.1
        rw [← r2, ← s52, ← List.map_append] at hsn
        have := pw_eq (R := fun (x y : Nat × Nat) => x.2 ≠ y.2) (fun a b h e => h e.symm) (List.pairwise_map.1 hsn) n1 l1 (fun h => h rfl)
        exact (Prod.mk.inj this).1
  · intro _ j o' h
    rcases hcl j o' h with ⟨p, hp, rfl, rfl⟩ | ⟨p, hp, rfl, rfl⟩ | e0 | ⟨e1, e0, e2⟩
    · refine .inr ?_
      have ho := hOut p hp
      cases hz : c.frz with
      | true =>
        obtain ⟨n, po⟩ := p
        match po, ho with
        | .row _ t false l, ho => exact Ro.mono (fun b hb => ⟨hN' hz b hb, rfl⟩) ho
        | .row e t true l, ⟨⟨xs, o1, o2⟩, _⟩ => exact ⟨xs, o1, RepL.mono (fun b hb => ⟨hN' hz b hb, rfl⟩) o2⟩
        | .box t cc, ⟨i, g, cs, _, m2, _, m4, m5⟩ => exact ⟨g, cs, m2, m4, m5⟩
      | false =>
        obtain ⟨z1, z2, z3⟩ := hpl hz
        have hnr : notRo p.2 = true := by
          rcases List.mem_append.1 hp with hp | hp
          · exact r6 z2 p hp
          · exact s3 z3 p hp
        have hm7 : ∀ e t own x, p.2 = .row e t own x → (⟨.sl e t, x⟩ : Cell) ∈ Ty.cells c.O r := by
          rcases List.mem_append.1 hp with hp | hp
          · exact r7 p hp
          · exact fun e t own x he => r4 _ (s4' p hp e t own x he)
        obtain ⟨n, po⟩ := p
        match po, ho, hnr, hm7 with
        | .row _ t false l, ho, hnr, _ => exact absurd hnr (by simp [notRo])
        | .row e t true l, ⟨ho, _⟩, _, hm7 => exact hOwn' e t l _ _ (hm7 e t true l rfl) ho
        | .box t cc, ⟨i, g, cs, _, m2, _, m4, m5⟩, _, _ => exact ⟨g, cs, m2, m4, m5⟩
    · refine .inr ?_
      obtain ⟨jj, oo, c1, c2, _, _, c3⟩ := v4 p hp
      have hi : ι' p.1 = ι1 jj := by rw [hιo _ _ c2]; exact (hkeep _ c1).1.symm
      have hm4 := s4 p hp
      obtain ⟨n, po⟩ := p
      match po, c3, hm4, hi with
      | .row e t true l, c3, hm4, hi =>
        have := hOwn' e t l _ _ (r4 _ (hm4 e t true l rfl)) c3
        simp only at hi
        rw [RepO, hi]
        exact this
      | .box t cc, ⟨g, cs, m2, m4, m5⟩, _, hi =>
        simp only at hi
        exact ⟨g, cs, by rw [hi]; exact m2, m4, m5⟩
    · subst e0
      exact .inr trivial
    · rcases hfrz j o' e2 with e3 | ⟨hz, e, t, x, e3, e4⟩
      · refine .inl ⟨e3, hιo _ _ e3, fun hw ad ha => hheap _ (hlt j o' ad e3 hw ha) ?_⟩
        rintro ⟨i, hi, ad', n1, n2⟩
        obtain ⟨oo, l1, l2⟩ := hiob i hi
        have := hs.sep i j oo o' ad' ad l1 e3 l2 hw n1 ha n2
        subst this
        rw [← hids] at hi
        rcases List.mem_append.1 hi with hi | hi
        · exact e1 hi
        · exact e0 hi
      · refine .inr ?_
        subst e4
        have hfe : fr = freeze ob (flatR ob c.ps args) := by rw [← hfr, hz]; rfl
        rw [hfe] at e2
        have := g1.obs j _ e2
        rw [RepO] at this ⊢
        rw [hιo _ _ e3]
        exact Ro.mono (hN2 hz) this
theorem flat_len {ob : Ob} : ∀ {ps : List PK} {args : List DV} {avs : List AV}, flat ob ps args = some avs → args.length = ps.length
  | [], [], _, _ => rfl
  | [], _ :: _, _, h => by cases h
  | p :: _, [], _, h => by cases p <;> simp [flat] at h
  | p :: ps, d :: r, _, h => by
    have key : ∃ q, flat ob ps r = some q := by
      cases p with
      | one =>
        cases d <;> simp only [flat] at h <;> try (cases h; done)
        obtain ⟨q, h, _⟩ := Option.bind_eq_some_iff.1 h
        exact ⟨q, h⟩
      | agg n =>
        cases d <;> simp only [flat] at h <;> try (cases h; done)
        obtain ⟨_, h⟩ := ite_some h
        obtain ⟨q, h, _⟩ := Option.bind_eq_some_iff.1 h
        exact ⟨q, h⟩
      | aggw n sl =>
        cases d <;> simp only [flat] at h <;> try (cases h; done)
        obtain ⟨_, h⟩ := ite_some h
        obtain ⟨q, h, _⟩ := Option.bind_eq_some_iff.1 h
        exact ⟨q, h⟩
      | row =>
        match d, h with
        | .at (.whole i), h =>
          simp only [flat] at h
          split at h
          · obtain ⟨q, h, _⟩ := Option.bind_eq_some_iff.1 h
            exact ⟨q, h⟩
          · cases h
      | give =>
        match d, h with
        | .at (.whole i), h =>
          simp only [flat] at h
          split at h
          · obtain ⟨q, h, _⟩ := Option.bind_eq_some_iff.1 h
            exact ⟨q, h⟩
          · cases h
      | box t n =>
        match d, h with
        | .at (.bptr b 0), h =>
          simp only [flat] at h
          split at h
          · obtain ⟨_, h⟩ := ite_some h
            obtain ⟨q, h, _⟩ := Option.bind_eq_some_iff.1 h
            exact ⟨q, h⟩
          · cases h
      | boxg t n =>
        match d, h with
        | .at (.bptr b 0), h =>
          simp only [flat] at h
          split at h
          · obtain ⟨_, h⟩ := ite_some h
            obtain ⟨q, h, _⟩ := Option.bind_eq_some_iff.1 h
            exact ⟨q, h⟩
          · cases h
      | fnp g t n =>
        match d, h with
        | .at (.fn f [(b, 0)]), h =>
          simp only [flat] at h
          split at h
          · obtain ⟨_, h⟩ := ite_some h
            obtain ⟨q, h, _⟩ := Option.bind_eq_some_iff.1 h
            exact ⟨q, h⟩
          · cases h
    obtain ⟨q, hq⟩ := key
    simp [flat_len hq]
def sized (us : List Value) : Value := match us with | [u] => u | us => .tuple us.toArray
def readR (a : Act) : ResultVar → Sem Value
  | .tmp t => pure (a.tmps.getD t undef)
  | .cell x t => do loadVar t (← asAddr (a.tmps.getD x undef))
theorem run_results {fn : Func} {us : List Value} {a : Act} {P : Program} {w : World} (h : All2 (fun v u => (readR a v).run P w = .ok u w) fn.results.toList us) (h3 : Nat.ble fn.results.toList.length 4 = true) : (results fn a.tmps).run P w = .ok (sized us) w := by
  have he : fn.results = fn.results.toList.toArray := by simp
  have hm : results fn a.tmps = (do let vs ← fn.results.mapM (readR a); pure (if h : vs.size = 1 then vs[0] else .tuple vs)) := by
    unfold results
    congr 1
  rw [hm]
  match hl : fn.results.toList, us, h, h3 with
  | [], [], _, _ => rw [hl] at he; simp [he, sized]
  | [v], [u], h, _ => rw [hl] at he; simp [he, sized, Sem.run_bind, h.1]
  | [v, v2], [u, u2], h, _ => rw [hl] at he; simp [he, sized, Sem.run_bind, h.1, h.2.1]
  | [v, v2, v3], [u, u2, u3], h, _ => rw [hl] at he; simp [he, sized, Sem.run_bind, h.1, h.2.1, h.2.2.1]
  | [v, v2, v3, v4], [u, u2, u3, u4], h, _ => rw [hl] at he; simp [he, sized, Sem.run_bind, h.1, h.2.1, h.2.2.1, h.2.2.2.1]
theorem res_val {P : Program} {tt : Nat → Option TI} (htt : TTok P tt) {w0 : World} {X M : Nat → Prop} {ι : Nat → In} {s : DS} {a : Act} {w : World} (hs : HS w0 X M ι s.ob w) (ht : TS ι s a) {v : ResultVar} {d : DV} (h : resD tt s v = some d) : ∃ u, (readR a v).run P w = .ok u w ∧ RepDV ι s.ob d u := by
  cases v with
  | tmp t => cases h; exact ⟨_, rfl, ht t⟩
  | cell x t =>
    simp only [resD] at h
    obtain ⟨ti, hti, h⟩ := Option.bind_eq_some_iff.1 h
    split at h
    · rename_i b hx
      split at h
      · rename_i bt c hb
        obtain ⟨hl, h⟩ := ite_some h
        have hxx := ht x
        rw [hx] at hxx
        obtain ⟨g, cs, h1, h2, h3, h4⟩ := bptr_of hs hxx hb
        have hr := run_loadVar' (P := P) (w := w) (htt t ti hti) ⟨g, 0, none⟩ cs (by rw [← All2.len h4, hl]) (fun j u hj => by
          rw [Addr.add_mid, cell_of_row w g (0 + j) _ bt (0, 0) h3]
          simpa using hj)
        refine ⟨_, by simp only [readR, h2, Sem.run_bind, asAddr]; exact hr, ?_⟩
        cases ha : ti.agg with
        | true =>
          rw [ha] at h
          cases h
          exact ⟨cs, rfl, h4⟩
        | false =>
          rw [ha] at h
          simp only [cond_false] at h
          split at h
          · cases h
            match cs, h4 with
            | [u], h4 => exact h4.1
            | _ :: _ :: _, h4 => exact h4.2.elim
          · cases h
      · cases h
    · rename_i r hx
      split at h
      · rename_i ik hA
        split at h
        · rename_i e ik' l hr
          have hh := ite_some h
          have hl := hh.1.2
          have he := hh.1.1
          subst he
          have hd := Option.some.inj hh.2
          subst hd
          have hxx := ht x
          rw [hx] at hxx
          obtain ⟨ad, u, v1, v2, v3⟩ := res_arr (P := P) hs (htt t ti hti) hA hxx hr hl
          exact ⟨u, by simp only [readR, v1, Sem.run_bind, asAddr]; exact v2, v3⟩
        · cases h
      · cases h
    · cases h
theorem res_vals {P : Program} {tt : Nat → Option TI} (htt : TTok P tt) {w0 : World} {X M : Nat → Prop} {ι : Nat → In} {s : DS} {a : Act} {w : World} (hs : HS w0 X M ι s.ob w) (ht : TS ι s a) : ∀ {ks : List RK} {vs : List ResultVar} {q : Ra}, resA tt s ks vs = some q →
    ∃ us, All2 (fun v u => (readR a v).run P w = .ok u w) vs us ∧ All2 (fun v u => ∀ d, resD tt s v = some d → RepDV ι s.ob d u) vs us
  | [], [], _, _ => ⟨[], trivial, trivial⟩
  | [], _ :: _, _, h => by cases h
  | _ :: _, [], _, h => by cases h
  | k :: ks, v :: vs, q, h => by
    simp only [resA] at h
    obtain ⟨d, hd, h⟩ := Option.bind_eq_some_iff.1 h
    obtain ⟨q0, h0, h⟩ := Option.bind_eq_some_iff.1 h
    obtain ⟨u, u1, u2⟩ := res_val htt hs ht hd
    obtain ⟨us, k1, k2⟩ := res_vals htt hs ht h0
    exact ⟨u :: us, ⟨u1, k1⟩, ⟨fun d' hd' => by rw [hd] at hd'; cases hd'; exact u2, k2⟩⟩
theorem tup_rep {ι : Nat → In} {ob : Ob} : ∀ {vs : List (Bool × List AV)} {us : List Value}, All2 (RepP ι ob) vs us → (∀ p ∈ vs, p.1 = false → ∃ x, p.2 = [x]) → RepDV ι ob (tupV vs) (sized us)
  | [], [], h, _ => ⟨[], rfl, h⟩
  | [(true, l)], [u], h, _ => h.1
  | [(false, l)], [u], h, hs => by
    obtain ⟨x, hx⟩ := hs (false, l) (by simp) rfl
    simp only at hx
    subst hx
    exact h.1 x rfl
  | a :: b :: r, [u], h, _ => h.2.elim
  | [(true, _)], _ :: _ :: _, h, _ => h.2.elim
  | [(false, _)], _ :: _ :: _, h, _ => h.2.elim
  | a :: b :: r, u :: v :: us, h, _ => by
    have e1 : tupV (a :: b :: r) = .tup (a :: b :: r) := by obtain ⟨x, l⟩ := a; cases x <;> rcases l with _ | ⟨y, _ | _⟩ <;> rfl
    rw [e1]
    exact ⟨_, rfl, h⟩
  | [], _ :: _, h, _ => h.elim
  | _ :: _, [], h, _ => h.elim
/-- A function whose run in the machine of values is known keeps the contract. -/
theorem CtrOk.of {P : Program} {f : Nat} {fn : Func} {cd : Code} {c : Ctr} {cx : Cx} {hs : Nat → Hint} (hf : P.funcs[f]? = some fn) (hn : (fn.name == "runtime.NumGoroutine") = false) (hb : fn.body = some cd) (hok : codeOk fn.ntmps cd = true) (htt : TTok P cx.tt) (henv : EnvOk P cx.env) (hmx : P.follows .mixedOrders = true)
    (h3 : Nat.ble fn.results.toList.length 4 = true) (hfz : fzOk c = true) (hnt : Nat.ble c.ps.length fn.ntmps = true) (hrun : ∀ k x r, c.run k x = some r → func cx hs c.ps c.rs fn.results.toList c.I c.O cd k x = some r) : CtrOk P f c := by
  refine ⟨⟨fn, hf, hn, by rw [hb]; rfl⟩, fun w0 X M ι ob w hhs hXM args vals hargs k id avs x r o q h1 h2 h3' h4 h5 h6 h7 h8 h9 h10 => ?_⟩
  have hfun := hrun k x r h5
  unfold func at hfun
  obtain ⟨hd0, hfun⟩ := bif_some hfun
  have hc := cells_of h2
  obtain ⟨g1, g2, g3, g4⟩ := HS.give hXM hhs (flatR ob c.ps args)
  obtain ⟨G, e1, e2, e3⟩ := in_spec hhs (N := Nb w0 M ι (updL ob (freeze ob (flatR ob c.ps args))) w) c.ps args vals 0 avs _ h1 hc hargs g4
  have hnd := disj_pw hd0
  obtain ⟨m1, m2, m3⟩ := e3 (lookI ⟨none, 0⟩ G) (lookO (inS 0 c.ps (Ty.cells c.I x)).2) (fun p hp => lookO_of hnd hp) (fun p hp => lookI_mem (by rw [e1]; exact hnd) hp)
  have hlen : vals.length = c.ps.length := by rw [← hargs.len, flat_len h1]
  obtain ⟨m3, m4⟩ := m3
  have hent := enter_HS hhs hXM (by rw [List.map_append, owP_snd, gvP_snd]) h3' h4 m2 (fun x hx => by
    rcases List.mem_append.1 hx with hx | hx
    · obtain ⟨_, l1, o, oo, _, l2, l3, _⟩ := m3 x hx; exact ⟨l1, oo, l2, l3⟩
    · exact m4 x hx)
  have hts : ∀ i, RepDV (lookI ⟨none, 0⟩ G) (lookO (inS 0 c.ps (Ty.cells c.I x)).2) ((init c.ps (Ty.cells c.I x)).tm i) ((vals.toArray ++ Array.replicate (fn.ntmps - vals.toArray.size) undef).getD i undef) := by
    intro i
    have hlk : ∀ (L : List (Nat × DV)) (us : List Value) (b : Nat), L.map Prod.fst = List.range' b L.length → All2 (fun p v => RepDV (lookI ⟨none, 0⟩ G) (lookO (inS 0 c.ps (Ty.cells c.I x)).2) p.2 v) L us → ∀ j, (∃ d v, tl L (b + j) = d ∧ us[j]? = some v ∧ RepDV (lookI ⟨none, 0⟩ G) (lookO (inS 0 c.ps (Ty.cells c.I x)).2) d v) ∨ tl L (b + j) = .at .undef := by
      intro L
      induction L with
      | nil => intro us b _ _ j; exact .inr rfl
      | cons p L ih =>
        intro us b hm ha j
        cases us with
        | nil => exact ha.elim
        | cons u us =>
          simp only [List.map_cons, List.length_cons, List.range'_succ, List.cons.injEq] at hm
          cases j with
          | zero =>
            refine .inl ⟨p.2, u, ?_, rfl, ha.1⟩
            simp [tl, look, hm.1]
          | succ j =>
            have hne : Nat.beq (b + (j + 1)) p.1 = false := by
              rw [hm.1]
              cases hb : Nat.beq (b + (j + 1)) b with
              | false => rfl
              | true => have := Nat.eq_of_beq_eq_true hb; omega
            have := ih us (b + 1) hm.2 ha.2 j
            have e : b + (j + 1) = b + 1 + j := by omega
            rw [show tl (p :: L) (b + (j + 1)) = tl L (b + 1 + j) by simp only [tl, look, hne, cond_false]; rw [e]]
            simpa using this
    have hl2 : (inS 0 c.ps (Ty.cells c.I x)).1.length = c.ps.length := by have := congrArg List.length e2; simpa using this
    rcases hlk _ _ 0 (by rw [hl2]; exact e2) m1 i with ⟨d, v, l1, l2, l3⟩ | l1
    · rw [Nat.zero_add] at l1
      show RepDV _ _ (tl _ i) _
      rw [l1]
      have hi : i < vals.length := (List.getElem?_eq_some_iff.1 l2).1
      have : (vals.toArray ++ Array.replicate (fn.ntmps - vals.toArray.size) undef).getD i undef = v := by
        rw [Array.getD_eq_getD_getElem?, Array.getElem?_append_left (by simpa using hi)]
        simp [l2]
      rw [this]
      exact l3
    · rw [Nat.zero_add] at l1
      show RepDV _ _ (tl _ i) _
      rw [l1]
      exact trivial
  have hcalls := calls_of_wp (P := P) (f := f) (args := vals.toArray) (w := w) hf hb (runK_sound (cx := cx) (w0 := w) (X := XI ι (boxIds c.ps args ++ gvIds ob c.ps args)) (M := MI w0 M ι (updL ob (freeze ob (flatR ob c.ps args))) w (boxIds c.ps args ++ gvIds ob c.ps args)) (ι0 := lookI ⟨none, 0⟩ G) (ob0 := lookO (inS 0 c.ps (Ty.cells c.I x)).2) (nt := fn.ntmps) htt henv (fun b hb => Or.inl hb) hmx k 0 hs r cd 0 (init c.ps (Ty.cells c.I x)) _ hfun hok _ w (bodyPost P fn fun e w' => ∃ v, e = .returned v ∧ ∃ ι', HS w0 X M ι' (updL ob ((bif c.frz then freeze ob (flatR ob c.ps args) else []) ++ (deads (gvIds ob c.ps args) ++ (q.1 ++ (o.w ++ q.2))))) w' ∧ Keeps ι ι' ob (updL ob ((bif c.frz then freeze ob (flatR ob c.ps args) else []) ++ (deads (gvIds ob c.ps args) ++ (q.1 ++ (o.w ++ q.2))))) ∧
      RepDV ι' (updL ob ((bif c.frz then freeze ob (flatR ob c.ps args) else []) ++ (deads (gvIds ob c.ps args) ++ (q.1 ++ (o.w ++ q.2))))) (tupV o.vs) v) ⟨⟨lookI ⟨none, 0⟩ G, hent, hts, fun id hid o ho => ⟨o, ho, Sh.refl o, rfl⟩⟩, rfl, ?_⟩ ?_)
  · exact hcalls
  · have := Nat.le_of_ble_eq_true hnt
    simp [hlen]
    omega
  · intro e s a w1 he hst
    have hfin : ((resA cx.tt s c.rs fn.results.toList).bind fun q => (pA s 0 c.ps).bind fun p => bif (((q.own ++ p.own) ++ p.kp).all (isOwn s) && (disj ((q.own ++ p.own) ++ p.kp) && (q.oth ++ p.oth).all (fun i => !mem ((q.own ++ p.own) ++ p.kp) i))) then ofAVs s.ob c.O (q.a ++ p.a) else none) = some r := by
      cases e <;> first | exact he | cases he
    obtain ⟨q0, hq, hfin⟩ := Option.bind_eq_some_iff.1 hfin
    obtain ⟨p0, hp, hfin⟩ := Option.bind_eq_some_iff.1 hfin
    obtain ⟨hck, hO⟩ := bif_some hfin
    simp only [Bool.and_eq_true] at hck
    obtain ⟨ι1, k1, k2, k3⟩ := hst.ex
    have hkeep : ∀ x ∈ owP 0 c.ps args, ι1 x.1 = ι x.2 ∧ ∃ o oo, s.ob x.1 = some o ∧ ob x.2 = some oo ∧ Wr oo ∧ Sh oo o := fun y hy => by
      obtain ⟨l1, l2, o1, oo, l3, l4, l5, l6⟩ := m3 y hy
      obtain ⟨o', n1, n2, n3⟩ := k3 y.1 l1 o1 l3
      exact ⟨n3.trans l2, o', oo, n1, l4, l5, l6.trans n2⟩
    obtain ⟨us, y1, y2⟩ := res_vals htt k1 k2 hq
    obtain ⟨ι', z1, z2, z3, z4⟩ := leave hhs hXM h1 h3' h4 hkeep (fun x hx => (m4 x hx).2) k1 y2 hq hp hck.1 hck.2.1 hck.2.2 hO h6 h7 h8 h9 h10 hfz
    have hR : bodyPost P fn (fun e w' => ∃ v, e = .returned v ∧ ∃ ι', HS w0 X M ι' (updL ob ((bif c.frz then freeze ob (flatR ob c.ps args) else []) ++ (deads (gvIds ob c.ps args) ++ (q.1 ++ (o.w ++ q.2))))) w' ∧ Keeps ι ι' ob (updL ob ((bif c.frz then freeze ob (flatR ob c.ps args) else []) ++ (deads (gvIds ob c.ps args) ++ (q.1 ++ (o.w ++ q.2))))) ∧
      RepDV ι' (updL ob ((bif c.frz then freeze ob (flatR ob c.ps args) else []) ++ (deads (gvIds ob c.ps args) ++ (q.1 ++ (o.w ++ q.2))))) (tupV o.vs) v) .ret a w1 := ⟨hst.df, _, run_results y1 h3, _, rfl, ι', z1, z2, tup_rep z3 z4⟩
    cases e with
    | normal => exact hR
    | ret => exact hR
    | exit _ => cases he
end
end Go.Proofs.YtfaeklomiofpdaaDoor.DI
