/- The machine of values: a call from outside, whose arguments are read alone. -/
import Derived.Test.YtpinehfjimphmaaGreatDITab
import Derived.DataReads
import Derived.ChangeArms
import Derived.ChangeOld
import Derived.OpenShut
import Derived.SizedLaws
namespace Go.Proofs.YtpinehfjimphmaaGreat.DI
open Go Go.RowKit
set_option linter.unusedVariables false
set_option linter.unusedSimpArgs false
/-- Cells in a row, no row of pairs on the left. -/
def Ty.atom : Ty → Bool | .unit => false | .two _ _ => false | _ => true
def Ty.nf : Ty → Bool | .two a b => a.atom && b.nf | .unit => true | _ => true
theorem of_cells {ob : Ob} : ∀ {t : Ty} {l : List AV} {x : t.den}, t.nf = true → All2 (IsC ob) l (Ty.cells t x) → ofAVs (dv ob) t l = some x
  | .two a b, l, x, hn, h => by
    simp only [Ty.nf, Bool.and_eq_true] at hn
    have hc : Ty.cells a x.1 = [⟨a, x.1⟩] := by
      have := hn.1
      cases a <;> simp [Ty.atom] at this <;> rfl
    simp only [Ty.cells, hc] at h
    match l, h with
    | y :: r, h =>
      have h1 : ofAV (dv ob) a y = some x.1 := h.1
      have h2 := of_cells hn.2 h.2
      simp only [ofAVs, h1, Option.bind_some, h2]
  | .unit, [], _, _, _ => rfl
  | .unit, _ :: _, _, _, h => h.elim
  | .int _, [y], _, _, h => h.1
  | .bool, [y], _, _, h => h.1
  | .str, [y], _, _, h => h.1
  | .sl _ _, [y], _, _, h => h.1
  | .int _, [], _, _, h => h.elim
  | .bool, [], _, _, h => h.elim
  | .str, [], _, _, h => h.elim
  | .sl _ _, [], _, _, h => h.elim
  | .int _, _ :: _ :: _, _, _, h => h.2.elim
  | .bool, _ :: _ :: _, _, _, h => h.2.elim
  | .str, _ :: _ :: _, _, _, h => h.2.elim
  | .sl _ _, _ :: _ :: _, _, _, h => h.2.elim
theorem toOwns_isC {ob : Ob} (own : Bool) : ∀ (id : Nat) (cs : List Cell) (us : List Value), All2 CellV cs us → (∀ p ∈ (toOwns own id cs).2, ob p.1 = some p.2) → All2 (IsC ob) (toOwns own id cs).1 cs
  | id, [], [], _, _ => trivial
  | id, [], _ :: _, h, _ => h.elim
  | id, _ :: _, [], h, _ => h.elim
  | id, ⟨t, v⟩ :: r, u :: us, h, ho => by
    rw [toOwns_cons] at ho ⊢
    have ih := toOwns_isC own (id + 1) r us h.2 (fun p hp => ho p (List.mem_append_right _ hp))
    have hv := h.1
    refine ⟨?_, ih⟩
    cases t with
    | unit => exact hv.elim
    | two a b => exact hv.elim
    | int k => simp [IsC, Cell.toOwn, Cell.toAV, ofAV]
    | bool => simp [IsC, Cell.toOwn, Cell.toAV, ofAV]
    | str => simp [IsC, Cell.toOwn, Cell.toAV, ofAV]
    | sl e t =>
      have := dv_mk (ho (id, mkO own e t v) (by simp [Cell.toOwn]))
      simp only at this
      simp [IsC, Cell.toOwn, ofAV, this, castL]
/-- Arguments as values of cells. -/
def ArgsR (w : World) (N : Nat → Prop) : List PK → List Cell → List Value → Prop
  | [], cs, vs => cs = [] ∧ vs = []
  | .one :: ps, c :: cs, v :: vs => CellV c v ∧ CellR false w N c v ∧ ArgsR w N ps cs vs
  | .agg n :: ps, cs, v :: vs => (∃ us, v = .agg (List.toArray us) ∧ All2 CellV (cs.take n) us ∧ All2 (CellR false w N) (cs.take n) us ∧ us.length = n) ∧ ArgsR w N ps (cs.drop n) vs
  | _, _, _ => False
theorem flat_app {ob : Ob} : ∀ {ps : List PK} {args : List DV} {l : List AV}, flat ob ps args = some l → True := fun _ => trivial
theorem root_in {w : World} {N : Nat → Prop} : ∀ (ps : List PK) (j : Nat) (cs : List Cell) (vs : List Value), ArgsR w N ps cs vs →
    ∃ G : List (Nat × In), G.map Prod.fst = outIds (inS j ps cs).2 ∧ ∀ (ι : Nat → In) (ob : Ob), (∀ p ∈ (inS j ps cs).2, ob p.1 = some p.2) → (∀ p ∈ G, ι p.1 = p.2) →
      All2 (RepDV ι ob) ((inS j ps cs).1.map Prod.snd) vs ∧ (∀ p ∈ (inS j ps cs).2, ∃ e t l, p.2 = .row e t false l ∧ Ro w N t l (ι p.1).a (ι p.1).c) ∧ (∃ avs, flat ob ps ((inS j ps cs).1.map Prod.snd) = some avs ∧ All2 (IsC ob) avs cs) ∧
      (boxIds ps ((inS j ps cs).1.map Prod.snd) = [] ∧ gvIds ob ps ((inS j ps cs).1.map Prod.snd) = []) ∧ ∀ id, outP id ps ((inS j ps cs).1.map Prod.snd) [] = some ([], [])
  | [], j, cs, vs, h => by
    obtain ⟨rfl, rfl⟩ := h
    exact ⟨[], rfl, fun ι ob _ _ => ⟨trivial, by simp [inS], ⟨[], rfl, trivial⟩, ⟨rfl, rfl⟩, fun _ => rfl⟩⟩
  | .one :: ps, j, cs, vs, h => by
    match cs, vs, h with
    | c :: cs, v :: vs, ⟨h1, h2, h3⟩ =>
      obtain ⟨G, g1, g2⟩ := root_in ps (j + 1) cs vs h3
      refine ⟨insOf (j * 16) [c] [v] ++ G, by simp [inS, outIds, insOf_fst false _ [c] [v] rfl] at g1 ⊢; exact g1, fun ι ob ho hi => ?_⟩
      have ho1 : ∀ p ∈ (toOwns false (j * 16) [c]).2, ob p.1 = some p.2 := fun p hp => ho p (by simp only [inS, List.take_succ_cons, List.take_zero, List.mem_append]; exact .inl hp)
      have hi1 : ∀ p ∈ insOf (j * 16) [c] [v], ι p.1 = p.2 := fun p hp => hi p (List.mem_append_left _ hp)
      obtain ⟨q1, q2, ⟨avs, q3, q4⟩, q5, q6⟩ := g2 ι ob (fun p hp => ho p (by simp only [inS, List.mem_append]; exact .inr hp)) (fun p hp => hi p (List.mem_append_right _ hp))
      have r1 := toOwns_rep false (j * 16) [c] [v] ⟨h1, trivial⟩ ho1 (fun p hp => Alike.of (hi1 p hp))
      have r2 := toOwns_obj (j * 16) [c] [v] ⟨h2, trivial⟩ hi1
      have r3 := toOwns_isC false (j * 16) [c] [v] ⟨h1, trivial⟩ ho1
      simp only [inS, List.take_succ_cons, List.take_zero, List.drop_succ_cons, List.drop_zero, List.map_cons]
      rw [toOwns_cons] at r1 r3 ⊢
      refine ⟨⟨r1.1, q1⟩, fun p hp => ?_, ⟨(c.toOwn false (j * 16)).1 :: avs, ?_, r3.1, q4⟩, ?_, fun id => ?_⟩
      · rcases List.mem_append.1 hp with hp | hp
        · obtain ⟨e, t, l, e1, e2⟩ := r2 p (by rw [toOwns_cons]; exact hp)
          exact ⟨e, t, l, e1, e2⟩
        · exact q2 p hp
      · simp only [List.headD_cons, flat, q3, Option.bind_some]
      · simpa [boxIds, gvIds] using q5
      · simpa [outP] using q6 id
  | .agg n :: ps, j, cs, vs, h => by
    match vs, h with
    | v :: vs, ⟨⟨us, h1, h2, h3, h5⟩, h4⟩ =>
      obtain ⟨G, g1, g2⟩ := root_in ps (j + 1) _ vs h4
      refine ⟨insOf (j * 16) (cs.take n) us ++ G, by simp [inS, outIds, insOf_fst false _ _ us h2.len] at g1 ⊢; exact g1, fun ι ob ho hi => ?_⟩
      have ho1 : ∀ p ∈ (toOwns false (j * 16) (cs.take n)).2, ob p.1 = some p.2 := fun p hp => ho p (by simp only [inS, List.mem_append]; exact .inl hp)
      have hi1 : ∀ p ∈ insOf (j * 16) (cs.take n) us, ι p.1 = p.2 := fun p hp => hi p (List.mem_append_left _ hp)
      obtain ⟨q1, q2, ⟨avs, q3, q4⟩, q5, q6⟩ := g2 ι ob (fun p hp => ho p (by simp only [inS, List.mem_append]; exact .inr hp)) (fun p hp => hi p (List.mem_append_right _ hp))
      have r1 := toOwns_rep false (j * 16) (cs.take n) us h2 ho1 (fun p hp => Alike.of (hi1 p hp))
      have r2 := toOwns_obj (j * 16) (cs.take n) us h3 hi1
      have r3 := toOwns_isC false (j * 16) (cs.take n) us h2 ho1
      have hl : (toOwns false (j * 16) (cs.take n)).1.length = n := by rw [r1.len, h5]
      simp only [inS, List.map_cons]
      refine ⟨⟨⟨us, h1, r1⟩, q1⟩, fun p hp => ?_, ⟨(toOwns false (j * 16) (cs.take n)).1 ++ avs, ?_, ?_⟩, ?_, fun id => ?_⟩
      · rcases List.mem_append.1 hp with hp | hp
        · obtain ⟨e, t, l, e1, e2⟩ := r2 p hp
          exact ⟨e, t, l, e1, e2⟩
        · exact q2 p hp
      · simp only [flat, hl, if_true, q3, Option.bind_some]
      · have := All2.append r3 q4
        rwa [List.take_append_drop] at this
      · simpa [boxIds, gvIds] using q5
      · simpa [outP] using q6 id
  | .row :: ps, j, cs, vs, h => by cases cs <;> cases vs <;> exact h.elim
  | .box t n :: ps, j, cs, vs, h => by cases cs <;> cases vs <;> exact h.elim
  | .aggw n sl :: ps, j, cs, vs, h => by cases cs <;> cases vs <;> exact h.elim
  | .give :: ps, j, cs, vs, h => by cases cs <;> cases vs <;> exact h.elim
  | .boxg t n :: ps, j, cs, vs, h => by cases cs <;> cases vs <;> exact h.elim
  | .fnp g t n :: ps, j, cs, vs, h => by cases cs <;> cases vs <;> exact h.elim
/-- A law's run: it answers, and what was there stays. -/
theorem CtrOk.root {P : Program} {f : Nat} {ps : List PK} {frz : Bool} {I : Ty} {run : Nat → I.den → Option Bool} (h : CtrOk P f ⟨ps, [.one true], frz, I, .bool, run⟩) (hnf : I.nf = true) {W : World} {vals : List Value} {x : I.den} (hd : disj (outIds (inS 0 ps (Ty.cells I x)).2) = true)
    (ha : ArgsR W (fun b => b < W.heap.size) ps (Ty.cells I x) vals) {k : Nat} {r : Bool} (hr : run k x = some r) (hg : GOK W ∧ ∀ b, GB b → b < W.heap.size) :
    Calls P f vals.toArray W fun e W' => e = .returned (.bool r) ∧ Below W.heap.size W W' := by
  obtain ⟨G, g1, g2⟩ := root_in ps 0 _ vals ha
  have hnd := disj_pw hd
  obtain ⟨q1, q2, ⟨avs, q3, q4⟩, q5, q6⟩ := g2 (lookI ⟨none, 0, []⟩ G) (lookO (inS 0 ps (Ty.cells I x)).2) (fun p hp => lookO_of hnd hp) (fun p hp => lookI_mem (by rw [g1]; exact hnd) hp)
  have hnw : ∀ b, ¬ DI.W (lookI ⟨none, 0, []⟩ G) (lookO (inS 0 ps (Ty.cells I x)).2) b := by
    rintro b ⟨id, o, h1, h2, _⟩
    obtain ⟨e, t, l, e1, _⟩ := q2 _ (lookO_mem h1)
    simp only at e1
    rw [e1] at h2
    exact h2
  have hs : HS W (fun _ => False) (fun b => b < W.heap.size) (lookI ⟨none, 0, []⟩ G) (lookO (inS 0 ps (Ty.cells I x)).2) W := by
    refine ⟨Fr.refl _ _ ⟨hg.1, fun b hb => ⟨hg.2 b hb, fun h => h⟩⟩, fun id o ho => ?_, fun b hb => (hnw b hb).elim, fun id id' o o' b h1 h2 h3 _ h5 _ => (hnw b ⟨id, o, h1, h3, h5⟩).elim⟩
    obtain ⟨e, t, l, e1, e2⟩ := q2 _ (lookO_mem ho)
    simp only at e1
    subst e1
    exact Ro.mono (fun b hb => ⟨⟨hb, .inl hb, hnw b⟩, rfl⟩) e2
  refine (h.calls W (fun _ => False) (fun b => b < W.heap.size) _ _ W hs (fun _ h => h.elim) _ vals q1 k 0 avs x r ⟨[(false, [.bool r])], [], 1, []⟩ ([], []) q3 (of_cells hnf q4) (by simp only [q5.1, q5.2]; rfl) (by simp only [q5.1, q5.2]; rfl) hr rfl (q6 _) rfl rfl).mono ?_
  rintro e W' ⟨v, rfl, ι', h1, _, h3⟩
  simp only [tupV, RepDV, RepAV] at h3
  subst h3
  exact ⟨rfl, h1.fr.os, h1.fr.tape, h1.fr.output, h1.fr.size, fun b hb => h1.fr.block b hb (fun h => h)⟩
end Go.Proofs.YtpinehfjimphmaaGreat.DI
