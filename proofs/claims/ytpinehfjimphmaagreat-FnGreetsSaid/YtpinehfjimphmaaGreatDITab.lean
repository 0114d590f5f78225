/- The machine of values: tables of types and of contracts. -/
import Derived.Test.YtpinehfjimphmaaGreatDICtr
namespace Go.Proofs.YtpinehfjimphmaaGreat.DI
open Go Go.RowKit
set_option linter.unusedVariables false
def bodyOf (f : Func) : Code := f.body.getD .skip
theorem envOk_nil {P : Program} : EnvOk P (look none []) := fun g c h => by cases h
theorem envOk_cons {P : Program} {g : Nat} {c : Ctr} {L : List (Nat × Option Ctr)} (h : CtrOk P g c) (hL : EnvOk P (look none L)) : EnvOk P (look none ((g, some c) :: L)) := fun g' c' h' => by
  simp only [look] at h'
  cases hb : Nat.beq g' g <;> rw [hb] at h' <;> simp only [cond_true, cond_false] at h'
  · exact hL g' c' h'
  · cases h'
    have := Nat.eq_of_beq_eq_true hb
    subst this
    exact h
theorem tt_nil {P : Program} : TTok P (look none []) := fun g c h => by cases h
theorem tt_cons {P : Program} {t : Nat} {ti : TI} {L : List (Nat × Option TI)} (h : TIok P t ti) (hL : TTok P (look none L)) : TTok P (look none ((t, some ti) :: L)) := fun t' ti' h' => by
  simp only [look] at h'
  cases hb : Nat.beq t' t <;> rw [hb] at h' <;> simp only [cond_true, cond_false] at h'
  · exact hL t' ti' h'
  · cases h'
    have := Nat.eq_of_beq_eq_true hb
    subst this
    exact h
def zeroOf (i : TypeInfo) : Value := i.zero.getD undef
def fieldsOf (i : TypeInfo) : Array Field := match i.desc with | .struct F => F | _ => #[]
def sizesB (i : TypeInfo) (ti : TI) : Bool := Nat.beq i.size ti.sz && (Nat.beq i.bytes ti.bytes && (Nat.beq ti.ty.size ti.sz && (Nat.beq ti.z.length ti.sz && (Nat.ble 1 ti.sz && Nat.ble 1 ti.bytes))))
def fieldB (P : Program) (F : Array Field) (fs : List (Nat × Nat)) (i : Nat) : Bool :=
  match fs[i]?, F[i]? with
  | some p, some f => Nat.beq f.offset p.1 && (Nat.beq f.type p.2 && (match P.info? f.type with | some j => Nat.ble 1 j.size | none => false))
  | _, _ => false
def stB (P : Program) (t : Nat) (F : Array Field) (fs : List (Nat × Nat)) : Bool :=
  F.toList.all (fun f => (P.info? f.type).isSome && !(f.name == "_")) && (Nat.beq F.size fs.length && (!(P.stoodInHeld t) && (!(P.eqGuardType P.depth t) && (List.range fs.length).all (fieldB P F fs))))
theorem und_st {P : Program} {t : Nat} {fs : List (Nat × Nat)} {F : Array Field} (h : P.underlying t = some (.struct F)) (hb : stB P t F fs = true) :
    ∃ F, P.underlying t = some (.struct F) ∧ ((∀ f ∈ F.toList, (∃ j, P.info? f.type = some j) ∧ (f.name == "_") = false) ∧ F.size = fs.length ∧ P.stoodInHeld t = false ∧ P.eqGuardType P.depth t = false) ∧ ∀ (i : Nat) (p : Nat × Nat), fs[i]? = some p → ∃ f : Field, F[i]? = some f ∧ f.offset = p.1 ∧ f.type = p.2 ∧ ∃ j, P.info? f.type = some j ∧ j.size ≠ 0 := by
  simp only [stB, Bool.and_eq_true, Bool.not_eq_true'] at hb
  obtain ⟨h1, h2, h3, h4, h5⟩ := hb
  refine ⟨F, h, ⟨fun f hf => ?_, Nat.eq_of_beq_eq_true h2, h3, h4⟩, fun i p hp => ?_⟩
  · have := List.all_eq_true.1 h1 f hf
    simp only [Bool.and_eq_true, Bool.not_eq_true'] at this
    exact ⟨Option.isSome_iff_exists.1 this.1, this.2⟩
  · have hi := (List.getElem?_eq_some_iff.1 hp).1
    have := List.all_eq_true.1 h5 i (List.mem_range.2 hi)
    unfold fieldB at this
    rw [hp] at this
    cases hF : F[i]? with
    | none => rw [hF] at this; cases this
    | some f =>
      rw [hF] at this
      simp only [Bool.and_eq_true] at this
      obtain ⟨k1, k2, k3⟩ := this
      refine ⟨f, rfl, Nat.eq_of_beq_eq_true k1, Nat.eq_of_beq_eq_true k2, ?_⟩
      cases hj : P.info? f.type with
      | none => rw [hj] at k3; cases k3
      | some j =>
        rw [hj] at k3
        simp only at k3
        have := Nat.le_of_ble_eq_true k3
        exact ⟨j, rfl, by omega⟩
theorem TIok.of {P : Program} {t : Nat} {ti : TI} (i : TypeInfo) (h1 : P.info? t = some i) (h2 : i.zero = some (zeroOf i)) (hs : sizesB i ti = true) (h4 : (zeroOf i).cells.toList.map AV.ofV = ti.z)
    (h5 : (ti.agg = true ∧ zeroOf i = .agg (zeroOf i).cells) ∨ (ti.agg = false ∧ (zeroOf i).cells = #[zeroOf i]))
    (hu : match ti.k with
    | .num k => P.underlying t = some (.int k)
    | .bool => P.underlying t = some .bool
    | .str => P.underlying t = some .string
    | .sl e => P.underlying t = some (.slice e)
    | .st fs => ∃ F, P.underlying t = some (.struct F) ∧ ((∀ f ∈ F.toList, (∃ j, P.info? f.type = some j) ∧ (f.name == "_") = false) ∧ F.size = fs.length ∧ P.stoodInHeld t = false ∧ P.eqGuardType P.depth t = false) ∧ ∀ (i : Nat) (p : Nat × Nat), fs[i]? = some p → ∃ f : Field, F[i]? = some f ∧ f.offset = p.1 ∧ f.type = p.2 ∧ ∃ j, P.info? f.type = some j ∧ j.size ≠ 0
    | .arr e k n => P.underlying t = some (.array n e) ∧ (∃ j, P.info? e = some j ∧ j.size = 1) ∧ ti.sz = n ∧ ti.z = List.replicate n (.int k 0)
    | .other => ∃ d, P.underlying t = some d ∧ d.isRow = false) : TIok P t ti := by
  simp only [sizesB, Bool.and_eq_true] at hs
  obtain ⟨s1, s2, s3, s4, s5, s6⟩ := hs
  refine ⟨⟨i, zeroOf i, h1, Nat.eq_of_beq_eq_true s1, Nat.eq_of_beq_eq_true s2, h2, h4, ?_⟩, hu, Nat.eq_of_beq_eq_true s3, Nat.eq_of_beq_eq_true s4, Nat.le_of_ble_eq_true s5, Nat.le_of_ble_eq_true s6⟩
  rcases h5 with ⟨a, b⟩ | ⟨a, b⟩
  · rw [if_pos a]; exact b
  · rw [if_neg (by rw [a]; exact Bool.false_ne_true)]; exact b
end Go.Proofs.YtpinehfjimphmaaGreat.DI
