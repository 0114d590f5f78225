/- The machine of values: code. -/
import Derived.Test.YtpinehfjimphmaaGreatDINorm
import Derived.Test.YtpinehfjimphmaaGreatDIDraw
import Derived.LoopN
import Derived.Scope
namespace Go.Proofs.YtpinehfjimphmaaGreat.DI
open Go Go.RowKit
set_option linter.unusedVariables false
set_option linter.unusedSimpArgs false
def codeOk (nt : Nat) : Code → Bool
  | .region _ ops draw => ops.all (dstOk nt) && (!draw || regOk ops)
  | .seq x y => codeOk nt x && codeOk nt y
  | .cond _ x y => codeOk nt x && codeOk nt y
  | .block _ c => codeOk nt c
  | .loop c => codeOk nt c
  | _ => true
def Ex.to : Ex → Exit | .normal => .normal | .exit id => .exit id | .ret => .ret
section
variable {P : Program} {w0 : World} {X M : Nat → Prop} {kp : List Nat} {ι0 : Nat → In} {ob0 : Ob} {nt : Nat} {R : Type}
/-- What follows a piece of code, told of the machine of values, holds of the world. -/
def Follows (w0 : World) (X M : Nat → Prop) (kp : List Nat) (ι0 : Nat → In) (ob0 : Ob) (nt : Nat) (K : Ex → DS → Option R) (res : R) (Q : Exit → Act → World → Prop) : Prop :=
  ∀ e s a w, K e s = some res → St w0 X M kp ι0 ob0 nt s a w → Q e.to a w
theorem drew_st {s : DS} {a : Act} {w : World} (h : St w0 X M kp ι0 ob0 nt s a w) (n : Nat) : St w0 X M kp ι0 ob0 nt s a { w with drawn := n } := by
  obtain ⟨ι, h1, h2, h3⟩ := h.ex
  have hh : ({ w with drawn := n } : World).heap = w.heap := rfl
  have hN : ∀ b, Nb w0 M ι s.ob w b → Nb w0 M ι s.ob { w with drawn := n } b ∧ ({ w with drawn := n } : World).heap[b]? = w.heap[b]? := fun b hb => ⟨hb, rfl⟩
  exact ⟨⟨ι, ⟨⟨h1.fr.os, h1.fr.tape, h1.fr.output, h1.fr.size, h1.fr.block, h1.fr.gl⟩, fun id o ho => RepO.keep hN (Keeps.refl _ _) rfl (fun _ _ _ => rfl) (h1.obs id o ho), h1.wr, h1.sep⟩, h2, h3⟩, h.df, h.sz⟩
theorem loop_sound {nrm : DS → (DS → Option R) → Option R} {body : DS → (Ex → DS → Option R) → Option R} {c : Code} {res : R} {Q : Exit → Act → World → Prop} (hn : ∀ (K : DS → Option R) s a w, nrm s K = some res → St w0 X M kp ι0 ob0 nt s a w → ∃ s', K s' = some res ∧ St w0 X M kp ι0 ob0 nt s' a w)
    (hb : ∀ (K : Ex → DS → Option R) (Q : Exit → Act → World → Prop) s a w, body s K = some res → St w0 X M kp ι0 ob0 nt s a w → Follows w0 X M kp ι0 ob0 nt K res Q → c.wp P Q a w) :
    ∀ (n : Nat) (s : DS) (a : Act) (w : World) (K : Ex → DS → Option R), loopK nrm body n s K = some res → St w0 X M kp ι0 ob0 nt s a w → Follows w0 X M kp ι0 ob0 nt K res Q → Code.rounds P c Q n a w
  | 0, s, a, w, K, h, _, _ => by cases h
  | n + 1, s, a, w, K, h, hs, hK => by
    rw [rounds_succ]
    refine hb _ _ s a w h hs fun e s' a' w' he hs' => ?_
    cases e with
    | normal =>
      simp only [kSeq] at he
      obtain ⟨s'', h2, h1⟩ := hn _ _ _ _ he hs'
      exact loop_sound hn hb n s'' a' w' K h2 h1 hK
    | exit id => exact hK (.exit id) s' a' w' he hs'
    | ret => exact hK .ret s' a' w' he hs'
theorem runK_sound {cx : Cx} (htt : TTok P cx.tt) (henv : EnvOk P cx.env) (hXM : ∀ b, X b → M b) (hmx : P.follows .mixedOrders = true) (k base : Nat) (hs : Nat → Hint) (res : R) :
    ∀ (c : Code) (b : Nat) (s : DS) (K : Ex → DS → Option R), runK cx k base kp hs b c s K = some res → codeOk nt c = true → ∀ (a : Act) (w : World) (Q : Exit → Act → World → Prop), St w0 X M kp ι0 ob0 nt s a w → Follows w0 X M kp ι0 ob0 nt K res Q → c.wp P Q a w := by
  intro c
  induction c with
  | skip => intro b s K h _ a w Q hst hK; exact wp_skip (hK .normal s a w h hst)
  | label l => intro b s K h _ a w Q hst hK; exact wp_label (hK .normal s a w h hst)
  | exit id => intro b s K h _ a w Q hst hK; exact wp_exit (hK (.exit id) s a w h hst)
  | ret => intro b s K h _ a w Q hst hK; exact wp_ret (hK .ret s a w h hst)
  | region id ops draw =>
    intro b s K h hok a w Q hst hK
    simp only [codeOk, Bool.and_eq_true, Bool.or_eq_true, Bool.not_eq_true'] at hok
    cases draw with
    | false =>
      refine wp_region ?_
      rw [List.range_eq_range']
      have := ops_sound htt henv hXM k base ops hok.1 (K .normal) res (fun s a w h1 h2 => hK .normal s a w h1 h2) ops.toList 0 s a w rfl h hst
      simpa using this
    | true =>
      refine wp_region_any hmx ?_
      exact drawn_sound htt henv hXM k base ops hok.1 (hok.2.resolve_left (by simp)) (K .normal) res (fun s a w h1 h2 => hK .normal s a w h1 h2) s a _ h (drew_st hst _)
  | seq x y ihx ihy =>
    intro b s K h hok a w Q hst hK
    simp only [codeOk, Bool.and_eq_true] at hok
    refine wp_seq (ihx b s _ h hok.1 a w _ hst fun e s' a' w' he hs' => ?_)
    cases e with
    | normal => exact ihy b s' K he hok.2 a' w' Q hs' hK
    | exit id => exact hK (.exit id) s' a' w' he hs'
    | ret => exact hK .ret s' a' w' he hs'
  | cond c x y ihx ihy =>
    intro b s K h hok a w Q hst hK
    simp only [codeOk, Bool.and_eq_true] at hok
    simp only [runK] at h
    obtain ⟨ι, h1, h2, h3⟩ := hst.ex
    split at h
    · rename_i t ht
      have hc : a.eval c = .bool t := ev_at h2 ht
      cases t
      · exact wp_cond_false hc (ihy b s K h hok.2 a w Q hst hK)
      · exact wp_cond_true hc (ihx b s K h hok.1 a w Q hst hK)
    · cases h
  | block id c ih =>
    intro b s K h hok a w Q hst hK
    refine wp_block (ih id s _ h hok a w _ hst fun e s' a' w' he hs' => ?_)
    cases e with
    | normal => exact hK .normal s' a' w' he hs'
    | exit i =>
      simp only [kBlk] at he
      simp only [Ex.to, Exit.inBlock]
      cases hb : Nat.beq i id <;> rw [hb] at he <;> simp only [cond_true, cond_false] at he
      · have hne : ¬ i = id := fun e => by subst e; simp at hb
        rw [if_neg hne]
        exact hK (.exit i) s' a' w' he hs'
      · have := Nat.eq_of_beq_eq_true hb
        subst this
        rw [if_pos rfl]
        exact hK .normal s' a' w' he hs'
    | ret => exact hK .ret s' a' w' he hs'
  | loop c ih =>
    intro b s K h hok a w Q hst hK
    simp only [runK] at h
    obtain ⟨s', h, h1⟩ := normK_sound hXM hst h
    exact wp_loop_rounds k (loop_sound (fun K s a w hn hs => normK_sound hXM hs hn) (fun K Q s a w hb hs hK => ih b s K hb hok a w Q hs hK) k s' a w K h h1 hK)
  | rangeFunc _ _ _ _ _ _ => intro b s K h; cases h
  | scope _ _ => intro b s K h; cases h
  | goto _ => intro b s K h; cases h
  | refuse _ => intro b s K h; cases h
end
end Go.Proofs.YtpinehfjimphmaaGreat.DI
