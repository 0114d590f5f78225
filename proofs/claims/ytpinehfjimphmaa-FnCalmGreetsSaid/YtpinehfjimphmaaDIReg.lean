/- The machine of values: regions. -/
import Derived.Test.YtpinehfjimphmaaDIRun
namespace Go.Proofs.Ytpinehfjimphmaa.DI
open Go Go.RowKit
set_option linter.unusedVariables false
set_option linter.unusedSimpArgs false
/-- One operation, with its guard: what it does. -/
def stepD (cx : Cx) (k base : Nat) (ops : Array Oper) (o : Oper) (s : DS) : Option Dl :=
  match o.guard with
  | none => opK cx k ((base + o.dst.getD 0) * 16) o.op s some
  | some (j, want) => match (ops[j]?).bind (·.dst) with
    | some t => match s.tm t with
      | .at (.bool b) => if b = want then opK cx k ((base + o.dst.getD 0) * 16) o.op s some else some ⟨.tup [], [], []⟩
      | .tup [] => some ⟨.tup [], [], []⟩
      | _ => none
    | none => none
theorem putB_self {s : DS} {t : Nat} {b : Bool} (h : s.tm t = .at (.bool b)) : putB s t b = s := by
  unfold putB
  obtain ⟨tm, ob⟩ := s
  congr 1
  funext j
  by_cases e : j = t
  · subst e; rw [upd_same]; exact h.symm
  · exact upd_ne _ _ _ _ e
theorem opsK_cons {R : Type} (cx : Cx) (k base : Nat) (ops : Array Oper) (o : Oper) (r : List Oper) (s : DS) (K : DS → Option R) :
    opsK cx k base ops (o :: r) s K = (stepD cx k base ops o s).bind fun d => opsK cx k base ops r (s.app o.dst d) K := by
  cases hg : o.guard with
  | none => simp only [opsK, stepD, hg]; rw [opK_nat]
  | some p =>
    obtain ⟨j, want⟩ := p
    cases ht : (ops[j]?).bind (·.dst) with
    | none => simp only [opsK, stepD, hg, ht, Option.bind_none]
    | some t =>
      simp only [opsK, stepD, hg, ht]
      cases hb : s.tm t with
      | «at» x =>
        cases x with
        | bool b =>
          cases b
          · simp only [cond_false]
            rw [putB_self hb]
            cases want
            · simp only [cond_false, if_true]; rw [opK_nat]
            · simp only [cond_true, Bool.false_eq_true, if_false, Option.bind_some]
          · simp only [cond_true]
            rw [putB_self hb]
            cases want
            · simp only [cond_false, Bool.true_eq_false, if_false, Option.bind_some]
            · simp only [cond_true, if_true]; rw [opK_nat]
        | _ => rfl
      | tup l => cases l <;> rfl
      | _ => rfl
structure St (w0 : World) (X M : Nat → Prop) (kp : List Nat) (ι0 : Nat → In) (ob0 : Ob) (nt : Nat) (s : DS) (a : Act) (w : World) : Prop where
  ex : ∃ ι, HS w0 X M ι s.ob w ∧ TS ι s a ∧ ∀ id ∈ kp, ∀ o, ob0 id = some o → ∃ o', s.ob id = some o' ∧ Sh o o' ∧ Alike (ι id) (ι0 id)
  df : a.defers = []
  sz : a.tmps.size = nt
def dstOk (nt : Nat) (o : Oper) : Bool := match o.dst with | some d => Nat.blt d nt | none => true
section
variable {P : Program} {w0 : World} {X M : Nat → Prop} {kp : List Nat} {ι0 : Nat → In} {ob0 : Ob} {nt : Nat}
theorem TS.put {ι ι' : Nat → In} {s : DS} {a : Act} {dst : Option Nat} {d : Dl} {v : Value} (ht : TS ι s a) (hk : Keeps ι ι' s.ob (updL s.ob d.w)) (hv : RepDV ι' (updL s.ob d.w) d.v v) (hd : ∀ i, dst = some i → i < a.tmps.size) :
    TS ι' (s.app dst d) (a.put dst v) := by
  intro i
  cases dst with
  | none => exact RepDV.mono hk (ht i)
  | some j =>
    have hj := hd j rfl
    by_cases e : i = j
    · subst e
      have : (a.put (some i) v).tmps.getD i undef = v := by simp [Act.put, hj]
      rw [this]
      show RepDV ι' _ (upd s.tm i d.v i) v
      rw [upd_same]; exact hv
    · have : (a.put (some j) v).tmps.getD i undef = a.tmps.getD i undef := by simp [Act.put, Array.getElem?_setIfInBounds_ne (Ne.symm e)]
      rw [this]
      show RepDV ι' _ (upd s.tm j d.v i) _
      rw [upd_ne _ _ _ _ e]
      exact RepDV.mono hk (ht i)
theorem St.app {s : DS} {a : Act} {w : World} (h : ∃ ι, HS w0 X M ι s.ob w ∧ TS ι s a ∧ ∀ id ∈ kp, ∀ o, ob0 id = some o → ∃ o', s.ob id = some o' ∧ Sh o o' ∧ Alike (ι id) (ι0 id)) : True := trivial
theorem yielded_of {ops : Array Oper} {ι : Nat → In} {s : DS} {a : Act} (ht : TS ι s a) {j t : Nat} {b : Bool} (hj : (ops[j]?).bind (·.dst) = some t) (hb : s.tm t = .at (.bool b)) (hlt : t < a.tmps.size) : yielded ops a.tmps j = some b := by
  have h := ht t
  rw [hb] at h
  have h' : a.tmps[t]? = some (.bool b) := by
    have h1 : a.tmps.getD t undef = .bool b := h
    rw [Array.getD_eq_getD_getElem?, Array.getElem?_eq_getElem hlt] at h1
    rw [Array.getElem?_eq_getElem hlt]
    simpa using h1
  unfold yielded
  rw [hj]
  simp [h']
theorem yielded_not {ops : Array Oper} {ι : Nat → In} {s : DS} {a : Act} (ht : TS ι s a) {j t : Nat} (hj : (ops[j]?).bind (·.dst) = some t) (hb : s.tm t = .tup []) (hlt : t < a.tmps.size) : yielded ops a.tmps j = none := by
  have h := ht t
  rw [hb] at h
  obtain ⟨vs, h1, h2⟩ := h
  have h' : a.tmps[t]? = some (.tuple (List.toArray vs)) := by
    rw [Array.getD_eq_getD_getElem?, Array.getElem?_eq_getElem hlt] at h1
    rw [Array.getElem?_eq_getElem hlt]
    simpa using h1
  unfold yielded
  rw [hj]
  simp [h']
/-- One operation with its guard, in the world. -/
theorem step_sound {cx : Cx} (htt : TTok P cx.tt) (henv : EnvOk P cx.env) (hXM : ∀ b, X b → M b) (k base : Nat) (ops : Array Oper) (hdst : ops.all (dstOk nt) = true) (o : Oper) (ho : dstOk nt o = true) {s : DS} {a : Act} {w : World} (hs : St w0 X M kp ι0 ob0 nt s a w) (d : Dl) (h : stepD cx k base ops o s = some d)
    {next : Act → World → Prop} {Q : Exit → Act → World → Prop} (hn : ∀ a' w', St w0 X M kp ι0 ob0 nt (s.app o.dst d) a' w' → next a' w') :
    if Region.wanted o (yielded ops a.tmps) then o.wp P a w next Q ∨ (o.asks P a w ∧ LetsOut Q) else next (a.put o.dst undef) w := by
  obtain ⟨ι, h1, h2, h3⟩ := hs.ex
  have hd : ∀ i, o.dst = some i → i < a.tmps.size := fun i hi => by
    unfold dstOk at ho
    rw [hi] at ho
    rw [hs.sz]
    exact Nat.le_of_ble_eq_true ho
  have after : ∀ v w', Post w0 X M ι s d v w' → next (a.put o.dst v) w' := by
    rintro v w' ⟨ι', k1, k2, k3⟩
    refine hn _ _ ⟨⟨ι', k1, TS.put h2 k2 k3 hd, fun id hid o0 ho0 => ?_⟩, by cases hh : o.dst <;> simp [Act.put, hh, hs.df], by cases hh : o.dst <;> simp [Act.put, hh, hs.sz]⟩
    obtain ⟨o1, q1, q2, q3⟩ := h3 id hid o0 ho0
    obtain ⟨o2, q4, q5, q6⟩ := k2 id o1 q1
    exact ⟨o2, q4, q2.trans q5, Alike.trans q6 q3⟩
  unfold stepD at h
  split at h
  · rename_i hg
    have hw : Region.wanted o (yielded ops a.tmps) = true := by simp [Region.wanted, hg]
    rw [if_pos hw]
    exact .inl ((opK_sound htt henv h1 hXM h2 k _ o.op o.type d h).wp after)
  · rename_i j want hg
    split at h
    · rename_i t ht
      split at h
      · rename_i b hb
        have hlt : t < a.tmps.size := by
          obtain ⟨oj, h4, h5⟩ := Option.bind_eq_some_iff.1 ht
          have h6 := (Array.all_eq_true_iff_forall_mem.1 hdst) oj (Array.mem_of_getElem? h4)
          unfold dstOk at h6
          rw [h5] at h6
          rw [hs.sz]
          exact Nat.le_of_ble_eq_true h6
        have hy := yielded_of h2 ht hb hlt
        by_cases hbw : b = want
        · rw [if_pos hbw] at h
          have hw : Region.wanted o (yielded ops a.tmps) = true := by simp [Region.wanted, hg, hy, hbw]
          rw [if_pos hw]
          exact .inl ((opK_sound htt henv h1 hXM h2 k _ o.op o.type d h).wp after)
        · rw [if_neg hbw] at h
          cases h
          have hw : ¬ Region.wanted o (yielded ops a.tmps) = true := by simp [Region.wanted, hg, hy, hbw]
          rw [if_neg hw]
          exact after undef w (Post.same h1 (d := .tup []) ⟨[], rfl, trivial⟩ [])
      · rename_i hb
        cases h
        have hlt : t < a.tmps.size := by
          obtain ⟨oj, h4, h5⟩ := Option.bind_eq_some_iff.1 ht
          have h6 := (Array.all_eq_true_iff_forall_mem.1 hdst) oj (Array.mem_of_getElem? h4)
          unfold dstOk at h6
          rw [h5] at h6
          rw [hs.sz]
          exact Nat.le_of_ble_eq_true h6
        have hy := yielded_not h2 ht hb hlt
        have hw : ¬ Region.wanted o (yielded ops a.tmps) = true := by simp [Region.wanted, hg, hy]
        rw [if_neg hw]
        exact after undef w (Post.same h1 (d := .tup []) ⟨[], rfl, trivial⟩ [])
      · cases h
    · cases h
/-- A region in the order of the text. -/
theorem ops_sound {cx : Cx} (htt : TTok P cx.tt) (henv : EnvOk P cx.env) (hXM : ∀ b, X b → M b) {R : Type} (k base : Nat) (ops : Array Oper) (hdst : ops.all (dstOk nt) = true) {Q : Exit → Act → World → Prop} (K : DS → Option R) (res : R)
    (hQ : ∀ s a w, K s = some res → St w0 X M kp ι0 ob0 nt s a w → Q .normal a w) : ∀ (l : List Oper) (i : Nat) (s : DS) (a : Act) (w : World), ops.toList.drop i = l → opsK cx k base ops l s K = some res → St w0 X M kp ι0 ob0 nt s a w → wpOps P ops Q (List.range' i l.length) a w
  | [], i, s, a, w, _, h, hs => hQ s a w h hs
  | o :: r, i, s, a, w, hl, h, hs => by
    rw [opsK_cons] at h
    obtain ⟨d, h1, h⟩ := Option.bind_eq_some_iff.1 h
    have ho : ops[i]? = some o := by
      have : (ops.toList.drop i)[0]? = some o := by rw [hl]; rfl
      simpa using this
    have hmem : o ∈ ops := Array.mem_of_getElem? ho
    have hr : ops.toList.drop (i + 1) = r := by rw [← List.tail_drop, hl]; rfl
    simp only [List.length_cons, List.range'_succ, wpOps, ho]
    exact step_sound htt henv hXM k base ops hdst o ((Array.all_eq_true_iff_forall_mem.1 hdst) o hmem) hs d h1 (fun a' w' h' => ops_sound htt henv hXM k base ops hdst K res hQ r (i + 1) _ a' w' hr h h')
end
end Go.Proofs.Ytpinehfjimphmaa.DI
