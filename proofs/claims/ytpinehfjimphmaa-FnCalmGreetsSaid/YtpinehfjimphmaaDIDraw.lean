/- The machine of values: regions that draw their order. -/
import Derived.Test.YtpinehfjimphmaaDILoc
namespace Go.Proofs.Ytpinehfjimphmaa.DI
open Go Go.RowKit
set_option linter.unusedVariables false
set_option linter.unusedSimpArgs false
theorem stepK_nat {R : Type} (cx : Cx) (k base : Nat) (ops : Array Oper) (o : Oper) (s : DS) (K : DS → Dl → Option R) : stepK cx k base ops o s K = (stepD cx k base ops o s).bind (K s) := by
  cases hg : o.guard with
  | none => simp only [stepK, stepD, hg]; rw [opK_nat]
  | some p =>
    obtain ⟨j, want⟩ := p
    cases ht : (ops[j]?).bind (·.dst) with
    | none => simp only [stepK, stepD, hg, ht, Option.bind_none]
    | some t =>
      simp only [stepK, stepD, hg, ht]
      cases hb : s.tm t with
      | «at» x =>
        cases x with
        | bool b =>
          cases b
          · simp only [cond_false]
            rw [putB_self hb]
            cases want
            · simp only [cond_false, if_true]; rw [opK_nat]
            · simp only [cond_true, Bool.false_eq_true, if_false, Option.bind_some]
          · simp only [cond_true]
            rw [putB_self hb]
            cases want
            · simp only [cond_false, Bool.true_eq_false, if_false, Option.bind_some]
            · simp only [cond_true, if_true]; rw [opK_nat]
        | _ => rfl
      | tup l => cases l <;> rfl
      | _ => rfl
structure Tr where
  i : Nat
  o : Oper
  d : Dl
def Tr.lg (t : Tr) : Lg := ⟨t.i, outIds t.d.w, t.d.tc⟩
/-- A run of operations, with what each does. -/
def Runs (cx : Cx) (k base : Nat) (ops : Array Oper) : List Tr → DS → DS → Prop
  | [], s, f => s = f
  | t :: r, s, f => stepD cx k base ops t.o s = some t.d ∧ Runs cx k base ops r (s.app t.o.dst t.d) f
def Meets (anc : List Nat) (g : Lg) (t : Tr) : Prop := (anc.getD t.i 0).testBit g.i = true ∨ compat g t.lg = true
theorem opsW_runs {R : Type} {cx : Cx} {k base : Nat} {ops : Array Oper} {anc : List Nat} {K : DS → Option R} {res : R} : ∀ (l : List Oper) (i : Nat) (lg : List Lg) (s : DS), opsW cx k base ops anc i lg l s K = some res →
    ∃ (T : List Tr) (f : DS), Runs cx k base ops T s f ∧ K f = some res ∧ T.map Tr.o = l ∧ T.map Tr.i = List.range' i l.length ∧ T.Pairwise (fun x y => Meets anc x.lg y) ∧ ∀ g ∈ lg, ∀ t ∈ T, Meets anc g t
  | [], i, lg, s, h => ⟨[], s, rfl, h, rfl, rfl, List.Pairwise.nil, by simp⟩
  | o :: r, i, lg, s, h => by
    simp only [opsW] at h
    rw [stepK_nat] at h
    obtain ⟨d, h1, h⟩ := Option.bind_eq_some_iff.1 h
    obtain ⟨h2, h⟩ := bif_some h
    obtain ⟨T, f, k1, k2, k3, k4, k5, k6⟩ := opsW_runs r (i + 1) _ _ h
    refine ⟨⟨i, o, d⟩ :: T, f, ⟨h1, k1⟩, k2, by simp [k3], by simp [k4, List.range'_succ], List.Pairwise.cons (fun t ht => k6 _ (by simp [Tr.lg]) t ht) k5, fun g hg t ht => ?_⟩
    rcases List.mem_cons.1 ht with rfl | ht
    · have := List.all_eq_true.1 h2 g hg
      simpa [Meets, Tr.lg] using this
    · exact k6 g (by simp [hg]) t ht
theorem updL_ne {ob : Ob} : ∀ {l : List (Nat × Obj)} {i : Nat}, i ∉ outIds l → updL ob l i = ob i
  | [], _, _ => rfl
  | p :: r, i, h => by
    simp only [outIds, List.map_cons, List.mem_cons, not_or] at h
    simp only [updL]
    rw [updL_ne (l := r) h.2, upd_ne _ _ _ _ h.1]
theorem upd_comm {α : Type} (f : Nat → α) (i j : Nat) (x y : α) (h : i ≠ j) : upd (upd f i x) j y = upd (upd f j y) i x := by
  funext n
  by_cases e1 : n = i
  · subst e1; rw [upd_ne _ _ _ _ h, upd_same, upd_same]
  · by_cases e2 : n = j
    · subst e2; rw [upd_same, upd_ne _ _ _ _ e1, upd_same]
    · rw [upd_ne _ _ _ _ e2, upd_ne _ _ _ _ e1, upd_ne _ _ _ _ e1, upd_ne _ _ _ _ e2]
theorem updL_upd {l : List (Nat × Obj)} : ∀ {ob : Ob} {i : Nat} {x : Option Obj}, i ∉ outIds l → updL (upd ob i x) l = upd (updL ob l) i x := by
  induction l with
  | nil => intro ob i x _; rfl
  | cons p r ih =>
    intro ob i x h
    simp only [outIds, List.map_cons, List.mem_cons, not_or] at h
    simp only [updL]
    rw [upd_comm _ _ _ _ _ h.1, ih h.2]
theorem updL_comm {l' : List (Nat × Obj)} : ∀ {l : List (Nat × Obj)} {ob : Ob}, (∀ i ∈ outIds l, i ∉ outIds l') → updL (updL ob l) l' = updL (updL ob l') l
  | [], _, _ => rfl
  | p :: r, ob, h => by
    simp only [updL]
    rw [updL_comm (l := r) (fun i hi => h i (by simp only [outIds, List.map_cons, List.mem_cons]; exact .inr hi)), updL_upd (h p.1 (by simp [outIds]))]
theorem apartI_spec {x y : List Nat} (h : apartI x y = true) : ∀ i ∈ x, i ∉ y := by
  intro i hi hy
  unfold apartI at h
  have : (x.any fun i => y.any (Nat.beq i)) = true := List.any_eq_true.2 ⟨i, hi, List.any_eq_true.2 ⟨i, hy, Nat.beq_refl i⟩⟩
  rw [this] at h; cases h
theorem app_tm_ne {s : DS} {dst : Option Nat} {d : Dl} {t : Nat} (h : dst ≠ some t) : (s.app dst d).tm t = s.tm t := by
  cases dst with
  | none => rfl
  | some j => exact upd_ne _ _ _ _ (fun e => h (by rw [e]))
theorem looksAt_op {ops : Array Oper} {o : Oper} {t : Nat} (h : Operand.tmp t ∈ o.op.operands) : t ∈ o.looksAt ops := by
  unfold Oper.looksAt
  exact List.mem_append_left _ (List.mem_filterMap.2 ⟨.tmp t, by simpa using h, rfl⟩)
theorem looksAt_guard {ops : Array Oper} {o : Oper} {j t : Nat} {b : Bool} (hg : o.guard = some (j, b)) (ht : (ops[j]?).bind (·.dst) = some t) : t ∈ o.looksAt ops := by
  unfold Oper.looksAt
  rw [hg]
  simp only
  rw [ht]
  simp
/-- An operation does the same where what it looks at is the same. -/
theorem stepD_local {cx : Cx} {k base : Nat} {ops : Array Oper} {o : Oper} {s s' : DS} {d : Dl} (h : stepD cx k base ops o s = some d) (hT : ∀ t ∈ o.looksAt ops, s'.tm t = s.tm t) (hO : ∀ i ∈ d.tc, s'.ob i = s.ob i) : stepD cx k base ops o s' = some d := by
  have hE : ∀ x ∈ o.op.operands, ev s' x = ev s x := fun x hx => by
    cases x with
    | tmp t => exact hT t (looksAt_op hx)
    | _ => rfl
  unfold stepD at h ⊢
  cases hg : o.guard with
  | none => rw [hg] at h; exact opK_local h hE hO
  | some p =>
    obtain ⟨j, want⟩ := p
    rw [hg] at h
    simp only at h ⊢
    cases ht : (ops[j]?).bind (·.dst) with
    | none => rw [ht] at h; cases h
    | some t =>
      rw [ht] at h
      simp only at h ⊢
      rw [hT t (looksAt_guard hg ht)]
      cases hb : s.tm t with
      | «at» x =>
        rw [hb] at h
        cases x with
        | bool b =>
          simp only at h ⊢
          by_cases hbw : b = want
          · rw [if_pos hbw] at h ⊢; exact opK_local h hE hO
          · rw [if_neg hbw] at h ⊢; exact h
        | _ => cases h
      | tup l => rw [hb] at h; cases l <;> exact h
      | _ => rw [hb] at h; cases h
theorem app_comm {s : DS} {x y : Option Nat} {d e : Dl} (h1 : ∀ i, x = some i → y ≠ some i) (h2 : ∀ i ∈ outIds d.w, i ∉ outIds e.w) : (s.app x d).app y e = (s.app y e).app x d := by
  unfold DS.app
  congr 1
  · cases x with
    | none => cases y <;> rfl
    | some i => cases y with
      | none => rfl
      | some j => exact upd_comm _ _ _ _ _ (fun e => h1 i rfl (by rw [e]))
  · exact updL_comm h2
/-- Two operations that don't meet may be carried out in either order. -/
theorem step_comm {cx : Cx} {k base : Nat} {ops : Array Oper} {x y : Tr} {s : DS} (h1 : stepD cx k base ops x.o s = some x.d) (h2 : stepD cx k base ops y.o (s.app x.o.dst x.d) = some y.d) (ha : x.o.apart ops y.o = true) (hc : compat x.lg y.lg = true) :
    stepD cx k base ops y.o s = some y.d ∧ stepD cx k base ops x.o (s.app y.o.dst y.d) = some x.d ∧ (s.app x.o.dst x.d).app y.o.dst y.d = (s.app y.o.dst y.d).app x.o.dst x.d := by
  obtain ⟨a1, a2, a3⟩ := Oper.apart_spec ha
  simp only [compat, Tr.lg, Bool.and_eq_true] at hc
  obtain ⟨c1, c2, c3⟩ := hc
  refine ⟨stepD_local h2 (fun t ht => (app_tm_ne (fun e => a1 t e ht)).symm) (fun i hi => (updL_ne (fun k => apartI_spec c1 i k hi)).symm), stepD_local h1 (fun t ht => app_tm_ne (fun e => a3 t e ht)) (fun i hi => updL_ne (fun k => apartI_spec c2 i k hi)), app_comm a2 (apartI_spec c3)⟩
def Free (anc : List Nat) (ops : Array Oper) (x y : Tr) : Prop := (anc.getD y.i 0).testBit x.i = true ∨ (compat x.lg y.lg = true ∧ x.o.apart ops y.o = true)
theorem runs_first {cx : Cx} {k base : Nat} {ops : Array Oper} (anc : List Nat) (y : Tr) : ∀ (l1 l2 : List Tr) (s f : DS), Runs cx k base ops (l1 ++ y :: l2) s f → (∀ x ∈ l1, compat x.lg y.lg = true ∧ x.o.apart ops y.o = true) →
    stepD cx k base ops y.o s = some y.d ∧ Runs cx k base ops (l1 ++ l2) (s.app y.o.dst y.d) f
  | [], l2, s, f, h, _ => h
  | x :: l1, l2, s, f, h, hc => by
    obtain ⟨h1, h2⟩ := h
    obtain ⟨h3, h4⟩ := runs_first anc y l1 l2 _ f h2 (fun z hz => hc z (by simp [hz]))
    obtain ⟨c1, c2⟩ := hc x (by simp)
    obtain ⟨k1, k2, k3⟩ := step_comm h1 h3 c2 c1
    exact ⟨k1, k2, by rw [← k3]; exact h4⟩

/-! The bits of what goes ahead. -/
theorem ancB_spec : ∀ (es : List Edge) (acc : List Nat) (j : Nat), (ancB acc es).testBit j = true → ∃ e ∈ es, Region.binds .any e = true ∧ (e.on = j ∨ (acc.getD e.on 0).testBit j = true)
  | [], acc, j, h => by simp [ancB] at h
  | e :: r, acc, j, h => by
    simp only [ancB] at h
    by_cases hb : Region.binds .any e = true
    · rw [if_pos hb, Nat.testBit_or, Nat.testBit_or, Bool.or_eq_true, Bool.or_eq_true] at h
      rcases h with (h | h) | h
      · rw [Nat.testBit_two_pow] at h
        exact ⟨e, by simp, hb, .inl (by simpa using h)⟩
      · exact ⟨e, by simp, hb, .inr h⟩
      · obtain ⟨e', h1, h2⟩ := ancB_spec r acc j h
        exact ⟨e', by simp [h1], h2⟩
    · rw [if_neg hb] at h
      obtain ⟨e', h1, h2⟩ := ancB_spec r acc j h
      exact ⟨e', by simp [h1], h2⟩
theorem ancs_prefix : ∀ (l : List Oper) (acc : List Nat), ∃ q, ancs l acc = acc ++ q
  | [], acc => ⟨[], by simp [ancs]⟩
  | o :: r, acc => by
    obtain ⟨q, hq⟩ := ancs_prefix r (acc ++ [ancB acc o.after.toList])
    exact ⟨_, by rw [ancs, hq, List.append_assoc]⟩
theorem ancs_spec : ∀ (l : List Oper) (acc : List Nat) (i : Nat) (o : Oper) (j : Nat), l[i]? = some o → ((ancs l acc).getD (acc.length + i) 0).testBit j = true →
    ∃ e ∈ o.after.toList, Region.binds .any e = true ∧ (e.on = j ∨ ((ancs l acc).getD e.on 0).testBit j = true)
  | [], _, _, _, _, h, _ => by simp at h
  | o' :: r, acc, 0, o, j, h, hb => by
    simp at h
    subst h
    obtain ⟨q, hq⟩ := ancs_prefix r (acc ++ [ancB acc o'.after.toList])
    have e0 : ancs (o' :: r) acc = acc ++ ([ancB acc o'.after.toList] ++ q) := by rw [ancs, hq, List.append_assoc]
    rw [e0] at hb ⊢
    have e1 : (acc ++ ([ancB acc o'.after.toList] ++ q)).getD (acc.length + 0) 0 = ancB acc o'.after.toList := by simp [List.getD_eq_getElem?_getD]
    rw [e1] at hb
    obtain ⟨e, h1, h2, h3⟩ := ancB_spec _ _ _ hb
    refine ⟨e, h1, h2, ?_⟩
    rcases h3 with h3 | h3
    · exact .inl h3
    · right
      have hlt : e.on < acc.length := by
        apply Classical.byContradiction
        intro hn
        rw [List.getD_eq_getElem?_getD, List.getElem?_eq_none (by omega)] at h3
        simp at h3
      rw [List.getD_eq_getElem?_getD, List.getElem?_append_left hlt, ← List.getD_eq_getElem?_getD]
      exact h3
  | o' :: r, acc, i + 1, o, j, h, hb => by
    have e0 : ancs (o' :: r) acc = ancs r (acc ++ [ancB acc o'.after.toList]) := rfl
    rw [e0] at hb ⊢
    refine ancs_spec r (acc ++ [ancB acc o'.after.toList]) i o j (by simpa using h) ?_
    have : (acc ++ [ancB acc o'.after.toList]).length + i = acc.length + (i + 1) := by simp; omega
    rw [this]; exact hb
theorem edgesOk_spec : ∀ (l : List Oper) (b i : Nat) (o : Oper), edgesOk b l = true → l[i]? = some o → ∀ e ∈ o.after.toList, Region.binds .any e = true → e.on < b + i
  | [], _, _, _, _, h => by simp at h
  | o' :: r, b, 0, o, h, ho => by
    simp at ho
    subst ho
    intro e he hb
    simp only [edgesOk, Bool.and_eq_true, List.all_eq_true] at h
    have := h.1 e he
    rw [hb] at this
    simp only [Bool.not_true, Bool.false_or] at this
    exact Nat.le_of_ble_eq_true this
  | o' :: r, b, i + 1, o, h, ho => by
    intro e he hb
    simp only [edgesOk, Bool.and_eq_true] at h
    have := edgesOk_spec r (b + 1) i o h.2 (by simpa using ho) e he hb
    omega
theorem apartL_spec {ops : Array Oper} {anc : List Nat} {i : Nat} {o : Oper} : ∀ (l : List Oper) (b m : Nat) (x : Oper), apartL ops anc i o b l = true → l[m]? = some x → (anc.getD (b + m) 0).testBit i = true ∨ o.apart ops x = true
  | [], _, _, _, _, h => by simp at h
  | x' :: r, b, 0, x, h, hx => by
    simp at hx
    subst hx
    simp only [apartL, Bool.and_eq_true, Bool.or_eq_true] at h
    exact h.1
  | x' :: r, b, m + 1, x, h, hx => by
    simp only [apartL, Bool.and_eq_true] at h
    have := apartL_spec r (b + 1) m x h.2 (by simpa using hx)
    rwa [show b + 1 + m = b + (m + 1) from by omega] at this
theorem apartsL_spec {ops : Array Oper} {anc : List Nat} : ∀ (l : List Oper) (b i m : Nat) (x y : Oper), apartsL ops anc b l = true → l[i]? = some x → l[m]? = some y → i < m → (anc.getD (b + m) 0).testBit (b + i) = true ∨ x.apart ops y = true
  | [], _, _, _, _, _, _, h, _, _ => by simp at h
  | o :: r, b, 0, m, x, y, h, hx, hy, hlt => by
    simp at hx
    subst hx
    simp only [apartsL, Bool.and_eq_true] at h
    cases m with
    | zero => omega
    | succ m =>
      have := apartL_spec r (b + 1) m y h.1 (by simpa using hy)
      rwa [show b + 1 + m = b + (m + 1) from by omega] at this
  | o :: r, b, i + 1, m, x, y, h, hx, hy, hlt => by
    simp only [apartsL, Bool.and_eq_true] at h
    cases m with
    | zero => omega
    | succ m =>
      have := apartsL_spec r (b + 1) i m x y h.2 (by simpa using hx) (by simpa using hy) (by omega)
      rwa [show b + 1 + m = b + (m + 1) from by omega, show b + 1 + i = b + (i + 1) from by omega] at this

section
variable {P : Program} {w0 : World} {X M : Nat → Prop} {kp : List Nat} {ι0 : Nat → In} {ob0 : Ob} {nt : Nat}
structure Left (ops : Array Oper) (anc : List Nat) (listed : Array Bool) (T : List Tr) : Prop where
  sz : listed.size = ops.size
  op : ∀ t ∈ T, ops[t.i]? = some t.o
  mem : ∀ i, i < ops.size → (listed.getD i true = false ↔ ∃ t ∈ T, t.i = i)
  ord : T.Pairwise (fun x y => x.i < y.i)
  free : T.Pairwise (Free anc ops)
  down : ∀ i, listed.getD i false = true → ∀ j, j < ops.size → (anc.getD i 0).testBit j = true → listed.getD j true = true
theorem mem_ready {ops : Array Oper} {listed : Array Bool} {i : Nat} : i ∈ Region.ready .any ops listed ↔ i < ops.size ∧ listed.getD i true = false ∧ ∃ o, ops[i]? = some o ∧ ∀ e ∈ o.after.toList, Region.binds .any e = true → listed.getD e.on false = true := by
  unfold Region.ready
  simp only [List.mem_filter, List.mem_range, Bool.and_eq_true, Bool.not_eq_true']
  refine and_congr_right fun hlt => and_congr_right fun _ => ?_
  have : ops[i]? = some ops[i] := Array.getElem?_eq_getElem hlt
  rw [this]
  simp only [Option.map_some, Option.getD_some, Array.all_eq_true_iff_forall_mem, Bool.or_eq_true, Bool.not_eq_true', Option.some.injEq, exists_eq_left', Array.mem_toList_iff]
  exact forall_congr' fun e => forall_congr' fun he => by cases Region.binds .any e <;> simp
theorem draws_sound {cx : Cx} (htt : TTok P cx.tt) (henv : EnvOk P cx.env) (hXM : ∀ b, X b → M b) (k base : Nat) (ops : Array Oper) (hdst : ops.all (dstOk nt) = true) (hreg : regOk ops = true) {Q : Exit → Act → World → Prop} {f : DS}
    (hQ : ∀ a w, St w0 X M kp ι0 ob0 nt f a w → Q .normal a w) : ∀ (m : Nat) (T : List Tr) (listed : Array Bool) (s : DS) (a : Act) (w : World), T.length = m → Left ops (ancs ops.toList []) listed T → Runs cx k base ops T s f → St w0 X M kp ι0 ob0 nt s a w → wpAny P .any ops Q m listed a w := by
  simp only [regOk, Bool.and_eq_true] at hreg
  obtain ⟨hr1, hr2, hr3⟩ := hreg
  have hpred : ∀ (i : Nat) (o : Oper), ops[i]? = some o → ∀ e ∈ o.after.toList, Region.binds .any e = true → e.on < i := fun i o ho e he hb => by
    have := edgesOk_spec ops.toList 0 i o hr1 (by simpa using ho) e he hb
    omega
  intro m
  induction m with
  | zero =>
    intro T listed s a w hm hL hR hs
    have hT : T = [] := List.length_eq_zero_iff.1 hm
    subst hT
    refine ⟨?_, ?_⟩
    · apply List.eq_nil_iff_forall_not_mem.2
      intro i hi
      obtain ⟨h1, h2, _⟩ := mem_ready.1 hi
      obtain ⟨t, ht, _⟩ := (hL.mem i h1).1 h2
      cases ht
    · have e : s = f := hR
      subst e
      exact hQ a w hs
  | succ m ih =>
    intro T listed s a w hm hL hR hs
    refine ⟨fun h0 => ?_, fun i hi => ?_⟩
    · exfalso
      cases T with
      | nil => cases hm
      | cons t0 T' =>
        have ho := hL.op t0 (by simp)
        have hlt : t0.i < ops.size := (Array.getElem?_eq_some_iff.1 ho).1
        have : t0.i ∈ Region.ready .any ops listed := mem_ready.2 ⟨hlt, (hL.mem _ hlt).2 ⟨t0, by simp, rfl⟩, t0.o, ho, fun e he hb => by
          have h1 := hpred _ _ ho e he hb
          have h2 : e.on < ops.size := by omega
          cases hv : listed.getD e.on true with
          | true =>
            rw [Array.getD_eq_getD_getElem?, Array.getElem?_eq_getElem (by rw [hL.sz]; exact h2)] at hv ⊢
            exact hv
          | false =>
            exfalso
            obtain ⟨t, ht, hti⟩ := (hL.mem _ h2).1 hv
            rcases List.mem_cons.1 ht with rfl | ht
            · omega
            · have := List.rel_of_pairwise_cons hL.ord ht
              omega⟩
        rw [h0] at this
        cases this
    · obtain ⟨h1, h2, o, h3, h4⟩ := mem_ready.1 hi
      obtain ⟨y, hy, rfl⟩ := (hL.mem i h1).1 h2
      have hyo := hL.op y hy
      rw [h3] at hyo
      cases hyo
      obtain ⟨l1, l2, rfl⟩ := List.append_of_mem hy
      have hnb : ∀ j, j < ops.size → ((ancs ops.toList []).getD y.i 0).testBit j = true → listed.getD j true = true := by
        intro j hj hb
        obtain ⟨e, he, hbe, h5⟩ := ancs_spec ops.toList [] y.i y.o j (by simpa using h3) (by simpa using hb)
        have hle := h4 e he hbe
        rcases h5 with h5 | h5
        · subst h5
          rw [Array.getD_eq_getD_getElem?, Array.getElem?_eq_getElem (by rw [hL.sz]; exact hj)] at hle ⊢
          exact hle
        · exact hL.down e.on hle j hj h5
      have hcl : ∀ x ∈ l1, compat x.lg y.lg = true ∧ x.o.apart ops y.o = true := by
        intro x hx
        have hf := (List.pairwise_append.1 hL.free).2.2 x hx y (by simp)
        rcases hf with hf | hf
        · exfalso
          have hxo := hL.op x (by simp [hx])
          have hxl : x.i < ops.size := (Array.getElem?_eq_some_iff.1 hxo).1
          have h6 := (hL.mem x.i hxl).2 ⟨x, by simp [hx], rfl⟩
          rw [hnb x.i hxl hf] at h6
          cases h6
        · exact hf
      obtain ⟨q1, q2⟩ := runs_first (ancs ops.toList []) y l1 l2 s f hR hcl
      have hsub : (l1 ++ l2).Sublist (l1 ++ y :: l2) := List.Sublist.append (List.Sublist.refl _) (List.sublist_cons_self _ _)
      have hL' : Left ops (ancs ops.toList []) (listed.setIfInBounds y.i true) (l1 ++ l2) := by
        have hne : ∀ t ∈ l1 ++ l2, t.i ≠ y.i := by
          intro t ht
          rcases List.mem_append.1 ht with ht | ht
          · have := (List.pairwise_append.1 hL.ord).2.2 t ht y (by simp); omega
          · have := List.rel_of_pairwise_cons (List.pairwise_append.1 hL.ord).2.1 ht; omega
        refine ⟨by simp [hL.sz], fun t ht => hL.op t (hsub.subset ht), fun i hi => ?_, hL.ord.sublist hsub, hL.free.sublist hsub, fun i hi j hj hb => ?_⟩
        · by_cases e : i = y.i
          · subst e
            have : (listed.setIfInBounds y.i true).getD y.i true = true := by simp [Array.getD_eq_getD_getElem?, hL.sz, hi]
            rw [this]
            exact ⟨fun h => (by cases h), fun ⟨t, ht, he⟩ => (hne t ht he).elim⟩
          · have : (listed.setIfInBounds y.i true).getD i true = listed.getD i true := by simp [Array.getD_eq_getD_getElem?, Array.getElem?_setIfInBounds_ne (Ne.symm e)]
            rw [this, hL.mem i hi]
            refine ⟨fun ⟨t, ht, he⟩ => ⟨t, ?_, he⟩, fun ⟨t, ht, he⟩ => ⟨t, hsub.subset ht, he⟩⟩
            rcases List.mem_append.1 ht with ht | ht
            · exact List.mem_append_left _ ht
            · rcases List.mem_cons.1 ht with rfl | ht
              · exact (e he.symm).elim
              · exact List.mem_append_right _ ht
        · have key : listed.getD j true = true → (listed.setIfInBounds y.i true).getD j true = true := fun h => by
            by_cases e : j = y.i
            · subst e; simp [Array.getD_eq_getD_getElem?, hL.sz, hj]
            · simpa [Array.getD_eq_getD_getElem?, Array.getElem?_setIfInBounds_ne (Ne.symm e)] using h
          by_cases e : i = y.i
          · subst e; exact key (hnb j hj hb)
          · have : (listed.setIfInBounds y.i true).getD i false = listed.getD i false := by simp [Array.getD_eq_getD_getElem?, Array.getElem?_setIfInBounds_ne (Ne.symm e)]
            rw [this] at hi
            exact key (hL.down i hi j hj hb)
      unfold wpOp
      rw [h3]
      exact step_sound htt henv hXM k base ops hdst y.o ((Array.all_eq_true_iff_forall_mem.1 hdst) y.o (Array.mem_of_getElem? h3)) hs y.d q1 (fun a' w' h' => ih (l1 ++ l2) _ _ a' w' (by simp at hm ⊢; omega) hL' q2 h')
/-- A region that draws its order. -/
theorem drawn_sound {cx : Cx} (htt : TTok P cx.tt) (henv : EnvOk P cx.env) (hXM : ∀ b, X b → M b) {R : Type} (k base : Nat) (ops : Array Oper) (hdst : ops.all (dstOk nt) = true) (hreg : regOk ops = true) {Q : Exit → Act → World → Prop} (K : DS → Option R) (res : R)
    (hQ : ∀ s a w, K s = some res → St w0 X M kp ι0 ob0 nt s a w → Q .normal a w) (s : DS) (a : Act) (w : World) (h : opsW cx k base ops (ancs ops.toList []) 0 [] ops.toList s K = some res) (hs : St w0 X M kp ι0 ob0 nt s a w) :
    wpAny P .any ops Q ops.size (Array.replicate ops.size false) a w := by
  obtain ⟨T, f, k1, k2, k3, k4, k5, k6⟩ := opsW_runs _ _ _ _ h
  have hlen : T.length = ops.size := by have := congrArg List.length k3; simpa using this
  have hTi : ∀ (n : Nat) (t : Tr), T[n]? = some t → t.i = n ∧ ops[n]? = some t.o := by
    intro n t ht
    have h1 : (T.map Tr.i)[n]? = some t.i := by simp [ht]
    have h2 : (T.map Tr.o)[n]? = some t.o := by simp [ht]
    rw [k4] at h1
    rw [k3] at h2
    have hn : n < T.length := (List.getElem?_eq_some_iff.1 ht).1
    rw [List.getElem?_range' (by simpa [hlen] using hn)] at h1
    refine ⟨by simp at h1; omega, by simpa using h2⟩
  have hreg' := hreg
  simp only [regOk, Bool.and_eq_true] at hreg'
  refine draws_sound htt henv hXM k base ops hdst hreg (f := f) (fun a w h => hQ f a w k2 h) ops.size T _ s a w hlen ⟨by simp, fun t ht => ?_, fun i hi => ?_, ?_, ?_, fun i hi => ?_⟩ k1 hs
  · obtain ⟨n, hn⟩ := List.mem_iff_getElem?.1 ht
    obtain ⟨h1, h2⟩ := hTi n t hn
    rw [h1]; exact h2
  · refine ⟨fun _ => ?_, fun _ => by simp [Array.getD_eq_getD_getElem?, hi]⟩
    have hn : i < T.length := by omega
    exact ⟨T[i], List.getElem_mem hn, (hTi i _ (List.getElem?_eq_getElem hn)).1⟩
  · rw [List.pairwise_iff_getElem]
    intro i j hi hj hlt
    rw [(hTi i _ (List.getElem?_eq_getElem hi)).1, (hTi j _ (List.getElem?_eq_getElem hj)).1]
    exact hlt
  · rw [List.pairwise_iff_getElem] at k5 ⊢
    intro i j hi hj hlt
    have e1 := hTi i _ (List.getElem?_eq_getElem hi)
    have e2 := hTi j _ (List.getElem?_eq_getElem hj)
    have hm := k5 i j hi hj hlt
    rcases hm with hm | hm
    · exact .inl (by simpa [Tr.lg] using hm)
    · have := apartsL_spec ops.toList 0 i j _ _ hreg'.2.1 (by simpa using e1.2) (by simpa using e2.2) hlt
      rcases this with h | h
      · left
        rw [e1.1, e2.1]
        simpa using h
      · exact .inr ⟨hm, h⟩
  · rw [Array.getD_eq_getD_getElem?, Array.getElem?_replicate] at hi
    split at hi <;> simp at hi
end
end Go.Proofs.Ytpinehfjimphmaa.DI
