/- FnExactSlotsOk: the pure statement, proved: for every input of the law its printed function answers true. No condition. -/
import Derived.Test.YtfaeklomiofpdaaGoalFnExactSlotsOk
namespace Go.Proofs.Ytfaeklomiofpdaa.Pure
open Go.RowKit Go.Proofs.Ytfaeklomiofpdaa.PFnExactSlotsOk Go.Proofs.YtfaeklomiofpdaaW.PrintWords Go.Proofs.YtfaeklomiofpdaaW.PrintLast Go.Proofs.YtfaeklomiofpdaaW.PrintMore
set_option linter.unusedVariables false
set_option linter.unusedSimpArgs false
theorem w64 {x : Int} (h0 : -9223372036854775808 ≤ x) (h1 : x ≤ 9223372036854775807) : wrap64 x = x := by unfold wrap64; omega
theorem wsucc {i n : Nat} (h : i < n) (hn : n ≤ 9223372036854775807) : wrap64 ((i : Int) + 1) = ((i + 1 : Nat) : Int) := by unfold wrap64; omega
theorem wf64 {x : Int} (h : (Lit.int .i64 x).wf = true) : -9223372036854775808 ≤ x ∧ x ≤ 9223372036854775807 := by
  have h' : IntKind.i64.min ≤ x ∧ x ≤ IntKind.i64.max := by simpa [Lit.wf] using h
  exact h'
/-- From some number of rounds on it answers, and what it answers is so. -/
def Tells {α : Type} (g : Nat → Option α) (P : α → Prop) : Prop := ∃ r, P r ∧ Ev g r
theorem Tells.ev {α : Type} {g : Nat → Option α} {r : α} (h : Tells g (· = r)) : Ev g r := by
  obtain ⟨x, rfl, h⟩ := h
  exact h
theorem Tells.of {α : Type} {g : Nat → Option α} {r : α} (h : Ev g r) : Tells g (· = r) := ⟨r, rfl, h⟩
theorem Tells.rounds {α : Type} {g : Nat → Option α} {r : α} (h : Tells g (· = r)) : ∃ k, g k = some r := h.ev.rounds
theorem Tells.now {α : Type} {g : Option α} {r : α} (h : Tells (fun _ => g) (· = r)) : g = some r := by
  obtain ⟨K, h⟩ := h.ev
  exact h K (Nat.le_refl _)
theorem Tells.mono {α : Type} {g : Nat → Option α} {P Q : α → Prop} (h : Tells g P) (k : ∀ x, P x → Q x) : Tells g Q := by
  obtain ⟨x, hp, h⟩ := h
  exact ⟨x, k x hp, h⟩
theorem T_ret {α : Type} {P : α → Prop} {r : α} (h : P r) : Tells (fun _ => some r) P := ⟨r, h, Ev.now r⟩
theorem T_ite {α : Type} {c : Prop} {d : Decidable c} {f g : Nat → Option α} {P : α → Prop} (h1 : c → Tells f P) (h2 : ¬ c → Tells g P) : Tells (fun k => @ite _ c d (f k) (g k)) P := by
  by_cases h : c
  · obtain ⟨r, hp, he⟩ := h1 h
    exact ⟨r, hp, Ev.congr (fun k => if_pos h) he⟩
  · obtain ⟨r, hp, he⟩ := h2 h
    exact ⟨r, hp, Ev.congr (fun k => if_neg h) he⟩
theorem T_pos {α : Type} {c : Prop} {d : Decidable c} {f g : Nat → Option α} {P : α → Prop} (h : c) (hf : Tells f P) : Tells (fun k => @ite _ c d (f k) (g k)) P := T_ite (fun _ => hf) (fun h' => absurd h h')
theorem T_neg {α : Type} {c : Prop} {d : Decidable c} {f g : Nat → Option α} {P : α → Prop} (h : ¬ c) (hg : Tells g P) : Tells (fun k => @ite _ c d (f k) (g k)) P := T_ite (fun h' => absurd h' h) (fun _ => hg)
theorem T_bind {α β : Type} {g : Nat → Option α} {f : Nat → α → Option β} {Q : α → Prop} {P : β → Prop} (h : Tells g Q) (k : ∀ x, Q x → Tells (fun n => f n x) P) : Tells (fun n => (g n).bind (f n)) P := by
  obtain ⟨x, hq, he⟩ := h
  obtain ⟨r, hp, he'⟩ := k x hq
  exact ⟨r, hp, Ev.bind he he'⟩
theorem T_step {α : Type} {g : Nat → Option α} {P : α → Prop} (h : Tells (fun k => g (k + 1)) P) : Tells g P := by
  obtain ⟨r, hp, he⟩ := h
  exact ⟨r, hp, Ev.step (fun _ => rfl) he⟩
theorem T_eq {α : Type} {g f : Nat → Option α} {P : α → Prop} (h : ∀ k, g k = f k) (hf : Tells f P) : Tells g P := by
  obtain ⟨r, hp, he⟩ := hf
  exact ⟨r, hp, Ev.congr h he⟩
theorem T_some {α : Type} {g : Nat → Option α} {P : α → Prop} {r : α} (h : ∀ k, g k = some r) (hp : P r) : Tells g P := T_eq h (T_ret hp)
theorem T_unique {α : Type} {g : Nat → Option α} {P : α → Prop} {r : α} (h : Tells g P) (h' : Tells g (· = r)) : P r := by
  obtain ⟨x, hp, K, h⟩ := h
  obtain ⟨K', h'⟩ := h'.ev
  have a := h (max K K') (by omega)
  have b := h' (max K K') (by omega)
  rw [a] at b
  exact Option.some.inj b ▸ hp
/-- A loop with a counter, from the last round back. -/
theorem T_loop {ρ : Type} (g : Nat → Nat → Option ρ) (n : Nat) (P : Nat → ρ → Prop)
    (step : ∀ i, i < n → Tells (fun k => g k (i + 1)) (P (i + 1)) → Tells (fun k => g (k + 1) i) (P i)) (fin : Tells (fun k => g (k + 1) n) (P n)) : ∀ i, i ≤ n → Tells (fun k => g k i) (P i) := by
  have key : ∀ d i, i + d = n → Tells (fun k => g k i) (P i) := by
    intro d
    induction d with
    | zero =>
      intro i hi
      obtain rfl : i = n := by omega
      exact T_step fin
    | succ d ih =>
      intro i hi
      exact T_step (step i (by omega) (ih (i + 1) (by omega)))
  exact fun i hi => key (n - i) i (by omega)
/-- A loop whose answer does not hang on the round. -/
theorem T_loop' {ρ : Type} (g : Nat → Nat → Option ρ) (n : Nat) (P : ρ → Prop)
    (step : ∀ i, i < n → Tells (fun k => g k (i + 1)) P → Tells (fun k => g (k + 1) i) P) (fin : Tells (fun k => g (k + 1) n) P) : Tells (fun k => g k 0) P :=
  T_loop g n (fun _ => P) step fin 0 (Nat.zero_le _)
/-- What holds of all from a round on. -/
def From (C : Nat → Prop) (n i : Nat) : Prop := ∀ j, i ≤ j → j < n → C j
theorem From.cons {C : Nat → Prop} {n i : Nat} (h : C i) : From C n (i + 1) ↔ From C n i := by
  refine ⟨fun k j a b => ?_, fun k j a b => k j (by omega) b⟩
  by_cases e : j = i
  · exact e ▸ h
  · exact k j (by omega) b
theorem From.none {C : Nat → Prop} {n i : Nat} (hi : i < n) (h : ¬ C i) : ¬ From C n i := fun k => h (k i (Nat.le_refl _) hi)
theorem From.last (C : Nat → Prop) (n : Nat) : From C n n := fun j a b => absurd b (by omega)
theorem set_copy_map {α β : Type} (l : List α) (f : α → β) (z : β) (i : Nat) (h : i < l.length) (x : β) (hx : x = f l[i]) : ((l.take i).map f ++ List.replicate (l.length - i) z).set i x = (l.take (i + 1)).map f ++ List.replicate (l.length - (i + 1)) z := by
  subst hx
  have e : l.length - i = (l.length - (i + 1)) + 1 := by omega
  have hl : ((l.take i).map f).length = i := by rw [List.length_map, List.length_take]; omega
  rw [e, List.replicate_succ, List.set_append_right _ _ (by omega), hl, Nat.sub_self, List.set_cons_zero, List.take_succ_eq_append_getElem h, List.map_append]
  simp only [List.map_cons, List.map_nil, List.append_assoc, List.singleton_append]
theorem set_copy {α : Type} (l : List α) (z : α) (i : Nat) (h : i < l.length) (x : α) (hx : x = l[i]) : (l.take i ++ List.replicate (l.length - i) z).set i x = l.take (i + 1) ++ List.replicate (l.length - (i + 1)) z := by
  have := set_copy_map l id z i h x hx
  rw [List.map_id, List.map_id] at this
  exact this
theorem rd_nat (xs : List Int) (i : Nat) (h : i < xs.length) : rd xs (i : Int) = xs[i] := by simp [rd, List.getD_eq_getElem?_getD, h]
theorem rdOf_nat {α : Type} (d : α) (xs : List α) (i : Nat) (h : i < xs.length) : rdOf d xs (i : Int) = xs[i] := by simp [rdOf, List.getD_eq_getElem?_getD, h]
/-- a where c is so, else b. -/
def Either {ρ : Type} (c : Prop) (a b r : ρ) : Prop := (c ∧ r = a) ∨ (¬ c ∧ r = b)
theorem Either.same {ρ : Type} {c c' : Prop} {a b r s : ρ} (h : Either c a b r) (h' : Either c' a b s) (e : c ↔ c') : r = s := by
  rcases h with ⟨h, rfl⟩ | ⟨h, rfl⟩ <;> rcases h' with ⟨h', rfl⟩ | ⟨h', rfl⟩
  · rfl
  · exact absurd (e.1 h) h'
  · exact absurd (e.2 h') h
  · rfl
/-- A loop that checks each place. -/
theorem T_all {ρ : Type} (g : Nat → Nat → Option ρ) (n : Nat) (C : Nat → Prop) (bad fin : ρ)
    (step : ∀ i, i < n → C i → ∀ P : ρ → Prop, Tells (fun k => g k (i + 1)) P → Tells (fun k => g (k + 1) i) P) (out : ∀ i, i < n → ¬ C i → Tells (fun k => g (k + 1) i) (· = bad)) (hf : Tells (fun k => g (k + 1) n) (· = fin)) :
    Tells (fun k => g k 0) (Either (From C n 0) fin bad) := by
  refine T_loop g n (fun i => Either (From C n i) fin bad) (fun i hi he => ?_) (hf.mono fun r hr => .inl ⟨From.last C n, hr⟩) 0 (Nat.zero_le _)
  by_cases hc : C i
  · refine (step i hi hc _ he).mono fun r hr => ?_
    unfold Either at hr ⊢
    rw [From.cons hc] at hr
    exact hr
  · exact (out i hi hc).mono fun r hr => .inr ⟨From.none hi hc, hr⟩
/-- A loop that looks for the first place. -/
theorem T_find {ρ : Type} (g : Nat → Nat → Option ρ) (n : Nat) (C : Nat → Prop) (got : Nat → ρ) (fin : ρ)
    (step : ∀ i, i < n → ¬ C i → ∀ P : ρ → Prop, Tells (fun k => g k (i + 1)) P → Tells (fun k => g (k + 1) i) P) (out : ∀ i, i < n → C i → Tells (fun k => g (k + 1) i) (· = got i)) (hf : Tells (fun k => g (k + 1) n) (· = fin)) :
    Tells (fun k => g k 0) (fun r => (∃ j, j < n ∧ C j ∧ (∀ m, m < j → ¬ C m) ∧ r = got j) ∨ ((∀ j, j < n → ¬ C j) ∧ r = fin)) := by
  refine (T_loop g n (fun i r => (∃ j, i ≤ j ∧ j < n ∧ C j ∧ (∀ m, i ≤ m → m < j → ¬ C m) ∧ r = got j) ∨ ((∀ j, i ≤ j → j < n → ¬ C j) ∧ r = fin)) (fun i hi he => ?_)
    (hf.mono fun r hr => .inr ⟨fun j a b => absurd b (by omega), hr⟩) 0 (Nat.zero_le _)).mono fun r hr => ?_
  · by_cases hc : C i
    · exact (out i hi hc).mono fun r hr => .inl ⟨i, Nat.le_refl _, hi, hc, fun m a b => absurd b (by omega), hr⟩
    · refine (step i hi hc _ he).mono fun r hr => ?_
      rcases hr with ⟨j, a, b, c, d, e⟩ | ⟨a, b⟩
      · refine .inl ⟨j, by omega, b, c, fun m h1 h2 => ?_, e⟩
        by_cases hm : m = i
        · exact hm ▸ hc
        · exact d m (by omega) h2
      · refine .inr ⟨fun j h1 h2 => ?_, b⟩
        by_cases hm : j = i
        · exact hm ▸ hc
        · exact a j (by omega) h2
  · rcases hr with ⟨j, _, b, c, d, e⟩ | ⟨a, b⟩
    · exact .inl ⟨j, b, c, fun m hm => d m (Nat.zero_le _) hm, e⟩
    · exact .inr ⟨fun j hj => a j (Nat.zero_le _) hj, b⟩
theorem ba_ext {a b : ByteArray} (h : a.toList = b.toList) : a = b := by
  rw [ByteArray.toList_eq, ByteArray.toList_eq] at h
  cases a; cases b
  simpa using h
/-- The same of a test. -/
theorem T_allb (g : Nat → Nat → Option Bool) (n : Nat) (C : Nat → Prop) (F : Prop)
    (step : ∀ i, i < n → C i → ∀ P : Bool → Prop, Tells (fun k => g k (i + 1)) P → Tells (fun k => g (k + 1) i) P) (out : ∀ i, i < n → ¬ C i → Tells (fun k => g (k + 1) i) (· = false)) (hf : Tells (fun k => g (k + 1) n) (fun r => r = true ↔ F)) :
    Tells (fun k => g k 0) (fun r => r = true ↔ (∀ j, j < n → C j) ∧ F) := by
  refine (T_loop g n (fun i r => r = true ↔ From C n i ∧ F) (fun i hi he => ?_) (hf.mono fun r hr => hr.trans ⟨fun h => ⟨From.last C n, h⟩, fun h => h.2⟩) 0 (Nat.zero_le _)).mono fun r hr => by
      rw [hr]
      exact ⟨fun h => ⟨fun j hj => h.1 j (Nat.zero_le _) hj, h.2⟩, fun h => ⟨fun j _ hj => h.1 j hj, h.2⟩⟩
  by_cases hc : C i
  · refine (step i hi hc _ he).mono fun r hr => ?_
    rw [hr, From.cons hc]
  · exact (out i hi hc).mono fun r hr => by
      rw [hr]
      exact ⟨fun h => absurd h Bool.false_ne_true, fun h => absurd h.1 (From.none hi hc)⟩
theorem same_bool {c : Prop} {r s : Bool} (h : r = true ↔ c) (k : s = true ↔ c) : s = r := Bool.eq_iff_iff.2 (k.trans h.symm)
theorem mem_drop_iff {α : Type} {l : List α} {i : Nat} (h : i < l.length) (a : α) : a ∈ l.drop i ↔ a = l[i] ∨ a ∈ l.drop (i + 1) := by
  rw [List.drop_eq_getElem_cons h, List.mem_cons]
theorem drop_eq_iff {α : Type} {a b : List α} {i : Nat} (ha : i < a.length) (hb : i < b.length) : a.drop i = b.drop i ↔ a[i] = b[i] ∧ a.drop (i + 1) = b.drop (i + 1) := by
  rw [List.drop_eq_getElem_cons ha, List.drop_eq_getElem_cons hb, List.cons.injEq]
/-- A loop with a counter and a state. -/
theorem T_loops {ρ σ : Type} (g : Nat → σ → Nat → Option ρ) (n : Nat) (Inv : Nat → σ → Prop) (P : Nat → σ → ρ → Prop)
    (step : ∀ i s, i < n → Inv i s → (∀ s', Inv (i + 1) s' → Tells (fun k => g k s' (i + 1)) (P (i + 1) s')) → Tells (fun k => g (k + 1) s i) (P i s))
    (fin : ∀ s, Inv n s → Tells (fun k => g (k + 1) s n) (P n s)) : ∀ i s, i ≤ n → Inv i s → Tells (fun k => g k s i) (P i s) := by
  have key : ∀ d i s, i + d = n → Inv i s → Tells (fun k => g k s i) (P i s) := by
    intro d
    induction d with
    | zero =>
      intro i s hi hs
      obtain rfl : i = n := by omega
      exact T_step (fin s hs)
    | succ d ih =>
      intro i s hi hs
      exact T_step (step i s (by omega) hs (fun s' hs' => ih (i + 1) s' (by omega) hs'))
  exact fun i s hi hs => key (n - i) i s (by omega) hs
def FindP {ρ : Type} (n : Nat) (C : Nat → Prop) (got : Nat → ρ) (fin : ρ) (r : ρ) : Prop := (∃ j, j < n ∧ C j ∧ (∀ m, m < j → ¬ C m) ∧ r = got j) ∨ ((∀ j, j < n → ¬ C j) ∧ r = fin)
theorem FindP.same {ρ : Type} {n : Nat} {C : Nat → Prop} {got : Nat → ρ} {fin r s : ρ} (h : FindP n C got fin r) (k : FindP n C got fin s) : s = r := by
  rcases h with ⟨j, a, b, c, rfl⟩ | ⟨a, rfl⟩ <;> rcases k with ⟨j', a', b', c', rfl⟩ | ⟨a', rfl⟩
  · rcases Nat.lt_trichotomy j j' with h | h | h
    · exact absurd b (c' _ h)
    · rw [h]
    · exact absurd b' (c _ h)
  · exact absurd b (a' j a)
  · exact absurd b' (a j' a')
  · rfl
theorem ba_append_nil (b : ByteArray) : b ++ (⟨#[]⟩ : ByteArray) = b := by
  apply ByteArray.ext
  simp
theorem ba_nil_append (b : ByteArray) : (⟨#[]⟩ : ByteArray) ++ b = b := by
  apply ByteArray.ext
  simp
def SeenC (l : List Int) (j : Nat) : Prop := (1 ≤ rd l j ∧ rd l j ≤ 1000000000) ∧ (0 < j → ¬ rd l ((j : Int) - 1) ≤ rd l j) ∧ ¬ rd l j ≤ wrap64 (rd l 0 - 6)
def SeenP (l : List Int) : Prop := (∀ j, j < l.length → SeenC l j) ∧ l.length ≤ 6
def NoSlot (e : Int) (snd opn : ByteArray) (c : Int) (seen : List Int) (u : Int) : Prop := e = 0 ∧ snd.toList = [] ∧ opn.toList = [] ∧ c = 0 ∧ seen.length = 0 ∧ u = 0
def SlotP (e : Int) (snd opn : ByteArray) (c : Int) (seen : List Int) (u : Int) : Prop :=
  NoSlot e snd opn c seen u ∨ ((1 ≤ e ∧ e ≤ 1000000000) ∧ snd.size = 32 ∧ opn.size = 32 ∧ (0 ≤ c ∧ c ≤ 12) ∧ SeenP seen ∧ (0 ≤ u ∧ u ≤ 1000000000))
def SlotsP (e : Int) (snd opn : ByteArray) (c : Int) (seen : List Int) (u : Int) (e' : Int) (snd' opn' : ByteArray) (c' : Int) (seen' : List Int) (u' : Int) : Prop :=
  SlotP e snd opn c seen u ∧ SlotP e' snd' opn' c' seen' u' ∧ (e' = 0 ∨ e' < e)

/-! laws_szIntS -/
theorem laws_szIntS.ev (l : List Int) (a : Int) (h0 : 0 ≤ a) (h1 : a ≤ 1048576) (hl : l.length ≤ maxLen) : Tells (fun _ => laws_szIntS.f l a) (fun v => v = -1 ∨ (0 ≤ v ∧ v ≤ a ∧ v + l.length ≤ a)) := by
  unfold maxLen at hl
  unfold laws_szIntS.f
  rw [w64 (x := a - (l.length : Int)) (by omega) (by omega)]
  exact T_ite (fun _ => T_ret (.inl rfl)) (fun _ => T_ret (.inr ⟨by omega, by omega, by omega⟩))

/-! laws_szSlot -/
theorem laws_szSlot.ev (x0 : Int) (x1 : ByteArray) (x2 : ByteArray) (x3 : Int) (x4 : List (Int)) (x5 : Int) (a : Int) (h0 : 0 ≤ a) (h1 : a ≤ 1048576) (hx1 : x1.size ≤ 140737488351232) (hx2 : x2.size ≤ 140737488351232) (hx4 : x4.length ≤ maxLen) : Tells (fun k => laws_szSlot.f x0 x1 x2 x3 x4 x5 a) (fun v => v = -1 ∨ (0 ≤ v ∧ v ≤ a ∧ v + x1.size ≤ a ∧ v + x2.size ≤ a ∧ v + x4.length ≤ a)) := by
  unfold laws_szSlot.f
  rw [w64 (x := a - (x1.size : Int)) (by omega) (by omega)]
  refine T_ite (fun _ => T_ret (.inl rfl)) (fun g0 => ?_)
  rw [w64 (x := (a - (x1.size : Int)) - (x2.size : Int)) (by omega) (by omega)]
  refine T_ite (fun _ => T_ret (.inl rfl)) (fun g1 => ?_)
  refine T_bind (laws_szIntS.ev x4 ((a - (x1.size : Int)) - (x2.size : Int)) (by omega) (by omega) hx4) fun v2 w2 => T_ite (fun _ => T_ret (.inl rfl)) (fun g2 => ?_)
  obtain ⟨p2_0, p2_1, p2_2⟩ := w2.resolve_left (by omega)
  exact T_ret (.inr ⟨by omega, by omega, by omega, by omega, by omega⟩)

/-! laws_szSlots -/
theorem laws_szSlots.ev (x0 : Int) (x1 : ByteArray) (x2 : ByteArray) (x3 : Int) (x4 : List (Int)) (x5 : Int) (x6 : Int) (x7 : ByteArray) (x8 : ByteArray) (x9 : Int) (x10 : List (Int)) (x11 : Int) (a : Int) (h0 : 0 ≤ a) (h1 : a ≤ 1048576) (hx1 : x1.size ≤ 140737488351232) (hx2 : x2.size ≤ 140737488351232) (hx4 : x4.length ≤ maxLen) (hx7 : x7.size ≤ 140737488351232) (hx8 : x8.size ≤ 140737488351232) (hx10 : x10.length ≤ maxLen) : Tells (fun k => laws_szSlots.f x0 x1 x2 x3 x4 x5 x6 x7 x8 x9 x10 x11 a) (fun v => v = -1 ∨ (0 ≤ v ∧ v ≤ a ∧ v + x1.size ≤ a ∧ v + x2.size ≤ a ∧ v + x4.length ≤ a ∧ v + x7.size ≤ a ∧ v + x8.size ≤ a ∧ v + x10.length ≤ a)) := by
  unfold laws_szSlots.f
  refine T_bind (laws_szSlot.ev x0 x1 x2 x3 x4 x5 a (by omega) (by omega) hx1 hx2 hx4) fun v0 w0 => T_ite (fun _ => T_ret (.inl rfl)) (fun g0 => ?_)
  obtain ⟨p0_0, p0_1, p0_2, p0_3, p0_4⟩ := w0.resolve_left (by omega)
  refine T_bind (laws_szSlot.ev x6 x7 x8 x9 x10 x11 v0 (by omega) (by omega) hx7 hx8 hx10) fun v1 w1 => T_ite (fun _ => T_ret (.inl rfl)) (fun g1 => ?_)
  obtain ⟨p1_0, p1_1, p1_2, p1_3, p1_4⟩ := w1.resolve_left (by omega)
  exact T_ret (.inr ⟨by omega, by omega, by omega, by omega, by omega, by omega, by omega, by omega⟩)

/-! spec_l01In -/
theorem spec_l01In.eq (a b c : Int) : spec_l01In.f a b c = some (decide (b ≤ a ∧ a ≤ c)) := by
  unfold spec_l01In.f
  by_cases h : b ≤ a <;> simp [h]

/-! spec_l17None -/
theorem spec_l17None.ev (e : Int) (snd opn : ByteArray) (c : Int) (seen : List Int) (u : Int) : Tells (fun _ => spec_l17None.f e snd opn c seen u) (fun r => r = true ↔ NoSlot e snd opn c seen u) := by
  unfold spec_l17None.f NoSlot
  refine T_ite (fun h1 => T_ite (fun h2 => T_ite (fun h3 => T_ite (fun h4 => T_ite (fun h5 => T_ret ?_) (fun h => T_ret ?_)) (fun h => T_ret ?_)) (fun h => T_ret ?_)) (fun h => T_ret ?_)) (fun h => T_ret ?_)
  · have h5' : seen.length = 0 := by omega
    simp [h1, h2, h3, h4, h5']
  · simp only [Bool.false_eq_true, false_iff, not_and]
    intro _ _ _ _ h'
    omega
  all_goals simp [h]

/-! spec_SeenOk -/
theorem spec_SeenOk.ev (l : List Int) (hn : l.length ≤ 1048576) : Tells (fun k => spec_SeenOk.f k l) (fun r => r = true ↔ SeenP l) := by
  refine T_allb (fun k i => spec_SeenOk.l0 k l (i : Int)) l.length (SeenC l) _ (fun i hi hc P he => ?_) (fun i hi hc => ?_) ?_
  · obtain ⟨h1, h2, h3⟩ := hc
    simp only [spec_SeenOk.l0, spec_l01In.eq, Option.bind_some]
    rw [wsucc hi (by omega)]
    refine T_pos (by omega) (T_pos (by omega) (T_pos (by simpa using h1) ?_))
    rcases Nat.eq_zero_or_pos i with h0 | h0
    · exact T_neg (by omega) (T_pos (by omega) (T_neg h3 he))
    · rw [w64 (x := (i : Int) - 1) (by omega) (by omega)]
      exact T_pos (by omega) (T_pos (by omega) (T_pos (by omega) (T_neg (h2 h0) (T_pos (by omega) (T_neg h3 he)))))
  · simp only [spec_SeenOk.l0, spec_l01In.eq, Option.bind_some]
    rw [wsucc hi (by omega)]
    refine T_pos (by omega) (T_pos (by omega) (T_ite (fun h1 => ?_) (fun _ => T_ret rfl)))
    rcases Nat.eq_zero_or_pos i with h0 | h0
    · refine T_neg (by omega) (T_pos (by omega) (T_ite (fun _ => T_ret rfl) (fun h3 => absurd ⟨by simpa using h1, fun h => by omega, h3⟩ hc)))
    · rw [w64 (x := (i : Int) - 1) (by omega) (by omega)]
      exact T_pos (by omega) (T_pos (by omega) (T_pos (by omega) (T_ite (fun _ => T_ret rfl) (fun h2 => T_pos (by omega) (T_ite (fun _ => T_ret rfl) (fun h3 => absurd ⟨by simpa using h1, fun _ => h2, h3⟩ hc))))))
  · simp only [spec_SeenOk.l0]
    exact T_neg (by omega) (T_ret (by simp; omega))

/-! spec_SlotOk -/
theorem spec_SlotOk.ev (e : Int) (snd opn : ByteArray) (c : Int) (seen : List Int) (u : Int) (hn : seen.length ≤ 1048576) : Tells (fun k => spec_SlotOk.f k e snd opn c seen u) (fun r => r = true ↔ SlotP e snd opn c seen u) := by
  unfold spec_SlotOk.f SlotP
  refine T_bind (spec_l17None.ev e snd opn c seen u) fun r hr => T_ite (fun h => T_ret (by simp [hr.1 h])) (fun h => ?_)
  have hno : ¬ NoSlot e snd opn c seen u := fun k => h (hr.2 k)
  simp only [spec_l01In.eq, Option.bind_some, decide_eq_true_eq]
  refine T_ite (fun h1 => T_ite (fun h2 => T_ite (fun h3 => T_ite (fun h4 => ?_) (fun h => T_ret ?_)) (fun h => T_ret ?_)) (fun h => T_ret ?_)) (fun h => T_ret ?_)
  · have h2' : snd.size = 32 := by omega
    have h3' : opn.size = 32 := by omega
    refine T_bind (spec_SeenOk.ev seen hn) fun q hq => T_ite (fun h5 => T_ret ?_) (fun h5 => T_ret ?_)
    · simp [hno, h1, h2', h3', h4, hq.1 h5]
    · have h5' : ¬ SeenP seen := fun k => h5 (hq.2 k)
      simp [hno, h5']
  · simp [hno, h]
  · have h' : ¬ opn.size = 32 := by omega
    simp [hno, h']
  · have h' : ¬ snd.size = 32 := by omega
    simp [hno, h']
  · simp [hno, h]

/-! spec_SlotsOk -/
theorem spec_SlotsOk.ev (e : Int) (snd opn : ByteArray) (c : Int) (seen : List Int) (u : Int) (e' : Int) (snd' opn' : ByteArray) (c' : Int) (seen' : List Int) (u' : Int) (hn : seen.length ≤ 1048576) (hn' : seen'.length ≤ 1048576) :
    Tells (fun k => spec_SlotsOk.f k e snd opn c seen u e' snd' opn' c' seen' u') (fun r => r = true ↔ SlotsP e snd opn c seen u e' snd' opn' c' seen' u') := by
  unfold spec_SlotsOk.f SlotsP
  refine T_bind (spec_SlotOk.ev e snd opn c seen u hn) fun r hr => T_ite (fun h => ?_) (fun h => T_ret (by
    have : ¬ SlotP e snd opn c seen u := fun k => h (hr.2 k)
    simp [this]))
  refine T_bind (spec_SlotOk.ev e' snd' opn' c' seen' u' hn') fun r2 hr2 => T_ite (fun h2 => ?_) (fun h2 => T_ret (by
    have : ¬ SlotP e' snd' opn' c' seen' u' := fun k => h2 (hr2.2 k)
    simp [this]))
  have g1 := hr.1 h
  have g2 := hr2.1 h2
  refine T_bind (spec_l17None.ev e' snd' opn' c' seen' u') fun r3 hr3 => T_ite (fun h3 => T_ret ?_) (fun h3 => T_ret ?_)
  · have h0 : e' = 0 := (hr3.1 h3).1
    exact ⟨fun _ => ⟨g1, g2, .inl h0⟩, fun _ => rfl⟩
  · have h0 : ¬ e' = 0 := fun k => by
      rcases g2 with g2 | g2
      · exact h3 (hr3.2 g2)
      · have := g2.1.1
        omega
    simp [g1, g2, h0]

/-! laws_toIntS -/
theorem laws_toIntS.ev (l : List Int) (hn : l.length ≤ 1048576) : Tells (fun k => laws_toIntS.f k l) (· = l) := by
  have h := T_loop' (fun k i => laws_toIntS.l0 k l (l.take i ++ List.replicate (l.length - i) 0) (i : Int)) l.length (· = l) (fun i hi he => by
    simp only [laws_toIntS.l0]
    refine T_pos (by omega) (T_pos (by omega) (T_pos (by simp; omega) ?_))
    rw [Int.toNat_natCast, set_copy l 0 i hi _ (rd_nat l i hi), wsucc hi (by omega)]
    exact he) (by
    simp only [laws_toIntS.l0]
    exact T_neg (by omega) (T_ret (by simp)))
  unfold laws_toIntS.f
  refine T_pos (by omega) (T_pos (by omega) ?_)
  simpa using h

/-! laws_toSlot -/
theorem laws_toSlot.ev (x0 : Int) (x1 : ByteArray) (x2 : ByteArray) (x3 : Int) (x4 : List (Int)) (x5 : Int) (hx4 : x4.length ≤ 1048576) : Tells (fun k => laws_toSlot.f k x0 x1 x2 x3 x4 x5) (· = (x0, x1, x2, x3, x4, x5)) := by
  unfold laws_toSlot.f
  refine T_bind (laws_toIntS.ev x4 hx4) ?_
  rintro _ rfl
  exact T_ret rfl

/-! laws_toSlots -/
theorem laws_toSlots.ev (x0 : Int) (x1 : ByteArray) (x2 : ByteArray) (x3 : Int) (x4 : List (Int)) (x5 : Int) (x6 : Int) (x7 : ByteArray) (x8 : ByteArray) (x9 : Int) (x10 : List (Int)) (x11 : Int) (hx4 : x4.length ≤ 1048576) (hx10 : x10.length ≤ 1048576) : Tells (fun k => laws_toSlots.f k x0 x1 x2 x3 x4 x5 x6 x7 x8 x9 x10 x11) (· = (x0, x1, x2, x3, x4, x5, x6, x7, x8, x9, x10, x11)) := by
  unfold laws_toSlots.f
  refine T_bind (laws_toSlot.ev x0 x1 x2 x3 x4 x5 hx4) ?_
  rintro _ rfl
  refine T_bind (laws_toSlot.ev x6 x7 x8 x9 x10 x11 hx10) ?_
  rintro _ rfl
  exact T_ret rfl

/-! impl_within -/
theorem impl_within.eq (a b c : Int) : impl_within.f a b c = some (decide (b ≤ a ∧ a ≤ c)) := by
  unfold impl_within.f
  by_cases h : b ≤ a <;> simp [h]

/-! impl_SeenOk -/
theorem impl_SeenOk.ev (l : List Int) (hn : l.length ≤ 1048576) : Tells (fun k => impl_SeenOk.f k l) (fun r => r = true ↔ SeenP l) := by
  refine T_allb (fun k i => impl_SeenOk.l0 k l l (l.length : Int) (i : Int)) l.length (SeenC l) _ (fun i hi hc P he => ?_) (fun i hi hc => ?_) ?_
  · obtain ⟨h1, h2, h3⟩ := hc
    simp only [impl_SeenOk.l0, impl_within.eq, Option.bind_some]
    rw [wsucc hi (by omega)]
    refine T_pos (by omega) (T_pos (by omega) (T_pos (by omega) (T_pos (by simpa using h1) ?_)))
    rcases Nat.eq_zero_or_pos i with h0 | h0
    · exact T_neg (by omega) (T_pos (by omega) (T_neg h3 he))
    · rw [w64 (x := (i : Int) - 1) (by omega) (by omega)]
      exact T_pos (by omega) (T_pos (by omega) (T_pos (by omega) (T_neg (h2 h0) (T_pos (by omega) (T_neg h3 he)))))
  · simp only [impl_SeenOk.l0, impl_within.eq, Option.bind_some]
    rw [wsucc hi (by omega)]
    refine T_pos (by omega) (T_pos (by omega) (T_pos (by omega) (T_ite (fun h1 => ?_) (fun _ => T_ret rfl))))
    rcases Nat.eq_zero_or_pos i with h0 | h0
    · refine T_neg (by omega) (T_pos (by omega) (T_ite (fun _ => T_ret rfl) (fun h3 => absurd ⟨by simpa using h1, fun h => by omega, h3⟩ hc)))
    · rw [w64 (x := (i : Int) - 1) (by omega) (by omega)]
      exact T_pos (by omega) (T_pos (by omega) (T_pos (by omega) (T_ite (fun _ => T_ret rfl) (fun h2 => T_pos (by omega) (T_ite (fun _ => T_ret rfl) (fun h3 => absurd ⟨by simpa using h1, fun _ => h2, h3⟩ hc))))))
  · simp only [impl_SeenOk.l0]
    exact T_neg (by omega) (T_ret (by simp; omega))

/-! impl_SlotOk -/
theorem impl_SlotOk.ev (e : Int) (snd opn : ByteArray) (c : Int) (seen : List Int) (u : Int) (hn : seen.length ≤ 1048576) : Tells (fun k => impl_SlotOk.f k e snd opn c seen u) (fun r => r = true ↔ SlotP e snd opn c seen u) := by
  have join : ∀ b : Bool, Tells (fun k => impl_SlotOk.j0 k b e snd opn c seen u) (fun r => r = true ↔ (1 ≤ e ∧ e ≤ 1000000000) ∧ b = true ∧ (0 ≤ c ∧ c ≤ 12) ∧ SeenP seen ∧ (0 ≤ u ∧ u ≤ 1000000000)) := by
    intro b
    refine T_step ?_
    simp only [impl_SlotOk.j0, impl_within.eq, Option.bind_some, decide_eq_true_eq]
    refine T_ite (fun h1 => T_ite (fun h2 => T_ite (fun h3 => ?_) (fun h => T_ret ?_)) (fun h => T_ret ?_)) (fun h => T_ret ?_)
    · refine T_bind (impl_SeenOk.ev seen hn) fun q hq => T_ite (fun h5 => T_ret ?_) (fun h5 => T_ret ?_)
      · simp [h1, h2, h3, hq.1 h5]
      · have h5' : ¬ SeenP seen := fun k => h5 (hq.2 k)
        simp [h5']
    all_goals simp [h]
  unfold impl_SlotOk.f
  refine T_ite (fun h0 => ?_) (fun h0 => ?_)
  · have e1 : SlotP e snd opn c seen u ↔ NoSlot e snd opn c seen u := ⟨fun h => h.resolve_right (fun k => by have := k.1.1; omega), .inl⟩
    rw [e1]
    unfold NoSlot
    refine T_ite (fun h2 => T_ite (fun h3 => T_ite (fun h4 => T_ite (fun h5 => T_ret ?_) (fun h => T_ret ?_)) (fun h => T_ret ?_)) (fun h => T_ret ?_)) (fun h => T_ret ?_)
    · have h5' : seen.length = 0 := by omega
      simp [h0, h2, h3, h4, h5']
    · simp only [Bool.false_eq_true, false_iff, not_and]
      intro _ _ _ _ h'
      omega
    all_goals simp [h]
  · have e1 : SlotP e snd opn c seen u ↔ ((1 ≤ e ∧ e ≤ 1000000000) ∧ snd.size = 32 ∧ opn.size = 32 ∧ (0 ≤ c ∧ c ≤ 12) ∧ SeenP seen ∧ (0 ≤ u ∧ u ≤ 1000000000)) := ⟨fun h => h.resolve_left (fun k => h0 k.1), .inr⟩
    rw [e1]
    refine T_ite (fun h2 => ?_) (fun h2 => ?_)
    · refine (join _).mono fun r hr => ?_
      have h2' : snd.size = 32 := by omega
      rw [hr]
      simp only [h2', true_and, beq_iff_eq]
      rw [show ((opn.size : Int) = 32 ↔ opn.size = 32) from by omega]
    · refine (join _).mono fun r hr => ?_
      have h2' : ¬ snd.size = 32 := by omega
      rw [hr]
      simp [h2']

/-! impl_SlotsOk -/
theorem impl_SlotsOk.ev (e : Int) (snd opn : ByteArray) (c : Int) (seen : List Int) (u : Int) (e' : Int) (snd' opn' : ByteArray) (c' : Int) (seen' : List Int) (u' : Int) (hn : seen.length ≤ 1048576) (hn' : seen'.length ≤ 1048576) :
    Tells (fun k => impl_SlotsOk.f k e snd opn c seen u e' snd' opn' c' seen' u') (fun r => r = true ↔ SlotsP e snd opn c seen u e' snd' opn' c' seen' u') := by
  unfold impl_SlotsOk.f SlotsP
  refine T_bind (impl_SlotOk.ev e snd opn c seen u hn) fun r hr => T_ite (fun h => ?_) (fun h => T_ret (by
    have : ¬ SlotP e snd opn c seen u := fun k => h (hr.2 k)
    simp [this]))
  refine T_bind (impl_SlotOk.ev e' snd' opn' c' seen' u' hn') fun r2 hr2 => T_ite (fun h2 => ?_) (fun h2 => T_ret (by
    have : ¬ SlotP e' snd' opn' c' seen' u' := fun k => h2 (hr2.2 k)
    simp [this]))
  have g1 := hr.1 h
  have g2 := hr2.1 h2
  refine T_ite (fun h3 => T_ret ?_) (fun h3 => T_ret ?_)
  · exact ⟨fun _ => ⟨g1, g2, .inl h3⟩, fun _ => rfl⟩
  · simp [g1, g2, h3]

/-! laws_eqIntS -/
theorem laws_eqIntS.ev (l : List Int) (hn : l.length ≤ 1048576) : Tells (fun k => laws_eqIntS.f k l l) (· = true) := by
  unfold laws_eqIntS.f
  refine T_pos rfl (T_loop' (fun k i => laws_eqIntS.l0 k l l (i : Int)) l.length (· = true) (fun i hi he => ?_) ?_)
  · simp only [laws_eqIntS.l0]
    rw [wsucc hi (by omega)]
    exact T_pos (by omega) (T_pos (by omega) (T_pos (by omega) (T_pos (by simp) he)))
  · simp only [laws_eqIntS.l0]
    exact T_neg (by omega) (T_ret rfl)

/-! laws_eqSlot -/
theorem laws_eqSlot.ev (x0 : Int) (x1 : ByteArray) (x2 : ByteArray) (x3 : Int) (x4 : List (Int)) (x5 : Int) (hx4 : x4.length ≤ 1048576) : Tells (fun k => laws_eqSlot.f k x0 x1 x2 x3 x4 x5 x0 x1 x2 x3 x4 x5) (· = true) := by
  unfold laws_eqSlot.f
  refine T_pos rfl ?_
  refine T_pos rfl ?_
  refine T_pos rfl ?_
  refine T_pos rfl ?_
  refine T_bind (laws_eqIntS.ev x4 hx4) ?_
  rintro _ rfl
  refine T_pos rfl ?_
  refine T_pos rfl ?_
  exact T_ret rfl

/-! laws_eqSlots -/
theorem laws_eqSlots.ev (x0 : Int) (x1 : ByteArray) (x2 : ByteArray) (x3 : Int) (x4 : List (Int)) (x5 : Int) (x6 : Int) (x7 : ByteArray) (x8 : ByteArray) (x9 : Int) (x10 : List (Int)) (x11 : Int) (hx4 : x4.length ≤ 1048576) (hx10 : x10.length ≤ 1048576) : Tells (fun k => laws_eqSlots.f k x0 x1 x2 x3 x4 x5 x6 x7 x8 x9 x10 x11 x0 x1 x2 x3 x4 x5 x6 x7 x8 x9 x10 x11) (· = true) := by
  unfold laws_eqSlots.f
  refine T_bind (laws_eqSlot.ev x0 x1 x2 x3 x4 x5 hx4) ?_
  rintro _ rfl
  refine T_pos rfl ?_
  refine T_bind (laws_eqSlot.ev x6 x7 x8 x9 x10 x11 hx10) ?_
  rintro _ rfl
  refine T_pos rfl ?_
  exact T_ret rfl

theorem FnExactSlotsOk : laws_FnExactSlotsOk.Goal := by
  rintro e snd opn c seen u e' snd' opn' c' seen' u' _ hs ho _ ⟨hl, _, _⟩ _ _ hs' ho' _ ⟨hl', _, _⟩ _
  refine Tells.rounds ?_
  unfold laws_FnExactSlotsOk.f
  refine T_bind (laws_szSlots.ev e snd opn c seen u e' snd' opn' c' seen' u' 1048576 (by omega) (by omega) hs ho hl hs' ho' hl') fun v hv => T_ite (fun _ => T_ret rfl) (fun h => ?_)
  obtain ⟨p0, p1, p2, p3, p4, p5, p6, p7⟩ := hv.resolve_left (by omega)
  have hn : seen.length ≤ 1048576 := by omega
  have hn' : seen'.length ≤ 1048576 := by omega
  refine T_bind (laws_toSlots.ev e snd opn c seen u e' snd' opn' c' seen' u' hn hn') ?_
  rintro _ rfl
  refine T_bind (spec_SlotsOk.ev e snd opn c seen u e' snd' opn' c' seen' u' hn hn') fun r1 hr1 => ?_
  refine T_bind (laws_toSlots.ev e snd opn c seen u e' snd' opn' c' seen' u' hn hn') ?_
  rintro _ rfl
  refine T_bind (impl_SlotsOk.ev e snd opn c seen u e' snd' opn' c' seen' u' hn hn') fun r2 hr2 => ?_
  obtain rfl := same_bool hr1 hr2
  refine T_neg (by simp) ?_
  refine T_bind (laws_toSlots.ev e snd opn c seen u e' snd' opn' c' seen' u' hn hn') ?_
  rintro _ rfl
  refine T_bind (laws_eqSlots.ev e snd opn c seen u e' snd' opn' c' seen' u' hn hn') ?_
  rintro _ rfl
  exact T_pos rfl (T_ret rfl)

end Go.Proofs.Ytfaeklomiofpdaa.Pure
