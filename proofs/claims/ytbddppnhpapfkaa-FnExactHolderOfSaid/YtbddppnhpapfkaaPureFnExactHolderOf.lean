/- FnExactHolderOf: the pure statement, proved: for every input of the law its printed function answers true. No condition. -/
import Derived.Test.YtbddppnhpapfkaaGoalFnExactHolderOf
namespace Go.Proofs.Ytbddppnhpapfkaa.Pure
open Go.RowKit Go.Proofs.Ytbddppnhpapfkaa.PFnExactHolderOf Go.Proofs.YtbddppnhpapfkaaW.PrintWords Go.Proofs.YtbddppnhpapfkaaW.PrintLast Go.Proofs.YtbddppnhpapfkaaW.PrintMore
set_option linter.unusedVariables false
set_option linter.unusedSimpArgs false
theorem w64 {x : Int} (h0 : -9223372036854775808 ≤ x) (h1 : x ≤ 9223372036854775807) : wrap64 x = x := by unfold wrap64; omega
theorem wsucc {i n : Nat} (h : i < n) (hn : n ≤ 9223372036854775807) : wrap64 ((i : Int) + 1) = ((i + 1 : Nat) : Int) := by unfold wrap64; omega
theorem wf64 {x : Int} (h : (Lit.int .i64 x).wf = true) : -9223372036854775808 ≤ x ∧ x ≤ 9223372036854775807 := by
  have h' : IntKind.i64.min ≤ x ∧ x ≤ IntKind.i64.max := by simpa [Lit.wf] using h
  exact h'
/-- From some number of rounds on it answers, and what it answers is so. -/
def Tells {α : Type} (g : Nat → Option α) (P : α → Prop) : Prop := ∃ r, P r ∧ Ev g r
theorem Tells.ev {α : Type} {g : Nat → Option α} {r : α} (h : Tells g (· = r)) : Ev g r := by
  obtain ⟨x, rfl, h⟩ := h
  exact h
theorem Tells.of {α : Type} {g : Nat → Option α} {r : α} (h : Ev g r) : Tells g (· = r) := ⟨r, rfl, h⟩
theorem Tells.rounds {α : Type} {g : Nat → Option α} {r : α} (h : Tells g (· = r)) : ∃ k, g k = some r := h.ev.rounds
theorem Tells.now {α : Type} {g : Option α} {r : α} (h : Tells (fun _ => g) (· = r)) : g = some r := by
  obtain ⟨K, h⟩ := h.ev
  exact h K (Nat.le_refl _)
theorem Tells.mono {α : Type} {g : Nat → Option α} {P Q : α → Prop} (h : Tells g P) (k : ∀ x, P x → Q x) : Tells g Q := by
  obtain ⟨x, hp, h⟩ := h
  exact ⟨x, k x hp, h⟩
theorem T_ret {α : Type} {P : α → Prop} {r : α} (h : P r) : Tells (fun _ => some r) P := ⟨r, h, Ev.now r⟩
theorem T_ite {α : Type} {c : Prop} {d : Decidable c} {f g : Nat → Option α} {P : α → Prop} (h1 : c → Tells f P) (h2 : ¬ c → Tells g P) : Tells (fun k => @ite _ c d (f k) (g k)) P := by
  by_cases h : c
  · obtain ⟨r, hp, he⟩ := h1 h
    exact ⟨r, hp, Ev.congr (fun k => if_pos h) he⟩
  · obtain ⟨r, hp, he⟩ := h2 h
    exact ⟨r, hp, Ev.congr (fun k => if_neg h) he⟩
theorem T_pos {α : Type} {c : Prop} {d : Decidable c} {f g : Nat → Option α} {P : α → Prop} (h : c) (hf : Tells f P) : Tells (fun k => @ite _ c d (f k) (g k)) P := T_ite (fun _ => hf) (fun h' => absurd h h')
theorem T_neg {α : Type} {c : Prop} {d : Decidable c} {f g : Nat → Option α} {P : α → Prop} (h : ¬ c) (hg : Tells g P) : Tells (fun k => @ite _ c d (f k) (g k)) P := T_ite (fun h' => absurd h' h) (fun _ => hg)
theorem T_bind {α β : Type} {g : Nat → Option α} {f : Nat → α → Option β} {Q : α → Prop} {P : β → Prop} (h : Tells g Q) (k : ∀ x, Q x → Tells (fun n => f n x) P) : Tells (fun n => (g n).bind (f n)) P := by
  obtain ⟨x, hq, he⟩ := h
  obtain ⟨r, hp, he'⟩ := k x hq
  exact ⟨r, hp, Ev.bind he he'⟩
theorem T_step {α : Type} {g : Nat → Option α} {P : α → Prop} (h : Tells (fun k => g (k + 1)) P) : Tells g P := by
  obtain ⟨r, hp, he⟩ := h
  exact ⟨r, hp, Ev.step (fun _ => rfl) he⟩
theorem T_eq {α : Type} {g f : Nat → Option α} {P : α → Prop} (h : ∀ k, g k = f k) (hf : Tells f P) : Tells g P := by
  obtain ⟨r, hp, he⟩ := hf
  exact ⟨r, hp, Ev.congr h he⟩
theorem T_some {α : Type} {g : Nat → Option α} {P : α → Prop} {r : α} (h : ∀ k, g k = some r) (hp : P r) : Tells g P := T_eq h (T_ret hp)
theorem T_unique {α : Type} {g : Nat → Option α} {P : α → Prop} {r : α} (h : Tells g P) (h' : Tells g (· = r)) : P r := by
  obtain ⟨x, hp, K, h⟩ := h
  obtain ⟨K', h'⟩ := h'.ev
  have a := h (max K K') (by omega)
  have b := h' (max K K') (by omega)
  rw [a] at b
  exact Option.some.inj b ▸ hp
/-- A loop with a counter, from the last round back. -/
theorem T_loop {ρ : Type} (g : Nat → Nat → Option ρ) (n : Nat) (P : Nat → ρ → Prop)
    (step : ∀ i, i < n → Tells (fun k => g k (i + 1)) (P (i + 1)) → Tells (fun k => g (k + 1) i) (P i)) (fin : Tells (fun k => g (k + 1) n) (P n)) : ∀ i, i ≤ n → Tells (fun k => g k i) (P i) := by
  have key : ∀ d i, i + d = n → Tells (fun k => g k i) (P i) := by
    intro d
    induction d with
    | zero =>
      intro i hi
      obtain rfl : i = n := by omega
      exact T_step fin
    | succ d ih =>
      intro i hi
      exact T_step (step i (by omega) (ih (i + 1) (by omega)))
  exact fun i hi => key (n - i) i (by omega)
/-- A loop whose answer does not hang on the round. -/
theorem T_loop' {ρ : Type} (g : Nat → Nat → Option ρ) (n : Nat) (P : ρ → Prop)
    (step : ∀ i, i < n → Tells (fun k => g k (i + 1)) P → Tells (fun k => g (k + 1) i) P) (fin : Tells (fun k => g (k + 1) n) P) : Tells (fun k => g k 0) P :=
  T_loop g n (fun _ => P) step fin 0 (Nat.zero_le _)
/-- What holds of all from a round on. -/
def From (C : Nat → Prop) (n i : Nat) : Prop := ∀ j, i ≤ j → j < n → C j
theorem From.cons {C : Nat → Prop} {n i : Nat} (h : C i) : From C n (i + 1) ↔ From C n i := by
  refine ⟨fun k j a b => ?_, fun k j a b => k j (by omega) b⟩
  by_cases e : j = i
  · exact e ▸ h
  · exact k j (by omega) b
theorem From.none {C : Nat → Prop} {n i : Nat} (hi : i < n) (h : ¬ C i) : ¬ From C n i := fun k => h (k i (Nat.le_refl _) hi)
theorem From.last (C : Nat → Prop) (n : Nat) : From C n n := fun j a b => absurd b (by omega)
theorem set_copy_map {α β : Type} (l : List α) (f : α → β) (z : β) (i : Nat) (h : i < l.length) (x : β) (hx : x = f l[i]) : ((l.take i).map f ++ List.replicate (l.length - i) z).set i x = (l.take (i + 1)).map f ++ List.replicate (l.length - (i + 1)) z := by
  subst hx
  have e : l.length - i = (l.length - (i + 1)) + 1 := by omega
  have hl : ((l.take i).map f).length = i := by rw [List.length_map, List.length_take]; omega
  rw [e, List.replicate_succ, List.set_append_right _ _ (by omega), hl, Nat.sub_self, List.set_cons_zero, List.take_succ_eq_append_getElem h, List.map_append]
  simp only [List.map_cons, List.map_nil, List.append_assoc, List.singleton_append]
theorem set_copy {α : Type} (l : List α) (z : α) (i : Nat) (h : i < l.length) (x : α) (hx : x = l[i]) : (l.take i ++ List.replicate (l.length - i) z).set i x = l.take (i + 1) ++ List.replicate (l.length - (i + 1)) z := by
  have := set_copy_map l id z i h x hx
  rw [List.map_id, List.map_id] at this
  exact this
theorem rd_nat (xs : List Int) (i : Nat) (h : i < xs.length) : rd xs (i : Int) = xs[i] := by simp [rd, List.getD_eq_getElem?_getD, h]
theorem rdOf_nat {α : Type} (d : α) (xs : List α) (i : Nat) (h : i < xs.length) : rdOf d xs (i : Int) = xs[i] := by simp [rdOf, List.getD_eq_getElem?_getD, h]
/-- a where c is so, else b. -/
def Either {ρ : Type} (c : Prop) (a b r : ρ) : Prop := (c ∧ r = a) ∨ (¬ c ∧ r = b)
theorem Either.same {ρ : Type} {c c' : Prop} {a b r s : ρ} (h : Either c a b r) (h' : Either c' a b s) (e : c ↔ c') : r = s := by
  rcases h with ⟨h, rfl⟩ | ⟨h, rfl⟩ <;> rcases h' with ⟨h', rfl⟩ | ⟨h', rfl⟩
  · rfl
  · exact absurd (e.1 h) h'
  · exact absurd (e.2 h') h
  · rfl
/-- A loop that checks each place. -/
theorem T_all {ρ : Type} (g : Nat → Nat → Option ρ) (n : Nat) (C : Nat → Prop) (bad fin : ρ)
    (step : ∀ i, i < n → C i → ∀ P : ρ → Prop, Tells (fun k => g k (i + 1)) P → Tells (fun k => g (k + 1) i) P) (out : ∀ i, i < n → ¬ C i → Tells (fun k => g (k + 1) i) (· = bad)) (hf : Tells (fun k => g (k + 1) n) (· = fin)) :
    Tells (fun k => g k 0) (Either (From C n 0) fin bad) := by
  refine T_loop g n (fun i => Either (From C n i) fin bad) (fun i hi he => ?_) (hf.mono fun r hr => .inl ⟨From.last C n, hr⟩) 0 (Nat.zero_le _)
  by_cases hc : C i
  · refine (step i hi hc _ he).mono fun r hr => ?_
    unfold Either at hr ⊢
    rw [From.cons hc] at hr
    exact hr
  · exact (out i hi hc).mono fun r hr => .inr ⟨From.none hi hc, hr⟩
/-- A loop that looks for the first place. -/
theorem T_find {ρ : Type} (g : Nat → Nat → Option ρ) (n : Nat) (C : Nat → Prop) (got : Nat → ρ) (fin : ρ)
    (step : ∀ i, i < n → ¬ C i → ∀ P : ρ → Prop, Tells (fun k => g k (i + 1)) P → Tells (fun k => g (k + 1) i) P) (out : ∀ i, i < n → C i → Tells (fun k => g (k + 1) i) (· = got i)) (hf : Tells (fun k => g (k + 1) n) (· = fin)) :
    Tells (fun k => g k 0) (fun r => (∃ j, j < n ∧ C j ∧ (∀ m, m < j → ¬ C m) ∧ r = got j) ∨ ((∀ j, j < n → ¬ C j) ∧ r = fin)) := by
  refine (T_loop g n (fun i r => (∃ j, i ≤ j ∧ j < n ∧ C j ∧ (∀ m, i ≤ m → m < j → ¬ C m) ∧ r = got j) ∨ ((∀ j, i ≤ j → j < n → ¬ C j) ∧ r = fin)) (fun i hi he => ?_)
    (hf.mono fun r hr => .inr ⟨fun j a b => absurd b (by omega), hr⟩) 0 (Nat.zero_le _)).mono fun r hr => ?_
  · by_cases hc : C i
    · exact (out i hi hc).mono fun r hr => .inl ⟨i, Nat.le_refl _, hi, hc, fun m a b => absurd b (by omega), hr⟩
    · refine (step i hi hc _ he).mono fun r hr => ?_
      rcases hr with ⟨j, a, b, c, d, e⟩ | ⟨a, b⟩
      · refine .inl ⟨j, by omega, b, c, fun m h1 h2 => ?_, e⟩
        by_cases hm : m = i
        · exact hm ▸ hc
        · exact d m (by omega) h2
      · refine .inr ⟨fun j h1 h2 => ?_, b⟩
        by_cases hm : j = i
        · exact hm ▸ hc
        · exact a j (by omega) h2
  · rcases hr with ⟨j, _, b, c, d, e⟩ | ⟨a, b⟩
    · exact .inl ⟨j, b, c, fun m hm => d m (Nat.zero_le _) hm, e⟩
    · exact .inr ⟨fun j hj => a j (Nat.zero_le _) hj, b⟩
theorem ba_ext {a b : ByteArray} (h : a.toList = b.toList) : a = b := by
  rw [ByteArray.toList_eq, ByteArray.toList_eq] at h
  cases a; cases b
  simpa using h
/-- The same of a test. -/
theorem T_allb (g : Nat → Nat → Option Bool) (n : Nat) (C : Nat → Prop) (F : Prop)
    (step : ∀ i, i < n → C i → ∀ P : Bool → Prop, Tells (fun k => g k (i + 1)) P → Tells (fun k => g (k + 1) i) P) (out : ∀ i, i < n → ¬ C i → Tells (fun k => g (k + 1) i) (· = false)) (hf : Tells (fun k => g (k + 1) n) (fun r => r = true ↔ F)) :
    Tells (fun k => g k 0) (fun r => r = true ↔ (∀ j, j < n → C j) ∧ F) := by
  refine (T_loop g n (fun i r => r = true ↔ From C n i ∧ F) (fun i hi he => ?_) (hf.mono fun r hr => hr.trans ⟨fun h => ⟨From.last C n, h⟩, fun h => h.2⟩) 0 (Nat.zero_le _)).mono fun r hr => by
      rw [hr]
      exact ⟨fun h => ⟨fun j hj => h.1 j (Nat.zero_le _) hj, h.2⟩, fun h => ⟨fun j _ hj => h.1 j hj, h.2⟩⟩
  by_cases hc : C i
  · refine (step i hi hc _ he).mono fun r hr => ?_
    rw [hr, From.cons hc]
  · exact (out i hi hc).mono fun r hr => by
      rw [hr]
      exact ⟨fun h => absurd h Bool.false_ne_true, fun h => absurd h.1 (From.none hi hc)⟩
theorem same_bool {c : Prop} {r s : Bool} (h : r = true ↔ c) (k : s = true ↔ c) : s = r := Bool.eq_iff_iff.2 (k.trans h.symm)
theorem mem_drop_iff {α : Type} {l : List α} {i : Nat} (h : i < l.length) (a : α) : a ∈ l.drop i ↔ a = l[i] ∨ a ∈ l.drop (i + 1) := by
  rw [List.drop_eq_getElem_cons h, List.mem_cons]
theorem drop_eq_iff {α : Type} {a b : List α} {i : Nat} (ha : i < a.length) (hb : i < b.length) : a.drop i = b.drop i ↔ a[i] = b[i] ∧ a.drop (i + 1) = b.drop (i + 1) := by
  rw [List.drop_eq_getElem_cons ha, List.drop_eq_getElem_cons hb, List.cons.injEq]
/-- A loop with a counter and a state. -/
theorem T_loops {ρ σ : Type} (g : Nat → σ → Nat → Option ρ) (n : Nat) (Inv : Nat → σ → Prop) (P : Nat → σ → ρ → Prop)
    (step : ∀ i s, i < n → Inv i s → (∀ s', Inv (i + 1) s' → Tells (fun k => g k s' (i + 1)) (P (i + 1) s')) → Tells (fun k => g (k + 1) s i) (P i s))
    (fin : ∀ s, Inv n s → Tells (fun k => g (k + 1) s n) (P n s)) : ∀ i s, i ≤ n → Inv i s → Tells (fun k => g k s i) (P i s) := by
  have key : ∀ d i s, i + d = n → Inv i s → Tells (fun k => g k s i) (P i s) := by
    intro d
    induction d with
    | zero =>
      intro i s hi hs
      obtain rfl : i = n := by omega
      exact T_step (fin s hs)
    | succ d ih =>
      intro i s hi hs
      exact T_step (step i s (by omega) hs (fun s' hs' => ih (i + 1) s' (by omega) hs'))
  exact fun i s hi hs => key (n - i) i s (by omega) hs
def FindP {ρ : Type} (n : Nat) (C : Nat → Prop) (got : Nat → ρ) (fin : ρ) (r : ρ) : Prop := (∃ j, j < n ∧ C j ∧ (∀ m, m < j → ¬ C m) ∧ r = got j) ∨ ((∀ j, j < n → ¬ C j) ∧ r = fin)
theorem FindP.same {ρ : Type} {n : Nat} {C : Nat → Prop} {got : Nat → ρ} {fin r s : ρ} (h : FindP n C got fin r) (k : FindP n C got fin s) : s = r := by
  rcases h with ⟨j, a, b, c, rfl⟩ | ⟨a, rfl⟩ <;> rcases k with ⟨j', a', b', c', rfl⟩ | ⟨a', rfl⟩
  · rcases Nat.lt_trichotomy j j' with h | h | h
    · exact absurd b (c' _ h)
    · rw [h]
    · exact absurd b' (c _ h)
  · exact absurd b (a' j a)
  · exact absurd b' (a j' a')
  · rfl
theorem rd_T97_at (xs : List S97) (i : Nat) (h : i < xs.length) : rd_T97 xs (i : Int) = xs[i] := by simp [rd_T97, List.getD_eq_getElem?_getD, h]
def HolderC (l : List S97) (a : Int) (i : Nat) : Prop := (rd_T97 l i).f0 = a

/-! laws_szLeaseS -/
theorem laws_szLeaseS.ev (l : List S126) (a : Int) (h0 : 0 ≤ a) (h1 : a ≤ 1048576) (hl : l.length ≤ maxLen) : Tells (fun _ => laws_szLeaseS.f l a) (fun v => v = -1 ∨ (0 ≤ v ∧ v ≤ a ∧ v + l.length ≤ a)) := by
  unfold maxLen at hl
  unfold laws_szLeaseS.f
  rw [w64 (x := a - (l.length : Int)) (by omega) (by omega)]
  exact T_ite (fun _ => T_ret (.inl rfl)) (fun _ => T_ret (.inr ⟨by omega, by omega, by omega⟩))

/-! laws_szFixedS -/
theorem laws_szFixedS.ev (l : List S128) (a : Int) (h0 : 0 ≤ a) (h1 : a ≤ 1048576) (hl : l.length ≤ maxLen) : Tells (fun _ => laws_szFixedS.f l a) (fun v => v = -1 ∨ (0 ≤ v ∧ v ≤ a ∧ v + l.length ≤ a)) := by
  unfold maxLen at hl
  unfold laws_szFixedS.f
  rw [w64 (x := a - (l.length : Int)) (by omega) (by omega)]
  exact T_ite (fun _ => T_ret (.inl rfl)) (fun _ => T_ret (.inr ⟨by omega, by omega, by omega⟩))

/-! laws_szPool -/
theorem laws_szPool.ev (x0 : Int) (x1 : Int) (x2 : List (S126)) (x3 : List (S128)) (a : Int) (h0 : 0 ≤ a) (h1 : a ≤ 1048576) (hx2 : x2.length ≤ maxLen) (hx3 : x3.length ≤ maxLen) : Tells (fun k => laws_szPool.f x0 x1 x2 x3 a) (fun v => v = -1 ∨ (0 ≤ v ∧ v ≤ a ∧ v + x2.length ≤ a ∧ v + x3.length ≤ a)) := by
  unfold laws_szPool.f
  refine T_bind (laws_szLeaseS.ev x2 a (by omega) (by omega) hx2) fun v0 w0 => T_ite (fun _ => T_ret (.inl rfl)) (fun g0 => ?_)
  obtain ⟨p0_0, p0_1, p0_2⟩ := w0.resolve_left (by omega)
  refine T_bind (laws_szFixedS.ev x3 v0 (by omega) (by omega) hx3) fun v1 w1 => T_ite (fun _ => T_ret (.inl rfl)) (fun g1 => ?_)
  obtain ⟨p1_0, p1_1, p1_2⟩ := w1.resolve_left (by omega)
  exact T_ret (.inr ⟨by omega, by omega, by omega, by omega⟩)

/-! spec_HolderOf -/
theorem spec_HolderOf.ev (x y : Int) (l : List S97) (f : List S116) (a : Int) (hn : l.length ≤ 1048576) : Tells (fun k => spec_HolderOf.f k x y l f a) (FindP l.length (HolderC l a) (fun j => (rd_T97 l j).f1) 0) := by
  refine T_find (fun k i => spec_HolderOf.l0 k a (i : Int) x y l f) l.length (HolderC l a) _ 0 (fun i hi hc P he => ?_) (fun i hi hc => ?_) ?_
  · simp only [spec_HolderOf.l0]
    rw [wsucc hi (by omega)]
    exact T_pos (by omega) (T_pos (by omega) (T_neg hc he))
  · simp only [spec_HolderOf.l0]
    exact T_pos (by omega) (T_pos (by omega) (T_pos hc (T_ret rfl)))
  · simp only [spec_HolderOf.l0]
    exact T_neg (by omega) (T_ret rfl)

/-! laws_toPrefix -/
theorem laws_toPrefix.ev (x0 : Int) (x1 : Int)  : Tells (fun k => laws_toPrefix.f x0 x1) (· = (x0, x1)) := by
  unfold laws_toPrefix.f
  exact T_ret rfl

/-! laws_toLease -/
theorem laws_toLease.ev (x0 : Int) (x1 : Int) (x2 : Int)  : Tells (fun k => laws_toLease.f x0 x1 x2) (· = (x0, x1, x2)) := by
  unfold laws_toLease.f
  exact T_ret rfl

/-! laws_toLeaseS -/
theorem rd_T126_nat (xs : List S126) (i : Nat) (h : i < xs.length) : rd_T126 xs (i : Int) = xs[i] := by simp [rd_T126, List.getD_eq_getElem?_getD, h]
def to_Lease (x : S126) : S97 := ⟨x.f0, x.f1, x.f2⟩
theorem laws_toLeaseS.ev (l : List S126) (hn : l.length ≤ 1048576) : Tells (fun k => laws_toLeaseS.f k l) (· = l.map to_Lease) := by
  have h := T_loop' (fun k i => laws_toLeaseS.l0 k l ((l.take i).map to_Lease ++ List.replicate (l.length - i) z97) (i : Int)) l.length (· = l.map to_Lease) (fun i hi hh => by
    simp only [laws_toLeaseS.l0, rd_T126_nat l i hi]
    refine T_pos (by omega) (T_pos (by omega) (T_bind (laws_toLease.ev _ _ _) ?_))
    rintro _ rfl
    refine T_pos (by simp; omega) ?_
    have e := set_copy_map l to_Lease z97 i hi (⟨l[i].f0, l[i].f1, l[i].f2⟩ : S97) rfl
    dsimp only
    rw [Int.toNat_natCast, e, wsucc hi (by omega)]
    exact hh) (by
    simp only [laws_toLeaseS.l0]
    exact T_neg (by omega) (T_ret (by simp)))
  unfold laws_toLeaseS.f
  refine T_pos (by omega) (T_pos (by omega) ?_)
  simpa using h

/-! laws_toFixed -/
theorem laws_toFixed.ev (x0 : Int) (x1 : Int)  : Tells (fun k => laws_toFixed.f x0 x1) (· = (x0, x1)) := by
  unfold laws_toFixed.f
  exact T_ret rfl

/-! laws_toFixedS -/
theorem rd_T128_nat (xs : List S128) (i : Nat) (h : i < xs.length) : rd_T128 xs (i : Int) = xs[i] := by simp [rd_T128, List.getD_eq_getElem?_getD, h]
def to_Fixed (x : S128) : S116 := ⟨x.f0, x.f1⟩
theorem laws_toFixedS.ev (l : List S128) (hn : l.length ≤ 1048576) : Tells (fun k => laws_toFixedS.f k l) (· = l.map to_Fixed) := by
  have h := T_loop' (fun k i => laws_toFixedS.l0 k l ((l.take i).map to_Fixed ++ List.replicate (l.length - i) z116) (i : Int)) l.length (· = l.map to_Fixed) (fun i hi hh => by
    simp only [laws_toFixedS.l0, rd_T128_nat l i hi]
    refine T_pos (by omega) (T_pos (by omega) (T_bind (laws_toFixed.ev _ _) ?_))
    rintro _ rfl
    refine T_pos (by simp; omega) ?_
    have e := set_copy_map l to_Fixed z116 i hi (⟨l[i].f0, l[i].f1⟩ : S116) rfl
    dsimp only
    rw [Int.toNat_natCast, e, wsucc hi (by omega)]
    exact hh) (by
    simp only [laws_toFixedS.l0]
    exact T_neg (by omega) (T_ret (by simp)))
  unfold laws_toFixedS.f
  refine T_pos (by omega) (T_pos (by omega) ?_)
  simpa using h

/-! laws_toPool -/
theorem laws_toPool.ev (x0 : Int) (x1 : Int) (x2 : List (S126)) (x3 : List (S128)) (hx2 : x2.length ≤ 1048576) (hx3 : x3.length ≤ 1048576) : Tells (fun k => laws_toPool.f k x0 x1 x2 x3) (· = (x0, x1, x2.map to_Lease, x3.map to_Fixed)) := by
  unfold laws_toPool.f
  refine T_bind (laws_toPrefix.ev x0 x1) ?_
  rintro _ rfl
  refine T_bind (laws_toLeaseS.ev x2 hx2) ?_
  rintro _ rfl
  refine T_bind (laws_toFixedS.ev x3 hx3) ?_
  rintro _ rfl
  exact T_ret rfl

/-! impl_HolderOf -/
theorem impl_HolderOf.ev (x y : Int) (l : List S97) (f : List S116) (a : Int) (hn : l.length ≤ 1048576) : Tells (fun k => impl_HolderOf.f k x y l f a) (FindP l.length (HolderC l a) (fun j => (rd_T97 l j).f1) 0) := by
  refine T_find (fun k i => impl_HolderOf.l0 k a l (l.length : Int) (i : Int)) l.length (HolderC l a) _ 0 (fun i hi hc P he => ?_) (fun i hi hc => ?_) ?_
  · simp only [impl_HolderOf.l0]
    rw [wsucc hi (by omega)]
    exact T_pos (by omega) (T_pos (by omega) (T_pos (by omega) (T_neg hc he)))
  · simp only [impl_HolderOf.l0]
    exact T_pos (by omega) (T_pos (by omega) (T_pos (by omega) (T_pos hc (T_ret rfl))))
  · simp only [impl_HolderOf.l0]
    exact T_neg (by omega) (T_ret rfl)

/-! laws_eqPrefix -/
theorem laws_eqPrefix.ev (x0 : Int) (x1 : Int)  : Tells (fun k => laws_eqPrefix.f x0 x1 x0 x1) (· = true) := by
  unfold laws_eqPrefix.f
  refine T_pos rfl ?_
  refine T_pos rfl ?_
  exact T_ret rfl

/-! laws_eqLease -/
theorem laws_eqLease.ev (x0 : Int) (x1 : Int) (x2 : Int)  : Tells (fun k => laws_eqLease.f x0 x1 x2 x0 x1 x2) (· = true) := by
  unfold laws_eqLease.f
  refine T_pos rfl ?_
  refine T_pos rfl ?_
  refine T_pos rfl ?_
  exact T_ret rfl

/-! laws_eqLeaseS -/
theorem rd_T97_nat (xs : List S97) (i : Nat) (h : i < xs.length) : rd_T97 xs (i : Int) = xs[i] := by simp [rd_T97, List.getD_eq_getElem?_getD, h]
theorem laws_eqLeaseS.ev (l : List S97) (hn : l.length ≤ 1048576) : Tells (fun k => laws_eqLeaseS.f k l l) (· = true) := by
  unfold laws_eqLeaseS.f
  refine T_pos rfl (T_loop' (fun k i => laws_eqLeaseS.l0 k l l (i : Int)) l.length (· = true) (fun i hi hh => ?_) ?_)
  · simp only [laws_eqLeaseS.l0, rd_T97_nat l i hi]
    rw [wsucc hi (by omega)]
    refine T_pos (by omega) (T_pos (by omega) (T_pos (by omega) (T_bind (laws_eqLease.ev _ _ _) ?_)))
    rintro _ rfl
    exact T_pos rfl hh
  · simp only [laws_eqLeaseS.l0]
    exact T_neg (by omega) (T_ret rfl)

/-! laws_eqFixed -/
theorem laws_eqFixed.ev (x0 : Int) (x1 : Int)  : Tells (fun k => laws_eqFixed.f x0 x1 x0 x1) (· = true) := by
  unfold laws_eqFixed.f
  refine T_pos rfl ?_
  refine T_pos rfl ?_
  exact T_ret rfl

/-! laws_eqFixedS -/
theorem rd_T116_nat (xs : List S116) (i : Nat) (h : i < xs.length) : rd_T116 xs (i : Int) = xs[i] := by simp [rd_T116, List.getD_eq_getElem?_getD, h]
theorem laws_eqFixedS.ev (l : List S116) (hn : l.length ≤ 1048576) : Tells (fun k => laws_eqFixedS.f k l l) (· = true) := by
  unfold laws_eqFixedS.f
  refine T_pos rfl (T_loop' (fun k i => laws_eqFixedS.l0 k l l (i : Int)) l.length (· = true) (fun i hi hh => ?_) ?_)
  · simp only [laws_eqFixedS.l0, rd_T116_nat l i hi]
    rw [wsucc hi (by omega)]
    refine T_pos (by omega) (T_pos (by omega) (T_pos (by omega) (T_bind (laws_eqFixed.ev _ _) ?_)))
    rintro _ rfl
    exact T_pos rfl hh
  · simp only [laws_eqFixedS.l0]
    exact T_neg (by omega) (T_ret rfl)

/-! laws_eqPool -/
theorem laws_eqPool.ev (x0 : Int) (x1 : Int) (x2 : List (S97)) (x3 : List (S116)) (hx2 : x2.length ≤ 1048576) (hx3 : x3.length ≤ 1048576) : Tells (fun k => laws_eqPool.f k x0 x1 x2 x3 x0 x1 x2 x3) (· = true) := by
  unfold laws_eqPool.f
  refine T_bind (laws_eqPrefix.ev x0 x1) ?_
  rintro _ rfl
  refine T_pos rfl ?_
  refine T_bind (laws_eqLeaseS.ev x2 hx2) ?_
  rintro _ rfl
  refine T_pos rfl ?_
  refine T_bind (laws_eqFixedS.ev x3 hx3) ?_
  rintro _ rfl
  refine T_pos rfl ?_
  exact T_ret rfl

theorem FnExactHolderOf : laws_FnExactHolderOf.Goal := by
  rintro x y l f a _ _ ⟨hl, _, _⟩ ⟨hf, _, _⟩ _
  refine Tells.rounds ?_
  unfold laws_FnExactHolderOf.f
  refine T_bind (laws_szPool.ev x y l f 1048576 (by omega) (by omega) hl hf) fun v hv => T_ite (fun _ => T_ret rfl) (fun h => ?_)
  obtain ⟨p0, p1, p2, p3⟩ := hv.resolve_left (by omega)
  have hn : l.length ≤ 1048576 := by omega
  have hm : f.length ≤ 1048576 := by omega
  have hn' : (l.map to_Lease).length ≤ 1048576 := by simpa using hn
  have hm' : (f.map to_Fixed).length ≤ 1048576 := by simpa using hm
  refine T_bind (laws_toPool.ev x y l f hn hm) ?_
  rintro _ rfl
  refine T_bind (spec_HolderOf.ev x y (l.map to_Lease) (f.map to_Fixed) a hn') fun r1 hr1 => ?_
  refine T_bind (laws_toPool.ev x y l f hn hm) ?_
  rintro _ rfl
  refine T_bind (impl_HolderOf.ev x y (l.map to_Lease) (f.map to_Fixed) a hn') fun r2 hr2 => ?_
  obtain rfl := hr1.same hr2
  refine T_pos rfl ?_
  refine T_bind (laws_toPool.ev x y l f hn hm) ?_
  rintro _ rfl
  refine T_bind (laws_eqPool.ev x y (l.map to_Lease) (f.map to_Fixed) hn' hm') ?_
  rintro _ rfl
  exact T_pos rfl (T_ret rfl)

end Go.Proofs.Ytbddppnhpapfkaa.Pure
