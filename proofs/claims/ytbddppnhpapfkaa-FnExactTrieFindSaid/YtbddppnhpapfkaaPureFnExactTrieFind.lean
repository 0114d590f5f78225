/- FnExactTrieFind: the pure statement, proved: for every input of the law its printed function answers true. No condition. -/
import Derived.Test.YtbddppnhpapfkaaGoalFnExactTrieFind
namespace Go.Proofs.Ytbddppnhpapfkaa.Pure
open Go.RowKit Go.Proofs.Ytbddppnhpapfkaa.PFnExactTrieFind Go.Proofs.YtbddppnhpapfkaaW.PrintWords Go.Proofs.YtbddppnhpapfkaaW.PrintLast Go.Proofs.YtbddppnhpapfkaaW.PrintMore
set_option linter.unusedVariables false
set_option linter.unusedSimpArgs false
theorem w64 {x : Int} (h0 : -9223372036854775808 ≤ x) (h1 : x ≤ 9223372036854775807) : wrap64 x = x := by unfold wrap64; omega
theorem wsucc {i n : Nat} (h : i < n) (hn : n ≤ 9223372036854775807) : wrap64 ((i : Int) + 1) = ((i + 1 : Nat) : Int) := by unfold wrap64; omega
theorem wf64 {x : Int} (h : (Lit.int .i64 x).wf = true) : -9223372036854775808 ≤ x ∧ x ≤ 9223372036854775807 := by
  have h' : IntKind.i64.min ≤ x ∧ x ≤ IntKind.i64.max := by simpa [Lit.wf] using h
  exact h'
/-- From some number of rounds on it answers, and what it answers is so. -/
def Tells {α : Type} (g : Nat → Option α) (P : α → Prop) : Prop := ∃ r, P r ∧ Ev g r
theorem Tells.ev {α : Type} {g : Nat → Option α} {r : α} (h : Tells g (· = r)) : Ev g r := by
  obtain ⟨x, rfl, h⟩ := h
  exact h
theorem Tells.of {α : Type} {g : Nat → Option α} {r : α} (h : Ev g r) : Tells g (· = r) := ⟨r, rfl, h⟩
theorem Tells.rounds {α : Type} {g : Nat → Option α} {r : α} (h : Tells g (· = r)) : ∃ k, g k = some r := h.ev.rounds
theorem Tells.now {α : Type} {g : Option α} {r : α} (h : Tells (fun _ => g) (· = r)) : g = some r := by
  obtain ⟨K, h⟩ := h.ev
  exact h K (Nat.le_refl _)
theorem Tells.mono {α : Type} {g : Nat → Option α} {P Q : α → Prop} (h : Tells g P) (k : ∀ x, P x → Q x) : Tells g Q := by
  obtain ⟨x, hp, h⟩ := h
  exact ⟨x, k x hp, h⟩
theorem T_ret {α : Type} {P : α → Prop} {r : α} (h : P r) : Tells (fun _ => some r) P := ⟨r, h, Ev.now r⟩
theorem T_ite {α : Type} {c : Prop} {d : Decidable c} {f g : Nat → Option α} {P : α → Prop} (h1 : c → Tells f P) (h2 : ¬ c → Tells g P) : Tells (fun k => @ite _ c d (f k) (g k)) P := by
  by_cases h : c
  · obtain ⟨r, hp, he⟩ := h1 h
    exact ⟨r, hp, Ev.congr (fun k => if_pos h) he⟩
  · obtain ⟨r, hp, he⟩ := h2 h
    exact ⟨r, hp, Ev.congr (fun k => if_neg h) he⟩
theorem T_pos {α : Type} {c : Prop} {d : Decidable c} {f g : Nat → Option α} {P : α → Prop} (h : c) (hf : Tells f P) : Tells (fun k => @ite _ c d (f k) (g k)) P := T_ite (fun _ => hf) (fun h' => absurd h h')
theorem T_neg {α : Type} {c : Prop} {d : Decidable c} {f g : Nat → Option α} {P : α → Prop} (h : ¬ c) (hg : Tells g P) : Tells (fun k => @ite _ c d (f k) (g k)) P := T_ite (fun h' => absurd h' h) (fun _ => hg)
theorem T_bind {α β : Type} {g : Nat → Option α} {f : Nat → α → Option β} {Q : α → Prop} {P : β → Prop} (h : Tells g Q) (k : ∀ x, Q x → Tells (fun n => f n x) P) : Tells (fun n => (g n).bind (f n)) P := by
  obtain ⟨x, hq, he⟩ := h
  obtain ⟨r, hp, he'⟩ := k x hq
  exact ⟨r, hp, Ev.bind he he'⟩
theorem T_step {α : Type} {g : Nat → Option α} {P : α → Prop} (h : Tells (fun k => g (k + 1)) P) : Tells g P := by
  obtain ⟨r, hp, he⟩ := h
  exact ⟨r, hp, Ev.step (fun _ => rfl) he⟩
theorem T_eq {α : Type} {g f : Nat → Option α} {P : α → Prop} (h : ∀ k, g k = f k) (hf : Tells f P) : Tells g P := by
  obtain ⟨r, hp, he⟩ := hf
  exact ⟨r, hp, Ev.congr h he⟩
theorem T_some {α : Type} {g : Nat → Option α} {P : α → Prop} {r : α} (h : ∀ k, g k = some r) (hp : P r) : Tells g P := T_eq h (T_ret hp)
theorem T_unique {α : Type} {g : Nat → Option α} {P : α → Prop} {r : α} (h : Tells g P) (h' : Tells g (· = r)) : P r := by
  obtain ⟨x, hp, K, h⟩ := h
  obtain ⟨K', h'⟩ := h'.ev
  have a := h (max K K') (by omega)
  have b := h' (max K K') (by omega)
  rw [a] at b
  exact Option.some.inj b ▸ hp
/-- A loop with a counter, from the last round back. -/
theorem T_loop {ρ : Type} (g : Nat → Nat → Option ρ) (n : Nat) (P : Nat → ρ → Prop)
    (step : ∀ i, i < n → Tells (fun k => g k (i + 1)) (P (i + 1)) → Tells (fun k => g (k + 1) i) (P i)) (fin : Tells (fun k => g (k + 1) n) (P n)) : ∀ i, i ≤ n → Tells (fun k => g k i) (P i) := by
  have key : ∀ d i, i + d = n → Tells (fun k => g k i) (P i) := by
    intro d
    induction d with
    | zero =>
      intro i hi
      obtain rfl : i = n := by omega
      exact T_step fin
    | succ d ih =>
      intro i hi
      exact T_step (step i (by omega) (ih (i + 1) (by omega)))
  exact fun i hi => key (n - i) i (by omega)
/-- A loop whose answer does not hang on the round. -/
theorem T_loop' {ρ : Type} (g : Nat → Nat → Option ρ) (n : Nat) (P : ρ → Prop)
    (step : ∀ i, i < n → Tells (fun k => g k (i + 1)) P → Tells (fun k => g (k + 1) i) P) (fin : Tells (fun k => g (k + 1) n) P) : Tells (fun k => g k 0) P :=
  T_loop g n (fun _ => P) step fin 0 (Nat.zero_le _)
/-- What holds of all from a round on. -/
def From (C : Nat → Prop) (n i : Nat) : Prop := ∀ j, i ≤ j → j < n → C j
theorem From.cons {C : Nat → Prop} {n i : Nat} (h : C i) : From C n (i + 1) ↔ From C n i := by
  refine ⟨fun k j a b => ?_, fun k j a b => k j (by omega) b⟩
  by_cases e : j = i
  · exact e ▸ h
  · exact k j (by omega) b
theorem From.none {C : Nat → Prop} {n i : Nat} (hi : i < n) (h : ¬ C i) : ¬ From C n i := fun k => h (k i (Nat.le_refl _) hi)
theorem From.last (C : Nat → Prop) (n : Nat) : From C n n := fun j a b => absurd b (by omega)
theorem set_copy_map {α β : Type} (l : List α) (f : α → β) (z : β) (i : Nat) (h : i < l.length) (x : β) (hx : x = f l[i]) : ((l.take i).map f ++ List.replicate (l.length - i) z).set i x = (l.take (i + 1)).map f ++ List.replicate (l.length - (i + 1)) z := by
  subst hx
  have e : l.length - i = (l.length - (i + 1)) + 1 := by omega
  have hl : ((l.take i).map f).length = i := by rw [List.length_map, List.length_take]; omega
  rw [e, List.replicate_succ, List.set_append_right _ _ (by omega), hl, Nat.sub_self, List.set_cons_zero, List.take_succ_eq_append_getElem h, List.map_append]
  simp only [List.map_cons, List.map_nil, List.append_assoc, List.singleton_append]
theorem set_copy {α : Type} (l : List α) (z : α) (i : Nat) (h : i < l.length) (x : α) (hx : x = l[i]) : (l.take i ++ List.replicate (l.length - i) z).set i x = l.take (i + 1) ++ List.replicate (l.length - (i + 1)) z := by
  have := set_copy_map l id z i h x hx
  rw [List.map_id, List.map_id] at this
  exact this
theorem rd_nat (xs : List Int) (i : Nat) (h : i < xs.length) : rd xs (i : Int) = xs[i] := by simp [rd, List.getD_eq_getElem?_getD, h]
theorem rdOf_nat {α : Type} (d : α) (xs : List α) (i : Nat) (h : i < xs.length) : rdOf d xs (i : Int) = xs[i] := by simp [rdOf, List.getD_eq_getElem?_getD, h]
/-- a where c is so, else b. -/
def Either {ρ : Type} (c : Prop) (a b r : ρ) : Prop := (c ∧ r = a) ∨ (¬ c ∧ r = b)
theorem Either.same {ρ : Type} {c c' : Prop} {a b r s : ρ} (h : Either c a b r) (h' : Either c' a b s) (e : c ↔ c') : r = s := by
  rcases h with ⟨h, rfl⟩ | ⟨h, rfl⟩ <;> rcases h' with ⟨h', rfl⟩ | ⟨h', rfl⟩
  · rfl
  · exact absurd (e.1 h) h'
  · exact absurd (e.2 h') h
  · rfl
/-- A loop that checks each place. -/
theorem T_all {ρ : Type} (g : Nat → Nat → Option ρ) (n : Nat) (C : Nat → Prop) (bad fin : ρ)
    (step : ∀ i, i < n → C i → ∀ P : ρ → Prop, Tells (fun k => g k (i + 1)) P → Tells (fun k => g (k + 1) i) P) (out : ∀ i, i < n → ¬ C i → Tells (fun k => g (k + 1) i) (· = bad)) (hf : Tells (fun k => g (k + 1) n) (· = fin)) :
    Tells (fun k => g k 0) (Either (From C n 0) fin bad) := by
  refine T_loop g n (fun i => Either (From C n i) fin bad) (fun i hi he => ?_) (hf.mono fun r hr => .inl ⟨From.last C n, hr⟩) 0 (Nat.zero_le _)
  by_cases hc : C i
  · refine (step i hi hc _ he).mono fun r hr => ?_
    unfold Either at hr ⊢
    rw [From.cons hc] at hr
    exact hr
  · exact (out i hi hc).mono fun r hr => .inr ⟨From.none hi hc, hr⟩
/-- A loop that looks for the first place. -/
theorem T_find {ρ : Type} (g : Nat → Nat → Option ρ) (n : Nat) (C : Nat → Prop) (got : Nat → ρ) (fin : ρ)
    (step : ∀ i, i < n → ¬ C i → ∀ P : ρ → Prop, Tells (fun k => g k (i + 1)) P → Tells (fun k => g (k + 1) i) P) (out : ∀ i, i < n → C i → Tells (fun k => g (k + 1) i) (· = got i)) (hf : Tells (fun k => g (k + 1) n) (· = fin)) :
    Tells (fun k => g k 0) (fun r => (∃ j, j < n ∧ C j ∧ (∀ m, m < j → ¬ C m) ∧ r = got j) ∨ ((∀ j, j < n → ¬ C j) ∧ r = fin)) := by
  refine (T_loop g n (fun i r => (∃ j, i ≤ j ∧ j < n ∧ C j ∧ (∀ m, i ≤ m → m < j → ¬ C m) ∧ r = got j) ∨ ((∀ j, i ≤ j → j < n → ¬ C j) ∧ r = fin)) (fun i hi he => ?_)
    (hf.mono fun r hr => .inr ⟨fun j a b => absurd b (by omega), hr⟩) 0 (Nat.zero_le _)).mono fun r hr => ?_
  · by_cases hc : C i
    · exact (out i hi hc).mono fun r hr => .inl ⟨i, Nat.le_refl _, hi, hc, fun m a b => absurd b (by omega), hr⟩
    · refine (step i hi hc _ he).mono fun r hr => ?_
      rcases hr with ⟨j, a, b, c, d, e⟩ | ⟨a, b⟩
      · refine .inl ⟨j, by omega, b, c, fun m h1 h2 => ?_, e⟩
        by_cases hm : m = i
        · exact hm ▸ hc
        · exact d m (by omega) h2
      · refine .inr ⟨fun j h1 h2 => ?_, b⟩
        by_cases hm : j = i
        · exact hm ▸ hc
        · exact a j (by omega) h2
  · rcases hr with ⟨j, _, b, c, d, e⟩ | ⟨a, b⟩
    · exact .inl ⟨j, b, c, fun m hm => d m (Nat.zero_le _) hm, e⟩
    · exact .inr ⟨fun j hj => a j (Nat.zero_le _) hj, b⟩
theorem ba_ext {a b : ByteArray} (h : a.toList = b.toList) : a = b := by
  rw [ByteArray.toList_eq, ByteArray.toList_eq] at h
  cases a; cases b
  simpa using h
/-- The same of a test. -/
theorem T_allb (g : Nat → Nat → Option Bool) (n : Nat) (C : Nat → Prop) (F : Prop)
    (step : ∀ i, i < n → C i → ∀ P : Bool → Prop, Tells (fun k => g k (i + 1)) P → Tells (fun k => g (k + 1) i) P) (out : ∀ i, i < n → ¬ C i → Tells (fun k => g (k + 1) i) (· = false)) (hf : Tells (fun k => g (k + 1) n) (fun r => r = true ↔ F)) :
    Tells (fun k => g k 0) (fun r => r = true ↔ (∀ j, j < n → C j) ∧ F) := by
  refine (T_loop g n (fun i r => r = true ↔ From C n i ∧ F) (fun i hi he => ?_) (hf.mono fun r hr => hr.trans ⟨fun h => ⟨From.last C n, h⟩, fun h => h.2⟩) 0 (Nat.zero_le _)).mono fun r hr => by
      rw [hr]
      exact ⟨fun h => ⟨fun j hj => h.1 j (Nat.zero_le _) hj, h.2⟩, fun h => ⟨fun j _ hj => h.1 j hj, h.2⟩⟩
  by_cases hc : C i
  · refine (step i hi hc _ he).mono fun r hr => ?_
    rw [hr, From.cons hc]
  · exact (out i hi hc).mono fun r hr => by
      rw [hr]
      exact ⟨fun h => absurd h Bool.false_ne_true, fun h => absurd h.1 (From.none hi hc)⟩
theorem same_bool {c : Prop} {r s : Bool} (h : r = true ↔ c) (k : s = true ↔ c) : s = r := Bool.eq_iff_iff.2 (k.trans h.symm)
theorem mem_drop_iff {α : Type} {l : List α} {i : Nat} (h : i < l.length) (a : α) : a ∈ l.drop i ↔ a = l[i] ∨ a ∈ l.drop (i + 1) := by
  rw [List.drop_eq_getElem_cons h, List.mem_cons]
theorem drop_eq_iff {α : Type} {a b : List α} {i : Nat} (ha : i < a.length) (hb : i < b.length) : a.drop i = b.drop i ↔ a[i] = b[i] ∧ a.drop (i + 1) = b.drop (i + 1) := by
  rw [List.drop_eq_getElem_cons ha, List.drop_eq_getElem_cons hb, List.cons.injEq]
/-- A loop with a counter and a state. -/
theorem T_loops {ρ σ : Type} (g : Nat → σ → Nat → Option ρ) (n : Nat) (Inv : Nat → σ → Prop) (P : Nat → σ → ρ → Prop)
    (step : ∀ i s, i < n → Inv i s → (∀ s', Inv (i + 1) s' → Tells (fun k => g k s' (i + 1)) (P (i + 1) s')) → Tells (fun k => g (k + 1) s i) (P i s))
    (fin : ∀ s, Inv n s → Tells (fun k => g (k + 1) s n) (P n s)) : ∀ i s, i ≤ n → Inv i s → Tells (fun k => g k s i) (P i s) := by
  have key : ∀ d i s, i + d = n → Inv i s → Tells (fun k => g k s i) (P i s) := by
    intro d
    induction d with
    | zero =>
      intro i s hi hs
      obtain rfl : i = n := by omega
      exact T_step (fin s hs)
    | succ d ih =>
      intro i s hi hs
      exact T_step (step i s (by omega) hs (fun s' hs' => ih (i + 1) s' (by omega) hs'))
  exact fun i s hi hs => key (n - i) i s (by omega) hs
def FindP {ρ : Type} (n : Nat) (C : Nat → Prop) (got : Nat → ρ) (fin : ρ) (r : ρ) : Prop := (∃ j, j < n ∧ C j ∧ (∀ m, m < j → ¬ C m) ∧ r = got j) ∨ ((∀ j, j < n → ¬ C j) ∧ r = fin)
theorem FindP.same {ρ : Type} {n : Nat} {C : Nat → Prop} {got : Nat → ρ} {fin r s : ρ} (h : FindP n C got fin r) (k : FindP n C got fin s) : s = r := by
  rcases h with ⟨j, a, b, c, rfl⟩ | ⟨a, rfl⟩ <;> rcases k with ⟨j', a', b', c', rfl⟩ | ⟨a', rfl⟩
  · rcases Nat.lt_trichotomy j j' with h | h | h
    · exact absurd b (c' _ h)
    · rw [h]
    · exact absurd b' (c _ h)
  · exact absurd b (a' j a)
  · exact absurd b' (a j' a')
  · rfl
def bump (u : List Int) (a : Int) : List Int := if a = 0 then u else u.set a.toNat (rd u a + 1)
def upsOf (n : Nat) (t : List S104) : List Int := t.foldl (fun u x => bump (bump u x.f0) x.f1) (List.replicate n 0)
def Kid (n i : Nat) (a : Int) : Prop := a = 0 ∨ ((i : Int) + 1 ≤ a ∧ a ≤ (n : Int) - 1)
def TwigC (n i : Nat) (x : S104) : Prop := Kid n i x.f0 ∧ Kid n i x.f1 ∧ (0 ≤ x.f2 ∧ x.f2 ≤ 99)
def TrieP (t : List S104) : Prop := (1 ≤ t.length ∧ t.length ≤ 400) ∧ (∀ i (h : i < t.length), TwigC t.length i t[i]) ∧ ∀ i : Nat, 1 ≤ i → i < t.length → rd (upsOf t.length t) (i : Int) = 1
theorem rd_T104_at (xs : List S104) (i : Nat) (h : i < xs.length) : rd_T104 xs (i : Int) = xs[i] := by simp [rd_T104, List.getD_eq_getElem?_getD, h]
theorem bump_len (u : List Int) (a : Int) : (bump u a).length = u.length := by unfold bump; split <;> simp
theorem rd_set (u : List Int) (j : Nat) (v a : Int) : rd (u.set j v) a = if j = a.toNat ∧ j < u.length then v else rd u a := by
  unfold rd
  simp only [List.getD_eq_getElem?_getD, List.getElem?_set]
  by_cases h : j = a.toNat
  · subst h
    by_cases h2 : a.toNat < u.length
    · simp [h2]
    · simp [h2]
  · simp [h]
theorem bump_rd_ne (u : List Int) (a b : Int) (h : a.toNat ≠ b.toNat ∨ a = 0) : rd (bump u a) b = rd u b := by
  unfold bump
  split
  · rfl
  · rw [rd_set, if_neg (fun k => by rcases h with h | h <;> omega)]
theorem bump_rng (u : List Int) (m : Int) (hm : 0 ≤ m) (h : ∀ a, 0 ≤ rd u a ∧ rd u a ≤ m) (b : Int) : ∀ a, 0 ≤ rd (bump u b) a ∧ rd (bump u b) a ≤ m + 1 := by
  intro a
  unfold bump
  split
  · have := h a
    omega
  · rw [rd_set]
    split
    · have := h b
      omega
    · have := h a
      omega
theorem ups_len (n : Nat) (t : List S104) : (upsOf n t).length = n := by
  unfold upsOf
  have : ∀ (t : List S104) (u : List Int), (t.foldl (fun u x => bump (bump u x.f0) x.f1) u).length = u.length := by
    intro t
    induction t with
    | nil => intro u; rfl
    | cons x t ih =>
      intro u
      rw [List.foldl_cons, ih, bump_len, bump_len]
  rw [this]
  simp
theorem ups_succ (n : Nat) (t : List S104) (i : Nat) (h : i < t.length) : upsOf n (t.take (i + 1)) = bump (bump (upsOf n (t.take i)) t[i].f0) t[i].f1 := by
  unfold upsOf
  rw [List.take_succ_eq_append_getElem h, List.foldl_append]
  rfl
theorem ups_rng (n : Nat) (t : List S104) (i : Nat) (hi : i ≤ t.length) : ∀ a, 0 ≤ rd (upsOf n (t.take i)) a ∧ rd (upsOf n (t.take i)) a ≤ 2 * (i : Int) := by
  induction i with
  | zero =>
    intro a
    have : rd (upsOf n (t.take 0)) a = 0 := by
      simp only [List.take_zero, upsOf, List.foldl_nil, rd, List.getD_eq_getElem?_getD, List.getElem?_replicate]
      split <;> rfl
    omega
  | succ i ih =>
    intro a
    rw [ups_succ n t i (by omega)]
    have := bump_rng _ _ (by omega) (bump_rng _ _ (by omega) (ih (by omega)) (t[i]'(by omega)).f0) (t[i]'(by omega)).f1 a
    omega
/-- Later twigs do not turn an earlier place's number. -/
theorem ups_later (t : List S104) (hC : ∀ i (h : i < t.length), TwigC t.length i t[i]) (a : Nat) : ∀ d m, m + d = t.length → a < m → rd (upsOf t.length t) (a : Int) = rd (upsOf t.length (t.take m)) (a : Int) := by
  intro d
  induction d with
  | zero =>
    intro m hm _
    rw [List.take_of_length_le (by omega)]
  | succ d ih =>
    intro m hm ha
    have hlt : m < t.length := by omega
    rw [ih (m + 1) (by omega) (by omega), ups_succ _ _ _ hlt]
    obtain ⟨h0, h1, _⟩ := hC m hlt
    have h0' : (t[m]).f0.toNat ≠ ((a : Int)).toNat ∨ (t[m]).f0 = 0 := by rcases h0 with h0 | h0 <;> omega
    have h1' : (t[m]).f1.toNat ≠ ((a : Int)).toNat ∨ (t[m]).f1 = 0 := by rcases h1 with h1 | h1 <;> omega
    rw [bump_rd_ne _ _ _ h1', bump_rd_ne _ _ _ h0']
def PfxP (a n : Int) : Prop := (0 ≤ a ∧ a ≤ 4294967295) ∧ (0 ≤ n ∧ n ≤ 32) ∧ a % 2 ^ (32 - n).toNat = 0
def InP (p n a : Int) : Prop := PfxP p n ∧ (0 ≤ a ∧ a ≤ 4294967295) ∧ a - a % 2 ^ (32 - n).toNat = p
instance decPfxP (a n : Int) : Decidable (PfxP a n) := by unfold PfxP; infer_instance
instance decInP (p n a : Int) : Decidable (InP p n a) := by unfold InP; infer_instance
theorem pow_rng (m : Nat) (h : m ≤ 32) : (1 : Int) ≤ 2 ^ m ∧ (2 : Int) ^ m ≤ 4294967296 := by
  have h1 : 2 ^ m ≤ 2 ^ 32 := Nat.pow_le_pow_right (by decide) h
  have h2 : 1 ≤ 2 ^ m := Nat.one_le_two_pow
  have e : ((2 ^ m : Nat) : Int) = (2 : Int) ^ m := by simp
  omega
theorem wrap_i64_in {n : Int} (h0 : -9223372036854775808 ≤ n) (h1 : n ≤ 9223372036854775807) : IntKind.i64.wrap n = n := by
  rw [IntKind.wrap_i64]
  omega
theorem bits_andNot_mask (i : Nat) (hi : i ≤ 32) (x : Int) (h₀ : 0 ≤ x) (h₁ : x ≤ 4294967295) : Go.bits .andNot .i64 x (2 ^ i - 1) = x - x % 2 ^ i := by
  obtain ⟨a, rfl⟩ := Int.eq_ofNat_of_zero_le h₀
  have hp := pow_rng i hi
  have hpn : 1 ≤ 2 ^ i := Nat.one_le_two_pow
  have hc : ((2 : Int) ^ i - 1) = ((2 ^ i - 1 : Nat) : Int) := by
    rw [Int.natCast_sub hpn]; simp
  have ha : a < 2 ^ 64 := by omega
  have hb : 2 ^ i - 1 < 2 ^ 64 := by
    have : 2 ^ i ≤ 2 ^ 32 := Nat.pow_le_pow_right (by decide) hi
    omega
  have hm : (BitVec.ofNat 64 a &&& ~~~ (BitVec.ofNat 64 (2 ^ i - 1))).toNat = a - a % 2 ^ i := by
    have e1 : (BitVec.ofNat 64 a &&& BitVec.ofNat 64 (2 ^ i - 1)).toNat = a % 2 ^ i := by
      rw [BitVec.toNat_and, BitVec.toNat_ofNat, BitVec.toNat_ofNat, Nat.mod_eq_of_lt ha, Nat.mod_eq_of_lt hb, Nat.and_two_pow_sub_one_eq_mod]
    have e2 : (BitVec.ofNat 64 a &&& BitVec.ofNat 64 (2 ^ i - 1)) + (BitVec.ofNat 64 a &&& ~~~ (BitVec.ofNat 64 (2 ^ i - 1))) = BitVec.ofNat 64 a := by
      generalize BitVec.ofNat 64 a = u
      generalize BitVec.ofNat 64 (2 ^ i - 1) = v
      rw [BitVec.add_eq_or_of_and_eq_zero]
      · ext j h
        simp
        cases (u[j]) <;> simp
      · ext j h
        simp
        cases (u[j]) <;> simp
    have e3 := congrArg BitVec.toNat e2
    rw [BitVec.toNat_add, e1, BitVec.toNat_ofNat, Nat.mod_eq_of_lt ha] at e3
    have h4 : (BitVec.ofNat 64 a &&& ~~~ (BitVec.ofNat 64 (2 ^ i - 1))).toNat ≤ a := by
      rw [BitVec.toNat_and, BitVec.toNat_ofNat, Nat.mod_eq_of_lt ha]
      exact Nat.and_le_left
    have h5 : a % 2 ^ i ≤ a := Nat.mod_le _ _
    omega
  have h5 : a % 2 ^ i ≤ a := Nat.mod_le _ _
  rw [hc]
  have e6 : Go.bits .andNot .i64 (a : Int) ((2 ^ i - 1 : Nat) : Int) = IntKind.i64.wrap ((BitVec.ofNat 64 a &&& ~~~ (BitVec.ofNat 64 (2 ^ i - 1))).toNat : Int) := by
    unfold Go.bits
    simp only [BitVec.ofInt_natCast]
    rfl
  rw [e6, hm, wrap_i64_in (by omega) (by omega)]
  have e7 : ((a % 2 ^ i : Nat) : Int) = (a : Int) % 2 ^ i := by simp
  omega

/-- A bit of an address, the greatest one first. -/
def bitAt (a i : Int) : Int := a / 2 ^ (31 - i).toNat % 2
theorem bitAt_01 (a i : Int) : bitAt a i = 0 ∨ bitAt a i = 1 := by unfold bitAt; omega
theorem pfx_of (a n : Int) (h1 : 0 ≤ a ∧ a ≤ 4294967295) (h2 : 0 ≤ n ∧ n ≤ 32) : PfxP (a - a % 2 ^ (32 - n).toNat) n := by
  have hp := pow_rng (32 - n).toNat (by omega)
  have hm0 := Int.emod_nonneg a (show (2 : Int) ^ (32 - n).toNat ≠ 0 by omega)
  have hm1 := Int.emod_lt_of_pos a (show (0 : Int) < 2 ^ (32 - n).toNat by omega)
  have hd := Int.mul_ediv_add_emod a (2 ^ (32 - n).toNat)
  have e : a - a % 2 ^ (32 - n).toNat = 2 ^ (32 - n).toNat * (a / 2 ^ (32 - n).toNat) := by omega
  have hq := Int.mul_nonneg (show (0 : Int) ≤ 2 ^ (32 - n).toNat by omega) (Int.ediv_nonneg h1.1 (show (0 : Int) ≤ 2 ^ (32 - n).toNat by omega))
  exact ⟨by omega, h2, by rw [e]; exact Int.mul_emod_right _ _⟩
def tf (t : List S104) (a : Int) : Nat → Int → Int → Int → Int
  | 0, _, _, dst => dst
  | d + 1, i, p, dst =>
    let q := if bitAt a i = 1 then (rd_T104 t p).f1 else (rd_T104 t p).f0
    if q = 0 then dst else tf t a d (i + 1) q (if (rd_T104 t q).f2 = 0 then dst else (rd_T104 t q).f2)
open Classical in
noncomputable def trieFind (t : List S104) (a : Int) : Int := if TrieP t ∧ 0 ≤ a ∧ a ≤ 4294967295 then tf t a 32 0 0 (rd_T104 t 0).f2 else 0
theorem tf_next (t : List S104) (h : TrieP t) (a i p : Int) (h0 : 0 ≤ p) (h1 : p < t.length) (q : Int) (hq : q = if bitAt a i = 1 then (rd_T104 t p).f1 else (rd_T104 t p).f0) (hq0 : q ≠ 0) : 0 ≤ q ∧ q < t.length := by
  obtain ⟨m, rfl⟩ := Int.eq_ofNat_of_zero_le h0
  have hm : m < t.length := by omega
  obtain ⟨k0, k1, _⟩ := h.2.1 m hm
  rw [rd_T104_at t m hm] at hq
  split at hq
  · rcases k1 with k1 | k1 <;> omega
  · rcases k0 with k0 | k0 <;> omega

/-! laws_szTwigS -/
theorem laws_szTwigS.ev (l : List S132) (a : Int) (h0 : 0 ≤ a) (h1 : a ≤ 1048576) (hl : l.length ≤ maxLen) : Tells (fun _ => laws_szTwigS.f l a) (fun v => v = -1 ∨ (0 ≤ v ∧ v ≤ a ∧ v + l.length ≤ a)) := by
  unfold maxLen at hl
  unfold laws_szTwigS.f
  rw [w64 (x := a - (l.length : Int)) (by omega) (by omega)]
  exact T_ite (fun _ => T_ret (.inl rfl)) (fun _ => T_ret (.inr ⟨by omega, by omega, by omega⟩))

/-! laws_szTrie -/
theorem laws_szTrie.ev (x0 : List (S132)) (a : Int) (h0 : 0 ≤ a) (h1 : a ≤ 1048576) (hx0 : x0.length ≤ maxLen) : Tells (fun k => laws_szTrie.f x0 a) (fun v => v = -1 ∨ (0 ≤ v ∧ v ≤ a ∧ v + x0.length ≤ a)) := by
  unfold laws_szTrie.f
  refine T_bind (laws_szTwigS.ev x0 a (by omega) (by omega) hx0) fun v0 w0 => T_ite (fun _ => T_ret (.inl rfl)) (fun g0 => ?_)
  obtain ⟨p0_0, p0_1, p0_2⟩ := w0.resolve_left (by omega)
  exact T_ret (.inr ⟨by omega, by omega, by omega⟩)

/-! spec_l01In -/
theorem spec_l01In.eq (a b c : Int) : spec_l01In.f a b c = some (decide (b ≤ a ∧ a ≤ c)) := by
  unfold spec_l01In.f
  by_cases h : b ≤ a <;> simp [h]

/-! spec_TrieOk -/
theorem spec_TrieOk.kid0 (t : List S104) (hn : t.length ≤ 400) (u : List Int) (hu : u.length = t.length) (hr : ∀ a, 0 ≤ rd u a ∧ rd u a ≤ 100000) (i : Nat) (hi : i < t.length) (a b : Int) (P : Bool → Prop)
    (h1 : Kid t.length i b → Tells (fun k => spec_TrieOk.l0 k (bump u b) ((i + 1 : Nat) : Int) t) P) (h2 : ¬ Kid t.length i b → P false) : Tells (fun k => spec_TrieOk.l1 k u (i : Int) [a, b] 1 t) P := by
  refine T_step ?_
  simp only [spec_TrieOk.l1, spec_l01In.eq, Option.bind_some, decide_eq_true_eq]
  have e1 : rd [a, b] 1 = b := rfl
  have e2 : wrap64 (1 + 1) = 2 := w64 (by omega) (by omega)
  have hw : wrap64 ((t.length : Int) - 1) = (t.length : Int) - 1 := w64 (by omega) (by omega)
  have last : ∀ v : List Int, Tells (fun k => spec_TrieOk.l0 k v ((i + 1 : Nat) : Int) t) P → Tells (fun k => spec_TrieOk.l1 k v (i : Int) [a, b] (wrap64 (1 + 1)) t) P := by
    intro v hv
    refine T_step ?_
    simp only [spec_TrieOk.l1, e2]
    rw [wsucc hi (by omega)]
    exact T_neg (by omega) hv
  refine T_pos (by omega) (T_pos (by omega) (T_pos (by simp) ?_))
  rw [e1, wsucc hi (by omega), hw]
  refine T_ite (fun h => last _ ?_) (fun h => T_ite (fun h3 => T_pos (by omega) (T_pos (by omega) (last _ ?_))) (fun h3 => T_ret (h2 (fun k => by unfold Kid at k; omega))))
  · have := h1 (.inl h)
    simpa [bump, h] using this
  · have := h1 (.inr (by omega))
    rw [w64 (by have := hr b; omega) (by have := hr b; omega)]
    simpa [bump, h] using this
theorem spec_TrieOk.kids (t : List S104) (hn : t.length ≤ 400) (u : List Int) (hu : u.length = t.length) (hr : ∀ a, 0 ≤ rd u a ∧ rd u a ≤ 10000) (i : Nat) (hi : i < t.length) (a b : Int) (P : Bool → Prop)
    (h1 : Kid t.length i a → Kid t.length i b → Tells (fun k => spec_TrieOk.l0 k (bump (bump u a) b) ((i + 1 : Nat) : Int) t) P) (h2 : ¬ (Kid t.length i a ∧ Kid t.length i b) → P false) : Tells (fun k => spec_TrieOk.l1 k u (i : Int) [a, b] 0 t) P := by
  refine T_step ?_
  simp only [spec_TrieOk.l1, spec_l01In.eq, Option.bind_some, decide_eq_true_eq]
  have e1 : rd [a, b] 0 = a := rfl
  have e2 : wrap64 (0 + 1) = 1 := w64 (by omega) (by omega)
  have hw : wrap64 ((t.length : Int) - 1) = (t.length : Int) - 1 := w64 (by omega) (by omega)
  refine T_pos (by omega) (T_pos (by omega) (T_pos (by simp) ?_))
  rw [e1, e2, wsucc hi (by omega), hw]
  have go : Kid t.length i a → Tells (fun k => spec_TrieOk.l1 k (bump u a) (i : Int) [a, b] 1 t) P := fun ha =>
    spec_TrieOk.kid0 t hn (bump u a) (by rw [bump_len, hu]) (fun x => by have := bump_rng u 10000 (by omega) hr a x; omega) i hi a b P (fun hb => h1 ha hb) (fun hb => h2 (fun k => hb k.2))
  refine T_ite (fun h => ?_) (fun h => T_ite (fun h3 => T_pos (by omega) (T_pos (by omega) ?_)) (fun h3 => T_ret (h2 (fun k => by have := k.1; unfold Kid at this; omega))))
  · have := go (.inl h)
    simpa [bump, h] using this
  · have := go (.inr (by omega))
    rw [w64 (by have := hr a; omega) (by have := hr a; omega)]
    simpa [bump, h] using this
theorem spec_TrieOk.ev (t : List S104) (hm : t.length ≤ 1048576) : Tells (fun k => spec_TrieOk.f k t) (fun r => r = true ↔ TrieP t) := by
  unfold spec_TrieOk.f
  simp only [spec_l01In.eq, Option.bind_some, decide_eq_true_eq]
  refine T_ite (fun h1 => T_pos (by omega) (T_pos (by omega) ?_)) (fun h1 => T_ret (by
    simp only [Bool.false_eq_true, false_iff]
    rintro ⟨h, _⟩
    omega))
  have hn : t.length ≤ 400 := by omega
  have hl : (1 ≤ t.length ∧ t.length ≤ 400) := by omega
  have main := T_loop (fun k i => spec_TrieOk.l0 k (upsOf t.length (t.take i)) (i : Int) t) t.length (fun i r => r = true ↔ (∀ j (h : j < t.length), i ≤ j → TwigC t.length j t[j]) ∧ ∀ j : Nat, 1 ≤ j → j < t.length → rd (upsOf t.length t) (j : Int) = 1) (fun i hi he => ?_) ?_ 0 (Nat.zero_le _)
  · refine Tells.mono (g := fun k => spec_TrieOk.l0 k (List.replicate t.length 0) 0 t) main (fun r hr => ?_)
    · rw [hr]
      exact ⟨fun h => ⟨hl, fun j hj => h.1 j hj (Nat.zero_le _), h.2⟩, fun h => ⟨fun j hj _ => h.2.1 j hj, h.2.2⟩⟩
  · simp only [spec_TrieOk.l0, spec_l01In.eq, Option.bind_some, decide_eq_true_eq, rd_T104_at t i hi]
    refine T_pos (by omega) (T_pos (by omega) (T_ite (fun h2 => ?_) (fun h2 => T_ret ?_)))
    · refine spec_TrieOk.kids t hn _ (ups_len _ _) (fun a => by have := ups_rng t.length t i (by omega) a; omega) i hi _ _ _ (fun ha hb => ?_) (fun hk => ?_)
      · rw [← ups_succ t.length t i hi]
        refine he.mono fun r hr => ?_
        rw [hr]
        refine ⟨fun h => ⟨fun j hj hij => ?_, h.2⟩, fun h => ⟨fun j hj hij => h.1 j hj (by omega), h.2⟩⟩
        by_cases e : j = i
        · subst e
          exact ⟨ha, hb, h2⟩
        · exact h.1 j hj (by omega)
      · simp only [Bool.false_eq_true, false_iff]
        rintro ⟨h, _⟩
        exact hk ⟨(h i hi (Nat.le_refl _)).1, (h i hi (Nat.le_refl _)).2.1⟩
    · simp only [Bool.false_eq_true, false_iff]
      rintro ⟨h, _⟩
      exact h2 (h i hi (Nat.le_refl _)).2.2
  · simp only [spec_TrieOk.l0]
    refine T_neg (by omega) ?_
    have hul : (upsOf t.length (t.take t.length)).length = t.length := ups_len _ _
    have e : t.take t.length = t := List.take_of_length_le (Nat.le_refl _)
    rw [e] at hul ⊢
    refine (T_loop (fun k i => spec_TrieOk.l2 k (upsOf t.length t) ((i : Nat) : Int)) t.length (fun i r => r = true ↔ ∀ j : Nat, i ≤ j → j < t.length → rd (upsOf t.length t) (j : Int) = 1) (fun i hi he => ?_) ?_ 1 (by omega)).mono fun r hr => ?_
    · simp only [spec_TrieOk.l2]
      rw [wsucc hi (by omega)]
      refine T_pos (by omega) (T_pos (by omega) (T_ite (fun h => he.mono fun r hr => ?_) (fun h => T_ret ?_)))
      · rw [hr]
        refine ⟨fun k j a b => ?_, fun k j a b => k j (by omega) b⟩
        by_cases e : j = i
        · subst e; exact h
        · exact k j (by omega) b
      · simp only [Bool.false_eq_true, false_iff]
        exact fun k => h (k i (Nat.le_refl _) hi)
    · simp only [spec_TrieOk.l2]
      exact T_neg (by omega) (T_ret (by simp; intro j a b; omega))
    · rw [hr]
      exact ⟨fun k => ⟨fun j hj hjj => absurd hj (by omega), k⟩, fun k => k.2⟩

/-! spec_AddrOk -/
theorem spec_AddrOk.eq (a : Int) : spec_AddrOk.f a = some (decide (0 ≤ a ∧ a ≤ 4294967295)) := by
  unfold spec_AddrOk.f
  simp [spec_l01In.eq]

/-! spec_l08Size -/
theorem spec_l08Size.ev (n : Int) (h0 : 0 ≤ n) (h1 : n ≤ 32) : Tells (fun k => spec_l08Size.f k n) (· = 2 ^ (32 - n).toNat) := by
  obtain ⟨m, rfl⟩ := Int.eq_ofNat_of_zero_le h0
  unfold spec_l08Size.f
  have hd : ∀ j : Fin 32, wrap64 (2 * 2 ^ j.val) = 2 ^ (j.val + 1) := by decide +kernel
  have h := T_loop' (fun k i => spec_l08Size.l0 k (2 ^ i) ((m + i : Nat) : Int)) (32 - m) (· = 2 ^ (32 - m)) (fun i hi he => ?_) ?_
  · rw [show (32 - (m : Int)).toNat = 32 - m by omega]
    simpa using h
  · simp only [spec_l08Size.l0]
    refine T_pos (by omega) ?_
    rw [hd ⟨i, by omega⟩, wsucc (n := 32) (by omega) (by omega)]
    exact he
  · simp only [spec_l08Size.l0]
    exact T_neg (by omega) (T_ret rfl)

/-! spec_l10Bit -/
theorem spec_l10Bit.ev (a i : Int) (h0 : 0 ≤ a) (h1 : a ≤ 4294967295) (i0 : 0 ≤ i) (i1 : i ≤ 31) : Tells (fun k => spec_l10Bit.f k a i) (· = bitAt a i) := by
  unfold spec_l10Bit.f bitAt
  refine T_bind (spec_l08Size.ev i i0 (by omega)) ?_
  rintro _ rfl
  have hp := pow_rng (31 - i).toNat (by omega)
  have e : (2 : Int) ^ (32 - i).toNat = 2 * 2 ^ (31 - i).toNat := by
    rw [show (32 - i).toNat = (31 - i).toNat + 1 by omega, Int.pow_succ, Int.mul_comm]
  have e2 : Int.tdiv (2 ^ (32 - i).toNat) 2 = 2 ^ (31 - i).toNat := by rw [Int.tdiv_eq_ediv_of_nonneg (by omega), e]; omega
  rw [e2, w64 (by omega) (by omega)]
  refine T_neg (by omega) (T_ret ?_)
  have d0 : 0 ≤ a / 2 ^ (31 - i).toNat := Int.ediv_nonneg h0 (by omega)
  have d1 : a / 2 ^ (31 - i).toNat ≤ a := Int.ediv_le_self _ h0
  rw [Int.tdiv_eq_ediv_of_nonneg h0, w64 (by omega) (by omega), Int.tmod_eq_emod_of_nonneg d0]

/-! spec_TrieFind -/
theorem spec_TrieFind.ev (t : List S104) (a : Int) (hm : t.length ≤ 1048576) : Tells (fun k => spec_TrieFind.f k t a) (· = trieFind t a) := by
  have loop : TrieP t → 0 ≤ a → a ≤ 4294967295 → ∀ dst, Tells (fun k => spec_TrieFind.l0 k a dst 0 0 t) (· = tf t a 32 0 0 dst) := by
    intro hT a0 a1 dst
    have hl := hT.1
    refine T_loops (fun k (s : Int × Int) i => spec_TrieFind.l0 k a s.1 s.2 (i : Int) t) 32 (fun _ s => 0 ≤ s.2 ∧ s.2 < t.length) (fun i s r => r = tf t a (32 - i) (i : Int) s.2 s.1) (fun i s hi hs ih => ?_) (fun s _ => ?_) 0 (dst, 0) (Nat.zero_le _) ⟨by show (0 : Int) ≤ 0; omega, by show (0 : Int) < _; omega⟩
    · obtain ⟨d, p⟩ := s
      dsimp only at hs
      simp only [spec_TrieFind.l0]
      have e : 32 - i = (32 - (i + 1)) + 1 := by omega
      have er : tf t a (32 - i) (i : Int) p d = (let q := if bitAt a i = 1 then (rd_T104 t p).f1 else (rd_T104 t p).f0
        if q = 0 then d else tf t a (32 - (i + 1)) ((i : Int) + 1) q (if (rd_T104 t q).f2 = 0 then d else (rd_T104 t q).f2)) := by rw [e]; rfl
      rw [er]
      have join : ∀ q, (q = if bitAt a i = 1 then (rd_T104 t p).f1 else (rd_T104 t p).f0) → Tells (fun k => spec_TrieFind.j2 k a d (i : Int) q t) (fun r => r = if q = 0 then d else tf t a (32 - (i + 1)) ((i : Int) + 1) q (if (rd_T104 t q).f2 = 0 then d else (rd_T104 t q).f2)) := by
        intro q hq
        refine T_step ?_
        simp only [spec_TrieFind.j2]
        rw [wsucc hi (by omega)]
        refine T_ite (fun h => T_ret (by rw [if_pos h])) (fun h => ?_)
        rw [if_neg h]
        have hn := tf_next t hT a i p hs.1 hs.2 q hq h
        refine T_pos hn.1 (T_pos hn.2 (T_ite (fun h2 => ?_) (fun h2 => ?_)))
        · rw [if_pos h2]
          exact ih (d, q) hn
        · rw [if_neg h2]
          exact ih (_, q) hn
      refine T_pos (by omega) (T_pos hs.1 (T_pos hs.2 (T_bind (spec_l10Bit.ev a i a0 a1 (by omega) (by omega)) ?_)))
      rintro _ rfl
      refine T_ite (fun h => ?_) (fun h => ?_)
      · have := join _ (by rw [if_pos h])
        simpa only [if_pos h] using this
      · have := join _ (by rw [if_neg h])
        simpa only [if_neg h] using this
    · simp only [spec_TrieFind.l0]
      exact T_neg (by omega) (T_ret (by rw [Nat.sub_self]; rfl))
  have join : ∀ b : Bool, (b = false → TrieP t ∧ 0 ≤ a ∧ a ≤ 4294967295) → Tells (fun k => spec_TrieFind.j0 k a b t) (· = if b = true then 0 else tf t a 32 0 0 (rd_T104 t 0).f2) := by
    intro b hb
    refine T_step ?_
    simp only [spec_TrieFind.j0]
    cases b
    · obtain ⟨hT, a0, a1⟩ := hb rfl
      have hl := hT.1
      exact T_neg (by simp) (T_pos (by omega) ((loop hT a0 a1 _).mono fun r hr => by rw [hr]; rfl))
    · exact T_pos rfl (T_ret rfl)
  unfold spec_TrieFind.f trieFind
  refine T_bind (spec_TrieOk.ev t hm) fun q hq => T_ite (fun h => ?_) (fun h => ?_)
  · simp only [spec_AddrOk.eq, Option.bind_some]
    refine (join _ (fun hb => ⟨hq.1 h, by simpa using hb⟩)).mono fun r hr => ?_
    rw [hr]
    by_cases h2 : 0 ≤ a ∧ a ≤ 4294967295
    · have e : (!decide (0 ≤ a ∧ a ≤ 4294967295)) = false := by simp [h2]
      rw [e, if_neg (by simp), if_pos ⟨hq.1 h, h2⟩]
    · have e : (!decide (0 ≤ a ∧ a ≤ 4294967295)) = true := by simp [h2]
      rw [e, if_pos rfl, if_neg (fun k => h2 k.2)]
  · refine (join _ (fun hb => by cases hb)).mono fun r hr => ?_
    rw [hr, if_pos rfl, if_neg (fun k => h (hq.2 k.1))]

/-! laws_toTwig -/
theorem laws_toTwig.ev (x0 : Int) (x1 : Int) (x2 : Int)  : Tells (fun k => laws_toTwig.f x0 x1 x2) (· = (x0, x1, x2)) := by
  unfold laws_toTwig.f
  exact T_ret rfl

/-! laws_toTwigS -/
theorem rd_T132_nat (xs : List S132) (i : Nat) (h : i < xs.length) : rd_T132 xs (i : Int) = xs[i] := by simp [rd_T132, List.getD_eq_getElem?_getD, h]
def to_Twig (x : S132) : S104 := ⟨x.f0, x.f1, x.f2⟩
theorem laws_toTwigS.ev (l : List S132) (hn : l.length ≤ 1048576) : Tells (fun k => laws_toTwigS.f k l) (· = l.map to_Twig) := by
  have h := T_loop' (fun k i => laws_toTwigS.l0 k l ((l.take i).map to_Twig ++ List.replicate (l.length - i) z104) (i : Int)) l.length (· = l.map to_Twig) (fun i hi hh => by
    simp only [laws_toTwigS.l0, rd_T132_nat l i hi]
    refine T_pos (by omega) (T_pos (by omega) (T_bind (laws_toTwig.ev _ _ _) ?_))
    rintro _ rfl
    refine T_pos (by simp; omega) ?_
    have e := set_copy_map l to_Twig z104 i hi (⟨l[i].f0, l[i].f1, l[i].f2⟩ : S104) rfl
    dsimp only
    rw [Int.toNat_natCast, e, wsucc hi (by omega)]
    exact hh) (by
    simp only [laws_toTwigS.l0]
    exact T_neg (by omega) (T_ret (by simp)))
  unfold laws_toTwigS.f
  refine T_pos (by omega) (T_pos (by omega) ?_)
  simpa using h

/-! laws_toTrie -/
theorem laws_toTrie.ev (x0 : List (S132)) (hx0 : x0.length ≤ 1048576) : Tells (fun k => laws_toTrie.f k x0) (· = (x0.map to_Twig)) := by
  unfold laws_toTrie.f
  refine T_bind (laws_toTwigS.ev x0 hx0) ?_
  rintro _ rfl
  exact T_ret rfl

/-! impl_within -/
theorem impl_within.eq (a b c : Int) : impl_within.f a b c = some (decide (b ≤ a ∧ a ≤ c)) := by
  unfold impl_within.f
  by_cases h : b ≤ a <;> simp [h]

/-! impl_TrieOk -/
theorem impl_TrieOk.ev (t : List S104) (hm : t.length ≤ 1048576) : Tells (fun k => impl_TrieOk.f k t) (fun r => r = true ↔ TrieP t) := by
  unfold impl_TrieOk.f
  simp only [impl_within.eq, Option.bind_some, decide_eq_true_eq]
  refine T_ite (fun h1 => T_pos (by omega) (T_pos (by omega) ?_)) (fun h1 => T_ret (by
    simp only [Bool.false_eq_true, false_iff]
    rintro ⟨h, _⟩
    omega))
  have hn : t.length ≤ 400 := by omega
  have hl : (1 ≤ t.length ∧ t.length ≤ 400) := by omega
  -- one kid
  have kid : ∀ (u : List Int) (i : Nat) (hi : i < t.length) (a b c : Int) (m : Nat) (hmm : m < 2) (P : Bool → Prop), u.length = t.length → (∀ x, 0 ≤ rd u x ∧ rd u x ≤ 100000) →
      (Kid t.length i (rd [a, b] (m : Int)) → Tells (fun k => impl_TrieOk.l1 k (t.length : Int) (bump u (rd [a, b] (m : Int))) (i : Int) t (t.length : Int) (i : Int) [a, b] 2 ((m + 1 : Nat) : Int) a b c) P) → (¬ Kid t.length i (rd [a, b] (m : Int)) → P false) →
      Tells (fun k => impl_TrieOk.l1 k (t.length : Int) u (i : Int) t (t.length : Int) (i : Int) [a, b] 2 (m : Int) a b c) P := by
    intro u i hi a b c m hmm P hu hr go bad
    refine T_step ?_
    simp only [impl_TrieOk.l1, impl_within.eq, Option.bind_some]
    have hw : wrap64 ((t.length : Int) - 1) = (t.length : Int) - 1 := w64 (by omega) (by omega)
    rw [wsucc hi (by omega), hw]
    refine T_pos (by omega) (T_pos (by omega) (T_pos (by simp; omega) ?_))
    refine T_ite (fun h => T_step ?_) (fun h => T_step ?_)
    · simp only [impl_TrieOk.j2]
      rw [wsucc hmm (by omega)]
      refine T_neg (by simp) (T_pos h ?_)
      have := go (.inl h)
      simpa [bump, h] using this
    · simp only [impl_TrieOk.j2]
      rw [wsucc hmm (by omega)]
      refine T_ite (fun h3 => T_ret (bad (fun k => ?_))) (fun h3 => T_neg h ?_)
      · unfold Kid at k
        simp at h3
        omega
      · simp at h3
        refine T_pos (by omega) (T_pos (by omega) ?_)
        have := go (.inr (by omega))
        rw [w64 (by have := hr (rd [a, b] (m : Int)); omega) (by have := hr (rd [a, b] (m : Int)); omega)]
        simpa [bump, h] using this
  have main := T_loop (fun k i => impl_TrieOk.l0 k (t.length : Int) (upsOf t.length (t.take i)) t (t.length : Int) (i : Int)) t.length
    (fun i r => r = true ↔ (∀ j (h : j < t.length), i ≤ j → TwigC t.length j t[j]) ∧ ∀ j : Nat, i ≤ j → 1 ≤ j → j < t.length → rd (upsOf t.length (t.take (j + 1))) (j : Int) = 1) (fun i hi he => ?_) ?_ 0 (Nat.zero_le _)
  · refine Tells.mono (g := fun k => impl_TrieOk.l0 k (t.length : Int) (List.replicate t.length 0) t (t.length : Int) 0) main (fun r hr => ?_)
    · rw [hr]
      refine ⟨fun h => ⟨hl, fun j hj => h.1 j hj (Nat.zero_le _), fun j h1 h2 => ?_⟩, fun h => ⟨fun j hj _ => h.2.1 j hj, fun j _ h1 h2 => ?_⟩⟩
      · rw [ups_later t (fun j hj => h.1 j hj (Nat.zero_le _)) j (t.length - (j + 1)) (j + 1) (by omega) (by omega)]
        exact h.2 j (Nat.zero_le _) h1 h2
      · rw [← ups_later t h.2.1 j (t.length - (j + 1)) (j + 1) (by omega) (by omega)]
        exact h.2.2 j h1 h2
  · simp only [impl_TrieOk.l0, Option.bind_some, rd_T104_at t i hi]
    refine T_pos (by omega) (T_pos (by omega) (T_pos (by omega) ?_))
    have hnot : ¬ TwigC t.length i t[i] → (false = true ↔ (∀ j (h : j < t.length), i ≤ j → TwigC t.length j t[j]) ∧ ∀ j : Nat, i ≤ j → 1 ≤ j → j < t.length → rd (upsOf t.length (t.take (j + 1))) (j : Int) = 1) := fun h => by
      simp only [Bool.false_eq_true, false_iff]
      exact fun k => h (k.1 i hi (Nat.le_refl _))
    have hlen : (upsOf t.length (t.take i)).length = t.length := ups_len _ _
    have hrng : ∀ a, 0 ≤ rd (upsOf t.length (t.take i)) a ∧ rd (upsOf t.length (t.take i)) a ≤ 10000 := fun a => by have := ups_rng t.length t i (by omega) a; omega
    refine kid _ i hi _ _ _ 0 (by omega) _ hlen (fun a => by have := hrng a; omega) (fun ha => ?_) (fun ha => hnot (fun k => ha k.1))
    refine kid _ i hi _ _ _ 1 (by omega) _ (by rw [bump_len, hlen]) (fun a => by have := bump_rng _ 10000 (by omega) hrng (rd [(t[i]).f0, (t[i]).f1] ((0 : Nat) : Int)) a; omega) (fun hb => ?_) (fun hb => hnot (fun k => hb k.2.1))
    refine T_step ?_
    simp only [impl_TrieOk.l1, impl_within.eq, Option.bind_some, decide_eq_true_eq]
    refine T_neg (by omega) ?_
    rw [wsucc hi (by omega)]
    have e1 : bump (bump (upsOf t.length (t.take i)) (rd [(t[i]).f0, (t[i]).f1] ((0 : Nat) : Int))) (rd [(t[i]).f0, (t[i]).f1] ((1 : Nat) : Int)) = upsOf t.length (t.take (i + 1)) := (ups_succ t.length t i hi).symm
    rw [e1]
    have hlen2 : (upsOf t.length (t.take (i + 1))).length = t.length := ups_len _ _
    refine T_ite (fun h2 => ?_) (fun h2 => T_ret (hnot (fun k => h2 k.2.2)))
    have ok : TwigC t.length i t[i] := ⟨ha, hb, h2⟩
    have step : ∀ (hu : 1 ≤ i → rd (upsOf t.length (t.take (i + 1))) (i : Int) = 1), Tells (fun k => impl_TrieOk.l0 k (t.length : Int) (upsOf t.length (t.take (i + 1))) t (t.length : Int) ((i + 1 : Nat) : Int)) (fun r => r = true ↔ (∀ j (h : j < t.length), i ≤ j → TwigC t.length j t[j]) ∧ ∀ j : Nat, i ≤ j → 1 ≤ j → j < t.length → rd (upsOf t.length (t.take (j + 1))) (j : Int) = 1) := by
      intro hu
      refine he.mono fun r hr => ?_
      rw [hr]
      refine ⟨fun h => ⟨fun j hj hij => ?_, fun j hij h1 hj => ?_⟩, fun h => ⟨fun j hj hij => h.1 j hj (by omega), fun j hij h1 hj => h.2 j (by omega) h1 hj⟩⟩
      · by_cases e : j = i
        · subst e; exact ok
        · exact h.1 j hj (by omega)
      · by_cases e : j = i
        · subst e; exact hu h1
        · exact h.2 j (by omega) h1 hj
    refine T_ite (fun h3 => T_pos (by omega) (T_pos (by omega) (T_ite (fun h4 => step (fun _ => h4)) (fun h4 => T_ret ?_)))) (fun h3 => step (fun h => by omega))
    simp only [Bool.false_eq_true, false_iff]
    exact fun k => h4 (k.2 i (Nat.le_refl _) (by omega) hi)
  · simp only [impl_TrieOk.l0]
    exact T_neg (by omega) (T_ret (by
      simp only [true_iff]
      exact ⟨fun j hj hjj => absurd hj (by omega), fun j a b c => absurd c (by omega)⟩))

/-! impl_AddrOk -/
theorem impl_AddrOk.eq (a : Int) : impl_AddrOk.f a = some (decide (0 ≤ a ∧ a ≤ 4294967295)) := by
  unfold impl_AddrOk.f
  simp [impl_within.eq]

/-! impl_along -/
theorem impl_along.eq (z o dst b : Int) (hb : b = 0 ∨ b = 1) : impl_along.f z o dst b = some (if b = 1 then o else z) := by
  unfold impl_along.f
  rcases hb with rfl | rfl <;> simp

/-! impl_bitOf -/
theorem impl_bitOf.eq (a i : Int) (h0 : 0 ≤ a) (h1 : a ≤ 4294967295) (i0 : 0 ≤ i) (i1 : i ≤ 31) : impl_bitOf.f a i = some (bitAt a i) := by
  unfold impl_bitOf.f bitAt
  rw [w64 (x := 31 - i) (by omega) (by omega), if_pos (by omega)]
  have e : shr .i64 a (31 - i) = a / 2 ^ (31 - i).toNat := by
    unfold shr
    rw [show min (31 - i).toNat IntKind.i64.bits = (31 - i).toNat from Nat.min_eq_left (by show _ ≤ 64; omega)]
  have hp := pow_rng (31 - i).toNat (by omega)
  have d0 : 0 ≤ a / 2 ^ (31 - i).toNat := Int.ediv_nonneg h0 (by omega)
  have d1 : a / 2 ^ (31 - i).toNat ≤ a := Int.ediv_le_self _ h0
  have m := bits_mask .i64 62 (by decide) (fun x h0 h1 => wrap_i64_in (by omega) (by omega)) 1 (by omega) (a / 2 ^ (31 - i).toNat) d0 (by omega)
  rw [e]
  exact congrArg some m

/-! impl_TrieFind -/
theorem impl_TrieFind.ev (t : List S104) (a : Int) (hm : t.length ≤ 1048576) : Tells (fun k => impl_TrieFind.f k t a) (· = trieFind t a) := by
  have loop : TrieP t → 0 ≤ a → a ≤ 4294967295 → ∀ dst, Tells (fun k => impl_TrieFind.l0 k a 0 dst 0 t) (· = tf t a 32 0 0 dst) := by
    intro hT a0 a1 dst
    have hl := hT.1
    refine T_loops (fun k (s : Int × Int) i => impl_TrieFind.l0 k a s.2 s.1 (i : Int) t) 32 (fun _ s => 0 ≤ s.2 ∧ s.2 < t.length) (fun i s r => r = tf t a (32 - i) (i : Int) s.2 s.1) (fun i s hi hs ih => ?_) (fun s _ => ?_) 0 (dst, 0) (Nat.zero_le _) ⟨by show (0 : Int) ≤ 0; omega, by show (0 : Int) < _; omega⟩
    · obtain ⟨d, p⟩ := s
      dsimp only at hs
      simp only [impl_TrieFind.l0]
      have e : 32 - i = (32 - (i + 1)) + 1 := by omega
      have er : tf t a (32 - i) (i : Int) p d = (let q := if bitAt a i = 1 then (rd_T104 t p).f1 else (rd_T104 t p).f0
        if q = 0 then d else tf t a (32 - (i + 1)) ((i : Int) + 1) q (if (rd_T104 t q).f2 = 0 then d else (rd_T104 t q).f2)) := by rw [e]; rfl
      rw [er, wsucc hi (by omega)]
      refine T_pos (by omega) (T_pos hs.1 (T_pos hs.2 ?_))
      simp only [impl_bitOf.eq a i a0 a1 (by omega) (by omega), Option.bind_some, impl_along.eq _ _ _ _ (bitAt_01 a i)]
      generalize hq : (if bitAt a i = 1 then (rd_T104 t p).f1 else (rd_T104 t p).f0) = q
      refine T_ite (fun h => T_ret (by rw [if_pos h])) (fun h => ?_)
      rw [if_neg h]
      have hn := tf_next t hT a i p hs.1 hs.2 q hq.symm h
      refine T_pos hn.1 (T_pos hn.2 (T_ite (fun h2 => ?_) (fun h2 => ?_)))
      · rw [if_pos h2]
        exact ih (d, q) hn
      · rw [if_neg h2]
        exact ih (_, q) hn
    · simp only [impl_TrieFind.l0]
      exact T_neg (by omega) (T_ret (by rw [Nat.sub_self]; rfl))
  have join : ∀ b : Bool, (b = false → TrieP t ∧ 0 ≤ a ∧ a ≤ 4294967295) → Tells (fun k => impl_TrieFind.j0 k a b t) (· = if b = true then 0 else tf t a 32 0 0 (rd_T104 t 0).f2) := by
    intro b hb
    refine T_step ?_
    simp only [impl_TrieFind.j0]
    cases b
    · obtain ⟨hT, a0, a1⟩ := hb rfl
      have hl := hT.1
      exact T_neg (by simp) (T_pos (by omega) ((loop hT a0 a1 _).mono fun r hr => by rw [hr]; rfl))
    · exact T_pos rfl (T_ret rfl)
  unfold impl_TrieFind.f trieFind
  refine T_bind (impl_TrieOk.ev t hm) fun q hq => T_ite (fun h => ?_) (fun h => ?_)
  · simp only [impl_AddrOk.eq, Option.bind_some]
    refine (join _ (fun hb => ⟨hq.1 h, by simpa using hb⟩)).mono fun r hr => ?_
    rw [hr]
    by_cases h2 : 0 ≤ a ∧ a ≤ 4294967295
    · have e : (!decide (0 ≤ a ∧ a ≤ 4294967295)) = false := by simp [h2]
      rw [e, if_neg (by simp), if_pos ⟨hq.1 h, h2⟩]
    · have e : (!decide (0 ≤ a ∧ a ≤ 4294967295)) = true := by simp [h2]
      rw [e, if_pos rfl, if_neg (fun k => h2 k.2)]
  · refine (join _ (fun hb => by cases hb)).mono fun r hr => ?_
    rw [hr, if_pos rfl, if_neg (fun k => h (hq.2 k.1))]

/-! laws_eqTwig -/
theorem laws_eqTwig.ev (x0 : Int) (x1 : Int) (x2 : Int)  : Tells (fun k => laws_eqTwig.f x0 x1 x2 x0 x1 x2) (· = true) := by
  unfold laws_eqTwig.f
  refine T_pos rfl ?_
  refine T_pos rfl ?_
  refine T_pos rfl ?_
  exact T_ret rfl

/-! laws_eqTwigS -/
theorem rd_T104_nat (xs : List S104) (i : Nat) (h : i < xs.length) : rd_T104 xs (i : Int) = xs[i] := by simp [rd_T104, List.getD_eq_getElem?_getD, h]
theorem laws_eqTwigS.ev (l : List S104) (hn : l.length ≤ 1048576) : Tells (fun k => laws_eqTwigS.f k l l) (· = true) := by
  unfold laws_eqTwigS.f
  refine T_pos rfl (T_loop' (fun k i => laws_eqTwigS.l0 k l l (i : Int)) l.length (· = true) (fun i hi hh => ?_) ?_)
  · simp only [laws_eqTwigS.l0, rd_T104_nat l i hi]
    rw [wsucc hi (by omega)]
    refine T_pos (by omega) (T_pos (by omega) (T_pos (by omega) (T_bind (laws_eqTwig.ev _ _ _) ?_)))
    rintro _ rfl
    exact T_pos rfl hh
  · simp only [laws_eqTwigS.l0]
    exact T_neg (by omega) (T_ret rfl)

/-! laws_eqTrie -/
theorem laws_eqTrie.ev (x0 : List (S104)) (hx0 : x0.length ≤ 1048576) : Tells (fun k => laws_eqTrie.f k x0 x0) (· = true) := by
  unfold laws_eqTrie.f
  refine T_bind (laws_eqTwigS.ev x0 hx0) ?_
  rintro _ rfl
  refine T_pos rfl ?_
  exact T_ret rfl

theorem FnExactTrieFind : laws_FnExactTrieFind.Goal := by
  rintro l a ⟨hl, _, _⟩ _
  refine Tells.rounds ?_
  unfold laws_FnExactTrieFind.f
  refine T_bind (laws_szTrie.ev l 1048576 (by omega) (by omega) hl) fun v hv => T_ite (fun _ => T_ret rfl) (fun h => ?_)
  obtain ⟨p0, p1, p2⟩ := hv.resolve_left (by omega)
  have hn : l.length ≤ 1048576 := by omega
  have hm : (l.map to_Twig).length ≤ 1048576 := by simpa using hn
  refine T_bind (laws_toTrie.ev l hn) ?_
  rintro _ rfl
  refine T_bind (spec_TrieFind.ev _ a hm) ?_
  rintro _ rfl
  refine T_bind (laws_toTrie.ev l hn) ?_
  rintro _ rfl
  refine T_bind (impl_TrieFind.ev _ a hm) ?_
  rintro _ rfl
  refine T_pos rfl ?_
  refine T_bind (laws_toTrie.ev l hn) ?_
  rintro _ rfl
  refine T_bind (laws_eqTrie.ev _ hm) ?_
  rintro _ rfl
  exact T_pos rfl (T_ret rfl)

end Go.Proofs.Ytbddppnhpapfkaa.Pure
