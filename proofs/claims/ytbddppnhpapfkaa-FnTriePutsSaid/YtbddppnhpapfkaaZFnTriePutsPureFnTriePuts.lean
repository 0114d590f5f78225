/- FnTriePuts: the pure statement, proved: for every input of the law its printed function answers true. No condition. -/
import Derived.Test.YtbddppnhpapfkaaZFnTriePutsGoalFnTriePuts
namespace Go.Proofs.Ytbddppnhpapfkaa.Pure
open Go.RowKit Go.Proofs.Ytbddppnhpapfkaa.PFnTriePuts Go.Proofs.YtbddppnhpapfkaaW.PrintWords Go.Proofs.YtbddppnhpapfkaaW.PrintLast Go.Proofs.YtbddppnhpapfkaaW.PrintMore
set_option linter.unusedVariables false
set_option linter.unusedSimpArgs false
theorem w64 {x : Int} (h0 : -9223372036854775808 ≤ x) (h1 : x ≤ 9223372036854775807) : wrap64 x = x := by unfold wrap64; omega
theorem wsucc {i n : Nat} (h : i < n) (hn : n ≤ 9223372036854775807) : wrap64 ((i : Int) + 1) = ((i + 1 : Nat) : Int) := by unfold wrap64; omega
theorem wf64 {x : Int} (h : (Lit.int .i64 x).wf = true) : -9223372036854775808 ≤ x ∧ x ≤ 9223372036854775807 := by
  have h' : IntKind.i64.min ≤ x ∧ x ≤ IntKind.i64.max := by simpa [Lit.wf] using h
  exact h'
/-- From some number of rounds on it answers, and what it answers is so. -/
def Tells {α : Type} (g : Nat → Option α) (P : α → Prop) : Prop := ∃ r, P r ∧ Ev g r
theorem Tells.ev {α : Type} {g : Nat → Option α} {r : α} (h : Tells g (· = r)) : Ev g r := by
  obtain ⟨x, rfl, h⟩ := h
  exact h
theorem Tells.of {α : Type} {g : Nat → Option α} {r : α} (h : Ev g r) : Tells g (· = r) := ⟨r, rfl, h⟩
theorem Tells.rounds {α : Type} {g : Nat → Option α} {r : α} (h : Tells g (· = r)) : ∃ k, g k = some r := h.ev.rounds
theorem Tells.now {α : Type} {g : Option α} {r : α} (h : Tells (fun _ => g) (· = r)) : g = some r := by
  obtain ⟨K, h⟩ := h.ev
  exact h K (Nat.le_refl _)
theorem Tells.mono {α : Type} {g : Nat → Option α} {P Q : α → Prop} (h : Tells g P) (k : ∀ x, P x → Q x) : Tells g Q := by
  obtain ⟨x, hp, h⟩ := h
  exact ⟨x, k x hp, h⟩
theorem T_ret {α : Type} {P : α → Prop} {r : α} (h : P r) : Tells (fun _ => some r) P := ⟨r, h, Ev.now r⟩
theorem T_ite {α : Type} {c : Prop} {d : Decidable c} {f g : Nat → Option α} {P : α → Prop} (h1 : c → Tells f P) (h2 : ¬ c → Tells g P) : Tells (fun k => @ite _ c d (f k) (g k)) P := by
  by_cases h : c
  · obtain ⟨r, hp, he⟩ := h1 h
    exact ⟨r, hp, Ev.congr (fun k => if_pos h) he⟩
  · obtain ⟨r, hp, he⟩ := h2 h
    exact ⟨r, hp, Ev.congr (fun k => if_neg h) he⟩
theorem T_pos {α : Type} {c : Prop} {d : Decidable c} {f g : Nat → Option α} {P : α → Prop} (h : c) (hf : Tells f P) : Tells (fun k => @ite _ c d (f k) (g k)) P := T_ite (fun _ => hf) (fun h' => absurd h h')
theorem T_neg {α : Type} {c : Prop} {d : Decidable c} {f g : Nat → Option α} {P : α → Prop} (h : ¬ c) (hg : Tells g P) : Tells (fun k => @ite _ c d (f k) (g k)) P := T_ite (fun h' => absurd h' h) (fun _ => hg)
theorem T_bind {α β : Type} {g : Nat → Option α} {f : Nat → α → Option β} {Q : α → Prop} {P : β → Prop} (h : Tells g Q) (k : ∀ x, Q x → Tells (fun n => f n x) P) : Tells (fun n => (g n).bind (f n)) P := by
  obtain ⟨x, hq, he⟩ := h
  obtain ⟨r, hp, he'⟩ := k x hq
  exact ⟨r, hp, Ev.bind he he'⟩
theorem T_step {α : Type} {g : Nat → Option α} {P : α → Prop} (h : Tells (fun k => g (k + 1)) P) : Tells g P := by
  obtain ⟨r, hp, he⟩ := h
  exact ⟨r, hp, Ev.step (fun _ => rfl) he⟩
theorem T_eq {α : Type} {g f : Nat → Option α} {P : α → Prop} (h : ∀ k, g k = f k) (hf : Tells f P) : Tells g P := by
  obtain ⟨r, hp, he⟩ := hf
  exact ⟨r, hp, Ev.congr h he⟩
theorem T_some {α : Type} {g : Nat → Option α} {P : α → Prop} {r : α} (h : ∀ k, g k = some r) (hp : P r) : Tells g P := T_eq h (T_ret hp)
theorem T_unique {α : Type} {g : Nat → Option α} {P : α → Prop} {r : α} (h : Tells g P) (h' : Tells g (· = r)) : P r := by
  obtain ⟨x, hp, K, h⟩ := h
  obtain ⟨K', h'⟩ := h'.ev
  have a := h (max K K') (by omega)
  have b := h' (max K K') (by omega)
  rw [a] at b
  exact Option.some.inj b ▸ hp
/-- A loop with a counter, from the last round back. -/
theorem T_loop {ρ : Type} (g : Nat → Nat → Option ρ) (n : Nat) (P : Nat → ρ → Prop)
    (step : ∀ i, i < n → Tells (fun k => g k (i + 1)) (P (i + 1)) → Tells (fun k => g (k + 1) i) (P i)) (fin : Tells (fun k => g (k + 1) n) (P n)) : ∀ i, i ≤ n → Tells (fun k => g k i) (P i) := by
  have key : ∀ d i, i + d = n → Tells (fun k => g k i) (P i) := by
    intro d
    induction d with
    | zero =>
      intro i hi
      obtain rfl : i = n := by omega
      exact T_step fin
    | succ d ih =>
      intro i hi
      exact T_step (step i (by omega) (ih (i + 1) (by omega)))
  exact fun i hi => key (n - i) i (by omega)
/-- A loop whose answer does not hang on the round. -/
theorem T_loop' {ρ : Type} (g : Nat → Nat → Option ρ) (n : Nat) (P : ρ → Prop)
    (step : ∀ i, i < n → Tells (fun k => g k (i + 1)) P → Tells (fun k => g (k + 1) i) P) (fin : Tells (fun k => g (k + 1) n) P) : Tells (fun k => g k 0) P :=
  T_loop g n (fun _ => P) step fin 0 (Nat.zero_le _)
/-- What holds of all from a round on. -/
def From (C : Nat → Prop) (n i : Nat) : Prop := ∀ j, i ≤ j → j < n → C j
theorem From.cons {C : Nat → Prop} {n i : Nat} (h : C i) : From C n (i + 1) ↔ From C n i := by
  refine ⟨fun k j a b => ?_, fun k j a b => k j (by omega) b⟩
  by_cases e : j = i
  · exact e ▸ h
  · exact k j (by omega) b
theorem From.none {C : Nat → Prop} {n i : Nat} (hi : i < n) (h : ¬ C i) : ¬ From C n i := fun k => h (k i (Nat.le_refl _) hi)
theorem From.last (C : Nat → Prop) (n : Nat) : From C n n := fun j a b => absurd b (by omega)
theorem set_copy_map {α β : Type} (l : List α) (f : α → β) (z : β) (i : Nat) (h : i < l.length) (x : β) (hx : x = f l[i]) : ((l.take i).map f ++ List.replicate (l.length - i) z).set i x = (l.take (i + 1)).map f ++ List.replicate (l.length - (i + 1)) z := by
  subst hx
  have e : l.length - i = (l.length - (i + 1)) + 1 := by omega
  have hl : ((l.take i).map f).length = i := by rw [List.length_map, List.length_take]; omega
  rw [e, List.replicate_succ, List.set_append_right _ _ (by omega), hl, Nat.sub_self, List.set_cons_zero, List.take_succ_eq_append_getElem h, List.map_append]
  simp only [List.map_cons, List.map_nil, List.append_assoc, List.singleton_append]
theorem set_copy {α : Type} (l : List α) (z : α) (i : Nat) (h : i < l.length) (x : α) (hx : x = l[i]) : (l.take i ++ List.replicate (l.length - i) z).set i x = l.take (i + 1) ++ List.replicate (l.length - (i + 1)) z := by
  have := set_copy_map l id z i h x hx
  rw [List.map_id, List.map_id] at this
  exact this
theorem rd_nat (xs : List Int) (i : Nat) (h : i < xs.length) : rd xs (i : Int) = xs[i] := by simp [rd, List.getD_eq_getElem?_getD, h]
theorem rdOf_nat {α : Type} (d : α) (xs : List α) (i : Nat) (h : i < xs.length) : rdOf d xs (i : Int) = xs[i] := by simp [rdOf, List.getD_eq_getElem?_getD, h]
/-- a where c is so, else b. -/
def Either {ρ : Type} (c : Prop) (a b r : ρ) : Prop := (c ∧ r = a) ∨ (¬ c ∧ r = b)
theorem Either.same {ρ : Type} {c c' : Prop} {a b r s : ρ} (h : Either c a b r) (h' : Either c' a b s) (e : c ↔ c') : r = s := by
  rcases h with ⟨h, rfl⟩ | ⟨h, rfl⟩ <;> rcases h' with ⟨h', rfl⟩ | ⟨h', rfl⟩
  · rfl
  · exact absurd (e.1 h) h'
  · exact absurd (e.2 h') h
  · rfl
/-- A loop that checks each place. -/
theorem T_all {ρ : Type} (g : Nat → Nat → Option ρ) (n : Nat) (C : Nat → Prop) (bad fin : ρ)
    (step : ∀ i, i < n → C i → ∀ P : ρ → Prop, Tells (fun k => g k (i + 1)) P → Tells (fun k => g (k + 1) i) P) (out : ∀ i, i < n → ¬ C i → Tells (fun k => g (k + 1) i) (· = bad)) (hf : Tells (fun k => g (k + 1) n) (· = fin)) :
    Tells (fun k => g k 0) (Either (From C n 0) fin bad) := by
  refine T_loop g n (fun i => Either (From C n i) fin bad) (fun i hi he => ?_) (hf.mono fun r hr => .inl ⟨From.last C n, hr⟩) 0 (Nat.zero_le _)
  by_cases hc : C i
  · refine (step i hi hc _ he).mono fun r hr => ?_
    unfold Either at hr ⊢
    rw [From.cons hc] at hr
    exact hr
  · exact (out i hi hc).mono fun r hr => .inr ⟨From.none hi hc, hr⟩
/-- A loop that looks for the first place. -/
theorem T_find {ρ : Type} (g : Nat → Nat → Option ρ) (n : Nat) (C : Nat → Prop) (got : Nat → ρ) (fin : ρ)
    (step : ∀ i, i < n → ¬ C i → ∀ P : ρ → Prop, Tells (fun k => g k (i + 1)) P → Tells (fun k => g (k + 1) i) P) (out : ∀ i, i < n → C i → Tells (fun k => g (k + 1) i) (· = got i)) (hf : Tells (fun k => g (k + 1) n) (· = fin)) :
    Tells (fun k => g k 0) (fun r => (∃ j, j < n ∧ C j ∧ (∀ m, m < j → ¬ C m) ∧ r = got j) ∨ ((∀ j, j < n → ¬ C j) ∧ r = fin)) := by
  refine (T_loop g n (fun i r => (∃ j, i ≤ j ∧ j < n ∧ C j ∧ (∀ m, i ≤ m → m < j → ¬ C m) ∧ r = got j) ∨ ((∀ j, i ≤ j → j < n → ¬ C j) ∧ r = fin)) (fun i hi he => ?_)
    (hf.mono fun r hr => .inr ⟨fun j a b => absurd b (by omega), hr⟩) 0 (Nat.zero_le _)).mono fun r hr => ?_
  · by_cases hc : C i
    · exact (out i hi hc).mono fun r hr => .inl ⟨i, Nat.le_refl _, hi, hc, fun m a b => absurd b (by omega), hr⟩
    · refine (step i hi hc _ he).mono fun r hr => ?_
      rcases hr with ⟨j, a, b, c, d, e⟩ | ⟨a, b⟩
      · refine .inl ⟨j, by omega, b, c, fun m h1 h2 => ?_, e⟩
        by_cases hm : m = i
        · exact hm ▸ hc
        · exact d m (by omega) h2
      · refine .inr ⟨fun j h1 h2 => ?_, b⟩
        by_cases hm : j = i
        · exact hm ▸ hc
        · exact a j (by omega) h2
  · rcases hr with ⟨j, _, b, c, d, e⟩ | ⟨a, b⟩
    · exact .inl ⟨j, b, c, fun m hm => d m (Nat.zero_le _) hm, e⟩
    · exact .inr ⟨fun j hj => a j (Nat.zero_le _) hj, b⟩
theorem ba_ext {a b : ByteArray} (h : a.toList = b.toList) : a = b := by
  rw [ByteArray.toList_eq, ByteArray.toList_eq] at h
  cases a; cases b
  simpa using h
/-- The same of a test. -/
theorem T_allb (g : Nat → Nat → Option Bool) (n : Nat) (C : Nat → Prop) (F : Prop)
    (step : ∀ i, i < n → C i → ∀ P : Bool → Prop, Tells (fun k => g k (i + 1)) P → Tells (fun k => g (k + 1) i) P) (out : ∀ i, i < n → ¬ C i → Tells (fun k => g (k + 1) i) (· = false)) (hf : Tells (fun k => g (k + 1) n) (fun r => r = true ↔ F)) :
    Tells (fun k => g k 0) (fun r => r = true ↔ (∀ j, j < n → C j) ∧ F) := by
  refine (T_loop g n (fun i r => r = true ↔ From C n i ∧ F) (fun i hi he => ?_) (hf.mono fun r hr => hr.trans ⟨fun h => ⟨From.last C n, h⟩, fun h => h.2⟩) 0 (Nat.zero_le _)).mono fun r hr => by
      rw [hr]
      exact ⟨fun h => ⟨fun j hj => h.1 j (Nat.zero_le _) hj, h.2⟩, fun h => ⟨fun j _ hj => h.1 j hj, h.2⟩⟩
  by_cases hc : C i
  · refine (step i hi hc _ he).mono fun r hr => ?_
    rw [hr, From.cons hc]
  · exact (out i hi hc).mono fun r hr => by
      rw [hr]
      exact ⟨fun h => absurd h Bool.false_ne_true, fun h => absurd h.1 (From.none hi hc)⟩
theorem same_bool {c : Prop} {r s : Bool} (h : r = true ↔ c) (k : s = true ↔ c) : s = r := Bool.eq_iff_iff.2 (k.trans h.symm)
theorem mem_drop_iff {α : Type} {l : List α} {i : Nat} (h : i < l.length) (a : α) : a ∈ l.drop i ↔ a = l[i] ∨ a ∈ l.drop (i + 1) := by
  rw [List.drop_eq_getElem_cons h, List.mem_cons]
theorem drop_eq_iff {α : Type} {a b : List α} {i : Nat} (ha : i < a.length) (hb : i < b.length) : a.drop i = b.drop i ↔ a[i] = b[i] ∧ a.drop (i + 1) = b.drop (i + 1) := by
  rw [List.drop_eq_getElem_cons ha, List.drop_eq_getElem_cons hb, List.cons.injEq]
/-- A loop with a counter and a state. -/
theorem T_loops {ρ σ : Type} (g : Nat → σ → Nat → Option ρ) (n : Nat) (Inv : Nat → σ → Prop) (P : Nat → σ → ρ → Prop)
    (step : ∀ i s, i < n → Inv i s → (∀ s', Inv (i + 1) s' → Tells (fun k => g k s' (i + 1)) (P (i + 1) s')) → Tells (fun k => g (k + 1) s i) (P i s))
    (fin : ∀ s, Inv n s → Tells (fun k => g (k + 1) s n) (P n s)) : ∀ i s, i ≤ n → Inv i s → Tells (fun k => g k s i) (P i s) := by
  have key : ∀ d i s, i + d = n → Inv i s → Tells (fun k => g k s i) (P i s) := by
    intro d
    induction d with
    | zero =>
      intro i s hi hs
      obtain rfl : i = n := by omega
      exact T_step (fin s hs)
    | succ d ih =>
      intro i s hi hs
      exact T_step (step i s (by omega) hs (fun s' hs' => ih (i + 1) s' (by omega) hs'))
  exact fun i s hi hs => key (n - i) i s (by omega) hs
def FindP {ρ : Type} (n : Nat) (C : Nat → Prop) (got : Nat → ρ) (fin : ρ) (r : ρ) : Prop := (∃ j, j < n ∧ C j ∧ (∀ m, m < j → ¬ C m) ∧ r = got j) ∨ ((∀ j, j < n → ¬ C j) ∧ r = fin)
theorem FindP.same {ρ : Type} {n : Nat} {C : Nat → Prop} {got : Nat → ρ} {fin r s : ρ} (h : FindP n C got fin r) (k : FindP n C got fin s) : s = r := by
  rcases h with ⟨j, a, b, c, rfl⟩ | ⟨a, rfl⟩ <;> rcases k with ⟨j', a', b', c', rfl⟩ | ⟨a', rfl⟩
  · rcases Nat.lt_trichotomy j j' with h | h | h
    · exact absurd b (c' _ h)
    · rw [h]
    · exact absurd b' (c _ h)
  · exact absurd b (a' j a)
  · exact absurd b' (a j' a')
  · rfl
theorem ba_append_nil (b : ByteArray) : b ++ (⟨#[]⟩ : ByteArray) = b := by
  apply ByteArray.ext
  simp
theorem ba_nil_append (b : ByteArray) : (⟨#[]⟩ : ByteArray) ++ b = b := by
  apply ByteArray.ext
  simp
def bump (u : List Int) (a : Int) : List Int := if a = 0 then u else u.set a.toNat (rd u a + 1)
def upsOf (n : Nat) (t : List S104) : List Int := t.foldl (fun u x => bump (bump u x.f0) x.f1) (List.replicate n 0)
def Kid (n i : Nat) (a : Int) : Prop := a = 0 ∨ ((i : Int) + 1 ≤ a ∧ a ≤ (n : Int) - 1)
def TwigC (n i : Nat) (x : S104) : Prop := Kid n i x.f0 ∧ Kid n i x.f1 ∧ (0 ≤ x.f2 ∧ x.f2 ≤ 99)
def TrieP (t : List S104) : Prop := (1 ≤ t.length ∧ t.length ≤ 400) ∧ (∀ i (h : i < t.length), TwigC t.length i t[i]) ∧ ∀ i : Nat, 1 ≤ i → i < t.length → rd (upsOf t.length t) (i : Int) = 1
theorem rd_T104_at (xs : List S104) (i : Nat) (h : i < xs.length) : rd_T104 xs (i : Int) = xs[i] := by simp [rd_T104, List.getD_eq_getElem?_getD, h]
theorem bump_len (u : List Int) (a : Int) : (bump u a).length = u.length := by unfold bump; split <;> simp
theorem rd_set (u : List Int) (j : Nat) (v a : Int) : rd (u.set j v) a = if j = a.toNat ∧ j < u.length then v else rd u a := by
  unfold rd
  simp only [List.getD_eq_getElem?_getD, List.getElem?_set]
  by_cases h : j = a.toNat
  · subst h
    by_cases h2 : a.toNat < u.length
    · simp [h2]
    · simp [h2]
  · simp [h]
theorem bump_rd_ne (u : List Int) (a b : Int) (h : a.toNat ≠ b.toNat ∨ a = 0) : rd (bump u a) b = rd u b := by
  unfold bump
  split
  · rfl
  · rw [rd_set, if_neg (fun k => by rcases h with h | h <;> omega)]
theorem bump_rng (u : List Int) (m : Int) (hm : 0 ≤ m) (h : ∀ a, 0 ≤ rd u a ∧ rd u a ≤ m) (b : Int) : ∀ a, 0 ≤ rd (bump u b) a ∧ rd (bump u b) a ≤ m + 1 := by
  intro a
  unfold bump
  split
  · have := h a
    omega
  · rw [rd_set]
    split
    · have := h b
      omega
    · have := h a
      omega
theorem ups_len (n : Nat) (t : List S104) : (upsOf n t).length = n := by
  unfold upsOf
  have : ∀ (t : List S104) (u : List Int), (t.foldl (fun u x => bump (bump u x.f0) x.f1) u).length = u.length := by
    intro t
    induction t with
    | nil => intro u; rfl
    | cons x t ih =>
      intro u
      rw [List.foldl_cons, ih, bump_len, bump_len]
  rw [this]
  simp
theorem ups_succ (n : Nat) (t : List S104) (i : Nat) (h : i < t.length) : upsOf n (t.take (i + 1)) = bump (bump (upsOf n (t.take i)) t[i].f0) t[i].f1 := by
  unfold upsOf
  rw [List.take_succ_eq_append_getElem h, List.foldl_append]
  rfl
theorem ups_rng (n : Nat) (t : List S104) (i : Nat) (hi : i ≤ t.length) : ∀ a, 0 ≤ rd (upsOf n (t.take i)) a ∧ rd (upsOf n (t.take i)) a ≤ 2 * (i : Int) := by
  induction i with
  | zero =>
    intro a
    have : rd (upsOf n (t.take 0)) a = 0 := by
      simp only [List.take_zero, upsOf, List.foldl_nil, rd, List.getD_eq_getElem?_getD, List.getElem?_replicate]
      split <;> rfl
    omega
  | succ i ih =>
    intro a
    rw [ups_succ n t i (by omega)]
    have := bump_rng _ _ (by omega) (bump_rng _ _ (by omega) (ih (by omega)) (t[i]'(by omega)).f0) (t[i]'(by omega)).f1 a
    omega
/-- Later twigs do not turn an earlier place's number. -/
theorem ups_later (t : List S104) (hC : ∀ i (h : i < t.length), TwigC t.length i t[i]) (a : Nat) : ∀ d m, m + d = t.length → a < m → rd (upsOf t.length t) (a : Int) = rd (upsOf t.length (t.take m)) (a : Int) := by
  intro d
  induction d with
  | zero =>
    intro m hm _
    rw [List.take_of_length_le (by omega)]
  | succ d ih =>
    intro m hm ha
    have hlt : m < t.length := by omega
    rw [ih (m + 1) (by omega) (by omega), ups_succ _ _ _ hlt]
    obtain ⟨h0, h1, _⟩ := hC m hlt
    have h0' : (t[m]).f0.toNat ≠ ((a : Int)).toNat ∨ (t[m]).f0 = 0 := by rcases h0 with h0 | h0 <;> omega
    have h1' : (t[m]).f1.toNat ≠ ((a : Int)).toNat ∨ (t[m]).f1 = 0 := by rcases h1 with h1 | h1 <;> omega
    rw [bump_rd_ne _ _ _ h1', bump_rd_ne _ _ _ h0']
def PfxP (a n : Int) : Prop := (0 ≤ a ∧ a ≤ 4294967295) ∧ (0 ≤ n ∧ n ≤ 32) ∧ a % 2 ^ (32 - n).toNat = 0
def InP (p n a : Int) : Prop := PfxP p n ∧ (0 ≤ a ∧ a ≤ 4294967295) ∧ a - a % 2 ^ (32 - n).toNat = p
instance decPfxP (a n : Int) : Decidable (PfxP a n) := by unfold PfxP; infer_instance
instance decInP (p n a : Int) : Decidable (InP p n a) := by unfold InP; infer_instance
theorem pow_rng (m : Nat) (h : m ≤ 32) : (1 : Int) ≤ 2 ^ m ∧ (2 : Int) ^ m ≤ 4294967296 := by
  have h1 : 2 ^ m ≤ 2 ^ 32 := Nat.pow_le_pow_right (by decide) h
  have h2 : 1 ≤ 2 ^ m := Nat.one_le_two_pow
  have e : ((2 ^ m : Nat) : Int) = (2 : Int) ^ m := by simp
  omega
theorem wrap_i64_in {n : Int} (h0 : -9223372036854775808 ≤ n) (h1 : n ≤ 9223372036854775807) : IntKind.i64.wrap n = n := by
  rw [IntKind.wrap_i64]
  omega
theorem bits_andNot_mask (i : Nat) (hi : i ≤ 32) (x : Int) (h₀ : 0 ≤ x) (h₁ : x ≤ 4294967295) : Go.bits .andNot .i64 x (2 ^ i - 1) = x - x % 2 ^ i := by
  obtain ⟨a, rfl⟩ := Int.eq_ofNat_of_zero_le h₀
  have hp := pow_rng i hi
  have hpn : 1 ≤ 2 ^ i := Nat.one_le_two_pow
  have hc : ((2 : Int) ^ i - 1) = ((2 ^ i - 1 : Nat) : Int) := by
    rw [Int.natCast_sub hpn]; simp
  have ha : a < 2 ^ 64 := by omega
  have hb : 2 ^ i - 1 < 2 ^ 64 := by
    have : 2 ^ i ≤ 2 ^ 32 := Nat.pow_le_pow_right (by decide) hi
    omega
  have hm : (BitVec.ofNat 64 a &&& ~~~ (BitVec.ofNat 64 (2 ^ i - 1))).toNat = a - a % 2 ^ i := by
    have e1 : (BitVec.ofNat 64 a &&& BitVec.ofNat 64 (2 ^ i - 1)).toNat = a % 2 ^ i := by
      rw [BitVec.toNat_and, BitVec.toNat_ofNat, BitVec.toNat_ofNat, Nat.mod_eq_of_lt ha, Nat.mod_eq_of_lt hb, Nat.and_two_pow_sub_one_eq_mod]
    have e2 : (BitVec.ofNat 64 a &&& BitVec.ofNat 64 (2 ^ i - 1)) + (BitVec.ofNat 64 a &&& ~~~ (BitVec.ofNat 64 (2 ^ i - 1))) = BitVec.ofNat 64 a := by
      generalize BitVec.ofNat 64 a = u
      generalize BitVec.ofNat 64 (2 ^ i - 1) = v
      rw [BitVec.add_eq_or_of_and_eq_zero]
      · ext j h
        simp
        cases (u[j]) <;> simp
      · ext j h
        simp
        cases (u[j]) <;> simp
    have e3 := congrArg BitVec.toNat e2
    rw [BitVec.toNat_add, e1, BitVec.toNat_ofNat, Nat.mod_eq_of_lt ha] at e3
    have h4 : (BitVec.ofNat 64 a &&& ~~~ (BitVec.ofNat 64 (2 ^ i - 1))).toNat ≤ a := by
      rw [BitVec.toNat_and, BitVec.toNat_ofNat, Nat.mod_eq_of_lt ha]
      exact Nat.and_le_left
    have h5 : a % 2 ^ i ≤ a := Nat.mod_le _ _
    omega
  have h5 : a % 2 ^ i ≤ a := Nat.mod_le _ _
  rw [hc]
  have e6 : Go.bits .andNot .i64 (a : Int) ((2 ^ i - 1 : Nat) : Int) = IntKind.i64.wrap ((BitVec.ofNat 64 a &&& ~~~ (BitVec.ofNat 64 (2 ^ i - 1))).toNat : Int) := by
    unfold Go.bits
    simp only [BitVec.ofInt_natCast]
    rfl
  rw [e6, hm, wrap_i64_in (by omega) (by omega)]
  have e7 : ((a % 2 ^ i : Nat) : Int) = (a : Int) % 2 ^ i := by simp
  omega

/-- A bit of an address, the greatest one first. -/
def bitAt (a i : Int) : Int := a / 2 ^ (31 - i).toNat % 2
theorem bitAt_01 (a i : Int) : bitAt a i = 0 ∨ bitAt a i = 1 := by unfold bitAt; omega
theorem pfx_of (a n : Int) (h1 : 0 ≤ a ∧ a ≤ 4294967295) (h2 : 0 ≤ n ∧ n ≤ 32) : PfxP (a - a % 2 ^ (32 - n).toNat) n := by
  have hp := pow_rng (32 - n).toNat (by omega)
  have hm0 := Int.emod_nonneg a (show (2 : Int) ^ (32 - n).toNat ≠ 0 by omega)
  have hm1 := Int.emod_lt_of_pos a (show (0 : Int) < 2 ^ (32 - n).toNat by omega)
  have hd := Int.mul_ediv_add_emod a (2 ^ (32 - n).toNat)
  have e : a - a % 2 ^ (32 - n).toNat = 2 ^ (32 - n).toNat * (a / 2 ^ (32 - n).toNat) := by omega
  have hq := Int.mul_nonneg (show (0 : Int) ≤ 2 ^ (32 - n).toNat by omega) (Int.ediv_nonneg h1.1 (show (0 : Int) ≤ 2 ^ (32 - n).toNat by omega))
  exact ⟨by omega, h2, by rw [e]; exact Int.mul_emod_right _ _⟩
def tf (t : List S104) (a : Int) : Nat → Int → Int → Int → Int
  | 0, _, _, dst => dst
  | d + 1, i, p, dst =>
    let q := if bitAt a i = 1 then (rd_T104 t p).f1 else (rd_T104 t p).f0
    if q = 0 then dst else tf t a d (i + 1) q (if (rd_T104 t q).f2 = 0 then dst else (rd_T104 t q).f2)
open Classical in
noncomputable def trieFind (t : List S104) (a : Int) : Int := if TrieP t ∧ 0 ≤ a ∧ a ≤ 4294967295 then tf t a 32 0 0 (rd_T104 t 0).f2 else 0
theorem tf_next (t : List S104) (h : TrieP t) (a i p : Int) (h0 : 0 ≤ p) (h1 : p < t.length) (q : Int) (hq : q = if bitAt a i = 1 then (rd_T104 t p).f1 else (rd_T104 t p).f0) (hq0 : q ≠ 0) : 0 ≤ q ∧ q < t.length := by
  obtain ⟨m, rfl⟩ := Int.eq_ofNat_of_zero_le h0
  have hm : m < t.length := by omega
  obtain ⟨k0, k1, _⟩ := h.2.1 m hm
  rw [rd_T104_at t m hm] at hq
  split at hq
  · rcases k1 with k1 | k1 <;> omega
  · rcases k0 with k0 | k0 <;> omega
/-- A reader of draws: its place lies in what it reads. -/
def CurOk (l : List Int) (i : Int) : Prop := 0 ≤ i ∧ i ≤ l.length ∧ l.length ≤ 1048576
theorem bits255 (x : Int) : 0 ≤ Go.bits .and .i64 x 255 ∧ Go.bits .and .i64 x 255 ≤ 255 := by
  have e : Go.bits .and .i64 x 255 = IntKind.i64.wrap ((BitVec.ofInt 64 x &&& BitVec.ofInt 64 255).toNat : Int) := rfl
  have h : (BitVec.ofInt 64 x &&& BitVec.ofInt 64 255).toNat ≤ 255 := by
    rw [BitVec.toNat_and]
    exact Nat.le_trans Nat.and_le_right (by decide)
  rw [e, IntKind.wrap_i64]
  omega
theorem rd_T65_at (xs : List S65) (i : Nat) (h : i < xs.length) : rd_T65 xs (i : Int) = xs[i] := by simp [rd_T65, List.getD_eq_getElem?_getD, h]
def AheadP (x y : S40) : Prop := x.f0 < y.f0 ∨ (x.f0 = y.f0 ∧ x.f1 < y.f1)
def RouteC (l : List S65) (i : Nat) : Prop := PfxP (rd_T65 l i).f0.f0 (rd_T65 l i).f0.f1 ∧ (1 ≤ (rd_T65 l i).f1 ∧ (rd_T65 l i).f1 ≤ 99) ∧ (0 < i → AheadP (rd_T65 l ((i : Int) - 1)).f0 (rd_T65 l i).f0)
def RoutesP (l : List S65) : Prop := (∀ i, i < l.length → RouteC l i) ∧ l.length ≤ 12
instance decAheadP (x y : S40) : Decidable (AheadP x y) := by unfold AheadP; infer_instance
def putR (l : List S65) (r : S65) : List S65 := l.filter (fun x => decide (AheadP x.f0 r.f0)) ++ r :: l.filter (fun x => decide (AheadP r.f0 x.f0))
open Classical in
noncomputable def putRoute (l : List S65) (r : S65) : List S65 × Bool := if RoutesP l ∧ RoutesP (putR l r) then (putR l r, true) else (l, false)
theorem putR_len (l : List S65) (r : S65) : (putR l r).length ≤ 2 * l.length + 1 := by
  unfold putR
  have h1 := List.length_filter_le (fun x : S65 => decide (AheadP x.f0 r.f0)) l
  have h2 := List.length_filter_le (fun x : S65 => decide (AheadP r.f0 x.f0)) l
  simp only [List.length_append, List.length_cons]
  omega
theorem filter_take {α : Type} (l : List α) (p : α → Bool) (i : Nat) (h : i < l.length) : (l.take (i + 1)).filter p = if p l[i] = true then (l.take i).filter p ++ [l[i]] else (l.take i).filter p := by
  rw [List.take_succ_eq_append_getElem h, List.filter_append]
  split <;> simp_all
theorem putR_len1 (l : List S65) (r : S65) : (putR l r).length ≤ l.length + 1 := by
  have h : ∀ l : List S65, (l.filter (fun x => decide (AheadP x.f0 r.f0))).length + (l.filter (fun x => decide (AheadP r.f0 x.f0))).length ≤ l.length := by
    intro l
    induction l with
    | nil => simp
    | cons x l ih =>
      simp only [List.filter_cons]
      by_cases h1 : AheadP x.f0 r.f0
      · have h2 : ¬ AheadP r.f0 x.f0 := by unfold AheadP at *; omega
        simp only [h1, h2, decide_true, decide_false, if_true, List.length_cons]
        simp
        omega
      · by_cases h2 : AheadP r.f0 x.f0
        · simp only [h1, h2, decide_true, decide_false, if_true, List.length_cons]
          simp
          omega
        · simp only [h1, h2, decide_false, List.length_cons]
          simp
          omega
  have := h l
  unfold putR
  simp only [List.length_append, List.length_cons]
  omega
def isK (q : Int) (x : S104) : Int := (if x.f0 = q then 1 else 0) + (if x.f1 = q then 1 else 0)
def cnt : List S104 → Int → Int
  | [], _ => 0
  | x :: t, q => isK q x + cnt t q
theorem isK_nn (q : Int) (x : S104) : 0 ≤ isK q x := by unfold isK; split <;> split <;> omega
theorem cnt_nn (t : List S104) (q : Int) : 0 ≤ cnt t q := by
  induction t with
  | nil => exact Int.le_refl _
  | cons x t ih => have := isK_nn q x; simp only [cnt]; omega
theorem cnt_append (t u : List S104) (q : Int) : cnt (t ++ u) q = cnt t q + cnt u q := by
  induction t with
  | nil => simp [cnt]
  | cons x t ih => simp only [List.cons_append, cnt, ih]; omega
theorem cnt_one (t : List S104) (q : Int) (i : Nat) (h : i < t.length) : isK q t[i] ≤ cnt t q := by
  induction t generalizing i with
  | nil => simp at h
  | cons x t ih =>
    have hx := isK_nn q x
    have ht := cnt_nn t q
    cases i with
    | zero => simp only [cnt, List.getElem_cons_zero]; omega
    | succ i =>
      have := ih i (by simpa using h)
      simp only [cnt, List.getElem_cons_succ]
      omega
theorem cnt_two (t : List S104) (q : Int) (i j : Nat) (hij : i < j) (h : j < t.length) : isK q (t[i]'(by omega)) + isK q t[j] ≤ cnt t q := by
  induction t generalizing i j with
  | nil => simp at h
  | cons x t ih =>
    have hx := isK_nn q x
    cases j with
    | zero => omega
    | succ j =>
      have hj : j < t.length := by simpa using h
      cases i with
      | zero =>
        have := cnt_one t q j hj
        simp only [cnt, List.getElem_cons_zero, List.getElem_cons_succ]
        omega
      | succ i =>
        have := ih i j (by omega) hj
        simp only [cnt, List.getElem_cons_succ]
        omega
theorem cnt_set (t : List S104) (q : Int) (i : Nat) (h : i < t.length) (y : S104) : cnt (t.set i y) q = cnt t q - isK q t[i] + isK q y := by
  induction t generalizing i with
  | nil => simp at h
  | cons x t ih =>
    cases i with
    | zero => simp only [List.set_cons_zero, cnt, List.getElem_cons_zero]; omega
    | succ i =>
      have := ih i (by simpa using h)
      simp only [List.set_cons_succ, cnt, List.getElem_cons_succ, this]
      omega
theorem bump_cnt (u : List Int) (a q : Int) (hq : 0 < q) (hu : q.toNat < u.length) : rd (bump u a) q = rd u q + if a = q then 1 else 0 := by
  unfold bump
  split
  · rw [if_neg (by omega)]; omega
  · rw [rd_set]
    split
    · rw [if_pos (by omega)]
      have : a = q := by omega
      rw [this]
    · rw [if_neg (by rintro rfl; omega)]; omega
theorem ups_cnt (n : Nat) (t : List S104) (q : Int) (hq : 0 < q) (hn : q < n) : rd (upsOf n t) q = cnt t q := by
  have : ∀ (t : List S104) (u : List Int), u.length = n → rd (t.foldl (fun u x => bump (bump u x.f0) x.f1) u) q = rd u q + cnt t q := by
    intro t
    induction t with
    | nil => intro u _; simp [cnt]
    | cons x t ih =>
      intro u hu
      rw [List.foldl_cons, ih _ (by rw [bump_len, bump_len, hu]), bump_cnt _ _ _ hq (by rw [bump_len, hu]; omega), bump_cnt _ _ _ hq (by rw [hu]; omega)]
      simp only [cnt, isK]
      omega
  unfold upsOf
  rw [this t _ (by simp)]
  have : rd (List.replicate n 0) q = 0 := by
    simp only [rd, List.getD_eq_getElem?_getD, List.getElem?_replicate]
    split <;> rfl
  omega
def TrieQ (t : List S104) : Prop := 1 ≤ t.length ∧ (∀ i (h : i < t.length), TwigC t.length i t[i]) ∧ ∀ q : Int, 1 ≤ q → q < t.length → cnt t q = 1
theorem TrieP_iff (t : List S104) : TrieP t ↔ TrieQ t ∧ t.length ≤ 400 := by
  unfold TrieP TrieQ
  constructor
  · rintro ⟨⟨a, b⟩, c, d⟩
    refine ⟨⟨a, c, fun q h1 h2 => ?_⟩, b⟩
    rw [← ups_cnt t.length t q (by omega) h2]
    obtain ⟨m, rfl⟩ := Int.eq_ofNat_of_zero_le (show 0 ≤ q by omega)
    exact d m (by omega) (by omega)
  · rintro ⟨⟨a, c, d⟩, b⟩
    refine ⟨⟨a, b⟩, c, fun i h1 h2 => ?_⟩
    rw [ups_cnt t.length t i (by omega) (by omega)]
    exact d i (by omega) (by omega)
def kidOf (t : List S104) (p b : Int) : Int := if b = 1 then (rd_T104 t p).f1 else (rd_T104 t p).f0
theorem kid_rng {t : List S104} (h : TrieQ t) {p : Int} (h0 : 0 ≤ p) (h1 : p < t.length) (b : Int) : kidOf t p b = 0 ∨ (p < kidOf t p b ∧ kidOf t p b < t.length) := by
  obtain ⟨m, rfl⟩ := Int.eq_ofNat_of_zero_le h0
  have hm : m < t.length := by omega
  obtain ⟨k0, k1, _⟩ := h.2.1 m hm
  unfold kidOf
  rw [rd_T104_at t m hm]
  split
  · rcases k1 with k1 | k1 <;> omega
  · rcases k0 with k0 | k0 <;> omega
theorem kid_uniq {t : List S104} (h : TrieQ t) {p p' b b' : Int} (h0 : 0 ≤ p) (h1 : p < t.length) (h0' : 0 ≤ p') (h1' : p' < t.length) (hb : b = 0 ∨ b = 1) (hb' : b' = 0 ∨ b' = 1) (hk : kidOf t p b ≠ 0) (he : kidOf t p b = kidOf t p' b') : p = p' ∧ b = b' := by
  have hr := kid_rng h h0 h1 b
  generalize hq : kidOf t p b = q at *
  obtain ⟨m, rfl⟩ := Int.eq_ofNat_of_zero_le h0
  obtain ⟨m', rfl⟩ := Int.eq_ofNat_of_zero_le h0'
  have hm : m < t.length := by omega
  have hm' : m' < t.length := by omega
  have hc := h.2.2 q (by omega) (by omega)
  have e1 : 1 ≤ isK q t[m] := by
    unfold kidOf at hq
    rw [rd_T104_at t m hm] at hq
    unfold isK
    split at hq
    · rw [if_pos hq]; split <;> omega
    · rw [if_pos hq]; split <;> omega
  have e2 : 1 ≤ isK q t[m'] := by
    unfold kidOf at he
    rw [rd_T104_at t m' hm'] at he
    unfold isK
    split at he
    · rw [if_pos he.symm]; split <;> omega
    · rw [if_pos he.symm]; split <;> omega
  have em : m = m' := by
    rcases Nat.lt_trichotomy m m' with hl | hl | hl
    · have := cnt_two t q m m' hl hm'; omega
    · exact hl
    · have := cnt_two t q m' m hl hm; omega
  subst em
  refine ⟨rfl, ?_⟩
  have c1 := cnt_one t q m hm
  have bad : ¬ ((t[m]).f0 = q ∧ (t[m]).f1 = q) := by
    rintro ⟨a, c⟩
    unfold isK at c1
    rw [if_pos a, if_pos c] at c1
    omega
  unfold kidOf at hq he
  rw [rd_T104_at t m hm] at hq he
  rcases hb with rfl | rfl <;> rcases hb' with rfl | rfl
  · rfl
  · simp at hq he
    exact absurd ⟨hq, he.symm⟩ bad
  · simp at hq he
    exact absurd ⟨he.symm, hq⟩ bad
  · rfl
/-- The place that the first d bits of a lead to; -1: none. -/
def reach (t : List S104) (a : Int) : Nat → Int
  | 0 => 0
  | d + 1 => if reach t a d = -1 then -1 else if kidOf t (reach t a d) (bitAt a (d : Int)) = 0 then -1 else kidOf t (reach t a d) (bitAt a (d : Int))
def val (t : List S104) (a : Int) (d : Nat) : Int := if reach t a d = -1 then 0 else (rd_T104 t (reach t a d)).f2
def Agree (d : Nat) (x y : Int) : Prop := ∀ j : Nat, j < d → bitAt x (j : Int) = bitAt y (j : Int)
theorem reach_rng {t : List S104} (h : TrieQ t) (a : Int) (d : Nat) : reach t a d = -1 ∨ (0 ≤ reach t a d ∧ reach t a d < t.length) := by
  induction d with
  | zero => have := h.1; exact .inr ⟨Int.le_refl _, by simp only [reach]; omega⟩
  | succ d ih =>
    simp only [reach]
    split
    · exact .inl rfl
    · split
      · exact .inl rfl
      · rcases ih with ih | ih
        · contradiction
        · have := kid_rng h ih.1 ih.2 (bitAt a (d : Int))
          exact .inr (by omega)
theorem reach_agree (t : List S104) (x y : Int) (d : Nat) (h : Agree d x y) : reach t x d = reach t y d := by
  induction d with
  | zero => rfl
  | succ d ih =>
    have := ih (fun j hj => h j (by omega))
    simp only [reach, this, h d (by omega)]
theorem reach_inj {t : List S104} (h : TrieQ t) (x y : Int) : ∀ d e : Nat, reach t x d ≠ -1 → reach t x d = reach t y e → d = e ∧ Agree d x y := by
  intro d
  induction d with
  | zero =>
    intro e _ he
    cases e with
    | zero => exact ⟨rfl, fun j hj => absurd hj (Nat.not_lt_zero _)⟩
    | succ e =>
      exfalso
      simp only [reach] at he
      split at he
      · omega
      · split at he <;> omega
  | succ d ih =>
    intro e hn he
    have hx : reach t x d ≠ -1 ∧ kidOf t (reach t x d) (bitAt x (d : Int)) ≠ 0 ∧ reach t x (d + 1) = kidOf t (reach t x d) (bitAt x (d : Int)) := by
      simp only [reach] at hn ⊢
      split at hn
      · exact absurd rfl hn
      · split at hn
        · exact absurd rfl hn
        · rename_i a b
          exact ⟨a, b, by rw [if_neg a, if_neg b]⟩
    rw [hx.2.2] at he
    cases e with
    | zero => exact absurd he hx.2.1
    | succ e =>
      have hy : reach t y e ≠ -1 ∧ reach t y (e + 1) = kidOf t (reach t y e) (bitAt y (e : Int)) := by
        have h2 : reach t y (e + 1) ≠ -1 := by rw [← he, ← hx.2.2]; exact hn
        simp only [reach] at h2 ⊢
        split at h2
        · exact absurd rfl h2
        · split at h2
          · exact absurd rfl h2
          · rename_i a b
            exact ⟨a, by rw [if_neg a, if_neg b]⟩
      rw [hy.2] at he
      have r1 := (reach_rng h x d).resolve_left hx.1
      have r2 := (reach_rng h y e).resolve_left hy.1
      obtain ⟨e1, e2⟩ := kid_uniq h r1.1 r1.2 r2.1 r2.2 (bitAt_01 _ _) (bitAt_01 _ _) hx.2.1 he
      obtain ⟨rfl, hA⟩ := ih e hx.1 e1
      refine ⟨rfl, fun j hj => ?_⟩
      by_cases hjd : j = d
      · rw [hjd]; exact e2
      · exact hA j (by omega)
/-- A twig more, hung at p under b. -/
def addKid (t : List S104) (p b : Int) : List S104 := (t ++ [(⟨0, 0, 0⟩ : S104)]).set p.toNat (if b = 0 then ⟨t.length, (rd_T104 t p).f1, (rd_T104 t p).f2⟩ else ⟨(rd_T104 t p).f0, t.length, (rd_T104 t p).f2⟩)
theorem addKid_len (t : List S104) (p b : Int) : (addKid t p b).length = t.length + 1 := by simp [addKid]
theorem addKid_rd (t : List S104) (p b r : Int) (h0 : 0 ≤ p) (h1 : p < t.length) (r0 : 0 ≤ r) (r1 : r ≤ t.length) : rd_T104 (addKid t p b) r = if r = p then (if b = 0 then ⟨t.length, (rd_T104 t p).f1, (rd_T104 t p).f2⟩ else ⟨(rd_T104 t p).f0, t.length, (rd_T104 t p).f2⟩) else if r = t.length then ⟨0, 0, 0⟩ else rd_T104 t r := by
  obtain ⟨m, rfl⟩ := Int.eq_ofNat_of_zero_le h0
  obtain ⟨s, rfl⟩ := Int.eq_ofNat_of_zero_le r0
  have hm : m < t.length := by omega
  have hs : s < (addKid t m b).length := by rw [addKid_len]; omega
  have e0 : ∀ y, ((t ++ [(⟨0, 0, 0⟩ : S104)]).set m y).getD s z104 = if m = s then y else (t ++ [(⟨0, 0, 0⟩ : S104)]).getD s z104 := by
    intro y
    simp only [List.getD_eq_getElem?_getD, List.getElem?_set]
    by_cases e : m = s
    · subst e
      rw [if_pos rfl, if_pos rfl, if_pos (by simp; omega)]
      rfl
    · rw [if_neg e, if_neg e]
  have e1 : rd_T104 (addKid t m b) s = ((t ++ [(⟨0, 0, 0⟩ : S104)]).set m (if b = 0 then ⟨t.length, (rd_T104 t m).f1, (rd_T104 t m).f2⟩ else ⟨(rd_T104 t m).f0, t.length, (rd_T104 t m).f2⟩)).getD s z104 := rfl
  rw [e1, e0]
  by_cases e : m = s
  · rw [if_pos e, if_pos (show (s : Int) = m by omega)]
  · rw [if_neg e, if_neg (show ¬ (s : Int) = m by omega)]
    by_cases e2 : s = t.length
    · subst e2; simp [List.getD_eq_getElem?_getD]
    · rw [if_neg (show ¬ (s : Int) = t.length by omega)]
      simp only [List.getD_eq_getElem?_getD, List.getElem?_append_left (show s < t.length by omega)]
      rfl
theorem addKid_kid (t : List S104) (p b r b' : Int) (h0 : 0 ≤ p) (h1 : p < t.length) (r0 : 0 ≤ r) (r1 : r ≤ t.length) (hb : b = 0 ∨ b = 1) (hb' : b' = 0 ∨ b' = 1) : kidOf (addKid t p b) r b' = if r = p ∧ b' = b then (t.length : Int) else if r = t.length then 0 else kidOf t r b' := by
  unfold kidOf
  rw [addKid_rd t p b r h0 h1 r0 r1]
  by_cases e : r = p
  · subst e
    rw [if_pos rfl, if_neg (show ¬ r = t.length by omega)]
    rcases hb with rfl | rfl <;> rcases hb' with rfl | rfl <;> simp
  · have e3 : ¬ (r = p ∧ b' = b) := fun k => e k.1
    rw [if_neg e, if_neg e3]
    by_cases e4 : r = t.length
    · rw [if_pos e4, if_pos e4]
      simp
    · rw [if_neg e4, if_neg e4]
theorem addKid_Q {t : List S104} (h : TrieQ t) {p b : Int} (h0 : 0 ≤ p) (h1 : p < t.length) (hb : b = 0 ∨ b = 1) (hk : kidOf t p b = 0) : TrieQ (addKid t p b) := by
  have hl := addKid_len t p b
  refine ⟨by omega, fun i hi => ?_, fun q q1 q2 => ?_⟩
  · have hi' : i < t.length + 1 := by omega
    rw [← rd_T104_at _ i hi, addKid_rd t p b i h0 h1 (by omega) (by omega), hl]
    by_cases e : (i : Int) = p
    · have hpi : i < t.length := by omega
      rw [if_pos e, ← e, rd_T104_at t i hpi]
      obtain ⟨k0, k1, k2⟩ := h.2.1 i hpi
      unfold Kid at k0 k1
      split
      · exact ⟨.inr (by dsimp only; omega), by unfold Kid; dsimp only; omega, k2⟩
      · exact ⟨by unfold Kid; dsimp only; omega, .inr (by dsimp only; omega), k2⟩
    · rw [if_neg e]
      by_cases e2 : (i : Int) = t.length
      · rw [if_pos e2]
        exact ⟨.inl rfl, .inl rfl, by dsimp only; omega⟩
      · rw [if_neg e2, rd_T104_at t i (by omega)]
        obtain ⟨k0, k1, k2⟩ := h.2.1 i (by omega)
        unfold Kid at k0 k1
        exact ⟨by unfold Kid; omega, by unfold Kid; omega, k2⟩
  · obtain ⟨m, rfl⟩ := Int.eq_ofNat_of_zero_le h0
    have hm : m < t.length := by omega
    unfold addKid
    rw [Int.toNat_natCast, cnt_set _ _ m (by simp; omega), cnt_append, List.getElem_append_left hm, rd_T104_at t m hm]
    unfold kidOf at hk
    rw [rd_T104_at t m hm] at hk
    have hz : cnt [(⟨0, 0, 0⟩ : S104)] q = 0 := by
      simp only [cnt, isK]
      rw [if_neg (by omega)]
      rfl
    rw [hz]
    obtain ⟨k0, k1, _⟩ := h.2.1 m hm
    unfold Kid at k0 k1
    by_cases eq : q = t.length
    · have hc : cnt t q = 0 := by
        have : ∀ (u : List S104), (∀ x ∈ u, x.f0 ≠ q ∧ x.f1 ≠ q) → cnt u q = 0 := by
          intro u
          induction u with
          | nil => intro _; rfl
          | cons x u ih =>
            intro hu
            have hx := hu x (List.mem_cons_self ..)
            simp only [cnt, isK]
            rw [if_neg hx.1, if_neg hx.2, ih (fun y hy => hu y (List.mem_cons_of_mem _ hy))]
            rfl
        refine this t (fun x hx => ?_)
        obtain ⟨j, hj, rfl⟩ := List.getElem_of_mem hx
        obtain ⟨a, c, _⟩ := h.2.1 j hj
        unfold Kid at a c
        omega
      rw [hc]
      unfold isK
      rcases hb with rfl | rfl
      · simp only [if_true, if_neg (show ¬ (0 : Int) = 1 by omega)] at hk ⊢
        simp only [if_pos (show (t.length : Int) = q from eq.symm), if_neg (show ¬ (t[m]).f0 = q by omega)]
        omega
      · simp only [if_true, if_neg (show ¬ (1 : Int) = 0 by omega)] at hk ⊢
        simp only [if_pos (show (t.length : Int) = q from eq.symm), if_neg (show ¬ (t[m]).f1 = q by omega)]
        omega
    · have hc := h.2.2 q q1 (by omega)
      rw [hc]
      unfold isK
      rcases hb with rfl | rfl
      · simp only [if_true, if_neg (show ¬ (0 : Int) = 1 by omega)] at hk ⊢
        simp only [if_neg (show ¬ (t.length : Int) = q from fun e => eq e.symm), if_neg (show ¬ (t[m]).f0 = q by omega)]
        omega
      · simp only [if_true, if_neg (show ¬ (1 : Int) = 0 by omega)] at hk ⊢
        simp only [if_neg (show ¬ (t.length : Int) = q from fun e => eq e.symm), if_neg (show ¬ (t[m]).f1 = q by omega)]
        omega
theorem reach_succ (t : List S104) (a : Int) (d : Nat) : reach t a (d + 1) = if reach t a d = -1 then -1 else if kidOf t (reach t a d) (bitAt a (d : Int)) = 0 then -1 else kidOf t (reach t a d) (bitAt a (d : Int)) := rfl
theorem addKid_reach {t : List S104} (h : TrieQ t) {p b : Int} (h0 : 0 ≤ p) (h1 : p < t.length) (hb : b = 0 ∨ b = 1) (hk : kidOf t p b = 0) (x : Int) (d : Nat) :
    (reach t x d ≠ -1 → reach (addKid t p b) x d = reach t x d) ∧ (reach t x d = -1 → reach (addKid t p b) x d = -1 ∨ reach (addKid t p b) x d = t.length) := by
  induction d with
  | zero => exact ⟨fun _ => rfl, fun k => absurd k (by simp [reach])⟩
  | succ d ih =>
    rw [reach_succ, reach_succ]
    have hr := reach_rng h x d
    by_cases e : reach t x d = -1
    · rw [if_pos e]
      refine ⟨fun k => absurd rfl k, fun _ => ?_⟩
      rcases ih.2 e with e2 | e2
      · rw [if_pos e2]; exact .inl rfl
      · rw [if_neg (show ¬ reach (addKid t p b) x d = -1 by omega), e2, addKid_kid t p b _ _ h0 h1 (by omega) (by omega) hb (bitAt_01 _ _), if_neg (show ¬ ((t.length : Int) = p ∧ bitAt x (d : Int) = b) by omega), if_pos (show (t.length : Int) = t.length from rfl), if_pos (show (0 : Int) = 0 from rfl)]
        exact .inl rfl
    · have hr := hr.resolve_left e
      rw [if_neg e, ih.1 e, if_neg e, addKid_kid t p b _ _ h0 h1 hr.1 (by omega) hb (bitAt_01 _ _)]
      by_cases e2 : reach t x d = p ∧ bitAt x (d : Int) = b
      · rw [if_pos e2, e2.1, e2.2, if_pos hk]
        exact ⟨fun k => absurd rfl k, fun _ => by rw [if_neg (by omega)]; exact .inr rfl⟩
      · rw [if_neg e2, if_neg (show ¬ reach t x d = t.length by omega)]
        exact ⟨fun _ => rfl, fun k => .inl k⟩
theorem addKid_val {t : List S104} (h : TrieQ t) {p b : Int} (h0 : 0 ≤ p) (h1 : p < t.length) (hb : b = 0 ∨ b = 1) (hk : kidOf t p b = 0) (x : Int) (d : Nat) : val (addKid t p b) x d = val t x d := by
  obtain ⟨a, c⟩ := addKid_reach h h0 h1 hb hk x d
  unfold val
  by_cases e : reach t x d = -1
  · rw [if_pos e]
    rcases c e with e2 | e2
    · rw [if_pos e2]
    · rw [if_neg (by omega), e2, addKid_rd t p b _ h0 h1 (by omega) (by omega), if_neg (by omega), if_pos rfl]
  · have hr := (reach_rng h x d).resolve_left e
    rw [a e, if_neg e, if_neg e, addKid_rd t p b _ h0 h1 hr.1 (by omega)]
    by_cases e2 : reach t x d = p
    · rw [if_pos e2, e2]; split <;> rfl
    · rw [if_neg e2, if_neg (by omega)]
def setVal (t : List S104) (p o : Int) : List S104 := t.set p.toNat ⟨(rd_T104 t p).f0, (rd_T104 t p).f1, o⟩
theorem setVal_rd (t : List S104) (p o r : Int) (h0 : 0 ≤ p) (h1 : p < t.length) (r0 : 0 ≤ r) (r1 : r < t.length) : rd_T104 (setVal t p o) r = if r = p then ⟨(rd_T104 t p).f0, (rd_T104 t p).f1, o⟩ else rd_T104 t r := by
  obtain ⟨m, rfl⟩ := Int.eq_ofNat_of_zero_le h0
  obtain ⟨s, rfl⟩ := Int.eq_ofNat_of_zero_le r0
  rw [rd_T104_at (setVal t m o) s (by simp [setVal]; omega)]
  unfold setVal
  simp only [List.getElem_set, Int.toNat_natCast]
  by_cases e : m = s
  · subst e; simp
  · rw [if_neg e, if_neg (by omega), rd_T104_at t s (by omega)]
theorem setVal_kid (t : List S104) (p o r b : Int) (h0 : 0 ≤ p) (h1 : p < t.length) (r0 : 0 ≤ r) (r1 : r < t.length) : kidOf (setVal t p o) r b = kidOf t r b := by
  unfold kidOf
  rw [setVal_rd t p o r h0 h1 r0 r1]
  by_cases e : r = p
  · rw [if_pos e, e]
  · rw [if_neg e]
theorem setVal_Q {t : List S104} (h : TrieQ t) {p o : Int} (h0 : 0 ≤ p) (h1 : p < t.length) (ho : 0 ≤ o ∧ o ≤ 99) : TrieQ (setVal t p o) := by
  have hl : (setVal t p o).length = t.length := by simp [setVal]
  refine ⟨by rw [hl]; exact h.1, fun i hi => ?_, fun q q1 q2 => ?_⟩
  · have hi' : i < t.length := by omega
    rw [← rd_T104_at _ i hi, setVal_rd t p o i h0 h1 (by omega) (by omega), hl]
    obtain ⟨k0, k1, k2⟩ := h.2.1 i hi'
    split
    · rename_i e
      rw [← e, rd_T104_at t i hi']
      exact ⟨k0, k1, ho⟩
    · rw [rd_T104_at t i hi']
      exact ⟨k0, k1, k2⟩
  · obtain ⟨m, rfl⟩ := Int.eq_ofNat_of_zero_le h0
    have hm : m < t.length := by omega
    have hc := h.2.2 q q1 (by omega)
    unfold setVal
    rw [Int.toNat_natCast, cnt_set _ _ m hm, rd_T104_at t m hm, hc]
    unfold isK
    dsimp only
    omega
theorem setVal_reach {t : List S104} (h : TrieQ t) {p o : Int} (h0 : 0 ≤ p) (h1 : p < t.length) (x : Int) (d : Nat) : reach (setVal t p o) x d = reach t x d := by
  induction d with
  | zero => rfl
  | succ d ih =>
    rw [reach_succ, reach_succ, ih]
    by_cases e : reach t x d = -1
    · rw [if_pos e, if_pos e]
    · have hr := (reach_rng h x d).resolve_left e
      rw [setVal_kid t p o _ _ h0 h1 hr.1 hr.2]
theorem setVal_val {t : List S104} (h : TrieQ t) {a : Int} {n : Nat} (hn : reach t a n ≠ -1) (o x : Int) (d : Nat) [Decidable (d = n ∧ Agree n x a)] : val (setVal t (reach t a n) o) x d = if d = n ∧ Agree n x a then o else val t x d := by
  have hp := (reach_rng h a n).resolve_left hn
  unfold val
  rw [setVal_reach h hp.1 hp.2]
  by_cases e : d = n ∧ Agree n x a
  · obtain ⟨rfl, hA⟩ := e
    have := reach_agree t x a d hA
    rw [if_pos (show d = d ∧ Agree d x a from ⟨rfl, hA⟩), this, if_neg hn, setVal_rd t _ o _ hp.1 hp.2 hp.1 hp.2, if_pos rfl]
  · rw [if_neg e]
    by_cases e2 : reach t x d = -1
    · rw [if_pos e2, if_pos e2]
    · have hr := (reach_rng h x d).resolve_left e2
      rw [if_neg e2, if_neg e2, setVal_rd t _ o _ hp.1 hp.2 hr.1 hr.2, if_neg (fun k => e ?_)]
      obtain ⟨rfl, hA⟩ := reach_inj h x a d n e2 k
      exact ⟨rfl, hA⟩
def ins (a : Int) : Nat → Int → Int → List S104 → List S104 × Int
  | 0, _, p, t => (t, p)
  | d + 1, i, p, t => if kidOf t p (bitAt a i) = 0 then ins a d (i + 1) t.length (addKid t p (bitAt a i)) else ins a d (i + 1) (kidOf t p (bitAt a i)) t
theorem ins_ok (a : Int) : ∀ (d i : Nat) (t : List S104), TrieQ t → reach t a i ≠ -1 →
    let r := ins a d (i : Int) (reach t a i) t
    TrieQ r.1 ∧ t.length ≤ r.1.length ∧ r.1.length ≤ t.length + d ∧ r.2 = reach r.1 a (i + d) ∧ r.2 ≠ -1 ∧ ∀ x e, val r.1 x e = val t x e := by
  intro d
  induction d with
  | zero => intro i t h hr; exact ⟨h, Nat.le_refl _, Nat.le_refl _, rfl, hr, fun _ _ => rfl⟩
  | succ d ih =>
    intro i t h hr
    have hp := (reach_rng h a i).resolve_left hr
    simp only [ins]
    by_cases hk : kidOf t (reach t a i) (bitAt a (i : Int)) = 0
    · rw [if_pos hk]
      have hQ := addKid_Q h hp.1 hp.2 (bitAt_01 a i) hk
      have hre := (addKid_reach h hp.1 hp.2 (bitAt_01 a i) hk a i).1 hr
      have hn : reach (addKid t (reach t a i) (bitAt a (i : Int))) a (i + 1) = t.length := by
        rw [reach_succ, hre, if_neg hr, addKid_kid t _ _ _ _ hp.1 hp.2 hp.1 (by omega) (bitAt_01 _ _) (bitAt_01 _ _), if_pos (show reach t a i = reach t a i ∧ bitAt a (i : Int) = bitAt a (i : Int) from ⟨rfl, rfl⟩), if_neg (show ¬ (t.length : Int) = 0 by omega)]
      have h1 := ih (i + 1) _ hQ (by rw [hn]; omega)
      have ec : ((i + 1 : Nat) : Int) = (i : Int) + 1 := by omega
      rw [hn, addKid_len, ec] at h1
      dsimp only at h1
      obtain ⟨a1, a2, a3, a4, a5, a6⟩ := h1
      refine ⟨a1, by omega, by omega, ?_, a5, fun x e => ?_⟩
      · rw [show i + (d + 1) = i + 1 + d by omega]; exact a4
      · exact (a6 x e).trans (addKid_val h hp.1 hp.2 (bitAt_01 a i) hk x e)
    · rw [if_neg hk]
      have hn : reach t a (i + 1) = kidOf t (reach t a i) (bitAt a (i : Int)) := by rw [reach_succ, if_neg hr, if_neg hk]
      have hg := (kid_rng h hp.1 hp.2 (bitAt a (i : Int))).resolve_left hk
      have h1 := ih (i + 1) t h (by rw [hn]; omega)
      have ec : ((i + 1 : Nat) : Int) = (i : Int) + 1 := by omega
      rw [hn, ec] at h1
      obtain ⟨a1, a2, a3, a4, a5, a6⟩ := h1
      exact ⟨a1, a2, by omega, by rw [show i + (d + 1) = i + 1 + d by omega]; exact a4, a5, a6⟩
open Classical in
noncomputable def triePut (t : List S104) (a n o : Int) : List S104 × Bool :=
  if TrieP t ∧ PfxP a n ∧ (0 ≤ o ∧ o ≤ 99) then (if (ins a n.toNat 0 0 t).1.length > 400 then (t, false) else (setVal (ins a n.toNat 0 0 t).1 (ins a n.toNat 0 0 t).2 o, true)) else (t, false)
open Classical in
theorem triePut_ok {t : List S104} (h : TrieP t) {a n o : Int} (hp : PfxP a n) (ho : 0 ≤ o ∧ o ≤ 99) (hl : (ins a n.toNat 0 0 t).1.length ≤ 400) :
    TrieP (triePut t a n o).1 ∧ (triePut t a n o).2 = true ∧ (triePut t a n o).1.length ≤ t.length + n.toNat ∧ ∀ x d, val (triePut t a n o).1 x d = if d = n.toNat ∧ Agree n.toNat x a then o else val t x d := by
  have hQ := (TrieP_iff t).1 h
  have h1 := ins_ok a n.toNat 0 t hQ.1 (by simp [reach])
  dsimp only [reach] at h1
  obtain ⟨a1, a2, a3, a4, a5, a6⟩ := h1
  rw [Nat.zero_add] at a4
  unfold triePut
  rw [if_pos ⟨h, hp, ho⟩, if_neg (by omega)]
  have e0 : ((0 : Nat) : Int) = 0 := rfl
  rw [e0] at *
  generalize ins a n.toNat 0 0 t = r at *
  obtain ⟨t1, p⟩ := r
  dsimp only at *
  subst a4
  have hr := (reach_rng a1 a n.toNat).resolve_left a5
  refine ⟨(TrieP_iff _).2 ⟨setVal_Q a1 hr.1 hr.2 ho, by simpa [setVal] using hl⟩, rfl, by simpa [setVal] using a3, fun x d => ?_⟩
  rw [setVal_val a1 a5 o x d, a6 x d]
theorem ins_len {t : List S104} (h : TrieP t) (a : Int) (n : Nat) : (ins a n 0 0 t).1.length ≤ t.length + n := by
  have h1 := ins_ok a n 0 t ((TrieP_iff t).1 h).1 (by simp [reach])
  exact h1.2.2.1
/-- What counts in the end: the last that is not none. -/
def top (v : Nat → Int) : Nat → Int
  | 0 => v 0
  | m + 1 => if v (m + 1) = 0 then top v m else v (m + 1)
theorem tf_top {t : List S104} (h : TrieQ t) (a : Int) : ∀ (d i : Nat), reach t a i ≠ -1 → tf t a d (i : Int) (reach t a i) (top (val t a) i) = top (val t a) (i + d) := by
  intro d
  induction d with
  | zero => intro i _; rfl
  | succ d ih =>
    intro i hr
    have hk : tf t a (d + 1) (i : Int) (reach t a i) (top (val t a) i) = if kidOf t (reach t a i) (bitAt a (i : Int)) = 0 then top (val t a) i else tf t a d ((i : Int) + 1) (kidOf t (reach t a i) (bitAt a (i : Int))) (if (rd_T104 t (kidOf t (reach t a i) (bitAt a (i : Int)))).f2 = 0 then top (val t a) i else (rd_T104 t (kidOf t (reach t a i) (bitAt a (i : Int)))).f2) := rfl
    rw [hk]
    have hp := (reach_rng h a i).resolve_left hr
    by_cases e : kidOf t (reach t a i) (bitAt a (i : Int)) = 0
    · rw [if_pos e]
      have hn : reach t a (i + 1) = -1 := by rw [reach_succ, if_neg hr, if_pos e]
      have hz : ∀ m, reach t a (i + 1 + m) = -1 := by
        intro m
        induction m with
        | zero => exact hn
        | succ m ih2 => rw [← Nat.add_assoc, reach_succ, if_pos ih2]
      have ht : ∀ m, top (val t a) (i + m) = top (val t a) i := by
        intro m
        induction m with
        | zero => rfl
        | succ m ih2 =>
          have hv : val t a (i + m + 1) = 0 := by unfold val; rw [if_pos (by rw [show i + m + 1 = i + 1 + m by omega]; exact hz m)]
          rw [← Nat.add_assoc]
          simp only [top]
          rw [if_pos hv, ih2]
      rw [ht]
    · rw [if_neg e]
      have hn : reach t a (i + 1) = kidOf t (reach t a i) (bitAt a (i : Int)) := by rw [reach_succ, if_neg hr, if_neg e]
      have hg := (kid_rng h hp.1 hp.2 (bitAt a (i : Int))).resolve_left e
      have h1 := ih (i + 1) (by rw [hn]; omega)
      have hv : val t a (i + 1) = (rd_T104 t (kidOf t (reach t a i) (bitAt a (i : Int)))).f2 := by unfold val; rw [hn, if_neg (by omega)]
      simp only [top] at h1
      rw [hv, hn] at h1
      rw [show i + (d + 1) = i + 1 + d by omega]
      exact h1
theorem trieFind_top {t : List S104} (h : TrieP t) {a : Int} (ha : 0 ≤ a ∧ a ≤ 4294967295) : trieFind t a = top (val t a) 32 := by
  unfold trieFind
  rw [if_pos ⟨h, ha⟩]
  have h1 := tf_top ((TrieP_iff t).1 h).1 a 32 0 (by simp [reach])
  simp only [top, reach, Nat.zero_add] at h1
  have hv : val t a 0 = (rd_T104 t 0).f2 := by unfold val; simp [reach]
  rw [hv] at h1
  exact h1
theorem top_zero (v : Nat → Int) (m : Nat) (h : ∀ j, j ≤ m → v j = 0) : top v m = 0 := by
  induction m with
  | zero => exact h 0 (Nat.le_refl _)
  | succ m ih => simp only [top]; rw [if_pos (h _ (Nat.le_refl _)), ih (fun j hj => h j (by omega))]
theorem top_at (v : Nat → Int) (b m : Nat) (hb : b ≤ m) (h0 : v b ≠ 0) (h : ∀ j, b < j → j ≤ m → v j = 0) : top v m = v b := by
  induction m with
  | zero =>
    have e : b = 0 := by omega
    rw [e]
    rfl
  | succ m ih =>
    simp only [top]
    by_cases e : b = m + 1
    · subst e; rw [if_neg h0]
    · rw [if_pos (h _ (by omega) (Nat.le_refl _)), ih (by omega) (fun j a c => h j a (by omega))]
/-- The first bits as a number. -/
theorem bits_div (a : Int) (n : Nat) (hn : n < 32) : a / 2 ^ (32 - (n + 1)) = 2 * (a / 2 ^ (32 - n)) + bitAt a (n : Int) := by
  unfold bitAt
  have e1 : ((31 : Int) - (n : Int)).toNat = 32 - (n + 1) := by omega
  have e2 : (2 : Int) ^ (32 - n) = 2 ^ (32 - (n + 1)) * 2 := by rw [show 32 - n = (32 - (n + 1)) + 1 by omega, Int.pow_succ]
  rw [e1, e2, ← Int.ediv_ediv_of_nonneg (by have := (pow_rng (32 - (n + 1)) (by omega)).1; omega)]
  omega
theorem agree_div (x y : Int) (hx : 0 ≤ x ∧ x ≤ 4294967295) (hy : 0 ≤ y ∧ y ≤ 4294967295) (n : Nat) (hn : n ≤ 32) : Agree n x y ↔ x / 2 ^ (32 - n) = y / 2 ^ (32 - n) := by
  induction n with
  | zero =>
    refine ⟨fun _ => ?_, fun _ j hj => absurd hj (Nat.not_lt_zero _)⟩
    show x / 4294967296 = y / 4294967296
    omega
  | succ n ih =>
    have ih := ih (by omega)
    have e : Agree (n + 1) x y ↔ Agree n x y ∧ bitAt x (n : Int) = bitAt y (n : Int) := by
      refine ⟨fun h => ⟨fun j hj => h j (by omega), h n (by omega)⟩, fun h j hj => ?_⟩
      by_cases e : j = n
      · rw [e]; exact h.2
      · exact h.1 j (by omega)
    rw [e, ih, bits_div x n (by omega), bits_div y n (by omega)]
    have b1 := bitAt_01 x n
    have b2 := bitAt_01 y n
    omega
theorem agree_InP {p n x : Int} (hp : PfxP p n) (hx : 0 ≤ x ∧ x ≤ 4294967295) : Agree n.toNat x p ↔ InP p n x := by
  have hP := hp
  obtain ⟨h1, h2, h3⟩ := hp
  have e0 : 32 - n.toNat = (32 - n).toNat := by omega
  rw [agree_div x p hx h1 n.toNat (by omega), e0]
  unfold InP
  have hq := pow_rng (32 - n).toNat (by omega)
  generalize (2 : Int) ^ (32 - n).toNat = m at *
  have d1 := Int.mul_ediv_add_emod x m
  have d2 := Int.mul_ediv_add_emod p m
  refine ⟨fun h => ⟨hP, hx, ?_⟩, fun h => ?_⟩
  · rw [h] at d1; omega
  · have h4 := h.2.2
    have : x = p + x % m := by omega
    have e1 : m * (x / m) = m * (p / m) := by omega
    exact Int.eq_of_mul_eq_mul_left (by omega) e1
theorem ins_step (t : List S104) (p b : Int) (h0 : 0 ≤ p) (h1 : p < t.length) : addKid t p b = (t ++ [(⟨0, 0, 0⟩ : S104)]).set p.toNat (if b = 0 then ⟨t.length, (rd_T104 (t ++ [(⟨0, 0, 0⟩ : S104)]) p).f1, (rd_T104 (t ++ [(⟨0, 0, 0⟩ : S104)]) p).f2⟩ else ⟨(rd_T104 (t ++ [(⟨0, 0, 0⟩ : S104)]) p).f0, t.length, (rd_T104 (t ++ [(⟨0, 0, 0⟩ : S104)]) p).f2⟩) := by
  obtain ⟨m, rfl⟩ := Int.eq_ofNat_of_zero_le h0
  have e : rd_T104 (t ++ [(⟨0, 0, 0⟩ : S104)]) (m : Int) = rd_T104 t (m : Int) := by
    rw [rd_T104_at _ m (by simp; omega), List.getElem_append_left (by omega), rd_T104_at t m (by omega)]
  rw [e]
  rfl
def lu (a : Int) : List S65 → Int → Int → Int
  | [], _, dst => dst
  | x :: xs, best, dst => if InP x.f0.f0 x.f0.f1 a ∧ x.f0.f1 > best then lu a xs x.f0.f1 x.f1 else lu a xs best dst
open Classical in
noncomputable def lookUp (l : List S65) (a : Int) : Int := if RoutesP l then lu a l (-1) 0 else 0
theorem new_Q : TrieQ [(⟨0, 0, 0⟩ : S104)] := by
  refine ⟨by simp, fun i hi => ?_, fun q h1 h2 => by simp at h2; omega⟩
  have e : i = 0 := by simpa using hi
  subst e
  exact ⟨.inl rfl, .inl rfl, by simp⟩
theorem new_P : TrieP [(⟨0, 0, 0⟩ : S104)] := (TrieP_iff _).2 ⟨new_Q, by simp⟩
theorem new_val (x : Int) (d : Nat) : val [(⟨0, 0, 0⟩ : S104)] x d = 0 := by
  have hr : ∀ d, reach [(⟨0, 0, 0⟩ : S104)] x (d + 1) = -1 := by
    intro d
    induction d with
    | zero => simp [reach, kidOf, rd_T104]
    | succ d ih => rw [reach_succ, if_pos ih]
  unfold val
  cases d with
  | zero => simp [reach, rd_T104]
  | succ d => rw [if_pos (hr d)]
open Classical in
noncomputable def own (rs : List S65) (x : Int) (d : Nat) : Nat → Int
  | 0 => 0
  | i + 1 => if d = (rd_T65 rs (i : Int)).f0.f1.toNat ∧ Agree (rd_T65 rs (i : Int)).f0.f1.toNat x (rd_T65 rs (i : Int)).f0.f0 then (rd_T65 rs (i : Int)).f1 else own rs x d i
noncomputable def trieUp (rs : List S65) : Nat → List S104
  | 0 => [(⟨0, 0, 0⟩ : S104)]
  | i + 1 => (triePut (trieUp rs i) (rd_T65 rs (i : Int)).f0.f0 (rd_T65 rs (i : Int)).f0.f1 (rd_T65 rs (i : Int)).f1).1
open Classical in
noncomputable def trieOf (rs : List S65) : List S104 := if RoutesP rs then trieUp rs rs.length else [(⟨0, 0, 0⟩ : S104)]
theorem trieUp_ok {rs : List S65} (h : RoutesP rs) (i : Nat) (hi : i ≤ rs.length) : TrieP (trieUp rs i) ∧ (trieUp rs i).length ≤ 1 + 32 * i ∧ ∀ x d, val (trieUp rs i) x d = own rs x d i := by
  induction i with
  | zero => exact ⟨new_P, by simp [trieUp], fun x d => new_val x d⟩
  | succ i ih =>
    obtain ⟨hT, hl, hv⟩ := ih (by omega)
    obtain ⟨c1, c2, _⟩ := h.1 i (by omega)
    have hn := c1.2.1
    have h12 := h.2
    have hil := ins_len hT (rd_T65 rs (i : Int)).f0.f0 (rd_T65 rs (i : Int)).f0.f1.toNat
    obtain ⟨p1, _, p3, p4⟩ := triePut_ok hT c1 (o := (rd_T65 rs (i : Int)).f1) ⟨by omega, c2.2⟩ (by omega)
    refine ⟨p1, ?_, fun x d => ?_⟩
    · show (triePut (trieUp rs i) _ _ _).1.length ≤ _
      omega
    · refine (p4 x d).trans ?_
      rw [hv x d]
      rfl
theorem routes_lt {rs : List S65} (h : RoutesP rs) : ∀ j i : Nat, i < j → j < rs.length → AheadP (rd_T65 rs (i : Int)).f0 (rd_T65 rs (j : Int)).f0 := by
  intro j
  induction j with
  | zero => intro i hi; omega
  | succ j ih =>
    intro i hi hj
    have hc := (h.1 (j + 1) hj).2.2 (by omega)
    rw [show ((j + 1 : Nat) : Int) - 1 = (j : Int) by omega] at hc
    by_cases e : i = j
    · rw [e]; exact hc
    · have := ih i (by omega) (by omega)
      unfold AheadP at *
      omega
open Classical in
theorem lu_top {rs : List S65} (h : RoutesP rs) {a : Int} (ha : 0 ≤ a ∧ a ≤ 4294967295) : lu a rs (-1) 0 = top (fun d => own rs a d rs.length) 32 := by
  have key : ∀ k i b dst, i + k = rs.length → ((b = -1 ∧ dst = 0 ∧ ∀ d : Nat, d ≤ 32 → own rs a d i = 0) ∨ (∃ j : Nat, j < i ∧ InP (rd_T65 rs (j : Int)).f0.f0 (rd_T65 rs (j : Int)).f0.f1 a ∧ b = (rd_T65 rs (j : Int)).f0.f1 ∧ dst = own rs a b.toNat i ∧ dst ≠ 0 ∧ ∀ d : Nat, b < d → d ≤ 32 → own rs a d i = 0)) → lu a (rs.drop i) b dst = top (fun d => own rs a d rs.length) 32 := by
    intro k
    induction k with
    | zero =>
      intro i b dst hi hI
      have hi : i = rs.length := by omega
      rw [List.drop_of_length_le (by omega)]
      rw [hi] at hI
      rcases hI with ⟨_, h2, h3⟩ | ⟨j, h0, h1, h2, h3, h4, h5⟩
      · rw [top_zero _ _ h3, h2]; rfl
      · have hb := h1.1.2.1
        rw [top_at (fun d => own rs a d rs.length) b.toNat 32 (by omega) (by rw [← h3]; exact h4) (fun j a1 a2 => h5 j (by omega) a2)]
        exact h3
    | succ k ih =>
      intro i b dst hi hI
      have hlt : i < rs.length := by omega
      obtain ⟨c1, c2, _⟩ := h.1 i hlt
      have hA := agree_InP c1 ha
      rw [List.drop_eq_getElem_cons hlt]
      simp only [lu]
      rw [← rd_T65_at rs i hlt]
      have hown : ∀ d, own rs a d (i + 1) = if d = (rd_T65 rs (i : Int)).f0.f1.toNat ∧ Agree (rd_T65 rs (i : Int)).f0.f1.toNat a (rd_T65 rs (i : Int)).f0.f0 then (rd_T65 rs (i : Int)).f1 else own rs a d i := fun d => rfl
      have hlast := fun (j : Nat) (hj : j < i) => routes_lt h i j hj hlt
      obtain ⟨r, hr⟩ : ∃ r, rd_T65 rs (i : Int) = r := ⟨_, rfl⟩
      simp only [hr] at c1 c2 hA hown hlast ⊢
      have hn := c1.2.1
      by_cases e : InP r.f0.f0 r.f0.f1 a ∧ r.f0.f1 > b
      · rw [if_pos e]
        refine ih (i + 1) _ _ (by omega) (.inr ⟨i, by omega, by rw [hr]; exact e.1, by rw [hr], ?_, by omega, fun d h1 h2 => ?_⟩)
        · rw [hown, if_pos ⟨rfl, hA.2 e.1⟩]
        · rw [hown, if_neg (fun k => by have := k.1; omega)]
          rcases hI with ⟨_, _, h3⟩ | ⟨j, _, _, _, _, _, h5⟩
          · exact h3 d h2
          · exact h5 d (by omega) h2
      · rw [if_neg e]
        by_cases e2 : InP r.f0.f0 r.f0.f1 a
        · have hle : ¬ r.f0.f1 > b := fun k => e ⟨e2, k⟩
          rcases hI with ⟨h1, _, _⟩ | ⟨j, h0, h1, h2, h3, h4, h5⟩
          · omega
          · have hne : r.f0.f1 ≠ b := by
              intro k
              have hl := hlast j h0
              have p1 := h1.2.2
              have p2 := e2.2.2
              rw [← h2, ← k] at p1
              unfold AheadP at hl
              omega
            have hsame : ∀ d : Nat, b ≤ d → own rs a d (i + 1) = own rs a d i := fun d hd => by rw [hown, if_neg (fun k => by have := k.1; omega)]
            have hb := h1.1.2.1
            exact ih (i + 1) b dst (by omega) (.inr ⟨j, by omega, h1, h2, by rw [hsame b.toNat (by omega)]; exact h3, h4, fun d h6 h7 => by rw [hsame d (by omega)]; exact h5 d h6 h7⟩)
        · have hsame : ∀ d, own rs a d (i + 1) = own rs a d i := fun d => by rw [hown, if_neg (fun k => e2 (hA.1 k.2))]
          refine ih (i + 1) b dst (by omega) ?_
          simp only [hsame]
          rcases hI with hI | ⟨j, h0, h1⟩
          · exact .inl hI
          · exact .inr ⟨j, by omega, h1⟩
  exact key rs.length 0 (-1) 0 (by omega) (.inl ⟨rfl, rfl, fun d _ => rfl⟩)
theorem lu_out (a : Int) (ha : ¬ (0 ≤ a ∧ a ≤ 4294967295)) : ∀ (rs : List S65) (b d : Int), lu a rs b d = d := by
  intro rs
  induction rs with
  | nil => intro b d; rfl
  | cons r rs ih =>
    intro b d
    simp only [lu]
    rw [if_neg (fun k => ha k.1.2.1), ih]
theorem trie_lookUp {rs : List S65} (h : RoutesP rs) (a : Int) : trieFind (trieOf rs) a = lookUp rs a := by
  have ht : trieOf rs = trieUp rs rs.length := by unfold trieOf; rw [if_pos h]
  have hl : lookUp rs a = lu a rs (-1) 0 := by unfold lookUp; rw [if_pos h]
  obtain ⟨hT, _, hv⟩ := trieUp_ok h rs.length (Nat.le_refl _)
  rw [ht, hl]
  by_cases ha : 0 ≤ a ∧ a ≤ 4294967295
  · rw [trieFind_top hT ha, lu_top h ha]
    exact congrArg (fun v => top v 32) (funext fun d => hv a d)
  · rw [lu_out a ha]
    unfold trieFind
    rw [if_neg (fun k => ha k.2)]

/-! spec_l01In -/
theorem spec_l01In.eq (a b c : Int) : spec_l01In.f a b c = some (decide (b ≤ a ∧ a ≤ c)) := by
  unfold spec_l01In.f
  by_cases h : b ≤ a <;> simp [h]

/-! spec_TrieOk -/
theorem spec_TrieOk.kid0 (t : List S104) (hn : t.length ≤ 400) (u : List Int) (hu : u.length = t.length) (hr : ∀ a, 0 ≤ rd u a ∧ rd u a ≤ 100000) (i : Nat) (hi : i < t.length) (a b : Int) (P : Bool → Prop)
    (h1 : Kid t.length i b → Tells (fun k => spec_TrieOk.l0 k (bump u b) ((i + 1 : Nat) : Int) t) P) (h2 : ¬ Kid t.length i b → P false) : Tells (fun k => spec_TrieOk.l1 k u (i : Int) [a, b] 1 t) P := by
  refine T_step ?_
  simp only [spec_TrieOk.l1, spec_l01In.eq, Option.bind_some, decide_eq_true_eq]
  have e1 : rd [a, b] 1 = b := rfl
  have e2 : wrap64 (1 + 1) = 2 := w64 (by omega) (by omega)
  have hw : wrap64 ((t.length : Int) - 1) = (t.length : Int) - 1 := w64 (by omega) (by omega)
  have last : ∀ v : List Int, Tells (fun k => spec_TrieOk.l0 k v ((i + 1 : Nat) : Int) t) P → Tells (fun k => spec_TrieOk.l1 k v (i : Int) [a, b] (wrap64 (1 + 1)) t) P := by
    intro v hv
    refine T_step ?_
    simp only [spec_TrieOk.l1, e2]
    rw [wsucc hi (by omega)]
    exact T_neg (by omega) hv
  refine T_pos (by omega) (T_pos (by omega) (T_pos (by simp) ?_))
  rw [e1, wsucc hi (by omega), hw]
  refine T_ite (fun h => last _ ?_) (fun h => T_ite (fun h3 => T_pos (by omega) (T_pos (by omega) (last _ ?_))) (fun h3 => T_ret (h2 (fun k => by unfold Kid at k; omega))))
  · have := h1 (.inl h)
    simpa [bump, h] using this
  · have := h1 (.inr (by omega))
    rw [w64 (by have := hr b; omega) (by have := hr b; omega)]
    simpa [bump, h] using this
theorem spec_TrieOk.kids (t : List S104) (hn : t.length ≤ 400) (u : List Int) (hu : u.length = t.length) (hr : ∀ a, 0 ≤ rd u a ∧ rd u a ≤ 10000) (i : Nat) (hi : i < t.length) (a b : Int) (P : Bool → Prop)
    (h1 : Kid t.length i a → Kid t.length i b → Tells (fun k => spec_TrieOk.l0 k (bump (bump u a) b) ((i + 1 : Nat) : Int) t) P) (h2 : ¬ (Kid t.length i a ∧ Kid t.length i b) → P false) : Tells (fun k => spec_TrieOk.l1 k u (i : Int) [a, b] 0 t) P := by
  refine T_step ?_
  simp only [spec_TrieOk.l1, spec_l01In.eq, Option.bind_some, decide_eq_true_eq]
  have e1 : rd [a, b] 0 = a := rfl
  have e2 : wrap64 (0 + 1) = 1 := w64 (by omega) (by omega)
  have hw : wrap64 ((t.length : Int) - 1) = (t.length : Int) - 1 := w64 (by omega) (by omega)
  refine T_pos (by omega) (T_pos (by omega) (T_pos (by simp) ?_))
  rw [e1, e2, wsucc hi (by omega), hw]
  have go : Kid t.length i a → Tells (fun k => spec_TrieOk.l1 k (bump u a) (i : Int) [a, b] 1 t) P := fun ha =>
    spec_TrieOk.kid0 t hn (bump u a) (by rw [bump_len, hu]) (fun x => by have := bump_rng u 10000 (by omega) hr a x; omega) i hi a b P (fun hb => h1 ha hb) (fun hb => h2 (fun k => hb k.2))
  refine T_ite (fun h => ?_) (fun h => T_ite (fun h3 => T_pos (by omega) (T_pos (by omega) ?_)) (fun h3 => T_ret (h2 (fun k => by have := k.1; unfold Kid at this; omega))))
  · have := go (.inl h)
    simpa [bump, h] using this
  · have := go (.inr (by omega))
    rw [w64 (by have := hr a; omega) (by have := hr a; omega)]
    simpa [bump, h] using this
theorem spec_TrieOk.ev (t : List S104) (hm : t.length ≤ 1048576) : Tells (fun k => spec_TrieOk.f k t) (fun r => r = true ↔ TrieP t) := by
  unfold spec_TrieOk.f
  simp only [spec_l01In.eq, Option.bind_some, decide_eq_true_eq]
  refine T_ite (fun h1 => T_pos (by omega) (T_pos (by omega) ?_)) (fun h1 => T_ret (by
    simp only [Bool.false_eq_true, false_iff]
    rintro ⟨h, _⟩
    omega))
  have hn : t.length ≤ 400 := by omega
  have hl : (1 ≤ t.length ∧ t.length ≤ 400) := by omega
  have main := T_loop (fun k i => spec_TrieOk.l0 k (upsOf t.length (t.take i)) (i : Int) t) t.length (fun i r => r = true ↔ (∀ j (h : j < t.length), i ≤ j → TwigC t.length j t[j]) ∧ ∀ j : Nat, 1 ≤ j → j < t.length → rd (upsOf t.length t) (j : Int) = 1) (fun i hi he => ?_) ?_ 0 (Nat.zero_le _)
  · refine Tells.mono (g := fun k => spec_TrieOk.l0 k (List.replicate t.length 0) 0 t) main (fun r hr => ?_)
    · rw [hr]
      exact ⟨fun h => ⟨hl, fun j hj => h.1 j hj (Nat.zero_le _), h.2⟩, fun h => ⟨fun j hj _ => h.2.1 j hj, h.2.2⟩⟩
  · simp only [spec_TrieOk.l0, spec_l01In.eq, Option.bind_some, decide_eq_true_eq, rd_T104_at t i hi]
    refine T_pos (by omega) (T_pos (by omega) (T_ite (fun h2 => ?_) (fun h2 => T_ret ?_)))
    · refine spec_TrieOk.kids t hn _ (ups_len _ _) (fun a => by have := ups_rng t.length t i (by omega) a; omega) i hi _ _ _ (fun ha hb => ?_) (fun hk => ?_)
      · rw [← ups_succ t.length t i hi]
        refine he.mono fun r hr => ?_
        rw [hr]
        refine ⟨fun h => ⟨fun j hj hij => ?_, h.2⟩, fun h => ⟨fun j hj hij => h.1 j hj (by omega), h.2⟩⟩
        by_cases e : j = i
        · subst e
          exact ⟨ha, hb, h2⟩
        · exact h.1 j hj (by omega)
      · simp only [Bool.false_eq_true, false_iff]
        rintro ⟨h, _⟩
        exact hk ⟨(h i hi (Nat.le_refl _)).1, (h i hi (Nat.le_refl _)).2.1⟩
    · simp only [Bool.false_eq_true, false_iff]
      rintro ⟨h, _⟩
      exact h2 (h i hi (Nat.le_refl _)).2.2
  · simp only [spec_TrieOk.l0]
    refine T_neg (by omega) ?_
    have hul : (upsOf t.length (t.take t.length)).length = t.length := ups_len _ _
    have e : t.take t.length = t := List.take_of_length_le (Nat.le_refl _)
    rw [e] at hul ⊢
    refine (T_loop (fun k i => spec_TrieOk.l2 k (upsOf t.length t) ((i : Nat) : Int)) t.length (fun i r => r = true ↔ ∀ j : Nat, i ≤ j → j < t.length → rd (upsOf t.length t) (j : Int) = 1) (fun i hi he => ?_) ?_ 1 (by omega)).mono fun r hr => ?_
    · simp only [spec_TrieOk.l2]
      rw [wsucc hi (by omega)]
      refine T_pos (by omega) (T_pos (by omega) (T_ite (fun h => he.mono fun r hr => ?_) (fun h => T_ret ?_)))
      · rw [hr]
        refine ⟨fun k j a b => ?_, fun k j a b => k j (by omega) b⟩
        by_cases e : j = i
        · subst e; exact h
        · exact k j (by omega) b
      · simp only [Bool.false_eq_true, false_iff]
        exact fun k => h (k i (Nat.le_refl _) hi)
    · simp only [spec_TrieOk.l2]
      exact T_neg (by omega) (T_ret (by simp; intro j a b; omega))
    · rw [hr]
      exact ⟨fun k => ⟨fun j hj hjj => absurd hj (by omega), k⟩, fun k => k.2⟩

/-! spec_AddrOk -/
theorem spec_AddrOk.eq (a : Int) : spec_AddrOk.f a = some (decide (0 ≤ a ∧ a ≤ 4294967295)) := by
  unfold spec_AddrOk.f
  simp [spec_l01In.eq]

/-! spec_l08Size -/
theorem spec_l08Size.ev (n : Int) (h0 : 0 ≤ n) (h1 : n ≤ 32) : Tells (fun k => spec_l08Size.f k n) (· = 2 ^ (32 - n).toNat) := by
  obtain ⟨m, rfl⟩ := Int.eq_ofNat_of_zero_le h0
  unfold spec_l08Size.f
  have hd : ∀ j : Fin 32, wrap64 (2 * 2 ^ j.val) = 2 ^ (j.val + 1) := by decide +kernel
  have h := T_loop' (fun k i => spec_l08Size.l0 k (2 ^ i) ((m + i : Nat) : Int)) (32 - m) (· = 2 ^ (32 - m)) (fun i hi he => ?_) ?_
  · rw [show (32 - (m : Int)).toNat = 32 - m by omega]
    simpa using h
  · simp only [spec_l08Size.l0]
    refine T_pos (by omega) ?_
    rw [hd ⟨i, by omega⟩, wsucc (n := 32) (by omega) (by omega)]
    exact he
  · simp only [spec_l08Size.l0]
    exact T_neg (by omega) (T_ret rfl)

/-! spec_l10Bit -/
theorem spec_l10Bit.ev (a i : Int) (h0 : 0 ≤ a) (h1 : a ≤ 4294967295) (i0 : 0 ≤ i) (i1 : i ≤ 31) : Tells (fun k => spec_l10Bit.f k a i) (· = bitAt a i) := by
  unfold spec_l10Bit.f bitAt
  refine T_bind (spec_l08Size.ev i i0 (by omega)) ?_
  rintro _ rfl
  have hp := pow_rng (31 - i).toNat (by omega)
  have e : (2 : Int) ^ (32 - i).toNat = 2 * 2 ^ (31 - i).toNat := by
    rw [show (32 - i).toNat = (31 - i).toNat + 1 by omega, Int.pow_succ, Int.mul_comm]
  have e2 : Int.tdiv (2 ^ (32 - i).toNat) 2 = 2 ^ (31 - i).toNat := by rw [Int.tdiv_eq_ediv_of_nonneg (by omega), e]; omega
  rw [e2, w64 (by omega) (by omega)]
  refine T_neg (by omega) (T_ret ?_)
  have d0 : 0 ≤ a / 2 ^ (31 - i).toNat := Int.ediv_nonneg h0 (by omega)
  have d1 : a / 2 ^ (31 - i).toNat ≤ a := Int.ediv_le_self _ h0
  rw [Int.tdiv_eq_ediv_of_nonneg h0, w64 (by omega) (by omega), Int.tmod_eq_emod_of_nonneg d0]

/-! spec_TrieFind -/
theorem spec_TrieFind.ev (t : List S104) (a : Int) (hm : t.length ≤ 1048576) : Tells (fun k => spec_TrieFind.f k t a) (· = trieFind t a) := by
  have loop : TrieP t → 0 ≤ a → a ≤ 4294967295 → ∀ dst, Tells (fun k => spec_TrieFind.l0 k a dst 0 0 t) (· = tf t a 32 0 0 dst) := by
    intro hT a0 a1 dst
    have hl := hT.1
    refine T_loops (fun k (s : Int × Int) i => spec_TrieFind.l0 k a s.1 s.2 (i : Int) t) 32 (fun _ s => 0 ≤ s.2 ∧ s.2 < t.length) (fun i s r => r = tf t a (32 - i) (i : Int) s.2 s.1) (fun i s hi hs ih => ?_) (fun s _ => ?_) 0 (dst, 0) (Nat.zero_le _) ⟨by show (0 : Int) ≤ 0; omega, by show (0 : Int) < _; omega⟩
    · obtain ⟨d, p⟩ := s
      dsimp only at hs
      simp only [spec_TrieFind.l0]
      have e : 32 - i = (32 - (i + 1)) + 1 := by omega
      have er : tf t a (32 - i) (i : Int) p d = (let q := if bitAt a i = 1 then (rd_T104 t p).f1 else (rd_T104 t p).f0
        if q = 0 then d else tf t a (32 - (i + 1)) ((i : Int) + 1) q (if (rd_T104 t q).f2 = 0 then d else (rd_T104 t q).f2)) := by rw [e]; rfl
      rw [er]
      have join : ∀ q, (q = if bitAt a i = 1 then (rd_T104 t p).f1 else (rd_T104 t p).f0) → Tells (fun k => spec_TrieFind.j2 k a d (i : Int) q t) (fun r => r = if q = 0 then d else tf t a (32 - (i + 1)) ((i : Int) + 1) q (if (rd_T104 t q).f2 = 0 then d else (rd_T104 t q).f2)) := by
        intro q hq
        refine T_step ?_
        simp only [spec_TrieFind.j2]
        rw [wsucc hi (by omega)]
        refine T_ite (fun h => T_ret (by rw [if_pos h])) (fun h => ?_)
        rw [if_neg h]
        have hn := tf_next t hT a i p hs.1 hs.2 q hq h
        refine T_pos hn.1 (T_pos hn.2 (T_ite (fun h2 => ?_) (fun h2 => ?_)))
        · rw [if_pos h2]
          exact ih (d, q) hn
        · rw [if_neg h2]
          exact ih (_, q) hn
      refine T_pos (by omega) (T_pos hs.1 (T_pos hs.2 (T_bind (spec_l10Bit.ev a i a0 a1 (by omega) (by omega)) ?_)))
      rintro _ rfl
      refine T_ite (fun h => ?_) (fun h => ?_)
      · have := join _ (by rw [if_pos h])
        simpa only [if_pos h] using this
      · have := join _ (by rw [if_neg h])
        simpa only [if_neg h] using this
    · simp only [spec_TrieFind.l0]
      exact T_neg (by omega) (T_ret (by rw [Nat.sub_self]; rfl))
  have join : ∀ b : Bool, (b = false → TrieP t ∧ 0 ≤ a ∧ a ≤ 4294967295) → Tells (fun k => spec_TrieFind.j0 k a b t) (· = if b = true then 0 else tf t a 32 0 0 (rd_T104 t 0).f2) := by
    intro b hb
    refine T_step ?_
    simp only [spec_TrieFind.j0]
    cases b
    · obtain ⟨hT, a0, a1⟩ := hb rfl
      have hl := hT.1
      exact T_neg (by simp) (T_pos (by omega) ((loop hT a0 a1 _).mono fun r hr => by rw [hr]; rfl))
    · exact T_pos rfl (T_ret rfl)
  unfold spec_TrieFind.f trieFind
  refine T_bind (spec_TrieOk.ev t hm) fun q hq => T_ite (fun h => ?_) (fun h => ?_)
  · simp only [spec_AddrOk.eq, Option.bind_some]
    refine (join _ (fun hb => ⟨hq.1 h, by simpa using hb⟩)).mono fun r hr => ?_
    rw [hr]
    by_cases h2 : 0 ≤ a ∧ a ≤ 4294967295
    · have e : (!decide (0 ≤ a ∧ a ≤ 4294967295)) = false := by simp [h2]
      rw [e, if_neg (by simp), if_pos ⟨hq.1 h, h2⟩]
    · have e : (!decide (0 ≤ a ∧ a ≤ 4294967295)) = true := by simp [h2]
      rw [e, if_pos rfl, if_neg (fun k => h2 k.2)]
  · refine (join _ (fun hb => by cases hb)).mono fun r hr => ?_
    rw [hr, if_pos rfl, if_neg (fun k => h (hq.2 k.1))]

/-! impl_within -/
theorem impl_within.eq (a b c : Int) : impl_within.f a b c = some (decide (b ≤ a ∧ a ≤ c)) := by
  unfold impl_within.f
  by_cases h : b ≤ a <;> simp [h]

/-! impl_TrieOk -/
theorem impl_TrieOk.ev (t : List S104) (hm : t.length ≤ 1048576) : Tells (fun k => impl_TrieOk.f k t) (fun r => r = true ↔ TrieP t) := by
  unfold impl_TrieOk.f
  simp only [impl_within.eq, Option.bind_some, decide_eq_true_eq]
  refine T_ite (fun h1 => T_pos (by omega) (T_pos (by omega) ?_)) (fun h1 => T_ret (by
    simp only [Bool.false_eq_true, false_iff]
    rintro ⟨h, _⟩
    omega))
  have hn : t.length ≤ 400 := by omega
  have hl : (1 ≤ t.length ∧ t.length ≤ 400) := by omega
  -- one kid
  have kid : ∀ (u : List Int) (i : Nat) (hi : i < t.length) (a b c : Int) (m : Nat) (hmm : m < 2) (P : Bool → Prop), u.length = t.length → (∀ x, 0 ≤ rd u x ∧ rd u x ≤ 100000) →
      (Kid t.length i (rd [a, b] (m : Int)) → Tells (fun k => impl_TrieOk.l1 k (t.length : Int) (bump u (rd [a, b] (m : Int))) (i : Int) t (t.length : Int) (i : Int) [a, b] 2 ((m + 1 : Nat) : Int) a b c) P) → (¬ Kid t.length i (rd [a, b] (m : Int)) → P false) →
      Tells (fun k => impl_TrieOk.l1 k (t.length : Int) u (i : Int) t (t.length : Int) (i : Int) [a, b] 2 (m : Int) a b c) P := by
    intro u i hi a b c m hmm P hu hr go bad
    refine T_step ?_
    simp only [impl_TrieOk.l1, impl_within.eq, Option.bind_some]
    have hw : wrap64 ((t.length : Int) - 1) = (t.length : Int) - 1 := w64 (by omega) (by omega)
    rw [wsucc hi (by omega), hw]
    refine T_pos (by omega) (T_pos (by omega) (T_pos (by simp; omega) ?_))
    refine T_ite (fun h => T_step ?_) (fun h => T_step ?_)
    · simp only [impl_TrieOk.j2]
      rw [wsucc hmm (by omega)]
      refine T_neg (by simp) (T_pos h ?_)
      have := go (.inl h)
      simpa [bump, h] using this
    · simp only [impl_TrieOk.j2]
      rw [wsucc hmm (by omega)]
      refine T_ite (fun h3 => T_ret (bad (fun k => ?_))) (fun h3 => T_neg h ?_)
      · unfold Kid at k
        simp at h3
        omega
      · simp at h3
        refine T_pos (by omega) (T_pos (by omega) ?_)
        have := go (.inr (by omega))
        rw [w64 (by have := hr (rd [a, b] (m : Int)); omega) (by have := hr (rd [a, b] (m : Int)); omega)]
        simpa [bump, h] using this
  have main := T_loop (fun k i => impl_TrieOk.l0 k (t.length : Int) (upsOf t.length (t.take i)) t (t.length : Int) (i : Int)) t.length
    (fun i r => r = true ↔ (∀ j (h : j < t.length), i ≤ j → TwigC t.length j t[j]) ∧ ∀ j : Nat, i ≤ j → 1 ≤ j → j < t.length → rd (upsOf t.length (t.take (j + 1))) (j : Int) = 1) (fun i hi he => ?_) ?_ 0 (Nat.zero_le _)
  · refine Tells.mono (g := fun k => impl_TrieOk.l0 k (t.length : Int) (List.replicate t.length 0) t (t.length : Int) 0) main (fun r hr => ?_)
    · rw [hr]
      refine ⟨fun h => ⟨hl, fun j hj => h.1 j hj (Nat.zero_le _), fun j h1 h2 => ?_⟩, fun h => ⟨fun j hj _ => h.2.1 j hj, fun j _ h1 h2 => ?_⟩⟩
      · rw [ups_later t (fun j hj => h.1 j hj (Nat.zero_le _)) j (t.length - (j + 1)) (j + 1) (by omega) (by omega)]
        exact h.2 j (Nat.zero_le _) h1 h2
      · rw [← ups_later t h.2.1 j (t.length - (j + 1)) (j + 1) (by omega) (by omega)]
        exact h.2.2 j h1 h2
  · simp only [impl_TrieOk.l0, Option.bind_some, rd_T104_at t i hi]
    refine T_pos (by omega) (T_pos (by omega) (T_pos (by omega) ?_))
    have hnot : ¬ TwigC t.length i t[i] → (false = true ↔ (∀ j (h : j < t.length), i ≤ j → TwigC t.length j t[j]) ∧ ∀ j : Nat, i ≤ j → 1 ≤ j → j < t.length → rd (upsOf t.length (t.take (j + 1))) (j : Int) = 1) := fun h => by
      simp only [Bool.false_eq_true, false_iff]
      exact fun k => h (k.1 i hi (Nat.le_refl _))
    have hlen : (upsOf t.length (t.take i)).length = t.length := ups_len _ _
    have hrng : ∀ a, 0 ≤ rd (upsOf t.length (t.take i)) a ∧ rd (upsOf t.length (t.take i)) a ≤ 10000 := fun a => by have := ups_rng t.length t i (by omega) a; omega
    refine kid _ i hi _ _ _ 0 (by omega) _ hlen (fun a => by have := hrng a; omega) (fun ha => ?_) (fun ha => hnot (fun k => ha k.1))
    refine kid _ i hi _ _ _ 1 (by omega) _ (by rw [bump_len, hlen]) (fun a => by have := bump_rng _ 10000 (by omega) hrng (rd [(t[i]).f0, (t[i]).f1] ((0 : Nat) : Int)) a; omega) (fun hb => ?_) (fun hb => hnot (fun k => hb k.2.1))
    refine T_step ?_
    simp only [impl_TrieOk.l1, impl_within.eq, Option.bind_some, decide_eq_true_eq]
    refine T_neg (by omega) ?_
    rw [wsucc hi (by omega)]
    have e1 : bump (bump (upsOf t.length (t.take i)) (rd [(t[i]).f0, (t[i]).f1] ((0 : Nat) : Int))) (rd [(t[i]).f0, (t[i]).f1] ((1 : Nat) : Int)) = upsOf t.length (t.take (i + 1)) := (ups_succ t.length t i hi).symm
    rw [e1]
    have hlen2 : (upsOf t.length (t.take (i + 1))).length = t.length := ups_len _ _
    refine T_ite (fun h2 => ?_) (fun h2 => T_ret (hnot (fun k => h2 k.2.2)))
    have ok : TwigC t.length i t[i] := ⟨ha, hb, h2⟩
    have step : ∀ (hu : 1 ≤ i → rd (upsOf t.length (t.take (i + 1))) (i : Int) = 1), Tells (fun k => impl_TrieOk.l0 k (t.length : Int) (upsOf t.length (t.take (i + 1))) t (t.length : Int) ((i + 1 : Nat) : Int)) (fun r => r = true ↔ (∀ j (h : j < t.length), i ≤ j → TwigC t.length j t[j]) ∧ ∀ j : Nat, i ≤ j → 1 ≤ j → j < t.length → rd (upsOf t.length (t.take (j + 1))) (j : Int) = 1) := by
      intro hu
      refine he.mono fun r hr => ?_
      rw [hr]
      refine ⟨fun h => ⟨fun j hj hij => ?_, fun j hij h1 hj => ?_⟩, fun h => ⟨fun j hj hij => h.1 j hj (by omega), fun j hij h1 hj => h.2 j (by omega) h1 hj⟩⟩
      · by_cases e : j = i
        · subst e; exact ok
        · exact h.1 j hj (by omega)
      · by_cases e : j = i
        · subst e; exact hu h1
        · exact h.2 j (by omega) h1 hj
    refine T_ite (fun h3 => T_pos (by omega) (T_pos (by omega) (T_ite (fun h4 => step (fun _ => h4)) (fun h4 => T_ret ?_)))) (fun h3 => step (fun h => by omega))
    simp only [Bool.false_eq_true, false_iff]
    exact fun k => h4 (k.2 i (Nat.le_refl _) (by omega) hi)
  · simp only [impl_TrieOk.l0]
    exact T_neg (by omega) (T_ret (by
      simp only [true_iff]
      exact ⟨fun j hj hjj => absurd hj (by omega), fun j a b c => absurd c (by omega)⟩))

/-! impl_AddrOk -/
theorem impl_AddrOk.eq (a : Int) : impl_AddrOk.f a = some (decide (0 ≤ a ∧ a ≤ 4294967295)) := by
  unfold impl_AddrOk.f
  simp [impl_within.eq]

/-! impl_along -/
theorem impl_along.eq (z o dst b : Int) (hb : b = 0 ∨ b = 1) : impl_along.f z o dst b = some (if b = 1 then o else z) := by
  unfold impl_along.f
  rcases hb with rfl | rfl <;> simp

/-! impl_bitOf -/
theorem impl_bitOf.eq (a i : Int) (h0 : 0 ≤ a) (h1 : a ≤ 4294967295) (i0 : 0 ≤ i) (i1 : i ≤ 31) : impl_bitOf.f a i = some (bitAt a i) := by
  unfold impl_bitOf.f bitAt
  rw [w64 (x := 31 - i) (by omega) (by omega), if_pos (by omega)]
  have e : shr .i64 a (31 - i) = a / 2 ^ (31 - i).toNat := by
    unfold shr
    rw [show min (31 - i).toNat IntKind.i64.bits = (31 - i).toNat from Nat.min_eq_left (by show _ ≤ 64; omega)]
  have hp := pow_rng (31 - i).toNat (by omega)
  have d0 : 0 ≤ a / 2 ^ (31 - i).toNat := Int.ediv_nonneg h0 (by omega)
  have d1 : a / 2 ^ (31 - i).toNat ≤ a := Int.ediv_le_self _ h0
  have m := bits_mask .i64 62 (by decide) (fun x h0 h1 => wrap_i64_in (by omega) (by omega)) 1 (by omega) (a / 2 ^ (31 - i).toNat) d0 (by omega)
  rw [e]
  exact congrArg some m

/-! impl_TrieFind -/
theorem impl_TrieFind.ev (t : List S104) (a : Int) (hm : t.length ≤ 1048576) : Tells (fun k => impl_TrieFind.f k t a) (· = trieFind t a) := by
  have loop : TrieP t → 0 ≤ a → a ≤ 4294967295 → ∀ dst, Tells (fun k => impl_TrieFind.l0 k a 0 dst 0 t) (· = tf t a 32 0 0 dst) := by
    intro hT a0 a1 dst
    have hl := hT.1
    refine T_loops (fun k (s : Int × Int) i => impl_TrieFind.l0 k a s.2 s.1 (i : Int) t) 32 (fun _ s => 0 ≤ s.2 ∧ s.2 < t.length) (fun i s r => r = tf t a (32 - i) (i : Int) s.2 s.1) (fun i s hi hs ih => ?_) (fun s _ => ?_) 0 (dst, 0) (Nat.zero_le _) ⟨by show (0 : Int) ≤ 0; omega, by show (0 : Int) < _; omega⟩
    · obtain ⟨d, p⟩ := s
      dsimp only at hs
      simp only [impl_TrieFind.l0]
      have e : 32 - i = (32 - (i + 1)) + 1 := by omega
      have er : tf t a (32 - i) (i : Int) p d = (let q := if bitAt a i = 1 then (rd_T104 t p).f1 else (rd_T104 t p).f0
        if q = 0 then d else tf t a (32 - (i + 1)) ((i : Int) + 1) q (if (rd_T104 t q).f2 = 0 then d else (rd_T104 t q).f2)) := by rw [e]; rfl
      rw [er, wsucc hi (by omega)]
      refine T_pos (by omega) (T_pos hs.1 (T_pos hs.2 ?_))
      simp only [impl_bitOf.eq a i a0 a1 (by omega) (by omega), Option.bind_some, impl_along.eq _ _ _ _ (bitAt_01 a i)]
      generalize hq : (if bitAt a i = 1 then (rd_T104 t p).f1 else (rd_T104 t p).f0) = q
      refine T_ite (fun h => T_ret (by rw [if_pos h])) (fun h => ?_)
      rw [if_neg h]
      have hn := tf_next t hT a i p hs.1 hs.2 q hq.symm h
      refine T_pos hn.1 (T_pos hn.2 (T_ite (fun h2 => ?_) (fun h2 => ?_)))
      · rw [if_pos h2]
        exact ih (d, q) hn
      · rw [if_neg h2]
        exact ih (_, q) hn
    · simp only [impl_TrieFind.l0]
      exact T_neg (by omega) (T_ret (by rw [Nat.sub_self]; rfl))
  have join : ∀ b : Bool, (b = false → TrieP t ∧ 0 ≤ a ∧ a ≤ 4294967295) → Tells (fun k => impl_TrieFind.j0 k a b t) (· = if b = true then 0 else tf t a 32 0 0 (rd_T104 t 0).f2) := by
    intro b hb
    refine T_step ?_
    simp only [impl_TrieFind.j0]
    cases b
    · obtain ⟨hT, a0, a1⟩ := hb rfl
      have hl := hT.1
      exact T_neg (by simp) (T_pos (by omega) ((loop hT a0 a1 _).mono fun r hr => by rw [hr]; rfl))
    · exact T_pos rfl (T_ret rfl)
  unfold impl_TrieFind.f trieFind
  refine T_bind (impl_TrieOk.ev t hm) fun q hq => T_ite (fun h => ?_) (fun h => ?_)
  · simp only [impl_AddrOk.eq, Option.bind_some]
    refine (join _ (fun hb => ⟨hq.1 h, by simpa using hb⟩)).mono fun r hr => ?_
    rw [hr]
    by_cases h2 : 0 ≤ a ∧ a ≤ 4294967295
    · have e : (!decide (0 ≤ a ∧ a ≤ 4294967295)) = false := by simp [h2]
      rw [e, if_neg (by simp), if_pos ⟨hq.1 h, h2⟩]
    · have e : (!decide (0 ≤ a ∧ a ≤ 4294967295)) = true := by simp [h2]
      rw [e, if_pos rfl, if_neg (fun k => h2 k.2)]
  · refine (join _ (fun hb => by cases hb)).mono fun r hr => ?_
    rw [hr, if_pos rfl, if_neg (fun k => h (hq.2 k.1))]

/-! laws_big -/
theorem laws_big.eq (l : List Int) : laws_big.f l = some (decide (l.length > 1048576)) := by
  unfold laws_big.f
  congr 1
  simp
  omega

/-! spec_l01New -/
theorem spec_l01New.ev (l : List Int) (hn : l.length ≤ 1048576) : Tells (fun k => spec_l01New.f k l) (fun r => r.1 = l ∧ CurOk l r.2.1) := by
  unfold spec_l01New.f
  refine T_loops (fun k (s : Int) i => spec_l01New.l0 k l s (i : Int)) l.length (fun _ _ => True) (fun _ _ r => r.1 = l ∧ CurOk l r.2.1) (fun i s hi _ ih => ?_) (fun s _ => ?_) 0 _ (Nat.zero_le _) trivial
  · simp only [spec_l01New.l0]
    rw [wsucc hi (by omega)]
    exact T_pos (by omega) (T_ite (fun _ => T_pos (by omega) (ih _ trivial)) (fun _ => T_ret ⟨rfl, Int.le_refl _, by show (0 : Int) ≤ _; omega, hn⟩))
  · simp only [spec_l01New.l0]
    exact T_neg (by omega) (T_ret ⟨rfl, Int.le_refl _, by show (0 : Int) ≤ _; omega, hn⟩)

/-! spec_PrefixOk -/
theorem spec_PrefixOk.ev (a n : Int) : Tells (fun k => spec_PrefixOk.f k a n) (fun r => r = true ↔ PfxP a n) := by
  unfold spec_PrefixOk.f PfxP
  simp only [spec_AddrOk.eq, spec_l01In.eq, Option.bind_some, decide_eq_true_eq]
  refine T_ite (fun h1 => T_ite (fun h2 => ?_) (fun h => T_ret (by simp [h]))) (fun h => T_ret (by simp [h]))
  refine T_bind (spec_l08Size.ev n h2.1 h2.2) ?_
  rintro _ rfl
  have hp := pow_rng (32 - n).toNat (by omega)
  refine T_neg (by omega) (T_ret ?_)
  rw [Int.tmod_eq_emod_of_nonneg h1.1]
  simp [h1, h2]

/-! spec_l09Ahead -/
theorem spec_l09Ahead.eq (a b c d : Int) : ∃ r, spec_l09Ahead.f a b c d = some r ∧ (r = true ↔ a < c ∨ (a = c ∧ b < d)) := by
  unfold spec_l09Ahead.f
  by_cases h : a < c
  · exact ⟨_, if_pos h, by simp [h]⟩
  · by_cases h2 : a = c
    · rw [if_neg h, if_pos h2]
      exact ⟨_, rfl, by simp [h, h2]⟩
    · rw [if_neg h, if_neg h2]
      exact ⟨_, rfl, by simp [h, h2]⟩
theorem spec_l09Ahead.ev (a b c d : Int) : Tells (fun _ => spec_l09Ahead.f a b c d) (fun r => r = true ↔ a < c ∨ (a = c ∧ b < d)) := by
  obtain ⟨r, h, hr⟩ := spec_l09Ahead.eq a b c d
  exact T_some (fun _ => h) hr

/-! spec_RoutesOk -/
theorem spec_RoutesOk.ev (l : List S65) (hn : l.length ≤ 1048576) : Tells (fun k => spec_RoutesOk.f k l) (fun r => r = true ↔ RoutesP l) := by
  refine T_allb (fun k i => spec_RoutesOk.l0 k l (i : Int)) l.length (RouteC l) _ (fun i hi hc P he => ?_) (fun i hi hc => ?_) ?_
  · obtain ⟨h1, h2, h3⟩ := hc
    simp only [spec_RoutesOk.l0, spec_l01In.eq, Option.bind_some, decide_eq_true_eq]
    rw [wsucc hi (by omega)]
    refine T_pos (by omega) (T_pos (by omega) (T_bind (spec_PrefixOk.ev _ _) fun q hq => T_pos (hq.2 h1) (T_pos h2 ?_)))
    rcases Nat.eq_zero_or_pos i with h0 | h0
    · exact T_neg (by omega) he
    · rw [w64 (x := (i : Int) - 1) (by omega) (by omega)]
      exact T_pos (by omega) (T_pos (by omega) (T_pos (by omega) (T_bind (spec_l09Ahead.ev _ _ _ _) fun q hq => T_pos (hq.2 (h3 h0)) he)))
  · simp only [spec_RoutesOk.l0, spec_l01In.eq, Option.bind_some, decide_eq_true_eq]
    rw [wsucc hi (by omega)]
    refine T_pos (by omega) (T_pos (by omega) (T_bind (spec_PrefixOk.ev _ _) fun q hq => T_ite (fun h1 => T_ite (fun h2 => ?_) (fun _ => T_ret rfl)) (fun _ => T_ret rfl)))
    rcases Nat.eq_zero_or_pos i with h0 | h0
    · exact absurd ⟨hq.1 h1, h2, fun h => by omega⟩ hc
    · rw [w64 (x := (i : Int) - 1) (by omega) (by omega)]
      exact T_pos (by omega) (T_pos (by omega) (T_pos (by omega) (T_bind (spec_l09Ahead.ev _ _ _ _) fun q2 hq2 => T_ite (fun h3 => absurd ⟨hq.1 h1, h2, fun _ => hq2.1 h3⟩ hc) (fun _ => T_ret rfl))))
  · simp only [spec_RoutesOk.l0]
    exact T_neg (by omega) (T_ret (by simp; omega))

/-! spec_PutRoute -/
theorem spec_PutRoute.ev (l : List S65) (a n dst : Int) (hn : l.length ≤ 400000) : Tells (fun k => spec_PutRoute.f k l a n dst) (· = putRoute l ⟨⟨a, n⟩, dst⟩) := by
  generalize hr : (⟨⟨a, n⟩, dst⟩ : S65) = r
  have e1 : a = r.f0.f0 := by rw [← hr]
  have e2 : n = r.f0.f1 := by rw [← hr]
  have e3 : dst = r.f1 := by rw [← hr]
  have same : Tells (fun _ => (some (([] : List S65) : List S65)).bind fun y => if y.length + l.length < 5864062014805 then some ((y ++ l), false) else none) (· = (l, false)) := by
    simp only [Option.bind_some]
    exact T_pos (by simp; omega) (T_ret (by simp))
  have second : ∀ (out : List S65), out = l.filter (fun x => decide (AheadP x.f0 r.f0)) ++ [r] → Tells (fun k => spec_PutRoute.l1 k l out 0 a n dst) (· = putRoute l r) := by
    intro out ho
    have hol : out.length ≤ l.length + 1 := by
      rw [ho, List.length_append]
      have h1 := List.length_filter_le (fun x : S65 => decide (AheadP x.f0 r.f0)) l
      simp
      exact h1
    have h := T_loop' (fun k i => spec_PutRoute.l1 k l (out ++ (l.take i).filter (fun x => decide (AheadP r.f0 x.f0))) (i : Int) a n dst) l.length (· = putRoute l r) (fun i hi he => ?_) ?_
    · simpa using h
    · simp only [spec_PutRoute.l1, rd_T65_at l i hi]
      rw [wsucc hi (by omega)]
      rw [filter_take _ _ i hi] at he
      refine T_pos (by omega) (T_pos (by omega) (T_bind (spec_l09Ahead.ev _ _ _ _) fun q hq => T_ite (fun h => ?_) (fun h => ?_)))
      · have hA : AheadP r.f0 l[i].f0 := by
          have := hq.1 h
          rw [e1, e2] at this
          exact this
        rw [if_pos (by simpa using hA)] at he
        refine T_pos ?_ ?_
        · have h1 := List.length_filter_le (fun x : S65 => decide (AheadP r.f0 x.f0)) (l.take i)
          have h2 : (l.take i).length ≤ i := List.length_take_le _ _
          rw [List.length_append]
          omega
        · rw [List.append_assoc]
          exact he
      · have hA : ¬ AheadP r.f0 l[i].f0 := fun k => h (hq.2 (by rw [e1, e2]; exact k))
        rw [if_neg (by simpa using hA)] at he
        exact he
    · simp only [spec_PutRoute.l1]
      have eo : out ++ (l.take l.length).filter (fun x => decide (AheadP r.f0 x.f0)) = putR l r := by
        rw [ho, List.take_of_length_le (Nat.le_refl _)]
        unfold putR
        simp
      rw [eo]
      have hp := putR_len l r
      refine T_neg (by omega) (T_bind (spec_RoutesOk.ev l (by omega)) fun q hq => T_ite (fun h => ?_) (fun h => ?_))
      · refine T_bind (spec_RoutesOk.ev _ (by omega)) fun q2 hq2 => T_ite (fun h2 => T_ret ?_) (fun h2 => ?_)
        · unfold putRoute
          rw [if_pos ⟨hq.1 h, hq2.1 h2⟩]
        · refine same.mono fun x hx => ?_
          rw [hx]
          unfold putRoute
          rw [if_neg (fun k => h2 (hq2.2 k.2))]
      · refine same.mono fun x hx => ?_
        rw [hx]
        unfold putRoute
        rw [if_neg (fun k => h (hq.2 k.1))]
  unfold spec_PutRoute.f
  have h := T_loop' (fun k i => spec_PutRoute.l0 k l ((l.take i).filter (fun x => decide (AheadP x.f0 r.f0))) (i : Int) a n dst) l.length (· = putRoute l r) (fun i hi he => ?_) ?_
  · simpa using h
  · simp only [spec_PutRoute.l0, rd_T65_at l i hi]
    rw [wsucc hi (by omega)]
    rw [filter_take _ _ i hi] at he
    refine T_pos (by omega) (T_pos (by omega) (T_bind (spec_l09Ahead.ev _ _ _ _) fun q hq => T_ite (fun h => ?_) (fun h => ?_)))
    · have hA : AheadP l[i].f0 r.f0 := by
        have := hq.1 h
        rw [e1, e2] at this
        exact this
      rw [if_pos (by simpa using hA)] at he
      refine T_pos ?_ he
      have h1 := List.length_filter_le (fun x : S65 => decide (AheadP x.f0 r.f0)) (l.take i)
      have h2 : (l.take i).length ≤ i := List.length_take_le _ _
      omega
    · have hA : ¬ AheadP l[i].f0 r.f0 := fun k => h (hq.2 (by rw [e1, e2]; exact k))
      rw [if_neg (by simpa using hA)] at he
      exact he
  · simp only [spec_PutRoute.l0]
    have hp := putR_len l r
    have h1 := List.length_filter_le (fun x : S65 => decide (AheadP x.f0 r.f0)) (l.take l.length)
    have h2 : (l.take l.length).length ≤ l.length := List.length_take_le _ _
    refine T_neg (by omega) (T_pos (by omega) (second _ ?_))
    rw [List.take_of_length_le (Nat.le_refl _), hr]

/-! spec_l01Byte -/
theorem spec_l01Byte.ev (l : List Int) (i h : Int) (hc : CurOk l i) : Tells (fun _ => spec_l01Byte.f l i h) (fun r => (0 ≤ r.1 ∧ r.1 ≤ 255) ∧ CurOk l r.2.1) := by
  unfold spec_l01Byte.f
  obtain ⟨h0, h1, h2⟩ := hc
  refine T_ite (fun h3 => T_pos h0 (T_ret ⟨bits255 _, ?_⟩)) (fun h3 => T_ret ⟨bits255 _, h0, h1, h2⟩)
  show CurOk l (wrap64 (i + 1))
  rw [w64 (by omega) (by omega)]
  exact ⟨by omega, by omega, h2⟩

/-! spec_l01Below -/
theorem spec_l01Below.ev (l : List Int) (i h n : Int) (hc : CurOk l i) (hn : n ≤ 9223372036854775807) : Tells (fun _ => spec_l01Below.f l i h n) (fun r => (0 ≤ r.1 ∧ (0 < n → r.1 < n) ∧ (n ≤ 0 → r.1 = 0)) ∧ CurOk l r.2.1) := by
  unfold spec_l01Below.f
  refine T_ite (fun h1 => T_ret ⟨⟨Int.le_refl _, fun h => by omega, fun _ => rfl⟩, hc⟩) (fun h1 => T_ite (fun h2 => ?_) (fun h2 => ?_))
  · refine T_bind (spec_l01Byte.ev l i h hc) fun r hr => T_neg (by omega) (T_ret ⟨?_, hr.2⟩)
    dsimp only
    rw [Int.tmod_eq_emod_of_nonneg hr.1.1]
    have a := Int.emod_nonneg r.1 (show n ≠ 0 by omega)
    have b := Int.emod_lt_of_pos r.1 (show 0 < n by omega)
    exact ⟨a, fun _ => b, fun h => by omega⟩
  · refine T_bind (spec_l01Byte.ev l i h hc) fun x hx => T_bind (spec_l01Byte.ev l _ _ hx.2) fun y hy => T_bind (spec_l01Byte.ev l _ _ hy.2) fun z hz => T_bind (spec_l01Byte.ev l _ _ hz.2) fun w hw => T_neg (by omega) (T_ret ⟨?_, hw.2⟩)
    dsimp only
    rw [w64 (x := x.1 * 16777216) (by omega) (by omega), w64 (x := y.1 * 65536) (by omega) (by omega), w64 (x := z.1 * 256) (by omega) (by omega), w64 (x := x.1 * 16777216 + y.1 * 65536) (by omega) (by omega), w64 (x := x.1 * 16777216 + y.1 * 65536 + z.1 * 256) (by omega) (by omega), w64 (x := x.1 * 16777216 + y.1 * 65536 + z.1 * 256 + w.1) (by omega) (by omega)]
    rw [Int.tmod_eq_emod_of_nonneg (by omega)]
    have a := Int.emod_nonneg (x.1 * 16777216 + y.1 * 65536 + z.1 * 256 + w.1) (show n ≠ 0 by omega)
    have b := Int.emod_lt_of_pos (x.1 * 16777216 + y.1 * 65536 + z.1 * 256 + w.1) (show 0 < n by omega)
    exact ⟨a, fun _ => b, fun h => by omega⟩

/-! spec_PrefixOf -/
theorem spec_PrefixOf.ev (a n : Int) : Tells (fun k => spec_PrefixOf.f k a n) (· = if (0 ≤ a ∧ a ≤ 4294967295) ∧ (0 ≤ n ∧ n ≤ 32) then (a - a % 2 ^ (32 - n).toNat, n, true) else (0, 0, false)) := by
  unfold spec_PrefixOf.f
  simp only [spec_AddrOk.eq, spec_l01In.eq, Option.bind_some, decide_eq_true_eq]
  refine T_ite (fun h1 => T_ite (fun h2 => ?_) (fun h2 => T_ret (by rw [if_neg (fun k => h2 k.2)]))) (fun h1 => T_ret (by rw [if_neg (fun k => h1 k.1)]))
  refine T_bind (spec_l08Size.ev n h2.1 h2.2) ?_
  rintro _ rfl
  have hp := pow_rng (32 - n).toNat (by omega)
  refine T_neg (by omega) (T_ret ?_)
  have hm0 := Int.emod_nonneg a (show (2 : Int) ^ (32 - n).toNat ≠ 0 by omega)
  have hm1 := Int.emod_lt_of_pos a (show (0 : Int) < 2 ^ (32 - n).toNat by omega)
  rw [if_pos ⟨h1, h2⟩, Int.tmod_eq_emod_of_nonneg h1.1, w64 (by omega) (by omega)]

/-! spec_l01PickInt -/
theorem spec_l01PickInt.ev (l : List Int) (i h : Int) (p : List Int) (hc : CurOk l i) (hp : 0 < p.length) (hp2 : p.length ≤ 1000) : Tells (fun _ => spec_l01PickInt.f l i h p) (fun r => r.1 ∈ p ∧ CurOk l r.2.1) := by
  unfold spec_l01PickInt.f
  refine T_bind (spec_l01Below.ev l i h _ hc (by omega)) fun r hr => T_pos hr.1.1 (T_pos (hr.1.2.1 (by omega)) (T_ret ⟨?_, hr.2⟩))
  obtain ⟨m, hm⟩ := Int.eq_ofNat_of_zero_le hr.1.1
  have hlt := hr.1.2.1 (by omega)
  rw [hm] at hlt ⊢
  dsimp only
  rw [rd_nat p m (by omega)]
  exact List.getElem_mem _

/-! spec_l08Prefix -/
theorem spec_l08Prefix.ev (l : List Int) (i h : Int) (hc : CurOk l i) : Tells (fun k => spec_l08Prefix.f k l i h) (fun r => PfxP r.1 r.2.1 ∧ CurOk l r.2.2.1) := by
  unfold spec_l08Prefix.f
  refine T_bind (spec_l01Below.ev l i h 1024 hc (by omega)) fun x hx => T_bind (spec_l01PickInt.ev l _ _ _ hx.2 (by simp) (by simp)) fun y hy => ?_
  have hb := hx.1.2.1 (by omega)
  rw [w64 (x := 167772160 + x.1) (by have := hx.1.1; omega) (by omega)]
  refine T_bind (spec_PrefixOf.ev _ _) ?_
  have h1 : 0 ≤ 167772160 + x.1 ∧ 167772160 + x.1 ≤ 4294967295 := ⟨by have := hx.1.1; omega, by omega⟩
  have h2 : 0 ≤ y.1 ∧ y.1 ≤ 32 := by
    have := hy.1
    simp at this
    omega
  rintro _ rfl
  rw [if_pos ⟨h1, h2⟩]
  exact T_ret ⟨pfx_of _ _ h1 h2, hy.2⟩

/-! spec_l09Routes -/
theorem routes_nil : RoutesP ([] : List S65) := ⟨fun i hi => absurd hi (by simp), by simp⟩
theorem spec_l09Routes.ev2 (l : List Int) (i h : Int) (hc : CurOk l i) : Tells (fun k => spec_l09Routes.f k l i h) (fun r => (RoutesP r.1 ∧ r.1.length ≤ 9) ∧ CurOk l r.2.1) := by
  unfold spec_l09Routes.f
  refine T_loops (fun k (s : List S65 × Int × Int) j => spec_l09Routes.l0 k s.1 (j : Int) l s.2.1 s.2.2) 9 (fun j s => (RoutesP s.1 ∧ s.1.length ≤ j) ∧ CurOk l s.2.1) (fun _ _ r => (RoutesP r.1 ∧ r.1.length ≤ 9) ∧ CurOk l r.2.1) (fun j s hj hs ih => ?_) (fun s hs => ?_) 0 ([], i, h) (Nat.zero_le _) ⟨⟨routes_nil, Nat.le_refl _⟩, hc⟩
  · obtain ⟨rs, ci, ch⟩ := s
    obtain ⟨⟨hR, hL⟩, hC⟩ := hs
    dsimp only at hR hL hC
    simp only [spec_l09Routes.l0]
    rw [wsucc hj (by omega)]
    refine T_bind (spec_l01Below.ev l ci ch 9 hC (by omega)) fun x hx => T_ite (fun h1 => ?_) (fun h1 => T_ret ⟨⟨hR, by dsimp only; omega⟩, hx.2⟩)
    refine T_bind (spec_l08Prefix.ev l _ _ hx.2) fun y hy => T_bind (spec_l01Below.ev l _ _ 4 hy.2 (by omega)) fun z hz => ?_
    refine T_bind (spec_PutRoute.ev rs _ _ _ (by have := hR.2; omega)) fun p hp => T_ite (fun h2 => ih (p.1, _, _) ⟨?_, hz.2⟩) (fun _ => ih (rs, _, _) ⟨⟨hR, by dsimp only; omega⟩, hz.2⟩)
    rw [hp] at h2 ⊢
    unfold putRoute at h2 ⊢
    split at h2
    · rename_i hh
      rw [if_pos hh]
      refine ⟨hh.2, ?_⟩
      have := putR_len1 rs ⟨⟨y.1, y.2.1⟩, wrap64 (1 + z.1)⟩
      dsimp only
      omega
    · cases h2
  · obtain ⟨rs, ci, ch⟩ := s
    obtain ⟨⟨hR, hL⟩, hC⟩ := hs
    dsimp only at hR hL hC
    simp only [spec_l09Routes.l0]
    refine T_bind (spec_l01Below.ev l ci ch 9 hC (by omega)) fun x hx => T_neg ?_ (T_ret ⟨⟨hR, by dsimp only; omega⟩, hx.2⟩)
    have := hx.1.2.1 (by omega)
    omega
theorem spec_l09Routes.ev (l : List Int) (i h : Int) (hc : CurOk l i) : Tells (fun k => spec_l09Routes.f k l i h) (fun r => RoutesP r.1 ∧ CurOk l r.2.1) := (spec_l09Routes.ev2 l i h hc).mono fun _ h => ⟨h.1.1, h.2⟩

/-! spec_DrawRoutes -/
theorem spec_DrawRoutes.ev2 (l : List Int) (hn : l.length ≤ 1048576) : Tells (fun k => spec_DrawRoutes.f k l) (fun r => (RoutesP r.1 ∧ r.1.length ≤ 9) ∧ 0 ≤ r.2 ∧ r.2 ≤ 4294967295) := by
  unfold spec_DrawRoutes.f
  refine T_bind (spec_l01New.ev l hn) fun c hc => ?_
  obtain ⟨e, hc⟩ := hc
  rw [e]
  refine T_bind (spec_l09Routes.ev2 l _ _ hc) fun x hx => T_bind (spec_l01Below.ev l _ _ 1100 hx.2 (by omega)) fun y hy => T_ret ⟨hx.1, ?_⟩
  have h1 := hy.1.1
  have h2 := hy.1.2.1 (by omega)
  dsimp only
  rw [w64 (by omega) (by omega)]
  omega
theorem spec_DrawRoutes.ev (l : List Int) (hn : l.length ≤ 1048576) : Tells (fun k => spec_DrawRoutes.f k l) (fun r => RoutesP r.1 ∧ 0 ≤ r.2 ∧ r.2 ≤ 4294967295) := (spec_DrawRoutes.ev2 l hn).mono fun _ h => ⟨h.1.1, h.2⟩

/-! spec_InPrefix -/
theorem spec_InPrefix.ev (p n a : Int) : Tells (fun k => spec_InPrefix.f k p n a) (fun r => r = true ↔ InP p n a) := by
  unfold spec_InPrefix.f InP
  refine T_bind (spec_PrefixOk.ev p n) fun q hq => T_ite (fun h => ?_) (fun h => T_ret (by
    have h' : ¬ PfxP p n := fun k => h (hq.2 k)
    simp [h']))
  have h' := hq.1 h
  simp only [spec_AddrOk.eq, Option.bind_some, decide_eq_true_eq]
  refine T_ite (fun h1 => ?_) (fun h1 => T_ret (by simp [h1]))
  obtain ⟨g1, g2, g3⟩ := h'
  refine T_bind (spec_l08Size.ev n g2.1 g2.2) ?_
  rintro _ rfl
  have hp := pow_rng (32 - n).toNat (by omega)
  refine T_neg (by omega) (T_ret ?_)
  rw [Int.tmod_eq_emod_of_nonneg h1.1]
  have hm0 := Int.emod_nonneg a (show (2 : Int) ^ (32 - n).toNat ≠ 0 by omega)
  have hm1 := Int.emod_lt_of_pos a (show (0 : Int) < 2 ^ (32 - n).toNat by omega)
  rw [w64 (by omega) (by omega)]
  simp [h1]
  exact fun _ => ⟨g1, g2, g3⟩

/-! impl_lastBits -/
theorem impl_lastBits.eq (n : Int) (h0 : 0 ≤ n) (h1 : n ≤ 32) : impl_lastBits.f n = some (2 ^ (32 - n).toNat - 1) := by
  unfold impl_lastBits.f
  have hp := pow_rng (32 - n).toNat (by omega)
  rw [w64 (x := 32 - n) (by omega) (by omega), if_pos (by omega)]
  have e : shl .i64 1 (32 - n) = 2 ^ (32 - n).toNat := by
    unfold shl
    rw [show min (32 - n).toNat IntKind.i64.bits = (32 - n).toNat from Nat.min_eq_left (by show _ ≤ 64; omega), Int.one_mul, wrap_i64_in (by omega) (by omega)]
  rw [e, w64 (by omega) (by omega)]

/-! impl_PrefixOk -/
theorem impl_PrefixOk.eq (a n : Int) : ∃ r, impl_PrefixOk.f a n = some r ∧ (r = true ↔ PfxP a n) := by
  unfold impl_PrefixOk.f PfxP
  simp only [impl_AddrOk.eq, impl_within.eq, Option.bind_some, decide_eq_true_eq]
  by_cases h1 : 0 ≤ a ∧ a ≤ 4294967295
  · by_cases h2 : 0 ≤ n ∧ n ≤ 32
    · rw [if_pos h1, if_pos h2, impl_lastBits.eq n h2.1 h2.2]
      refine ⟨_, rfl, ?_⟩
      rw [bits_mask .i64 62 (by decide) (fun x h0 h1 => wrap_i64_in (by omega) (by omega)) (32 - n).toNat (by omega) a h1.1 (by omega)]
      simp [h1, h2]
    · rw [if_pos h1, if_neg h2]
      exact ⟨_, rfl, by simp [h2]⟩
  · rw [if_neg h1]
    exact ⟨_, rfl, by simp [h1]⟩
theorem impl_PrefixOk.ev (a n : Int) : Tells (fun _ => impl_PrefixOk.f a n) (fun r => r = true ↔ PfxP a n) := by
  obtain ⟨r, h, hr⟩ := impl_PrefixOk.eq a n
  exact T_some (fun _ => h) hr

/-! impl_copyTrie -/
theorem impl_copyTrie.eq (t : List S104) (hm : t.length ≤ 1048576) : impl_copyTrie.f t = some t := by
  unfold impl_copyTrie.f
  simp only [Option.bind_some, List.length_nil, List.nil_append]
  rw [if_pos (by omega)]

/-! impl_TriePut -/
theorem impl_TriePut.ev (t : List S104) (a n o : Int) (hm : t.length ≤ 1048576) : Tells (fun k => impl_TriePut.f k t a n o) (· = triePut t a n o) := by
  have loop : TrieP t → PfxP a n → (0 ≤ o ∧ o ≤ 99) → Tells (fun k => impl_TriePut.l0 k o 0 n 0 t a n t) (· = triePut t a n o) := by
    intro hT hP ho
    have hQ := ((TrieP_iff t).1 hT).1
    have hl := hT.1
    obtain ⟨m, rfl⟩ := Int.eq_ofNat_of_zero_le hP.2.1.1
    have hm32 : m ≤ 32 := by have := hP.2.1.2; omega
    have hlen := ins_len hT a m
    have hend := ins_ok a m 0 t hQ (by simp [reach])
    refine T_loops (fun k (s : List S104 × Int) i => impl_TriePut.l0 k o s.2 (m : Int) (i : Int) t a (m : Int) s.1) m (fun i s => (0 ≤ s.2 ∧ s.2 < s.1.length) ∧ TrieQ s.1 ∧ s.1.length ≤ 1000 + i ∧ ins a (m - i) (i : Int) s.2 s.1 = ins a m 0 0 t) (fun i s r => r = triePut t a (m : Int) o) (fun i s hi hs ih => ?_) (fun s hs => ?_) 0 (t, 0) (Nat.zero_le _) ⟨⟨Int.le_refl _, by dsimp only; omega⟩, hQ, by dsimp only; omega, rfl⟩
    · obtain ⟨u, p⟩ := s
      dsimp only at hs
      obtain ⟨⟨p0, p1⟩, hU, hul, he⟩ := hs
      simp only [impl_TriePut.l0]
      rw [wsucc hi (by omega)]
      refine T_pos (by omega) ?_
      simp only [impl_bitOf.eq a i hP.1.1 hP.1.2 (by omega) (by omega), Option.bind_some, impl_along.eq _ _ _ _ (bitAt_01 a i)]
      have e1 : m - i = (m - (i + 1)) + 1 := by omega
      rw [e1] at he
      simp only [ins] at he
      have ek : (if bitAt a i = 1 then (rd_T104 u p).f1 else (rd_T104 u p).f0) = kidOf u p (bitAt a i) := rfl
      refine T_pos p0 (T_pos p1 ?_)
      rw [ek]
      refine T_ite (fun h => ?_) (fun h => ?_)
      · rw [if_pos h] at he
        have hg : ∀ v, v = addKid u p (bitAt a i) → Tells (fun k => impl_TriePut.l0 k o (u.length : Int) (m : Int) ((i + 1 : Nat) : Int) t a (m : Int) v) (fun r => r = triePut t a (m : Int) o) := by
          rintro v rfl
          exact ih (addKid u p (bitAt a i), (u.length : Int)) ⟨⟨by dsimp only; omega, by dsimp only; rw [addKid_len]; omega⟩, addKid_Q hU p0 p1 (bitAt_01 a i) h, by dsimp only; rw [addKid_len]; omega, he⟩
        have e2 := ins_step u p (bitAt a i) p0 p1
        refine T_pos (by omega) (T_ite (fun hb => T_pos (by simp; omega) (hg _ ?_)) (fun hb => T_pos (by simp; omega) (hg _ ?_)))
        · rw [e2, if_pos hb]
        · rw [e2, if_neg hb]
      · rw [if_neg h] at he
        have hk := (kid_rng hU p0 p1 (bitAt a i)).resolve_left h
        exact ih (u, kidOf u p (bitAt a i)) ⟨⟨by dsimp only; omega, by dsimp only; omega⟩, hU, by dsimp only; omega, he⟩
    · obtain ⟨u, p⟩ := s
      dsimp only at hs
      obtain ⟨⟨p0, p1⟩, hU, hul, he⟩ := hs
      rw [Nat.sub_self] at he
      have he : (u, p) = ins a m 0 0 t := he
      have eP : triePut t a (m : Int) o = if u.length > 400 then (t, false) else (setVal u p o, true) := by
        unfold triePut
        rw [if_pos ⟨hT, hP, ho⟩, Int.toNat_natCast, ← he]
      rw [eP]
      simp only [impl_TriePut.l0]
      refine T_neg (by omega) (T_pos p0 (T_pos p1 (T_ite (fun h => ?_) (fun h => ?_))))
      · simp only [impl_copyTrie.eq t hm, Option.bind_some]
        rw [if_pos (show u.length > 400 by omega)]
        exact T_ret rfl
      · rw [if_neg (show ¬ u.length > 400 by omega)]
        exact T_ret rfl
  have join : ∀ b : Bool, (b = false → TrieP t ∧ PfxP a n ∧ (0 ≤ o ∧ o ≤ 99)) → Tells (fun k => impl_TriePut.j0 k o b t a n) (· = if b = true then (t, false) else triePut t a n o) := by
    intro b hb
    refine T_step ?_
    simp only [impl_TriePut.j0, impl_copyTrie.eq t hm, Option.bind_some]
    cases b
    · obtain ⟨hT, hP, ho⟩ := hb rfl
      exact T_neg (by simp) ((loop hT hP ho).mono fun r hr => by rw [hr]; rfl)
    · exact T_pos rfl (T_ret rfl)
  have no : ¬ (TrieP t ∧ PfxP a n ∧ (0 ≤ o ∧ o ≤ 99)) → triePut t a n o = (t, false) := fun h => by unfold triePut; rw [if_neg h]
  unfold impl_TriePut.f
  refine T_bind (impl_TrieOk.ev t hm) fun q hq => T_ite (fun h => ?_) (fun h => ?_)
  · refine T_bind (impl_PrefixOk.ev a n) fun q2 hq2 => T_ite (fun h2 => ?_) (fun h2 => ?_)
    · simp only [impl_within.eq, Option.bind_some]
      refine (join _ (fun hb => ⟨hq.1 h, hq2.1 h2, by simpa using hb⟩)).mono fun r hr => ?_
      rw [hr]
      by_cases h3 : 0 ≤ o ∧ o ≤ 99
      · rw [if_neg (by simp [h3])]
      · rw [if_pos (by simp; omega), no (fun k => h3 k.2.2)]
    · refine (join _ (fun hb => by cases hb)).mono fun r hr => ?_
      rw [hr, if_pos rfl, no (fun k => h2 (hq2.2 k.2.1))]
  · refine (join _ (fun hb => by cases hb)).mono fun r hr => ?_
    rw [hr, if_pos rfl, no (fun k => h (hq.2 k.1))]

/-! impl_isId -/
theorem impl_isId.eq (a : Int) : impl_isId.f a = some (decide (1 ≤ a ∧ a ≤ 99)) := by
  unfold impl_isId.f
  simp [impl_within.eq]

/-! cmp_Or_int -/
theorem cmp_Or_int.two (x y : Int) : Tells (fun k => cmp_Or_int.f k [x, y]) (· = if x = 0 then y else x) := by
  unfold cmp_Or_int.f
  refine T_step ?_
  simp only [cmp_Or_int.l0]
  refine T_pos (by simp) (T_pos (by omega) (T_pos (by simp) ?_))
  have e1 : rd [x, y] 0 = x := rfl
  rw [e1]
  refine T_ite (fun h => ?_) (fun h => T_ret (by rw [if_neg h]))
  rw [w64 (x := 0 + 1) (by omega) (by omega), if_pos h]
  refine T_step ?_
  simp only [cmp_Or_int.l0]
  have e2 : rd [x, y] (0 + 1) = y := rfl
  refine T_pos (by simp) (T_pos (by omega) (T_pos (by simp) ?_))
  rw [e2]
  refine T_ite (fun h2 => ?_) (fun h2 => T_ret rfl)
  rw [w64 (x := 0 + 1 + 1) (by omega) (by omega)]
  refine T_step ?_
  simp only [cmp_Or_int.l0]
  exact T_neg (by simp) (T_ret h2.symm)

/-! cmp_Compare_int -/
theorem cmp_Compare_int.eq (a b : Int) : cmp_Compare_int.f a b = some (if a < b then -1 else if a > b then 1 else 0) := by
  unfold cmp_Compare_int.f cmp_isNaN_int.f
  simp only [Option.bind_some, bne_self_eq_false, Bool.false_eq_true, if_false]
  split <;> simp
  split <;> rfl

/-! impl_comparePrefixes -/
theorem impl_comparePrefixes.ev (a b c d : Int) : Tells (fun k => impl_comparePrefixes.f k a b c d) (fun r => (r < 0 ↔ a < c ∨ (a = c ∧ b < d)) ∧ (r = 0 ↔ a = c ∧ b = d)) := by
  unfold impl_comparePrefixes.f
  simp only [cmp_Compare_int.eq, Option.bind_some]
  refine T_bind (cmp_Or_int.two _ _) ?_
  rintro _ rfl
  refine T_ret ?_
  by_cases h1 : a < c
  · simp [h1]; omega
  · by_cases h2 : a > c
    · simp [h1, h2]; omega
    · obtain rfl : a = c := by omega
      by_cases h3 : b < d
      · simp [h3]; omega
      · by_cases h4 : b > d
        · simp [h3, h4]; omega
        · obtain rfl : b = d := by omega
          simp

/-! impl_RoutesOk -/
theorem impl_RoutesOk.ev (l : List S65) (hn : l.length ≤ 1048576) : Tells (fun k => impl_RoutesOk.f k l) (fun r => r = true ↔ RoutesP l) := by
  refine T_allb (fun k i => impl_RoutesOk.l0 k l l (l.length : Int) (i : Int)) l.length (RouteC l) _ (fun i hi hc P he => ?_) (fun i hi hc => ?_) ?_
  · obtain ⟨h1, h2, h3⟩ := hc
    simp only [impl_RoutesOk.l0, impl_isId.eq, Option.bind_some, decide_eq_true_eq]
    rw [wsucc hi (by omega)]
    refine T_pos (by omega) (T_pos (by omega) (T_pos (by omega) (T_bind (impl_PrefixOk.ev _ _) fun q hq => T_pos (hq.2 h1) (T_pos h2 ?_))))
    rcases Nat.eq_zero_or_pos i with h0 | h0
    · exact T_neg (by omega) he
    · rw [w64 (x := (i : Int) - 1) (by omega) (by omega)]
      exact T_pos (by omega) (T_pos (by omega) (T_pos (by omega) (T_bind (impl_comparePrefixes.ev _ _ _ _) fun q hq => T_neg (fun h => absurd (hq.1.2 (h3 h0)) (by omega)) he)))
  · simp only [impl_RoutesOk.l0, impl_isId.eq, Option.bind_some, decide_eq_true_eq]
    rw [wsucc hi (by omega)]
    refine T_pos (by omega) (T_pos (by omega) (T_pos (by omega) (T_bind (impl_PrefixOk.ev _ _) fun q hq => T_ite (fun h1 => T_ite (fun h2 => ?_) (fun _ => T_ret rfl)) (fun _ => T_ret rfl))))
    rcases Nat.eq_zero_or_pos i with h0 | h0
    · exact absurd ⟨hq.1 h1, h2, fun h => by omega⟩ hc
    · rw [w64 (x := (i : Int) - 1) (by omega) (by omega)]
      exact T_pos (by omega) (T_pos (by omega) (T_pos (by omega) (T_bind (impl_comparePrefixes.ev _ _ _ _) fun q2 hq2 => T_ite (fun _ => T_ret rfl) (fun h3 => absurd ⟨hq.1 h1, h2, fun _ => hq2.1.1 (by omega)⟩ hc))))
  · simp only [impl_RoutesOk.l0]
    exact T_neg (by omega) (T_ret (by simp; omega))

/-! impl_TrieNew -/
theorem impl_TrieNew.eq : impl_TrieNew.f = some [(⟨0, 0, 0⟩ : S104)] := rfl

/-! impl_TrieOf -/
theorem impl_TrieOf.ev (rs : List S65) (hm : rs.length ≤ 1048576) : Tells (fun k => impl_TrieOf.f k rs) (· = trieOf rs) := by
  unfold impl_TrieOf.f trieOf
  simp only [impl_TrieNew.eq, Option.bind_some]
  refine T_bind (impl_RoutesOk.ev rs hm) fun q hq => T_ite (fun h => ?_) (fun h => T_ret (by rw [if_neg (fun k => h (hq.2 k))]))
  have hR := hq.1 h
  rw [if_pos hR]
  refine T_loops (fun k (t : List S104) i => impl_TrieOf.l0 k rs (rs.length : Int) (i : Int) t) rs.length (fun i t => t = trieUp rs i) (fun i t r => r = trieUp rs rs.length) (fun i t hi ht ih => ?_) (fun t ht => ?_) 0 [(⟨0, 0, 0⟩ : S104)] (Nat.zero_le _) rfl
  · have hl := (trieUp_ok hR i (by omega)).2.1
    have h12 := hR.2
    simp only [impl_TrieOf.l0]
    rw [wsucc hi (by omega)]
    refine T_pos (by omega) (T_pos (by omega) (T_pos (by omega) (T_bind (impl_TriePut.ev t _ _ _ (by rw [ht]; omega)) ?_)))
    rintro _ rfl
    exact ih _ (by rw [ht]; rfl)
  · simp only [impl_TrieOf.l0]
    exact T_neg (by omega) (T_ret ht)

/-! spec_DrawAddrs -/
theorem spec_DrawAddrs.ev (l : List Int) (hn : l.length ≤ 1048576) : Tells (fun k => spec_DrawAddrs.f k l) (fun r => r.1.length = 6 ∧ (∀ x ∈ r.1, 0 ≤ x ∧ x ≤ 4294967295) ∧ PfxP r.2.1 r.2.2) := by
  unfold spec_DrawAddrs.f
  refine T_bind (spec_l01New.ev l hn) fun c hc => ?_
  obtain ⟨e, hc⟩ := hc
  rw [e]
  refine T_loops (fun k (s : List Int × Int × Int) i => spec_DrawAddrs.l0 k s.1 (i : Int) l s.2.1 s.2.2) 6 (fun i s => (s.1.length = i ∧ ∀ x ∈ s.1, 0 ≤ x ∧ x ≤ 4294967295) ∧ CurOk l s.2.1) (fun _ _ r => r.1.length = 6 ∧ (∀ x ∈ r.1, 0 ≤ x ∧ x ≤ 4294967295) ∧ PfxP r.2.1 r.2.2) (fun i s hi hs ih => ?_) (fun s hs => ?_) 0 ([], c.2.1, c.2.2) (Nat.zero_le _) ⟨⟨rfl, fun x hx => by simp at hx⟩, hc⟩
  · obtain ⟨u, ci, ch⟩ := s
    obtain ⟨⟨hl, hr⟩, hC⟩ := hs
    dsimp only at hl hr hC
    simp only [spec_DrawAddrs.l0]
    rw [wsucc hi (by omega)]
    refine T_pos (by omega) (T_bind (spec_l01Below.ev l ci ch 1024 hC (by omega)) fun x hx => T_pos (by omega) (ih (u ++ [wrap64 (167772160 + x.1)], _, _) ⟨⟨by simp [hl], fun y hy => ?_⟩, hx.2⟩))
    have h1 := hx.1.1
    have h2 := hx.1.2.1 (by omega)
    rw [w64 (by omega) (by omega)] at hy
    rcases List.mem_append.1 hy with hy | hy
    · exact hr y hy
    · have : y = 167772160 + x.1 := by simpa using hy
      omega
  · obtain ⟨u, ci, ch⟩ := s
    obtain ⟨⟨hl, hr⟩, hC⟩ := hs
    dsimp only at hl hr hC
    simp only [spec_DrawAddrs.l0]
    exact T_neg (by omega) (T_bind (spec_l08Prefix.ev l ci ch hC) fun x hx => T_ret ⟨hl, hr, hx.1⟩)

theorem top_upd (v v' : Nat → Int) (n : Nat) (x : Int) (hx : x ≠ 0) (h : ∀ d, v' d = if d = n then x else v d) (m : Nat) : top v' m = x ∨ top v' m = top v m := by
  induction m with
  | zero =>
    simp only [top, h]
    by_cases e : 0 = n
    · rw [if_pos e]; exact .inl rfl
    · rw [if_neg e]; exact .inr rfl
  | succ m ih =>
    simp only [top]
    rw [h (m + 1)]
    by_cases e : m + 1 = n
    · rw [if_pos e, if_neg hx]
      exact .inl rfl
    · rw [if_neg e]
      by_cases e2 : v (m + 1) = 0
      · rw [if_pos e2, if_pos e2]; exact ih
      · rw [if_neg e2, if_neg e2]; exact .inr rfl
open Classical in
theorem FnTriePuts : laws_FnTriePuts.Goal := by
  rintro l ⟨hl, _, _⟩
  refine Tells.rounds ?_
  unfold laws_FnTriePuts.f
  simp only [laws_big.eq, Option.bind_some, decide_eq_true_eq]
  refine T_ite (fun _ => T_ret rfl) (fun h => ?_)
  refine T_bind (spec_DrawRoutes.ev2 l (by omega)) fun d hd => ?_
  obtain ⟨rs, a⟩ := d
  obtain ⟨⟨hR, hR9⟩, a0, a1⟩ := hd
  dsimp only at hR hR9 a0 a1 ⊢
  refine T_bind (spec_DrawAddrs.ev l (by omega)) fun u hu => ?_
  obtain ⟨ads, p, n⟩ := u
  obtain ⟨hal, har, hP⟩ := hu
  dsimp only at hal har hP ⊢
  refine T_bind (impl_TrieOf.ev rs (by omega)) ?_
  rintro _ rfl
  have ht : trieOf rs = trieUp rs rs.length := by unfold trieOf; rw [if_pos hR]
  obtain ⟨hT, hTl, _⟩ := trieUp_ok hR rs.length (Nat.le_refl _)
  rw [← ht] at hT hTl
  have hT4 := hT.1
  refine T_bind (impl_TriePut.ev _ p n 9 (by omega)) ?_
  rintro _ rfl
  have hpr := hP.1
  have hnr := hP.2.1
  have hi := ins_len hT p n.toNat
  obtain ⟨q1, q2, q3, q4⟩ := triePut_ok hT hP (o := 9) (by omega) (by omega)
  have hq := q1.1
  have fin : Tells (fun k => laws_FnTriePuts.l0 (k + 1) (ads ++ [a, p]) true ((ads ++ [a, p]).length : Int) p n (trieOf rs) (triePut (trieOf rs) p n 9).1) (· = true) := by
    simp only [laws_FnTriePuts.l0]
    refine T_neg (by omega) (T_bind (impl_TriePut.ev _ 1 8 3 (by omega)) ?_)
    rintro _ rfl
    have hno : (triePut (trieOf rs) 1 8 3).2 = false := by
      unfold triePut
      rw [if_neg (fun k => by have := k.2.1.2.2; simp at this)]
    rw [hno]
    refine T_pos (by first | trivial | rfl) (T_neg (by simp) (T_bind (impl_TrieOk.ev _ (by omega)) fun q hq => T_pos (hq.2 q1) ?_))
    refine T_bind (impl_TrieFind.ev _ p (by omega)) ?_
    rintro _ rfl
    refine T_ite (fun _ => T_ret rfl) (fun h9 => T_bind (impl_TrieFind.ev _ p (by omega)) ?_)
    rintro _ rfl
    refine T_bind (impl_TrieFind.ev _ p (by omega)) ?_
    rintro _ rfl
    refine T_ret ?_
    rw [trieFind_top q1 hpr] at h9 ⊢
    rw [trieFind_top hT hpr]
    have hA : Agree n.toNat p p := fun j _ => rfl
    have := (top_upd (val (trieOf rs) p) (val (triePut (trieOf rs) p n 9).1 p) n.toNat 9 (by omega) (fun d => by
      rw [q4 p d]
      by_cases e : d = n.toNat
      · rw [if_pos ⟨e, hA⟩, if_pos e]
      · rw [if_neg (fun k => e k.1), if_neg e]) 32).resolve_left h9
    simp [this]
  rw [q2]
  simp only [List.length_cons, List.length_nil]
  refine T_pos (by omega) ?_
  have h := T_loop' (fun k i => laws_FnTriePuts.l0 k (ads ++ [a, p]) true (i : Int) p n (trieOf rs) (triePut (trieOf rs) p n 9).1) (ads ++ [a, p]).length (· = true) (fun i hi he => ?_) ?_
  · simpa using h
  · have hlen : (ads ++ [a, p]).length = 8 := by simp [hal]
    simp only [laws_FnTriePuts.l0]
    rw [wsucc hi (by omega), rd_nat _ i hi]
    have hy : 0 ≤ (ads ++ [a, p])[i] ∧ (ads ++ [a, p])[i] ≤ 4294967295 := by
      have hm := List.getElem_mem hi
      rcases List.mem_append.1 hm with hm | hm
      · exact har _ hm
      · have : (ads ++ [a, p])[i] = a ∨ (ads ++ [a, p])[i] = p := by simpa using hm
        rcases this with e | e <;> rw [e]
        · exact ⟨a0, a1⟩
        · exact hpr
    generalize (ads ++ [a, p])[i] = y at *
    refine T_pos (by omega) (T_pos (by omega) (T_bind (impl_TrieFind.ev _ y (by omega)) ?_))
    rintro _ rfl
    refine T_bind (impl_TrieFind.ev _ y (by omega)) ?_
    rintro _ rfl
    refine T_bind (spec_InPrefix.ev p n y) fun q hq => T_ite (fun hin => ?_) (fun hin => ?_)
    · refine T_bind (spec_TrieFind.ev _ y (by omega)) ?_
      rintro _ rfl
      exact T_pos (by first | trivial | rfl) he
    · have hnA : ¬ Agree n.toNat y p := fun k => hin (hq.2 ((agree_InP hP hy).1 k))
      refine T_pos ?_ (T_bind (spec_TrieFind.ev _ y (by omega)) ?_)
      · rw [trieFind_top hT hy, trieFind_top q1 hy]
        exact congrArg (fun v => top v 32) (funext fun d => by rw [q4 y d, if_neg (fun k => hnA k.2)])
      · rintro _ rfl
        exact T_pos (by first | trivial | rfl) he
  · exact fin

end Go.Proofs.Ytbddppnhpapfkaa.Pure
