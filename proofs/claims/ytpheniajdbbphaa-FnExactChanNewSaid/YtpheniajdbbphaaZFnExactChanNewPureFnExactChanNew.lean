/- FnExactChanNew: the pure statement, proved: for every input of the law its printed function answers true. No condition. -/
import Derived.Test.YtpheniajdbbphaaZFnExactChanNewGoalFnExactChanNew
namespace Go.Proofs.Ytpheniajdbbphaa.Pure
open Go.RowKit Go.Proofs.Ytpheniajdbbphaa.PFnExactChanNew Go.Proofs.YtpheniajdbbphaaW.PrintWords Go.Proofs.YtpheniajdbbphaaW.PrintLast Go.Proofs.YtpheniajdbbphaaW.PrintMore
set_option linter.unusedVariables false
set_option linter.unusedSimpArgs false
theorem w64 {x : Int} (h0 : -9223372036854775808 ≤ x) (h1 : x ≤ 9223372036854775807) : wrap64 x = x := by unfold wrap64; omega
theorem wsucc {i n : Nat} (h : i < n) (hn : n ≤ 9223372036854775807) : wrap64 ((i : Int) + 1) = ((i + 1 : Nat) : Int) := by unfold wrap64; omega
theorem wf64 {x : Int} (h : (Lit.int .i64 x).wf = true) : -9223372036854775808 ≤ x ∧ x ≤ 9223372036854775807 := by
  have h' : IntKind.i64.min ≤ x ∧ x ≤ IntKind.i64.max := by simpa [Lit.wf] using h
  exact h'
/-- From some number of rounds on it answers, and what it answers is so. -/
def Tells {α : Type} (g : Nat → Option α) (P : α → Prop) : Prop := ∃ r, P r ∧ Ev g r
theorem Tells.ev {α : Type} {g : Nat → Option α} {r : α} (h : Tells g (· = r)) : Ev g r := by
  obtain ⟨x, rfl, h⟩ := h
  exact h
theorem Tells.of {α : Type} {g : Nat → Option α} {r : α} (h : Ev g r) : Tells g (· = r) := ⟨r, rfl, h⟩
theorem Tells.rounds {α : Type} {g : Nat → Option α} {r : α} (h : Tells g (· = r)) : ∃ k, g k = some r := h.ev.rounds
theorem Tells.now {α : Type} {g : Option α} {r : α} (h : Tells (fun _ => g) (· = r)) : g = some r := by
  obtain ⟨K, h⟩ := h.ev
  exact h K (Nat.le_refl _)
theorem Tells.mono {α : Type} {g : Nat → Option α} {P Q : α → Prop} (h : Tells g P) (k : ∀ x, P x → Q x) : Tells g Q := by
  obtain ⟨x, hp, h⟩ := h
  exact ⟨x, k x hp, h⟩
theorem T_ret {α : Type} {P : α → Prop} {r : α} (h : P r) : Tells (fun _ => some r) P := ⟨r, h, Ev.now r⟩
theorem T_ite {α : Type} {c : Prop} {d : Decidable c} {f g : Nat → Option α} {P : α → Prop} (h1 : c → Tells f P) (h2 : ¬ c → Tells g P) : Tells (fun k => @ite _ c d (f k) (g k)) P := by
  by_cases h : c
  · obtain ⟨r, hp, he⟩ := h1 h
    exact ⟨r, hp, Ev.congr (fun k => if_pos h) he⟩
  · obtain ⟨r, hp, he⟩ := h2 h
    exact ⟨r, hp, Ev.congr (fun k => if_neg h) he⟩
theorem T_pos {α : Type} {c : Prop} {d : Decidable c} {f g : Nat → Option α} {P : α → Prop} (h : c) (hf : Tells f P) : Tells (fun k => @ite _ c d (f k) (g k)) P := T_ite (fun _ => hf) (fun h' => absurd h h')
theorem T_neg {α : Type} {c : Prop} {d : Decidable c} {f g : Nat → Option α} {P : α → Prop} (h : ¬ c) (hg : Tells g P) : Tells (fun k => @ite _ c d (f k) (g k)) P := T_ite (fun h' => absurd h' h) (fun _ => hg)
theorem T_bind {α β : Type} {g : Nat → Option α} {f : Nat → α → Option β} {Q : α → Prop} {P : β → Prop} (h : Tells g Q) (k : ∀ x, Q x → Tells (fun n => f n x) P) : Tells (fun n => (g n).bind (f n)) P := by
  obtain ⟨x, hq, he⟩ := h
  obtain ⟨r, hp, he'⟩ := k x hq
  exact ⟨r, hp, Ev.bind he he'⟩
theorem T_step {α : Type} {g : Nat → Option α} {P : α → Prop} (h : Tells (fun k => g (k + 1)) P) : Tells g P := by
  obtain ⟨r, hp, he⟩ := h
  exact ⟨r, hp, Ev.step (fun _ => rfl) he⟩
theorem T_eq {α : Type} {g f : Nat → Option α} {P : α → Prop} (h : ∀ k, g k = f k) (hf : Tells f P) : Tells g P := by
  obtain ⟨r, hp, he⟩ := hf
  exact ⟨r, hp, Ev.congr h he⟩
theorem T_some {α : Type} {g : Nat → Option α} {P : α → Prop} {r : α} (h : ∀ k, g k = some r) (hp : P r) : Tells g P := T_eq h (T_ret hp)
theorem T_unique {α : Type} {g : Nat → Option α} {P : α → Prop} {r : α} (h : Tells g P) (h' : Tells g (· = r)) : P r := by
  obtain ⟨x, hp, K, h⟩ := h
  obtain ⟨K', h'⟩ := h'.ev
  have a := h (max K K') (by omega)
  have b := h' (max K K') (by omega)
  rw [a] at b
  exact Option.some.inj b ▸ hp
/-- A loop with a counter, from the last round back. -/
theorem T_loop {ρ : Type} (g : Nat → Nat → Option ρ) (n : Nat) (P : Nat → ρ → Prop)
    (step : ∀ i, i < n → Tells (fun k => g k (i + 1)) (P (i + 1)) → Tells (fun k => g (k + 1) i) (P i)) (fin : Tells (fun k => g (k + 1) n) (P n)) : ∀ i, i ≤ n → Tells (fun k => g k i) (P i) := by
  have key : ∀ d i, i + d = n → Tells (fun k => g k i) (P i) := by
    intro d
    induction d with
    | zero =>
      intro i hi
      obtain rfl : i = n := by omega
      exact T_step fin
    | succ d ih =>
      intro i hi
      exact T_step (step i (by omega) (ih (i + 1) (by omega)))
  exact fun i hi => key (n - i) i (by omega)
/-- A loop whose answer does not hang on the round. -/
theorem T_loop' {ρ : Type} (g : Nat → Nat → Option ρ) (n : Nat) (P : ρ → Prop)
    (step : ∀ i, i < n → Tells (fun k => g k (i + 1)) P → Tells (fun k => g (k + 1) i) P) (fin : Tells (fun k => g (k + 1) n) P) : Tells (fun k => g k 0) P :=
  T_loop g n (fun _ => P) step fin 0 (Nat.zero_le _)
/-- What holds of all from a round on. -/
def From (C : Nat → Prop) (n i : Nat) : Prop := ∀ j, i ≤ j → j < n → C j
theorem From.cons {C : Nat → Prop} {n i : Nat} (h : C i) : From C n (i + 1) ↔ From C n i := by
  refine ⟨fun k j a b => ?_, fun k j a b => k j (by omega) b⟩
  by_cases e : j = i
  · exact e ▸ h
  · exact k j (by omega) b
theorem From.none {C : Nat → Prop} {n i : Nat} (hi : i < n) (h : ¬ C i) : ¬ From C n i := fun k => h (k i (Nat.le_refl _) hi)
theorem From.last (C : Nat → Prop) (n : Nat) : From C n n := fun j a b => absurd b (by omega)
theorem set_copy_map {α β : Type} (l : List α) (f : α → β) (z : β) (i : Nat) (h : i < l.length) (x : β) (hx : x = f l[i]) : ((l.take i).map f ++ List.replicate (l.length - i) z).set i x = (l.take (i + 1)).map f ++ List.replicate (l.length - (i + 1)) z := by
  subst hx
  have e : l.length - i = (l.length - (i + 1)) + 1 := by omega
  have hl : ((l.take i).map f).length = i := by rw [List.length_map, List.length_take]; omega
  rw [e, List.replicate_succ, List.set_append_right _ _ (by omega), hl, Nat.sub_self, List.set_cons_zero, List.take_succ_eq_append_getElem h, List.map_append]
  simp only [List.map_cons, List.map_nil, List.append_assoc, List.singleton_append]
theorem set_copy {α : Type} (l : List α) (z : α) (i : Nat) (h : i < l.length) (x : α) (hx : x = l[i]) : (l.take i ++ List.replicate (l.length - i) z).set i x = l.take (i + 1) ++ List.replicate (l.length - (i + 1)) z := by
  have := set_copy_map l id z i h x hx
  rw [List.map_id, List.map_id] at this
  exact this
theorem rd_nat (xs : List Int) (i : Nat) (h : i < xs.length) : rd xs (i : Int) = xs[i] := by simp [rd, List.getD_eq_getElem?_getD, h]
theorem rdOf_nat {α : Type} (d : α) (xs : List α) (i : Nat) (h : i < xs.length) : rdOf d xs (i : Int) = xs[i] := by simp [rdOf, List.getD_eq_getElem?_getD, h]
/-- a where c is so, else b. -/
def Either {ρ : Type} (c : Prop) (a b r : ρ) : Prop := (c ∧ r = a) ∨ (¬ c ∧ r = b)
theorem Either.same {ρ : Type} {c c' : Prop} {a b r s : ρ} (h : Either c a b r) (h' : Either c' a b s) (e : c ↔ c') : r = s := by
  rcases h with ⟨h, rfl⟩ | ⟨h, rfl⟩ <;> rcases h' with ⟨h', rfl⟩ | ⟨h', rfl⟩
  · rfl
  · exact absurd (e.1 h) h'
  · exact absurd (e.2 h') h
  · rfl
/-- A loop that checks each place. -/
theorem T_all {ρ : Type} (g : Nat → Nat → Option ρ) (n : Nat) (C : Nat → Prop) (bad fin : ρ)
    (step : ∀ i, i < n → C i → ∀ P : ρ → Prop, Tells (fun k => g k (i + 1)) P → Tells (fun k => g (k + 1) i) P) (out : ∀ i, i < n → ¬ C i → Tells (fun k => g (k + 1) i) (· = bad)) (hf : Tells (fun k => g (k + 1) n) (· = fin)) :
    Tells (fun k => g k 0) (Either (From C n 0) fin bad) := by
  refine T_loop g n (fun i => Either (From C n i) fin bad) (fun i hi he => ?_) (hf.mono fun r hr => .inl ⟨From.last C n, hr⟩) 0 (Nat.zero_le _)
  by_cases hc : C i
  · refine (step i hi hc _ he).mono fun r hr => ?_
    unfold Either at hr ⊢
    rw [From.cons hc] at hr
    exact hr
  · exact (out i hi hc).mono fun r hr => .inr ⟨From.none hi hc, hr⟩
/-- A loop that looks for the first place. -/
theorem T_find {ρ : Type} (g : Nat → Nat → Option ρ) (n : Nat) (C : Nat → Prop) (got : Nat → ρ) (fin : ρ)
    (step : ∀ i, i < n → ¬ C i → ∀ P : ρ → Prop, Tells (fun k => g k (i + 1)) P → Tells (fun k => g (k + 1) i) P) (out : ∀ i, i < n → C i → Tells (fun k => g (k + 1) i) (· = got i)) (hf : Tells (fun k => g (k + 1) n) (· = fin)) :
    Tells (fun k => g k 0) (fun r => (∃ j, j < n ∧ C j ∧ (∀ m, m < j → ¬ C m) ∧ r = got j) ∨ ((∀ j, j < n → ¬ C j) ∧ r = fin)) := by
  refine (T_loop g n (fun i r => (∃ j, i ≤ j ∧ j < n ∧ C j ∧ (∀ m, i ≤ m → m < j → ¬ C m) ∧ r = got j) ∨ ((∀ j, i ≤ j → j < n → ¬ C j) ∧ r = fin)) (fun i hi he => ?_)
    (hf.mono fun r hr => .inr ⟨fun j a b => absurd b (by omega), hr⟩) 0 (Nat.zero_le _)).mono fun r hr => ?_
  · by_cases hc : C i
    · exact (out i hi hc).mono fun r hr => .inl ⟨i, Nat.le_refl _, hi, hc, fun m a b => absurd b (by omega), hr⟩
    · refine (step i hi hc _ he).mono fun r hr => ?_
      rcases hr with ⟨j, a, b, c, d, e⟩ | ⟨a, b⟩
      · refine .inl ⟨j, by omega, b, c, fun m h1 h2 => ?_, e⟩
        by_cases hm : m = i
        · exact hm ▸ hc
        · exact d m (by omega) h2
      · refine .inr ⟨fun j h1 h2 => ?_, b⟩
        by_cases hm : j = i
        · exact hm ▸ hc
        · exact a j (by omega) h2
  · rcases hr with ⟨j, _, b, c, d, e⟩ | ⟨a, b⟩
    · exact .inl ⟨j, b, c, fun m hm => d m (Nat.zero_le _) hm, e⟩
    · exact .inr ⟨fun j hj => a j (Nat.zero_le _) hj, b⟩
theorem ba_ext {a b : ByteArray} (h : a.toList = b.toList) : a = b := by
  rw [ByteArray.toList_eq, ByteArray.toList_eq] at h
  cases a; cases b
  simpa using h
/-- The same of a test. -/
theorem T_allb (g : Nat → Nat → Option Bool) (n : Nat) (C : Nat → Prop) (F : Prop)
    (step : ∀ i, i < n → C i → ∀ P : Bool → Prop, Tells (fun k => g k (i + 1)) P → Tells (fun k => g (k + 1) i) P) (out : ∀ i, i < n → ¬ C i → Tells (fun k => g (k + 1) i) (· = false)) (hf : Tells (fun k => g (k + 1) n) (fun r => r = true ↔ F)) :
    Tells (fun k => g k 0) (fun r => r = true ↔ (∀ j, j < n → C j) ∧ F) := by
  refine (T_loop g n (fun i r => r = true ↔ From C n i ∧ F) (fun i hi he => ?_) (hf.mono fun r hr => hr.trans ⟨fun h => ⟨From.last C n, h⟩, fun h => h.2⟩) 0 (Nat.zero_le _)).mono fun r hr => by
      rw [hr]
      exact ⟨fun h => ⟨fun j hj => h.1 j (Nat.zero_le _) hj, h.2⟩, fun h => ⟨fun j _ hj => h.1 j hj, h.2⟩⟩
  by_cases hc : C i
  · refine (step i hi hc _ he).mono fun r hr => ?_
    rw [hr, From.cons hc]
  · exact (out i hi hc).mono fun r hr => by
      rw [hr]
      exact ⟨fun h => absurd h Bool.false_ne_true, fun h => absurd h.1 (From.none hi hc)⟩
theorem same_bool {c : Prop} {r s : Bool} (h : r = true ↔ c) (k : s = true ↔ c) : s = r := Bool.eq_iff_iff.2 (k.trans h.symm)
theorem mem_drop_iff {α : Type} {l : List α} {i : Nat} (h : i < l.length) (a : α) : a ∈ l.drop i ↔ a = l[i] ∨ a ∈ l.drop (i + 1) := by
  rw [List.drop_eq_getElem_cons h, List.mem_cons]
theorem drop_eq_iff {α : Type} {a b : List α} {i : Nat} (ha : i < a.length) (hb : i < b.length) : a.drop i = b.drop i ↔ a[i] = b[i] ∧ a.drop (i + 1) = b.drop (i + 1) := by
  rw [List.drop_eq_getElem_cons ha, List.drop_eq_getElem_cons hb, List.cons.injEq]
/-- A loop with a counter and a state. -/
theorem T_loops {ρ σ : Type} (g : Nat → σ → Nat → Option ρ) (n : Nat) (Inv : Nat → σ → Prop) (P : Nat → σ → ρ → Prop)
    (step : ∀ i s, i < n → Inv i s → (∀ s', Inv (i + 1) s' → Tells (fun k => g k s' (i + 1)) (P (i + 1) s')) → Tells (fun k => g (k + 1) s i) (P i s))
    (fin : ∀ s, Inv n s → Tells (fun k => g (k + 1) s n) (P n s)) : ∀ i s, i ≤ n → Inv i s → Tells (fun k => g k s i) (P i s) := by
  have key : ∀ d i s, i + d = n → Inv i s → Tells (fun k => g k s i) (P i s) := by
    intro d
    induction d with
    | zero =>
      intro i s hi hs
      obtain rfl : i = n := by omega
      exact T_step (fin s hs)
    | succ d ih =>
      intro i s hi hs
      exact T_step (step i s (by omega) hs (fun s' hs' => ih (i + 1) s' (by omega) hs'))
  exact fun i s hi hs => key (n - i) i s (by omega) hs
def FindP {ρ : Type} (n : Nat) (C : Nat → Prop) (got : Nat → ρ) (fin : ρ) (r : ρ) : Prop := (∃ j, j < n ∧ C j ∧ (∀ m, m < j → ¬ C m) ∧ r = got j) ∨ ((∀ j, j < n → ¬ C j) ∧ r = fin)
theorem FindP.same {ρ : Type} {n : Nat} {C : Nat → Prop} {got : Nat → ρ} {fin r s : ρ} (h : FindP n C got fin r) (k : FindP n C got fin s) : s = r := by
  rcases h with ⟨j, a, b, c, rfl⟩ | ⟨a, rfl⟩ <;> rcases k with ⟨j', a', b', c', rfl⟩ | ⟨a', rfl⟩
  · rcases Nat.lt_trichotomy j j' with h | h | h
    · exact absurd b (c' _ h)
    · rw [h]
    · exact absurd b' (c _ h)
  · exact absurd b (a' j a)
  · exact absurd b' (a j' a')
  · rfl
theorem ba_append_nil (b : ByteArray) : b ++ (⟨#[]⟩ : ByteArray) = b := by
  apply ByteArray.ext
  simp
theorem ba_nil_append (b : ByteArray) : (⟨#[]⟩ : ByteArray) ++ b = b := by
  apply ByteArray.ext
  simp
def chanNew (a b : Int) : Int × Int × Int × List ByteArray × List S92 × Int × List S87 × List Int × List ByteArray × Bool :=
  if (1 ≤ a ∧ a ≤ 99) ∧ (1 ≤ b ∧ b ≤ 99) then (a, b, 0, [], [], 0, [], [], [], true) else (0, 0, 0, [], [], 0, [], [], [], false)
theorem strn_size (l : List Int) : (strOfNums l).size = l.length := by simp [strOfNums, ByteArray.size]
theorem markText_l0 : ∀ (d : Nat) (n : Int) (b : ByteArray), 0 ≤ n → n ≤ 1000000000000 → n < 10 ^ d → b.size + d ≤ 1000 → ∃ r, Tells (fun k => laws_markText.l0 k n b) (· = r) := by
  intro d
  induction d with
  | zero =>
    intro n b h0 hx h1 hb
    have hn : n = 0 := by simp at h1; omega
    refine ⟨(⟨#[109]⟩ : ByteArray) ++ b, T_step ?_⟩
    simp only [laws_markText.l0]
    exact T_neg (by omega) (T_pos (by omega) (T_ret rfl))
  | succ d ih =>
    intro n b h0 hx h1 hb
    have h2 : (10 : Int) ^ (d + 1) = 10 ^ d * 10 := Int.pow_succ _ _
    by_cases hn : n > 0
    · have et : wrap64 (Int.tdiv n 10) = n / 10 := by rw [Int.tdiv_eq_ediv_of_nonneg h0]; exact w64 (by omega) (by omega)
      have hs := strn_size ([(wrap64 (48 + Int.tmod n 10)) % 256] : List Int)
      obtain ⟨r, hr⟩ := ih (n / 10) (strOfNums ([(wrap64 (48 + Int.tmod n 10)) % 256] : List Int) ++ b) (by omega) (by omega) (by omega) (by rw [ByteArray.size_append, hs]; simp; omega)
      refine ⟨r, T_step ?_⟩
      simp only [laws_markText.l0, Option.bind_some, et]
      exact T_pos hn (T_pos (by rw [hs]; simp; omega) hr)
    · refine ⟨(⟨#[109]⟩ : ByteArray) ++ b, T_step ?_⟩
      simp only [laws_markText.l0]
      exact T_neg hn (T_pos (by omega) (T_ret rfl))
open Classical in
noncomputable def mtxt (n : Int) : ByteArray := if h : ∃ r, Tells (fun k => laws_markText.f k n) (· = r) then h.choose else ⟨#[]⟩
theorem laws_markText.ev (n : Int) (h0 : 0 ≤ n) (h1 : n ≤ 1000000000000) : Tells (fun k => laws_markText.f k n) (· = mtxt n) := by
  have h : ∃ r, Tells (fun k => laws_markText.f k n) (· = r) := by
    by_cases hn : n ≤ 0
    · refine ⟨(⟨#[109, 48]⟩ : ByteArray), ?_⟩
      unfold laws_markText.f
      exact T_pos hn (T_ret rfl)
    · obtain ⟨r, hr⟩ := markText_l0 13 n ⟨#[]⟩ h0 h1 (by omega) (by decide)
      refine ⟨r, ?_⟩
      unfold laws_markText.f
      exact T_neg hn hr
  unfold mtxt
  rw [dif_pos h]
  exact h.choose_spec
theorem set_mk {α : Type} (M l : List α) (v : α) (i : Nat) (hM : M.length = i) (hi : i < l.length) : (M ++ l.drop i).set i v = (M ++ [v]) ++ l.drop (i + 1) := by
  rw [List.set_append_right _ _ (by omega), hM, Nat.sub_self, List.drop_eq_getElem_cons hi, List.set_cons_zero, List.append_assoc]
  rfl

/-! spec_l01In -/
theorem spec_l01In.eq (a b c : Int) : spec_l01In.f a b c = some (decide (b ≤ a ∧ a ≤ c)) := by
  unfold spec_l01In.f
  by_cases h : b ≤ a <;> simp [h]

/-! spec_ChanNew -/
theorem spec_ChanNew.eq (a b : Int) : spec_ChanNew.f a b = some (chanNew a b) := by
  unfold spec_ChanNew.f chanNew
  simp only [spec_l01In.eq, Option.bind_some, decide_eq_true_eq]
  by_cases h1 : 1 ≤ a ∧ a ≤ 99
  · by_cases h2 : 1 ≤ b ∧ b ≤ 99
    · rw [if_pos h1, if_pos h2, if_pos ⟨h1, h2⟩]
    · rw [if_pos h1, if_neg h2, if_neg (fun k => h2 k.2)]
  · rw [if_neg h1, if_neg (fun k => h1 k.1)]

/-! impl_within -/
theorem impl_within.eq (a b c : Int) : impl_within.f a b c = some (decide (b ≤ a ∧ a ≤ c)) := by
  unfold impl_within.f
  by_cases h : b ≤ a <;> simp [h]

/-! impl_isId -/
theorem impl_isId.eq (a : Int) : impl_isId.f a = some (decide (1 ≤ a ∧ a ≤ 99)) := by
  unfold impl_isId.f
  simp [impl_within.eq]

/-! impl_ChanNew -/
theorem impl_ChanNew.eq (a b : Int) : impl_ChanNew.f a b = some (chanNew a b) := by
  unfold impl_ChanNew.f chanNew
  simp only [impl_isId.eq, Option.bind_some, decide_eq_true_eq]
  by_cases h1 : 1 ≤ a ∧ a ≤ 99
  · by_cases h2 : 1 ≤ b ∧ b ≤ 99
    · rw [if_pos h1, if_pos h2, if_pos ⟨h1, h2⟩]
    · rw [if_pos h1, if_neg h2, if_neg (fun k => h2 k.2)]
  · rw [if_neg h1, if_neg (fun k => h1 k.1)]

/-! laws_eqIntS -/
theorem laws_eqIntS.ev (l : List Int) (hn : l.length ≤ 1048576) : Tells (fun k => laws_eqIntS.f k l l) (· = true) := by
  unfold laws_eqIntS.f
  refine T_pos rfl (T_loop' (fun k i => laws_eqIntS.l0 k l l (i : Int)) l.length (· = true) (fun i hi he => ?_) ?_)
  · simp only [laws_eqIntS.l0]
    rw [wsucc hi (by omega)]
    exact T_pos (by omega) (T_pos (by omega) (T_pos (by omega) (T_pos (by simp) he)))
  · simp only [laws_eqIntS.l0]
    exact T_neg (by omega) (T_ret rfl)

/-! laws_eqStringS -/
theorem laws_eqStringS.ev (l : List ByteArray) (hn : l.length ≤ 1048576) : Tells (fun k => laws_eqStringS.f k l l) (· = true) := by
  unfold laws_eqStringS.f
  refine T_pos rfl (T_loop' (fun k i => laws_eqStringS.l0 k l l (i : Int)) l.length (· = true) (fun i hi he => ?_) ?_)
  · simp only [laws_eqStringS.l0]
    rw [wsucc hi (by omega)]
    exact T_pos (by omega) (T_pos (by omega) (T_pos (by omega) (T_pos (by simp) he)))
  · simp only [laws_eqStringS.l0]
    exact T_neg (by omega) (T_ret rfl)

/-! laws_eqPending -/
theorem laws_eqPending.ev (x0 : Int) (x1 : ByteArray) (x2 : Int) (x3 : Int)  : Tells (fun k => laws_eqPending.f x0 x1 x2 x3 x0 x1 x2 x3) (· = true) := by
  unfold laws_eqPending.f
  refine T_pos rfl ?_
  refine T_pos rfl ?_
  refine T_pos rfl ?_
  refine T_pos rfl ?_
  exact T_ret rfl

/-! laws_eqPendingS -/
theorem rd_T92_nat (xs : List S92) (i : Nat) (h : i < xs.length) : rd_T92 xs (i : Int) = xs[i] := by simp [rd_T92, List.getD_eq_getElem?_getD, h]
theorem laws_eqPendingS.ev (l : List S92) (hn : l.length ≤ 1048576) : Tells (fun k => laws_eqPendingS.f k l l) (· = true) := by
  unfold laws_eqPendingS.f
  refine T_pos rfl (T_loop' (fun k i => laws_eqPendingS.l0 k l l (i : Int)) l.length (· = true) (fun i hi hh => ?_) ?_)
  · simp only [laws_eqPendingS.l0, rd_T92_nat l i hi]
    rw [wsucc hi (by omega)]
    refine T_pos (by omega) (T_pos (by omega) (T_pos (by omega) (T_bind (laws_eqPending.ev _ _ _ _) ?_)))
    rintro _ rfl
    exact T_pos rfl hh
  · simp only [laws_eqPendingS.l0]
    exact T_neg (by omega) (T_ret rfl)

/-! laws_eqEarly -/
theorem laws_eqEarly.ev (x0 : Int) (x1 : ByteArray)  : Tells (fun k => laws_eqEarly.f x0 x1 x0 x1) (· = true) := by
  unfold laws_eqEarly.f
  refine T_pos rfl ?_
  refine T_pos rfl ?_
  exact T_ret rfl

/-! laws_eqEarlyS -/
theorem rd_T87_nat (xs : List S87) (i : Nat) (h : i < xs.length) : rd_T87 xs (i : Int) = xs[i] := by simp [rd_T87, List.getD_eq_getElem?_getD, h]
theorem laws_eqEarlyS.ev (l : List S87) (hn : l.length ≤ 1048576) : Tells (fun k => laws_eqEarlyS.f k l l) (· = true) := by
  unfold laws_eqEarlyS.f
  refine T_pos rfl (T_loop' (fun k i => laws_eqEarlyS.l0 k l l (i : Int)) l.length (· = true) (fun i hi hh => ?_) ?_)
  · simp only [laws_eqEarlyS.l0, rd_T87_nat l i hi]
    rw [wsucc hi (by omega)]
    refine T_pos (by omega) (T_pos (by omega) (T_pos (by omega) (T_bind (laws_eqEarly.ev _ _) ?_)))
    rintro _ rfl
    exact T_pos rfl hh
  · simp only [laws_eqEarlyS.l0]
    exact T_neg (by omega) (T_ret rfl)

/-! laws_eqChan -/
theorem laws_eqChan.ev (x0 : Int) (x1 : Int) (x2 : Int) (x3 : List (ByteArray)) (x4 : List (S92)) (x5 : Int) (x6 : List (S87)) (x7 : List (Int)) (x8 : List (ByteArray)) (hx3 : x3.length ≤ 1048576) (hx4 : x4.length ≤ 1048576) (hx6 : x6.length ≤ 1048576) (hx7 : x7.length ≤ 1048576) (hx8 : x8.length ≤ 1048576) : Tells (fun k => laws_eqChan.f k x0 x1 x2 x3 x4 x5 x6 x7 x8 x0 x1 x2 x3 x4 x5 x6 x7 x8) (· = true) := by
  unfold laws_eqChan.f
  refine T_pos rfl ?_
  refine T_pos rfl ?_
  refine T_pos rfl ?_
  refine T_bind (laws_eqStringS.ev x3 hx3) ?_
  rintro _ rfl
  refine T_pos rfl ?_
  refine T_bind (laws_eqPendingS.ev x4 hx4) ?_
  rintro _ rfl
  refine T_pos rfl ?_
  refine T_pos rfl ?_
  refine T_bind (laws_eqEarlyS.ev x6 hx6) ?_
  rintro _ rfl
  refine T_pos rfl ?_
  refine T_bind (laws_eqIntS.ev x7 hx7) ?_
  rintro _ rfl
  refine T_pos rfl ?_
  refine T_bind (laws_eqStringS.ev x8 hx8) ?_
  rintro _ rfl
  refine T_pos rfl ?_
  exact T_ret rfl

/-! laws_markText -/

/-! laws_markStringS -/
noncomputable def mkStringS (m : Nat) (n : Int) : List (ByteArray) := (List.range m).map fun (i : Nat) => (mtxt (n + 1 * (i : Int)) : ByteArray)
theorem mkStringS_len (m : Nat) (n : Int) : (mkStringS m n).length = m := by simp [mkStringS]
theorem mkStringS_succ (m : Nat) (n : Int) : mkStringS (m + 1) n = mkStringS m n ++ [(mtxt (n + 1 * (m : Int)) : ByteArray)] := by simp [mkStringS, List.range_succ]
theorem mkStringS_rd (m : Nat) (n : Int) (i : Nat) (h : i < m) : rdOf ByteArray.empty (mkStringS m n) (i : Int) = mtxt (n + 1 * (i : Int)) := by simp [rdOf, mkStringS, List.getD_eq_getElem?_getD, h]
theorem mkStringS_set (l : List (ByteArray)) (i : Nat) (y : ByteArray) (h : i < l.length) : rdOf ByteArray.empty (l.set i y) (i : Int) = y := by simp [rdOf, List.getD_eq_getElem?_getD, h]
theorem laws_markStringS.ev (l : List (ByteArray)) (n : Int) (hl : l.length ≤ 1048576) (h0 : 0 ≤ n) (h1 : n ≤ 1000000000) : Tells (fun k => laws_markStringS.f k l n) (· = (n + 1 * (l.length : Int), mkStringS l.length n)) := by
  unfold laws_markStringS.f
  have h := T_loop' (fun k i => laws_markStringS.l0 k (mkStringS i n ++ l.drop i) (n + 1 * (i : Int)) (i : Int)) l.length (· = (n + 1 * (l.length : Int), mkStringS l.length n)) (fun i hi he => ?_) ?_
  · have e : mkStringS 0 n ++ l.drop 0 = l := rfl
    rw [e] at h
    simpa using h
  · have hL : (mkStringS i n ++ l.drop i).length = l.length := by rw [List.length_append, mkStringS_len, List.length_drop]; omega
    have hi' : i < (mkStringS i n ++ l.drop i).length := by omega
    have e1_ : wrap64 (n + 1 * (i : Int) + 1) = n + 1 * (i : Int) + 1 := (w64 (by omega) (by omega)).trans (by omega)
    simp only [laws_markStringS.l0, Option.bind_some, e1_]
    rw [hL, wsucc hi (by omega)]
    refine T_pos (by omega) ?_
    refine T_bind (laws_markText.ev (n + 1 * (i : Int)) (by omega) (by omega)) ?_
    rintro _ rfl
    refine T_pos (by omega) ?_
    simp only [Int.toNat_natCast, List.set_set, mkStringS_set _ i _ hi']
    rw [set_mk _ _ _ i (mkStringS_len i n) hi, ← mkStringS_succ]
    have e2 : n + 1 * (i : Int) + 1 = n + 1 * ((i + 1 : Nat) : Int) := by omega
    rw [e2]
    exact he
  · simp only [laws_markStringS.l0]
    have e : mkStringS l.length n ++ l.drop l.length = mkStringS l.length n := by rw [List.drop_of_length_le (Nat.le_refl _), List.append_nil]
    rw [e, mkStringS_len]
    exact T_neg (by omega) (T_ret rfl)

/-! laws_markPendingS -/
noncomputable def mkPendingS (m : Nat) (n : Int) : List (S92) := (List.range m).map fun (i : Nat) => (⟨n + 4 * (i : Int), mtxt (n + 4 * (i : Int) + 1), n + 4 * (i : Int) + 2, n + 4 * (i : Int) + 3⟩ : S92)
theorem mkPendingS_len (m : Nat) (n : Int) : (mkPendingS m n).length = m := by simp [mkPendingS]
theorem mkPendingS_succ (m : Nat) (n : Int) : mkPendingS (m + 1) n = mkPendingS m n ++ [(⟨n + 4 * (m : Int), mtxt (n + 4 * (m : Int) + 1), n + 4 * (m : Int) + 2, n + 4 * (m : Int) + 3⟩ : S92)] := by simp [mkPendingS, List.range_succ]
theorem mkPendingS_rd (m : Nat) (n : Int) (i : Nat) (h : i < m) : rd_T92 (mkPendingS m n) (i : Int) = ⟨n + 4 * (i : Int), mtxt (n + 4 * (i : Int) + 1), n + 4 * (i : Int) + 2, n + 4 * (i : Int) + 3⟩ := by simp [rd_T92, mkPendingS, List.getD_eq_getElem?_getD, h]
theorem mkPendingS_set (l : List (S92)) (i : Nat) (y : S92) (h : i < l.length) : rd_T92 (l.set i y) (i : Int) = y := by simp [rd_T92, List.getD_eq_getElem?_getD, h]
theorem laws_markPendingS.ev (l : List (S92)) (n : Int) (hl : l.length ≤ 1048576) (h0 : 0 ≤ n) (h1 : n ≤ 1000000000) : Tells (fun k => laws_markPendingS.f k l n) (· = (n + 4 * (l.length : Int), mkPendingS l.length n)) := by
  unfold laws_markPendingS.f
  have h := T_loop' (fun k i => laws_markPendingS.l0 k (mkPendingS i n ++ l.drop i) (n + 4 * (i : Int)) (i : Int)) l.length (· = (n + 4 * (l.length : Int), mkPendingS l.length n)) (fun i hi he => ?_) ?_
  · have e : mkPendingS 0 n ++ l.drop 0 = l := rfl
    rw [e] at h
    simpa using h
  · have hL : (mkPendingS i n ++ l.drop i).length = l.length := by rw [List.length_append, mkPendingS_len, List.length_drop]; omega
    have hi' : i < (mkPendingS i n ++ l.drop i).length := by omega
    have e1_ : wrap64 (n + 4 * (i : Int) + 1) = n + 4 * (i : Int) + 1 := (w64 (by omega) (by omega)).trans (by omega)
    have e2_ : wrap64 (n + 4 * (i : Int) + 1 + 1) = n + 4 * (i : Int) + 2 := (w64 (by omega) (by omega)).trans (by omega)
    have e3_ : wrap64 (n + 4 * (i : Int) + 2 + 1) = n + 4 * (i : Int) + 3 := (w64 (by omega) (by omega)).trans (by omega)
    have e4_ : wrap64 (n + 4 * (i : Int) + 3 + 1) = n + 4 * (i : Int) + 4 := (w64 (by omega) (by omega)).trans (by omega)
    simp only [laws_markPendingS.l0, Option.bind_some, e1_, e2_, e3_, e4_]
    rw [hL, wsucc hi (by omega)]
    refine T_pos (by omega) (T_pos (by omega) ?_)
    refine T_bind (laws_markText.ev (n + 4 * (i : Int) + 1) (by omega) (by omega)) ?_
    rintro _ rfl
    simp only [Int.toNat_natCast, List.set_set, mkPendingS_set _ i _ hi']
    rw [set_mk _ _ _ i (mkPendingS_len i n) hi, ← mkPendingS_succ]
    have e2 : n + 4 * (i : Int) + 4 = n + 4 * ((i + 1 : Nat) : Int) := by omega
    rw [e2]
    exact he
  · simp only [laws_markPendingS.l0]
    have e : mkPendingS l.length n ++ l.drop l.length = mkPendingS l.length n := by rw [List.drop_of_length_le (Nat.le_refl _), List.append_nil]
    rw [e, mkPendingS_len]
    exact T_neg (by omega) (T_ret rfl)

/-! laws_markEarlyS -/
noncomputable def mkEarlyS (m : Nat) (n : Int) : List (S87) := (List.range m).map fun (i : Nat) => (⟨n + 2 * (i : Int), mtxt (n + 2 * (i : Int) + 1)⟩ : S87)
theorem mkEarlyS_len (m : Nat) (n : Int) : (mkEarlyS m n).length = m := by simp [mkEarlyS]
theorem mkEarlyS_succ (m : Nat) (n : Int) : mkEarlyS (m + 1) n = mkEarlyS m n ++ [(⟨n + 2 * (m : Int), mtxt (n + 2 * (m : Int) + 1)⟩ : S87)] := by simp [mkEarlyS, List.range_succ]
theorem mkEarlyS_rd (m : Nat) (n : Int) (i : Nat) (h : i < m) : rd_T87 (mkEarlyS m n) (i : Int) = ⟨n + 2 * (i : Int), mtxt (n + 2 * (i : Int) + 1)⟩ := by simp [rd_T87, mkEarlyS, List.getD_eq_getElem?_getD, h]
theorem mkEarlyS_set (l : List (S87)) (i : Nat) (y : S87) (h : i < l.length) : rd_T87 (l.set i y) (i : Int) = y := by simp [rd_T87, List.getD_eq_getElem?_getD, h]
theorem laws_markEarlyS.ev (l : List (S87)) (n : Int) (hl : l.length ≤ 1048576) (h0 : 0 ≤ n) (h1 : n ≤ 1000000000) : Tells (fun k => laws_markEarlyS.f k l n) (· = (n + 2 * (l.length : Int), mkEarlyS l.length n)) := by
  unfold laws_markEarlyS.f
  have h := T_loop' (fun k i => laws_markEarlyS.l0 k (mkEarlyS i n ++ l.drop i) (n + 2 * (i : Int)) (i : Int)) l.length (· = (n + 2 * (l.length : Int), mkEarlyS l.length n)) (fun i hi he => ?_) ?_
  · have e : mkEarlyS 0 n ++ l.drop 0 = l := rfl
    rw [e] at h
    simpa using h
  · have hL : (mkEarlyS i n ++ l.drop i).length = l.length := by rw [List.length_append, mkEarlyS_len, List.length_drop]; omega
    have hi' : i < (mkEarlyS i n ++ l.drop i).length := by omega
    have e1_ : wrap64 (n + 2 * (i : Int) + 1) = n + 2 * (i : Int) + 1 := (w64 (by omega) (by omega)).trans (by omega)
    have e2_ : wrap64 (n + 2 * (i : Int) + 1 + 1) = n + 2 * (i : Int) + 2 := (w64 (by omega) (by omega)).trans (by omega)
    simp only [laws_markEarlyS.l0, Option.bind_some, e1_, e2_]
    rw [hL, wsucc hi (by omega)]
    refine T_pos (by omega) (T_pos (by omega) ?_)
    refine T_bind (laws_markText.ev (n + 2 * (i : Int) + 1) (by omega) (by omega)) ?_
    rintro _ rfl
    simp only [Int.toNat_natCast, List.set_set, mkEarlyS_set _ i _ hi']
    rw [set_mk _ _ _ i (mkEarlyS_len i n) hi, ← mkEarlyS_succ]
    have e2 : n + 2 * (i : Int) + 2 = n + 2 * ((i + 1 : Nat) : Int) := by omega
    rw [e2]
    exact he
  · simp only [laws_markEarlyS.l0]
    have e : mkEarlyS l.length n ++ l.drop l.length = mkEarlyS l.length n := by rw [List.drop_of_length_le (Nat.le_refl _), List.append_nil]
    rw [e, mkEarlyS_len]
    exact T_neg (by omega) (T_ret rfl)

/-! laws_markIntS -/
def mkIntS (m : Nat) (n : Int) : List (Int) := (List.range m).map fun (i : Nat) => (n + 1 * (i : Int) : Int)
theorem mkIntS_len (m : Nat) (n : Int) : (mkIntS m n).length = m := by simp [mkIntS]
theorem mkIntS_succ (m : Nat) (n : Int) : mkIntS (m + 1) n = mkIntS m n ++ [(n + 1 * (m : Int) : Int)] := by simp [mkIntS, List.range_succ]
theorem mkIntS_rd (m : Nat) (n : Int) (i : Nat) (h : i < m) : rd (mkIntS m n) (i : Int) = n + 1 * (i : Int) := by simp [rd, mkIntS, List.getD_eq_getElem?_getD, h]
theorem mkIntS_set (l : List (Int)) (i : Nat) (y : Int) (h : i < l.length) : rd (l.set i y) (i : Int) = y := by simp [rd, List.getD_eq_getElem?_getD, h]
theorem laws_markIntS.ev (l : List (Int)) (n : Int) (hl : l.length ≤ 1048576) (h0 : 0 ≤ n) (h1 : n ≤ 1000000000) : Tells (fun k => laws_markIntS.f k l n) (· = (n + 1 * (l.length : Int), mkIntS l.length n)) := by
  unfold laws_markIntS.f
  have h := T_loop' (fun k i => laws_markIntS.l0 k (mkIntS i n ++ l.drop i) (n + 1 * (i : Int)) (i : Int)) l.length (· = (n + 1 * (l.length : Int), mkIntS l.length n)) (fun i hi he => ?_) ?_
  · have e : mkIntS 0 n ++ l.drop 0 = l := rfl
    rw [e] at h
    simpa using h
  · have hL : (mkIntS i n ++ l.drop i).length = l.length := by rw [List.length_append, mkIntS_len, List.length_drop]; omega
    have hi' : i < (mkIntS i n ++ l.drop i).length := by omega
    have e1_ : wrap64 (n + 1 * (i : Int) + 1) = n + 1 * (i : Int) + 1 := (w64 (by omega) (by omega)).trans (by omega)
    simp only [laws_markIntS.l0, Option.bind_some, e1_]
    rw [hL, wsucc hi (by omega)]
    refine T_pos (by omega) (T_pos (by omega) ?_)
    simp only [Int.toNat_natCast, List.set_set, mkIntS_set _ i _ hi']
    rw [set_mk _ _ _ i (mkIntS_len i n) hi, ← mkIntS_succ]
    have e2 : n + 1 * (i : Int) + 1 = n + 1 * ((i + 1 : Nat) : Int) := by omega
    rw [e2]
    exact he
  · simp only [laws_markIntS.l0]
    have e : mkIntS l.length n ++ l.drop l.length = mkIntS l.length n := by rw [List.drop_of_length_le (Nat.le_refl _), List.append_nil]
    rw [e, mkIntS_len]
    exact T_neg (by omega) (T_ret rfl)

/-! laws_markChan -/
theorem laws_markChan.ev (x0 : Int) (x1 : Int) (x2 : Int) (x3 : List (ByteArray)) (x4 : List (S92)) (x5 : Int) (x6 : List (S87)) (x7 : List (Int)) (x8 : List (ByteArray)) (n : Int) (hx3 : x3.length ≤ 1048576) (hx4 : x4.length ≤ 1048576) (hx6 : x6.length ≤ 1048576) (hx7 : x7.length ≤ 1048576) (hx8 : x8.length ≤ 1048576) (h0 : 0 ≤ n) (h1 : n ≤ 500000000) : Tells (fun k => laws_markChan.f k x0 x1 x2 x3 x4 x5 x6 x7 x8 n) (· = (n + 1 * (x3.length : Int) + 4 * (x4.length : Int) + 2 * (x6.length : Int) + 1 * (x7.length : Int) + 1 * (x8.length : Int), mkStringS x3.length (n), mkPendingS x4.length (n + 1 * (x3.length : Int)), mkEarlyS x6.length (n + 1 * (x3.length : Int) + 4 * (x4.length : Int)), mkIntS x7.length (n + 1 * (x3.length : Int) + 4 * (x4.length : Int) + 2 * (x6.length : Int)), mkStringS x8.length (n + 1 * (x3.length : Int) + 4 * (x4.length : Int) + 2 * (x6.length : Int) + 1 * (x7.length : Int)))) := by
  unfold laws_markChan.f
  refine T_bind (laws_markStringS.ev x3 (n) hx3 (by omega) (by omega)) ?_
  rintro _ rfl
  refine T_bind (laws_markPendingS.ev x4 (n + 1 * (x3.length : Int)) hx4 (by omega) (by omega)) ?_
  rintro _ rfl
  refine T_bind (laws_markEarlyS.ev x6 (n + 1 * (x3.length : Int) + 4 * (x4.length : Int)) hx6 (by omega) (by omega)) ?_
  rintro _ rfl
  refine T_bind (laws_markIntS.ev x7 (n + 1 * (x3.length : Int) + 4 * (x4.length : Int) + 2 * (x6.length : Int)) hx7 (by omega) (by omega)) ?_
  rintro _ rfl
  refine T_bind (laws_markStringS.ev x8 (n + 1 * (x3.length : Int) + 4 * (x4.length : Int) + 2 * (x6.length : Int) + 1 * (x7.length : Int)) hx8 (by omega) (by omega)) ?_
  rintro _ rfl
  exact T_ret rfl

/-! laws_heldStringS -/
theorem laws_heldStringS.ev (m : Nat) (n : Int) (hl : m ≤ 1048576) (h0 : 0 ≤ n) (h1 : n ≤ 1000000000) : Tells (fun k => laws_heldStringS.f k (mkStringS m n) n) (· = n + 1 * (m : Int)) := by
  unfold laws_heldStringS.f
  have h := T_loop' (fun k i => laws_heldStringS.l0 k (mkStringS m n) (n + 1 * (i : Int)) (i : Int)) m (· = n + 1 * (m : Int)) (fun i hi he => ?_) ?_
  · simpa using h
  · have e1_ : wrap64 (n + 1 * (i : Int) + 1) = n + 1 * (i : Int) + 1 := (w64 (by omega) (by omega)).trans (by omega)
    simp only [laws_heldStringS.l0, mkStringS_rd m n i hi, e1_]
    rw [mkStringS_len, wsucc hi (by omega)]
    refine T_pos (by omega) (T_pos (by omega) ?_)
    refine T_bind (laws_markText.ev (n + 1 * (i : Int)) (by omega) (by omega)) ?_
    rintro _ rfl
    refine T_pos (by first | trivial | rfl | omega) ?_
    have e2 : n + 1 * (i : Int) + 1 = n + 1 * ((i + 1 : Nat) : Int) := by omega
    rw [e2]
    exact he
  · simp only [laws_heldStringS.l0]
    rw [mkStringS_len]
    exact T_neg (by omega) (T_ret rfl)

/-! laws_heldPendingS -/
theorem laws_heldPendingS.ev (m : Nat) (n : Int) (hl : m ≤ 1048576) (h0 : 0 ≤ n) (h1 : n ≤ 1000000000) : Tells (fun k => laws_heldPendingS.f k (mkPendingS m n) n) (· = n + 4 * (m : Int)) := by
  unfold laws_heldPendingS.f
  have h := T_loop' (fun k i => laws_heldPendingS.l0 k (mkPendingS m n) (n + 4 * (i : Int)) (i : Int)) m (· = n + 4 * (m : Int)) (fun i hi he => ?_) ?_
  · simpa using h
  · have e1_ : wrap64 (n + 4 * (i : Int) + 1) = n + 4 * (i : Int) + 1 := (w64 (by omega) (by omega)).trans (by omega)
    have e2_ : wrap64 (n + 4 * (i : Int) + 1 + 1) = n + 4 * (i : Int) + 2 := (w64 (by omega) (by omega)).trans (by omega)
    have e3_ : wrap64 (n + 4 * (i : Int) + 2 + 1) = n + 4 * (i : Int) + 3 := (w64 (by omega) (by omega)).trans (by omega)
    have e4_ : wrap64 (n + 4 * (i : Int) + 3 + 1) = n + 4 * (i : Int) + 4 := (w64 (by omega) (by omega)).trans (by omega)
    simp only [laws_heldPendingS.l0, mkPendingS_rd m n i hi, e1_, e2_, e3_, e4_]
    rw [mkPendingS_len, wsucc hi (by omega)]
    refine T_pos (by omega) (T_pos (by omega) ?_)
    refine T_pos (by first | trivial | rfl | omega) ?_
    refine T_bind (laws_markText.ev (n + 4 * (i : Int) + 1) (by omega) (by omega)) ?_
    rintro _ rfl
    refine T_pos (by first | trivial | rfl | omega) ?_
    refine T_pos (by first | trivial | rfl | omega) ?_
    refine T_pos (by first | trivial | rfl | omega) ?_
    have e2 : n + 4 * (i : Int) + 4 = n + 4 * ((i + 1 : Nat) : Int) := by omega
    rw [e2]
    exact he
  · simp only [laws_heldPendingS.l0]
    rw [mkPendingS_len]
    exact T_neg (by omega) (T_ret rfl)

/-! laws_heldEarlyS -/
theorem laws_heldEarlyS.ev (m : Nat) (n : Int) (hl : m ≤ 1048576) (h0 : 0 ≤ n) (h1 : n ≤ 1000000000) : Tells (fun k => laws_heldEarlyS.f k (mkEarlyS m n) n) (· = n + 2 * (m : Int)) := by
  unfold laws_heldEarlyS.f
  have h := T_loop' (fun k i => laws_heldEarlyS.l0 k (mkEarlyS m n) (n + 2 * (i : Int)) (i : Int)) m (· = n + 2 * (m : Int)) (fun i hi he => ?_) ?_
  · simpa using h
  · have e1_ : wrap64 (n + 2 * (i : Int) + 1) = n + 2 * (i : Int) + 1 := (w64 (by omega) (by omega)).trans (by omega)
    have e2_ : wrap64 (n + 2 * (i : Int) + 1 + 1) = n + 2 * (i : Int) + 2 := (w64 (by omega) (by omega)).trans (by omega)
    simp only [laws_heldEarlyS.l0, mkEarlyS_rd m n i hi, e1_, e2_]
    rw [mkEarlyS_len, wsucc hi (by omega)]
    refine T_pos (by omega) (T_pos (by omega) ?_)
    refine T_pos (by first | trivial | rfl | omega) ?_
    refine T_bind (laws_markText.ev (n + 2 * (i : Int) + 1) (by omega) (by omega)) ?_
    rintro _ rfl
    refine T_pos (by first | trivial | rfl | omega) ?_
    have e2 : n + 2 * (i : Int) + 2 = n + 2 * ((i + 1 : Nat) : Int) := by omega
    rw [e2]
    exact he
  · simp only [laws_heldEarlyS.l0]
    rw [mkEarlyS_len]
    exact T_neg (by omega) (T_ret rfl)

/-! laws_heldIntS -/
theorem laws_heldIntS.ev (m : Nat) (n : Int) (hl : m ≤ 1048576) (h0 : 0 ≤ n) (h1 : n ≤ 1000000000) : Tells (fun k => laws_heldIntS.f k (mkIntS m n) n) (· = n + 1 * (m : Int)) := by
  unfold laws_heldIntS.f
  have h := T_loop' (fun k i => laws_heldIntS.l0 k (mkIntS m n) (n + 1 * (i : Int)) (i : Int)) m (· = n + 1 * (m : Int)) (fun i hi he => ?_) ?_
  · simpa using h
  · have e1_ : wrap64 (n + 1 * (i : Int) + 1) = n + 1 * (i : Int) + 1 := (w64 (by omega) (by omega)).trans (by omega)
    simp only [laws_heldIntS.l0, mkIntS_rd m n i hi, e1_]
    rw [mkIntS_len, wsucc hi (by omega)]
    refine T_pos (by omega) (T_pos (by omega) ?_)
    refine T_pos (by first | trivial | rfl | omega) ?_
    have e2 : n + 1 * (i : Int) + 1 = n + 1 * ((i + 1 : Nat) : Int) := by omega
    rw [e2]
    exact he
  · simp only [laws_heldIntS.l0]
    rw [mkIntS_len]
    exact T_neg (by omega) (T_ret rfl)

/-! laws_heldChan -/
theorem laws_heldChan.ev (x0 : Int) (x1 : Int) (x2 : Int) (mx3 : Nat) (mx4 : Nat) (x5 : Int) (mx6 : Nat) (mx7 : Nat) (mx8 : Nat) (n : Int) (hmx3 : mx3 ≤ 1048576) (hmx4 : mx4 ≤ 1048576) (hmx6 : mx6 ≤ 1048576) (hmx7 : mx7 ≤ 1048576) (hmx8 : mx8 ≤ 1048576) (h0 : 0 ≤ n) (h1 : n ≤ 500000000) : Tells (fun k => laws_heldChan.f k x0 x1 x2 (mkStringS mx3 (n)) (mkPendingS mx4 (n + 1 * (mx3 : Int))) x5 (mkEarlyS mx6 (n + 1 * (mx3 : Int) + 4 * (mx4 : Int))) (mkIntS mx7 (n + 1 * (mx3 : Int) + 4 * (mx4 : Int) + 2 * (mx6 : Int))) (mkStringS mx8 (n + 1 * (mx3 : Int) + 4 * (mx4 : Int) + 2 * (mx6 : Int) + 1 * (mx7 : Int))) n) (· = n + 1 * (mx3 : Int) + 4 * (mx4 : Int) + 2 * (mx6 : Int) + 1 * (mx7 : Int) + 1 * (mx8 : Int)) := by
  unfold laws_heldChan.f
  refine T_bind (laws_heldStringS.ev mx3 (n) hmx3 (by omega) (by omega)) ?_
  rintro _ rfl
  refine T_neg (by omega) ?_
  refine T_bind (laws_heldPendingS.ev mx4 (n + 1 * (mx3 : Int)) hmx4 (by omega) (by omega)) ?_
  rintro _ rfl
  refine T_neg (by omega) ?_
  refine T_bind (laws_heldEarlyS.ev mx6 (n + 1 * (mx3 : Int) + 4 * (mx4 : Int)) hmx6 (by omega) (by omega)) ?_
  rintro _ rfl
  refine T_neg (by omega) ?_
  refine T_bind (laws_heldIntS.ev mx7 (n + 1 * (mx3 : Int) + 4 * (mx4 : Int) + 2 * (mx6 : Int)) hmx7 (by omega) (by omega)) ?_
  rintro _ rfl
  refine T_neg (by omega) ?_
  refine T_bind (laws_heldStringS.ev mx8 (n + 1 * (mx3 : Int) + 4 * (mx4 : Int) + 2 * (mx6 : Int) + 1 * (mx7 : Int)) hmx8 (by omega) (by omega)) ?_
  rintro _ rfl
  refine T_neg (by omega) ?_
  exact T_ret rfl

theorem chanNew_short (a b : Int) : (chanNew a b).2.2.2.1.length ≤ 1048576 ∧ (chanNew a b).2.2.2.2.1.length ≤ 1048576 ∧ (chanNew a b).2.2.2.2.2.2.1.length ≤ 1048576 ∧ (chanNew a b).2.2.2.2.2.2.2.1.length ≤ 1048576 ∧ (chanNew a b).2.2.2.2.2.2.2.2.1.length ≤ 1048576 := by
  unfold chanNew
  split <;> simp
theorem FnExactChanNew : laws_FnExactChanNew.Goal := by
  intro a b _ _
  refine Tells.rounds ?_
  unfold laws_FnExactChanNew.f
  simp only [spec_ChanNew.eq, impl_ChanNew.eq, Option.bind_some]
  obtain ⟨h3, h4, h6, h7, h8⟩ := chanNew_short a b
  generalize hc : chanNew a b = c at *
  obtain ⟨c0, c1, c2, c3, c4, c5, c6, c7, c8, ok⟩ := c
  dsimp only at h3 h4 h6 h7 h8 ⊢
  refine T_bind (laws_eqChan.ev c0 c1 c2 c3 c4 c5 c6 c7 c8 h3 h4 h6 h7 h8) ?_
  rintro _ rfl
  refine T_pos rfl (T_step ?_)
  simp only [laws_FnExactChanNew.j0]
  refine T_neg (by simp) (T_bind (laws_markChan.ev c0 c1 c2 c3 c4 c5 c6 c7 c8 1 h3 h4 h6 h7 h8 (by omega) (by omega)) ?_)
  rintro _ rfl
  refine T_bind (laws_heldChan.ev c0 c1 c2 c3.length c4.length c5 c6.length c7.length c8.length 1 h3 h4 h6 h7 h8 (by omega) (by omega)) ?_
  rintro _ rfl
  refine T_neg (by omega) (T_pos rfl ?_)
  simp only [impl_ChanNew.eq, Option.bind_some, hc]
  refine T_bind (laws_eqChan.ev c0 c1 c2 c3 c4 c5 c6 c7 c8 h3 h4 h6 h7 h8) ?_
  rintro _ rfl
  refine T_pos rfl (T_step ?_)
  simp only [laws_FnExactChanNew.j1]
  refine T_neg (by simp) (T_bind (laws_heldChan.ev c0 c1 c2 c3.length c4.length c5 c6.length c7.length c8.length 1 h3 h4 h6 h7 h8 (by omega) (by omega)) ?_)
  rintro _ rfl
  exact T_neg (by omega) (T_pos rfl (T_ret rfl))

end Go.Proofs.Ytpheniajdbbphaa.Pure
