/- FnExactBeginsWith: the pure statement, proved: for every input of the law its printed function answers true. No condition. -/
import Derived.Test.YtlgcekphoamcnaaGoalFnExactBeginsWith
namespace Go.Proofs.Ytlgcekphoamcnaa.Pure
open Go.RowKit Go.Proofs.Ytlgcekphoamcnaa.PFnExactBeginsWith Go.Proofs.YtlgcekphoamcnaaW.PrintWords Go.Proofs.YtlgcekphoamcnaaW.PrintLast Go.Proofs.YtlgcekphoamcnaaW.PrintMore
set_option linter.unusedVariables false
set_option linter.unusedSimpArgs false
theorem w64 {x : Int} (h0 : -9223372036854775808 ≤ x) (h1 : x ≤ 9223372036854775807) : wrap64 x = x := by unfold wrap64; omega
theorem wsucc {i n : Nat} (h : i < n) (hn : n ≤ 9223372036854775807) : wrap64 ((i : Int) + 1) = ((i + 1 : Nat) : Int) := by unfold wrap64; omega
theorem wf64 {x : Int} (h : (Lit.int .i64 x).wf = true) : -9223372036854775808 ≤ x ∧ x ≤ 9223372036854775807 := by
  have h' : IntKind.i64.min ≤ x ∧ x ≤ IntKind.i64.max := by simpa [Lit.wf] using h
  exact h'
/-- From some number of rounds on it answers, and what it answers is so. -/
def Tells {α : Type} (g : Nat → Option α) (P : α → Prop) : Prop := ∃ r, P r ∧ Ev g r
theorem Tells.ev {α : Type} {g : Nat → Option α} {r : α} (h : Tells g (· = r)) : Ev g r := by
  obtain ⟨x, rfl, h⟩ := h
  exact h
theorem Tells.of {α : Type} {g : Nat → Option α} {r : α} (h : Ev g r) : Tells g (· = r) := ⟨r, rfl, h⟩
theorem Tells.rounds {α : Type} {g : Nat → Option α} {r : α} (h : Tells g (· = r)) : ∃ k, g k = some r := h.ev.rounds
theorem Tells.now {α : Type} {g : Option α} {r : α} (h : Tells (fun _ => g) (· = r)) : g = some r := by
  obtain ⟨K, h⟩ := h.ev
  exact h K (Nat.le_refl _)
theorem Tells.mono {α : Type} {g : Nat → Option α} {P Q : α → Prop} (h : Tells g P) (k : ∀ x, P x → Q x) : Tells g Q := by
  obtain ⟨x, hp, h⟩ := h
  exact ⟨x, k x hp, h⟩
theorem T_ret {α : Type} {P : α → Prop} {r : α} (h : P r) : Tells (fun _ => some r) P := ⟨r, h, Ev.now r⟩
theorem T_ite {α : Type} {c : Prop} {d : Decidable c} {f g : Nat → Option α} {P : α → Prop} (h1 : c → Tells f P) (h2 : ¬ c → Tells g P) : Tells (fun k => @ite _ c d (f k) (g k)) P := by
  by_cases h : c
  · obtain ⟨r, hp, he⟩ := h1 h
    exact ⟨r, hp, Ev.congr (fun k => if_pos h) he⟩
  · obtain ⟨r, hp, he⟩ := h2 h
    exact ⟨r, hp, Ev.congr (fun k => if_neg h) he⟩
theorem T_pos {α : Type} {c : Prop} {d : Decidable c} {f g : Nat → Option α} {P : α → Prop} (h : c) (hf : Tells f P) : Tells (fun k => @ite _ c d (f k) (g k)) P := T_ite (fun _ => hf) (fun h' => absurd h h')
theorem T_neg {α : Type} {c : Prop} {d : Decidable c} {f g : Nat → Option α} {P : α → Prop} (h : ¬ c) (hg : Tells g P) : Tells (fun k => @ite _ c d (f k) (g k)) P := T_ite (fun h' => absurd h' h) (fun _ => hg)
theorem T_bind {α β : Type} {g : Nat → Option α} {f : Nat → α → Option β} {Q : α → Prop} {P : β → Prop} (h : Tells g Q) (k : ∀ x, Q x → Tells (fun n => f n x) P) : Tells (fun n => (g n).bind (f n)) P := by
  obtain ⟨x, hq, he⟩ := h
  obtain ⟨r, hp, he'⟩ := k x hq
  exact ⟨r, hp, Ev.bind he he'⟩
theorem T_step {α : Type} {g : Nat → Option α} {P : α → Prop} (h : Tells (fun k => g (k + 1)) P) : Tells g P := by
  obtain ⟨r, hp, he⟩ := h
  exact ⟨r, hp, Ev.step (fun _ => rfl) he⟩
theorem T_eq {α : Type} {g f : Nat → Option α} {P : α → Prop} (h : ∀ k, g k = f k) (hf : Tells f P) : Tells g P := by
  obtain ⟨r, hp, he⟩ := hf
  exact ⟨r, hp, Ev.congr h he⟩
theorem T_some {α : Type} {g : Nat → Option α} {P : α → Prop} {r : α} (h : ∀ k, g k = some r) (hp : P r) : Tells g P := T_eq h (T_ret hp)
theorem T_unique {α : Type} {g : Nat → Option α} {P : α → Prop} {r : α} (h : Tells g P) (h' : Tells g (· = r)) : P r := by
  obtain ⟨x, hp, K, h⟩ := h
  obtain ⟨K', h'⟩ := h'.ev
  have a := h (max K K') (by omega)
  have b := h' (max K K') (by omega)
  rw [a] at b
  exact Option.some.inj b ▸ hp
/-- A loop with a counter, from the last round back. -/
theorem T_loop {ρ : Type} (g : Nat → Nat → Option ρ) (n : Nat) (P : Nat → ρ → Prop)
    (step : ∀ i, i < n → Tells (fun k => g k (i + 1)) (P (i + 1)) → Tells (fun k => g (k + 1) i) (P i)) (fin : Tells (fun k => g (k + 1) n) (P n)) : ∀ i, i ≤ n → Tells (fun k => g k i) (P i) := by
  have key : ∀ d i, i + d = n → Tells (fun k => g k i) (P i) := by
    intro d
    induction d with
    | zero =>
      intro i hi
      obtain rfl : i = n := by omega
      exact T_step fin
    | succ d ih =>
      intro i hi
      exact T_step (step i (by omega) (ih (i + 1) (by omega)))
  exact fun i hi => key (n - i) i (by omega)
/-- A loop whose answer does not hang on the round. -/
theorem T_loop' {ρ : Type} (g : Nat → Nat → Option ρ) (n : Nat) (P : ρ → Prop)
    (step : ∀ i, i < n → Tells (fun k => g k (i + 1)) P → Tells (fun k => g (k + 1) i) P) (fin : Tells (fun k => g (k + 1) n) P) : Tells (fun k => g k 0) P :=
  T_loop g n (fun _ => P) step fin 0 (Nat.zero_le _)
/-- What holds of all from a round on. -/
def From (C : Nat → Prop) (n i : Nat) : Prop := ∀ j, i ≤ j → j < n → C j
theorem From.cons {C : Nat → Prop} {n i : Nat} (h : C i) : From C n (i + 1) ↔ From C n i := by
  refine ⟨fun k j a b => ?_, fun k j a b => k j (by omega) b⟩
  by_cases e : j = i
  · exact e ▸ h
  · exact k j (by omega) b
theorem From.none {C : Nat → Prop} {n i : Nat} (hi : i < n) (h : ¬ C i) : ¬ From C n i := fun k => h (k i (Nat.le_refl _) hi)
theorem From.last (C : Nat → Prop) (n : Nat) : From C n n := fun j a b => absurd b (by omega)
theorem set_copy_map {α β : Type} (l : List α) (f : α → β) (z : β) (i : Nat) (h : i < l.length) (x : β) (hx : x = f l[i]) : ((l.take i).map f ++ List.replicate (l.length - i) z).set i x = (l.take (i + 1)).map f ++ List.replicate (l.length - (i + 1)) z := by
  subst hx
  have e : l.length - i = (l.length - (i + 1)) + 1 := by omega
  have hl : ((l.take i).map f).length = i := by rw [List.length_map, List.length_take]; omega
  rw [e, List.replicate_succ, List.set_append_right _ _ (by omega), hl, Nat.sub_self, List.set_cons_zero, List.take_succ_eq_append_getElem h, List.map_append]
  simp only [List.map_cons, List.map_nil, List.append_assoc, List.singleton_append]
theorem set_copy {α : Type} (l : List α) (z : α) (i : Nat) (h : i < l.length) (x : α) (hx : x = l[i]) : (l.take i ++ List.replicate (l.length - i) z).set i x = l.take (i + 1) ++ List.replicate (l.length - (i + 1)) z := by
  have := set_copy_map l id z i h x hx
  rw [List.map_id, List.map_id] at this
  exact this
theorem rd_nat (xs : List Int) (i : Nat) (h : i < xs.length) : rd xs (i : Int) = xs[i] := by simp [rd, List.getD_eq_getElem?_getD, h]
theorem rdOf_nat {α : Type} (d : α) (xs : List α) (i : Nat) (h : i < xs.length) : rdOf d xs (i : Int) = xs[i] := by simp [rdOf, List.getD_eq_getElem?_getD, h]
/-- a where c is so, else b. -/
def Either {ρ : Type} (c : Prop) (a b r : ρ) : Prop := (c ∧ r = a) ∨ (¬ c ∧ r = b)
theorem Either.same {ρ : Type} {c c' : Prop} {a b r s : ρ} (h : Either c a b r) (h' : Either c' a b s) (e : c ↔ c') : r = s := by
  rcases h with ⟨h, rfl⟩ | ⟨h, rfl⟩ <;> rcases h' with ⟨h', rfl⟩ | ⟨h', rfl⟩
  · rfl
  · exact absurd (e.1 h) h'
  · exact absurd (e.2 h') h
  · rfl
/-- A loop that checks each place. -/
theorem T_all {ρ : Type} (g : Nat → Nat → Option ρ) (n : Nat) (C : Nat → Prop) (bad fin : ρ)
    (step : ∀ i, i < n → C i → ∀ P : ρ → Prop, Tells (fun k => g k (i + 1)) P → Tells (fun k => g (k + 1) i) P) (out : ∀ i, i < n → ¬ C i → Tells (fun k => g (k + 1) i) (· = bad)) (hf : Tells (fun k => g (k + 1) n) (· = fin)) :
    Tells (fun k => g k 0) (Either (From C n 0) fin bad) := by
  refine T_loop g n (fun i => Either (From C n i) fin bad) (fun i hi he => ?_) (hf.mono fun r hr => .inl ⟨From.last C n, hr⟩) 0 (Nat.zero_le _)
  by_cases hc : C i
  · refine (step i hi hc _ he).mono fun r hr => ?_
    unfold Either at hr ⊢
    rw [From.cons hc] at hr
    exact hr
  · exact (out i hi hc).mono fun r hr => .inr ⟨From.none hi hc, hr⟩
/-- A loop that looks for the first place. -/
theorem T_find {ρ : Type} (g : Nat → Nat → Option ρ) (n : Nat) (C : Nat → Prop) (got : Nat → ρ) (fin : ρ)
    (step : ∀ i, i < n → ¬ C i → ∀ P : ρ → Prop, Tells (fun k => g k (i + 1)) P → Tells (fun k => g (k + 1) i) P) (out : ∀ i, i < n → C i → Tells (fun k => g (k + 1) i) (· = got i)) (hf : Tells (fun k => g (k + 1) n) (· = fin)) :
    Tells (fun k => g k 0) (fun r => (∃ j, j < n ∧ C j ∧ (∀ m, m < j → ¬ C m) ∧ r = got j) ∨ ((∀ j, j < n → ¬ C j) ∧ r = fin)) := by
  refine (T_loop g n (fun i r => (∃ j, i ≤ j ∧ j < n ∧ C j ∧ (∀ m, i ≤ m → m < j → ¬ C m) ∧ r = got j) ∨ ((∀ j, i ≤ j → j < n → ¬ C j) ∧ r = fin)) (fun i hi he => ?_)
    (hf.mono fun r hr => .inr ⟨fun j a b => absurd b (by omega), hr⟩) 0 (Nat.zero_le _)).mono fun r hr => ?_
  · by_cases hc : C i
    · exact (out i hi hc).mono fun r hr => .inl ⟨i, Nat.le_refl _, hi, hc, fun m a b => absurd b (by omega), hr⟩
    · refine (step i hi hc _ he).mono fun r hr => ?_
      rcases hr with ⟨j, a, b, c, d, e⟩ | ⟨a, b⟩
      · refine .inl ⟨j, by omega, b, c, fun m h1 h2 => ?_, e⟩
        by_cases hm : m = i
        · exact hm ▸ hc
        · exact d m (by omega) h2
      · refine .inr ⟨fun j h1 h2 => ?_, b⟩
        by_cases hm : j = i
        · exact hm ▸ hc
        · exact a j (by omega) h2
  · rcases hr with ⟨j, _, b, c, d, e⟩ | ⟨a, b⟩
    · exact .inl ⟨j, b, c, fun m hm => d m (Nat.zero_le _) hm, e⟩
    · exact .inr ⟨fun j hj => a j (Nat.zero_le _) hj, b⟩
theorem ba_ext {a b : ByteArray} (h : a.toList = b.toList) : a = b := by
  rw [ByteArray.toList_eq, ByteArray.toList_eq] at h
  cases a; cases b
  simpa using h
/-- The same of a test. -/
theorem T_allb (g : Nat → Nat → Option Bool) (n : Nat) (C : Nat → Prop) (F : Prop)
    (step : ∀ i, i < n → C i → ∀ P : Bool → Prop, Tells (fun k => g k (i + 1)) P → Tells (fun k => g (k + 1) i) P) (out : ∀ i, i < n → ¬ C i → Tells (fun k => g (k + 1) i) (· = false)) (hf : Tells (fun k => g (k + 1) n) (fun r => r = true ↔ F)) :
    Tells (fun k => g k 0) (fun r => r = true ↔ (∀ j, j < n → C j) ∧ F) := by
  refine (T_loop g n (fun i r => r = true ↔ From C n i ∧ F) (fun i hi he => ?_) (hf.mono fun r hr => hr.trans ⟨fun h => ⟨From.last C n, h⟩, fun h => h.2⟩) 0 (Nat.zero_le _)).mono fun r hr => by
      rw [hr]
      exact ⟨fun h => ⟨fun j hj => h.1 j (Nat.zero_le _) hj, h.2⟩, fun h => ⟨fun j _ hj => h.1 j hj, h.2⟩⟩
  by_cases hc : C i
  · refine (step i hi hc _ he).mono fun r hr => ?_
    rw [hr, From.cons hc]
  · exact (out i hi hc).mono fun r hr => by
      rw [hr]
      exact ⟨fun h => absurd h Bool.false_ne_true, fun h => absurd h.1 (From.none hi hc)⟩
theorem same_bool {c : Prop} {r s : Bool} (h : r = true ↔ c) (k : s = true ↔ c) : s = r := Bool.eq_iff_iff.2 (k.trans h.symm)
theorem mem_drop_iff {α : Type} {l : List α} {i : Nat} (h : i < l.length) (a : α) : a ∈ l.drop i ↔ a = l[i] ∨ a ∈ l.drop (i + 1) := by
  rw [List.drop_eq_getElem_cons h, List.mem_cons]
theorem drop_eq_iff {α : Type} {a b : List α} {i : Nat} (ha : i < a.length) (hb : i < b.length) : a.drop i = b.drop i ↔ a[i] = b[i] ∧ a.drop (i + 1) = b.drop (i + 1) := by
  rw [List.drop_eq_getElem_cons ha, List.drop_eq_getElem_cons hb, List.cons.injEq]

/-! laws_szStringS -/
theorem laws_szStringS.ev (l : List ByteArray) (a : Int) (h0 : 0 ≤ a) (h1 : a ≤ 1048576) (hl : l.length ≤ maxLen) (hs : ∀ x ∈ l, x.size ≤ 140737488351232) : Tells (fun k => laws_szStringS.f k l a) (fun v => v = -1 ∨ (0 ≤ v ∧ v ≤ a ∧ v + l.length ≤ a ∧ ∀ x ∈ l, v + x.size ≤ a)) := by
  unfold maxLen at hl
  have key : ∀ d i (v : Int), i + d = l.length → 0 ≤ v → v ≤ 1048576 → Tells (fun k => laws_szStringS.l0 k l v (i : Int)) (fun u => u = -1 ∨ (0 ≤ u ∧ u ≤ v ∧ ∀ x ∈ l.drop i, u + x.size ≤ v)) := by
    intro d
    induction d with
    | zero =>
      intro i v hi hv hv1
      refine T_step ?_
      simp only [laws_szStringS.l0]
      refine T_neg (by omega) (T_ret (.inr ⟨hv, by omega, ?_⟩))
      rw [List.drop_of_length_le (by omega)]
      simp
    | succ d ih =>
      intro i v hi hv hv1
      refine T_step ?_
      have hlt : i < l.length := by omega
      have hx : (l[i]).size ≤ 140737488351232 := hs _ (List.getElem_mem hlt)
      simp only [laws_szStringS.l0, rdOf_nat _ l i hlt]
      rw [wsucc hlt (by omega), w64 (x := v - ((l[i]).size : Int)) (by omega) (by omega)]
      refine T_pos (by omega) (T_pos (by omega) (T_ite (fun _ => T_ret (.inl rfl)) (fun h => ?_)))
      refine (ih (i + 1) (v - ((l[i]).size : Int)) (by omega) (by omega) (by omega)).mono fun u hu => ?_
      rcases hu with hu | ⟨hu0, hu1, hu2⟩
      · exact .inl hu
      · refine .inr ⟨hu0, by omega, fun x hx => ?_⟩
        rw [List.drop_eq_getElem_cons hlt] at hx
        rcases List.mem_cons.1 hx with rfl | hx
        · omega
        · have := hu2 x hx
          omega
  unfold laws_szStringS.f
  rw [w64 (x := a - (l.length : Int)) (by omega) (by omega)]
  refine T_ite (fun _ => T_ret (.inl rfl)) (fun h => ?_)
  refine (key l.length 0 (a - (l.length : Int)) (by omega) (by omega) (by omega)).mono fun u hu => ?_
  rcases hu with hu | ⟨hu0, hu1, hu2⟩
  · exact .inl hu
  · refine .inr ⟨hu0, by omega, by omega, fun x hx => ?_⟩
    have := hu2 x (by simpa using hx)
    omega

/-! spec_BeginsWith -/
theorem spec_BeginsWith.ev (a b : List ByteArray) (ha : a.length ≤ 1048576) (hb : b.length ≤ 1048576) : Tells (fun k => spec_BeginsWith.f k a b) (fun r => r = true ↔ b.length ≤ a.length ∧ a.take b.length = b) := by
  unfold spec_BeginsWith.f
  refine T_ite (fun h => T_ret (by simp; omega)) (fun h => ?_)
  have hle : b.length ≤ a.length := by omega
  refine (T_loop (fun k i => spec_BeginsWith.l0 k a b (i : Int)) b.length (fun i r => r = true ↔ (a.take b.length).drop i = b.drop i) (fun i hi he => ?_) ?_ 0 (Nat.zero_le _)).mono fun r hr => by rw [hr]; simp [hle]
  · simp only [spec_BeginsWith.l0]
    rw [wsucc hi (by omega), rdOf_nat _ b i hi, rdOf_nat _ a i (by omega)]
    simp only [drop_eq_iff (a := a.take b.length) (b := b) (by simp; omega) hi, List.getElem_take]
    refine T_pos (by omega) (T_pos (by omega) (T_pos (by omega) (T_ite (fun h => he.mono fun r hr => by simp [hr, ba_ext h]) (fun h => T_ret ?_))))
    have hne : ¬ a[i] = b[i] := fun e => h (by rw [e])
    simp [hne]
  · simp only [spec_BeginsWith.l0]
    exact T_neg (by omega) (T_ret (by simp))

/-! laws_toStringS -/
theorem laws_toStringS.ev (l : List ByteArray) (hn : l.length ≤ 1048576) : Tells (fun k => laws_toStringS.f k l) (· = l) := by
  have h := T_loop' (fun k i => laws_toStringS.l0 k l (l.take i ++ List.replicate (l.length - i) (⟨#[]⟩ : ByteArray)) (i : Int)) l.length (· = l) (fun i hi he => by
    simp only [laws_toStringS.l0]
    refine T_pos (by omega) (T_pos (by omega) (T_pos (by simp; omega) ?_))
    rw [Int.toNat_natCast, set_copy l _ i hi _ (rdOf_nat _ l i hi), wsucc hi (by omega)]
    exact he) (by
    simp only [laws_toStringS.l0]
    exact T_neg (by omega) (T_ret (by simp)))
  unfold laws_toStringS.f
  refine T_pos (by omega) (T_pos (by omega) ?_)
  simpa using h

/-! slices_Equal_string_string -/
theorem slices_Equal_string_string.ev (a b : List ByteArray) (ha : a.length ≤ 1048576) (hb : b.length ≤ 1048576) : Tells (fun k => slices_Equal_string_string.f k a b) (fun r => r = true ↔ a = b) := by
  unfold slices_Equal_string_string.f
  refine T_ite (fun h => ?_) (fun h => T_ret (by
    simp only [Bool.false_eq_true, false_iff]
    rintro rfl
    exact h rfl))
  have hle : a.length = b.length := by omega
  refine (T_loop (fun k i => slices_Equal_string_string.l0 k a b (a.length : Int) (i : Int)) a.length (fun i r => r = true ↔ a.drop i = b.drop i) (fun i hi he => ?_) ?_ 0 (Nat.zero_le _)).mono fun r hr => by rw [hr]; simp
  · simp only [slices_Equal_string_string.l0]
    rw [wsucc hi (by omega), rdOf_nat _ a i hi, rdOf_nat _ b i (by omega)]
    simp only [drop_eq_iff (a := a) (b := b) hi (by omega)]
    refine T_pos (by omega) (T_pos (by omega) (T_pos (by omega) (T_pos (by omega) (T_ite (fun h => he.mono fun r hr => by simp [hr, ba_ext h]) (fun h => T_ret ?_)))))
    have hne : ¬ a[i] = b[i] := fun e => h (by rw [e])
    simp [hne]
  · simp only [slices_Equal_string_string.l0]
    exact T_neg (by omega) (T_ret (by rw [List.drop_of_length_le (Nat.le_refl _), List.drop_of_length_le (by omega)]; simp))

/-! impl_BeginsWith -/
theorem impl_BeginsWith.ev (a b : List ByteArray) (ha : a.length ≤ 1048576) (hb : b.length ≤ 1048576) : Tells (fun k => impl_BeginsWith.f k a b) (fun r => r = true ↔ b.length ≤ a.length ∧ a.take b.length = b) := by
  unfold impl_BeginsWith.f
  refine T_ite (fun h => ?_) (fun h => T_ret (by simp; omega))
  have hle : b.length ≤ a.length := by omega
  refine T_pos (by omega) (T_bind (slices_Equal_string_string.ev _ _ (by simp; omega) hb) fun r hr => T_ret ?_)
  rw [hr, Int.toNat_natCast]
  simp [hle]

/-! laws_eqStringS -/
theorem laws_eqStringS.ev (l : List ByteArray) (hn : l.length ≤ 1048576) : Tells (fun k => laws_eqStringS.f k l l) (· = true) := by
  unfold laws_eqStringS.f
  refine T_pos rfl (T_loop' (fun k i => laws_eqStringS.l0 k l l (i : Int)) l.length (· = true) (fun i hi he => ?_) ?_)
  · simp only [laws_eqStringS.l0]
    rw [wsucc hi (by omega)]
    exact T_pos (by omega) (T_pos (by omega) (T_pos (by omega) (T_pos (by simp) he)))
  · simp only [laws_eqStringS.l0]
    exact T_neg (by omega) (T_ret rfl)

theorem FnExactBeginsWith : laws_FnExactBeginsWith.Goal := by
  rintro a b ⟨ha, _, ha2⟩ ⟨hb, _, hb2⟩
  refine Tells.rounds ?_
  unfold laws_FnExactBeginsWith.f
  refine T_bind (laws_szStringS.ev a 1048576 (by omega) (by omega) ha ha2) fun u hu => ?_
  refine T_ite (fun _ => T_ret rfl) (fun h => ?_)
  obtain ⟨hu0, hu9, hu1, _⟩ := hu.resolve_left (by omega)
  refine T_bind (laws_szStringS.ev b u (by omega) (by omega) hb hb2) fun v hv => ?_
  refine T_ite (fun _ => T_ret rfl) (fun h => ?_)
  obtain ⟨hv0, hv9, hv1, _⟩ := hv.resolve_left (by omega)
  have hna : a.length ≤ 1048576 := by omega
  have hnb : b.length ≤ 1048576 := by omega
  refine T_bind (laws_toStringS.ev a hna) ?_
  rintro _ rfl
  refine T_bind (laws_toStringS.ev b hnb) ?_
  rintro _ rfl
  refine T_bind (spec_BeginsWith.ev _ _ hna hnb) fun r1 hr1 => ?_
  refine T_bind (laws_toStringS.ev _ hna) ?_
  rintro _ rfl
  refine T_bind (laws_toStringS.ev _ hnb) ?_
  rintro _ rfl
  refine T_bind (impl_BeginsWith.ev _ _ hna hnb) fun r2 hr2 => ?_
  obtain rfl := same_bool hr1 hr2
  refine T_neg (by simp) ?_
  refine T_bind (laws_toStringS.ev _ hna) ?_
  rintro _ rfl
  refine T_bind (laws_eqStringS.ev _ hna) ?_
  rintro _ rfl
  refine T_pos rfl ?_
  refine T_bind (laws_toStringS.ev _ hnb) ?_
  rintro _ rfl
  refine T_bind (laws_eqStringS.ev _ hnb) ?_
  rintro _ rfl
  exact T_pos rfl (T_ret rfl)

end Go.Proofs.Ytlgcekphoamcnaa.Pure
