/- FnExactOptionsOk: the pure statement, proved: for every input of the law its printed function answers true. No condition. -/
import Derived.Test.YtlgcekphoamcnaaGoalFnExactOptionsOk
namespace Go.Proofs.Ytlgcekphoamcnaa.Pure
open Go.RowKit Go.Proofs.Ytlgcekphoamcnaa.PFnExactOptionsOk Go.Proofs.YtlgcekphoamcnaaW.PrintWords Go.Proofs.YtlgcekphoamcnaaW.PrintLast Go.Proofs.YtlgcekphoamcnaaW.PrintMore
set_option linter.unusedVariables false
set_option linter.unusedSimpArgs false
theorem w64 {x : Int} (h0 : -9223372036854775808 ≤ x) (h1 : x ≤ 9223372036854775807) : wrap64 x = x := by unfold wrap64; omega
theorem wsucc {i n : Nat} (h : i < n) (hn : n ≤ 9223372036854775807) : wrap64 ((i : Int) + 1) = ((i + 1 : Nat) : Int) := by unfold wrap64; omega
theorem wf64 {x : Int} (h : (Lit.int .i64 x).wf = true) : -9223372036854775808 ≤ x ∧ x ≤ 9223372036854775807 := by
  have h' : IntKind.i64.min ≤ x ∧ x ≤ IntKind.i64.max := by simpa [Lit.wf] using h
  exact h'
/-- From some number of rounds on it answers, and what it answers is so. -/
def Tells {α : Type} (g : Nat → Option α) (P : α → Prop) : Prop := ∃ r, P r ∧ Ev g r
theorem Tells.ev {α : Type} {g : Nat → Option α} {r : α} (h : Tells g (· = r)) : Ev g r := by
  obtain ⟨x, rfl, h⟩ := h
  exact h
theorem Tells.of {α : Type} {g : Nat → Option α} {r : α} (h : Ev g r) : Tells g (· = r) := ⟨r, rfl, h⟩
theorem Tells.rounds {α : Type} {g : Nat → Option α} {r : α} (h : Tells g (· = r)) : ∃ k, g k = some r := h.ev.rounds
theorem Tells.now {α : Type} {g : Option α} {r : α} (h : Tells (fun _ => g) (· = r)) : g = some r := by
  obtain ⟨K, h⟩ := h.ev
  exact h K (Nat.le_refl _)
theorem Tells.mono {α : Type} {g : Nat → Option α} {P Q : α → Prop} (h : Tells g P) (k : ∀ x, P x → Q x) : Tells g Q := by
  obtain ⟨x, hp, h⟩ := h
  exact ⟨x, k x hp, h⟩
theorem T_ret {α : Type} {P : α → Prop} {r : α} (h : P r) : Tells (fun _ => some r) P := ⟨r, h, Ev.now r⟩
theorem T_ite {α : Type} {c : Prop} {d : Decidable c} {f g : Nat → Option α} {P : α → Prop} (h1 : c → Tells f P) (h2 : ¬ c → Tells g P) : Tells (fun k => @ite _ c d (f k) (g k)) P := by
  by_cases h : c
  · obtain ⟨r, hp, he⟩ := h1 h
    exact ⟨r, hp, Ev.congr (fun k => if_pos h) he⟩
  · obtain ⟨r, hp, he⟩ := h2 h
    exact ⟨r, hp, Ev.congr (fun k => if_neg h) he⟩
theorem T_pos {α : Type} {c : Prop} {d : Decidable c} {f g : Nat → Option α} {P : α → Prop} (h : c) (hf : Tells f P) : Tells (fun k => @ite _ c d (f k) (g k)) P := T_ite (fun _ => hf) (fun h' => absurd h h')
theorem T_neg {α : Type} {c : Prop} {d : Decidable c} {f g : Nat → Option α} {P : α → Prop} (h : ¬ c) (hg : Tells g P) : Tells (fun k => @ite _ c d (f k) (g k)) P := T_ite (fun h' => absurd h' h) (fun _ => hg)
theorem T_bind {α β : Type} {g : Nat → Option α} {f : Nat → α → Option β} {Q : α → Prop} {P : β → Prop} (h : Tells g Q) (k : ∀ x, Q x → Tells (fun n => f n x) P) : Tells (fun n => (g n).bind (f n)) P := by
  obtain ⟨x, hq, he⟩ := h
  obtain ⟨r, hp, he'⟩ := k x hq
  exact ⟨r, hp, Ev.bind he he'⟩
theorem T_step {α : Type} {g : Nat → Option α} {P : α → Prop} (h : Tells (fun k => g (k + 1)) P) : Tells g P := by
  obtain ⟨r, hp, he⟩ := h
  exact ⟨r, hp, Ev.step (fun _ => rfl) he⟩
theorem T_eq {α : Type} {g f : Nat → Option α} {P : α → Prop} (h : ∀ k, g k = f k) (hf : Tells f P) : Tells g P := by
  obtain ⟨r, hp, he⟩ := hf
  exact ⟨r, hp, Ev.congr h he⟩
theorem T_some {α : Type} {g : Nat → Option α} {P : α → Prop} {r : α} (h : ∀ k, g k = some r) (hp : P r) : Tells g P := T_eq h (T_ret hp)
theorem T_unique {α : Type} {g : Nat → Option α} {P : α → Prop} {r : α} (h : Tells g P) (h' : Tells g (· = r)) : P r := by
  obtain ⟨x, hp, K, h⟩ := h
  obtain ⟨K', h'⟩ := h'.ev
  have a := h (max K K') (by omega)
  have b := h' (max K K') (by omega)
  rw [a] at b
  exact Option.some.inj b ▸ hp
/-- A loop with a counter, from the last round back. -/
theorem T_loop {ρ : Type} (g : Nat → Nat → Option ρ) (n : Nat) (P : Nat → ρ → Prop)
    (step : ∀ i, i < n → Tells (fun k => g k (i + 1)) (P (i + 1)) → Tells (fun k => g (k + 1) i) (P i)) (fin : Tells (fun k => g (k + 1) n) (P n)) : ∀ i, i ≤ n → Tells (fun k => g k i) (P i) := by
  have key : ∀ d i, i + d = n → Tells (fun k => g k i) (P i) := by
    intro d
    induction d with
    | zero =>
      intro i hi
      obtain rfl : i = n := by omega
      exact T_step fin
    | succ d ih =>
      intro i hi
      exact T_step (step i (by omega) (ih (i + 1) (by omega)))
  exact fun i hi => key (n - i) i (by omega)
/-- A loop whose answer does not hang on the round. -/
theorem T_loop' {ρ : Type} (g : Nat → Nat → Option ρ) (n : Nat) (P : ρ → Prop)
    (step : ∀ i, i < n → Tells (fun k => g k (i + 1)) P → Tells (fun k => g (k + 1) i) P) (fin : Tells (fun k => g (k + 1) n) P) : Tells (fun k => g k 0) P :=
  T_loop g n (fun _ => P) step fin 0 (Nat.zero_le _)
/-- What holds of all from a round on. -/
def From (C : Nat → Prop) (n i : Nat) : Prop := ∀ j, i ≤ j → j < n → C j
theorem From.cons {C : Nat → Prop} {n i : Nat} (h : C i) : From C n (i + 1) ↔ From C n i := by
  refine ⟨fun k j a b => ?_, fun k j a b => k j (by omega) b⟩
  by_cases e : j = i
  · exact e ▸ h
  · exact k j (by omega) b
theorem From.none {C : Nat → Prop} {n i : Nat} (hi : i < n) (h : ¬ C i) : ¬ From C n i := fun k => h (k i (Nat.le_refl _) hi)
theorem From.last (C : Nat → Prop) (n : Nat) : From C n n := fun j a b => absurd b (by omega)
theorem set_copy_map {α β : Type} (l : List α) (f : α → β) (z : β) (i : Nat) (h : i < l.length) (x : β) (hx : x = f l[i]) : ((l.take i).map f ++ List.replicate (l.length - i) z).set i x = (l.take (i + 1)).map f ++ List.replicate (l.length - (i + 1)) z := by
  subst hx
  have e : l.length - i = (l.length - (i + 1)) + 1 := by omega
  have hl : ((l.take i).map f).length = i := by rw [List.length_map, List.length_take]; omega
  rw [e, List.replicate_succ, List.set_append_right _ _ (by omega), hl, Nat.sub_self, List.set_cons_zero, List.take_succ_eq_append_getElem h, List.map_append]
  simp only [List.map_cons, List.map_nil, List.append_assoc, List.singleton_append]
theorem set_copy {α : Type} (l : List α) (z : α) (i : Nat) (h : i < l.length) (x : α) (hx : x = l[i]) : (l.take i ++ List.replicate (l.length - i) z).set i x = l.take (i + 1) ++ List.replicate (l.length - (i + 1)) z := by
  have := set_copy_map l id z i h x hx
  rw [List.map_id, List.map_id] at this
  exact this
theorem rd_nat (xs : List Int) (i : Nat) (h : i < xs.length) : rd xs (i : Int) = xs[i] := by simp [rd, List.getD_eq_getElem?_getD, h]
theorem rdOf_nat {α : Type} (d : α) (xs : List α) (i : Nat) (h : i < xs.length) : rdOf d xs (i : Int) = xs[i] := by simp [rdOf, List.getD_eq_getElem?_getD, h]
/-- a where c is so, else b. -/
def Either {ρ : Type} (c : Prop) (a b r : ρ) : Prop := (c ∧ r = a) ∨ (¬ c ∧ r = b)
theorem Either.same {ρ : Type} {c c' : Prop} {a b r s : ρ} (h : Either c a b r) (h' : Either c' a b s) (e : c ↔ c') : r = s := by
  rcases h with ⟨h, rfl⟩ | ⟨h, rfl⟩ <;> rcases h' with ⟨h', rfl⟩ | ⟨h', rfl⟩
  · rfl
  · exact absurd (e.1 h) h'
  · exact absurd (e.2 h') h
  · rfl
/-- A loop that checks each place. -/
theorem T_all {ρ : Type} (g : Nat → Nat → Option ρ) (n : Nat) (C : Nat → Prop) (bad fin : ρ)
    (step : ∀ i, i < n → C i → ∀ P : ρ → Prop, Tells (fun k => g k (i + 1)) P → Tells (fun k => g (k + 1) i) P) (out : ∀ i, i < n → ¬ C i → Tells (fun k => g (k + 1) i) (· = bad)) (hf : Tells (fun k => g (k + 1) n) (· = fin)) :
    Tells (fun k => g k 0) (Either (From C n 0) fin bad) := by
  refine T_loop g n (fun i => Either (From C n i) fin bad) (fun i hi he => ?_) (hf.mono fun r hr => .inl ⟨From.last C n, hr⟩) 0 (Nat.zero_le _)
  by_cases hc : C i
  · refine (step i hi hc _ he).mono fun r hr => ?_
    unfold Either at hr ⊢
    rw [From.cons hc] at hr
    exact hr
  · exact (out i hi hc).mono fun r hr => .inr ⟨From.none hi hc, hr⟩
/-- A loop that looks for the first place. -/
theorem T_find {ρ : Type} (g : Nat → Nat → Option ρ) (n : Nat) (C : Nat → Prop) (got : Nat → ρ) (fin : ρ)
    (step : ∀ i, i < n → ¬ C i → ∀ P : ρ → Prop, Tells (fun k => g k (i + 1)) P → Tells (fun k => g (k + 1) i) P) (out : ∀ i, i < n → C i → Tells (fun k => g (k + 1) i) (· = got i)) (hf : Tells (fun k => g (k + 1) n) (· = fin)) :
    Tells (fun k => g k 0) (fun r => (∃ j, j < n ∧ C j ∧ (∀ m, m < j → ¬ C m) ∧ r = got j) ∨ ((∀ j, j < n → ¬ C j) ∧ r = fin)) := by
  refine (T_loop g n (fun i r => (∃ j, i ≤ j ∧ j < n ∧ C j ∧ (∀ m, i ≤ m → m < j → ¬ C m) ∧ r = got j) ∨ ((∀ j, i ≤ j → j < n → ¬ C j) ∧ r = fin)) (fun i hi he => ?_)
    (hf.mono fun r hr => .inr ⟨fun j a b => absurd b (by omega), hr⟩) 0 (Nat.zero_le _)).mono fun r hr => ?_
  · by_cases hc : C i
    · exact (out i hi hc).mono fun r hr => .inl ⟨i, Nat.le_refl _, hi, hc, fun m a b => absurd b (by omega), hr⟩
    · refine (step i hi hc _ he).mono fun r hr => ?_
      rcases hr with ⟨j, a, b, c, d, e⟩ | ⟨a, b⟩
      · refine .inl ⟨j, by omega, b, c, fun m h1 h2 => ?_, e⟩
        by_cases hm : m = i
        · exact hm ▸ hc
        · exact d m (by omega) h2
      · refine .inr ⟨fun j h1 h2 => ?_, b⟩
        by_cases hm : j = i
        · exact hm ▸ hc
        · exact a j (by omega) h2
  · rcases hr with ⟨j, _, b, c, d, e⟩ | ⟨a, b⟩
    · exact .inl ⟨j, b, c, fun m hm => d m (Nat.zero_le _) hm, e⟩
    · exact .inr ⟨fun j hj => a j (Nat.zero_le _) hj, b⟩
theorem ba_ext {a b : ByteArray} (h : a.toList = b.toList) : a = b := by
  rw [ByteArray.toList_eq, ByteArray.toList_eq] at h
  cases a; cases b
  simpa using h
/-- The same of a test. -/
theorem T_allb (g : Nat → Nat → Option Bool) (n : Nat) (C : Nat → Prop) (F : Prop)
    (step : ∀ i, i < n → C i → ∀ P : Bool → Prop, Tells (fun k => g k (i + 1)) P → Tells (fun k => g (k + 1) i) P) (out : ∀ i, i < n → ¬ C i → Tells (fun k => g (k + 1) i) (· = false)) (hf : Tells (fun k => g (k + 1) n) (fun r => r = true ↔ F)) :
    Tells (fun k => g k 0) (fun r => r = true ↔ (∀ j, j < n → C j) ∧ F) := by
  refine (T_loop g n (fun i r => r = true ↔ From C n i ∧ F) (fun i hi he => ?_) (hf.mono fun r hr => hr.trans ⟨fun h => ⟨From.last C n, h⟩, fun h => h.2⟩) 0 (Nat.zero_le _)).mono fun r hr => by
      rw [hr]
      exact ⟨fun h => ⟨fun j hj => h.1 j (Nat.zero_le _) hj, h.2⟩, fun h => ⟨fun j _ hj => h.1 j hj, h.2⟩⟩
  by_cases hc : C i
  · refine (step i hi hc _ he).mono fun r hr => ?_
    rw [hr, From.cons hc]
  · exact (out i hi hc).mono fun r hr => by
      rw [hr]
      exact ⟨fun h => absurd h Bool.false_ne_true, fun h => absurd h.1 (From.none hi hc)⟩
theorem same_bool {c : Prop} {r s : Bool} (h : r = true ↔ c) (k : s = true ↔ c) : s = r := Bool.eq_iff_iff.2 (k.trans h.symm)
theorem mem_drop_iff {α : Type} {l : List α} {i : Nat} (h : i < l.length) (a : α) : a ∈ l.drop i ↔ a = l[i] ∨ a ∈ l.drop (i + 1) := by
  rw [List.drop_eq_getElem_cons h, List.mem_cons]
theorem drop_eq_iff {α : Type} {a b : List α} {i : Nat} (ha : i < a.length) (hb : i < b.length) : a.drop i = b.drop i ↔ a[i] = b[i] ∧ a.drop (i + 1) = b.drop (i + 1) := by
  rw [List.drop_eq_getElem_cons ha, List.drop_eq_getElem_cons hb, List.cons.injEq]
def WayC (s : ByteArray) (j : Nat) : Prop := (97 ≤ bt s j ∧ bt s j ≤ 122) ∨ (48 ≤ bt s j ∧ bt s j ≤ 57)
def WayP (s : ByteArray) : Prop := (∀ j, j < s.size → WayC s j) ∧ 1 ≤ s.size ∧ s.size ≤ 8
def OptP (size : Int) (ways : List ByteArray) : Prop := (∀ j, j < ways.length → WayP (rdOf ByteArray.empty ways j) ∧ rdOf ByteArray.empty ways j ∉ ways.take j) ∧ (20 ≤ size ∧ size ≤ 60) ∧ 1 ≤ ways.length ∧ ways.length ≤ 4
theorem bt_rng (s : ByteArray) (i : Int) : 0 ≤ bt s i ∧ bt s i ≤ 255 := by
  unfold bt
  split
  · have := (s[i.toNat]).toNat_lt
    omega
  · omega

/-! laws_szStringS -/
theorem laws_szStringS.ev (l : List ByteArray) (a : Int) (h0 : 0 ≤ a) (h1 : a ≤ 1048576) (hl : l.length ≤ maxLen) (hs : ∀ x ∈ l, x.size ≤ 140737488351232) : Tells (fun k => laws_szStringS.f k l a) (fun v => v = -1 ∨ (0 ≤ v ∧ v ≤ a ∧ v + l.length ≤ a ∧ ∀ x ∈ l, v + x.size ≤ a)) := by
  unfold maxLen at hl
  have key : ∀ d i (v : Int), i + d = l.length → 0 ≤ v → v ≤ 1048576 → Tells (fun k => laws_szStringS.l0 k l v (i : Int)) (fun u => u = -1 ∨ (0 ≤ u ∧ u ≤ v ∧ ∀ x ∈ l.drop i, u + x.size ≤ v)) := by
    intro d
    induction d with
    | zero =>
      intro i v hi hv hv1
      refine T_step ?_
      simp only [laws_szStringS.l0]
      refine T_neg (by omega) (T_ret (.inr ⟨hv, by omega, ?_⟩))
      rw [List.drop_of_length_le (by omega)]
      simp
    | succ d ih =>
      intro i v hi hv hv1
      refine T_step ?_
      have hlt : i < l.length := by omega
      have hx : (l[i]).size ≤ 140737488351232 := hs _ (List.getElem_mem hlt)
      simp only [laws_szStringS.l0, rdOf_nat _ l i hlt]
      rw [wsucc hlt (by omega), w64 (x := v - ((l[i]).size : Int)) (by omega) (by omega)]
      refine T_pos (by omega) (T_pos (by omega) (T_ite (fun _ => T_ret (.inl rfl)) (fun h => ?_)))
      refine (ih (i + 1) (v - ((l[i]).size : Int)) (by omega) (by omega) (by omega)).mono fun u hu => ?_
      rcases hu with hu | ⟨hu0, hu1, hu2⟩
      · exact .inl hu
      · refine .inr ⟨hu0, by omega, fun x hx => ?_⟩
        rw [List.drop_eq_getElem_cons hlt] at hx
        rcases List.mem_cons.1 hx with rfl | hx
        · omega
        · have := hu2 x hx
          omega
  unfold laws_szStringS.f
  rw [w64 (x := a - (l.length : Int)) (by omega) (by omega)]
  refine T_ite (fun _ => T_ret (.inl rfl)) (fun h => ?_)
  refine (key l.length 0 (a - (l.length : Int)) (by omega) (by omega) (by omega)).mono fun u hu => ?_
  rcases hu with hu | ⟨hu0, hu1, hu2⟩
  · exact .inl hu
  · refine .inr ⟨hu0, by omega, by omega, fun x hx => ?_⟩
    have := hu2 x (by simpa using hx)
    omega

/-! laws_szOptions -/
theorem laws_szOptions.ev (x0 : Int) (x1 : List (ByteArray)) (x2 : Bool) (a : Int) (h0 : 0 ≤ a) (h1 : a ≤ 1048576) (hx1 : x1.length ≤ maxLen) (hx1e : ∀ y ∈ x1, y.size ≤ 140737488351232) : Tells (fun k => laws_szOptions.f k x0 x1 x2 a) (fun v => v = -1 ∨ (0 ≤ v ∧ v ≤ a ∧ v + x1.length ≤ a ∧ ∀ y ∈ x1, v + y.size ≤ a)) := by
  unfold laws_szOptions.f
  refine T_bind (laws_szStringS.ev x1 a (by omega) (by omega) hx1 hx1e) fun v0 w0 => T_ite (fun _ => T_ret (.inl rfl)) (fun g0 => ?_)
  obtain ⟨p0_0, p0_1, p0_2, p0_3⟩ := w0.resolve_left (by omega)
  exact T_ret (.inr ⟨by omega, by omega, by omega, fun y hy => by first | omega | (have z := p0_3 y hy; omega) | (have z := p0_3 y hy; (repeat constructor) <;> omega)⟩)

/-! spec_l01In -/
theorem spec_l01In.eq (a b c : Int) : spec_l01In.f a b c = some (decide (b ≤ a ∧ a ≤ c)) := by
  unfold spec_l01In.f
  by_cases h : b ≤ a <;> simp [h]

/-! spec_l15Way -/
theorem spec_l15Way.ev (s : ByteArray) (hn : s.size ≤ 1048576) : Tells (fun k => spec_l15Way.f k s) (fun r => r = true ↔ WayP s) := by
  refine T_allb (fun k i => spec_l15Way.l0 k s (i : Int)) s.size (WayC s) _ (fun i hi hc P he => ?_) (fun i hi hc => ?_) ?_
  · simp only [spec_l15Way.l0]
    rw [wsucc hi (by omega)]
    unfold WayC at hc
    refine T_pos (by omega) (T_pos (by omega) (T_ite (fun h1 => T_neg (by omega) (T_neg (by omega) he)) (fun h1 => T_ite (fun h2 => T_neg (by omega) (T_neg (by omega) he)) (fun h2 => he))))
  · simp only [spec_l15Way.l0]
    rw [wsucc hi (by omega)]
    unfold WayC at hc
    refine T_pos (by omega) (T_pos (by omega) (T_ite (fun h1 => T_ite (fun h2 => T_ret rfl) (fun h2 => T_pos (by omega) (T_ret rfl))) (fun h1 => T_pos (by omega) (T_ite (fun h2 => T_ret rfl) (fun h2 => T_pos (by omega) (T_ret rfl))))))
  · simp only [spec_l15Way.l0, spec_l01In.eq, Option.bind_some]
    exact T_neg (by omega) (T_ret (by simp; omega))

/-! spec_l15Has -/
theorem spec_l15Has.ev (l : List ByteArray) (a : ByteArray) (hn : l.length ≤ 1048576) : Tells (fun k => spec_l15Has.f k l a) (fun r => r = true ↔ a ∈ l) := by
  unfold spec_l15Has.f
  refine (T_loop (fun k i => spec_l15Has.l0 k l a (i : Int)) l.length (fun i r => r = true ↔ a ∈ l.drop i) (fun i hi he => ?_) ?_ 0 (Nat.zero_le _)).mono fun r hr => by simpa using hr
  · simp only [spec_l15Has.l0]
    rw [wsucc hi (by omega), rdOf_nat _ l i hi]
    simp only [mem_drop_iff hi]
    refine T_pos (by omega) (T_pos (by omega) (T_ite (fun h => T_ret (by simp [ba_ext h])) (fun h => he.mono fun r hr => ?_)))
    have hne : ¬ a = l[i] := fun e => h (by rw [e])
    simp [hr, hne]
  · simp only [spec_l15Has.l0]
    exact T_neg (by omega) (T_ret (by simp))

/-! spec_OptionsOk -/
theorem spec_OptionsOk.ev (size : Int) (ways : List ByteArray) (p : Bool) (hn : ways.length ≤ 1048576) (hw : ∀ y ∈ ways, y.size ≤ 1048576) : Tells (fun k => spec_OptionsOk.f k size ways p) (fun r => r = true ↔ OptP size ways) := by
  unfold spec_OptionsOk.f
  refine T_allb (fun k i => spec_OptionsOk.l0 k (i : Int) size ways p) ways.length _ _ (fun i hi hc P he => ?_) (fun i hi hc => ?_) ?_
  · simp only [spec_OptionsOk.l0]
    rw [wsucc hi (by omega), Int.toNat_natCast]
    refine T_pos (by omega) (T_pos (by omega) (T_bind (spec_l15Way.ev _ (by rw [rdOf_nat _ ways i hi]; exact hw _ (List.getElem_mem hi))) fun q hq => T_pos (hq.2 hc.1) (T_pos (by omega) (T_bind (spec_l15Has.ev _ _ (by simp; omega)) fun r hr => T_neg (fun h => hc.2 (hr.1 h)) he))))
  · simp only [spec_OptionsOk.l0]
    rw [wsucc hi (by omega), Int.toNat_natCast]
    refine T_pos (by omega) (T_pos (by omega) (T_bind (spec_l15Way.ev _ (by rw [rdOf_nat _ ways i hi]; exact hw _ (List.getElem_mem hi))) fun q hq => T_ite (fun h1 => T_pos (by omega) (T_bind (spec_l15Has.ev _ _ (by simp; omega)) fun r hr => T_ite (fun _ => T_ret rfl) (fun h2 => absurd ⟨hq.1 h1, fun h => h2 (hr.2 h)⟩ hc))) (fun _ => T_ret rfl)))
  · simp only [spec_OptionsOk.l0, spec_l01In.eq, Option.bind_some, decide_eq_true_eq]
    exact T_neg (by omega) (T_ite (fun h => T_ret (by simp; omega)) (fun h => T_ret (by simp [h])))

/-! laws_toStringS -/
theorem laws_toStringS.ev (l : List ByteArray) (hn : l.length ≤ 1048576) : Tells (fun k => laws_toStringS.f k l) (· = l) := by
  have h := T_loop' (fun k i => laws_toStringS.l0 k l (l.take i ++ List.replicate (l.length - i) (⟨#[]⟩ : ByteArray)) (i : Int)) l.length (· = l) (fun i hi he => by
    simp only [laws_toStringS.l0]
    refine T_pos (by omega) (T_pos (by omega) (T_pos (by simp; omega) ?_))
    rw [Int.toNat_natCast, set_copy l _ i hi _ (rdOf_nat _ l i hi), wsucc hi (by omega)]
    exact he) (by
    simp only [laws_toStringS.l0]
    exact T_neg (by omega) (T_ret (by simp)))
  unfold laws_toStringS.f
  refine T_pos (by omega) (T_pos (by omega) ?_)
  simpa using h

/-! laws_toOptions -/
theorem laws_toOptions.ev (x0 : Int) (x1 : List (ByteArray)) (x2 : Bool) (hx1 : x1.length ≤ 1048576) : Tells (fun k => laws_toOptions.f k x0 x1 x2) (· = (x0, x1, x2)) := by
  unfold laws_toOptions.f
  refine T_bind (laws_toStringS.ev x1 hx1) ?_
  rintro _ rfl
  exact T_ret rfl

/-! impl_within -/
theorem impl_within.eq (a b c : Int) : impl_within.f a b c = some (decide (b ≤ a ∧ a ≤ c)) := by
  unfold impl_within.f
  by_cases h : b ≤ a <;> simp [h]

/-! impl_wayOk -/
theorem impl_wayOk.ev (s : ByteArray) (hn : s.size ≤ 1048576) : Tells (fun k => impl_wayOk.f k s) (fun r => r = true ↔ WayP s) := by
  refine T_allb (fun k i => impl_wayOk.l0 k s (i : Int)) s.size (WayC s) _ (fun i hi hc P he => ?_) (fun i hi hc => ?_) ?_
  · simp only [impl_wayOk.l0, impl_within.eq, Option.bind_some, decide_eq_true_eq]
    have hb := bt_rng s i
    rw [wsucc hi (by omega), w64 (x := bt s i) (by omega) (by omega)]
    unfold WayC at hc
    refine T_pos (by omega) (T_pos (by omega) (T_ite (fun h1 => he) (fun h1 => T_pos (by omega) he)))
  · simp only [impl_wayOk.l0, impl_within.eq, Option.bind_some, decide_eq_true_eq]
    have hb := bt_rng s i
    rw [wsucc hi (by omega), w64 (x := bt s i) (by omega) (by omega)]
    unfold WayC at hc
    refine T_pos (by omega) (T_pos (by omega) (T_neg (by omega) (T_neg (by omega) (T_ret rfl))))
  · simp only [impl_wayOk.l0, impl_within.eq, Option.bind_some]
    exact T_neg (by omega) (T_ret (by simp; omega))

/-! slices_Index_string_string -/
theorem slices_Index_string_string.ev (l : List ByteArray) (a : ByteArray) (hn : l.length ≤ 1048576) : Tells (fun k => slices_Index_string_string.f k l a) (fun r => 0 ≤ r ↔ a ∈ l) := by
  unfold slices_Index_string_string.f
  refine (T_loop (fun k i => slices_Index_string_string.l0 k l a (l.length : Int) (i : Int)) l.length (fun i r => 0 ≤ r ↔ a ∈ l.drop i) (fun i hi he => ?_) ?_ 0 (Nat.zero_le _)).mono fun r hr => by simpa using hr
  · simp only [slices_Index_string_string.l0]
    rw [wsucc hi (by omega), rdOf_nat _ l i hi]
    simp only [mem_drop_iff hi]
    refine T_pos (by omega) (T_pos (by omega) (T_pos (by omega) (T_ite (fun h => T_ret (by simp [ba_ext h])) (fun h => he.mono fun r hr => ?_))))
    have hne : ¬ a = l[i] := fun e => h (by rw [e])
    simp [hr, hne]
  · simp only [slices_Index_string_string.l0]
    exact T_neg (by omega) (T_ret (by simp))

/-! slices_Contains_string_string -/
theorem slices_Contains_string_string.ev (l : List ByteArray) (a : ByteArray) (hn : l.length ≤ 1048576) : Tells (fun k => slices_Contains_string_string.f k l a) (fun r => r = true ↔ a ∈ l) := by
  unfold slices_Contains_string_string.f
  exact T_bind (slices_Index_string_string.ev l a hn) fun r hr => T_ret (by simp [hr])

/-! impl_OptionsOk -/
theorem impl_OptionsOk.ev (size : Int) (ways : List ByteArray) (p : Bool) (hn : ways.length ≤ 1048576) (hw : ∀ y ∈ ways, y.size ≤ 1048576) : Tells (fun k => impl_OptionsOk.f k size ways p) (fun r => r = true ↔ OptP size ways) := by
  unfold impl_OptionsOk.f
  refine T_allb (fun k i => impl_OptionsOk.l0 k ways (ways.length : Int) (i : Int) size ways p) ways.length _ _ (fun i hi hc P he => ?_) (fun i hi hc => ?_) ?_
  · simp only [impl_OptionsOk.l0]
    rw [wsucc hi (by omega), Int.toNat_natCast]
    refine T_pos (by omega) (T_pos (by omega) (T_pos (by omega) (T_bind (impl_wayOk.ev _ (by rw [rdOf_nat _ ways i hi]; exact hw _ (List.getElem_mem hi))) fun q hq => T_pos (hq.2 hc.1) (T_pos (by omega) (T_bind (slices_Contains_string_string.ev _ _ (by simp; omega)) fun r hr => T_neg (fun h => hc.2 (hr.1 h)) he)))))
  · simp only [impl_OptionsOk.l0]
    rw [wsucc hi (by omega), Int.toNat_natCast]
    refine T_pos (by omega) (T_pos (by omega) (T_pos (by omega) (T_bind (impl_wayOk.ev _ (by rw [rdOf_nat _ ways i hi]; exact hw _ (List.getElem_mem hi))) fun q hq => T_ite (fun h1 => T_pos (by omega) (T_bind (slices_Contains_string_string.ev _ _ (by simp; omega)) fun r hr => T_ite (fun _ => T_ret rfl) (fun h2 => absurd ⟨hq.1 h1, fun h => h2 (hr.2 h)⟩ hc))) (fun _ => T_ret rfl))))
  · simp only [impl_OptionsOk.l0, impl_within.eq, Option.bind_some, decide_eq_true_eq]
    exact T_neg (by omega) (T_ite (fun h => T_ret (by simp; omega)) (fun h => T_ret (by simp [h])))

/-! laws_eqStringS -/
theorem laws_eqStringS.ev (l : List ByteArray) (hn : l.length ≤ 1048576) : Tells (fun k => laws_eqStringS.f k l l) (· = true) := by
  unfold laws_eqStringS.f
  refine T_pos rfl (T_loop' (fun k i => laws_eqStringS.l0 k l l (i : Int)) l.length (· = true) (fun i hi he => ?_) ?_)
  · simp only [laws_eqStringS.l0]
    rw [wsucc hi (by omega)]
    exact T_pos (by omega) (T_pos (by omega) (T_pos (by omega) (T_pos (by simp) he)))
  · simp only [laws_eqStringS.l0]
    exact T_neg (by omega) (T_ret rfl)

/-! laws_eqOptions -/
theorem laws_eqOptions.ev (x0 : Int) (x1 : List (ByteArray)) (x2 : Bool) (hx1 : x1.length ≤ 1048576) : Tells (fun k => laws_eqOptions.f k x0 x1 x2 x0 x1 x2) (· = true) := by
  unfold laws_eqOptions.f
  refine T_pos rfl ?_
  refine T_bind (laws_eqStringS.ev x1 hx1) ?_
  rintro _ rfl
  refine T_pos rfl ?_
  refine T_neg (by simp) ?_
  exact T_ret rfl

theorem FnExactOptionsOk : laws_FnExactOptionsOk.Goal := by
  rintro size ways p _ ⟨hl, _, hs⟩ _
  refine Tells.rounds ?_
  unfold laws_FnExactOptionsOk.f
  refine T_bind (laws_szOptions.ev size ways p 1048576 (by omega) (by omega) hl hs) fun v hv => T_ite (fun _ => T_ret rfl) (fun h => ?_)
  obtain ⟨p0, p1, p2, p3⟩ := hv.resolve_left (by omega)
  have hn : ways.length ≤ 1048576 := by omega
  have hw : ∀ y ∈ ways, y.size ≤ 1048576 := fun y hy => by have := p3 y hy; omega
  refine T_bind (laws_toOptions.ev size ways p hn) ?_
  rintro _ rfl
  refine T_bind (spec_OptionsOk.ev size ways p hn hw) fun r1 hr1 => ?_
  refine T_bind (laws_toOptions.ev size ways p hn) ?_
  rintro _ rfl
  refine T_bind (impl_OptionsOk.ev size ways p hn hw) fun r2 hr2 => ?_
  obtain rfl := same_bool hr1 hr2
  refine T_neg (by simp) ?_
  refine T_bind (laws_toOptions.ev size ways p hn) ?_
  rintro _ rfl
  refine T_bind (laws_eqOptions.ev size ways p hn) ?_
  rintro _ rfl
  exact T_pos rfl (T_ret rfl)

end Go.Proofs.Ytlgcekphoamcnaa.Pure
