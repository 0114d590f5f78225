/- FnLongest: the pure statement, proved: for every input of the law its printed function answers true. No condition. -/
import Derived.Test.YtbddppnhpapfkaaGoalFnLongest
namespace Go.Proofs.Ytbddppnhpapfkaa.Pure
open Go.RowKit Go.Proofs.Ytbddppnhpapfkaa.PFnLongest Go.Proofs.YtbddppnhpapfkaaW.PrintWords Go.Proofs.YtbddppnhpapfkaaW.PrintLast Go.Proofs.YtbddppnhpapfkaaW.PrintMore
set_option linter.unusedVariables false
set_option linter.unusedSimpArgs false
theorem w64 {x : Int} (h0 : -9223372036854775808 ≤ x) (h1 : x ≤ 9223372036854775807) : wrap64 x = x := by unfold wrap64; omega
theorem wsucc {i n : Nat} (h : i < n) (hn : n ≤ 9223372036854775807) : wrap64 ((i : Int) + 1) = ((i + 1 : Nat) : Int) := by unfold wrap64; omega
theorem wf64 {x : Int} (h : (Lit.int .i64 x).wf = true) : -9223372036854775808 ≤ x ∧ x ≤ 9223372036854775807 := by
  have h' : IntKind.i64.min ≤ x ∧ x ≤ IntKind.i64.max := by simpa [Lit.wf] using h
  exact h'
/-- From some number of rounds on it answers, and what it answers is so. -/
def Tells {α : Type} (g : Nat → Option α) (P : α → Prop) : Prop := ∃ r, P r ∧ Ev g r
theorem Tells.ev {α : Type} {g : Nat → Option α} {r : α} (h : Tells g (· = r)) : Ev g r := by
  obtain ⟨x, rfl, h⟩ := h
  exact h
theorem Tells.of {α : Type} {g : Nat → Option α} {r : α} (h : Ev g r) : Tells g (· = r) := ⟨r, rfl, h⟩
theorem Tells.rounds {α : Type} {g : Nat → Option α} {r : α} (h : Tells g (· = r)) : ∃ k, g k = some r := h.ev.rounds
theorem Tells.now {α : Type} {g : Option α} {r : α} (h : Tells (fun _ => g) (· = r)) : g = some r := by
  obtain ⟨K, h⟩ := h.ev
  exact h K (Nat.le_refl _)
theorem Tells.mono {α : Type} {g : Nat → Option α} {P Q : α → Prop} (h : Tells g P) (k : ∀ x, P x → Q x) : Tells g Q := by
  obtain ⟨x, hp, h⟩ := h
  exact ⟨x, k x hp, h⟩
theorem T_ret {α : Type} {P : α → Prop} {r : α} (h : P r) : Tells (fun _ => some r) P := ⟨r, h, Ev.now r⟩
theorem T_ite {α : Type} {c : Prop} {d : Decidable c} {f g : Nat → Option α} {P : α → Prop} (h1 : c → Tells f P) (h2 : ¬ c → Tells g P) : Tells (fun k => @ite _ c d (f k) (g k)) P := by
  by_cases h : c
  · obtain ⟨r, hp, he⟩ := h1 h
    exact ⟨r, hp, Ev.congr (fun k => if_pos h) he⟩
  · obtain ⟨r, hp, he⟩ := h2 h
    exact ⟨r, hp, Ev.congr (fun k => if_neg h) he⟩
theorem T_pos {α : Type} {c : Prop} {d : Decidable c} {f g : Nat → Option α} {P : α → Prop} (h : c) (hf : Tells f P) : Tells (fun k => @ite _ c d (f k) (g k)) P := T_ite (fun _ => hf) (fun h' => absurd h h')
theorem T_neg {α : Type} {c : Prop} {d : Decidable c} {f g : Nat → Option α} {P : α → Prop} (h : ¬ c) (hg : Tells g P) : Tells (fun k => @ite _ c d (f k) (g k)) P := T_ite (fun h' => absurd h' h) (fun _ => hg)
theorem T_bind {α β : Type} {g : Nat → Option α} {f : Nat → α → Option β} {Q : α → Prop} {P : β → Prop} (h : Tells g Q) (k : ∀ x, Q x → Tells (fun n => f n x) P) : Tells (fun n => (g n).bind (f n)) P := by
  obtain ⟨x, hq, he⟩ := h
  obtain ⟨r, hp, he'⟩ := k x hq
  exact ⟨r, hp, Ev.bind he he'⟩
theorem T_step {α : Type} {g : Nat → Option α} {P : α → Prop} (h : Tells (fun k => g (k + 1)) P) : Tells g P := by
  obtain ⟨r, hp, he⟩ := h
  exact ⟨r, hp, Ev.step (fun _ => rfl) he⟩
theorem T_eq {α : Type} {g f : Nat → Option α} {P : α → Prop} (h : ∀ k, g k = f k) (hf : Tells f P) : Tells g P := by
  obtain ⟨r, hp, he⟩ := hf
  exact ⟨r, hp, Ev.congr h he⟩
theorem T_some {α : Type} {g : Nat → Option α} {P : α → Prop} {r : α} (h : ∀ k, g k = some r) (hp : P r) : Tells g P := T_eq h (T_ret hp)
theorem T_unique {α : Type} {g : Nat → Option α} {P : α → Prop} {r : α} (h : Tells g P) (h' : Tells g (· = r)) : P r := by
  obtain ⟨x, hp, K, h⟩ := h
  obtain ⟨K', h'⟩ := h'.ev
  have a := h (max K K') (by omega)
  have b := h' (max K K') (by omega)
  rw [a] at b
  exact Option.some.inj b ▸ hp
/-- A loop with a counter, from the last round back. -/
theorem T_loop {ρ : Type} (g : Nat → Nat → Option ρ) (n : Nat) (P : Nat → ρ → Prop)
    (step : ∀ i, i < n → Tells (fun k => g k (i + 1)) (P (i + 1)) → Tells (fun k => g (k + 1) i) (P i)) (fin : Tells (fun k => g (k + 1) n) (P n)) : ∀ i, i ≤ n → Tells (fun k => g k i) (P i) := by
  have key : ∀ d i, i + d = n → Tells (fun k => g k i) (P i) := by
    intro d
    induction d with
    | zero =>
      intro i hi
      obtain rfl : i = n := by omega
      exact T_step fin
    | succ d ih =>
      intro i hi
      exact T_step (step i (by omega) (ih (i + 1) (by omega)))
  exact fun i hi => key (n - i) i (by omega)
/-- A loop whose answer does not hang on the round. -/
theorem T_loop' {ρ : Type} (g : Nat → Nat → Option ρ) (n : Nat) (P : ρ → Prop)
    (step : ∀ i, i < n → Tells (fun k => g k (i + 1)) P → Tells (fun k => g (k + 1) i) P) (fin : Tells (fun k => g (k + 1) n) P) : Tells (fun k => g k 0) P :=
  T_loop g n (fun _ => P) step fin 0 (Nat.zero_le _)
/-- What holds of all from a round on. -/
def From (C : Nat → Prop) (n i : Nat) : Prop := ∀ j, i ≤ j → j < n → C j
theorem From.cons {C : Nat → Prop} {n i : Nat} (h : C i) : From C n (i + 1) ↔ From C n i := by
  refine ⟨fun k j a b => ?_, fun k j a b => k j (by omega) b⟩
  by_cases e : j = i
  · exact e ▸ h
  · exact k j (by omega) b
theorem From.none {C : Nat → Prop} {n i : Nat} (hi : i < n) (h : ¬ C i) : ¬ From C n i := fun k => h (k i (Nat.le_refl _) hi)
theorem From.last (C : Nat → Prop) (n : Nat) : From C n n := fun j a b => absurd b (by omega)
theorem set_copy_map {α β : Type} (l : List α) (f : α → β) (z : β) (i : Nat) (h : i < l.length) (x : β) (hx : x = f l[i]) : ((l.take i).map f ++ List.replicate (l.length - i) z).set i x = (l.take (i + 1)).map f ++ List.replicate (l.length - (i + 1)) z := by
  subst hx
  have e : l.length - i = (l.length - (i + 1)) + 1 := by omega
  have hl : ((l.take i).map f).length = i := by rw [List.length_map, List.length_take]; omega
  rw [e, List.replicate_succ, List.set_append_right _ _ (by omega), hl, Nat.sub_self, List.set_cons_zero, List.take_succ_eq_append_getElem h, List.map_append]
  simp only [List.map_cons, List.map_nil, List.append_assoc, List.singleton_append]
theorem set_copy {α : Type} (l : List α) (z : α) (i : Nat) (h : i < l.length) (x : α) (hx : x = l[i]) : (l.take i ++ List.replicate (l.length - i) z).set i x = l.take (i + 1) ++ List.replicate (l.length - (i + 1)) z := by
  have := set_copy_map l id z i h x hx
  rw [List.map_id, List.map_id] at this
  exact this
theorem rd_nat (xs : List Int) (i : Nat) (h : i < xs.length) : rd xs (i : Int) = xs[i] := by simp [rd, List.getD_eq_getElem?_getD, h]
theorem rdOf_nat {α : Type} (d : α) (xs : List α) (i : Nat) (h : i < xs.length) : rdOf d xs (i : Int) = xs[i] := by simp [rdOf, List.getD_eq_getElem?_getD, h]
/-- a where c is so, else b. -/
def Either {ρ : Type} (c : Prop) (a b r : ρ) : Prop := (c ∧ r = a) ∨ (¬ c ∧ r = b)
theorem Either.same {ρ : Type} {c c' : Prop} {a b r s : ρ} (h : Either c a b r) (h' : Either c' a b s) (e : c ↔ c') : r = s := by
  rcases h with ⟨h, rfl⟩ | ⟨h, rfl⟩ <;> rcases h' with ⟨h', rfl⟩ | ⟨h', rfl⟩
  · rfl
  · exact absurd (e.1 h) h'
  · exact absurd (e.2 h') h
  · rfl
/-- A loop that checks each place. -/
theorem T_all {ρ : Type} (g : Nat → Nat → Option ρ) (n : Nat) (C : Nat → Prop) (bad fin : ρ)
    (step : ∀ i, i < n → C i → ∀ P : ρ → Prop, Tells (fun k => g k (i + 1)) P → Tells (fun k => g (k + 1) i) P) (out : ∀ i, i < n → ¬ C i → Tells (fun k => g (k + 1) i) (· = bad)) (hf : Tells (fun k => g (k + 1) n) (· = fin)) :
    Tells (fun k => g k 0) (Either (From C n 0) fin bad) := by
  refine T_loop g n (fun i => Either (From C n i) fin bad) (fun i hi he => ?_) (hf.mono fun r hr => .inl ⟨From.last C n, hr⟩) 0 (Nat.zero_le _)
  by_cases hc : C i
  · refine (step i hi hc _ he).mono fun r hr => ?_
    unfold Either at hr ⊢
    rw [From.cons hc] at hr
    exact hr
  · exact (out i hi hc).mono fun r hr => .inr ⟨From.none hi hc, hr⟩
/-- A loop that looks for the first place. -/
theorem T_find {ρ : Type} (g : Nat → Nat → Option ρ) (n : Nat) (C : Nat → Prop) (got : Nat → ρ) (fin : ρ)
    (step : ∀ i, i < n → ¬ C i → ∀ P : ρ → Prop, Tells (fun k => g k (i + 1)) P → Tells (fun k => g (k + 1) i) P) (out : ∀ i, i < n → C i → Tells (fun k => g (k + 1) i) (· = got i)) (hf : Tells (fun k => g (k + 1) n) (· = fin)) :
    Tells (fun k => g k 0) (fun r => (∃ j, j < n ∧ C j ∧ (∀ m, m < j → ¬ C m) ∧ r = got j) ∨ ((∀ j, j < n → ¬ C j) ∧ r = fin)) := by
  refine (T_loop g n (fun i r => (∃ j, i ≤ j ∧ j < n ∧ C j ∧ (∀ m, i ≤ m → m < j → ¬ C m) ∧ r = got j) ∨ ((∀ j, i ≤ j → j < n → ¬ C j) ∧ r = fin)) (fun i hi he => ?_)
    (hf.mono fun r hr => .inr ⟨fun j a b => absurd b (by omega), hr⟩) 0 (Nat.zero_le _)).mono fun r hr => ?_
  · by_cases hc : C i
    · exact (out i hi hc).mono fun r hr => .inl ⟨i, Nat.le_refl _, hi, hc, fun m a b => absurd b (by omega), hr⟩
    · refine (step i hi hc _ he).mono fun r hr => ?_
      rcases hr with ⟨j, a, b, c, d, e⟩ | ⟨a, b⟩
      · refine .inl ⟨j, by omega, b, c, fun m h1 h2 => ?_, e⟩
        by_cases hm : m = i
        · exact hm ▸ hc
        · exact d m (by omega) h2
      · refine .inr ⟨fun j h1 h2 => ?_, b⟩
        by_cases hm : j = i
        · exact hm ▸ hc
        · exact a j (by omega) h2
  · rcases hr with ⟨j, _, b, c, d, e⟩ | ⟨a, b⟩
    · exact .inl ⟨j, b, c, fun m hm => d m (Nat.zero_le _) hm, e⟩
    · exact .inr ⟨fun j hj => a j (Nat.zero_le _) hj, b⟩
theorem ba_ext {a b : ByteArray} (h : a.toList = b.toList) : a = b := by
  rw [ByteArray.toList_eq, ByteArray.toList_eq] at h
  cases a; cases b
  simpa using h
/-- The same of a test. -/
theorem T_allb (g : Nat → Nat → Option Bool) (n : Nat) (C : Nat → Prop) (F : Prop)
    (step : ∀ i, i < n → C i → ∀ P : Bool → Prop, Tells (fun k => g k (i + 1)) P → Tells (fun k => g (k + 1) i) P) (out : ∀ i, i < n → ¬ C i → Tells (fun k => g (k + 1) i) (· = false)) (hf : Tells (fun k => g (k + 1) n) (fun r => r = true ↔ F)) :
    Tells (fun k => g k 0) (fun r => r = true ↔ (∀ j, j < n → C j) ∧ F) := by
  refine (T_loop g n (fun i r => r = true ↔ From C n i ∧ F) (fun i hi he => ?_) (hf.mono fun r hr => hr.trans ⟨fun h => ⟨From.last C n, h⟩, fun h => h.2⟩) 0 (Nat.zero_le _)).mono fun r hr => by
      rw [hr]
      exact ⟨fun h => ⟨fun j hj => h.1 j (Nat.zero_le _) hj, h.2⟩, fun h => ⟨fun j _ hj => h.1 j hj, h.2⟩⟩
  by_cases hc : C i
  · refine (step i hi hc _ he).mono fun r hr => ?_
    rw [hr, From.cons hc]
  · exact (out i hi hc).mono fun r hr => by
      rw [hr]
      exact ⟨fun h => absurd h Bool.false_ne_true, fun h => absurd h.1 (From.none hi hc)⟩
theorem same_bool {c : Prop} {r s : Bool} (h : r = true ↔ c) (k : s = true ↔ c) : s = r := Bool.eq_iff_iff.2 (k.trans h.symm)
theorem mem_drop_iff {α : Type} {l : List α} {i : Nat} (h : i < l.length) (a : α) : a ∈ l.drop i ↔ a = l[i] ∨ a ∈ l.drop (i + 1) := by
  rw [List.drop_eq_getElem_cons h, List.mem_cons]
theorem drop_eq_iff {α : Type} {a b : List α} {i : Nat} (ha : i < a.length) (hb : i < b.length) : a.drop i = b.drop i ↔ a[i] = b[i] ∧ a.drop (i + 1) = b.drop (i + 1) := by
  rw [List.drop_eq_getElem_cons ha, List.drop_eq_getElem_cons hb, List.cons.injEq]
/-- A loop with a counter and a state. -/
theorem T_loops {ρ σ : Type} (g : Nat → σ → Nat → Option ρ) (n : Nat) (Inv : Nat → σ → Prop) (P : Nat → σ → ρ → Prop)
    (step : ∀ i s, i < n → Inv i s → (∀ s', Inv (i + 1) s' → Tells (fun k => g k s' (i + 1)) (P (i + 1) s')) → Tells (fun k => g (k + 1) s i) (P i s))
    (fin : ∀ s, Inv n s → Tells (fun k => g (k + 1) s n) (P n s)) : ∀ i s, i ≤ n → Inv i s → Tells (fun k => g k s i) (P i s) := by
  have key : ∀ d i s, i + d = n → Inv i s → Tells (fun k => g k s i) (P i s) := by
    intro d
    induction d with
    | zero =>
      intro i s hi hs
      obtain rfl : i = n := by omega
      exact T_step (fin s hs)
    | succ d ih =>
      intro i s hi hs
      exact T_step (step i s (by omega) hs (fun s' hs' => ih (i + 1) s' (by omega) hs'))
  exact fun i s hi hs => key (n - i) i s (by omega) hs
def FindP {ρ : Type} (n : Nat) (C : Nat → Prop) (got : Nat → ρ) (fin : ρ) (r : ρ) : Prop := (∃ j, j < n ∧ C j ∧ (∀ m, m < j → ¬ C m) ∧ r = got j) ∨ ((∀ j, j < n → ¬ C j) ∧ r = fin)
theorem FindP.same {ρ : Type} {n : Nat} {C : Nat → Prop} {got : Nat → ρ} {fin r s : ρ} (h : FindP n C got fin r) (k : FindP n C got fin s) : s = r := by
  rcases h with ⟨j, a, b, c, rfl⟩ | ⟨a, rfl⟩ <;> rcases k with ⟨j', a', b', c', rfl⟩ | ⟨a', rfl⟩
  · rcases Nat.lt_trichotomy j j' with h | h | h
    · exact absurd b (c' _ h)
    · rw [h]
    · exact absurd b' (c _ h)
  · exact absurd b (a' j a)
  · exact absurd b' (a j' a')
  · rfl
def PfxP (a n : Int) : Prop := (0 ≤ a ∧ a ≤ 4294967295) ∧ (0 ≤ n ∧ n ≤ 32) ∧ a % 2 ^ (32 - n).toNat = 0
def InP (p n a : Int) : Prop := PfxP p n ∧ (0 ≤ a ∧ a ≤ 4294967295) ∧ a - a % 2 ^ (32 - n).toNat = p
instance decPfxP (a n : Int) : Decidable (PfxP a n) := by unfold PfxP; infer_instance
instance decInP (p n a : Int) : Decidable (InP p n a) := by unfold InP; infer_instance
theorem pow_rng (m : Nat) (h : m ≤ 32) : (1 : Int) ≤ 2 ^ m ∧ (2 : Int) ^ m ≤ 4294967296 := by
  have h1 : 2 ^ m ≤ 2 ^ 32 := Nat.pow_le_pow_right (by decide) h
  have h2 : 1 ≤ 2 ^ m := Nat.one_le_two_pow
  have e : ((2 ^ m : Nat) : Int) = (2 : Int) ^ m := by simp
  omega
theorem wrap_i64_in {n : Int} (h0 : -9223372036854775808 ≤ n) (h1 : n ≤ 9223372036854775807) : IntKind.i64.wrap n = n := by
  rw [IntKind.wrap_i64]
  omega
theorem bits_andNot_mask (i : Nat) (hi : i ≤ 32) (x : Int) (h₀ : 0 ≤ x) (h₁ : x ≤ 4294967295) : Go.bits .andNot .i64 x (2 ^ i - 1) = x - x % 2 ^ i := by
  obtain ⟨a, rfl⟩ := Int.eq_ofNat_of_zero_le h₀
  have hp := pow_rng i hi
  have hpn : 1 ≤ 2 ^ i := Nat.one_le_two_pow
  have hc : ((2 : Int) ^ i - 1) = ((2 ^ i - 1 : Nat) : Int) := by
    rw [Int.natCast_sub hpn]; simp
  have ha : a < 2 ^ 64 := by omega
  have hb : 2 ^ i - 1 < 2 ^ 64 := by
    have : 2 ^ i ≤ 2 ^ 32 := Nat.pow_le_pow_right (by decide) hi
    omega
  have hm : (BitVec.ofNat 64 a &&& ~~~ (BitVec.ofNat 64 (2 ^ i - 1))).toNat = a - a % 2 ^ i := by
    have e1 : (BitVec.ofNat 64 a &&& BitVec.ofNat 64 (2 ^ i - 1)).toNat = a % 2 ^ i := by
      rw [BitVec.toNat_and, BitVec.toNat_ofNat, BitVec.toNat_ofNat, Nat.mod_eq_of_lt ha, Nat.mod_eq_of_lt hb, Nat.and_two_pow_sub_one_eq_mod]
    have e2 : (BitVec.ofNat 64 a &&& BitVec.ofNat 64 (2 ^ i - 1)) + (BitVec.ofNat 64 a &&& ~~~ (BitVec.ofNat 64 (2 ^ i - 1))) = BitVec.ofNat 64 a := by
      generalize BitVec.ofNat 64 a = u
      generalize BitVec.ofNat 64 (2 ^ i - 1) = v
      rw [BitVec.add_eq_or_of_and_eq_zero]
      · ext j h
        simp
        cases (u[j]) <;> simp
      · ext j h
        simp
        cases (u[j]) <;> simp
    have e3 := congrArg BitVec.toNat e2
    rw [BitVec.toNat_add, e1, BitVec.toNat_ofNat, Nat.mod_eq_of_lt ha] at e3
    have h4 : (BitVec.ofNat 64 a &&& ~~~ (BitVec.ofNat 64 (2 ^ i - 1))).toNat ≤ a := by
      rw [BitVec.toNat_and, BitVec.toNat_ofNat, Nat.mod_eq_of_lt ha]
      exact Nat.and_le_left
    have h5 : a % 2 ^ i ≤ a := Nat.mod_le _ _
    omega
  have h5 : a % 2 ^ i ≤ a := Nat.mod_le _ _
  rw [hc]
  have e6 : Go.bits .andNot .i64 (a : Int) ((2 ^ i - 1 : Nat) : Int) = IntKind.i64.wrap ((BitVec.ofNat 64 a &&& ~~~ (BitVec.ofNat 64 (2 ^ i - 1))).toNat : Int) := by
    unfold Go.bits
    simp only [BitVec.ofInt_natCast]
    rfl
  rw [e6, hm, wrap_i64_in (by omega) (by omega)]
  have e7 : ((a % 2 ^ i : Nat) : Int) = (a : Int) % 2 ^ i := by simp
  omega

/-- A bit of an address, the greatest one first. -/
def bitAt (a i : Int) : Int := a / 2 ^ (31 - i).toNat % 2
theorem bitAt_01 (a i : Int) : bitAt a i = 0 ∨ bitAt a i = 1 := by unfold bitAt; omega
theorem pfx_of (a n : Int) (h1 : 0 ≤ a ∧ a ≤ 4294967295) (h2 : 0 ≤ n ∧ n ≤ 32) : PfxP (a - a % 2 ^ (32 - n).toNat) n := by
  have hp := pow_rng (32 - n).toNat (by omega)
  have hm0 := Int.emod_nonneg a (show (2 : Int) ^ (32 - n).toNat ≠ 0 by omega)
  have hm1 := Int.emod_lt_of_pos a (show (0 : Int) < 2 ^ (32 - n).toNat by omega)
  have hd := Int.mul_ediv_add_emod a (2 ^ (32 - n).toNat)
  have e : a - a % 2 ^ (32 - n).toNat = 2 ^ (32 - n).toNat * (a / 2 ^ (32 - n).toNat) := by omega
  have hq := Int.mul_nonneg (show (0 : Int) ≤ 2 ^ (32 - n).toNat by omega) (Int.ediv_nonneg h1.1 (show (0 : Int) ≤ 2 ^ (32 - n).toNat by omega))
  exact ⟨by omega, h2, by rw [e]; exact Int.mul_emod_right _ _⟩
theorem rd_T65_at (xs : List S65) (i : Nat) (h : i < xs.length) : rd_T65 xs (i : Int) = xs[i] := by simp [rd_T65, List.getD_eq_getElem?_getD, h]
def AheadP (x y : S40) : Prop := x.f0 < y.f0 ∨ (x.f0 = y.f0 ∧ x.f1 < y.f1)
def RouteC (l : List S65) (i : Nat) : Prop := PfxP (rd_T65 l i).f0.f0 (rd_T65 l i).f0.f1 ∧ (1 ≤ (rd_T65 l i).f1 ∧ (rd_T65 l i).f1 ≤ 99) ∧ (0 < i → AheadP (rd_T65 l ((i : Int) - 1)).f0 (rd_T65 l i).f0)
def RoutesP (l : List S65) : Prop := (∀ i, i < l.length → RouteC l i) ∧ l.length ≤ 12
instance decAheadP (x y : S40) : Decidable (AheadP x y) := by unfold AheadP; infer_instance
def putR (l : List S65) (r : S65) : List S65 := l.filter (fun x => decide (AheadP x.f0 r.f0)) ++ r :: l.filter (fun x => decide (AheadP r.f0 x.f0))
open Classical in
noncomputable def putRoute (l : List S65) (r : S65) : List S65 × Bool := if RoutesP l ∧ RoutesP (putR l r) then (putR l r, true) else (l, false)
theorem putR_len (l : List S65) (r : S65) : (putR l r).length ≤ 2 * l.length + 1 := by
  unfold putR
  have h1 := List.length_filter_le (fun x : S65 => decide (AheadP x.f0 r.f0)) l
  have h2 := List.length_filter_le (fun x : S65 => decide (AheadP r.f0 x.f0)) l
  simp only [List.length_append, List.length_cons]
  omega
theorem filter_take {α : Type} (l : List α) (p : α → Bool) (i : Nat) (h : i < l.length) : (l.take (i + 1)).filter p = if p l[i] = true then (l.take i).filter p ++ [l[i]] else (l.take i).filter p := by
  rw [List.take_succ_eq_append_getElem h, List.filter_append]
  split <;> simp_all
def lu (a : Int) : List S65 → Int → Int → Int
  | [], _, dst => dst
  | x :: xs, best, dst => if InP x.f0.f0 x.f0.f1 a ∧ x.f0.f1 > best then lu a xs x.f0.f1 x.f1 else lu a xs best dst
open Classical in
noncomputable def lookUp (l : List S65) (a : Int) : Int := if RoutesP l then lu a l (-1) 0 else 0
/-- A reader of draws: its place lies in what it reads. -/
def CurOk (l : List Int) (i : Int) : Prop := 0 ≤ i ∧ i ≤ l.length ∧ l.length ≤ 1048576
theorem bits255 (x : Int) : 0 ≤ Go.bits .and .i64 x 255 ∧ Go.bits .and .i64 x 255 ≤ 255 := by
  have e : Go.bits .and .i64 x 255 = IntKind.i64.wrap ((BitVec.ofInt 64 x &&& BitVec.ofInt 64 255).toNat : Int) := rfl
  have h : (BitVec.ofInt 64 x &&& BitVec.ofInt 64 255).toNat ≤ 255 := by
    rw [BitVec.toNat_and]
    exact Nat.le_trans Nat.and_le_right (by decide)
  rw [e, IntKind.wrap_i64]
  omega

/-! spec_l01In -/
theorem spec_l01In.eq (a b c : Int) : spec_l01In.f a b c = some (decide (b ≤ a ∧ a ≤ c)) := by
  unfold spec_l01In.f
  by_cases h : b ≤ a <;> simp [h]

/-! spec_AddrOk -/
theorem spec_AddrOk.eq (a : Int) : spec_AddrOk.f a = some (decide (0 ≤ a ∧ a ≤ 4294967295)) := by
  unfold spec_AddrOk.f
  simp [spec_l01In.eq]

/-! spec_l08Size -/
theorem spec_l08Size.ev (n : Int) (h0 : 0 ≤ n) (h1 : n ≤ 32) : Tells (fun k => spec_l08Size.f k n) (· = 2 ^ (32 - n).toNat) := by
  obtain ⟨m, rfl⟩ := Int.eq_ofNat_of_zero_le h0
  unfold spec_l08Size.f
  have hd : ∀ j : Fin 32, wrap64 (2 * 2 ^ j.val) = 2 ^ (j.val + 1) := by decide +kernel
  have h := T_loop' (fun k i => spec_l08Size.l0 k (2 ^ i) ((m + i : Nat) : Int)) (32 - m) (· = 2 ^ (32 - m)) (fun i hi he => ?_) ?_
  · rw [show (32 - (m : Int)).toNat = 32 - m by omega]
    simpa using h
  · simp only [spec_l08Size.l0]
    refine T_pos (by omega) ?_
    rw [hd ⟨i, by omega⟩, wsucc (n := 32) (by omega) (by omega)]
    exact he
  · simp only [spec_l08Size.l0]
    exact T_neg (by omega) (T_ret rfl)

/-! spec_PrefixOk -/
theorem spec_PrefixOk.ev (a n : Int) : Tells (fun k => spec_PrefixOk.f k a n) (fun r => r = true ↔ PfxP a n) := by
  unfold spec_PrefixOk.f PfxP
  simp only [spec_AddrOk.eq, spec_l01In.eq, Option.bind_some, decide_eq_true_eq]
  refine T_ite (fun h1 => T_ite (fun h2 => ?_) (fun h => T_ret (by simp [h]))) (fun h => T_ret (by simp [h]))
  refine T_bind (spec_l08Size.ev n h2.1 h2.2) ?_
  rintro _ rfl
  have hp := pow_rng (32 - n).toNat (by omega)
  refine T_neg (by omega) (T_ret ?_)
  rw [Int.tmod_eq_emod_of_nonneg h1.1]
  simp [h1, h2]

/-! spec_l09Ahead -/
theorem spec_l09Ahead.eq (a b c d : Int) : ∃ r, spec_l09Ahead.f a b c d = some r ∧ (r = true ↔ a < c ∨ (a = c ∧ b < d)) := by
  unfold spec_l09Ahead.f
  by_cases h : a < c
  · exact ⟨_, if_pos h, by simp [h]⟩
  · by_cases h2 : a = c
    · rw [if_neg h, if_pos h2]
      exact ⟨_, rfl, by simp [h, h2]⟩
    · rw [if_neg h, if_neg h2]
      exact ⟨_, rfl, by simp [h, h2]⟩
theorem spec_l09Ahead.ev (a b c d : Int) : Tells (fun _ => spec_l09Ahead.f a b c d) (fun r => r = true ↔ a < c ∨ (a = c ∧ b < d)) := by
  obtain ⟨r, h, hr⟩ := spec_l09Ahead.eq a b c d
  exact T_some (fun _ => h) hr

/-! spec_RoutesOk -/
theorem spec_RoutesOk.ev (l : List S65) (hn : l.length ≤ 1048576) : Tells (fun k => spec_RoutesOk.f k l) (fun r => r = true ↔ RoutesP l) := by
  refine T_allb (fun k i => spec_RoutesOk.l0 k l (i : Int)) l.length (RouteC l) _ (fun i hi hc P he => ?_) (fun i hi hc => ?_) ?_
  · obtain ⟨h1, h2, h3⟩ := hc
    simp only [spec_RoutesOk.l0, spec_l01In.eq, Option.bind_some, decide_eq_true_eq]
    rw [wsucc hi (by omega)]
    refine T_pos (by omega) (T_pos (by omega) (T_bind (spec_PrefixOk.ev _ _) fun q hq => T_pos (hq.2 h1) (T_pos h2 ?_)))
    rcases Nat.eq_zero_or_pos i with h0 | h0
    · exact T_neg (by omega) he
    · rw [w64 (x := (i : Int) - 1) (by omega) (by omega)]
      exact T_pos (by omega) (T_pos (by omega) (T_pos (by omega) (T_bind (spec_l09Ahead.ev _ _ _ _) fun q hq => T_pos (hq.2 (h3 h0)) he)))
  · simp only [spec_RoutesOk.l0, spec_l01In.eq, Option.bind_some, decide_eq_true_eq]
    rw [wsucc hi (by omega)]
    refine T_pos (by omega) (T_pos (by omega) (T_bind (spec_PrefixOk.ev _ _) fun q hq => T_ite (fun h1 => T_ite (fun h2 => ?_) (fun _ => T_ret rfl)) (fun _ => T_ret rfl)))
    rcases Nat.eq_zero_or_pos i with h0 | h0
    · exact absurd ⟨hq.1 h1, h2, fun h => by omega⟩ hc
    · rw [w64 (x := (i : Int) - 1) (by omega) (by omega)]
      exact T_pos (by omega) (T_pos (by omega) (T_pos (by omega) (T_bind (spec_l09Ahead.ev _ _ _ _) fun q2 hq2 => T_ite (fun h3 => absurd ⟨hq.1 h1, h2, fun _ => hq2.1 h3⟩ hc) (fun _ => T_ret rfl))))
  · simp only [spec_RoutesOk.l0]
    exact T_neg (by omega) (T_ret (by simp; omega))

/-! spec_InPrefix -/
theorem spec_InPrefix.ev (p n a : Int) : Tells (fun k => spec_InPrefix.f k p n a) (fun r => r = true ↔ InP p n a) := by
  unfold spec_InPrefix.f InP
  refine T_bind (spec_PrefixOk.ev p n) fun q hq => T_ite (fun h => ?_) (fun h => T_ret (by
    have h' : ¬ PfxP p n := fun k => h (hq.2 k)
    simp [h']))
  have h' := hq.1 h
  simp only [spec_AddrOk.eq, Option.bind_some, decide_eq_true_eq]
  refine T_ite (fun h1 => ?_) (fun h1 => T_ret (by simp [h1]))
  obtain ⟨g1, g2, g3⟩ := h'
  refine T_bind (spec_l08Size.ev n g2.1 g2.2) ?_
  rintro _ rfl
  have hp := pow_rng (32 - n).toNat (by omega)
  refine T_neg (by omega) (T_ret ?_)
  rw [Int.tmod_eq_emod_of_nonneg h1.1]
  have hm0 := Int.emod_nonneg a (show (2 : Int) ^ (32 - n).toNat ≠ 0 by omega)
  have hm1 := Int.emod_lt_of_pos a (show (0 : Int) < 2 ^ (32 - n).toNat by omega)
  rw [w64 (by omega) (by omega)]
  simp [h1]
  exact fun _ => ⟨g1, g2, g3⟩

/-! spec_LookUp -/
theorem spec_LookUp.loop (l : List S65) (a : Int) (hn : l.length ≤ 1048576) (best dst : Int) : Tells (fun k => spec_LookUp.l0 k l a best dst 0) (· = lu a l best dst) := by
  refine T_loops (fun k (s : Int × Int) i => spec_LookUp.l0 k l a s.1 s.2 (i : Int)) l.length (fun _ _ => True) (fun i s r => r = lu a (l.drop i) s.1 s.2) (fun i s hi _ ih => ?_) (fun s _ => ?_) 0 (best, dst) (Nat.zero_le _) trivial
  · obtain ⟨b, d⟩ := s
    simp only [spec_LookUp.l0, rd_T65_at l i hi]
    rw [wsucc hi (by omega)]
    have e : lu a (l.drop i) b d = if InP l[i].f0.f0 l[i].f0.f1 a ∧ l[i].f0.f1 > b then lu a (l.drop (i + 1)) l[i].f0.f1 l[i].f1 else lu a (l.drop (i + 1)) b d := by rw [List.drop_eq_getElem_cons hi]; rfl
    rw [e]
    refine T_pos (by omega) (T_pos (by omega) (T_bind (spec_InPrefix.ev _ _ _) fun q hq => T_ite (fun h => T_ite (fun h2 => ?_) (fun h2 => ?_)) (fun h => ?_)))
    · rw [if_pos ⟨hq.1 h, h2⟩]
      exact ih (l[i].f0.f1, l[i].f1) trivial
    · rw [if_neg (fun k => h2 k.2)]
      exact ih (b, d) trivial
    · rw [if_neg (fun k => h (hq.2 k.1))]
      exact ih (b, d) trivial
  · simp only [spec_LookUp.l0]
    exact T_neg (by omega) (T_ret (by rw [List.drop_of_length_le (Nat.le_refl _)]; rfl))
theorem spec_LookUp.ev (l : List S65) (a : Int) (hn : l.length ≤ 1048576) : Tells (fun k => spec_LookUp.f k l a) (· = lookUp l a) := by
  unfold spec_LookUp.f lookUp
  refine T_bind (spec_RoutesOk.ev l hn) fun q hq => T_ite (fun h => ?_) (fun h => T_ret (by rw [if_neg (fun k => h (hq.2 k))]))
  rw [if_pos (hq.1 h)]
  exact spec_LookUp.loop l a hn (-1) 0

/-! impl_within -/
theorem impl_within.eq (a b c : Int) : impl_within.f a b c = some (decide (b ≤ a ∧ a ≤ c)) := by
  unfold impl_within.f
  by_cases h : b ≤ a <;> simp [h]

/-! impl_AddrOk -/
theorem impl_AddrOk.eq (a : Int) : impl_AddrOk.f a = some (decide (0 ≤ a ∧ a ≤ 4294967295)) := by
  unfold impl_AddrOk.f
  simp [impl_within.eq]

/-! impl_lastBits -/
theorem impl_lastBits.eq (n : Int) (h0 : 0 ≤ n) (h1 : n ≤ 32) : impl_lastBits.f n = some (2 ^ (32 - n).toNat - 1) := by
  unfold impl_lastBits.f
  have hp := pow_rng (32 - n).toNat (by omega)
  rw [w64 (x := 32 - n) (by omega) (by omega), if_pos (by omega)]
  have e : shl .i64 1 (32 - n) = 2 ^ (32 - n).toNat := by
    unfold shl
    rw [show min (32 - n).toNat IntKind.i64.bits = (32 - n).toNat from Nat.min_eq_left (by show _ ≤ 64; omega), Int.one_mul, wrap_i64_in (by omega) (by omega)]
  rw [e, w64 (by omega) (by omega)]

/-! impl_PrefixOk -/
theorem impl_PrefixOk.eq (a n : Int) : ∃ r, impl_PrefixOk.f a n = some r ∧ (r = true ↔ PfxP a n) := by
  unfold impl_PrefixOk.f PfxP
  simp only [impl_AddrOk.eq, impl_within.eq, Option.bind_some, decide_eq_true_eq]
  by_cases h1 : 0 ≤ a ∧ a ≤ 4294967295
  · by_cases h2 : 0 ≤ n ∧ n ≤ 32
    · rw [if_pos h1, if_pos h2, impl_lastBits.eq n h2.1 h2.2]
      refine ⟨_, rfl, ?_⟩
      rw [bits_mask .i64 62 (by decide) (fun x h0 h1 => wrap_i64_in (by omega) (by omega)) (32 - n).toNat (by omega) a h1.1 (by omega)]
      simp [h1, h2]
    · rw [if_pos h1, if_neg h2]
      exact ⟨_, rfl, by simp [h2]⟩
  · rw [if_neg h1]
    exact ⟨_, rfl, by simp [h1]⟩
theorem impl_PrefixOk.ev (a n : Int) : Tells (fun _ => impl_PrefixOk.f a n) (fun r => r = true ↔ PfxP a n) := by
  obtain ⟨r, h, hr⟩ := impl_PrefixOk.eq a n
  exact T_some (fun _ => h) hr

/-! impl_isId -/
theorem impl_isId.eq (a : Int) : impl_isId.f a = some (decide (1 ≤ a ∧ a ≤ 99)) := by
  unfold impl_isId.f
  simp [impl_within.eq]

/-! cmp_Or_int -/
theorem cmp_Or_int.two (x y : Int) : Tells (fun k => cmp_Or_int.f k [x, y]) (· = if x = 0 then y else x) := by
  unfold cmp_Or_int.f
  refine T_step ?_
  simp only [cmp_Or_int.l0]
  refine T_pos (by simp) (T_pos (by omega) (T_pos (by simp) ?_))
  have e1 : rd [x, y] 0 = x := rfl
  rw [e1]
  refine T_ite (fun h => ?_) (fun h => T_ret (by rw [if_neg h]))
  rw [w64 (x := 0 + 1) (by omega) (by omega), if_pos h]
  refine T_step ?_
  simp only [cmp_Or_int.l0]
  have e2 : rd [x, y] (0 + 1) = y := rfl
  refine T_pos (by simp) (T_pos (by omega) (T_pos (by simp) ?_))
  rw [e2]
  refine T_ite (fun h2 => ?_) (fun h2 => T_ret rfl)
  rw [w64 (x := 0 + 1 + 1) (by omega) (by omega)]
  refine T_step ?_
  simp only [cmp_Or_int.l0]
  exact T_neg (by simp) (T_ret h2.symm)

/-! cmp_Compare_int -/
theorem cmp_Compare_int.eq (a b : Int) : cmp_Compare_int.f a b = some (if a < b then -1 else if a > b then 1 else 0) := by
  unfold cmp_Compare_int.f cmp_isNaN_int.f
  simp only [Option.bind_some, bne_self_eq_false, Bool.false_eq_true, if_false]
  split <;> simp
  split <;> rfl

/-! impl_comparePrefixes -/
theorem impl_comparePrefixes.ev (a b c d : Int) : Tells (fun k => impl_comparePrefixes.f k a b c d) (fun r => (r < 0 ↔ a < c ∨ (a = c ∧ b < d)) ∧ (r = 0 ↔ a = c ∧ b = d)) := by
  unfold impl_comparePrefixes.f
  simp only [cmp_Compare_int.eq, Option.bind_some]
  refine T_bind (cmp_Or_int.two _ _) ?_
  rintro _ rfl
  refine T_ret ?_
  by_cases h1 : a < c
  · simp [h1]; omega
  · by_cases h2 : a > c
    · simp [h1, h2]; omega
    · obtain rfl : a = c := by omega
      by_cases h3 : b < d
      · simp [h3]; omega
      · by_cases h4 : b > d
        · simp [h3, h4]; omega
        · obtain rfl : b = d := by omega
          simp

/-! impl_RoutesOk -/
theorem impl_RoutesOk.ev (l : List S65) (hn : l.length ≤ 1048576) : Tells (fun k => impl_RoutesOk.f k l) (fun r => r = true ↔ RoutesP l) := by
  refine T_allb (fun k i => impl_RoutesOk.l0 k l l (l.length : Int) (i : Int)) l.length (RouteC l) _ (fun i hi hc P he => ?_) (fun i hi hc => ?_) ?_
  · obtain ⟨h1, h2, h3⟩ := hc
    simp only [impl_RoutesOk.l0, impl_isId.eq, Option.bind_some, decide_eq_true_eq]
    rw [wsucc hi (by omega)]
    refine T_pos (by omega) (T_pos (by omega) (T_pos (by omega) (T_bind (impl_PrefixOk.ev _ _) fun q hq => T_pos (hq.2 h1) (T_pos h2 ?_))))
    rcases Nat.eq_zero_or_pos i with h0 | h0
    · exact T_neg (by omega) he
    · rw [w64 (x := (i : Int) - 1) (by omega) (by omega)]
      exact T_pos (by omega) (T_pos (by omega) (T_pos (by omega) (T_bind (impl_comparePrefixes.ev _ _ _ _) fun q hq => T_neg (fun h => absurd (hq.1.2 (h3 h0)) (by omega)) he)))
  · simp only [impl_RoutesOk.l0, impl_isId.eq, Option.bind_some, decide_eq_true_eq]
    rw [wsucc hi (by omega)]
    refine T_pos (by omega) (T_pos (by omega) (T_pos (by omega) (T_bind (impl_PrefixOk.ev _ _) fun q hq => T_ite (fun h1 => T_ite (fun h2 => ?_) (fun _ => T_ret rfl)) (fun _ => T_ret rfl))))
    rcases Nat.eq_zero_or_pos i with h0 | h0
    · exact absurd ⟨hq.1 h1, h2, fun h => by omega⟩ hc
    · rw [w64 (x := (i : Int) - 1) (by omega) (by omega)]
      exact T_pos (by omega) (T_pos (by omega) (T_pos (by omega) (T_bind (impl_comparePrefixes.ev _ _ _ _) fun q2 hq2 => T_ite (fun _ => T_ret rfl) (fun h3 => absurd ⟨hq.1 h1, h2, fun _ => hq2.1.1 (by omega)⟩ hc))))
  · simp only [impl_RoutesOk.l0]
    exact T_neg (by omega) (T_ret (by simp; omega))

/-! impl_InPrefix -/
theorem impl_InPrefix.eq (p n a : Int) : ∃ r, impl_InPrefix.f p n a = some r ∧ (r = true ↔ InP p n a) := by
  unfold impl_InPrefix.f InP
  obtain ⟨q, hq0, hq⟩ := impl_PrefixOk.eq p n
  simp only [hq0, impl_AddrOk.eq, Option.bind_some, decide_eq_true_eq]
  by_cases h : q = true
  · have h' := hq.1 h
    rw [if_pos h]
    by_cases h1 : 0 ≤ a ∧ a ≤ 4294967295
    · rw [if_pos h1, impl_lastBits.eq n h'.2.1.1 h'.2.1.2]
      refine ⟨_, rfl, ?_⟩
      rw [bits_andNot_mask _ (by have := h'.2.1; omega) a h1.1 h1.2]
      simp [h1, h']
    · rw [if_neg h1]
      exact ⟨_, rfl, by simp [h1]⟩
  · have h' : ¬ PfxP p n := fun k => h (hq.2 k)
    rw [if_neg h]
    exact ⟨_, rfl, by simp [h']⟩
theorem impl_InPrefix.ev (p n a : Int) : Tells (fun _ => impl_InPrefix.f p n a) (fun r => r = true ↔ InP p n a) := by
  obtain ⟨r, h, hr⟩ := impl_InPrefix.eq p n a
  exact T_some (fun _ => h) hr

/-! impl_LookUp -/
theorem impl_LookUp.loop (l : List S65) (a : Int) (hn : l.length ≤ 1048576) (p best dst : Int) : Tells (fun k => impl_LookUp.l0 k a l (l.length : Int) 0 p best dst) (· = lu a l best dst) := by
  refine T_loops (fun k (s : Int × Int × Int) i => impl_LookUp.l0 k a l (l.length : Int) (i : Int) s.1 s.2.1 s.2.2) l.length (fun _ _ => True) (fun i s r => r = lu a (l.drop i) s.2.1 s.2.2) (fun i s hi _ ih => ?_) (fun s _ => ?_) 0 (p, best, dst) (Nat.zero_le _) trivial
  · obtain ⟨c, b, d⟩ := s
    simp only [impl_LookUp.l0, rd_T65_at l i hi]
    rw [wsucc hi (by omega)]
    have e : lu a (l.drop i) b d = if InP l[i].f0.f0 l[i].f0.f1 a ∧ l[i].f0.f1 > b then lu a (l.drop (i + 1)) l[i].f0.f1 l[i].f1 else lu a (l.drop (i + 1)) b d := by rw [List.drop_eq_getElem_cons hi]; rfl
    rw [e]
    refine T_pos (by omega) (T_pos (by omega) (T_pos (by omega) (T_bind (impl_InPrefix.ev _ _ _) fun q hq => T_ite (fun h => T_ite (fun h2 => ?_) (fun h2 => ?_)) (fun h => ?_))))
    · rw [if_pos ⟨hq.1 h, h2⟩]
      exact ih (l[i].f0.f0, l[i].f0.f1, l[i].f1) trivial
    · rw [if_neg (fun k => h2 k.2)]
      exact ih (c, b, d) trivial
    · rw [if_neg (fun k => h (hq.2 k.1))]
      exact ih (c, b, d) trivial
  · simp only [impl_LookUp.l0]
    exact T_neg (by omega) (T_ret (by rw [List.drop_of_length_le (Nat.le_refl _)]; rfl))
theorem impl_LookUp.ev (l : List S65) (a : Int) (hn : l.length ≤ 1048576) : Tells (fun k => impl_LookUp.f k l a) (· = lookUp l a) := by
  unfold impl_LookUp.f lookUp
  refine T_bind (impl_RoutesOk.ev l hn) fun q hq => T_ite (fun h => ?_) (fun h => T_ret (by rw [if_neg (fun k => h (hq.2 k))]))
  rw [if_pos (hq.1 h)]
  exact impl_LookUp.loop l a hn 0 (-1) 0

/-! laws_big -/
theorem laws_big.eq (l : List Int) : laws_big.f l = some (decide (l.length > 1048576)) := by
  unfold laws_big.f
  congr 1
  simp
  omega

/-! spec_l01New -/
theorem spec_l01New.ev (l : List Int) (hn : l.length ≤ 1048576) : Tells (fun k => spec_l01New.f k l) (fun r => r.1 = l ∧ CurOk l r.2.1) := by
  unfold spec_l01New.f
  refine T_loops (fun k (s : Int) i => spec_l01New.l0 k l s (i : Int)) l.length (fun _ _ => True) (fun _ _ r => r.1 = l ∧ CurOk l r.2.1) (fun i s hi _ ih => ?_) (fun s _ => ?_) 0 _ (Nat.zero_le _) trivial
  · simp only [spec_l01New.l0]
    rw [wsucc hi (by omega)]
    exact T_pos (by omega) (T_ite (fun _ => T_pos (by omega) (ih _ trivial)) (fun _ => T_ret ⟨rfl, Int.le_refl _, by show (0 : Int) ≤ _; omega, hn⟩))
  · simp only [spec_l01New.l0]
    exact T_neg (by omega) (T_ret ⟨rfl, Int.le_refl _, by show (0 : Int) ≤ _; omega, hn⟩)

/-! spec_PutRoute -/
theorem spec_PutRoute.ev (l : List S65) (a n dst : Int) (hn : l.length ≤ 400000) : Tells (fun k => spec_PutRoute.f k l a n dst) (· = putRoute l ⟨⟨a, n⟩, dst⟩) := by
  generalize hr : (⟨⟨a, n⟩, dst⟩ : S65) = r
  have e1 : a = r.f0.f0 := by rw [← hr]
  have e2 : n = r.f0.f1 := by rw [← hr]
  have e3 : dst = r.f1 := by rw [← hr]
  have same : Tells (fun _ => (some (([] : List S65) : List S65)).bind fun y => if y.length + l.length < 5864062014805 then some ((y ++ l), false) else none) (· = (l, false)) := by
    simp only [Option.bind_some]
    exact T_pos (by simp; omega) (T_ret (by simp))
  have second : ∀ (out : List S65), out = l.filter (fun x => decide (AheadP x.f0 r.f0)) ++ [r] → Tells (fun k => spec_PutRoute.l1 k l out 0 a n dst) (· = putRoute l r) := by
    intro out ho
    have hol : out.length ≤ l.length + 1 := by
      rw [ho, List.length_append]
      have h1 := List.length_filter_le (fun x : S65 => decide (AheadP x.f0 r.f0)) l
      simp
      exact h1
    have h := T_loop' (fun k i => spec_PutRoute.l1 k l (out ++ (l.take i).filter (fun x => decide (AheadP r.f0 x.f0))) (i : Int) a n dst) l.length (· = putRoute l r) (fun i hi he => ?_) ?_
    · simpa using h
    · simp only [spec_PutRoute.l1, rd_T65_at l i hi]
      rw [wsucc hi (by omega)]
      rw [filter_take _ _ i hi] at he
      refine T_pos (by omega) (T_pos (by omega) (T_bind (spec_l09Ahead.ev _ _ _ _) fun q hq => T_ite (fun h => ?_) (fun h => ?_)))
      · have hA : AheadP r.f0 l[i].f0 := by
          have := hq.1 h
          rw [e1, e2] at this
          exact this
        rw [if_pos (by simpa using hA)] at he
        refine T_pos ?_ ?_
        · have h1 := List.length_filter_le (fun x : S65 => decide (AheadP r.f0 x.f0)) (l.take i)
          have h2 : (l.take i).length ≤ i := List.length_take_le _ _
          rw [List.length_append]
          omega
        · rw [List.append_assoc]
          exact he
      · have hA : ¬ AheadP r.f0 l[i].f0 := fun k => h (hq.2 (by rw [e1, e2]; exact k))
        rw [if_neg (by simpa using hA)] at he
        exact he
    · simp only [spec_PutRoute.l1]
      have eo : out ++ (l.take l.length).filter (fun x => decide (AheadP r.f0 x.f0)) = putR l r := by
        rw [ho, List.take_of_length_le (Nat.le_refl _)]
        unfold putR
        simp
      rw [eo]
      have hp := putR_len l r
      refine T_neg (by omega) (T_bind (spec_RoutesOk.ev l (by omega)) fun q hq => T_ite (fun h => ?_) (fun h => ?_))
      · refine T_bind (spec_RoutesOk.ev _ (by omega)) fun q2 hq2 => T_ite (fun h2 => T_ret ?_) (fun h2 => ?_)
        · unfold putRoute
          rw [if_pos ⟨hq.1 h, hq2.1 h2⟩]
        · refine same.mono fun x hx => ?_
          rw [hx]
          unfold putRoute
          rw [if_neg (fun k => h2 (hq2.2 k.2))]
      · refine same.mono fun x hx => ?_
        rw [hx]
        unfold putRoute
        rw [if_neg (fun k => h (hq.2 k.1))]
  unfold spec_PutRoute.f
  have h := T_loop' (fun k i => spec_PutRoute.l0 k l ((l.take i).filter (fun x => decide (AheadP x.f0 r.f0))) (i : Int) a n dst) l.length (· = putRoute l r) (fun i hi he => ?_) ?_
  · simpa using h
  · simp only [spec_PutRoute.l0, rd_T65_at l i hi]
    rw [wsucc hi (by omega)]
    rw [filter_take _ _ i hi] at he
    refine T_pos (by omega) (T_pos (by omega) (T_bind (spec_l09Ahead.ev _ _ _ _) fun q hq => T_ite (fun h => ?_) (fun h => ?_)))
    · have hA : AheadP l[i].f0 r.f0 := by
        have := hq.1 h
        rw [e1, e2] at this
        exact this
      rw [if_pos (by simpa using hA)] at he
      refine T_pos ?_ he
      have h1 := List.length_filter_le (fun x : S65 => decide (AheadP x.f0 r.f0)) (l.take i)
      have h2 : (l.take i).length ≤ i := List.length_take_le _ _
      omega
    · have hA : ¬ AheadP l[i].f0 r.f0 := fun k => h (hq.2 (by rw [e1, e2]; exact k))
      rw [if_neg (by simpa using hA)] at he
      exact he
  · simp only [spec_PutRoute.l0]
    have hp := putR_len l r
    have h1 := List.length_filter_le (fun x : S65 => decide (AheadP x.f0 r.f0)) (l.take l.length)
    have h2 : (l.take l.length).length ≤ l.length := List.length_take_le _ _
    refine T_neg (by omega) (T_pos (by omega) (second _ ?_))
    rw [List.take_of_length_le (Nat.le_refl _), hr]

/-! spec_l01Byte -/
theorem spec_l01Byte.ev (l : List Int) (i h : Int) (hc : CurOk l i) : Tells (fun _ => spec_l01Byte.f l i h) (fun r => (0 ≤ r.1 ∧ r.1 ≤ 255) ∧ CurOk l r.2.1) := by
  unfold spec_l01Byte.f
  obtain ⟨h0, h1, h2⟩ := hc
  refine T_ite (fun h3 => T_pos h0 (T_ret ⟨bits255 _, ?_⟩)) (fun h3 => T_ret ⟨bits255 _, h0, h1, h2⟩)
  show CurOk l (wrap64 (i + 1))
  rw [w64 (by omega) (by omega)]
  exact ⟨by omega, by omega, h2⟩

/-! spec_l01Below -/
theorem spec_l01Below.ev (l : List Int) (i h n : Int) (hc : CurOk l i) (hn : n ≤ 9223372036854775807) : Tells (fun _ => spec_l01Below.f l i h n) (fun r => (0 ≤ r.1 ∧ (0 < n → r.1 < n) ∧ (n ≤ 0 → r.1 = 0)) ∧ CurOk l r.2.1) := by
  unfold spec_l01Below.f
  refine T_ite (fun h1 => T_ret ⟨⟨Int.le_refl _, fun h => by omega, fun _ => rfl⟩, hc⟩) (fun h1 => T_ite (fun h2 => ?_) (fun h2 => ?_))
  · refine T_bind (spec_l01Byte.ev l i h hc) fun r hr => T_neg (by omega) (T_ret ⟨?_, hr.2⟩)
    dsimp only
    rw [Int.tmod_eq_emod_of_nonneg hr.1.1]
    have a := Int.emod_nonneg r.1 (show n ≠ 0 by omega)
    have b := Int.emod_lt_of_pos r.1 (show 0 < n by omega)
    exact ⟨a, fun _ => b, fun h => by omega⟩
  · refine T_bind (spec_l01Byte.ev l i h hc) fun x hx => T_bind (spec_l01Byte.ev l _ _ hx.2) fun y hy => T_bind (spec_l01Byte.ev l _ _ hy.2) fun z hz => T_bind (spec_l01Byte.ev l _ _ hz.2) fun w hw => T_neg (by omega) (T_ret ⟨?_, hw.2⟩)
    dsimp only
    rw [w64 (x := x.1 * 16777216) (by omega) (by omega), w64 (x := y.1 * 65536) (by omega) (by omega), w64 (x := z.1 * 256) (by omega) (by omega), w64 (x := x.1 * 16777216 + y.1 * 65536) (by omega) (by omega), w64 (x := x.1 * 16777216 + y.1 * 65536 + z.1 * 256) (by omega) (by omega), w64 (x := x.1 * 16777216 + y.1 * 65536 + z.1 * 256 + w.1) (by omega) (by omega)]
    rw [Int.tmod_eq_emod_of_nonneg (by omega)]
    have a := Int.emod_nonneg (x.1 * 16777216 + y.1 * 65536 + z.1 * 256 + w.1) (show n ≠ 0 by omega)
    have b := Int.emod_lt_of_pos (x.1 * 16777216 + y.1 * 65536 + z.1 * 256 + w.1) (show 0 < n by omega)
    exact ⟨a, fun _ => b, fun h => by omega⟩

/-! spec_PrefixOf -/
theorem spec_PrefixOf.ev (a n : Int) : Tells (fun k => spec_PrefixOf.f k a n) (· = if (0 ≤ a ∧ a ≤ 4294967295) ∧ (0 ≤ n ∧ n ≤ 32) then (a - a % 2 ^ (32 - n).toNat, n, true) else (0, 0, false)) := by
  unfold spec_PrefixOf.f
  simp only [spec_AddrOk.eq, spec_l01In.eq, Option.bind_some, decide_eq_true_eq]
  refine T_ite (fun h1 => T_ite (fun h2 => ?_) (fun h2 => T_ret (by rw [if_neg (fun k => h2 k.2)]))) (fun h1 => T_ret (by rw [if_neg (fun k => h1 k.1)]))
  refine T_bind (spec_l08Size.ev n h2.1 h2.2) ?_
  rintro _ rfl
  have hp := pow_rng (32 - n).toNat (by omega)
  refine T_neg (by omega) (T_ret ?_)
  have hm0 := Int.emod_nonneg a (show (2 : Int) ^ (32 - n).toNat ≠ 0 by omega)
  have hm1 := Int.emod_lt_of_pos a (show (0 : Int) < 2 ^ (32 - n).toNat by omega)
  rw [if_pos ⟨h1, h2⟩, Int.tmod_eq_emod_of_nonneg h1.1, w64 (by omega) (by omega)]

/-! spec_l01PickInt -/
theorem spec_l01PickInt.ev (l : List Int) (i h : Int) (p : List Int) (hc : CurOk l i) (hp : 0 < p.length) (hp2 : p.length ≤ 1000) : Tells (fun _ => spec_l01PickInt.f l i h p) (fun r => r.1 ∈ p ∧ CurOk l r.2.1) := by
  unfold spec_l01PickInt.f
  refine T_bind (spec_l01Below.ev l i h _ hc (by omega)) fun r hr => T_pos hr.1.1 (T_pos (hr.1.2.1 (by omega)) (T_ret ⟨?_, hr.2⟩))
  obtain ⟨m, hm⟩ := Int.eq_ofNat_of_zero_le hr.1.1
  have hlt := hr.1.2.1 (by omega)
  rw [hm] at hlt ⊢
  dsimp only
  rw [rd_nat p m (by omega)]
  exact List.getElem_mem _

/-! spec_l08Prefix -/
theorem spec_l08Prefix.ev (l : List Int) (i h : Int) (hc : CurOk l i) : Tells (fun k => spec_l08Prefix.f k l i h) (fun r => PfxP r.1 r.2.1 ∧ CurOk l r.2.2.1) := by
  unfold spec_l08Prefix.f
  refine T_bind (spec_l01Below.ev l i h 1024 hc (by omega)) fun x hx => T_bind (spec_l01PickInt.ev l _ _ _ hx.2 (by simp) (by simp)) fun y hy => ?_
  have hb := hx.1.2.1 (by omega)
  rw [w64 (x := 167772160 + x.1) (by have := hx.1.1; omega) (by omega)]
  refine T_bind (spec_PrefixOf.ev _ _) ?_
  have h1 : 0 ≤ 167772160 + x.1 ∧ 167772160 + x.1 ≤ 4294967295 := ⟨by have := hx.1.1; omega, by omega⟩
  have h2 : 0 ≤ y.1 ∧ y.1 ≤ 32 := by
    have := hy.1
    simp at this
    omega
  rintro _ rfl
  rw [if_pos ⟨h1, h2⟩]
  exact T_ret ⟨pfx_of _ _ h1 h2, hy.2⟩

/-! spec_l09Routes -/
theorem routes_nil : RoutesP ([] : List S65) := ⟨fun i hi => absurd hi (by simp), by simp⟩
theorem spec_l09Routes.ev (l : List Int) (i h : Int) (hc : CurOk l i) : Tells (fun k => spec_l09Routes.f k l i h) (fun r => RoutesP r.1 ∧ CurOk l r.2.1) := by
  unfold spec_l09Routes.f
  refine T_loops (fun k (s : List S65 × Int × Int) j => spec_l09Routes.l0 k s.1 (j : Int) l s.2.1 s.2.2) 9 (fun _ s => RoutesP s.1 ∧ CurOk l s.2.1) (fun _ _ r => RoutesP r.1 ∧ CurOk l r.2.1) (fun j s hj hs ih => ?_) (fun s hs => ?_) 0 ([], i, h) (Nat.zero_le _) ⟨routes_nil, hc⟩
  · obtain ⟨rs, ci, ch⟩ := s
    obtain ⟨hR, hC⟩ := hs
    dsimp only at hR hC
    simp only [spec_l09Routes.l0]
    rw [wsucc hj (by omega)]
    refine T_bind (spec_l01Below.ev l ci ch 9 hC (by omega)) fun x hx => T_ite (fun h1 => ?_) (fun h1 => T_ret ⟨hR, hx.2⟩)
    refine T_bind (spec_l08Prefix.ev l _ _ hx.2) fun y hy => T_bind (spec_l01Below.ev l _ _ 4 hy.2 (by omega)) fun z hz => ?_
    refine T_bind (spec_PutRoute.ev rs _ _ _ (by have := hR.2; omega)) fun p hp => T_ite (fun h2 => ih (p.1, _, _) ⟨?_, hz.2⟩) (fun _ => ih (rs, _, _) ⟨hR, hz.2⟩)
    rw [hp] at h2 ⊢
    unfold putRoute at h2 ⊢
    split at h2
    · rename_i hh
      rw [if_pos hh]
      exact hh.2
    · cases h2
  · obtain ⟨rs, ci, ch⟩ := s
    obtain ⟨hR, hC⟩ := hs
    dsimp only at hR hC
    simp only [spec_l09Routes.l0]
    refine T_bind (spec_l01Below.ev l ci ch 9 hC (by omega)) fun x hx => T_neg ?_ (T_ret ⟨hR, hx.2⟩)
    have := hx.1.2.1 (by omega)
    omega

/-! spec_DrawRoutes -/
theorem spec_DrawRoutes.ev (l : List Int) (hn : l.length ≤ 1048576) : Tells (fun k => spec_DrawRoutes.f k l) (fun r => RoutesP r.1 ∧ 0 ≤ r.2 ∧ r.2 ≤ 4294967295) := by
  unfold spec_DrawRoutes.f
  refine T_bind (spec_l01New.ev l hn) fun c hc => ?_
  obtain ⟨e, hc⟩ := hc
  rw [e]
  refine T_bind (spec_l09Routes.ev l _ _ hc) fun x hx => T_bind (spec_l01Below.ev l _ _ 1100 hx.2 (by omega)) fun y hy => T_ret ⟨hx.1, ?_⟩
  have h1 := hy.1.1
  have h2 := hy.1.2.1 (by omega)
  dsimp only
  rw [w64 (by omega) (by omega)]
  omega

theorem lu_nil (a : Int) : lookUp ([] : List S65) a = 0 := by
  unfold lookUp
  split <;> rfl
theorem FnLongest : laws_FnLongest.Goal := by
  rintro l ⟨hl, _, _⟩
  refine Tells.rounds ?_
  unfold laws_FnLongest.f
  simp only [laws_big.eq, Option.bind_some, decide_eq_true_eq]
  refine T_ite (fun _ => T_ret rfl) (fun h => ?_)
  refine T_bind (spec_DrawRoutes.ev l (by omega)) fun d hd => ?_
  obtain ⟨rs, a⟩ := d
  obtain ⟨hR, a0, a1⟩ := hd
  dsimp only at hR a0 a1 ⊢
  have hn : rs.length ≤ 1048576 := by have := hR.2; omega
  refine T_bind (impl_LookUp.ev rs a hn) ?_
  rintro _ rfl
  have el : lookUp rs a = lu a rs (-1) 0 := by unfold lookUp; rw [if_pos hR]
  refine (T_loops (fun k (s : Int × Int) i => laws_FnLongest.l0 k rs a (lookUp rs a) s.1 s.2 (i : Int)) rs.length (fun i s => lu a (rs.drop i) s.1 s.2 = lookUp rs a) (fun i s r => r = true) (fun i s hi hs ih => ?_) (fun s hs => ?_) 0 (-1, 0) (Nat.zero_le _) (by simpa using el.symm))
  · obtain ⟨b, d⟩ := s
    simp only [laws_FnLongest.l0, rd_T65_at rs i hi]
    rw [wsucc hi (by omega)]
    have e : lu a (rs.drop i) b d = if InP rs[i].f0.f0 rs[i].f0.f1 a ∧ rs[i].f0.f1 > b then lu a (rs.drop (i + 1)) rs[i].f0.f1 rs[i].f1 else lu a (rs.drop (i + 1)) b d := by rw [List.drop_eq_getElem_cons hi]; rfl
    dsimp only at hs
    rw [e] at hs
    refine T_pos (by omega) (T_pos (by omega) (T_bind (spec_InPrefix.ev _ _ _) fun q hq => T_ite (fun h => T_ite (fun h2 => ?_) (fun h2 => ?_)) (fun h => ?_)))
    · rw [if_pos ⟨hq.1 h, h2⟩] at hs
      exact ih (rs[i].f0.f1, rs[i].f1) hs
    · rw [if_neg (fun k => h2 k.2)] at hs
      exact ih (b, d) hs
    · rw [if_neg (fun k => h (hq.2 k.1))] at hs
      exact ih (b, d) hs
  · obtain ⟨b, d⟩ := s
    rw [List.drop_of_length_le (Nat.le_refl _)] at hs
    simp only [laws_FnLongest.l0]
    refine T_neg (by omega) (T_pos hs.symm (T_bind (impl_LookUp.ev [] a (by simp)) ?_))
    rintro _ rfl
    refine T_pos (lu_nil a) (T_bind (spec_LookUp.ev rs a hn) ?_)
    rintro _ rfl
    exact T_ret (by simp)

end Go.Proofs.Ytbddppnhpapfkaa.Pure
