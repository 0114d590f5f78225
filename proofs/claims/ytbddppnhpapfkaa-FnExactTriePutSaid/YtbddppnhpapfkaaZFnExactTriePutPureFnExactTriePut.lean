/- FnExactTriePut: the pure statement, proved: for every input of the law its printed function answers true. No condition. -/
import Derived.Test.YtbddppnhpapfkaaZFnExactTriePutGoalFnExactTriePut
namespace Go.Proofs.Ytbddppnhpapfkaa.Pure
open Go.RowKit Go.Proofs.Ytbddppnhpapfkaa.PFnExactTriePut Go.Proofs.YtbddppnhpapfkaaW.PrintWords Go.Proofs.YtbddppnhpapfkaaW.PrintLast Go.Proofs.YtbddppnhpapfkaaW.PrintMore
set_option linter.unusedVariables false
set_option linter.unusedSimpArgs false
theorem w64 {x : Int} (h0 : -9223372036854775808 ≤ x) (h1 : x ≤ 9223372036854775807) : wrap64 x = x := by unfold wrap64; omega
theorem wsucc {i n : Nat} (h : i < n) (hn : n ≤ 9223372036854775807) : wrap64 ((i : Int) + 1) = ((i + 1 : Nat) : Int) := by unfold wrap64; omega
theorem wf64 {x : Int} (h : (Lit.int .i64 x).wf = true) : -9223372036854775808 ≤ x ∧ x ≤ 9223372036854775807 := by
  have h' : IntKind.i64.min ≤ x ∧ x ≤ IntKind.i64.max := by simpa [Lit.wf] using h
  exact h'
/-- From some number of rounds on it answers, and what it answers is so. -/
def Tells {α : Type} (g : Nat → Option α) (P : α → Prop) : Prop := ∃ r, P r ∧ Ev g r
theorem Tells.ev {α : Type} {g : Nat → Option α} {r : α} (h : Tells g (· = r)) : Ev g r := by
  obtain ⟨x, rfl, h⟩ := h
  exact h
theorem Tells.of {α : Type} {g : Nat → Option α} {r : α} (h : Ev g r) : Tells g (· = r) := ⟨r, rfl, h⟩
theorem Tells.rounds {α : Type} {g : Nat → Option α} {r : α} (h : Tells g (· = r)) : ∃ k, g k = some r := h.ev.rounds
theorem Tells.now {α : Type} {g : Option α} {r : α} (h : Tells (fun _ => g) (· = r)) : g = some r := by
  obtain ⟨K, h⟩ := h.ev
  exact h K (Nat.le_refl _)
theorem Tells.mono {α : Type} {g : Nat → Option α} {P Q : α → Prop} (h : Tells g P) (k : ∀ x, P x → Q x) : Tells g Q := by
  obtain ⟨x, hp, h⟩ := h
  exact ⟨x, k x hp, h⟩
theorem T_ret {α : Type} {P : α → Prop} {r : α} (h : P r) : Tells (fun _ => some r) P := ⟨r, h, Ev.now r⟩
theorem T_ite {α : Type} {c : Prop} {d : Decidable c} {f g : Nat → Option α} {P : α → Prop} (h1 : c → Tells f P) (h2 : ¬ c → Tells g P) : Tells (fun k => @ite _ c d (f k) (g k)) P := by
  by_cases h : c
  · obtain ⟨r, hp, he⟩ := h1 h
    exact ⟨r, hp, Ev.congr (fun k => if_pos h) he⟩
  · obtain ⟨r, hp, he⟩ := h2 h
    exact ⟨r, hp, Ev.congr (fun k => if_neg h) he⟩
theorem T_pos {α : Type} {c : Prop} {d : Decidable c} {f g : Nat → Option α} {P : α → Prop} (h : c) (hf : Tells f P) : Tells (fun k => @ite _ c d (f k) (g k)) P := T_ite (fun _ => hf) (fun h' => absurd h h')
theorem T_neg {α : Type} {c : Prop} {d : Decidable c} {f g : Nat → Option α} {P : α → Prop} (h : ¬ c) (hg : Tells g P) : Tells (fun k => @ite _ c d (f k) (g k)) P := T_ite (fun h' => absurd h' h) (fun _ => hg)
theorem T_bind {α β : Type} {g : Nat → Option α} {f : Nat → α → Option β} {Q : α → Prop} {P : β → Prop} (h : Tells g Q) (k : ∀ x, Q x → Tells (fun n => f n x) P) : Tells (fun n => (g n).bind (f n)) P := by
  obtain ⟨x, hq, he⟩ := h
  obtain ⟨r, hp, he'⟩ := k x hq
  exact ⟨r, hp, Ev.bind he he'⟩
theorem T_step {α : Type} {g : Nat → Option α} {P : α → Prop} (h : Tells (fun k => g (k + 1)) P) : Tells g P := by
  obtain ⟨r, hp, he⟩ := h
  exact ⟨r, hp, Ev.step (fun _ => rfl) he⟩
theorem T_eq {α : Type} {g f : Nat → Option α} {P : α → Prop} (h : ∀ k, g k = f k) (hf : Tells f P) : Tells g P := by
  obtain ⟨r, hp, he⟩ := hf
  exact ⟨r, hp, Ev.congr h he⟩
theorem T_some {α : Type} {g : Nat → Option α} {P : α → Prop} {r : α} (h : ∀ k, g k = some r) (hp : P r) : Tells g P := T_eq h (T_ret hp)
theorem T_unique {α : Type} {g : Nat → Option α} {P : α → Prop} {r : α} (h : Tells g P) (h' : Tells g (· = r)) : P r := by
  obtain ⟨x, hp, K, h⟩ := h
  obtain ⟨K', h'⟩ := h'.ev
  have a := h (max K K') (by omega)
  have b := h' (max K K') (by omega)
  rw [a] at b
  exact Option.some.inj b ▸ hp
/-- A loop with a counter, from the last round back. -/
theorem T_loop {ρ : Type} (g : Nat → Nat → Option ρ) (n : Nat) (P : Nat → ρ → Prop)
    (step : ∀ i, i < n → Tells (fun k => g k (i + 1)) (P (i + 1)) → Tells (fun k => g (k + 1) i) (P i)) (fin : Tells (fun k => g (k + 1) n) (P n)) : ∀ i, i ≤ n → Tells (fun k => g k i) (P i) := by
  have key : ∀ d i, i + d = n → Tells (fun k => g k i) (P i) := by
    intro d
    induction d with
    | zero =>
      intro i hi
      obtain rfl : i = n := by omega
      exact T_step fin
    | succ d ih =>
      intro i hi
      exact T_step (step i (by omega) (ih (i + 1) (by omega)))
  exact fun i hi => key (n - i) i (by omega)
/-- A loop whose answer does not hang on the round. -/
theorem T_loop' {ρ : Type} (g : Nat → Nat → Option ρ) (n : Nat) (P : ρ → Prop)
    (step : ∀ i, i < n → Tells (fun k => g k (i + 1)) P → Tells (fun k => g (k + 1) i) P) (fin : Tells (fun k => g (k + 1) n) P) : Tells (fun k => g k 0) P :=
  T_loop g n (fun _ => P) step fin 0 (Nat.zero_le _)
/-- What holds of all from a round on. -/
def From (C : Nat → Prop) (n i : Nat) : Prop := ∀ j, i ≤ j → j < n → C j
theorem From.cons {C : Nat → Prop} {n i : Nat} (h : C i) : From C n (i + 1) ↔ From C n i := by
  refine ⟨fun k j a b => ?_, fun k j a b => k j (by omega) b⟩
  by_cases e : j = i
  · exact e ▸ h
  · exact k j (by omega) b
theorem From.none {C : Nat → Prop} {n i : Nat} (hi : i < n) (h : ¬ C i) : ¬ From C n i := fun k => h (k i (Nat.le_refl _) hi)
theorem From.last (C : Nat → Prop) (n : Nat) : From C n n := fun j a b => absurd b (by omega)
theorem set_copy_map {α β : Type} (l : List α) (f : α → β) (z : β) (i : Nat) (h : i < l.length) (x : β) (hx : x = f l[i]) : ((l.take i).map f ++ List.replicate (l.length - i) z).set i x = (l.take (i + 1)).map f ++ List.replicate (l.length - (i + 1)) z := by
  subst hx
  have e : l.length - i = (l.length - (i + 1)) + 1 := by omega
  have hl : ((l.take i).map f).length = i := by rw [List.length_map, List.length_take]; omega
  rw [e, List.replicate_succ, List.set_append_right _ _ (by omega), hl, Nat.sub_self, List.set_cons_zero, List.take_succ_eq_append_getElem h, List.map_append]
  simp only [List.map_cons, List.map_nil, List.append_assoc, List.singleton_append]
theorem set_copy {α : Type} (l : List α) (z : α) (i : Nat) (h : i < l.length) (x : α) (hx : x = l[i]) : (l.take i ++ List.replicate (l.length - i) z).set i x = l.take (i + 1) ++ List.replicate (l.length - (i + 1)) z := by
  have := set_copy_map l id z i h x hx
  rw [List.map_id, List.map_id] at this
  exact this
theorem rd_nat (xs : List Int) (i : Nat) (h : i < xs.length) : rd xs (i : Int) = xs[i] := by simp [rd, List.getD_eq_getElem?_getD, h]
theorem rdOf_nat {α : Type} (d : α) (xs : List α) (i : Nat) (h : i < xs.length) : rdOf d xs (i : Int) = xs[i] := by simp [rdOf, List.getD_eq_getElem?_getD, h]
/-- a where c is so, else b. -/
def Either {ρ : Type} (c : Prop) (a b r : ρ) : Prop := (c ∧ r = a) ∨ (¬ c ∧ r = b)
theorem Either.same {ρ : Type} {c c' : Prop} {a b r s : ρ} (h : Either c a b r) (h' : Either c' a b s) (e : c ↔ c') : r = s := by
  rcases h with ⟨h, rfl⟩ | ⟨h, rfl⟩ <;> rcases h' with ⟨h', rfl⟩ | ⟨h', rfl⟩
  · rfl
  · exact absurd (e.1 h) h'
  · exact absurd (e.2 h') h
  · rfl
/-- A loop that checks each place. -/
theorem T_all {ρ : Type} (g : Nat → Nat → Option ρ) (n : Nat) (C : Nat → Prop) (bad fin : ρ)
    (step : ∀ i, i < n → C i → ∀ P : ρ → Prop, Tells (fun k => g k (i + 1)) P → Tells (fun k => g (k + 1) i) P) (out : ∀ i, i < n → ¬ C i → Tells (fun k => g (k + 1) i) (· = bad)) (hf : Tells (fun k => g (k + 1) n) (· = fin)) :
    Tells (fun k => g k 0) (Either (From C n 0) fin bad) := by
  refine T_loop g n (fun i => Either (From C n i) fin bad) (fun i hi he => ?_) (hf.mono fun r hr => .inl ⟨From.last C n, hr⟩) 0 (Nat.zero_le _)
  by_cases hc : C i
  · refine (step i hi hc _ he).mono fun r hr => ?_
    unfold Either at hr ⊢
    rw [From.cons hc] at hr
    exact hr
  · exact (out i hi hc).mono fun r hr => .inr ⟨From.none hi hc, hr⟩
/-- A loop that looks for the first place. -/
theorem T_find {ρ : Type} (g : Nat → Nat → Option ρ) (n : Nat) (C : Nat → Prop) (got : Nat → ρ) (fin : ρ)
    (step : ∀ i, i < n → ¬ C i → ∀ P : ρ → Prop, Tells (fun k => g k (i + 1)) P → Tells (fun k => g (k + 1) i) P) (out : ∀ i, i < n → C i → Tells (fun k => g (k + 1) i) (· = got i)) (hf : Tells (fun k => g (k + 1) n) (· = fin)) :
    Tells (fun k => g k 0) (fun r => (∃ j, j < n ∧ C j ∧ (∀ m, m < j → ¬ C m) ∧ r = got j) ∨ ((∀ j, j < n → ¬ C j) ∧ r = fin)) := by
  refine (T_loop g n (fun i r => (∃ j, i ≤ j ∧ j < n ∧ C j ∧ (∀ m, i ≤ m → m < j → ¬ C m) ∧ r = got j) ∨ ((∀ j, i ≤ j → j < n → ¬ C j) ∧ r = fin)) (fun i hi he => ?_)
    (hf.mono fun r hr => .inr ⟨fun j a b => absurd b (by omega), hr⟩) 0 (Nat.zero_le _)).mono fun r hr => ?_
  · by_cases hc : C i
    · exact (out i hi hc).mono fun r hr => .inl ⟨i, Nat.le_refl _, hi, hc, fun m a b => absurd b (by omega), hr⟩
    · refine (step i hi hc _ he).mono fun r hr => ?_
      rcases hr with ⟨j, a, b, c, d, e⟩ | ⟨a, b⟩
      · refine .inl ⟨j, by omega, b, c, fun m h1 h2 => ?_, e⟩
        by_cases hm : m = i
        · exact hm ▸ hc
        · exact d m (by omega) h2
      · refine .inr ⟨fun j h1 h2 => ?_, b⟩
        by_cases hm : j = i
        · exact hm ▸ hc
        · exact a j (by omega) h2
  · rcases hr with ⟨j, _, b, c, d, e⟩ | ⟨a, b⟩
    · exact .inl ⟨j, b, c, fun m hm => d m (Nat.zero_le _) hm, e⟩
    · exact .inr ⟨fun j hj => a j (Nat.zero_le _) hj, b⟩
theorem ba_ext {a b : ByteArray} (h : a.toList = b.toList) : a = b := by
  rw [ByteArray.toList_eq, ByteArray.toList_eq] at h
  cases a; cases b
  simpa using h
/-- The same of a test. -/
theorem T_allb (g : Nat → Nat → Option Bool) (n : Nat) (C : Nat → Prop) (F : Prop)
    (step : ∀ i, i < n → C i → ∀ P : Bool → Prop, Tells (fun k => g k (i + 1)) P → Tells (fun k => g (k + 1) i) P) (out : ∀ i, i < n → ¬ C i → Tells (fun k => g (k + 1) i) (· = false)) (hf : Tells (fun k => g (k + 1) n) (fun r => r = true ↔ F)) :
    Tells (fun k => g k 0) (fun r => r = true ↔ (∀ j, j < n → C j) ∧ F) := by
  refine (T_loop g n (fun i r => r = true ↔ From C n i ∧ F) (fun i hi he => ?_) (hf.mono fun r hr => hr.trans ⟨fun h => ⟨From.last C n, h⟩, fun h => h.2⟩) 0 (Nat.zero_le _)).mono fun r hr => by
      rw [hr]
      exact ⟨fun h => ⟨fun j hj => h.1 j (Nat.zero_le _) hj, h.2⟩, fun h => ⟨fun j _ hj => h.1 j hj, h.2⟩⟩
  by_cases hc : C i
  · refine (step i hi hc _ he).mono fun r hr => ?_
    rw [hr, From.cons hc]
  · exact (out i hi hc).mono fun r hr => by
      rw [hr]
      exact ⟨fun h => absurd h Bool.false_ne_true, fun h => absurd h.1 (From.none hi hc)⟩
theorem same_bool {c : Prop} {r s : Bool} (h : r = true ↔ c) (k : s = true ↔ c) : s = r := Bool.eq_iff_iff.2 (k.trans h.symm)
theorem mem_drop_iff {α : Type} {l : List α} {i : Nat} (h : i < l.length) (a : α) : a ∈ l.drop i ↔ a = l[i] ∨ a ∈ l.drop (i + 1) := by
  rw [List.drop_eq_getElem_cons h, List.mem_cons]
theorem drop_eq_iff {α : Type} {a b : List α} {i : Nat} (ha : i < a.length) (hb : i < b.length) : a.drop i = b.drop i ↔ a[i] = b[i] ∧ a.drop (i + 1) = b.drop (i + 1) := by
  rw [List.drop_eq_getElem_cons ha, List.drop_eq_getElem_cons hb, List.cons.injEq]
/-- A loop with a counter and a state. -/
theorem T_loops {ρ σ : Type} (g : Nat → σ → Nat → Option ρ) (n : Nat) (Inv : Nat → σ → Prop) (P : Nat → σ → ρ → Prop)
    (step : ∀ i s, i < n → Inv i s → (∀ s', Inv (i + 1) s' → Tells (fun k => g k s' (i + 1)) (P (i + 1) s')) → Tells (fun k => g (k + 1) s i) (P i s))
    (fin : ∀ s, Inv n s → Tells (fun k => g (k + 1) s n) (P n s)) : ∀ i s, i ≤ n → Inv i s → Tells (fun k => g k s i) (P i s) := by
  have key : ∀ d i s, i + d = n → Inv i s → Tells (fun k => g k s i) (P i s) := by
    intro d
    induction d with
    | zero =>
      intro i s hi hs
      obtain rfl : i = n := by omega
      exact T_step (fin s hs)
    | succ d ih =>
      intro i s hi hs
      exact T_step (step i s (by omega) hs (fun s' hs' => ih (i + 1) s' (by omega) hs'))
  exact fun i s hi hs => key (n - i) i s (by omega) hs
def FindP {ρ : Type} (n : Nat) (C : Nat → Prop) (got : Nat → ρ) (fin : ρ) (r : ρ) : Prop := (∃ j, j < n ∧ C j ∧ (∀ m, m < j → ¬ C m) ∧ r = got j) ∨ ((∀ j, j < n → ¬ C j) ∧ r = fin)
theorem FindP.same {ρ : Type} {n : Nat} {C : Nat → Prop} {got : Nat → ρ} {fin r s : ρ} (h : FindP n C got fin r) (k : FindP n C got fin s) : s = r := by
  rcases h with ⟨j, a, b, c, rfl⟩ | ⟨a, rfl⟩ <;> rcases k with ⟨j', a', b', c', rfl⟩ | ⟨a', rfl⟩
  · rcases Nat.lt_trichotomy j j' with h | h | h
    · exact absurd b (c' _ h)
    · rw [h]
    · exact absurd b' (c _ h)
  · exact absurd b (a' j a)
  · exact absurd b' (a j' a')
  · rfl
theorem ba_append_nil (b : ByteArray) : b ++ (⟨#[]⟩ : ByteArray) = b := by
  apply ByteArray.ext
  simp
theorem ba_nil_append (b : ByteArray) : (⟨#[]⟩ : ByteArray) ++ b = b := by
  apply ByteArray.ext
  simp
def PfxP (a n : Int) : Prop := (0 ≤ a ∧ a ≤ 4294967295) ∧ (0 ≤ n ∧ n ≤ 32) ∧ a % 2 ^ (32 - n).toNat = 0
def InP (p n a : Int) : Prop := PfxP p n ∧ (0 ≤ a ∧ a ≤ 4294967295) ∧ a - a % 2 ^ (32 - n).toNat = p
instance decPfxP (a n : Int) : Decidable (PfxP a n) := by unfold PfxP; infer_instance
instance decInP (p n a : Int) : Decidable (InP p n a) := by unfold InP; infer_instance
theorem pow_rng (m : Nat) (h : m ≤ 32) : (1 : Int) ≤ 2 ^ m ∧ (2 : Int) ^ m ≤ 4294967296 := by
  have h1 : 2 ^ m ≤ 2 ^ 32 := Nat.pow_le_pow_right (by decide) h
  have h2 : 1 ≤ 2 ^ m := Nat.one_le_two_pow
  have e : ((2 ^ m : Nat) : Int) = (2 : Int) ^ m := by simp
  omega
theorem wrap_i64_in {n : Int} (h0 : -9223372036854775808 ≤ n) (h1 : n ≤ 9223372036854775807) : IntKind.i64.wrap n = n := by
  rw [IntKind.wrap_i64]
  omega
theorem bits_andNot_mask (i : Nat) (hi : i ≤ 32) (x : Int) (h₀ : 0 ≤ x) (h₁ : x ≤ 4294967295) : Go.bits .andNot .i64 x (2 ^ i - 1) = x - x % 2 ^ i := by
  obtain ⟨a, rfl⟩ := Int.eq_ofNat_of_zero_le h₀
  have hp := pow_rng i hi
  have hpn : 1 ≤ 2 ^ i := Nat.one_le_two_pow
  have hc : ((2 : Int) ^ i - 1) = ((2 ^ i - 1 : Nat) : Int) := by
    rw [Int.natCast_sub hpn]; simp
  have ha : a < 2 ^ 64 := by omega
  have hb : 2 ^ i - 1 < 2 ^ 64 := by
    have : 2 ^ i ≤ 2 ^ 32 := Nat.pow_le_pow_right (by decide) hi
    omega
  have hm : (BitVec.ofNat 64 a &&& ~~~ (BitVec.ofNat 64 (2 ^ i - 1))).toNat = a - a % 2 ^ i := by
    have e1 : (BitVec.ofNat 64 a &&& BitVec.ofNat 64 (2 ^ i - 1)).toNat = a % 2 ^ i := by
      rw [BitVec.toNat_and, BitVec.toNat_ofNat, BitVec.toNat_ofNat, Nat.mod_eq_of_lt ha, Nat.mod_eq_of_lt hb, Nat.and_two_pow_sub_one_eq_mod]
    have e2 : (BitVec.ofNat 64 a &&& BitVec.ofNat 64 (2 ^ i - 1)) + (BitVec.ofNat 64 a &&& ~~~ (BitVec.ofNat 64 (2 ^ i - 1))) = BitVec.ofNat 64 a := by
      generalize BitVec.ofNat 64 a = u
      generalize BitVec.ofNat 64 (2 ^ i - 1) = v
      rw [BitVec.add_eq_or_of_and_eq_zero]
      · ext j h
        simp
        cases (u[j]) <;> simp
      · ext j h
        simp
        cases (u[j]) <;> simp
    have e3 := congrArg BitVec.toNat e2
    rw [BitVec.toNat_add, e1, BitVec.toNat_ofNat, Nat.mod_eq_of_lt ha] at e3
    have h4 : (BitVec.ofNat 64 a &&& ~~~ (BitVec.ofNat 64 (2 ^ i - 1))).toNat ≤ a := by
      rw [BitVec.toNat_and, BitVec.toNat_ofNat, Nat.mod_eq_of_lt ha]
      exact Nat.and_le_left
    have h5 : a % 2 ^ i ≤ a := Nat.mod_le _ _
    omega
  have h5 : a % 2 ^ i ≤ a := Nat.mod_le _ _
  rw [hc]
  have e6 : Go.bits .andNot .i64 (a : Int) ((2 ^ i - 1 : Nat) : Int) = IntKind.i64.wrap ((BitVec.ofNat 64 a &&& ~~~ (BitVec.ofNat 64 (2 ^ i - 1))).toNat : Int) := by
    unfold Go.bits
    simp only [BitVec.ofInt_natCast]
    rfl
  rw [e6, hm, wrap_i64_in (by omega) (by omega)]
  have e7 : ((a % 2 ^ i : Nat) : Int) = (a : Int) % 2 ^ i := by simp
  omega

/-- A bit of an address, the greatest one first. -/
def bitAt (a i : Int) : Int := a / 2 ^ (31 - i).toNat % 2
theorem bitAt_01 (a i : Int) : bitAt a i = 0 ∨ bitAt a i = 1 := by unfold bitAt; omega
theorem pfx_of (a n : Int) (h1 : 0 ≤ a ∧ a ≤ 4294967295) (h2 : 0 ≤ n ∧ n ≤ 32) : PfxP (a - a % 2 ^ (32 - n).toNat) n := by
  have hp := pow_rng (32 - n).toNat (by omega)
  have hm0 := Int.emod_nonneg a (show (2 : Int) ^ (32 - n).toNat ≠ 0 by omega)
  have hm1 := Int.emod_lt_of_pos a (show (0 : Int) < 2 ^ (32 - n).toNat by omega)
  have hd := Int.mul_ediv_add_emod a (2 ^ (32 - n).toNat)
  have e : a - a % 2 ^ (32 - n).toNat = 2 ^ (32 - n).toNat * (a / 2 ^ (32 - n).toNat) := by omega
  have hq := Int.mul_nonneg (show (0 : Int) ≤ 2 ^ (32 - n).toNat by omega) (Int.ediv_nonneg h1.1 (show (0 : Int) ≤ 2 ^ (32 - n).toNat by omega))
  exact ⟨by omega, h2, by rw [e]; exact Int.mul_emod_right _ _⟩
def bump (u : List Int) (a : Int) : List Int := if a = 0 then u else u.set a.toNat (rd u a + 1)
def upsOf (n : Nat) (t : List S104) : List Int := t.foldl (fun u x => bump (bump u x.f0) x.f1) (List.replicate n 0)
def Kid (n i : Nat) (a : Int) : Prop := a = 0 ∨ ((i : Int) + 1 ≤ a ∧ a ≤ (n : Int) - 1)
def TwigC (n i : Nat) (x : S104) : Prop := Kid n i x.f0 ∧ Kid n i x.f1 ∧ (0 ≤ x.f2 ∧ x.f2 ≤ 99)
def TrieP (t : List S104) : Prop := (1 ≤ t.length ∧ t.length ≤ 400) ∧ (∀ i (h : i < t.length), TwigC t.length i t[i]) ∧ ∀ i : Nat, 1 ≤ i → i < t.length → rd (upsOf t.length t) (i : Int) = 1
theorem rd_T104_at (xs : List S104) (i : Nat) (h : i < xs.length) : rd_T104 xs (i : Int) = xs[i] := by simp [rd_T104, List.getD_eq_getElem?_getD, h]
theorem bump_len (u : List Int) (a : Int) : (bump u a).length = u.length := by unfold bump; split <;> simp
theorem rd_set (u : List Int) (j : Nat) (v a : Int) : rd (u.set j v) a = if j = a.toNat ∧ j < u.length then v else rd u a := by
  unfold rd
  simp only [List.getD_eq_getElem?_getD, List.getElem?_set]
  by_cases h : j = a.toNat
  · subst h
    by_cases h2 : a.toNat < u.length
    · simp [h2]
    · simp [h2]
  · simp [h]
theorem bump_rd_ne (u : List Int) (a b : Int) (h : a.toNat ≠ b.toNat ∨ a = 0) : rd (bump u a) b = rd u b := by
  unfold bump
  split
  · rfl
  · rw [rd_set, if_neg (fun k => by rcases h with h | h <;> omega)]
theorem bump_rng (u : List Int) (m : Int) (hm : 0 ≤ m) (h : ∀ a, 0 ≤ rd u a ∧ rd u a ≤ m) (b : Int) : ∀ a, 0 ≤ rd (bump u b) a ∧ rd (bump u b) a ≤ m + 1 := by
  intro a
  unfold bump
  split
  · have := h a
    omega
  · rw [rd_set]
    split
    · have := h b
      omega
    · have := h a
      omega
theorem ups_len (n : Nat) (t : List S104) : (upsOf n t).length = n := by
  unfold upsOf
  have : ∀ (t : List S104) (u : List Int), (t.foldl (fun u x => bump (bump u x.f0) x.f1) u).length = u.length := by
    intro t
    induction t with
    | nil => intro u; rfl
    | cons x t ih =>
      intro u
      rw [List.foldl_cons, ih, bump_len, bump_len]
  rw [this]
  simp
theorem ups_succ (n : Nat) (t : List S104) (i : Nat) (h : i < t.length) : upsOf n (t.take (i + 1)) = bump (bump (upsOf n (t.take i)) t[i].f0) t[i].f1 := by
  unfold upsOf
  rw [List.take_succ_eq_append_getElem h, List.foldl_append]
  rfl
theorem ups_rng (n : Nat) (t : List S104) (i : Nat) (hi : i ≤ t.length) : ∀ a, 0 ≤ rd (upsOf n (t.take i)) a ∧ rd (upsOf n (t.take i)) a ≤ 2 * (i : Int) := by
  induction i with
  | zero =>
    intro a
    have : rd (upsOf n (t.take 0)) a = 0 := by
      simp only [List.take_zero, upsOf, List.foldl_nil, rd, List.getD_eq_getElem?_getD, List.getElem?_replicate]
      split <;> rfl
    omega
  | succ i ih =>
    intro a
    rw [ups_succ n t i (by omega)]
    have := bump_rng _ _ (by omega) (bump_rng _ _ (by omega) (ih (by omega)) (t[i]'(by omega)).f0) (t[i]'(by omega)).f1 a
    omega
/-- Later twigs do not turn an earlier place's number. -/
theorem ups_later (t : List S104) (hC : ∀ i (h : i < t.length), TwigC t.length i t[i]) (a : Nat) : ∀ d m, m + d = t.length → a < m → rd (upsOf t.length t) (a : Int) = rd (upsOf t.length (t.take m)) (a : Int) := by
  intro d
  induction d with
  | zero =>
    intro m hm _
    rw [List.take_of_length_le (by omega)]
  | succ d ih =>
    intro m hm ha
    have hlt : m < t.length := by omega
    rw [ih (m + 1) (by omega) (by omega), ups_succ _ _ _ hlt]
    obtain ⟨h0, h1, _⟩ := hC m hlt
    have h0' : (t[m]).f0.toNat ≠ ((a : Int)).toNat ∨ (t[m]).f0 = 0 := by rcases h0 with h0 | h0 <;> omega
    have h1' : (t[m]).f1.toNat ≠ ((a : Int)).toNat ∨ (t[m]).f1 = 0 := by rcases h1 with h1 | h1 <;> omega
    rw [bump_rd_ne _ _ _ h1', bump_rd_ne _ _ _ h0']
def tf (t : List S104) (a : Int) : Nat → Int → Int → Int → Int
  | 0, _, _, dst => dst
  | d + 1, i, p, dst =>
    let q := if bitAt a i = 1 then (rd_T104 t p).f1 else (rd_T104 t p).f0
    if q = 0 then dst else tf t a d (i + 1) q (if (rd_T104 t q).f2 = 0 then dst else (rd_T104 t q).f2)
open Classical in
noncomputable def trieFind (t : List S104) (a : Int) : Int := if TrieP t ∧ 0 ≤ a ∧ a ≤ 4294967295 then tf t a 32 0 0 (rd_T104 t 0).f2 else 0
theorem tf_next (t : List S104) (h : TrieP t) (a i p : Int) (h0 : 0 ≤ p) (h1 : p < t.length) (q : Int) (hq : q = if bitAt a i = 1 then (rd_T104 t p).f1 else (rd_T104 t p).f0) (hq0 : q ≠ 0) : 0 ≤ q ∧ q < t.length := by
  obtain ⟨m, rfl⟩ := Int.eq_ofNat_of_zero_le h0
  have hm : m < t.length := by omega
  obtain ⟨k0, k1, _⟩ := h.2.1 m hm
  rw [rd_T104_at t m hm] at hq
  split at hq
  · rcases k1 with k1 | k1 <;> omega
  · rcases k0 with k0 | k0 <;> omega
def isK (q : Int) (x : S104) : Int := (if x.f0 = q then 1 else 0) + (if x.f1 = q then 1 else 0)
def cnt : List S104 → Int → Int
  | [], _ => 0
  | x :: t, q => isK q x + cnt t q
theorem isK_nn (q : Int) (x : S104) : 0 ≤ isK q x := by unfold isK; split <;> split <;> omega
theorem cnt_nn (t : List S104) (q : Int) : 0 ≤ cnt t q := by
  induction t with
  | nil => exact Int.le_refl _
  | cons x t ih => have := isK_nn q x; simp only [cnt]; omega
theorem cnt_append (t u : List S104) (q : Int) : cnt (t ++ u) q = cnt t q + cnt u q := by
  induction t with
  | nil => simp [cnt]
  | cons x t ih => simp only [List.cons_append, cnt, ih]; omega
theorem cnt_one (t : List S104) (q : Int) (i : Nat) (h : i < t.length) : isK q t[i] ≤ cnt t q := by
  induction t generalizing i with
  | nil => simp at h
  | cons x t ih =>
    have hx := isK_nn q x
    have ht := cnt_nn t q
    cases i with
    | zero => simp only [cnt, List.getElem_cons_zero]; omega
    | succ i =>
      have := ih i (by simpa using h)
      simp only [cnt, List.getElem_cons_succ]
      omega
theorem cnt_two (t : List S104) (q : Int) (i j : Nat) (hij : i < j) (h : j < t.length) : isK q (t[i]'(by omega)) + isK q t[j] ≤ cnt t q := by
  induction t generalizing i j with
  | nil => simp at h
  | cons x t ih =>
    have hx := isK_nn q x
    cases j with
    | zero => omega
    | succ j =>
      have hj : j < t.length := by simpa using h
      cases i with
      | zero =>
        have := cnt_one t q j hj
        simp only [cnt, List.getElem_cons_zero, List.getElem_cons_succ]
        omega
      | succ i =>
        have := ih i j (by omega) hj
        simp only [cnt, List.getElem_cons_succ]
        omega
theorem cnt_set (t : List S104) (q : Int) (i : Nat) (h : i < t.length) (y : S104) : cnt (t.set i y) q = cnt t q - isK q t[i] + isK q y := by
  induction t generalizing i with
  | nil => simp at h
  | cons x t ih =>
    cases i with
    | zero => simp only [List.set_cons_zero, cnt, List.getElem_cons_zero]; omega
    | succ i =>
      have := ih i (by simpa using h)
      simp only [List.set_cons_succ, cnt, List.getElem_cons_succ, this]
      omega
theorem bump_cnt (u : List Int) (a q : Int) (hq : 0 < q) (hu : q.toNat < u.length) : rd (bump u a) q = rd u q + if a = q then 1 else 0 := by
  unfold bump
  split
  · rw [if_neg (by omega)]; omega
  · rw [rd_set]
    split
    · rw [if_pos (by omega)]
      have : a = q := by omega
      rw [this]
    · rw [if_neg (by rintro rfl; omega)]; omega
theorem ups_cnt (n : Nat) (t : List S104) (q : Int) (hq : 0 < q) (hn : q < n) : rd (upsOf n t) q = cnt t q := by
  have : ∀ (t : List S104) (u : List Int), u.length = n → rd (t.foldl (fun u x => bump (bump u x.f0) x.f1) u) q = rd u q + cnt t q := by
    intro t
    induction t with
    | nil => intro u _; simp [cnt]
    | cons x t ih =>
      intro u hu
      rw [List.foldl_cons, ih _ (by rw [bump_len, bump_len, hu]), bump_cnt _ _ _ hq (by rw [bump_len, hu]; omega), bump_cnt _ _ _ hq (by rw [hu]; omega)]
      simp only [cnt, isK]
      omega
  unfold upsOf
  rw [this t _ (by simp)]
  have : rd (List.replicate n 0) q = 0 := by
    simp only [rd, List.getD_eq_getElem?_getD, List.getElem?_replicate]
    split <;> rfl
  omega
def TrieQ (t : List S104) : Prop := 1 ≤ t.length ∧ (∀ i (h : i < t.length), TwigC t.length i t[i]) ∧ ∀ q : Int, 1 ≤ q → q < t.length → cnt t q = 1
theorem TrieP_iff (t : List S104) : TrieP t ↔ TrieQ t ∧ t.length ≤ 400 := by
  unfold TrieP TrieQ
  constructor
  · rintro ⟨⟨a, b⟩, c, d⟩
    refine ⟨⟨a, c, fun q h1 h2 => ?_⟩, b⟩
    rw [← ups_cnt t.length t q (by omega) h2]
    obtain ⟨m, rfl⟩ := Int.eq_ofNat_of_zero_le (show 0 ≤ q by omega)
    exact d m (by omega) (by omega)
  · rintro ⟨⟨a, c, d⟩, b⟩
    refine ⟨⟨a, b⟩, c, fun i h1 h2 => ?_⟩
    rw [ups_cnt t.length t i (by omega) (by omega)]
    exact d i (by omega) (by omega)
def kidOf (t : List S104) (p b : Int) : Int := if b = 1 then (rd_T104 t p).f1 else (rd_T104 t p).f0
theorem kid_rng {t : List S104} (h : TrieQ t) {p : Int} (h0 : 0 ≤ p) (h1 : p < t.length) (b : Int) : kidOf t p b = 0 ∨ (p < kidOf t p b ∧ kidOf t p b < t.length) := by
  obtain ⟨m, rfl⟩ := Int.eq_ofNat_of_zero_le h0
  have hm : m < t.length := by omega
  obtain ⟨k0, k1, _⟩ := h.2.1 m hm
  unfold kidOf
  rw [rd_T104_at t m hm]
  split
  · rcases k1 with k1 | k1 <;> omega
  · rcases k0 with k0 | k0 <;> omega
theorem kid_uniq {t : List S104} (h : TrieQ t) {p p' b b' : Int} (h0 : 0 ≤ p) (h1 : p < t.length) (h0' : 0 ≤ p') (h1' : p' < t.length) (hb : b = 0 ∨ b = 1) (hb' : b' = 0 ∨ b' = 1) (hk : kidOf t p b ≠ 0) (he : kidOf t p b = kidOf t p' b') : p = p' ∧ b = b' := by
  have hr := kid_rng h h0 h1 b
  generalize hq : kidOf t p b = q at *
  obtain ⟨m, rfl⟩ := Int.eq_ofNat_of_zero_le h0
  obtain ⟨m', rfl⟩ := Int.eq_ofNat_of_zero_le h0'
  have hm : m < t.length := by omega
  have hm' : m' < t.length := by omega
  have hc := h.2.2 q (by omega) (by omega)
  have e1 : 1 ≤ isK q t[m] := by
    unfold kidOf at hq
    rw [rd_T104_at t m hm] at hq
    unfold isK
    split at hq
    · rw [if_pos hq]; split <;> omega
    · rw [if_pos hq]; split <;> omega
  have e2 : 1 ≤ isK q t[m'] := by
    unfold kidOf at he
    rw [rd_T104_at t m' hm'] at he
    unfold isK
    split at he
    · rw [if_pos he.symm]; split <;> omega
    · rw [if_pos he.symm]; split <;> omega
  have em : m = m' := by
    rcases Nat.lt_trichotomy m m' with hl | hl | hl
    · have := cnt_two t q m m' hl hm'; omega
    · exact hl
    · have := cnt_two t q m' m hl hm; omega
  subst em
  refine ⟨rfl, ?_⟩
  have c1 := cnt_one t q m hm
  have bad : ¬ ((t[m]).f0 = q ∧ (t[m]).f1 = q) := by
    rintro ⟨a, c⟩
    unfold isK at c1
    rw [if_pos a, if_pos c] at c1
    omega
  unfold kidOf at hq he
  rw [rd_T104_at t m hm] at hq he
  rcases hb with rfl | rfl <;> rcases hb' with rfl | rfl
  · rfl
  · simp at hq he
    exact absurd ⟨hq, he.symm⟩ bad
  · simp at hq he
    exact absurd ⟨he.symm, hq⟩ bad
  · rfl
/-- The place that the first d bits of a lead to; -1: none. -/
def reach (t : List S104) (a : Int) : Nat → Int
  | 0 => 0
  | d + 1 => if reach t a d = -1 then -1 else if kidOf t (reach t a d) (bitAt a (d : Int)) = 0 then -1 else kidOf t (reach t a d) (bitAt a (d : Int))
def val (t : List S104) (a : Int) (d : Nat) : Int := if reach t a d = -1 then 0 else (rd_T104 t (reach t a d)).f2
def Agree (d : Nat) (x y : Int) : Prop := ∀ j : Nat, j < d → bitAt x (j : Int) = bitAt y (j : Int)
theorem reach_rng {t : List S104} (h : TrieQ t) (a : Int) (d : Nat) : reach t a d = -1 ∨ (0 ≤ reach t a d ∧ reach t a d < t.length) := by
  induction d with
  | zero => have := h.1; exact .inr ⟨Int.le_refl _, by simp only [reach]; omega⟩
  | succ d ih =>
    simp only [reach]
    split
    · exact .inl rfl
    · split
      · exact .inl rfl
      · rcases ih with ih | ih
        · contradiction
        · have := kid_rng h ih.1 ih.2 (bitAt a (d : Int))
          exact .inr (by omega)
theorem reach_agree (t : List S104) (x y : Int) (d : Nat) (h : Agree d x y) : reach t x d = reach t y d := by
  induction d with
  | zero => rfl
  | succ d ih =>
    have := ih (fun j hj => h j (by omega))
    simp only [reach, this, h d (by omega)]
theorem reach_inj {t : List S104} (h : TrieQ t) (x y : Int) : ∀ d e : Nat, reach t x d ≠ -1 → reach t x d = reach t y e → d = e ∧ Agree d x y := by
  intro d
  induction d with
  | zero =>
    intro e _ he
    cases e with
    | zero => exact ⟨rfl, fun j hj => absurd hj (Nat.not_lt_zero _)⟩
    | succ e =>
      exfalso
      simp only [reach] at he
      split at he
      · omega
      · split at he <;> omega
  | succ d ih =>
    intro e hn he
    have hx : reach t x d ≠ -1 ∧ kidOf t (reach t x d) (bitAt x (d : Int)) ≠ 0 ∧ reach t x (d + 1) = kidOf t (reach t x d) (bitAt x (d : Int)) := by
      simp only [reach] at hn ⊢
      split at hn
      · exact absurd rfl hn
      · split at hn
        · exact absurd rfl hn
        · rename_i a b
          exact ⟨a, b, by rw [if_neg a, if_neg b]⟩
    rw [hx.2.2] at he
    cases e with
    | zero => exact absurd he hx.2.1
    | succ e =>
      have hy : reach t y e ≠ -1 ∧ reach t y (e + 1) = kidOf t (reach t y e) (bitAt y (e : Int)) := by
        have h2 : reach t y (e + 1) ≠ -1 := by rw [← he, ← hx.2.2]; exact hn
        simp only [reach] at h2 ⊢
        split at h2
        · exact absurd rfl h2
        · split at h2
          · exact absurd rfl h2
          · rename_i a b
            exact ⟨a, by rw [if_neg a, if_neg b]⟩
      rw [hy.2] at he
      have r1 := (reach_rng h x d).resolve_left hx.1
      have r2 := (reach_rng h y e).resolve_left hy.1
      obtain ⟨e1, e2⟩ := kid_uniq h r1.1 r1.2 r2.1 r2.2 (bitAt_01 _ _) (bitAt_01 _ _) hx.2.1 he
      obtain ⟨rfl, hA⟩ := ih e hx.1 e1
      refine ⟨rfl, fun j hj => ?_⟩
      by_cases hjd : j = d
      · rw [hjd]; exact e2
      · exact hA j (by omega)
/-- A twig more, hung at p under b. -/
def addKid (t : List S104) (p b : Int) : List S104 := (t ++ [(⟨0, 0, 0⟩ : S104)]).set p.toNat (if b = 0 then ⟨t.length, (rd_T104 t p).f1, (rd_T104 t p).f2⟩ else ⟨(rd_T104 t p).f0, t.length, (rd_T104 t p).f2⟩)
theorem addKid_len (t : List S104) (p b : Int) : (addKid t p b).length = t.length + 1 := by simp [addKid]
theorem addKid_rd (t : List S104) (p b r : Int) (h0 : 0 ≤ p) (h1 : p < t.length) (r0 : 0 ≤ r) (r1 : r ≤ t.length) : rd_T104 (addKid t p b) r = if r = p then (if b = 0 then ⟨t.length, (rd_T104 t p).f1, (rd_T104 t p).f2⟩ else ⟨(rd_T104 t p).f0, t.length, (rd_T104 t p).f2⟩) else if r = t.length then ⟨0, 0, 0⟩ else rd_T104 t r := by
  obtain ⟨m, rfl⟩ := Int.eq_ofNat_of_zero_le h0
  obtain ⟨s, rfl⟩ := Int.eq_ofNat_of_zero_le r0
  have hm : m < t.length := by omega
  have hs : s < (addKid t m b).length := by rw [addKid_len]; omega
  have e0 : ∀ y, ((t ++ [(⟨0, 0, 0⟩ : S104)]).set m y).getD s z104 = if m = s then y else (t ++ [(⟨0, 0, 0⟩ : S104)]).getD s z104 := by
    intro y
    simp only [List.getD_eq_getElem?_getD, List.getElem?_set]
    by_cases e : m = s
    · subst e
      rw [if_pos rfl, if_pos rfl, if_pos (by simp; omega)]
      rfl
    · rw [if_neg e, if_neg e]
  have e1 : rd_T104 (addKid t m b) s = ((t ++ [(⟨0, 0, 0⟩ : S104)]).set m (if b = 0 then ⟨t.length, (rd_T104 t m).f1, (rd_T104 t m).f2⟩ else ⟨(rd_T104 t m).f0, t.length, (rd_T104 t m).f2⟩)).getD s z104 := rfl
  rw [e1, e0]
  by_cases e : m = s
  · rw [if_pos e, if_pos (show (s : Int) = m by omega)]
  · rw [if_neg e, if_neg (show ¬ (s : Int) = m by omega)]
    by_cases e2 : s = t.length
    · subst e2; simp [List.getD_eq_getElem?_getD]
    · rw [if_neg (show ¬ (s : Int) = t.length by omega)]
      simp only [List.getD_eq_getElem?_getD, List.getElem?_append_left (show s < t.length by omega)]
      rfl
theorem addKid_kid (t : List S104) (p b r b' : Int) (h0 : 0 ≤ p) (h1 : p < t.length) (r0 : 0 ≤ r) (r1 : r ≤ t.length) (hb : b = 0 ∨ b = 1) (hb' : b' = 0 ∨ b' = 1) : kidOf (addKid t p b) r b' = if r = p ∧ b' = b then (t.length : Int) else if r = t.length then 0 else kidOf t r b' := by
  unfold kidOf
  rw [addKid_rd t p b r h0 h1 r0 r1]
  by_cases e : r = p
  · subst e
    rw [if_pos rfl, if_neg (show ¬ r = t.length by omega)]
    rcases hb with rfl | rfl <;> rcases hb' with rfl | rfl <;> simp
  · have e3 : ¬ (r = p ∧ b' = b) := fun k => e k.1
    rw [if_neg e, if_neg e3]
    by_cases e4 : r = t.length
    · rw [if_pos e4, if_pos e4]
      simp
    · rw [if_neg e4, if_neg e4]
theorem addKid_Q {t : List S104} (h : TrieQ t) {p b : Int} (h0 : 0 ≤ p) (h1 : p < t.length) (hb : b = 0 ∨ b = 1) (hk : kidOf t p b = 0) : TrieQ (addKid t p b) := by
  have hl := addKid_len t p b
  refine ⟨by omega, fun i hi => ?_, fun q q1 q2 => ?_⟩
  · have hi' : i < t.length + 1 := by omega
    rw [← rd_T104_at _ i hi, addKid_rd t p b i h0 h1 (by omega) (by omega), hl]
    by_cases e : (i : Int) = p
    · have hpi : i < t.length := by omega
      rw [if_pos e, ← e, rd_T104_at t i hpi]
      obtain ⟨k0, k1, k2⟩ := h.2.1 i hpi
      unfold Kid at k0 k1
      split
      · exact ⟨.inr (by dsimp only; omega), by unfold Kid; dsimp only; omega, k2⟩
      · exact ⟨by unfold Kid; dsimp only; omega, .inr (by dsimp only; omega), k2⟩
    · rw [if_neg e]
      by_cases e2 : (i : Int) = t.length
      · rw [if_pos e2]
        exact ⟨.inl rfl, .inl rfl, by dsimp only; omega⟩
      · rw [if_neg e2, rd_T104_at t i (by omega)]
        obtain ⟨k0, k1, k2⟩ := h.2.1 i (by omega)
        unfold Kid at k0 k1
        exact ⟨by unfold Kid; omega, by unfold Kid; omega, k2⟩
  · obtain ⟨m, rfl⟩ := Int.eq_ofNat_of_zero_le h0
    have hm : m < t.length := by omega
    unfold addKid
    rw [Int.toNat_natCast, cnt_set _ _ m (by simp; omega), cnt_append, List.getElem_append_left hm, rd_T104_at t m hm]
    unfold kidOf at hk
    rw [rd_T104_at t m hm] at hk
    have hz : cnt [(⟨0, 0, 0⟩ : S104)] q = 0 := by
      simp only [cnt, isK]
      rw [if_neg (by omega)]
      rfl
    rw [hz]
    obtain ⟨k0, k1, _⟩ := h.2.1 m hm
    unfold Kid at k0 k1
    by_cases eq : q = t.length
    · have hc : cnt t q = 0 := by
        have : ∀ (u : List S104), (∀ x ∈ u, x.f0 ≠ q ∧ x.f1 ≠ q) → cnt u q = 0 := by
          intro u
          induction u with
          | nil => intro _; rfl
          | cons x u ih =>
            intro hu
            have hx := hu x (List.mem_cons_self ..)
            simp only [cnt, isK]
            rw [if_neg hx.1, if_neg hx.2, ih (fun y hy => hu y (List.mem_cons_of_mem _ hy))]
            rfl
        refine this t (fun x hx => ?_)
        obtain ⟨j, hj, rfl⟩ := List.getElem_of_mem hx
        obtain ⟨a, c, _⟩ := h.2.1 j hj
        unfold Kid at a c
        omega
      rw [hc]
      unfold isK
      rcases hb with rfl | rfl
      · simp only [if_true, if_neg (show ¬ (0 : Int) = 1 by omega)] at hk ⊢
        simp only [if_pos (show (t.length : Int) = q from eq.symm), if_neg (show ¬ (t[m]).f0 = q by omega)]
        omega
      · simp only [if_true, if_neg (show ¬ (1 : Int) = 0 by omega)] at hk ⊢
        simp only [if_pos (show (t.length : Int) = q from eq.symm), if_neg (show ¬ (t[m]).f1 = q by omega)]
        omega
    · have hc := h.2.2 q q1 (by omega)
      rw [hc]
      unfold isK
      rcases hb with rfl | rfl
      · simp only [if_true, if_neg (show ¬ (0 : Int) = 1 by omega)] at hk ⊢
        simp only [if_neg (show ¬ (t.length : Int) = q from fun e => eq e.symm), if_neg (show ¬ (t[m]).f0 = q by omega)]
        omega
      · simp only [if_true, if_neg (show ¬ (1 : Int) = 0 by omega)] at hk ⊢
        simp only [if_neg (show ¬ (t.length : Int) = q from fun e => eq e.symm), if_neg (show ¬ (t[m]).f1 = q by omega)]
        omega
theorem reach_succ (t : List S104) (a : Int) (d : Nat) : reach t a (d + 1) = if reach t a d = -1 then -1 else if kidOf t (reach t a d) (bitAt a (d : Int)) = 0 then -1 else kidOf t (reach t a d) (bitAt a (d : Int)) := rfl
theorem addKid_reach {t : List S104} (h : TrieQ t) {p b : Int} (h0 : 0 ≤ p) (h1 : p < t.length) (hb : b = 0 ∨ b = 1) (hk : kidOf t p b = 0) (x : Int) (d : Nat) :
    (reach t x d ≠ -1 → reach (addKid t p b) x d = reach t x d) ∧ (reach t x d = -1 → reach (addKid t p b) x d = -1 ∨ reach (addKid t p b) x d = t.length) := by
  induction d with
  | zero => exact ⟨fun _ => rfl, fun k => absurd k (by simp [reach])⟩
  | succ d ih =>
    rw [reach_succ, reach_succ]
    have hr := reach_rng h x d
    by_cases e : reach t x d = -1
    · rw [if_pos e]
      refine ⟨fun k => absurd rfl k, fun _ => ?_⟩
      rcases ih.2 e with e2 | e2
      · rw [if_pos e2]; exact .inl rfl
      · rw [if_neg (show ¬ reach (addKid t p b) x d = -1 by omega), e2, addKid_kid t p b _ _ h0 h1 (by omega) (by omega) hb (bitAt_01 _ _), if_neg (show ¬ ((t.length : Int) = p ∧ bitAt x (d : Int) = b) by omega), if_pos (show (t.length : Int) = t.length from rfl), if_pos (show (0 : Int) = 0 from rfl)]
        exact .inl rfl
    · have hr := hr.resolve_left e
      rw [if_neg e, ih.1 e, if_neg e, addKid_kid t p b _ _ h0 h1 hr.1 (by omega) hb (bitAt_01 _ _)]
      by_cases e2 : reach t x d = p ∧ bitAt x (d : Int) = b
      · rw [if_pos e2, e2.1, e2.2, if_pos hk]
        exact ⟨fun k => absurd rfl k, fun _ => by rw [if_neg (by omega)]; exact .inr rfl⟩
      · rw [if_neg e2, if_neg (show ¬ reach t x d = t.length by omega)]
        exact ⟨fun _ => rfl, fun k => .inl k⟩
theorem addKid_val {t : List S104} (h : TrieQ t) {p b : Int} (h0 : 0 ≤ p) (h1 : p < t.length) (hb : b = 0 ∨ b = 1) (hk : kidOf t p b = 0) (x : Int) (d : Nat) : val (addKid t p b) x d = val t x d := by
  obtain ⟨a, c⟩ := addKid_reach h h0 h1 hb hk x d
  unfold val
  by_cases e : reach t x d = -1
  · rw [if_pos e]
    rcases c e with e2 | e2
    · rw [if_pos e2]
    · rw [if_neg (by omega), e2, addKid_rd t p b _ h0 h1 (by omega) (by omega), if_neg (by omega), if_pos rfl]
  · have hr := (reach_rng h x d).resolve_left e
    rw [a e, if_neg e, if_neg e, addKid_rd t p b _ h0 h1 hr.1 (by omega)]
    by_cases e2 : reach t x d = p
    · rw [if_pos e2, e2]; split <;> rfl
    · rw [if_neg e2, if_neg (by omega)]
def setVal (t : List S104) (p o : Int) : List S104 := t.set p.toNat ⟨(rd_T104 t p).f0, (rd_T104 t p).f1, o⟩
theorem setVal_rd (t : List S104) (p o r : Int) (h0 : 0 ≤ p) (h1 : p < t.length) (r0 : 0 ≤ r) (r1 : r < t.length) : rd_T104 (setVal t p o) r = if r = p then ⟨(rd_T104 t p).f0, (rd_T104 t p).f1, o⟩ else rd_T104 t r := by
  obtain ⟨m, rfl⟩ := Int.eq_ofNat_of_zero_le h0
  obtain ⟨s, rfl⟩ := Int.eq_ofNat_of_zero_le r0
  rw [rd_T104_at (setVal t m o) s (by simp [setVal]; omega)]
  unfold setVal
  simp only [List.getElem_set, Int.toNat_natCast]
  by_cases e : m = s
  · subst e; simp
  · rw [if_neg e, if_neg (by omega), rd_T104_at t s (by omega)]
theorem setVal_kid (t : List S104) (p o r b : Int) (h0 : 0 ≤ p) (h1 : p < t.length) (r0 : 0 ≤ r) (r1 : r < t.length) : kidOf (setVal t p o) r b = kidOf t r b := by
  unfold kidOf
  rw [setVal_rd t p o r h0 h1 r0 r1]
  by_cases e : r = p
  · rw [if_pos e, e]
  · rw [if_neg e]
theorem setVal_Q {t : List S104} (h : TrieQ t) {p o : Int} (h0 : 0 ≤ p) (h1 : p < t.length) (ho : 0 ≤ o ∧ o ≤ 99) : TrieQ (setVal t p o) := by
  have hl : (setVal t p o).length = t.length := by simp [setVal]
  refine ⟨by rw [hl]; exact h.1, fun i hi => ?_, fun q q1 q2 => ?_⟩
  · have hi' : i < t.length := by omega
    rw [← rd_T104_at _ i hi, setVal_rd t p o i h0 h1 (by omega) (by omega), hl]
    obtain ⟨k0, k1, k2⟩ := h.2.1 i hi'
    split
    · rename_i e
      rw [← e, rd_T104_at t i hi']
      exact ⟨k0, k1, ho⟩
    · rw [rd_T104_at t i hi']
      exact ⟨k0, k1, k2⟩
  · obtain ⟨m, rfl⟩ := Int.eq_ofNat_of_zero_le h0
    have hm : m < t.length := by omega
    have hc := h.2.2 q q1 (by omega)
    unfold setVal
    rw [Int.toNat_natCast, cnt_set _ _ m hm, rd_T104_at t m hm, hc]
    unfold isK
    dsimp only
    omega
theorem setVal_reach {t : List S104} (h : TrieQ t) {p o : Int} (h0 : 0 ≤ p) (h1 : p < t.length) (x : Int) (d : Nat) : reach (setVal t p o) x d = reach t x d := by
  induction d with
  | zero => rfl
  | succ d ih =>
    rw [reach_succ, reach_succ, ih]
    by_cases e : reach t x d = -1
    · rw [if_pos e, if_pos e]
    · have hr := (reach_rng h x d).resolve_left e
      rw [setVal_kid t p o _ _ h0 h1 hr.1 hr.2]
theorem setVal_val {t : List S104} (h : TrieQ t) {a : Int} {n : Nat} (hn : reach t a n ≠ -1) (o x : Int) (d : Nat) [Decidable (d = n ∧ Agree n x a)] : val (setVal t (reach t a n) o) x d = if d = n ∧ Agree n x a then o else val t x d := by
  have hp := (reach_rng h a n).resolve_left hn
  unfold val
  rw [setVal_reach h hp.1 hp.2]
  by_cases e : d = n ∧ Agree n x a
  · obtain ⟨rfl, hA⟩ := e
    have := reach_agree t x a d hA
    rw [if_pos (show d = d ∧ Agree d x a from ⟨rfl, hA⟩), this, if_neg hn, setVal_rd t _ o _ hp.1 hp.2 hp.1 hp.2, if_pos rfl]
  · rw [if_neg e]
    by_cases e2 : reach t x d = -1
    · rw [if_pos e2, if_pos e2]
    · have hr := (reach_rng h x d).resolve_left e2
      rw [if_neg e2, if_neg e2, setVal_rd t _ o _ hp.1 hp.2 hr.1 hr.2, if_neg (fun k => e ?_)]
      obtain ⟨rfl, hA⟩ := reach_inj h x a d n e2 k
      exact ⟨rfl, hA⟩
def ins (a : Int) : Nat → Int → Int → List S104 → List S104 × Int
  | 0, _, p, t => (t, p)
  | d + 1, i, p, t => if kidOf t p (bitAt a i) = 0 then ins a d (i + 1) t.length (addKid t p (bitAt a i)) else ins a d (i + 1) (kidOf t p (bitAt a i)) t
theorem ins_ok (a : Int) : ∀ (d i : Nat) (t : List S104), TrieQ t → reach t a i ≠ -1 →
    let r := ins a d (i : Int) (reach t a i) t
    TrieQ r.1 ∧ t.length ≤ r.1.length ∧ r.1.length ≤ t.length + d ∧ r.2 = reach r.1 a (i + d) ∧ r.2 ≠ -1 ∧ ∀ x e, val r.1 x e = val t x e := by
  intro d
  induction d with
  | zero => intro i t h hr; exact ⟨h, Nat.le_refl _, Nat.le_refl _, rfl, hr, fun _ _ => rfl⟩
  | succ d ih =>
    intro i t h hr
    have hp := (reach_rng h a i).resolve_left hr
    simp only [ins]
    by_cases hk : kidOf t (reach t a i) (bitAt a (i : Int)) = 0
    · rw [if_pos hk]
      have hQ := addKid_Q h hp.1 hp.2 (bitAt_01 a i) hk
      have hre := (addKid_reach h hp.1 hp.2 (bitAt_01 a i) hk a i).1 hr
      have hn : reach (addKid t (reach t a i) (bitAt a (i : Int))) a (i + 1) = t.length := by
        rw [reach_succ, hre, if_neg hr, addKid_kid t _ _ _ _ hp.1 hp.2 hp.1 (by omega) (bitAt_01 _ _) (bitAt_01 _ _), if_pos (show reach t a i = reach t a i ∧ bitAt a (i : Int) = bitAt a (i : Int) from ⟨rfl, rfl⟩), if_neg (show ¬ (t.length : Int) = 0 by omega)]
      have h1 := ih (i + 1) _ hQ (by rw [hn]; omega)
      have ec : ((i + 1 : Nat) : Int) = (i : Int) + 1 := by omega
      rw [hn, addKid_len, ec] at h1
      dsimp only at h1
      obtain ⟨a1, a2, a3, a4, a5, a6⟩ := h1
      refine ⟨a1, by omega, by omega, ?_, a5, fun x e => ?_⟩
      · rw [show i + (d + 1) = i + 1 + d by omega]; exact a4
      · exact (a6 x e).trans (addKid_val h hp.1 hp.2 (bitAt_01 a i) hk x e)
    · rw [if_neg hk]
      have hn : reach t a (i + 1) = kidOf t (reach t a i) (bitAt a (i : Int)) := by rw [reach_succ, if_neg hr, if_neg hk]
      have hg := (kid_rng h hp.1 hp.2 (bitAt a (i : Int))).resolve_left hk
      have h1 := ih (i + 1) t h (by rw [hn]; omega)
      have ec : ((i + 1 : Nat) : Int) = (i : Int) + 1 := by omega
      rw [hn, ec] at h1
      obtain ⟨a1, a2, a3, a4, a5, a6⟩ := h1
      exact ⟨a1, a2, by omega, by rw [show i + (d + 1) = i + 1 + d by omega]; exact a4, a5, a6⟩
open Classical in
noncomputable def triePut (t : List S104) (a n o : Int) : List S104 × Bool :=
  if TrieP t ∧ PfxP a n ∧ (0 ≤ o ∧ o ≤ 99) then (if (ins a n.toNat 0 0 t).1.length > 400 then (t, false) else (setVal (ins a n.toNat 0 0 t).1 (ins a n.toNat 0 0 t).2 o, true)) else (t, false)
open Classical in
theorem triePut_ok {t : List S104} (h : TrieP t) {a n o : Int} (hp : PfxP a n) (ho : 0 ≤ o ∧ o ≤ 99) (hl : (ins a n.toNat 0 0 t).1.length ≤ 400) :
    TrieP (triePut t a n o).1 ∧ (triePut t a n o).2 = true ∧ (triePut t a n o).1.length ≤ t.length + n.toNat ∧ ∀ x d, val (triePut t a n o).1 x d = if d = n.toNat ∧ Agree n.toNat x a then o else val t x d := by
  have hQ := (TrieP_iff t).1 h
  have h1 := ins_ok a n.toNat 0 t hQ.1 (by simp [reach])
  dsimp only [reach] at h1
  obtain ⟨a1, a2, a3, a4, a5, a6⟩ := h1
  rw [Nat.zero_add] at a4
  unfold triePut
  rw [if_pos ⟨h, hp, ho⟩, if_neg (by omega)]
  have e0 : ((0 : Nat) : Int) = 0 := rfl
  rw [e0] at *
  generalize ins a n.toNat 0 0 t = r at *
  obtain ⟨t1, p⟩ := r
  dsimp only at *
  subst a4
  have hr := (reach_rng a1 a n.toNat).resolve_left a5
  refine ⟨(TrieP_iff _).2 ⟨setVal_Q a1 hr.1 hr.2 ho, by simpa [setVal] using hl⟩, rfl, by simpa [setVal] using a3, fun x d => ?_⟩
  rw [setVal_val a1 a5 o x d, a6 x d]
theorem ins_len {t : List S104} (h : TrieP t) (a : Int) (n : Nat) : (ins a n 0 0 t).1.length ≤ t.length + n := by
  have h1 := ins_ok a n 0 t ((TrieP_iff t).1 h).1 (by simp [reach])
  exact h1.2.2.1
/-- What counts in the end: the last that is not none. -/
def top (v : Nat → Int) : Nat → Int
  | 0 => v 0
  | m + 1 => if v (m + 1) = 0 then top v m else v (m + 1)
theorem tf_top {t : List S104} (h : TrieQ t) (a : Int) : ∀ (d i : Nat), reach t a i ≠ -1 → tf t a d (i : Int) (reach t a i) (top (val t a) i) = top (val t a) (i + d) := by
  intro d
  induction d with
  | zero => intro i _; rfl
  | succ d ih =>
    intro i hr
    have hk : tf t a (d + 1) (i : Int) (reach t a i) (top (val t a) i) = if kidOf t (reach t a i) (bitAt a (i : Int)) = 0 then top (val t a) i else tf t a d ((i : Int) + 1) (kidOf t (reach t a i) (bitAt a (i : Int))) (if (rd_T104 t (kidOf t (reach t a i) (bitAt a (i : Int)))).f2 = 0 then top (val t a) i else (rd_T104 t (kidOf t (reach t a i) (bitAt a (i : Int)))).f2) := rfl
    rw [hk]
    have hp := (reach_rng h a i).resolve_left hr
    by_cases e : kidOf t (reach t a i) (bitAt a (i : Int)) = 0
    · rw [if_pos e]
      have hn : reach t a (i + 1) = -1 := by rw [reach_succ, if_neg hr, if_pos e]
      have hz : ∀ m, reach t a (i + 1 + m) = -1 := by
        intro m
        induction m with
        | zero => exact hn
        | succ m ih2 => rw [← Nat.add_assoc, reach_succ, if_pos ih2]
      have ht : ∀ m, top (val t a) (i + m) = top (val t a) i := by
        intro m
        induction m with
        | zero => rfl
        | succ m ih2 =>
          have hv : val t a (i + m + 1) = 0 := by unfold val; rw [if_pos (by rw [show i + m + 1 = i + 1 + m by omega]; exact hz m)]
          rw [← Nat.add_assoc]
          simp only [top]
          rw [if_pos hv, ih2]
      rw [ht]
    · rw [if_neg e]
      have hn : reach t a (i + 1) = kidOf t (reach t a i) (bitAt a (i : Int)) := by rw [reach_succ, if_neg hr, if_neg e]
      have hg := (kid_rng h hp.1 hp.2 (bitAt a (i : Int))).resolve_left e
      have h1 := ih (i + 1) (by rw [hn]; omega)
      have hv : val t a (i + 1) = (rd_T104 t (kidOf t (reach t a i) (bitAt a (i : Int)))).f2 := by unfold val; rw [hn, if_neg (by omega)]
      simp only [top] at h1
      rw [hv, hn] at h1
      rw [show i + (d + 1) = i + 1 + d by omega]
      exact h1
theorem trieFind_top {t : List S104} (h : TrieP t) {a : Int} (ha : 0 ≤ a ∧ a ≤ 4294967295) : trieFind t a = top (val t a) 32 := by
  unfold trieFind
  rw [if_pos ⟨h, ha⟩]
  have h1 := tf_top ((TrieP_iff t).1 h).1 a 32 0 (by simp [reach])
  simp only [top, reach, Nat.zero_add] at h1
  have hv : val t a 0 = (rd_T104 t 0).f2 := by unfold val; simp [reach]
  rw [hv] at h1
  exact h1
theorem top_zero (v : Nat → Int) (m : Nat) (h : ∀ j, j ≤ m → v j = 0) : top v m = 0 := by
  induction m with
  | zero => exact h 0 (Nat.le_refl _)
  | succ m ih => simp only [top]; rw [if_pos (h _ (Nat.le_refl _)), ih (fun j hj => h j (by omega))]
theorem top_at (v : Nat → Int) (b m : Nat) (hb : b ≤ m) (h0 : v b ≠ 0) (h : ∀ j, b < j → j ≤ m → v j = 0) : top v m = v b := by
  induction m with
  | zero =>
    have e : b = 0 := by omega
    rw [e]
    rfl
  | succ m ih =>
    simp only [top]
    by_cases e : b = m + 1
    · subst e; rw [if_neg h0]
    · rw [if_pos (h _ (by omega) (Nat.le_refl _)), ih (by omega) (fun j a c => h j a (by omega))]
/-- The first bits as a number. -/
theorem bits_div (a : Int) (n : Nat) (hn : n < 32) : a / 2 ^ (32 - (n + 1)) = 2 * (a / 2 ^ (32 - n)) + bitAt a (n : Int) := by
  unfold bitAt
  have e1 : ((31 : Int) - (n : Int)).toNat = 32 - (n + 1) := by omega
  have e2 : (2 : Int) ^ (32 - n) = 2 ^ (32 - (n + 1)) * 2 := by rw [show 32 - n = (32 - (n + 1)) + 1 by omega, Int.pow_succ]
  rw [e1, e2, ← Int.ediv_ediv_of_nonneg (by have := (pow_rng (32 - (n + 1)) (by omega)).1; omega)]
  omega
theorem agree_div (x y : Int) (hx : 0 ≤ x ∧ x ≤ 4294967295) (hy : 0 ≤ y ∧ y ≤ 4294967295) (n : Nat) (hn : n ≤ 32) : Agree n x y ↔ x / 2 ^ (32 - n) = y / 2 ^ (32 - n) := by
  induction n with
  | zero =>
    refine ⟨fun _ => ?_, fun _ j hj => absurd hj (Nat.not_lt_zero _)⟩
    show x / 4294967296 = y / 4294967296
    omega
  | succ n ih =>
    have ih := ih (by omega)
    have e : Agree (n + 1) x y ↔ Agree n x y ∧ bitAt x (n : Int) = bitAt y (n : Int) := by
      refine ⟨fun h => ⟨fun j hj => h j (by omega), h n (by omega)⟩, fun h j hj => ?_⟩
      by_cases e : j = n
      · rw [e]; exact h.2
      · exact h.1 j (by omega)
    rw [e, ih, bits_div x n (by omega), bits_div y n (by omega)]
    have b1 := bitAt_01 x n
    have b2 := bitAt_01 y n
    omega
theorem agree_InP {p n x : Int} (hp : PfxP p n) (hx : 0 ≤ x ∧ x ≤ 4294967295) : Agree n.toNat x p ↔ InP p n x := by
  have hP := hp
  obtain ⟨h1, h2, h3⟩ := hp
  have e0 : 32 - n.toNat = (32 - n).toNat := by omega
  rw [agree_div x p hx h1 n.toNat (by omega), e0]
  unfold InP
  have hq := pow_rng (32 - n).toNat (by omega)
  generalize (2 : Int) ^ (32 - n).toNat = m at *
  have d1 := Int.mul_ediv_add_emod x m
  have d2 := Int.mul_ediv_add_emod p m
  refine ⟨fun h => ⟨hP, hx, ?_⟩, fun h => ?_⟩
  · rw [h] at d1; omega
  · have h4 := h.2.2
    have : x = p + x % m := by omega
    have e1 : m * (x / m) = m * (p / m) := by omega
    exact Int.eq_of_mul_eq_mul_left (by omega) e1
theorem ins_step (t : List S104) (p b : Int) (h0 : 0 ≤ p) (h1 : p < t.length) : addKid t p b = (t ++ [(⟨0, 0, 0⟩ : S104)]).set p.toNat (if b = 0 then ⟨t.length, (rd_T104 (t ++ [(⟨0, 0, 0⟩ : S104)]) p).f1, (rd_T104 (t ++ [(⟨0, 0, 0⟩ : S104)]) p).f2⟩ else ⟨(rd_T104 (t ++ [(⟨0, 0, 0⟩ : S104)]) p).f0, t.length, (rd_T104 (t ++ [(⟨0, 0, 0⟩ : S104)]) p).f2⟩) := by
  obtain ⟨m, rfl⟩ := Int.eq_ofNat_of_zero_le h0
  have e : rd_T104 (t ++ [(⟨0, 0, 0⟩ : S104)]) (m : Int) = rd_T104 t (m : Int) := by
    rw [rd_T104_at _ m (by simp; omega), List.getElem_append_left (by omega), rd_T104_at t m (by omega)]
  rw [e]
  rfl
theorem set_mk {α : Type} (M l : List α) (v : α) (i : Nat) (hM : M.length = i) (hi : i < l.length) : (M ++ l.drop i).set i v = (M ++ [v]) ++ l.drop (i + 1) := by
  rw [List.set_append_right _ _ (by omega), hM, Nat.sub_self, List.drop_eq_getElem_cons hi, List.set_cons_zero, List.append_assoc]
  rfl

/-! laws_szTwigS -/
theorem laws_szTwigS.ev (l : List S132) (a : Int) (h0 : 0 ≤ a) (h1 : a ≤ 1048576) (hl : l.length ≤ maxLen) : Tells (fun _ => laws_szTwigS.f l a) (fun v => v = -1 ∨ (0 ≤ v ∧ v ≤ a ∧ v + l.length ≤ a)) := by
  unfold maxLen at hl
  unfold laws_szTwigS.f
  rw [w64 (x := a - (l.length : Int)) (by omega) (by omega)]
  exact T_ite (fun _ => T_ret (.inl rfl)) (fun _ => T_ret (.inr ⟨by omega, by omega, by omega⟩))

/-! laws_szTrie -/
theorem laws_szTrie.ev (x0 : List (S132)) (a : Int) (h0 : 0 ≤ a) (h1 : a ≤ 1048576) (hx0 : x0.length ≤ maxLen) : Tells (fun k => laws_szTrie.f x0 a) (fun v => v = -1 ∨ (0 ≤ v ∧ v ≤ a ∧ v + x0.length ≤ a)) := by
  unfold laws_szTrie.f
  refine T_bind (laws_szTwigS.ev x0 a (by omega) (by omega) hx0) fun v0 w0 => T_ite (fun _ => T_ret (.inl rfl)) (fun g0 => ?_)
  obtain ⟨p0_0, p0_1, p0_2⟩ := w0.resolve_left (by omega)
  exact T_ret (.inr ⟨by omega, by omega, by omega⟩)

/-! laws_toTwig -/
theorem laws_toTwig.ev (x0 : Int) (x1 : Int) (x2 : Int)  : Tells (fun k => laws_toTwig.f x0 x1 x2) (· = (x0, x1, x2)) := by
  unfold laws_toTwig.f
  exact T_ret rfl

/-! laws_toTwigS -/
theorem rd_T132_nat (xs : List S132) (i : Nat) (h : i < xs.length) : rd_T132 xs (i : Int) = xs[i] := by simp [rd_T132, List.getD_eq_getElem?_getD, h]
def to_Twig (x : S132) : S104 := ⟨x.f0, x.f1, x.f2⟩
theorem laws_toTwigS.ev (l : List S132) (hn : l.length ≤ 1048576) : Tells (fun k => laws_toTwigS.f k l) (· = l.map to_Twig) := by
  have h := T_loop' (fun k i => laws_toTwigS.l0 k l ((l.take i).map to_Twig ++ List.replicate (l.length - i) z104) (i : Int)) l.length (· = l.map to_Twig) (fun i hi hh => by
    simp only [laws_toTwigS.l0, rd_T132_nat l i hi]
    refine T_pos (by omega) (T_pos (by omega) (T_bind (laws_toTwig.ev _ _ _) ?_))
    rintro _ rfl
    refine T_pos (by simp; omega) ?_
    have e := set_copy_map l to_Twig z104 i hi (⟨l[i].f0, l[i].f1, l[i].f2⟩ : S104) rfl
    dsimp only
    rw [Int.toNat_natCast, e, wsucc hi (by omega)]
    exact hh) (by
    simp only [laws_toTwigS.l0]
    exact T_neg (by omega) (T_ret (by simp)))
  unfold laws_toTwigS.f
  refine T_pos (by omega) (T_pos (by omega) ?_)
  simpa using h

/-! laws_toTrie -/
theorem laws_toTrie.ev (x0 : List (S132)) (hx0 : x0.length ≤ 1048576) : Tells (fun k => laws_toTrie.f k x0) (· = (x0.map to_Twig)) := by
  unfold laws_toTrie.f
  refine T_bind (laws_toTwigS.ev x0 hx0) ?_
  rintro _ rfl
  exact T_ret rfl

/-! laws_eqTwig -/
theorem laws_eqTwig.ev (x0 : Int) (x1 : Int) (x2 : Int)  : Tells (fun k => laws_eqTwig.f x0 x1 x2 x0 x1 x2) (· = true) := by
  unfold laws_eqTwig.f
  refine T_pos rfl ?_
  refine T_pos rfl ?_
  refine T_pos rfl ?_
  exact T_ret rfl

/-! laws_eqTwigS -/
theorem rd_T104_nat (xs : List S104) (i : Nat) (h : i < xs.length) : rd_T104 xs (i : Int) = xs[i] := by simp [rd_T104, List.getD_eq_getElem?_getD, h]
theorem laws_eqTwigS.ev (l : List S104) (hn : l.length ≤ 1048576) : Tells (fun k => laws_eqTwigS.f k l l) (· = true) := by
  unfold laws_eqTwigS.f
  refine T_pos rfl (T_loop' (fun k i => laws_eqTwigS.l0 k l l (i : Int)) l.length (· = true) (fun i hi hh => ?_) ?_)
  · simp only [laws_eqTwigS.l0, rd_T104_nat l i hi]
    rw [wsucc hi (by omega)]
    refine T_pos (by omega) (T_pos (by omega) (T_pos (by omega) (T_bind (laws_eqTwig.ev _ _ _) ?_)))
    rintro _ rfl
    exact T_pos rfl hh
  · simp only [laws_eqTwigS.l0]
    exact T_neg (by omega) (T_ret rfl)

/-! laws_eqTrie -/
theorem laws_eqTrie.ev (x0 : List (S104)) (hx0 : x0.length ≤ 1048576) : Tells (fun k => laws_eqTrie.f k x0 x0) (· = true) := by
  unfold laws_eqTrie.f
  refine T_bind (laws_eqTwigS.ev x0 hx0) ?_
  rintro _ rfl
  refine T_pos rfl ?_
  exact T_ret rfl

/-! laws_toPrefix -/
theorem laws_toPrefix.ev (x0 : Int) (x1 : Int)  : Tells (fun k => laws_toPrefix.f x0 x1) (· = (x0, x1)) := by
  unfold laws_toPrefix.f
  exact T_ret rfl

/-! spec_l01In -/
theorem spec_l01In.eq (a b c : Int) : spec_l01In.f a b c = some (decide (b ≤ a ∧ a ≤ c)) := by
  unfold spec_l01In.f
  by_cases h : b ≤ a <;> simp [h]

/-! spec_AddrOk -/
theorem spec_AddrOk.eq (a : Int) : spec_AddrOk.f a = some (decide (0 ≤ a ∧ a ≤ 4294967295)) := by
  unfold spec_AddrOk.f
  simp [spec_l01In.eq]

/-! spec_l08Size -/
theorem spec_l08Size.ev (n : Int) (h0 : 0 ≤ n) (h1 : n ≤ 32) : Tells (fun k => spec_l08Size.f k n) (· = 2 ^ (32 - n).toNat) := by
  obtain ⟨m, rfl⟩ := Int.eq_ofNat_of_zero_le h0
  unfold spec_l08Size.f
  have hd : ∀ j : Fin 32, wrap64 (2 * 2 ^ j.val) = 2 ^ (j.val + 1) := by decide +kernel
  have h := T_loop' (fun k i => spec_l08Size.l0 k (2 ^ i) ((m + i : Nat) : Int)) (32 - m) (· = 2 ^ (32 - m)) (fun i hi he => ?_) ?_
  · rw [show (32 - (m : Int)).toNat = 32 - m by omega]
    simpa using h
  · simp only [spec_l08Size.l0]
    refine T_pos (by omega) ?_
    rw [hd ⟨i, by omega⟩, wsucc (n := 32) (by omega) (by omega)]
    exact he
  · simp only [spec_l08Size.l0]
    exact T_neg (by omega) (T_ret rfl)

/-! spec_PrefixOk -/
theorem spec_PrefixOk.ev (a n : Int) : Tells (fun k => spec_PrefixOk.f k a n) (fun r => r = true ↔ PfxP a n) := by
  unfold spec_PrefixOk.f PfxP
  simp only [spec_AddrOk.eq, spec_l01In.eq, Option.bind_some, decide_eq_true_eq]
  refine T_ite (fun h1 => T_ite (fun h2 => ?_) (fun h => T_ret (by simp [h]))) (fun h => T_ret (by simp [h]))
  refine T_bind (spec_l08Size.ev n h2.1 h2.2) ?_
  rintro _ rfl
  have hp := pow_rng (32 - n).toNat (by omega)
  refine T_neg (by omega) (T_ret ?_)
  rw [Int.tmod_eq_emod_of_nonneg h1.1]
  simp [h1, h2]

/-! spec_TrieOk -/
theorem spec_TrieOk.kid0 (t : List S104) (hn : t.length ≤ 400) (u : List Int) (hu : u.length = t.length) (hr : ∀ a, 0 ≤ rd u a ∧ rd u a ≤ 100000) (i : Nat) (hi : i < t.length) (a b : Int) (P : Bool → Prop)
    (h1 : Kid t.length i b → Tells (fun k => spec_TrieOk.l0 k (bump u b) ((i + 1 : Nat) : Int) t) P) (h2 : ¬ Kid t.length i b → P false) : Tells (fun k => spec_TrieOk.l1 k u (i : Int) [a, b] 1 t) P := by
  refine T_step ?_
  simp only [spec_TrieOk.l1, spec_l01In.eq, Option.bind_some, decide_eq_true_eq]
  have e1 : rd [a, b] 1 = b := rfl
  have e2 : wrap64 (1 + 1) = 2 := w64 (by omega) (by omega)
  have hw : wrap64 ((t.length : Int) - 1) = (t.length : Int) - 1 := w64 (by omega) (by omega)
  have last : ∀ v : List Int, Tells (fun k => spec_TrieOk.l0 k v ((i + 1 : Nat) : Int) t) P → Tells (fun k => spec_TrieOk.l1 k v (i : Int) [a, b] (wrap64 (1 + 1)) t) P := by
    intro v hv
    refine T_step ?_
    simp only [spec_TrieOk.l1, e2]
    rw [wsucc hi (by omega)]
    exact T_neg (by omega) hv
  refine T_pos (by omega) (T_pos (by omega) (T_pos (by simp) ?_))
  rw [e1, wsucc hi (by omega), hw]
  refine T_ite (fun h => last _ ?_) (fun h => T_ite (fun h3 => T_pos (by omega) (T_pos (by omega) (last _ ?_))) (fun h3 => T_ret (h2 (fun k => by unfold Kid at k; omega))))
  · have := h1 (.inl h)
    simpa [bump, h] using this
  · have := h1 (.inr (by omega))
    rw [w64 (by have := hr b; omega) (by have := hr b; omega)]
    simpa [bump, h] using this
theorem spec_TrieOk.kids (t : List S104) (hn : t.length ≤ 400) (u : List Int) (hu : u.length = t.length) (hr : ∀ a, 0 ≤ rd u a ∧ rd u a ≤ 10000) (i : Nat) (hi : i < t.length) (a b : Int) (P : Bool → Prop)
    (h1 : Kid t.length i a → Kid t.length i b → Tells (fun k => spec_TrieOk.l0 k (bump (bump u a) b) ((i + 1 : Nat) : Int) t) P) (h2 : ¬ (Kid t.length i a ∧ Kid t.length i b) → P false) : Tells (fun k => spec_TrieOk.l1 k u (i : Int) [a, b] 0 t) P := by
  refine T_step ?_
  simp only [spec_TrieOk.l1, spec_l01In.eq, Option.bind_some, decide_eq_true_eq]
  have e1 : rd [a, b] 0 = a := rfl
  have e2 : wrap64 (0 + 1) = 1 := w64 (by omega) (by omega)
  have hw : wrap64 ((t.length : Int) - 1) = (t.length : Int) - 1 := w64 (by omega) (by omega)
  refine T_pos (by omega) (T_pos (by omega) (T_pos (by simp) ?_))
  rw [e1, e2, wsucc hi (by omega), hw]
  have go : Kid t.length i a → Tells (fun k => spec_TrieOk.l1 k (bump u a) (i : Int) [a, b] 1 t) P := fun ha =>
    spec_TrieOk.kid0 t hn (bump u a) (by rw [bump_len, hu]) (fun x => by have := bump_rng u 10000 (by omega) hr a x; omega) i hi a b P (fun hb => h1 ha hb) (fun hb => h2 (fun k => hb k.2))
  refine T_ite (fun h => ?_) (fun h => T_ite (fun h3 => T_pos (by omega) (T_pos (by omega) ?_)) (fun h3 => T_ret (h2 (fun k => by have := k.1; unfold Kid at this; omega))))
  · have := go (.inl h)
    simpa [bump, h] using this
  · have := go (.inr (by omega))
    rw [w64 (by have := hr a; omega) (by have := hr a; omega)]
    simpa [bump, h] using this
theorem spec_TrieOk.ev (t : List S104) (hm : t.length ≤ 1048576) : Tells (fun k => spec_TrieOk.f k t) (fun r => r = true ↔ TrieP t) := by
  unfold spec_TrieOk.f
  simp only [spec_l01In.eq, Option.bind_some, decide_eq_true_eq]
  refine T_ite (fun h1 => T_pos (by omega) (T_pos (by omega) ?_)) (fun h1 => T_ret (by
    simp only [Bool.false_eq_true, false_iff]
    rintro ⟨h, _⟩
    omega))
  have hn : t.length ≤ 400 := by omega
  have hl : (1 ≤ t.length ∧ t.length ≤ 400) := by omega
  have main := T_loop (fun k i => spec_TrieOk.l0 k (upsOf t.length (t.take i)) (i : Int) t) t.length (fun i r => r = true ↔ (∀ j (h : j < t.length), i ≤ j → TwigC t.length j t[j]) ∧ ∀ j : Nat, 1 ≤ j → j < t.length → rd (upsOf t.length t) (j : Int) = 1) (fun i hi he => ?_) ?_ 0 (Nat.zero_le _)
  · refine Tells.mono (g := fun k => spec_TrieOk.l0 k (List.replicate t.length 0) 0 t) main (fun r hr => ?_)
    · rw [hr]
      exact ⟨fun h => ⟨hl, fun j hj => h.1 j hj (Nat.zero_le _), h.2⟩, fun h => ⟨fun j hj _ => h.2.1 j hj, h.2.2⟩⟩
  · simp only [spec_TrieOk.l0, spec_l01In.eq, Option.bind_some, decide_eq_true_eq, rd_T104_at t i hi]
    refine T_pos (by omega) (T_pos (by omega) (T_ite (fun h2 => ?_) (fun h2 => T_ret ?_)))
    · refine spec_TrieOk.kids t hn _ (ups_len _ _) (fun a => by have := ups_rng t.length t i (by omega) a; omega) i hi _ _ _ (fun ha hb => ?_) (fun hk => ?_)
      · rw [← ups_succ t.length t i hi]
        refine he.mono fun r hr => ?_
        rw [hr]
        refine ⟨fun h => ⟨fun j hj hij => ?_, h.2⟩, fun h => ⟨fun j hj hij => h.1 j hj (by omega), h.2⟩⟩
        by_cases e : j = i
        · subst e
          exact ⟨ha, hb, h2⟩
        · exact h.1 j hj (by omega)
      · simp only [Bool.false_eq_true, false_iff]
        rintro ⟨h, _⟩
        exact hk ⟨(h i hi (Nat.le_refl _)).1, (h i hi (Nat.le_refl _)).2.1⟩
    · simp only [Bool.false_eq_true, false_iff]
      rintro ⟨h, _⟩
      exact h2 (h i hi (Nat.le_refl _)).2.2
  · simp only [spec_TrieOk.l0]
    refine T_neg (by omega) ?_
    have hul : (upsOf t.length (t.take t.length)).length = t.length := ups_len _ _
    have e : t.take t.length = t := List.take_of_length_le (Nat.le_refl _)
    rw [e] at hul ⊢
    refine (T_loop (fun k i => spec_TrieOk.l2 k (upsOf t.length t) ((i : Nat) : Int)) t.length (fun i r => r = true ↔ ∀ j : Nat, i ≤ j → j < t.length → rd (upsOf t.length t) (j : Int) = 1) (fun i hi he => ?_) ?_ 1 (by omega)).mono fun r hr => ?_
    · simp only [spec_TrieOk.l2]
      rw [wsucc hi (by omega)]
      refine T_pos (by omega) (T_pos (by omega) (T_ite (fun h => he.mono fun r hr => ?_) (fun h => T_ret ?_)))
      · rw [hr]
        refine ⟨fun k j a b => ?_, fun k j a b => k j (by omega) b⟩
        by_cases e : j = i
        · subst e; exact h
        · exact k j (by omega) b
      · simp only [Bool.false_eq_true, false_iff]
        exact fun k => h (k i (Nat.le_refl _) hi)
    · simp only [spec_TrieOk.l2]
      exact T_neg (by omega) (T_ret (by simp; intro j a b; omega))
    · rw [hr]
      exact ⟨fun k => ⟨fun j hj hjj => absurd hj (by omega), k⟩, fun k => k.2⟩

/-! spec_l10Bit -/
theorem spec_l10Bit.ev (a i : Int) (h0 : 0 ≤ a) (h1 : a ≤ 4294967295) (i0 : 0 ≤ i) (i1 : i ≤ 31) : Tells (fun k => spec_l10Bit.f k a i) (· = bitAt a i) := by
  unfold spec_l10Bit.f bitAt
  refine T_bind (spec_l08Size.ev i i0 (by omega)) ?_
  rintro _ rfl
  have hp := pow_rng (31 - i).toNat (by omega)
  have e : (2 : Int) ^ (32 - i).toNat = 2 * 2 ^ (31 - i).toNat := by
    rw [show (32 - i).toNat = (31 - i).toNat + 1 by omega, Int.pow_succ, Int.mul_comm]
  have e2 : Int.tdiv (2 ^ (32 - i).toNat) 2 = 2 ^ (31 - i).toNat := by rw [Int.tdiv_eq_ediv_of_nonneg (by omega), e]; omega
  rw [e2, w64 (by omega) (by omega)]
  refine T_neg (by omega) (T_ret ?_)
  have d0 : 0 ≤ a / 2 ^ (31 - i).toNat := Int.ediv_nonneg h0 (by omega)
  have d1 : a / 2 ^ (31 - i).toNat ≤ a := Int.ediv_le_self _ h0
  rw [Int.tdiv_eq_ediv_of_nonneg h0, w64 (by omega) (by omega), Int.tmod_eq_emod_of_nonneg d0]

/-! spec_TriePut -/
theorem spec_ins (t : List S104) (p : Int) (h0 : 0 ≤ p) (h1 : p < t.length) (y : S104) : t.set p.toNat y ++ [(⟨0, 0, 0⟩ : S104)] = (t ++ [(⟨0, 0, 0⟩ : S104)]).set p.toNat y := by
  rw [List.set_append_left _ _ (by omega)]
theorem spec_TriePut.ev (t : List S104) (a n o : Int) (hm : t.length ≤ 1048576) : Tells (fun k => spec_TriePut.f k t a n o) (· = triePut t a n o) := by
  have loop : TrieP t → PfxP a n → (0 ≤ o ∧ o ≤ 99) → Tells (fun k => spec_TriePut.l0 k o t 0 0 a n t) (· = triePut t a n o) := by
    intro hT hP ho
    have hQ := ((TrieP_iff t).1 hT).1
    have hl := hT.1
    obtain ⟨m, rfl⟩ := Int.eq_ofNat_of_zero_le hP.2.1.1
    have hm32 : m ≤ 32 := by have := hP.2.1.2; omega
    have hlen := ins_len hT a m
    have hend := ins_ok a m 0 t hQ (by simp [reach])
    refine T_loops (fun k (s : List S104 × Int) i => spec_TriePut.l0 k o s.1 s.2 (i : Int) a (m : Int) t) m (fun i s => (0 ≤ s.2 ∧ s.2 < s.1.length) ∧ TrieQ s.1 ∧ s.1.length ≤ 1000 + i ∧ ins a (m - i) (i : Int) s.2 s.1 = ins a m 0 0 t) (fun i s r => r = triePut t a (m : Int) o) (fun i s hi hs ih => ?_) (fun s hs => ?_) 0 (t, 0) (Nat.zero_le _) ⟨⟨Int.le_refl _, by dsimp only; omega⟩, hQ, by dsimp only; omega, rfl⟩
    · obtain ⟨u, p⟩ := s
      dsimp only at hs
      obtain ⟨⟨p0, p1⟩, hU, hul, he⟩ := hs
      simp only [spec_TriePut.l0]
      have e1 : m - i = (m - (i + 1)) + 1 := by omega
      rw [e1] at he
      simp only [ins] at he
      have join : ∀ q, q = kidOf u p (bitAt a i) → Tells (fun k => spec_TriePut.j2 k o u p (i : Int) q a (m : Int) t) (fun r => r = triePut t a (m : Int) o) := by
        rintro q rfl
        refine T_step ?_
        simp only [spec_TriePut.j2, Option.bind_some]
        rw [wsucc hi (by omega)]
        refine T_ite (fun h => ?_) (fun h => ?_)
        · rw [if_pos h] at he
          have hg : ∀ v, v = addKid u p (bitAt a i) → Tells (fun k => spec_TriePut.l0 k o v (u.length : Int) ((i + 1 : Nat) : Int) a (m : Int) t) (fun r => r = triePut t a (m : Int) o) := by
            rintro v rfl
            exact ih (addKid u p (bitAt a i), (u.length : Int)) ⟨⟨by dsimp only; omega, by dsimp only; rw [addKid_len]; omega⟩, addKid_Q hU p0 p1 (bitAt_01 a i) h, by dsimp only; rw [addKid_len]; omega, he⟩
          refine T_bind (spec_l10Bit.ev a i hP.1.1 hP.1.2 (by omega) (by omega)) ?_
          rintro _ rfl
          refine T_ite (fun hb => T_pos p0 (T_pos p1 (T_pos (by simp; omega) (hg _ ?_)))) (fun hb => T_pos p0 (T_pos p1 (T_pos (by simp; omega) (hg _ ?_))))
          · rw [spec_ins u p p0 p1]
            unfold addKid
            rw [if_neg (show ¬ bitAt a i = 0 by omega)]
          · rw [spec_ins u p p0 p1]
            unfold addKid
            rw [if_pos (show bitAt a i = 0 by have := bitAt_01 a i; omega)]
        · rw [if_neg h] at he
          have hk := (kid_rng hU p0 p1 (bitAt a i)).resolve_left h
          exact ih (u, kidOf u p (bitAt a i)) ⟨⟨by dsimp only; omega, by dsimp only; omega⟩, hU, by dsimp only; omega, he⟩
      refine T_pos (by omega) (T_pos p0 (T_pos p1 (T_bind (spec_l10Bit.ev a i hP.1.1 hP.1.2 (by omega) (by omega)) ?_)))
      rintro _ rfl
      refine T_ite (fun hb => join _ ?_) (fun hb => join _ ?_)
      · unfold kidOf; rw [if_pos hb]
      · unfold kidOf; rw [if_neg hb]
    · obtain ⟨u, p⟩ := s
      dsimp only at hs
      obtain ⟨⟨p0, p1⟩, hU, hul, he⟩ := hs
      rw [Nat.sub_self] at he
      have he : (u, p) = ins a m 0 0 t := he
      have eP : triePut t a (m : Int) o = if u.length > 400 then (t, false) else (setVal u p o, true) := by
        unfold triePut
        rw [if_pos ⟨hT, hP, ho⟩, Int.toNat_natCast, ← he]
      rw [eP]
      simp only [spec_TriePut.l0]
      refine T_neg (by omega) (T_ite (fun h => ?_) (fun h => T_pos p0 (T_pos p1 ?_)))
      · rw [if_pos (show u.length > 400 by omega)]
        exact T_ret rfl
      · rw [if_neg (show ¬ u.length > 400 by omega)]
        exact T_ret rfl
  have join : ∀ b : Bool, (b = false → TrieP t ∧ PfxP a n ∧ (0 ≤ o ∧ o ≤ 99)) → Tells (fun k => spec_TriePut.j0 k o b t a n t) (· = if b = true then (t, false) else triePut t a n o) := by
    intro b hb
    refine T_step ?_
    simp only [spec_TriePut.j0, Option.bind_some, List.length_nil, List.nil_append]
    cases b
    · obtain ⟨hT, hP, ho⟩ := hb rfl
      exact T_neg (by simp) (T_pos (by omega) ((loop hT hP ho).mono fun r hr => by rw [hr]; rfl))
    · exact T_pos rfl (T_ret rfl)
  have no : ¬ (TrieP t ∧ PfxP a n ∧ (0 ≤ o ∧ o ≤ 99)) → triePut t a n o = (t, false) := fun h => by unfold triePut; rw [if_neg h]
  unfold spec_TriePut.f
  simp only [Option.bind_some, List.length_nil, List.nil_append]
  refine T_pos (by omega) (T_bind (spec_TrieOk.ev t hm) fun q hq => T_ite (fun h => ?_) (fun h => ?_))
  · refine T_bind (spec_PrefixOk.ev a n) fun q2 hq2 => T_ite (fun h2 => ?_) (fun h2 => ?_)
    · simp only [spec_l01In.eq, Option.bind_some]
      refine (join _ (fun hb => ⟨hq.1 h, hq2.1 h2, by simpa using hb⟩)).mono fun r hr => ?_
      rw [hr]
      by_cases h3 : 0 ≤ o ∧ o ≤ 99
      · rw [if_neg (by simp [h3])]
      · rw [if_pos (by simp; omega), no (fun k => h3 k.2.2)]
    · refine (join _ (fun hb => by cases hb)).mono fun r hr => ?_
      rw [hr, if_pos rfl, no (fun k => h2 (hq2.2 k.2.1))]
  · refine (join _ (fun hb => by cases hb)).mono fun r hr => ?_
    rw [hr, if_pos rfl, no (fun k => h (hq.2 k.1))]

/-! impl_within -/
theorem impl_within.eq (a b c : Int) : impl_within.f a b c = some (decide (b ≤ a ∧ a ≤ c)) := by
  unfold impl_within.f
  by_cases h : b ≤ a <;> simp [h]

/-! impl_TrieOk -/
theorem impl_TrieOk.ev (t : List S104) (hm : t.length ≤ 1048576) : Tells (fun k => impl_TrieOk.f k t) (fun r => r = true ↔ TrieP t) := by
  unfold impl_TrieOk.f
  simp only [impl_within.eq, Option.bind_some, decide_eq_true_eq]
  refine T_ite (fun h1 => T_pos (by omega) (T_pos (by omega) ?_)) (fun h1 => T_ret (by
    simp only [Bool.false_eq_true, false_iff]
    rintro ⟨h, _⟩
    omega))
  have hn : t.length ≤ 400 := by omega
  have hl : (1 ≤ t.length ∧ t.length ≤ 400) := by omega
  -- one kid
  have kid : ∀ (u : List Int) (i : Nat) (hi : i < t.length) (a b c : Int) (m : Nat) (hmm : m < 2) (P : Bool → Prop), u.length = t.length → (∀ x, 0 ≤ rd u x ∧ rd u x ≤ 100000) →
      (Kid t.length i (rd [a, b] (m : Int)) → Tells (fun k => impl_TrieOk.l1 k (t.length : Int) (bump u (rd [a, b] (m : Int))) (i : Int) t (t.length : Int) (i : Int) [a, b] 2 ((m + 1 : Nat) : Int) a b c) P) → (¬ Kid t.length i (rd [a, b] (m : Int)) → P false) →
      Tells (fun k => impl_TrieOk.l1 k (t.length : Int) u (i : Int) t (t.length : Int) (i : Int) [a, b] 2 (m : Int) a b c) P := by
    intro u i hi a b c m hmm P hu hr go bad
    refine T_step ?_
    simp only [impl_TrieOk.l1, impl_within.eq, Option.bind_some]
    have hw : wrap64 ((t.length : Int) - 1) = (t.length : Int) - 1 := w64 (by omega) (by omega)
    rw [wsucc hi (by omega), hw]
    refine T_pos (by omega) (T_pos (by omega) (T_pos (by simp; omega) ?_))
    refine T_ite (fun h => T_step ?_) (fun h => T_step ?_)
    · simp only [impl_TrieOk.j2]
      rw [wsucc hmm (by omega)]
      refine T_neg (by simp) (T_pos h ?_)
      have := go (.inl h)
      simpa [bump, h] using this
    · simp only [impl_TrieOk.j2]
      rw [wsucc hmm (by omega)]
      refine T_ite (fun h3 => T_ret (bad (fun k => ?_))) (fun h3 => T_neg h ?_)
      · unfold Kid at k
        simp at h3
        omega
      · simp at h3
        refine T_pos (by omega) (T_pos (by omega) ?_)
        have := go (.inr (by omega))
        rw [w64 (by have := hr (rd [a, b] (m : Int)); omega) (by have := hr (rd [a, b] (m : Int)); omega)]
        simpa [bump, h] using this
  have main := T_loop (fun k i => impl_TrieOk.l0 k (t.length : Int) (upsOf t.length (t.take i)) t (t.length : Int) (i : Int)) t.length
    (fun i r => r = true ↔ (∀ j (h : j < t.length), i ≤ j → TwigC t.length j t[j]) ∧ ∀ j : Nat, i ≤ j → 1 ≤ j → j < t.length → rd (upsOf t.length (t.take (j + 1))) (j : Int) = 1) (fun i hi he => ?_) ?_ 0 (Nat.zero_le _)
  · refine Tells.mono (g := fun k => impl_TrieOk.l0 k (t.length : Int) (List.replicate t.length 0) t (t.length : Int) 0) main (fun r hr => ?_)
    · rw [hr]
      refine ⟨fun h => ⟨hl, fun j hj => h.1 j hj (Nat.zero_le _), fun j h1 h2 => ?_⟩, fun h => ⟨fun j hj _ => h.2.1 j hj, fun j _ h1 h2 => ?_⟩⟩
      · rw [ups_later t (fun j hj => h.1 j hj (Nat.zero_le _)) j (t.length - (j + 1)) (j + 1) (by omega) (by omega)]
        exact h.2 j (Nat.zero_le _) h1 h2
      · rw [← ups_later t h.2.1 j (t.length - (j + 1)) (j + 1) (by omega) (by omega)]
        exact h.2.2 j h1 h2
  · simp only [impl_TrieOk.l0, Option.bind_some, rd_T104_at t i hi]
    refine T_pos (by omega) (T_pos (by omega) (T_pos (by omega) ?_))
    have hnot : ¬ TwigC t.length i t[i] → (false = true ↔ (∀ j (h : j < t.length), i ≤ j → TwigC t.length j t[j]) ∧ ∀ j : Nat, i ≤ j → 1 ≤ j → j < t.length → rd (upsOf t.length (t.take (j + 1))) (j : Int) = 1) := fun h => by
      simp only [Bool.false_eq_true, false_iff]
      exact fun k => h (k.1 i hi (Nat.le_refl _))
    have hlen : (upsOf t.length (t.take i)).length = t.length := ups_len _ _
    have hrng : ∀ a, 0 ≤ rd (upsOf t.length (t.take i)) a ∧ rd (upsOf t.length (t.take i)) a ≤ 10000 := fun a => by have := ups_rng t.length t i (by omega) a; omega
    refine kid _ i hi _ _ _ 0 (by omega) _ hlen (fun a => by have := hrng a; omega) (fun ha => ?_) (fun ha => hnot (fun k => ha k.1))
    refine kid _ i hi _ _ _ 1 (by omega) _ (by rw [bump_len, hlen]) (fun a => by have := bump_rng _ 10000 (by omega) hrng (rd [(t[i]).f0, (t[i]).f1] ((0 : Nat) : Int)) a; omega) (fun hb => ?_) (fun hb => hnot (fun k => hb k.2.1))
    refine T_step ?_
    simp only [impl_TrieOk.l1, impl_within.eq, Option.bind_some, decide_eq_true_eq]
    refine T_neg (by omega) ?_
    rw [wsucc hi (by omega)]
    have e1 : bump (bump (upsOf t.length (t.take i)) (rd [(t[i]).f0, (t[i]).f1] ((0 : Nat) : Int))) (rd [(t[i]).f0, (t[i]).f1] ((1 : Nat) : Int)) = upsOf t.length (t.take (i + 1)) := (ups_succ t.length t i hi).symm
    rw [e1]
    have hlen2 : (upsOf t.length (t.take (i + 1))).length = t.length := ups_len _ _
    refine T_ite (fun h2 => ?_) (fun h2 => T_ret (hnot (fun k => h2 k.2.2)))
    have ok : TwigC t.length i t[i] := ⟨ha, hb, h2⟩
    have step : ∀ (hu : 1 ≤ i → rd (upsOf t.length (t.take (i + 1))) (i : Int) = 1), Tells (fun k => impl_TrieOk.l0 k (t.length : Int) (upsOf t.length (t.take (i + 1))) t (t.length : Int) ((i + 1 : Nat) : Int)) (fun r => r = true ↔ (∀ j (h : j < t.length), i ≤ j → TwigC t.length j t[j]) ∧ ∀ j : Nat, i ≤ j → 1 ≤ j → j < t.length → rd (upsOf t.length (t.take (j + 1))) (j : Int) = 1) := by
      intro hu
      refine he.mono fun r hr => ?_
      rw [hr]
      refine ⟨fun h => ⟨fun j hj hij => ?_, fun j hij h1 hj => ?_⟩, fun h => ⟨fun j hj hij => h.1 j hj (by omega), fun j hij h1 hj => h.2 j (by omega) h1 hj⟩⟩
      · by_cases e : j = i
        · subst e; exact ok
        · exact h.1 j hj (by omega)
      · by_cases e : j = i
        · subst e; exact hu h1
        · exact h.2 j (by omega) h1 hj
    refine T_ite (fun h3 => T_pos (by omega) (T_pos (by omega) (T_ite (fun h4 => step (fun _ => h4)) (fun h4 => T_ret ?_)))) (fun h3 => step (fun h => by omega))
    simp only [Bool.false_eq_true, false_iff]
    exact fun k => h4 (k.2 i (Nat.le_refl _) (by omega) hi)
  · simp only [impl_TrieOk.l0]
    exact T_neg (by omega) (T_ret (by
      simp only [true_iff]
      exact ⟨fun j hj hjj => absurd hj (by omega), fun j a b c => absurd c (by omega)⟩))

/-! impl_AddrOk -/
theorem impl_AddrOk.eq (a : Int) : impl_AddrOk.f a = some (decide (0 ≤ a ∧ a ≤ 4294967295)) := by
  unfold impl_AddrOk.f
  simp [impl_within.eq]

/-! impl_lastBits -/
theorem impl_lastBits.eq (n : Int) (h0 : 0 ≤ n) (h1 : n ≤ 32) : impl_lastBits.f n = some (2 ^ (32 - n).toNat - 1) := by
  unfold impl_lastBits.f
  have hp := pow_rng (32 - n).toNat (by omega)
  rw [w64 (x := 32 - n) (by omega) (by omega), if_pos (by omega)]
  have e : shl .i64 1 (32 - n) = 2 ^ (32 - n).toNat := by
    unfold shl
    rw [show min (32 - n).toNat IntKind.i64.bits = (32 - n).toNat from Nat.min_eq_left (by show _ ≤ 64; omega), Int.one_mul, wrap_i64_in (by omega) (by omega)]
  rw [e, w64 (by omega) (by omega)]

/-! impl_PrefixOk -/
theorem impl_PrefixOk.eq (a n : Int) : ∃ r, impl_PrefixOk.f a n = some r ∧ (r = true ↔ PfxP a n) := by
  unfold impl_PrefixOk.f PfxP
  simp only [impl_AddrOk.eq, impl_within.eq, Option.bind_some, decide_eq_true_eq]
  by_cases h1 : 0 ≤ a ∧ a ≤ 4294967295
  · by_cases h2 : 0 ≤ n ∧ n ≤ 32
    · rw [if_pos h1, if_pos h2, impl_lastBits.eq n h2.1 h2.2]
      refine ⟨_, rfl, ?_⟩
      rw [bits_mask .i64 62 (by decide) (fun x h0 h1 => wrap_i64_in (by omega) (by omega)) (32 - n).toNat (by omega) a h1.1 (by omega)]
      simp [h1, h2]
    · rw [if_pos h1, if_neg h2]
      exact ⟨_, rfl, by simp [h2]⟩
  · rw [if_neg h1]
    exact ⟨_, rfl, by simp [h1]⟩
theorem impl_PrefixOk.ev (a n : Int) : Tells (fun _ => impl_PrefixOk.f a n) (fun r => r = true ↔ PfxP a n) := by
  obtain ⟨r, h, hr⟩ := impl_PrefixOk.eq a n
  exact T_some (fun _ => h) hr

/-! impl_along -/
theorem impl_along.eq (z o dst b : Int) (hb : b = 0 ∨ b = 1) : impl_along.f z o dst b = some (if b = 1 then o else z) := by
  unfold impl_along.f
  rcases hb with rfl | rfl <;> simp

/-! impl_bitOf -/
theorem impl_bitOf.eq (a i : Int) (h0 : 0 ≤ a) (h1 : a ≤ 4294967295) (i0 : 0 ≤ i) (i1 : i ≤ 31) : impl_bitOf.f a i = some (bitAt a i) := by
  unfold impl_bitOf.f bitAt
  rw [w64 (x := 31 - i) (by omega) (by omega), if_pos (by omega)]
  have e : shr .i64 a (31 - i) = a / 2 ^ (31 - i).toNat := by
    unfold shr
    rw [show min (31 - i).toNat IntKind.i64.bits = (31 - i).toNat from Nat.min_eq_left (by show _ ≤ 64; omega)]
  have hp := pow_rng (31 - i).toNat (by omega)
  have d0 : 0 ≤ a / 2 ^ (31 - i).toNat := Int.ediv_nonneg h0 (by omega)
  have d1 : a / 2 ^ (31 - i).toNat ≤ a := Int.ediv_le_self _ h0
  have m := bits_mask .i64 62 (by decide) (fun x h0 h1 => wrap_i64_in (by omega) (by omega)) 1 (by omega) (a / 2 ^ (31 - i).toNat) d0 (by omega)
  rw [e]
  exact congrArg some m

/-! impl_copyTrie -/
theorem impl_copyTrie.eq (t : List S104) (hm : t.length ≤ 1048576) : impl_copyTrie.f t = some t := by
  unfold impl_copyTrie.f
  simp only [Option.bind_some, List.length_nil, List.nil_append]
  rw [if_pos (by omega)]

/-! impl_TriePut -/
theorem impl_TriePut.ev (t : List S104) (a n o : Int) (hm : t.length ≤ 1048576) : Tells (fun k => impl_TriePut.f k t a n o) (· = triePut t a n o) := by
  have loop : TrieP t → PfxP a n → (0 ≤ o ∧ o ≤ 99) → Tells (fun k => impl_TriePut.l0 k o 0 n 0 t a n t) (· = triePut t a n o) := by
    intro hT hP ho
    have hQ := ((TrieP_iff t).1 hT).1
    have hl := hT.1
    obtain ⟨m, rfl⟩ := Int.eq_ofNat_of_zero_le hP.2.1.1
    have hm32 : m ≤ 32 := by have := hP.2.1.2; omega
    have hlen := ins_len hT a m
    have hend := ins_ok a m 0 t hQ (by simp [reach])
    refine T_loops (fun k (s : List S104 × Int) i => impl_TriePut.l0 k o s.2 (m : Int) (i : Int) t a (m : Int) s.1) m (fun i s => (0 ≤ s.2 ∧ s.2 < s.1.length) ∧ TrieQ s.1 ∧ s.1.length ≤ 1000 + i ∧ ins a (m - i) (i : Int) s.2 s.1 = ins a m 0 0 t) (fun i s r => r = triePut t a (m : Int) o) (fun i s hi hs ih => ?_) (fun s hs => ?_) 0 (t, 0) (Nat.zero_le _) ⟨⟨Int.le_refl _, by dsimp only; omega⟩, hQ, by dsimp only; omega, rfl⟩
    · obtain ⟨u, p⟩ := s
      dsimp only at hs
      obtain ⟨⟨p0, p1⟩, hU, hul, he⟩ := hs
      simp only [impl_TriePut.l0]
      rw [wsucc hi (by omega)]
      refine T_pos (by omega) ?_
      simp only [impl_bitOf.eq a i hP.1.1 hP.1.2 (by omega) (by omega), Option.bind_some, impl_along.eq _ _ _ _ (bitAt_01 a i)]
      have e1 : m - i = (m - (i + 1)) + 1 := by omega
      rw [e1] at he
      simp only [ins] at he
      have ek : (if bitAt a i = 1 then (rd_T104 u p).f1 else (rd_T104 u p).f0) = kidOf u p (bitAt a i) := rfl
      refine T_pos p0 (T_pos p1 ?_)
      rw [ek]
      refine T_ite (fun h => ?_) (fun h => ?_)
      · rw [if_pos h] at he
        have hg : ∀ v, v = addKid u p (bitAt a i) → Tells (fun k => impl_TriePut.l0 k o (u.length : Int) (m : Int) ((i + 1 : Nat) : Int) t a (m : Int) v) (fun r => r = triePut t a (m : Int) o) := by
          rintro v rfl
          exact ih (addKid u p (bitAt a i), (u.length : Int)) ⟨⟨by dsimp only; omega, by dsimp only; rw [addKid_len]; omega⟩, addKid_Q hU p0 p1 (bitAt_01 a i) h, by dsimp only; rw [addKid_len]; omega, he⟩
        have e2 := ins_step u p (bitAt a i) p0 p1
        refine T_pos (by omega) (T_ite (fun hb => T_pos (by simp; omega) (hg _ ?_)) (fun hb => T_pos (by simp; omega) (hg _ ?_)))
        · rw [e2, if_pos hb]
        · rw [e2, if_neg hb]
      · rw [if_neg h] at he
        have hk := (kid_rng hU p0 p1 (bitAt a i)).resolve_left h
        exact ih (u, kidOf u p (bitAt a i)) ⟨⟨by dsimp only; omega, by dsimp only; omega⟩, hU, by dsimp only; omega, he⟩
    · obtain ⟨u, p⟩ := s
      dsimp only at hs
      obtain ⟨⟨p0, p1⟩, hU, hul, he⟩ := hs
      rw [Nat.sub_self] at he
      have he : (u, p) = ins a m 0 0 t := he
      have eP : triePut t a (m : Int) o = if u.length > 400 then (t, false) else (setVal u p o, true) := by
        unfold triePut
        rw [if_pos ⟨hT, hP, ho⟩, Int.toNat_natCast, ← he]
      rw [eP]
      simp only [impl_TriePut.l0]
      refine T_neg (by omega) (T_pos p0 (T_pos p1 (T_ite (fun h => ?_) (fun h => ?_))))
      · simp only [impl_copyTrie.eq t hm, Option.bind_some]
        rw [if_pos (show u.length > 400 by omega)]
        exact T_ret rfl
      · rw [if_neg (show ¬ u.length > 400 by omega)]
        exact T_ret rfl
  have join : ∀ b : Bool, (b = false → TrieP t ∧ PfxP a n ∧ (0 ≤ o ∧ o ≤ 99)) → Tells (fun k => impl_TriePut.j0 k o b t a n) (· = if b = true then (t, false) else triePut t a n o) := by
    intro b hb
    refine T_step ?_
    simp only [impl_TriePut.j0, impl_copyTrie.eq t hm, Option.bind_some]
    cases b
    · obtain ⟨hT, hP, ho⟩ := hb rfl
      exact T_neg (by simp) ((loop hT hP ho).mono fun r hr => by rw [hr]; rfl)
    · exact T_pos rfl (T_ret rfl)
  have no : ¬ (TrieP t ∧ PfxP a n ∧ (0 ≤ o ∧ o ≤ 99)) → triePut t a n o = (t, false) := fun h => by unfold triePut; rw [if_neg h]
  unfold impl_TriePut.f
  refine T_bind (impl_TrieOk.ev t hm) fun q hq => T_ite (fun h => ?_) (fun h => ?_)
  · refine T_bind (impl_PrefixOk.ev a n) fun q2 hq2 => T_ite (fun h2 => ?_) (fun h2 => ?_)
    · simp only [impl_within.eq, Option.bind_some]
      refine (join _ (fun hb => ⟨hq.1 h, hq2.1 h2, by simpa using hb⟩)).mono fun r hr => ?_
      rw [hr]
      by_cases h3 : 0 ≤ o ∧ o ≤ 99
      · rw [if_neg (by simp [h3])]
      · rw [if_pos (by simp; omega), no (fun k => h3 k.2.2)]
    · refine (join _ (fun hb => by cases hb)).mono fun r hr => ?_
      rw [hr, if_pos rfl, no (fun k => h2 (hq2.2 k.2.1))]
  · refine (join _ (fun hb => by cases hb)).mono fun r hr => ?_
    rw [hr, if_pos rfl, no (fun k => h (hq.2 k.1))]

/-! laws_markTwigS -/
def mkTwig (m : Nat) (n : Int) : List S104 := (List.range m).map fun (i : Nat) => ⟨n + 3 * (i : Int), n + 3 * (i : Int) + 1, n + 3 * (i : Int) + 2⟩
theorem mkTwig_len (m : Nat) (n : Int) : (mkTwig m n).length = m := by simp [mkTwig]
theorem mkTwig_succ (m : Nat) (n : Int) : mkTwig (m + 1) n = mkTwig m n ++ [⟨n + 3 * (m : Int), n + 3 * (m : Int) + 1, n + 3 * (m : Int) + 2⟩] := by simp [mkTwig, List.range_succ]
theorem rdTwig_set (l : List S104) (i : Nat) (y : S104) (h : i < l.length) : rd_T104 (l.set i y) (i : Int) = y := by simp [rd_T104, List.getD_eq_getElem?_getD, h]
theorem laws_markTwigS.ev (l : List S104) (n : Int) (hl : l.length ≤ 1048576) (h0 : 0 ≤ n) (h1 : n ≤ 1000000000) : Tells (fun k => laws_markTwigS.f k l n) (· = (n + 3 * (l.length : Int), mkTwig l.length n)) := by
  unfold laws_markTwigS.f
  have h := T_loop' (fun k i => laws_markTwigS.l0 k (mkTwig i n ++ l.drop i) (n + 3 * (i : Int)) (i : Int)) l.length (· = (n + 3 * (l.length : Int), mkTwig l.length n)) (fun i hi he => ?_) ?_
  · have e : mkTwig 0 n ++ l.drop 0 = l := rfl
    rw [e] at h
    simpa using h
  · have hL : (mkTwig i n ++ l.drop i).length = l.length := by rw [List.length_append, mkTwig_len, List.length_drop]; omega
    simp only [laws_markTwigS.l0, Option.bind_some]
    rw [hL, wsucc hi (by omega), w64 (x := n + 3 * (i : Int) + 1) (by omega) (by omega), w64 (x := n + 3 * (i : Int) + 1 + 1) (by omega) (by omega), w64 (x := n + 3 * (i : Int) + 1 + 1 + 1) (by omega) (by omega)]
    refine T_pos (by omega) (T_pos (by omega) ?_)
    simp only [Int.toNat_natCast, List.set_set, rdTwig_set _ i _ (show i < (mkTwig i n ++ l.drop i).length by omega)]
    rw [set_mk _ _ _ i (mkTwig_len i n) hi]
    have e2 : n + 3 * (i : Int) + 1 + 1 + 1 = n + 3 * ((i + 1 : Nat) : Int) := by omega
    have e3 : n + 3 * (i : Int) + 1 + 1 = n + 3 * (i : Int) + 2 := by omega
    rw [e2, e3, ← mkTwig_succ]
    exact he
  · simp only [laws_markTwigS.l0]
    have e : mkTwig l.length n ++ l.drop l.length = mkTwig l.length n := by rw [List.drop_of_length_le (Nat.le_refl _), List.append_nil]
    rw [e, mkTwig_len]
    exact T_neg (by omega) (T_ret rfl)

/-! laws_markTrie -/
theorem laws_markTrie.ev (l : List S104) (n : Int) (hl : l.length ≤ 1048576) (h0 : 0 ≤ n) (h1 : n ≤ 1000000000) : Tells (fun k => laws_markTrie.f k l n) (· = (n + 3 * (l.length : Int), mkTwig l.length n)) := by
  unfold laws_markTrie.f
  refine T_bind (laws_markTwigS.ev l n hl h0 h1) ?_
  rintro _ rfl
  exact T_ret rfl

/-! laws_heldTwigS -/
theorem laws_heldTwigS.ev (m : Nat) (n : Int) (hl : m ≤ 1048576) (h0 : 0 ≤ n) (h1 : n ≤ 1000000000) : Tells (fun k => laws_heldTwigS.f k (mkTwig m n) n) (· = n + 3 * (m : Int)) := by
  unfold laws_heldTwigS.f
  have h := T_loop' (fun k i => laws_heldTwigS.l0 k (mkTwig m n) (n + 3 * (i : Int)) (i : Int)) m (· = n + 3 * (m : Int)) (fun i hi he => ?_) ?_
  · simpa using h
  · have hr : rd_T104 (mkTwig m n) (i : Int) = ⟨n + 3 * (i : Int), n + 3 * (i : Int) + 1, n + 3 * (i : Int) + 2⟩ := by simp [rd_T104, mkTwig, List.getD_eq_getElem?_getD, hi]
    simp only [laws_heldTwigS.l0, hr]
    rw [mkTwig_len, wsucc hi (by omega), w64 (x := n + 3 * (i : Int) + 1) (by omega) (by omega), w64 (x := n + 3 * (i : Int) + 1 + 1) (by omega) (by omega), w64 (x := n + 3 * (i : Int) + 1 + 1 + 1) (by omega) (by omega)]
    refine T_pos (by omega) (T_pos (by omega) (T_pos (by first | trivial | omega) (T_pos (by first | trivial | omega) (T_pos (by first | trivial | omega) ?_))))
    have e2 : n + 3 * (i : Int) + 1 + 1 + 1 = n + 3 * ((i + 1 : Nat) : Int) := by omega
    rw [e2]
    exact he
  · simp only [laws_heldTwigS.l0]
    rw [mkTwig_len]
    exact T_neg (by omega) (T_ret rfl)

/-! laws_heldTrie -/
theorem laws_heldTrie.ev (m : Nat) (n : Int) (hl : m ≤ 1048576) (h0 : 0 ≤ n) (h1 : n ≤ 1000000000) : Tells (fun k => laws_heldTrie.f k (mkTwig m n) n) (· = n + 3 * (m : Int)) := by
  unfold laws_heldTrie.f
  refine T_bind (laws_heldTwigS.ev m n hl h0 h1) ?_
  rintro _ rfl
  exact T_neg (by omega) (T_ret rfl)

theorem triePut_len (t : List S104) (a n o : Int) (hm : t.length ≤ 1048576) : (triePut t a n o).1.length ≤ 1048576 := by
  unfold triePut
  split
  · rename_i h
    split
    · exact hm
    · simp only [setVal, List.length_set]
      omega
  · exact hm
theorem FnExactTriePut : laws_FnExactTriePut.Goal := by
  rintro l a n o ⟨hl, _, _⟩ _ _ _
  refine Tells.rounds ?_
  unfold laws_FnExactTriePut.f
  refine T_bind (laws_szTrie.ev l 1048576 (by omega) (by omega) hl) fun v hv => T_ite (fun _ => T_ret rfl) (fun h => ?_)
  obtain ⟨p0, p1, p2⟩ := hv.resolve_left (by omega)
  have hn : l.length ≤ 1048576 := by omega
  have hm : (l.map to_Twig).length ≤ 1048576 := by simpa using hn
  have hr := triePut_len _ a n o hm
  have end_ : ∀ b x : Bool, Tells (fun k => laws_FnExactTriePut.j2 k (1 + 3 * ((triePut (l.map to_Twig) a n o).1.length : Int)) (b != b) (mkTwig (triePut (l.map to_Twig) a n o).1.length 1)) (· = true) := by
    intro b x
    refine T_step ?_
    simp only [laws_FnExactTriePut.j2]
    refine T_neg (by simp) (T_bind (laws_heldTrie.ev _ 1 hr (by omega) (by omega)) ?_)
    rintro _ rfl
    exact T_neg (by omega) (T_pos rfl (T_ret rfl))
  have mid : ∀ c : Bool, c = false → Tells (fun k => laws_FnExactTriePut.j1 k o (triePut (l.map to_Twig) a n o).2 c l a n (triePut (l.map to_Twig) a n o).1 (triePut (l.map to_Twig) a n o).1) (· = true) := by
    rintro _ rfl
    refine T_step ?_
    simp only [laws_FnExactTriePut.j1]
    refine T_neg (by simp) (T_bind (laws_markTrie.ev _ 1 hr (by omega) (by omega)) ?_)
    rintro _ rfl
    refine T_bind (laws_heldTrie.ev _ 1 hr (by omega) (by omega)) ?_
    rintro _ rfl
    refine T_neg (by omega) (T_pos rfl (T_bind (laws_toTrie.ev l hn) ?_))
    rintro _ rfl
    refine T_bind (laws_toPrefix.ev a n) ?_
    rintro _ rfl
    refine T_bind (impl_TriePut.ev _ a n o hm) ?_
    rintro _ rfl
    refine T_bind (laws_eqTrie.ev _ hr) ?_
    rintro _ rfl
    exact T_pos rfl (end_ _ true)
  have first : ∀ c : Bool, c = false → Tells (fun k => laws_FnExactTriePut.j0 k o (triePut (l.map to_Twig) a n o).2 (triePut (l.map to_Twig) a n o).2 c l a n (triePut (l.map to_Twig) a n o).1 (l.map to_Twig) (triePut (l.map to_Twig) a n o).1) (· = true) := by
    rintro _ rfl
    refine T_step ?_
    simp only [laws_FnExactTriePut.j0]
    refine T_neg (by simp) (T_bind (laws_toTrie.ev l hn) ?_)
    rintro _ rfl
    refine T_bind (laws_eqTrie.ev _ hm) ?_
    rintro _ rfl
    refine T_pos rfl (T_bind (laws_markTrie.ev _ 1 hm (by omega) (by omega)) ?_)
    rintro _ rfl
    refine T_neg (by omega) (T_bind (laws_eqTrie.ev _ hr) ?_)
    rintro _ rfl
    exact T_pos rfl (mid _ (by simp))
  refine T_bind (laws_toTrie.ev l hn) ?_
  rintro _ rfl
  refine T_bind (laws_toPrefix.ev a n) ?_
  rintro _ rfl
  refine T_bind (spec_TriePut.ev _ a n o hm) ?_
  rintro _ rfl
  refine T_bind (laws_toTrie.ev l hn) ?_
  rintro _ rfl
  refine T_bind (laws_toPrefix.ev a n) ?_
  rintro _ rfl
  refine T_bind (impl_TriePut.ev _ a n o hm) ?_
  rintro _ rfl
  refine T_bind (laws_eqTrie.ev _ hr) ?_
  rintro _ rfl
  exact T_pos rfl (first _ (by simp))

end Go.Proofs.Ytbddppnhpapfkaa.Pure
