/- FnExactPacketText: the pure statement, proved: for every input of the law its printed function answers true. No condition. -/
import Derived.Test.YtpheniajdbbphaaGoalFnExactPacketText
namespace Go.Proofs.Ytpheniajdbbphaa.Pure
open Go.RowKit Go.Proofs.Ytpheniajdbbphaa.PFnExactPacketText Go.Proofs.YtpheniajdbbphaaW.PrintWords Go.Proofs.YtpheniajdbbphaaW.PrintLast Go.Proofs.YtpheniajdbbphaaW.PrintMore
set_option linter.unusedVariables false
set_option linter.unusedSimpArgs false
theorem w64 {x : Int} (h0 : -9223372036854775808 ≤ x) (h1 : x ≤ 9223372036854775807) : wrap64 x = x := by unfold wrap64; omega
theorem wsucc {i n : Nat} (h : i < n) (hn : n ≤ 9223372036854775807) : wrap64 ((i : Int) + 1) = ((i + 1 : Nat) : Int) := by unfold wrap64; omega
theorem wf64 {x : Int} (h : (Lit.int .i64 x).wf = true) : -9223372036854775808 ≤ x ∧ x ≤ 9223372036854775807 := by
  have h' : IntKind.i64.min ≤ x ∧ x ≤ IntKind.i64.max := by simpa [Lit.wf] using h
  exact h'
/-- From some number of rounds on it answers, and what it answers is so. -/
def Tells {α : Type} (g : Nat → Option α) (P : α → Prop) : Prop := ∃ r, P r ∧ Ev g r
theorem Tells.ev {α : Type} {g : Nat → Option α} {r : α} (h : Tells g (· = r)) : Ev g r := by
  obtain ⟨x, rfl, h⟩ := h
  exact h
theorem Tells.of {α : Type} {g : Nat → Option α} {r : α} (h : Ev g r) : Tells g (· = r) := ⟨r, rfl, h⟩
theorem Tells.rounds {α : Type} {g : Nat → Option α} {r : α} (h : Tells g (· = r)) : ∃ k, g k = some r := h.ev.rounds
theorem Tells.now {α : Type} {g : Option α} {r : α} (h : Tells (fun _ => g) (· = r)) : g = some r := by
  obtain ⟨K, h⟩ := h.ev
  exact h K (Nat.le_refl _)
theorem Tells.mono {α : Type} {g : Nat → Option α} {P Q : α → Prop} (h : Tells g P) (k : ∀ x, P x → Q x) : Tells g Q := by
  obtain ⟨x, hp, h⟩ := h
  exact ⟨x, k x hp, h⟩
theorem T_ret {α : Type} {P : α → Prop} {r : α} (h : P r) : Tells (fun _ => some r) P := ⟨r, h, Ev.now r⟩
theorem T_ite {α : Type} {c : Prop} {d : Decidable c} {f g : Nat → Option α} {P : α → Prop} (h1 : c → Tells f P) (h2 : ¬ c → Tells g P) : Tells (fun k => @ite _ c d (f k) (g k)) P := by
  by_cases h : c
  · obtain ⟨r, hp, he⟩ := h1 h
    exact ⟨r, hp, Ev.congr (fun k => if_pos h) he⟩
  · obtain ⟨r, hp, he⟩ := h2 h
    exact ⟨r, hp, Ev.congr (fun k => if_neg h) he⟩
theorem T_pos {α : Type} {c : Prop} {d : Decidable c} {f g : Nat → Option α} {P : α → Prop} (h : c) (hf : Tells f P) : Tells (fun k => @ite _ c d (f k) (g k)) P := T_ite (fun _ => hf) (fun h' => absurd h h')
theorem T_neg {α : Type} {c : Prop} {d : Decidable c} {f g : Nat → Option α} {P : α → Prop} (h : ¬ c) (hg : Tells g P) : Tells (fun k => @ite _ c d (f k) (g k)) P := T_ite (fun h' => absurd h' h) (fun _ => hg)
theorem T_bind {α β : Type} {g : Nat → Option α} {f : Nat → α → Option β} {Q : α → Prop} {P : β → Prop} (h : Tells g Q) (k : ∀ x, Q x → Tells (fun n => f n x) P) : Tells (fun n => (g n).bind (f n)) P := by
  obtain ⟨x, hq, he⟩ := h
  obtain ⟨r, hp, he'⟩ := k x hq
  exact ⟨r, hp, Ev.bind he he'⟩
theorem T_step {α : Type} {g : Nat → Option α} {P : α → Prop} (h : Tells (fun k => g (k + 1)) P) : Tells g P := by
  obtain ⟨r, hp, he⟩ := h
  exact ⟨r, hp, Ev.step (fun _ => rfl) he⟩
theorem T_eq {α : Type} {g f : Nat → Option α} {P : α → Prop} (h : ∀ k, g k = f k) (hf : Tells f P) : Tells g P := by
  obtain ⟨r, hp, he⟩ := hf
  exact ⟨r, hp, Ev.congr h he⟩
theorem T_some {α : Type} {g : Nat → Option α} {P : α → Prop} {r : α} (h : ∀ k, g k = some r) (hp : P r) : Tells g P := T_eq h (T_ret hp)
theorem T_unique {α : Type} {g : Nat → Option α} {P : α → Prop} {r : α} (h : Tells g P) (h' : Tells g (· = r)) : P r := by
  obtain ⟨x, hp, K, h⟩ := h
  obtain ⟨K', h'⟩ := h'.ev
  have a := h (max K K') (by omega)
  have b := h' (max K K') (by omega)
  rw [a] at b
  exact Option.some.inj b ▸ hp
/-- A loop with a counter, from the last round back. -/
theorem T_loop {ρ : Type} (g : Nat → Nat → Option ρ) (n : Nat) (P : Nat → ρ → Prop)
    (step : ∀ i, i < n → Tells (fun k => g k (i + 1)) (P (i + 1)) → Tells (fun k => g (k + 1) i) (P i)) (fin : Tells (fun k => g (k + 1) n) (P n)) : ∀ i, i ≤ n → Tells (fun k => g k i) (P i) := by
  have key : ∀ d i, i + d = n → Tells (fun k => g k i) (P i) := by
    intro d
    induction d with
    | zero =>
      intro i hi
      obtain rfl : i = n := by omega
      exact T_step fin
    | succ d ih =>
      intro i hi
      exact T_step (step i (by omega) (ih (i + 1) (by omega)))
  exact fun i hi => key (n - i) i (by omega)
/-- A loop whose answer does not hang on the round. -/
theorem T_loop' {ρ : Type} (g : Nat → Nat → Option ρ) (n : Nat) (P : ρ → Prop)
    (step : ∀ i, i < n → Tells (fun k => g k (i + 1)) P → Tells (fun k => g (k + 1) i) P) (fin : Tells (fun k => g (k + 1) n) P) : Tells (fun k => g k 0) P :=
  T_loop g n (fun _ => P) step fin 0 (Nat.zero_le _)
/-- What holds of all from a round on. -/
def From (C : Nat → Prop) (n i : Nat) : Prop := ∀ j, i ≤ j → j < n → C j
theorem From.cons {C : Nat → Prop} {n i : Nat} (h : C i) : From C n (i + 1) ↔ From C n i := by
  refine ⟨fun k j a b => ?_, fun k j a b => k j (by omega) b⟩
  by_cases e : j = i
  · exact e ▸ h
  · exact k j (by omega) b
theorem From.none {C : Nat → Prop} {n i : Nat} (hi : i < n) (h : ¬ C i) : ¬ From C n i := fun k => h (k i (Nat.le_refl _) hi)
theorem From.last (C : Nat → Prop) (n : Nat) : From C n n := fun j a b => absurd b (by omega)
theorem set_copy_map {α β : Type} (l : List α) (f : α → β) (z : β) (i : Nat) (h : i < l.length) (x : β) (hx : x = f l[i]) : ((l.take i).map f ++ List.replicate (l.length - i) z).set i x = (l.take (i + 1)).map f ++ List.replicate (l.length - (i + 1)) z := by
  subst hx
  have e : l.length - i = (l.length - (i + 1)) + 1 := by omega
  have hl : ((l.take i).map f).length = i := by rw [List.length_map, List.length_take]; omega
  rw [e, List.replicate_succ, List.set_append_right _ _ (by omega), hl, Nat.sub_self, List.set_cons_zero, List.take_succ_eq_append_getElem h, List.map_append]
  simp only [List.map_cons, List.map_nil, List.append_assoc, List.singleton_append]
theorem set_copy {α : Type} (l : List α) (z : α) (i : Nat) (h : i < l.length) (x : α) (hx : x = l[i]) : (l.take i ++ List.replicate (l.length - i) z).set i x = l.take (i + 1) ++ List.replicate (l.length - (i + 1)) z := by
  have := set_copy_map l id z i h x hx
  rw [List.map_id, List.map_id] at this
  exact this
theorem rd_nat (xs : List Int) (i : Nat) (h : i < xs.length) : rd xs (i : Int) = xs[i] := by simp [rd, List.getD_eq_getElem?_getD, h]
theorem rdOf_nat {α : Type} (d : α) (xs : List α) (i : Nat) (h : i < xs.length) : rdOf d xs (i : Int) = xs[i] := by simp [rdOf, List.getD_eq_getElem?_getD, h]
/-- a where c is so, else b. -/
def Either {ρ : Type} (c : Prop) (a b r : ρ) : Prop := (c ∧ r = a) ∨ (¬ c ∧ r = b)
theorem Either.same {ρ : Type} {c c' : Prop} {a b r s : ρ} (h : Either c a b r) (h' : Either c' a b s) (e : c ↔ c') : r = s := by
  rcases h with ⟨h, rfl⟩ | ⟨h, rfl⟩ <;> rcases h' with ⟨h', rfl⟩ | ⟨h', rfl⟩
  · rfl
  · exact absurd (e.1 h) h'
  · exact absurd (e.2 h') h
  · rfl
/-- A loop that checks each place. -/
theorem T_all {ρ : Type} (g : Nat → Nat → Option ρ) (n : Nat) (C : Nat → Prop) (bad fin : ρ)
    (step : ∀ i, i < n → C i → ∀ P : ρ → Prop, Tells (fun k => g k (i + 1)) P → Tells (fun k => g (k + 1) i) P) (out : ∀ i, i < n → ¬ C i → Tells (fun k => g (k + 1) i) (· = bad)) (hf : Tells (fun k => g (k + 1) n) (· = fin)) :
    Tells (fun k => g k 0) (Either (From C n 0) fin bad) := by
  refine T_loop g n (fun i => Either (From C n i) fin bad) (fun i hi he => ?_) (hf.mono fun r hr => .inl ⟨From.last C n, hr⟩) 0 (Nat.zero_le _)
  by_cases hc : C i
  · refine (step i hi hc _ he).mono fun r hr => ?_
    unfold Either at hr ⊢
    rw [From.cons hc] at hr
    exact hr
  · exact (out i hi hc).mono fun r hr => .inr ⟨From.none hi hc, hr⟩
/-- A loop that looks for the first place. -/
theorem T_find {ρ : Type} (g : Nat → Nat → Option ρ) (n : Nat) (C : Nat → Prop) (got : Nat → ρ) (fin : ρ)
    (step : ∀ i, i < n → ¬ C i → ∀ P : ρ → Prop, Tells (fun k => g k (i + 1)) P → Tells (fun k => g (k + 1) i) P) (out : ∀ i, i < n → C i → Tells (fun k => g (k + 1) i) (· = got i)) (hf : Tells (fun k => g (k + 1) n) (· = fin)) :
    Tells (fun k => g k 0) (fun r => (∃ j, j < n ∧ C j ∧ (∀ m, m < j → ¬ C m) ∧ r = got j) ∨ ((∀ j, j < n → ¬ C j) ∧ r = fin)) := by
  refine (T_loop g n (fun i r => (∃ j, i ≤ j ∧ j < n ∧ C j ∧ (∀ m, i ≤ m → m < j → ¬ C m) ∧ r = got j) ∨ ((∀ j, i ≤ j → j < n → ¬ C j) ∧ r = fin)) (fun i hi he => ?_)
    (hf.mono fun r hr => .inr ⟨fun j a b => absurd b (by omega), hr⟩) 0 (Nat.zero_le _)).mono fun r hr => ?_
  · by_cases hc : C i
    · exact (out i hi hc).mono fun r hr => .inl ⟨i, Nat.le_refl _, hi, hc, fun m a b => absurd b (by omega), hr⟩
    · refine (step i hi hc _ he).mono fun r hr => ?_
      rcases hr with ⟨j, a, b, c, d, e⟩ | ⟨a, b⟩
      · refine .inl ⟨j, by omega, b, c, fun m h1 h2 => ?_, e⟩
        by_cases hm : m = i
        · exact hm ▸ hc
        · exact d m (by omega) h2
      · refine .inr ⟨fun j h1 h2 => ?_, b⟩
        by_cases hm : j = i
        · exact hm ▸ hc
        · exact a j (by omega) h2
  · rcases hr with ⟨j, _, b, c, d, e⟩ | ⟨a, b⟩
    · exact .inl ⟨j, b, c, fun m hm => d m (Nat.zero_le _) hm, e⟩
    · exact .inr ⟨fun j hj => a j (Nat.zero_le _) hj, b⟩
theorem ba_ext {a b : ByteArray} (h : a.toList = b.toList) : a = b := by
  rw [ByteArray.toList_eq, ByteArray.toList_eq] at h
  cases a; cases b
  simpa using h
/-- The same of a test. -/
theorem T_allb (g : Nat → Nat → Option Bool) (n : Nat) (C : Nat → Prop) (F : Prop)
    (step : ∀ i, i < n → C i → ∀ P : Bool → Prop, Tells (fun k => g k (i + 1)) P → Tells (fun k => g (k + 1) i) P) (out : ∀ i, i < n → ¬ C i → Tells (fun k => g (k + 1) i) (· = false)) (hf : Tells (fun k => g (k + 1) n) (fun r => r = true ↔ F)) :
    Tells (fun k => g k 0) (fun r => r = true ↔ (∀ j, j < n → C j) ∧ F) := by
  refine (T_loop g n (fun i r => r = true ↔ From C n i ∧ F) (fun i hi he => ?_) (hf.mono fun r hr => hr.trans ⟨fun h => ⟨From.last C n, h⟩, fun h => h.2⟩) 0 (Nat.zero_le _)).mono fun r hr => by
      rw [hr]
      exact ⟨fun h => ⟨fun j hj => h.1 j (Nat.zero_le _) hj, h.2⟩, fun h => ⟨fun j _ hj => h.1 j hj, h.2⟩⟩
  by_cases hc : C i
  · refine (step i hi hc _ he).mono fun r hr => ?_
    rw [hr, From.cons hc]
  · exact (out i hi hc).mono fun r hr => by
      rw [hr]
      exact ⟨fun h => absurd h Bool.false_ne_true, fun h => absurd h.1 (From.none hi hc)⟩
theorem same_bool {c : Prop} {r s : Bool} (h : r = true ↔ c) (k : s = true ↔ c) : s = r := Bool.eq_iff_iff.2 (k.trans h.symm)
theorem mem_drop_iff {α : Type} {l : List α} {i : Nat} (h : i < l.length) (a : α) : a ∈ l.drop i ↔ a = l[i] ∨ a ∈ l.drop (i + 1) := by
  rw [List.drop_eq_getElem_cons h, List.mem_cons]
theorem drop_eq_iff {α : Type} {a b : List α} {i : Nat} (ha : i < a.length) (hb : i < b.length) : a.drop i = b.drop i ↔ a[i] = b[i] ∧ a.drop (i + 1) = b.drop (i + 1) := by
  rw [List.drop_eq_getElem_cons ha, List.drop_eq_getElem_cons hb, List.cons.injEq]
/-- A loop with a counter and a state. -/
theorem T_loops {ρ σ : Type} (g : Nat → σ → Nat → Option ρ) (n : Nat) (Inv : Nat → σ → Prop) (P : Nat → σ → ρ → Prop)
    (step : ∀ i s, i < n → Inv i s → (∀ s', Inv (i + 1) s' → Tells (fun k => g k s' (i + 1)) (P (i + 1) s')) → Tells (fun k => g (k + 1) s i) (P i s))
    (fin : ∀ s, Inv n s → Tells (fun k => g (k + 1) s n) (P n s)) : ∀ i s, i ≤ n → Inv i s → Tells (fun k => g k s i) (P i s) := by
  have key : ∀ d i s, i + d = n → Inv i s → Tells (fun k => g k s i) (P i s) := by
    intro d
    induction d with
    | zero =>
      intro i s hi hs
      obtain rfl : i = n := by omega
      exact T_step (fin s hs)
    | succ d ih =>
      intro i s hi hs
      exact T_step (step i s (by omega) hs (fun s' hs' => ih (i + 1) s' (by omega) hs'))
  exact fun i s hi hs => key (n - i) i s (by omega) hs
def FindP {ρ : Type} (n : Nat) (C : Nat → Prop) (got : Nat → ρ) (fin : ρ) (r : ρ) : Prop := (∃ j, j < n ∧ C j ∧ (∀ m, m < j → ¬ C m) ∧ r = got j) ∨ ((∀ j, j < n → ¬ C j) ∧ r = fin)
theorem FindP.same {ρ : Type} {n : Nat} {C : Nat → Prop} {got : Nat → ρ} {fin r s : ρ} (h : FindP n C got fin r) (k : FindP n C got fin s) : s = r := by
  rcases h with ⟨j, a, b, c, rfl⟩ | ⟨a, rfl⟩ <;> rcases k with ⟨j', a', b', c', rfl⟩ | ⟨a', rfl⟩
  · rcases Nat.lt_trichotomy j j' with h | h | h
    · exact absurd b (c' _ h)
    · rw [h]
    · exact absurd b' (c _ h)
  · exact absurd b (a' j a)
  · exact absurd b' (a j' a')
  · rfl
theorem ba_append_nil (b : ByteArray) : b ++ (⟨#[]⟩ : ByteArray) = b := by
  apply ByteArray.ext
  simp
theorem ba_nil_append (b : ByteArray) : (⟨#[]⟩ : ByteArray) ++ b = b := by
  apply ByteArray.ext
  simp
def PacketP (op key fr dst num : Int) (acks : List Int) (body : ByteArray) : Prop :=
  (1 ≤ op ∧ op ≤ 3) ∧ (0 ≤ key ∧ key ≤ 7) ∧ (1 ≤ fr ∧ fr ≤ 99) ∧ (1 ≤ dst ∧ dst ≤ 99) ∧ (0 ≤ num ∧ num ≤ 1000000000) ∧ acks.length ≤ 4 ∧ body.size ≤ 120 ∧ (∀ j, j < acks.length → (1 ≤ rd acks j ∧ rd acks j ≤ 1000000000) ∧ op ≠ 3) ∧ (op = 2 → body.toList = [] ∧ num = 0)
def modP (b : Int) : Int := b % 2147483579
def pw (b e : Int) : Int := if 0 ≤ e ∧ e ≤ 2147483579 then modP b ^ e.toNat % 2147483579 else 0
theorem modP_rng (b : Int) : 0 ≤ modP b ∧ modP b < 2147483579 := by unfold modP; omega
theorem pow_emod (x m : Int) (n : Nat) : (x % m) ^ n % m = x ^ n % m := by
  induction n with
  | zero => simp
  | succ n ih => rw [Int.pow_succ, Int.pow_succ, Int.mul_emod, ih, Int.emod_emod, ← Int.mul_emod]
theorem pw_step (x out : Int) (e : Nat) : out * x ^ e % 2147483579 = (if e % 2 = 1 then out * x % 2147483579 else out) * (x * x % 2147483579) ^ (e / 2) % 2147483579 := by
  have h1 : (x * x) ^ (e / 2) = x ^ (2 * (e / 2)) := by rw [Int.pow_mul, Int.pow_succ, Int.pow_succ, Int.pow_zero, Int.one_mul]
  split
  · rename_i h
    have h2 : x ^ e = x * x ^ (2 * (e / 2)) := by
      rw [show e = 2 * (e / 2) + 1 by omega, Int.pow_succ, Int.mul_comm]
      congr 2
      omega
    rw [Int.mul_emod (out * x % 2147483579), pow_emod, Int.emod_emod, ← Int.mul_emod, h1, h2, Int.mul_assoc]
  · rename_i h
    have h2 : x ^ e = x ^ (2 * (e / 2)) := by congr 1; omega
    rw [h2, ← h1, Int.mul_emod out, ← pow_emod (x * x), ← Int.mul_emod]
theorem pow_mul_rng (x y : Int) (hx : 0 ≤ x ∧ x < 2147483579) (hy : 0 ≤ y ∧ y < 2147483579) : 0 ≤ x * y ∧ x * y ≤ 4611685723063115241 := by
  have h1 := Int.mul_nonneg hx.1 hy.1
  have h2 : x * y ≤ 2147483579 * 2147483579 := Int.mul_le_mul (by omega) (by omega) hy.1 (by omega)
  omega
theorem tmod_facts (a m : Int) (hm : 0 < m) : ∃ q r, Int.tmod a m = r ∧ a = m * q + r ∧ -m < r ∧ r < m := by
  rcases Int.lt_or_le a 0 with h | h
  · refine ⟨-((-a) / m), -((-a) % m), ?_, ?_, ?_, ?_⟩
    · rw [← Int.neg_neg a, Int.neg_tmod, Int.neg_neg, Int.tmod_eq_emod_of_nonneg (by omega)]
    · have := Int.mul_ediv_add_emod (-a) m
      rw [Int.mul_neg]
      omega
    · have := Int.emod_lt_of_pos (-a) hm
      omega
    · have := Int.emod_nonneg (-a) (show m ≠ 0 by omega)
      omega
  · refine ⟨a / m, a % m, Int.tmod_eq_emod_of_nonneg h, ?_, ?_, Int.emod_lt_of_pos a hm⟩
    · have := Int.mul_ediv_add_emod a m
      omega
    · have := Int.emod_nonneg a (show m ≠ 0 by omega)
      omega
def numTxt (n : Int) : ByteArray := if 0 ≤ n ∧ n ≤ 4294967295 then strOfNums [n / 16777216 % 256, n / 65536 % 256, n / 256 % 256, n % 256] else ⟨#[]⟩
def byteTxt (n : Int) : ByteArray := strOfNums [n % 256]
theorem str_size (l : List Int) : (strOfNums l).size = l.length := by
  show (l.map fun n => UInt8.ofNat n.toNat).toArray.size = _
  simp
theorem byteTxt_size (n : Int) : (byteTxt n).size = 1 := str_size _
theorem numTxt_size (n : Int) : (numTxt n).size ≤ 4 := by
  unfold numTxt
  split
  · rw [str_size]; simp
  · exact Nat.zero_le _
theorem bits_and255 (x : Int) (h0 : 0 ≤ x) (h1 : x ≤ 4611686018427387903) : Go.bits .and .i64 x 255 = x % 256 := by
  have m := bits_mask .i64 62 (by decide) (fun x h0 h1 => by rw [IntKind.wrap_i64]; omega) 8 (by omega) x h0 (by omega)
  exact m
def pubOf (s : Int) : Int := if 1 ≤ s ∧ s ≤ 1073741788 then pw 4 s else 0
def sumHalf (x : Int) : Int := if Int.tmod x 2 = 1 then Go.bits .xor .u32 ((Int.tdiv x 2) % 4294967296) 3558460437 else (Int.tdiv x 2) % 4294967296
def sumIter : Nat → Int → Int
  | 0, x => x
  | n + 1, x => sumIter n (sumHalf x)
def sumFrom (s : ByteArray) : Nat → Nat → Int → Int
  | 0, _, x => x
  | d + 1, i, x => sumFrom s d (i + 1) (sumIter 8 (Go.bits .xor .u32 x ((bt s i) % 4294967296)))
def sumMore (x : Int) (s : ByteArray) : Int := sumFrom s s.size 0 x
theorem xor_rng (x y : Int) : 0 ≤ Go.bits .xor .u32 x y ∧ Go.bits .xor .u32 x y ≤ 4294967295 := by
  have e : Go.bits .xor .u32 x y = IntKind.u32.wrap ((BitVec.ofInt 32 x ^^^ BitVec.ofInt 32 y).toNat : Int) := rfl
  rw [e, IntKind.wrap_u32]
  omega
theorem sumHalf_rng (x : Int) : 0 ≤ sumHalf x ∧ sumHalf x ≤ 4294967295 := by
  unfold sumHalf
  split
  · exact xor_rng _ _
  · omega
theorem sumIter_rng (n : Nat) : ∀ x, 0 ≤ x ∧ x ≤ 4294967295 → 0 ≤ sumIter n x ∧ sumIter n x ≤ 4294967295 := by
  induction n with
  | zero => exact fun x h => h
  | succ n ih => exact fun x _ => ih _ (sumHalf_rng x)
theorem sumFrom_rng (s : ByteArray) (d : Nat) : ∀ i x, 0 ≤ x ∧ x ≤ 4294967295 → 0 ≤ sumFrom s d i x ∧ sumFrom s d i x ≤ 4294967295 := by
  induction d with
  | zero => exact fun i x h => h
  | succ d ih => exact fun i x _ => ih _ _ (sumIter_rng 8 _ (xor_rng _ _))
def fourTxt (x : Int) : ByteArray := strOfNums [x / 16777216 % 256, x / 65536 % 256, x / 256 % 256, x % 256]
theorem fourTxt_size (x : Int) : (fourTxt x).size = 4 := str_size _
def sealed (s : ByteArray) : ByteArray × Bool := if (s.size : Int) > 20000 then (⟨#[]⟩, false) else (s ++ fourTxt (sumMore 4294967295 s), true)
def varN : Nat → Int → List Int
  | 0, n => [n % 256]
  | d + 1, n => if n > 127 then (n % 128 + 128) % 256 :: varN d (n / 128) else [n % 256]
def varTxt (n : Int) : ByteArray := strOfNums (varN 4 n)
theorem varN_len (d : Nat) : ∀ n, (varN d n).length ≤ d + 1 := by
  induction d with
  | zero => intro n; simp [varN]
  | succ d ih =>
    intro n
    unfold varN
    split
    · have := ih (n / 128)
      simp
      omega
    · simp
theorem varTxt_size (n : Int) : (varTxt n).size ≤ 5 := by
  unfold varTxt
  rw [str_size]
  exact varN_len 4 n
def varTxts : List Int → ByteArray → ByteArray
  | [], b => b
  | n :: r, b => varTxts r (b ++ varTxt n)
theorem varTxts_append (l : List Int) : ∀ a b, varTxts l (a ++ b) = a ++ varTxts l b := by
  induction l with
  | nil => intro a b; rfl
  | cons n r ih =>
    intro a b
    simp only [varTxts]
    rw [ByteArray.append_assoc, ih]
def headTxt (op key fr dst num : Int) (acks : List Int) : ByteArray := ((((byteTxt (8 * op + key) ++ byteTxt fr) ++ byteTxt dst) ++ varTxt num) ++ varTxt acks.length)
open Classical in
noncomputable def packetTxt (op key fr dst num : Int) (acks : List Int) (body : ByteArray) : ByteArray × Bool :=
  if PacketP op key fr dst num acks body then sealed (varTxts acks (headTxt op key fr dst num acks) ++ body) else (⟨#[]⟩, false)
theorem headTxt_size (op key fr dst num : Int) (acks : List Int) : (headTxt op key fr dst num acks).size ≤ 13 := by
  unfold headTxt
  have h1 := varTxt_size num
  have h2 := varTxt_size acks.length
  simp only [ByteArray.size_append, byteTxt_size]
  omega
theorem varTxts_size (l : List Int) : ∀ b, (varTxts l b).size ≤ b.size + 5 * l.length := by
  induction l with
  | nil => intro b; exact Nat.le_add_right _ _
  | cons n r ih =>
    intro b
    have h1 := ih (b ++ varTxt n)
    have h2 := varTxt_size n
    rw [ByteArray.size_append] at h1
    simp only [varTxts, List.length_cons]
    omega

/-! laws_szIntS -/
theorem laws_szIntS.ev (l : List Int) (a : Int) (h0 : 0 ≤ a) (h1 : a ≤ 1048576) (hl : l.length ≤ maxLen) : Tells (fun _ => laws_szIntS.f l a) (fun v => v = -1 ∨ (0 ≤ v ∧ v ≤ a ∧ v + l.length ≤ a)) := by
  unfold maxLen at hl
  unfold laws_szIntS.f
  rw [w64 (x := a - (l.length : Int)) (by omega) (by omega)]
  exact T_ite (fun _ => T_ret (.inl rfl)) (fun _ => T_ret (.inr ⟨by omega, by omega, by omega⟩))

/-! laws_szPacket -/
theorem laws_szPacket.ev (x0 : Int) (x1 : Int) (x2 : Int) (x3 : Int) (x4 : Int) (x5 : List (Int)) (x6 : ByteArray) (a : Int) (h0 : 0 ≤ a) (h1 : a ≤ 1048576) (hx5 : x5.length ≤ maxLen) (hx6 : x6.size ≤ 140737488351232) : Tells (fun k => laws_szPacket.f x0 x1 x2 x3 x4 x5 x6 a) (fun v => v = -1 ∨ (0 ≤ v ∧ v ≤ a ∧ v + x5.length ≤ a ∧ v + x6.size ≤ a)) := by
  unfold laws_szPacket.f
  refine T_bind (laws_szIntS.ev x5 a (by omega) (by omega) hx5) fun v0 w0 => T_ite (fun _ => T_ret (.inl rfl)) (fun g0 => ?_)
  obtain ⟨p0_0, p0_1, p0_2⟩ := w0.resolve_left (by omega)
  rw [w64 (x := v0 - (x6.size : Int)) (by omega) (by omega)]
  refine T_ite (fun _ => T_ret (.inl rfl)) (fun g1 => ?_)
  exact T_ret (.inr ⟨by omega, by omega, by omega, by omega⟩)

/-! spec_l01In -/
theorem spec_l01In.eq (a b c : Int) : spec_l01In.f a b c = some (decide (b ≤ a ∧ a ≤ c)) := by
  unfold spec_l01In.f
  by_cases h : b ≤ a <;> simp [h]

/-! spec_PacketOk -/
theorem spec_PacketOk.ev (op key fr dst num : Int) (acks : List Int) (body : ByteArray) (hn : acks.length ≤ 1048576) : Tells (fun k => spec_PacketOk.f k op key fr dst num acks body) (fun r => r = true ↔ PacketP op key fr dst num acks body) := by
  have loop : Tells (fun k => spec_PacketOk.l0 k 0 op key fr dst num acks body) (fun r => r = true ↔ (∀ j, j < acks.length → (1 ≤ rd acks j ∧ rd acks j ≤ 1000000000) ∧ op ≠ 3) ∧ (op = 2 → body.toList = [] ∧ num = 0)) := by
    refine T_allb (fun k i => spec_PacketOk.l0 k (i : Int) op key fr dst num acks body) acks.length _ _ (fun i hi hc P he => ?_) (fun i hi hc => ?_) ?_
    · simp only [spec_PacketOk.l0, spec_l01In.eq, Option.bind_some, decide_eq_true_eq]
      rw [wsucc hi (by omega)]
      exact T_pos (by omega) (T_pos (by omega) (T_pos hc.1 (T_neg hc.2 he)))
    · simp only [spec_PacketOk.l0, spec_l01In.eq, Option.bind_some, decide_eq_true_eq]
      exact T_pos (by omega) (T_pos (by omega) (T_ite (fun h => T_ite (fun _ => T_ret rfl) (fun h2 => absurd ⟨h, h2⟩ hc)) (fun _ => T_ret rfl)))
    · simp only [spec_PacketOk.l0]
      refine T_neg (by omega) (T_ite (fun h => T_ite (fun h2 => T_ret ?_) (fun h2 => T_ret ?_)) (fun h => T_ret ?_))
      · simp [h, h2]
      · simp [h, h2]
      · simp [h]
  have join : ∀ b : Bool, Tells (fun k => spec_PacketOk.j0 k b op key fr dst num acks body) (fun r => r = true ↔ b = false ∧ (∀ j, j < acks.length → (1 ≤ rd acks j ∧ rd acks j ≤ 1000000000) ∧ op ≠ 3) ∧ (op = 2 → body.toList = [] ∧ num = 0)) := by
    intro b
    refine T_step ?_
    simp only [spec_PacketOk.j0]
    cases b
    · exact T_neg (by simp) (loop.mono fun r hr => by rw [hr]; simp)
    · exact T_pos rfl (T_ret (by simp))
  unfold spec_PacketOk.f PacketP
  simp only [spec_l01In.eq, Option.bind_some, decide_eq_true_eq]
  refine T_ite (fun h1 => T_ite (fun h2 => T_ite (fun h3 => T_ite (fun h4 => T_ite (fun h5 => T_ite (fun h6 => ?_) (fun h6 => ?_)) (fun h => ?_)) (fun h => ?_)) (fun h => ?_)) (fun h => ?_)) (fun h => ?_)
  · exact (join true).mono fun r hr => by rw [hr]; simp; omega
  · refine (join _).mono fun r hr => ?_
    have h7 : acks.length ≤ 4 := by omega
    rw [hr]
    simp only [h1, h2, h3, h4, h5, h7, true_and, decide_eq_false_iff_not, and_self]
    rw [show (¬ (body.size : Int) > 120) ↔ body.size ≤ 120 by omega]
  all_goals exact (join true).mono fun r hr => by rw [hr]; simp [h]

/-! spec_l05Byte -/
theorem spec_l05Byte.eq (a : Int) : spec_l05Byte.f a = some (byteTxt a) := by
  unfold spec_l05Byte.f byteTxt
  obtain ⟨q, r, e, h1, h2, h3⟩ := tmod_facts a 256 (by omega)
  rw [e, w64 (by omega) (by omega), show (r + 256) % 256 = a % 256 by omega, show r % 256 = a % 256 by omega]
  split <;> rfl

/-! spec_l01Var -/
theorem spec_l01Var.ev (n : Int) (h0 : 0 ≤ n) (h1 : n ≤ 1000000000) : Tells (fun k => spec_l01Var.f k n) (· = varTxt n) := by
  have key : ∀ d (n : Int) (acc : List Int), 0 ≤ n → n < 128 ^ (d + 1) → n ≤ 1000000000 → acc.length + d ≤ 100 → Tells (fun k => spec_l01Var.l0 k n acc) (· = strOfNums (acc ++ varN d n)) := by
    intro d
    induction d with
    | zero =>
      intro n acc h0 h1 h2 h3
      refine T_step ?_
      simp only [spec_l01Var.l0]
      exact T_neg (by omega) (T_pos (by omega) (T_ret rfl))
    | succ d ih =>
      intro n acc h0 h1 h2 h3
      refine T_step ?_
      simp only [spec_l01Var.l0, varN]
      rw [Int.tdiv_eq_ediv_of_nonneg h0, Int.tmod_eq_emod_of_nonneg h0, w64 (x := n / 128) (by omega) (by omega), w64 (x := n % 128 + 128) (by omega) (by omega)]
      refine T_ite (fun h => T_pos (by omega) ?_) (fun h => T_pos (by omega) (T_ret (by rw [if_neg h])))
      rw [if_pos h]
      have := ih (n / 128) (acc ++ [(n % 128 + 128) % 256]) (by omega) (by rw [Int.pow_succ] at h1; omega) (by omega) (by simp; omega)
      simpa using this
  unfold spec_l01Var.f varTxt
  have := key 4 n [] h0 (by omega) h1 (by simp)
  simpa using this

/-! spec_l02Four -/
theorem spec_l02Four.eq (x : Int) : spec_l02Four.f x = some (fourTxt x) := rfl

/-! spec_SumMore -/
theorem spec_SumMore.ev (x : Int) (s : ByteArray) (hn : s.size ≤ 4194304) : Tells (fun k => spec_SumMore.f k x s) (· = sumMore x s) := by
  have inner : ∀ (i : Nat) (r : Int) (hi : i < s.size), ∀ n y, n ≤ 8 → Tells (fun k => spec_SumMore.l0 k (sumIter n y) s ((i + 1 : Nat) : Int)) (· = r) → Tells (fun k => spec_SumMore.l1 k y s (i : Int) ((8 - n : Nat) : Int)) (· = r) := by
    intro i r hi n
    induction n with
    | zero =>
      intro y _ h
      refine T_step ?_
      simp only [spec_SumMore.l1]
      rw [wsucc hi (by omega)]
      exact T_neg (by omega) h
    | succ n ih =>
      intro y hn8 h
      refine T_step ?_
      simp only [spec_SumMore.l1]
      rw [wsucc (n := 8) (by omega) (by omega), show 8 - (n + 1) + 1 = 8 - n by omega]
      have e : sumIter (n + 1) y = sumIter n (sumHalf y) := rfl
      rw [e] at h
      refine T_pos (by omega) (T_ite (fun h2 => ?_) (fun h2 => ?_))
      · have := ih _ (by omega) h
        unfold sumHalf at this
        rw [if_pos h2] at this
        exact this
      · have := ih _ (by omega) h
        unfold sumHalf at this
        rw [if_neg h2] at this
        exact this
  unfold spec_SumMore.f sumMore
  refine T_loops (fun k y i => spec_SumMore.l0 k y s (i : Int)) s.size (fun _ _ => True) (fun i y r => r = sumFrom s (s.size - i) i y) (fun i y hi _ ih => ?_) (fun y _ => ?_) 0 x (Nat.zero_le _) trivial
  · simp only [spec_SumMore.l0]
    refine T_pos (by omega) (T_pos (by omega) ?_)
    have e : s.size - i = (s.size - (i + 1)) + 1 := by omega
    rw [e]
    exact inner i _ hi 8 _ (Nat.le_refl _) (ih _ trivial)
  · simp only [spec_SumMore.l0]
    exact T_neg (by omega) (T_ret (by rw [Nat.sub_self]; rfl))

/-! spec_SumOf -/
theorem spec_SumOf.ev (s : ByteArray) (hn : s.size ≤ 4194304) : Tells (fun k => spec_SumOf.f k s) (· = sumMore 4294967295 s) := by
  unfold spec_SumOf.f
  refine T_bind (spec_SumMore.ev _ s hn) ?_
  rintro _ rfl
  exact T_ret rfl

/-! spec_Sealed -/
theorem spec_Sealed.ev (s : ByteArray) (hn : s.size ≤ 4194304) : Tells (fun k => spec_Sealed.f k s) (· = sealed s) := by
  unfold spec_Sealed.f sealed
  refine T_ite (fun h => T_ret (by rw [if_pos h])) (fun h => T_bind (spec_SumOf.ev s hn) ?_)
  rintro _ rfl
  simp only [spec_l02Four.eq, Option.bind_some]
  exact T_pos (by rw [fourTxt_size]; omega) (T_ret (by rw [if_neg h]))

/-! spec_PacketText -/
theorem spec_PacketText.ev (op key fr dst num : Int) (acks : List Int) (body : ByteArray) (hn : acks.length ≤ 1048576) : Tells (fun k => spec_PacketText.f k op key fr dst num acks body) (· = packetTxt op key fr dst num acks body) := by
  unfold spec_PacketText.f packetTxt
  refine T_bind (spec_PacketOk.ev op key fr dst num acks body hn) fun q hq => T_ite (fun h => ?_) (fun h => T_ret (by rw [if_neg (fun k => h (hq.2 k))]))
  have hP := hq.1 h
  rw [if_pos hP]
  obtain ⟨h1, h2, h3, h4, h5, h6, h7, h8, _⟩ := hP
  simp only [spec_l05Byte.eq, Option.bind_some, byteTxt_size, ByteArray.size_append]
  rw [w64 (x := 8 * op) (by omega) (by omega), w64 (x := 8 * op + key) (by omega) (by omega)]
  refine T_pos (by omega) (T_pos (by omega) (T_bind (spec_l01Var.ev num h5.1 h5.2) ?_))
  rintro _ rfl
  have s1 := varTxt_size num
  refine T_pos (by omega) (T_bind (spec_l01Var.ev _ (by omega) (by omega)) ?_)
  rintro _ rfl
  have s2 := varTxt_size (acks.length : Int)
  refine T_pos (by omega) ?_
  have hh := headTxt_size op key fr dst num acks
  refine T_loops (fun k (b : ByteArray) i => spec_PacketText.l0 k b (i : Int) op key fr dst num acks body) acks.length (fun i b => b.size ≤ 13 + 5 * i ∧ varTxts (acks.drop i) b = varTxts acks (headTxt op key fr dst num acks)) (fun i b r => r = sealed (varTxts acks (headTxt op key fr dst num acks) ++ body)) (fun i b hi hb ih => ?_) (fun b hb => ?_) 0 _ (Nat.zero_le _) ⟨hh, rfl⟩
  · have hx := (h8 i hi).1
    simp only [spec_PacketText.l0]
    rw [wsucc hi (by omega)]
    refine T_pos (by omega) (T_pos (by omega) (T_bind (spec_l01Var.ev _ (by omega) hx.2) ?_))
    rintro _ rfl
    have h5' := varTxt_size (rd acks i)
    refine T_pos (by omega) (ih _ ⟨by rw [ByteArray.size_append]; omega, ?_⟩)
    rw [← hb.2, List.drop_eq_getElem_cons hi, ← rd_nat acks i hi]
    rfl
  · have e := hb.2
    rw [List.drop_of_length_le (Nat.le_refl _)] at e
    have e' : b = varTxts acks (headTxt op key fr dst num acks) := e
    simp only [spec_PacketText.l0]
    refine T_neg (by omega) (T_pos (by omega) (T_bind (spec_Sealed.ev _ (by rw [ByteArray.size_append]; omega)) ?_))
    rintro _ rfl
    rw [e']
    exact T_ret rfl

/-! laws_toIntS -/
theorem laws_toIntS.ev (l : List Int) (hn : l.length ≤ 1048576) : Tells (fun k => laws_toIntS.f k l) (· = l) := by
  have h := T_loop' (fun k i => laws_toIntS.l0 k l (l.take i ++ List.replicate (l.length - i) 0) (i : Int)) l.length (· = l) (fun i hi he => by
    simp only [laws_toIntS.l0]
    refine T_pos (by omega) (T_pos (by omega) (T_pos (by simp; omega) ?_))
    rw [Int.toNat_natCast, set_copy l 0 i hi _ (rd_nat l i hi), wsucc hi (by omega)]
    exact he) (by
    simp only [laws_toIntS.l0]
    exact T_neg (by omega) (T_ret (by simp)))
  unfold laws_toIntS.f
  refine T_pos (by omega) (T_pos (by omega) ?_)
  simpa using h

/-! laws_toPacket -/
theorem laws_toPacket.ev (x0 : Int) (x1 : Int) (x2 : Int) (x3 : Int) (x4 : Int) (x5 : List (Int)) (x6 : ByteArray) (hx5 : x5.length ≤ 1048576) : Tells (fun k => laws_toPacket.f k x0 x1 x2 x3 x4 x5 x6) (· = (x0, x1, x2, x3, x4, x5, x6)) := by
  unfold laws_toPacket.f
  refine T_bind (laws_toIntS.ev x5 hx5) ?_
  rintro _ rfl
  exact T_ret rfl

/-! impl_within -/
theorem impl_within.eq (a b c : Int) : impl_within.f a b c = some (decide (b ≤ a ∧ a ≤ c)) := by
  unfold impl_within.f
  by_cases h : b ≤ a <;> simp [h]

/-! impl_isId -/
theorem impl_isId.eq (a : Int) : impl_isId.f a = some (decide (1 ≤ a ∧ a ≤ 99)) := by
  unfold impl_isId.f
  simp [impl_within.eq]

/-! impl_PacketOk -/
theorem impl_PacketOk.ev (op key fr dst num : Int) (acks : List Int) (body : ByteArray) (hn : acks.length ≤ 1048576) : Tells (fun k => impl_PacketOk.f k op key fr dst num acks body) (fun r => r = true ↔ PacketP op key fr dst num acks body) := by
  unfold impl_PacketOk.f
  refine (T_allb (fun k i => impl_PacketOk.l0 k acks (acks.length : Int) (i : Int) op key fr dst num acks body) acks.length (fun j => 1 ≤ rd acks j ∧ rd acks j ≤ 1000000000)
    ((1 ≤ op ∧ op ≤ 3) ∧ (0 ≤ key ∧ key ≤ 7) ∧ (1 ≤ fr ∧ fr ≤ 99) ∧ (1 ≤ dst ∧ dst ≤ 99) ∧ (0 ≤ num ∧ num ≤ 1000000000) ∧ (acks.length = 0 ∨ op ≠ 3 ∧ acks.length ≤ 4) ∧ body.size ≤ 120 ∧ (op = 2 → body.toList = [] ∧ num = 0)) (fun i hi hc P he => ?_) (fun i hi hc => ?_) ?_).mono fun r hr => ?_
  · simp only [impl_PacketOk.l0, impl_within.eq, Option.bind_some, decide_eq_true_eq]
    rw [wsucc hi (by omega)]
    exact T_pos (by omega) (T_pos (by omega) (T_pos (by omega) (T_pos hc he)))
  · simp only [impl_PacketOk.l0, impl_within.eq, Option.bind_some, decide_eq_true_eq]
    exact T_pos (by omega) (T_pos (by omega) (T_pos (by omega) (T_neg hc (T_ret rfl))))
  · simp only [impl_PacketOk.l0, impl_within.eq, impl_isId.eq, Option.bind_some, decide_eq_true_eq]
    refine T_neg (by omega) (T_ite (fun h1 => T_ite (fun h2 => T_ite (fun h3 => T_ite (fun h4 => T_ite (fun h5 => T_ite (fun h6 => ?_) (fun h6 => T_ite (fun h7 => T_ret ?_) (fun h7 => T_ite (fun h8 => ?_) (fun h8 => T_ret ?_)))) (fun h => T_ret ?_)) (fun h => T_ret ?_)) (fun h => T_ret ?_)) (fun h => T_ret ?_)) (fun h => T_ret ?_))
    · have h6' : acks.length = 0 := by omega
      refine T_ite (fun h9 => T_ite (fun h10 => T_ite (fun h11 => T_ret ?_) (fun h11 => T_ret ?_)) (fun h10 => T_ret ?_)) (fun h9 => T_ret ?_)
      · simp [h1, h2, h3, h4, h5, h6', h10, h11]; omega
      · simp [h10, h11]
      · simp [h1, h2, h3, h4, h5, h6', h10]; omega
      · simp; omega
    · exact ⟨fun h => absurd h Bool.false_ne_true, fun ⟨_, _, _, _, _, h, _⟩ => by omega⟩
    · have h8' : acks.length ≤ 4 := by omega
      refine T_ite (fun h9 => T_ite (fun h10 => T_ite (fun h11 => T_ret ?_) (fun h11 => T_ret ?_)) (fun h10 => T_ret ?_)) (fun h9 => T_ret ?_)
      · simp [h1, h2, h3, h4, h5, h8', h10, h11]; omega
      · simp [h10, h11]
      · simp [h1, h2, h3, h4, h5, h7, h8', h10]; omega
      · simp; omega
    · exact ⟨fun h => absurd h Bool.false_ne_true, fun ⟨_, _, _, _, _, h, _⟩ => by omega⟩
    all_goals simp [h]
  · rw [hr]
    unfold PacketP
    constructor
    · rintro ⟨h0, h1, h2, h3, h4, h5, h6, h7, h8⟩
      exact ⟨h1, h2, h3, h4, h5, by omega, h7, fun j hj => ⟨h0 j hj, by omega⟩, h8⟩
    · rintro ⟨h1, h2, h3, h4, h5, h6, h7, h0, h8⟩
      refine ⟨fun j hj => (h0 j hj).1, h1, h2, h3, h4, h5, ?_, h7, h8⟩
      rcases Nat.eq_zero_or_pos acks.length with h | h
      · exact .inl h
      · exact .inr ⟨(h0 0 h).2, h6⟩

/-! impl_byteText -/
theorem impl_byteText.eq (a : Int) : impl_byteText.f a = some (byteTxt a) := rfl

/-! impl_highFirst -/
theorem impl_highFirst.four (x : Int) (h0 : 0 ≤ x) (h1 : x ≤ 4294967295) : Tells (fun k => impl_highFirst.f k x 4) (· = fourTxt x) := by
  unfold impl_highFirst.f
  refine T_pos (by omega) (T_pos (by decide) ?_)
  rw [w64 (x := (4 : Int) - 1) (by omega) (by omega)]
  refine T_step ?_
  simp only [impl_highFirst.l0]
  refine T_pos (by omega) (T_pos (by omega) (T_pos (by decide) ?_))
  rw [w64 (x := (4 : Int) - 1 - 1) (by omega) (by omega), bits_and255 x h0 (by omega)]
  refine T_step ?_
  simp only [impl_highFirst.l0]
  refine T_pos (by omega) (T_pos (by omega) (T_pos (by simp) ?_))
  rw [w64 (x := (4 : Int) - 1 - 1 - 1) (by omega) (by omega), bits_and255 (x / 256) (by omega) (by omega)]
  refine T_step ?_
  simp only [impl_highFirst.l0]
  refine T_pos (by omega) (T_pos (by omega) (T_pos (by simp) ?_))
  rw [w64 (x := (4 : Int) - 1 - 1 - 1 - 1) (by omega) (by omega), bits_and255 (x / 256 / 256) (by omega) (by omega)]
  refine T_step ?_
  simp only [impl_highFirst.l0]
  refine T_pos (by omega) (T_pos (by omega) (T_pos (by simp) ?_))
  rw [w64 (x := (4 : Int) - 1 - 1 - 1 - 1 - 1) (by omega) (by omega), bits_and255 (x / 256 / 256 / 256) (by omega) (by omega)]
  refine T_step ?_
  simp only [impl_highFirst.l0]
  refine T_neg (by omega) (T_ret ?_)
  unfold fourTxt
  show strOfNums [x / 256 / 256 / 256 % 256 % 256, x / 256 / 256 % 256 % 256, x / 256 % 256 % 256, x % 256 % 256] = _
  rw [show x / 256 / 256 / 256 % 256 % 256 = x / 16777216 % 256 by omega, show x / 256 / 256 % 256 % 256 = x / 65536 % 256 by omega, show x / 256 % 256 % 256 = x / 256 % 256 by omega, show x % 256 % 256 = x % 256 by omega]

/-! impl_SumMore -/
theorem impl_SumMore.ev (x : Int) (s : ByteArray) (hn : s.size ≤ 4194304) : Tells (fun k => impl_SumMore.f k x s) (· = sumMore x s) := by
  have inner : ∀ (i : Nat) (r : Int) (hi : i < s.size), ∀ n y, n ≤ 8 → Tells (fun k => impl_SumMore.l0 k (sumIter n y) s ((i + 1 : Nat) : Int)) (· = r) → Tells (fun k => impl_SumMore.l1 k y s (i : Int) ((8 - n : Nat) : Int)) (· = r) := by
    intro i r hi n
    induction n with
    | zero =>
      intro y _ h
      refine T_step ?_
      simp only [impl_SumMore.l1]
      rw [wsucc hi (by omega)]
      exact T_neg (by omega) h
    | succ n ih =>
      intro y hn8 h
      refine T_step ?_
      simp only [impl_SumMore.l1]
      rw [wsucc (n := 8) (by omega) (by omega), show 8 - (n + 1) + 1 = 8 - n by omega]
      have e : sumIter (n + 1) y = sumIter n (sumHalf y) := rfl
      rw [e] at h
      refine T_pos (by omega) (T_ite (fun h2 => ?_) (fun h2 => ?_))
      · have := ih _ (by omega) h
        unfold sumHalf at this
        rw [if_pos h2] at this
        exact this
      · have := ih _ (by omega) h
        unfold sumHalf at this
        rw [if_neg h2] at this
        exact this
  unfold impl_SumMore.f sumMore
  refine T_loops (fun k y i => impl_SumMore.l0 k y s (i : Int)) s.size (fun _ _ => True) (fun i y r => r = sumFrom s (s.size - i) i y) (fun i y hi _ ih => ?_) (fun y _ => ?_) 0 x (Nat.zero_le _) trivial
  · simp only [impl_SumMore.l0]
    refine T_pos (by omega) (T_pos (by omega) ?_)
    have e : s.size - i = (s.size - (i + 1)) + 1 := by omega
    rw [e]
    exact inner i _ hi 8 _ (Nat.le_refl _) (ih _ trivial)
  · simp only [impl_SumMore.l0]
    exact T_neg (by omega) (T_ret (by rw [Nat.sub_self]; rfl))

/-! impl_SumOf -/
theorem impl_SumOf.ev (s : ByteArray) (hn : s.size ≤ 4194304) : Tells (fun k => impl_SumOf.f k s) (· = sumMore 4294967295 s) := by
  unfold impl_SumOf.f
  refine T_bind (impl_SumMore.ev _ s hn) ?_
  rintro _ rfl
  exact T_ret rfl

/-! impl_Sealed -/
theorem impl_Sealed.ev (s : ByteArray) (hn : s.size ≤ 4194304) : Tells (fun k => impl_Sealed.f k s) (· = sealed s) := by
  unfold impl_Sealed.f sealed
  refine T_ite (fun h => T_ret (by rw [if_pos h])) (fun h => T_bind (impl_SumOf.ev s hn) ?_)
  rintro _ rfl
  have hr := sumFrom_rng s s.size 0 4294967295 (by omega)
  rw [w64 (x := sumMore 4294967295 s) (by unfold sumMore; omega) (by unfold sumMore; omega)]
  refine T_bind (impl_highFirst.four _ hr.1 hr.2) ?_
  rintro _ rfl
  exact T_pos (by rw [fourTxt_size]; omega) (T_ret (by rw [if_neg h]))

/-! impl_VarText -/
theorem impl_VarText.ev (n : Int) : Tells (fun k => impl_VarText.f k n) (· = if 0 ≤ n ∧ n ≤ 1000000000 then (varTxt n, true) else (⟨#[]⟩, false)) := by
  have key : ∀ d (n : Int) (acc : List Int), 0 ≤ n → n < 128 ^ (d + 1) → n ≤ 1000000000 → acc.length + d ≤ 100 → Tells (fun k => impl_VarText.l0 k n acc) (· = (strOfNums (acc ++ varN d n), true)) := by
    intro d
    induction d with
    | zero =>
      intro n acc h0 h1 h2 h3
      refine T_step ?_
      simp only [impl_VarText.l0]
      exact T_neg (by omega) (T_pos (by omega) (T_ret rfl))
    | succ d ih =>
      intro n acc h0 h1 h2 h3
      refine T_step ?_
      simp only [impl_VarText.l0, varN]
      rw [Int.tdiv_eq_ediv_of_nonneg h0, Int.tmod_eq_emod_of_nonneg h0, w64 (x := n / 128) (by omega) (by omega), w64 (x := n % 128 + 128) (by omega) (by omega)]
      refine T_ite (fun h => T_pos (by omega) ?_) (fun h => T_pos (by omega) (T_ret (by rw [if_neg h])))
      rw [if_pos h]
      have := ih (n / 128) (acc ++ [(n % 128 + 128) % 256]) (by omega) (by rw [Int.pow_succ] at h1; omega) (by omega) (by simp; omega)
      simpa using this
  unfold impl_VarText.f varTxt
  simp only [impl_within.eq, Option.bind_some, decide_eq_true_eq]
  refine T_ite (fun h => ?_) (fun h => T_ret (by rw [if_neg h]))
  rw [if_pos h]
  have := key 4 n [] h.1 (by omega) h.2 (by simp)
  simpa using this

/-! impl_varTexts -/
theorem impl_varTexts.ev (l : List Int) (hn : l.length ≤ 1048576) (hl : ∀ j, j < l.length → 0 ≤ rd l j ∧ rd l j ≤ 1000000000) : Tells (fun k => impl_varTexts.f k l) (· = varTxts l ⟨#[]⟩) := by
  unfold impl_varTexts.f
  refine T_loops (fun k (b : ByteArray) i => impl_varTexts.l0 k b l (l.length : Int) (i : Int)) l.length (fun i b => b.size ≤ 5 * i) (fun i b r => r = varTxts (l.drop i) b) (fun i b hi hb ih => ?_) (fun b _ => ?_) 0 ⟨#[]⟩ (Nat.zero_le _) (Nat.zero_le _)
  · have hx := hl i hi
    simp only [impl_varTexts.l0]
    rw [wsucc hi (by omega)]
    refine T_pos (by omega) (T_pos (by omega) (T_pos (by omega) (T_bind (impl_VarText.ev _) ?_)))
    rintro _ rfl
    rw [if_pos hx]
    have h5 := varTxt_size (rd l i)
    refine T_pos (by dsimp only; omega) ?_
    rw [List.drop_eq_getElem_cons hi, ← rd_nat l i hi]
    exact ih _ (by
      dsimp only
      rw [ByteArray.size_append]
      omega)
  · simp only [impl_varTexts.l0]
    exact T_neg (by omega) (T_ret (by rw [List.drop_of_length_le (Nat.le_refl _)]; rfl))

/-! impl_PacketText -/
theorem impl_PacketText.ev (op key fr dst num : Int) (acks : List Int) (body : ByteArray) (hn : acks.length ≤ 1048576) : Tells (fun k => impl_PacketText.f k op key fr dst num acks body) (· = packetTxt op key fr dst num acks body) := by
  unfold impl_PacketText.f packetTxt
  refine T_bind (impl_PacketOk.ev op key fr dst num acks body hn) fun q hq => T_ite (fun h => ?_) (fun h => T_ret (by rw [if_neg (fun k => h (hq.2 k))]))
  have hP := hq.1 h
  rw [if_pos hP]
  obtain ⟨h1, h2, h3, h4, h5, h6, h7, h8, _⟩ := hP
  simp only [impl_byteText.eq, Option.bind_some, byteTxt_size, ByteArray.size_append]
  rw [w64 (x := 8 * op) (by omega) (by omega), w64 (x := 8 * op + key) (by omega) (by omega)]
  refine T_pos (by omega) (T_pos (by omega) (T_bind (impl_varTexts.ev [num, (acks.length : Int)] (by simp) ?_) ?_))
  · intro j hj
    have hj2 : j < 2 := hj
    rcases (show j = 0 ∨ j = 1 by omega) with rfl | rfl
    · exact h5
    · show 0 ≤ (acks.length : Int) ∧ (acks.length : Int) ≤ 1000000000
      omega
  rintro _ rfl
  have s1 := varTxts_size [num, (acks.length : Int)] ⟨#[]⟩
  have s1' : (varTxts [num, (acks.length : Int)] ⟨#[]⟩).size ≤ 10 := s1
  refine T_pos (by omega) (T_bind (impl_varTexts.ev acks hn (fun j hj => by have := (h8 j hj).1; omega)) ?_)
  rintro _ rfl
  have s2 := varTxts_size acks ⟨#[]⟩
  have s2' : (varTxts acks ⟨#[]⟩).size ≤ 20 := by
    have : ((⟨#[]⟩ : ByteArray)).size = 0 := rfl
    omega
  refine T_pos (by omega) (T_pos (by omega) ?_)
  have e : ((((byteTxt (8 * op + key) ++ byteTxt fr) ++ byteTxt dst) ++ varTxts [num, (acks.length : Int)] ⟨#[]⟩) ++ varTxts acks ⟨#[]⟩) = varTxts acks (headTxt op key fr dst num acks) := by
    rw [← varTxts_append]
    congr 1
    rw [ba_append_nil]
    unfold headTxt
    simp only [varTxts]
    rw [ba_nil_append, ← ByteArray.append_assoc]
  rw [e]
  refine T_bind (impl_Sealed.ev _ ?_) ?_
  · have := varTxts_size acks (headTxt op key fr dst num acks)
    have := headTxt_size op key fr dst num acks
    rw [ByteArray.size_append]
    omega
  rintro _ rfl
  exact T_ret rfl

/-! laws_eqIntS -/
theorem laws_eqIntS.ev (l : List Int) (hn : l.length ≤ 1048576) : Tells (fun k => laws_eqIntS.f k l l) (· = true) := by
  unfold laws_eqIntS.f
  refine T_pos rfl (T_loop' (fun k i => laws_eqIntS.l0 k l l (i : Int)) l.length (· = true) (fun i hi he => ?_) ?_)
  · simp only [laws_eqIntS.l0]
    rw [wsucc hi (by omega)]
    exact T_pos (by omega) (T_pos (by omega) (T_pos (by omega) (T_pos (by simp) he)))
  · simp only [laws_eqIntS.l0]
    exact T_neg (by omega) (T_ret rfl)

/-! laws_eqPacket -/
theorem laws_eqPacket.ev (x0 : Int) (x1 : Int) (x2 : Int) (x3 : Int) (x4 : Int) (x5 : List (Int)) (x6 : ByteArray) (hx5 : x5.length ≤ 1048576) : Tells (fun k => laws_eqPacket.f k x0 x1 x2 x3 x4 x5 x6 x0 x1 x2 x3 x4 x5 x6) (· = true) := by
  unfold laws_eqPacket.f
  refine T_pos rfl ?_
  refine T_pos rfl ?_
  refine T_pos rfl ?_
  refine T_pos rfl ?_
  refine T_pos rfl ?_
  refine T_bind (laws_eqIntS.ev x5 hx5) ?_
  rintro _ rfl
  refine T_pos rfl ?_
  refine T_pos rfl ?_
  exact T_ret rfl

theorem FnExactPacketText : laws_FnExactPacketText.Goal := by
  rintro op key fr dst num acks body _ _ _ _ _ ⟨hl, _, _⟩ hb
  refine Tells.rounds ?_
  unfold laws_FnExactPacketText.f
  refine T_bind (laws_szPacket.ev op key fr dst num acks body 1048576 (by omega) (by omega) hl hb) fun v hv => T_ite (fun _ => T_ret rfl) (fun h => ?_)
  obtain ⟨p0, p1, p2, p3⟩ := hv.resolve_left (by omega)
  have hn : acks.length ≤ 1048576 := by omega
  refine T_bind (laws_toPacket.ev op key fr dst num acks body hn) ?_
  rintro _ rfl
  refine T_bind (spec_PacketText.ev op key fr dst num acks body hn) ?_
  rintro _ rfl
  refine T_bind (laws_toPacket.ev op key fr dst num acks body hn) ?_
  rintro _ rfl
  refine T_bind (impl_PacketText.ev op key fr dst num acks body hn) ?_
  rintro _ rfl
  refine T_pos rfl (T_step ?_)
  simp only [laws_FnExactPacketText.j0]
  refine T_neg (by simp) ?_
  refine T_bind (laws_toPacket.ev op key fr dst num acks body hn) ?_
  rintro _ rfl
  refine T_bind (laws_eqPacket.ev op key fr dst num acks body hn) ?_
  rintro _ rfl
  exact T_pos rfl (T_ret rfl)

end Go.Proofs.Ytpheniajdbbphaa.Pure
