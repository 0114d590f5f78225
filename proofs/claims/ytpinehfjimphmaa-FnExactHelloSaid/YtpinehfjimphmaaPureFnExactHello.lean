/- FnExactHello: the pure statement, proved: for every input of the law its printed function answers true. No condition. -/
import Derived.Test.YtpinehfjimphmaaGoalFnExactHello
namespace Go.Proofs.Ytpinehfjimphmaa.Pure
open Go.RowKit Go.Proofs.Ytpinehfjimphmaa.PFnExactHello Go.Proofs.YtpinehfjimphmaaW.PrintWords Go.Proofs.YtpinehfjimphmaaW.PrintLast Go.Proofs.YtpinehfjimphmaaW.PrintMore
set_option linter.unusedVariables false
set_option linter.unusedSimpArgs false
theorem w64 {x : Int} (h0 : -9223372036854775808 ≤ x) (h1 : x ≤ 9223372036854775807) : wrap64 x = x := by unfold wrap64; omega
theorem wsucc {i n : Nat} (h : i < n) (hn : n ≤ 9223372036854775807) : wrap64 ((i : Int) + 1) = ((i + 1 : Nat) : Int) := by unfold wrap64; omega
theorem wf64 {x : Int} (h : (Lit.int .i64 x).wf = true) : -9223372036854775808 ≤ x ∧ x ≤ 9223372036854775807 := by
  have h' : IntKind.i64.min ≤ x ∧ x ≤ IntKind.i64.max := by simpa [Lit.wf] using h
  exact h'
/-- From some number of rounds on it answers, and what it answers is so. -/
def Tells {α : Type} (g : Nat → Option α) (P : α → Prop) : Prop := ∃ r, P r ∧ Ev g r
theorem Tells.ev {α : Type} {g : Nat → Option α} {r : α} (h : Tells g (· = r)) : Ev g r := by
  obtain ⟨x, rfl, h⟩ := h
  exact h
theorem Tells.of {α : Type} {g : Nat → Option α} {r : α} (h : Ev g r) : Tells g (· = r) := ⟨r, rfl, h⟩
theorem Tells.rounds {α : Type} {g : Nat → Option α} {r : α} (h : Tells g (· = r)) : ∃ k, g k = some r := h.ev.rounds
theorem Tells.now {α : Type} {g : Option α} {r : α} (h : Tells (fun _ => g) (· = r)) : g = some r := by
  obtain ⟨K, h⟩ := h.ev
  exact h K (Nat.le_refl _)
theorem Tells.mono {α : Type} {g : Nat → Option α} {P Q : α → Prop} (h : Tells g P) (k : ∀ x, P x → Q x) : Tells g Q := by
  obtain ⟨x, hp, h⟩ := h
  exact ⟨x, k x hp, h⟩
theorem T_ret {α : Type} {P : α → Prop} {r : α} (h : P r) : Tells (fun _ => some r) P := ⟨r, h, Ev.now r⟩
theorem T_ite {α : Type} {c : Prop} {d : Decidable c} {f g : Nat → Option α} {P : α → Prop} (h1 : c → Tells f P) (h2 : ¬ c → Tells g P) : Tells (fun k => @ite _ c d (f k) (g k)) P := by
  by_cases h : c
  · obtain ⟨r, hp, he⟩ := h1 h
    exact ⟨r, hp, Ev.congr (fun k => if_pos h) he⟩
  · obtain ⟨r, hp, he⟩ := h2 h
    exact ⟨r, hp, Ev.congr (fun k => if_neg h) he⟩
theorem T_pos {α : Type} {c : Prop} {d : Decidable c} {f g : Nat → Option α} {P : α → Prop} (h : c) (hf : Tells f P) : Tells (fun k => @ite _ c d (f k) (g k)) P := T_ite (fun _ => hf) (fun h' => absurd h h')
theorem T_neg {α : Type} {c : Prop} {d : Decidable c} {f g : Nat → Option α} {P : α → Prop} (h : ¬ c) (hg : Tells g P) : Tells (fun k => @ite _ c d (f k) (g k)) P := T_ite (fun h' => absurd h' h) (fun _ => hg)
theorem T_bind {α β : Type} {g : Nat → Option α} {f : Nat → α → Option β} {Q : α → Prop} {P : β → Prop} (h : Tells g Q) (k : ∀ x, Q x → Tells (fun n => f n x) P) : Tells (fun n => (g n).bind (f n)) P := by
  obtain ⟨x, hq, he⟩ := h
  obtain ⟨r, hp, he'⟩ := k x hq
  exact ⟨r, hp, Ev.bind he he'⟩
theorem T_step {α : Type} {g : Nat → Option α} {P : α → Prop} (h : Tells (fun k => g (k + 1)) P) : Tells g P := by
  obtain ⟨r, hp, he⟩ := h
  exact ⟨r, hp, Ev.step (fun _ => rfl) he⟩
theorem T_eq {α : Type} {g f : Nat → Option α} {P : α → Prop} (h : ∀ k, g k = f k) (hf : Tells f P) : Tells g P := by
  obtain ⟨r, hp, he⟩ := hf
  exact ⟨r, hp, Ev.congr h he⟩
theorem T_some {α : Type} {g : Nat → Option α} {P : α → Prop} {r : α} (h : ∀ k, g k = some r) (hp : P r) : Tells g P := T_eq h (T_ret hp)
theorem T_unique {α : Type} {g : Nat → Option α} {P : α → Prop} {r : α} (h : Tells g P) (h' : Tells g (· = r)) : P r := by
  obtain ⟨x, hp, K, h⟩ := h
  obtain ⟨K', h'⟩ := h'.ev
  have a := h (max K K') (by omega)
  have b := h' (max K K') (by omega)
  rw [a] at b
  exact Option.some.inj b ▸ hp
/-- A loop with a counter, from the last round back. -/
theorem T_loop {ρ : Type} (g : Nat → Nat → Option ρ) (n : Nat) (P : Nat → ρ → Prop)
    (step : ∀ i, i < n → Tells (fun k => g k (i + 1)) (P (i + 1)) → Tells (fun k => g (k + 1) i) (P i)) (fin : Tells (fun k => g (k + 1) n) (P n)) : ∀ i, i ≤ n → Tells (fun k => g k i) (P i) := by
  have key : ∀ d i, i + d = n → Tells (fun k => g k i) (P i) := by
    intro d
    induction d with
    | zero =>
      intro i hi
      obtain rfl : i = n := by omega
      exact T_step fin
    | succ d ih =>
      intro i hi
      exact T_step (step i (by omega) (ih (i + 1) (by omega)))
  exact fun i hi => key (n - i) i (by omega)
/-- A loop whose answer does not hang on the round. -/
theorem T_loop' {ρ : Type} (g : Nat → Nat → Option ρ) (n : Nat) (P : ρ → Prop)
    (step : ∀ i, i < n → Tells (fun k => g k (i + 1)) P → Tells (fun k => g (k + 1) i) P) (fin : Tells (fun k => g (k + 1) n) P) : Tells (fun k => g k 0) P :=
  T_loop g n (fun _ => P) step fin 0 (Nat.zero_le _)
/-- What holds of all from a round on. -/
def From (C : Nat → Prop) (n i : Nat) : Prop := ∀ j, i ≤ j → j < n → C j
theorem From.cons {C : Nat → Prop} {n i : Nat} (h : C i) : From C n (i + 1) ↔ From C n i := by
  refine ⟨fun k j a b => ?_, fun k j a b => k j (by omega) b⟩
  by_cases e : j = i
  · exact e ▸ h
  · exact k j (by omega) b
theorem From.none {C : Nat → Prop} {n i : Nat} (hi : i < n) (h : ¬ C i) : ¬ From C n i := fun k => h (k i (Nat.le_refl _) hi)
theorem From.last (C : Nat → Prop) (n : Nat) : From C n n := fun j a b => absurd b (by omega)
theorem set_copy_map {α β : Type} (l : List α) (f : α → β) (z : β) (i : Nat) (h : i < l.length) (x : β) (hx : x = f l[i]) : ((l.take i).map f ++ List.replicate (l.length - i) z).set i x = (l.take (i + 1)).map f ++ List.replicate (l.length - (i + 1)) z := by
  subst hx
  have e : l.length - i = (l.length - (i + 1)) + 1 := by omega
  have hl : ((l.take i).map f).length = i := by rw [List.length_map, List.length_take]; omega
  rw [e, List.replicate_succ, List.set_append_right _ _ (by omega), hl, Nat.sub_self, List.set_cons_zero, List.take_succ_eq_append_getElem h, List.map_append]
  simp only [List.map_cons, List.map_nil, List.append_assoc, List.singleton_append]
theorem set_copy {α : Type} (l : List α) (z : α) (i : Nat) (h : i < l.length) (x : α) (hx : x = l[i]) : (l.take i ++ List.replicate (l.length - i) z).set i x = l.take (i + 1) ++ List.replicate (l.length - (i + 1)) z := by
  have := set_copy_map l id z i h x hx
  rw [List.map_id, List.map_id] at this
  exact this
theorem rd_nat (xs : List Int) (i : Nat) (h : i < xs.length) : rd xs (i : Int) = xs[i] := by simp [rd, List.getD_eq_getElem?_getD, h]
theorem rdOf_nat {α : Type} (d : α) (xs : List α) (i : Nat) (h : i < xs.length) : rdOf d xs (i : Int) = xs[i] := by simp [rdOf, List.getD_eq_getElem?_getD, h]
/-- a where c is so, else b. -/
def Either {ρ : Type} (c : Prop) (a b r : ρ) : Prop := (c ∧ r = a) ∨ (¬ c ∧ r = b)
theorem Either.same {ρ : Type} {c c' : Prop} {a b r s : ρ} (h : Either c a b r) (h' : Either c' a b s) (e : c ↔ c') : r = s := by
  rcases h with ⟨h, rfl⟩ | ⟨h, rfl⟩ <;> rcases h' with ⟨h', rfl⟩ | ⟨h', rfl⟩
  · rfl
  · exact absurd (e.1 h) h'
  · exact absurd (e.2 h') h
  · rfl
/-- A loop that checks each place. -/
theorem T_all {ρ : Type} (g : Nat → Nat → Option ρ) (n : Nat) (C : Nat → Prop) (bad fin : ρ)
    (step : ∀ i, i < n → C i → ∀ P : ρ → Prop, Tells (fun k => g k (i + 1)) P → Tells (fun k => g (k + 1) i) P) (out : ∀ i, i < n → ¬ C i → Tells (fun k => g (k + 1) i) (· = bad)) (hf : Tells (fun k => g (k + 1) n) (· = fin)) :
    Tells (fun k => g k 0) (Either (From C n 0) fin bad) := by
  refine T_loop g n (fun i => Either (From C n i) fin bad) (fun i hi he => ?_) (hf.mono fun r hr => .inl ⟨From.last C n, hr⟩) 0 (Nat.zero_le _)
  by_cases hc : C i
  · refine (step i hi hc _ he).mono fun r hr => ?_
    unfold Either at hr ⊢
    rw [From.cons hc] at hr
    exact hr
  · exact (out i hi hc).mono fun r hr => .inr ⟨From.none hi hc, hr⟩
/-- A loop that looks for the first place. -/
theorem T_find {ρ : Type} (g : Nat → Nat → Option ρ) (n : Nat) (C : Nat → Prop) (got : Nat → ρ) (fin : ρ)
    (step : ∀ i, i < n → ¬ C i → ∀ P : ρ → Prop, Tells (fun k => g k (i + 1)) P → Tells (fun k => g (k + 1) i) P) (out : ∀ i, i < n → C i → Tells (fun k => g (k + 1) i) (· = got i)) (hf : Tells (fun k => g (k + 1) n) (· = fin)) :
    Tells (fun k => g k 0) (fun r => (∃ j, j < n ∧ C j ∧ (∀ m, m < j → ¬ C m) ∧ r = got j) ∨ ((∀ j, j < n → ¬ C j) ∧ r = fin)) := by
  refine (T_loop g n (fun i r => (∃ j, i ≤ j ∧ j < n ∧ C j ∧ (∀ m, i ≤ m → m < j → ¬ C m) ∧ r = got j) ∨ ((∀ j, i ≤ j → j < n → ¬ C j) ∧ r = fin)) (fun i hi he => ?_)
    (hf.mono fun r hr => .inr ⟨fun j a b => absurd b (by omega), hr⟩) 0 (Nat.zero_le _)).mono fun r hr => ?_
  · by_cases hc : C i
    · exact (out i hi hc).mono fun r hr => .inl ⟨i, Nat.le_refl _, hi, hc, fun m a b => absurd b (by omega), hr⟩
    · refine (step i hi hc _ he).mono fun r hr => ?_
      rcases hr with ⟨j, a, b, c, d, e⟩ | ⟨a, b⟩
      · refine .inl ⟨j, by omega, b, c, fun m h1 h2 => ?_, e⟩
        by_cases hm : m = i
        · exact hm ▸ hc
        · exact d m (by omega) h2
      · refine .inr ⟨fun j h1 h2 => ?_, b⟩
        by_cases hm : j = i
        · exact hm ▸ hc
        · exact a j (by omega) h2
  · rcases hr with ⟨j, _, b, c, d, e⟩ | ⟨a, b⟩
    · exact .inl ⟨j, b, c, fun m hm => d m (Nat.zero_le _) hm, e⟩
    · exact .inr ⟨fun j hj => a j (Nat.zero_le _) hj, b⟩
theorem ba_ext {a b : ByteArray} (h : a.toList = b.toList) : a = b := by
  rw [ByteArray.toList_eq, ByteArray.toList_eq] at h
  cases a; cases b
  simpa using h
/-- The same of a test. -/
theorem T_allb (g : Nat → Nat → Option Bool) (n : Nat) (C : Nat → Prop) (F : Prop)
    (step : ∀ i, i < n → C i → ∀ P : Bool → Prop, Tells (fun k => g k (i + 1)) P → Tells (fun k => g (k + 1) i) P) (out : ∀ i, i < n → ¬ C i → Tells (fun k => g (k + 1) i) (· = false)) (hf : Tells (fun k => g (k + 1) n) (fun r => r = true ↔ F)) :
    Tells (fun k => g k 0) (fun r => r = true ↔ (∀ j, j < n → C j) ∧ F) := by
  refine (T_loop g n (fun i r => r = true ↔ From C n i ∧ F) (fun i hi he => ?_) (hf.mono fun r hr => hr.trans ⟨fun h => ⟨From.last C n, h⟩, fun h => h.2⟩) 0 (Nat.zero_le _)).mono fun r hr => by
      rw [hr]
      exact ⟨fun h => ⟨fun j hj => h.1 j (Nat.zero_le _) hj, h.2⟩, fun h => ⟨fun j _ hj => h.1 j hj, h.2⟩⟩
  by_cases hc : C i
  · refine (step i hi hc _ he).mono fun r hr => ?_
    rw [hr, From.cons hc]
  · exact (out i hi hc).mono fun r hr => by
      rw [hr]
      exact ⟨fun h => absurd h Bool.false_ne_true, fun h => absurd h.1 (From.none hi hc)⟩
theorem same_bool {c : Prop} {r s : Bool} (h : r = true ↔ c) (k : s = true ↔ c) : s = r := Bool.eq_iff_iff.2 (k.trans h.symm)
theorem mem_drop_iff {α : Type} {l : List α} {i : Nat} (h : i < l.length) (a : α) : a ∈ l.drop i ↔ a = l[i] ∨ a ∈ l.drop (i + 1) := by
  rw [List.drop_eq_getElem_cons h, List.mem_cons]
theorem drop_eq_iff {α : Type} {a b : List α} {i : Nat} (ha : i < a.length) (hb : i < b.length) : a.drop i = b.drop i ↔ a[i] = b[i] ∧ a.drop (i + 1) = b.drop (i + 1) := by
  rw [List.drop_eq_getElem_cons ha, List.drop_eq_getElem_cons hb, List.cons.injEq]
/-- A loop with a counter and a state. -/
theorem T_loops {ρ σ : Type} (g : Nat → σ → Nat → Option ρ) (n : Nat) (Inv : Nat → σ → Prop) (P : Nat → σ → ρ → Prop)
    (step : ∀ i s, i < n → Inv i s → (∀ s', Inv (i + 1) s' → Tells (fun k => g k s' (i + 1)) (P (i + 1) s')) → Tells (fun k => g (k + 1) s i) (P i s))
    (fin : ∀ s, Inv n s → Tells (fun k => g (k + 1) s n) (P n s)) : ∀ i s, i ≤ n → Inv i s → Tells (fun k => g k s i) (P i s) := by
  have key : ∀ d i s, i + d = n → Inv i s → Tells (fun k => g k s i) (P i s) := by
    intro d
    induction d with
    | zero =>
      intro i s hi hs
      obtain rfl : i = n := by omega
      exact T_step (fin s hs)
    | succ d ih =>
      intro i s hi hs
      exact T_step (step i s (by omega) hs (fun s' hs' => ih (i + 1) s' (by omega) hs'))
  exact fun i s hi hs => key (n - i) i s (by omega) hs
def FindP {ρ : Type} (n : Nat) (C : Nat → Prop) (got : Nat → ρ) (fin : ρ) (r : ρ) : Prop := (∃ j, j < n ∧ C j ∧ (∀ m, m < j → ¬ C m) ∧ r = got j) ∨ ((∀ j, j < n → ¬ C j) ∧ r = fin)
theorem FindP.same {ρ : Type} {n : Nat} {C : Nat → Prop} {got : Nat → ρ} {fin r s : ρ} (h : FindP n C got fin r) (k : FindP n C got fin s) : s = r := by
  rcases h with ⟨j, a, b, c, rfl⟩ | ⟨a, rfl⟩ <;> rcases k with ⟨j', a', b', c', rfl⟩ | ⟨a', rfl⟩
  · rcases Nat.lt_trichotomy j j' with h | h | h
    · exact absurd b (c' _ h)
    · rw [h]
    · exact absurd b' (c _ h)
  · exact absurd b (a' j a)
  · exact absurd b' (a j' a')
  · rfl
theorem ba_append_nil (b : ByteArray) : b ++ (⟨#[]⟩ : ByteArray) = b := by
  apply ByteArray.ext
  simp
theorem ba_nil_append (b : ByteArray) : (⟨#[]⟩ : ByteArray) ++ b = b := by
  apply ByteArray.ext
  simp
def modP (b : Int) : Int := b % 2147483579
def pw (b e : Int) : Int := if 0 ≤ e ∧ e ≤ 2147483579 then modP b ^ e.toNat % 2147483579 else 0
theorem modP_rng (b : Int) : 0 ≤ modP b ∧ modP b < 2147483579 := by unfold modP; omega
theorem pow_emod (x m : Int) (n : Nat) : (x % m) ^ n % m = x ^ n % m := by
  induction n with
  | zero => simp
  | succ n ih => rw [Int.pow_succ, Int.pow_succ, Int.mul_emod, ih, Int.emod_emod, ← Int.mul_emod]
theorem pw_step (x out : Int) (e : Nat) : out * x ^ e % 2147483579 = (if e % 2 = 1 then out * x % 2147483579 else out) * (x * x % 2147483579) ^ (e / 2) % 2147483579 := by
  have h1 : (x * x) ^ (e / 2) = x ^ (2 * (e / 2)) := by rw [Int.pow_mul, Int.pow_succ, Int.pow_succ, Int.pow_zero, Int.one_mul]
  split
  · rename_i h
    have h2 : x ^ e = x * x ^ (2 * (e / 2)) := by
      rw [show e = 2 * (e / 2) + 1 by omega, Int.pow_succ, Int.mul_comm]
      congr 2
      omega
    rw [Int.mul_emod (out * x % 2147483579), pow_emod, Int.emod_emod, ← Int.mul_emod, h1, h2, Int.mul_assoc]
  · rename_i h
    have h2 : x ^ e = x ^ (2 * (e / 2)) := by congr 1; omega
    rw [h2, ← h1, Int.mul_emod out, ← pow_emod (x * x), ← Int.mul_emod]
theorem pow_mul_rng (x y : Int) (hx : 0 ≤ x ∧ x < 2147483579) (hy : 0 ≤ y ∧ y < 2147483579) : 0 ≤ x * y ∧ x * y ≤ 4611685723063115241 := by
  have h1 := Int.mul_nonneg hx.1 hy.1
  have h2 : x * y ≤ 2147483579 * 2147483579 := Int.mul_le_mul (by omega) (by omega) hy.1 (by omega)
  omega
theorem tmod_facts (a m : Int) (hm : 0 < m) : ∃ q r, Int.tmod a m = r ∧ a = m * q + r ∧ -m < r ∧ r < m := by
  rcases Int.lt_or_le a 0 with h | h
  · refine ⟨-((-a) / m), -((-a) % m), ?_, ?_, ?_, ?_⟩
    · rw [← Int.neg_neg a, Int.neg_tmod, Int.neg_neg, Int.tmod_eq_emod_of_nonneg (by omega)]
    · have := Int.mul_ediv_add_emod (-a) m
      rw [Int.mul_neg]
      omega
    · have := Int.emod_lt_of_pos (-a) hm
      omega
    · have := Int.emod_nonneg (-a) (show m ≠ 0 by omega)
      omega
  · refine ⟨a / m, a % m, Int.tmod_eq_emod_of_nonneg h, ?_, ?_, Int.emod_lt_of_pos a hm⟩
    · have := Int.mul_ediv_add_emod a m
      omega
    · have := Int.emod_nonneg a (show m ≠ 0 by omega)
      omega
def numTxt (n : Int) : ByteArray := if 0 ≤ n ∧ n ≤ 4294967295 then strOfNums [n / 16777216 % 256, n / 65536 % 256, n / 256 % 256, n % 256] else ⟨#[]⟩
def byteTxt (n : Int) : ByteArray := strOfNums [n % 256]
theorem str_size (l : List Int) : (strOfNums l).size = l.length := by
  show (l.map fun n => UInt8.ofNat n.toNat).toArray.size = _
  simp
theorem byteTxt_size (n : Int) : (byteTxt n).size = 1 := str_size _
theorem numTxt_size (n : Int) : (numTxt n).size ≤ 4 := by
  unfold numTxt
  split
  · rw [str_size]; simp
  · exact Nat.zero_le _
theorem bits_and255 (x : Int) (h0 : 0 ≤ x) (h1 : x ≤ 4611686018427387903) : Go.bits .and .i64 x 255 = x % 256 := by
  have m := bits_mask .i64 62 (by decide) (fun x h0 h1 => by rw [IntKind.wrap_i64]; omega) 8 (by omega) x h0 (by omega)
  exact m
def pubOf (s : Int) : Int := if 1 ≤ s ∧ s ≤ 1073741788 then pw 4 s else 0
def helloTxt (role once : Int) : ByteArray := ((⟨#[104]⟩ : ByteArray) ++ byteTxt role) ++ numTxt (pubOf once)
def hello (role sec pin once step : Int) (mine yours : ByteArray) : Int × Int × Int × Int × Int × ByteArray × ByteArray × ByteArray :=
  if step = 0 then (role, sec, pin, once, 1, helloTxt role once, yours, helloTxt role once) else (role, sec, pin, once, step, mine, yours, ⟨#[]⟩)
theorem hello_size (role : Int) : ((⟨#[104]⟩ : ByteArray) ++ byteTxt role).size = 2 := by
  rw [ByteArray.size_append, byteTxt_size]; rfl

/-! laws_szGreeter -/
theorem laws_szGreeter.ev (x0 : Int) (x1 : Int) (x2 : Int) (x3 : Int) (x4 : Int) (x5 : ByteArray) (x6 : ByteArray) (a : Int) (h0 : 0 ≤ a) (h1 : a ≤ 1048576) (hx5 : x5.size ≤ 140737488351232) (hx6 : x6.size ≤ 140737488351232) : Tells (fun k => laws_szGreeter.f x0 x1 x2 x3 x4 x5 x6 a) (fun v => v = -1 ∨ (0 ≤ v ∧ v ≤ a ∧ v + x5.size ≤ a ∧ v + x6.size ≤ a)) := by
  unfold laws_szGreeter.f
  rw [w64 (x := a - (x5.size : Int)) (by omega) (by omega)]
  refine T_ite (fun _ => T_ret (.inl rfl)) (fun g0 => ?_)
  rw [w64 (x := (a - (x5.size : Int)) - (x6.size : Int)) (by omega) (by omega)]
  refine T_ite (fun _ => T_ret (.inl rfl)) (fun g1 => ?_)
  exact T_ret (.inr ⟨by omega, by omega, by omega, by omega⟩)

/-! spec_l01In -/
theorem spec_l01In.eq (a b c : Int) : spec_l01In.f a b c = some (decide (b ≤ a ∧ a ≤ c)) := by
  unfold spec_l01In.f
  by_cases h : b ≤ a <;> simp [h]

/-! spec_l03Mod -/
theorem spec_l03Mod.eq (a : Int) : spec_l03Mod.f a = some (modP a) := by
  unfold spec_l03Mod.f modP
  obtain ⟨q, r, e, h1, h2, h3⟩ := tmod_facts a 2147483579 (by omega)
  rw [e, w64 (by omega) (by omega)]
  split <;> congr 1 <;> omega

/-! spec_PowP -/
theorem spec_PowP.loop (n : Nat) : ∀ (x out : Int) (e : Int), 0 ≤ e → e.toNat ≤ n → e ≤ 2147483579 → (0 ≤ x ∧ x < 2147483579) → (0 ≤ out ∧ out < 2147483579) → Tells (fun k => spec_PowP.l0 k x e out) (· = out * x ^ e.toNat % 2147483579) := by
  induction n with
  | zero =>
    intro x out e h0 h1 h2 hx ho
    refine T_step ?_
    simp only [spec_PowP.l0]
    refine T_neg (by omega) (T_ret ?_)
    rw [show e.toNat = 0 by omega, Int.pow_zero, Int.mul_one, Int.emod_eq_of_lt ho.1 ho.2]
  | succ n ih =>
    intro x out e h0 h1 h2 hx ho
    refine T_step ?_
    simp only [spec_PowP.l0]
    refine T_ite (fun h => ?_) (fun h => T_ret ?_)
    · have a := pow_mul_rng x x hx hx
      have b := pow_mul_rng out x ho hx
      rw [w64 (x := x * x) (by omega) (by omega), w64 (x := out * x) (by omega) (by omega), Int.tdiv_eq_ediv_of_nonneg h0, w64 (x := e / 2) (by omega) (by omega), Int.tmod_eq_emod_of_nonneg h0, Int.tmod_eq_emod_of_nonneg a.1, Int.tmod_eq_emod_of_nonneg b.1, pw_step]
      have e2 : (e / 2).toNat = e.toNat / 2 := by omega
      refine T_ite (fun h3 => ?_) (fun h3 => ?_)
      · rw [if_pos (show e.toNat % 2 = 1 by omega), ← e2]
        exact ih _ _ _ (by omega) (by omega) (by omega) (by omega) (by omega)
      · rw [if_neg (show ¬ e.toNat % 2 = 1 by omega), ← e2]
        exact ih _ _ _ (by omega) (by omega) (by omega) (by omega) ho
    · rw [show e.toNat = 0 by omega, Int.pow_zero, Int.mul_one, Int.emod_eq_of_lt ho.1 ho.2]
theorem spec_PowP.ev (b e : Int) : Tells (fun k => spec_PowP.f k b e) (· = pw b e) := by
  unfold spec_PowP.f pw
  simp only [spec_l01In.eq, spec_l03Mod.eq, Option.bind_some, decide_eq_true_eq]
  refine T_ite (fun h => ?_) (fun h => T_ret (by rw [if_neg h]))
  rw [if_pos h]
  have := spec_PowP.loop e.toNat (modP b) 1 e h.1 (Nat.le_refl _) h.2 (modP_rng b) (by omega)
  simpa using this

/-! spec_PublicOf -/
theorem spec_PublicOf.ev (s : Int) : Tells (fun k => spec_PublicOf.f k s) (· = pubOf s) := by
  unfold spec_PublicOf.f pubOf
  simp only [spec_l01In.eq, Option.bind_some, decide_eq_true_eq]
  refine T_ite (fun h => T_bind (spec_PowP.ev 4 s) ?_) (fun h => T_ret (by rw [if_neg h]))
  rintro _ rfl
  exact T_ret (by rw [if_pos h])

/-! spec_l05Byte -/
theorem spec_l05Byte.eq (a : Int) : spec_l05Byte.f a = some (byteTxt a) := by
  unfold spec_l05Byte.f byteTxt
  obtain ⟨q, r, e, h1, h2, h3⟩ := tmod_facts a 256 (by omega)
  rw [e, w64 (by omega) (by omega), show (r + 256) % 256 = a % 256 by omega, show r % 256 = a % 256 by omega]
  split <;> rfl

/-! spec_NumberText -/
theorem spec_NumberText.eq (n : Int) : spec_NumberText.f n = some (numTxt n) := by
  unfold spec_NumberText.f numTxt
  simp only [spec_l01In.eq, Option.bind_some, decide_eq_true_eq]
  by_cases h : 0 ≤ n ∧ n ≤ 4294967295
  · rw [if_pos h, if_pos h]
    simp only [Int.tdiv_eq_ediv_of_nonneg h.1]
    rw [w64 (x := n / 16777216) (by omega) (by omega), w64 (x := n / 65536) (by omega) (by omega), w64 (x := n / 256) (by omega) (by omega), Int.tmod_eq_emod_of_nonneg (by omega), Int.tmod_eq_emod_of_nonneg (by omega), Int.tmod_eq_emod_of_nonneg h.1]
    simp only [Int.emod_emod]
  · rw [if_neg h, if_neg h]

/-! spec_Hello -/
theorem spec_Hello.ev (role sec pin once step : Int) (mine yours : ByteArray) : Tells (fun k => spec_Hello.f k role sec pin once step mine yours) (· = hello role sec pin once step mine yours) := by
  unfold spec_Hello.f hello helloTxt
  simp only [spec_l05Byte.eq, Option.bind_some, byteTxt_size]
  refine T_ite (fun h => T_pos (by omega) (T_bind (spec_PublicOf.ev once) ?_)) (fun h => T_ret (by rw [if_neg h]))
  rintro _ rfl
  simp only [spec_NumberText.eq, Option.bind_some]
  have h1 := numTxt_size (pubOf once)
  have h2 := hello_size role
  exact T_pos (by omega) (T_ret (by rw [if_pos h]))

/-! laws_toGreeter -/
theorem laws_toGreeter.ev (x0 : Int) (x1 : Int) (x2 : Int) (x3 : Int) (x4 : Int) (x5 : ByteArray) (x6 : ByteArray)  : Tells (fun k => laws_toGreeter.f x0 x1 x2 x3 x4 x5 x6) (· = (x0, x1, x2, x3, x4, x5, x6)) := by
  unfold laws_toGreeter.f
  exact T_ret rfl

/-! impl_byteText -/
theorem impl_byteText.eq (a : Int) : impl_byteText.f a = some (byteTxt a) := rfl

/-! impl_within -/
theorem impl_within.eq (a b c : Int) : impl_within.f a b c = some (decide (b ≤ a ∧ a ≤ c)) := by
  unfold impl_within.f
  by_cases h : b ≤ a <;> simp [h]

/-! impl_NumberText -/
theorem impl_NumberText.eq (n : Int) : impl_NumberText.f n = some (numTxt n) := by
  unfold impl_NumberText.f numTxt
  simp only [impl_within.eq, Option.bind_some, decide_eq_true_eq]
  by_cases h : 0 ≤ n ∧ n ≤ 4294967295
  · rw [if_pos h, if_pos h, bits_and255 _ (by omega) (by omega), bits_and255 _ (by omega) (by omega), bits_and255 _ (by omega) (by omega), bits_and255 _ (by omega) (by omega)]
    simp only [Int.emod_emod]
  · rw [if_neg h, if_neg h]

/-! impl_secretOk -/
theorem impl_secretOk.eq (s : Int) : impl_secretOk.f s = some (decide (1 ≤ s ∧ s ≤ 1073741788)) := by
  unfold impl_secretOk.f
  simp [impl_within.eq]

/-! impl_inPrime -/
theorem impl_inPrime.eq (a : Int) : impl_inPrime.f a = some (modP a) := by
  unfold impl_inPrime.f modP
  obtain ⟨q, r, e, h1, h2, h3⟩ := tmod_facts a 2147483579 (by omega)
  rw [e, w64 (by omega) (by omega), Int.tmod_eq_emod_of_nonneg (by omega)]
  congr 1
  omega

/-! impl_PowP -/
theorem impl_PowP.loop (n : Nat) : ∀ (x out : Int) (e : Int), 0 ≤ e → e.toNat ≤ n → e ≤ 2147483579 → (0 ≤ x ∧ x < 2147483579) → (0 ≤ out ∧ out < 2147483579) → Tells (fun k => impl_PowP.l0 k e out x) (· = out * x ^ e.toNat % 2147483579) := by
  induction n with
  | zero =>
    intro x out e h0 h1 h2 hx ho
    refine T_step ?_
    simp only [impl_PowP.l0]
    refine T_neg (by omega) (T_ret ?_)
    rw [show e.toNat = 0 by omega, Int.pow_zero, Int.mul_one, Int.emod_eq_of_lt ho.1 ho.2]
  | succ n ih =>
    intro x out e h0 h1 h2 hx ho
    refine T_step ?_
    simp only [impl_PowP.l0]
    refine T_ite (fun h => ?_) (fun h => T_ret ?_)
    · have a := pow_mul_rng x x hx hx
      have b := pow_mul_rng out x ho hx
      rw [w64 (x := x * x) (by omega) (by omega), w64 (x := out * x) (by omega) (by omega), Int.tdiv_eq_ediv_of_nonneg h0, w64 (x := e / 2) (by omega) (by omega), Int.tmod_eq_emod_of_nonneg h0, Int.tmod_eq_emod_of_nonneg a.1, Int.tmod_eq_emod_of_nonneg b.1, pw_step]
      have e2 : (e / 2).toNat = e.toNat / 2 := by omega
      refine T_ite (fun h3 => ?_) (fun h3 => ?_)
      · rw [if_pos (show e.toNat % 2 = 1 by omega), ← e2]
        exact ih _ _ _ (by omega) (by omega) (by omega) (by omega) (by omega)
      · rw [if_neg (show ¬ e.toNat % 2 = 1 by omega), ← e2]
        exact ih _ _ _ (by omega) (by omega) (by omega) (by omega) ho
    · rw [show e.toNat = 0 by omega, Int.pow_zero, Int.mul_one, Int.emod_eq_of_lt ho.1 ho.2]
theorem impl_PowP.ev (b e : Int) : Tells (fun k => impl_PowP.f k b e) (· = pw b e) := by
  unfold impl_PowP.f pw
  simp only [impl_within.eq, impl_inPrime.eq, Option.bind_some, decide_eq_true_eq]
  refine T_ite (fun h => ?_) (fun h => T_ret (by rw [if_neg h]))
  rw [if_pos h]
  have := impl_PowP.loop e.toNat (modP b) 1 e h.1 (Nat.le_refl _) h.2 (modP_rng b) (by omega)
  simpa using this

/-! impl_PublicOf -/
theorem impl_PublicOf.ev (s : Int) : Tells (fun k => impl_PublicOf.f k s) (· = pubOf s) := by
  unfold impl_PublicOf.f pubOf
  simp only [impl_secretOk.eq, Option.bind_some, decide_eq_true_eq]
  refine T_ite (fun h => T_bind (impl_PowP.ev 4 s) ?_) (fun h => T_ret (by rw [if_neg h]))
  rintro _ rfl
  exact T_ret (by rw [if_pos h])

/-! impl_Hello -/
theorem impl_Hello.ev (role sec pin once step : Int) (mine yours : ByteArray) : Tells (fun k => impl_Hello.f k role sec pin once step mine yours) (· = hello role sec pin once step mine yours) := by
  unfold impl_Hello.f hello helloTxt
  simp only [impl_byteText.eq, Option.bind_some, byteTxt_size]
  refine T_ite (fun h => T_pos (by omega) (T_bind (impl_PublicOf.ev once) ?_)) (fun h => T_ret (by rw [if_neg h]))
  rintro _ rfl
  simp only [impl_NumberText.eq, Option.bind_some]
  have h1 := numTxt_size (pubOf once)
  have h2 := hello_size role
  exact T_pos (by omega) (T_ret (by rw [if_pos h]))

/-! laws_eqGreeter -/
theorem laws_eqGreeter.ev (x0 : Int) (x1 : Int) (x2 : Int) (x3 : Int) (x4 : Int) (x5 : ByteArray) (x6 : ByteArray)  : Tells (fun k => laws_eqGreeter.f x0 x1 x2 x3 x4 x5 x6 x0 x1 x2 x3 x4 x5 x6) (· = true) := by
  unfold laws_eqGreeter.f
  refine T_pos rfl ?_
  refine T_pos rfl ?_
  refine T_pos rfl ?_
  refine T_pos rfl ?_
  refine T_pos rfl ?_
  refine T_pos rfl ?_
  refine T_pos rfl ?_
  exact T_ret rfl

theorem FnExactHello : laws_FnExactHello.Goal := by
  rintro role sec pin once step mine yours _ _ _ _ _ hm hy
  refine Tells.rounds ?_
  unfold laws_FnExactHello.f
  refine T_bind (laws_szGreeter.ev role sec pin once step mine yours 1048576 (by omega) (by omega) hm hy) fun v hv => T_ite (fun _ => T_ret rfl) (fun h => ?_)
  refine T_bind (laws_toGreeter.ev role sec pin once step mine yours) ?_
  rintro _ rfl
  refine T_bind (spec_Hello.ev role sec pin once step mine yours) ?_
  rintro _ rfl
  refine T_bind (laws_toGreeter.ev role sec pin once step mine yours) ?_
  rintro _ rfl
  refine T_bind (impl_Hello.ev role sec pin once step mine yours) ?_
  rintro _ rfl
  refine T_bind (laws_eqGreeter.ev _ _ _ _ _ _ _) ?_
  rintro _ rfl
  exact T_pos rfl (T_pos rfl (T_ret rfl))

end Go.Proofs.Ytpinehfjimphmaa.Pure
