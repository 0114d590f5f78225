/- FnExactReadPrefix, the plain part: from some fuel on the law answers true. -/
import Derived.Test.YtpheniajdbbphaaDoorGoalFnExactReadPrefix
import Derived.Test.YtpheniajdbbphaaDoorKITE
namespace Go.Proofs.YtpheniajdbbphaaDoor.DI.Pure
open Go Go.RowKit
set_option linter.unusedVariables false
set_option linter.unusedSimpArgs false
theorem laws_eqPrefix.refl (k : Nat) (c0 : Int) (c1 : Int) : laws_eqPrefix.f k c0 c1 c0 c1 = some true := by simp [laws_eqPrefix.f]
/-! Decimal texts. -/
def dig (d : Nat) : ByteArray := ⟨#[UInt8.ofNat (48 + d)]⟩
def decB (n : Nat) : ByteArray := ⟨(Lib.decDigits n).toArray⟩
theorem decB_small {n : Nat} (h : n < 10) : decB n = dig n := by unfold decB dig; rw [Lib.decDigits, dif_pos h]
theorem decB_big {n : Nat} (h : ¬ n < 10) : decB n = decB (n / 10) ++ dig (n % 10) := by
  apply ByteArray.ext
  unfold decB dig
  rw [Lib.decDigits, dif_neg h]
  simp
def decR (n : Nat) (s : ByteArray) : ByteArray := if n = 0 then s else decB n ++ s
theorem decR_step {n : Nat} (h : 0 < n) (s : ByteArray) : decR (n / 10) (dig (n % 10) ++ s) = decR n s := by
  unfold decR
  rw [if_neg (show n ≠ 0 by omega)]
  by_cases h1 : n < 10
  · rw [if_pos (by omega), decB_small h1, show n % 10 = n by omega]
  · rw [if_neg (by omega), decB_big h1, ByteArray.append_assoc]
theorem figure_eq (k : Nat) {d : Nat} (h : d < 10) : spec_l01Figure.f k (d : Int) = some ((48 + d : Nat) : Int) := by
  unfold spec_l01Figure.f
  rw [decide_eq_true (by omega), cond_true, wr64 (by omega) (by omega)]
  have e : IntKind.u8.wrap ((48 : Int) + (d : Int)) = if (false && decide (((48 : Int) + (d : Int)) % 256 ≥ 128)) = true then ((48 : Int) + (d : Int)) % 256 - 256 else ((48 : Int) + (d : Int)) % 256 := by kernel_rfl
  rw [e]
  simp only [Bool.false_and, Bool.false_eq_true, if_false]
  congr 1
  omega
theorem dig_str (d : Nat) : strOfNums [((48 + d : Nat) : Int)] = dig d := rfl
theorem dig_size (d : Nat) : (dig d).size = 1 := rfl
theorem spec_decL.ev : ∀ (m n : Nat) (s : ByteArray), n < 10 ^ m → s.size + m ≤ 1000 → n ≤ 9223372036854775807 → Tells (FS F0) (fun x => spec_Decimal.l0 x.1 x.2 ((n : Int), false, s)) (· = decR n s) := by
  intro m
  induction m with
  | zero =>
    intro n s hn hs h63
    obtain rfl : n = 0 := by simpa using hn
    refine T_step (g := fun x j => spec_Decimal.l0 x j (((0 : Nat) : Int), false, s)) ?_
    dsimp only [spec_Decimal.l0, spec_Decimal.s0]
    exact T_false rfl (T_false rfl (T_ret rfl))
  | succ m ih =>
    intro n s hn hs h63
    refine T_step (g := fun x j => spec_Decimal.l0 x j ((n : Int), false, s)) ?_
    dsimp only [spec_Decimal.l0, spec_Decimal.s0]
    have d1 : (n : Int).tmod (10 : Int) = ((n % 10 : Nat) : Int) := rfl
    have d2 : (n : Int).tdiv (10 : Int) = ((n / 10 : Nat) : Int) := rfl
    rw [d1, d2, wr64 (x := ((n / 10 : Nat) : Int)) (by omega) (by omega)]
    refine T_bne (fun h0 => T_neg (by omega) ?_) fun h0 => T_false rfl (T_ret ?_)
    · simp only [figure_eq _ (show n % 10 < 10 by omega), Option.bind_some, dig_str]
      refine T_pos (by rw [dig_size]; omega) ?_
      rw [← decR_step (by omega) s]
      exact ih (n / 10) (dig (n % 10) ++ s) (by rw [Nat.pow_succ] at hn; omega) (by rw [ByteArray.size_append, dig_size]; omega) (by omega)
    · obtain rfl : n = 0 := by omega
      rfl
theorem spec_Decimal.ev {n : Nat} (h : n ≤ 9223372036854775807) : Tells F0 (fun k => spec_Decimal.f k (n : Int)) (· = decB n) := by
  unfold spec_Decimal.f
  refine T_beq (fun e => T_ret ?_) fun e => ?_
  · obtain rfl : n = 0 := by omega
    rw [decB_small (by omega)]
    rfl
  · rw [decide_eq_false (show ¬ ((n : Int) < 0) by omega)]
    have hh := spec_decL.ev 19 n ByteArray.empty (by omega) (by show 0 + 19 ≤ 1000; omega) h
    have e2 : decR n ByteArray.empty = decB n := by unfold decR; rw [if_neg (by omega), ByteArray.append_empty]
    rw [e2] at hh
    exact T_in (F := F0) (g := fun x j => spec_Decimal.l0 x j ((n : Int), false, ByteArray.empty)) hh (fun k => k) (fun _ _ h => h)
theorem decDigits_len : ∀ (m n : Nat), n < 10 ^ (m + 1) → (Lib.decDigits n).length ≤ m + 1
  | 0, n, h => by
    rw [Lib.decDigits, dif_pos (by omega)]
    simp
  | m + 1, n, h => by
    rw [Lib.decDigits]
    split
    · simp
    · rw [List.length_append]
      have := decDigits_len m (n / 10) (by rw [Nat.pow_succ] at h; omega)
      simp only [List.length_singleton]
      omega
theorem decB_size {n : Nat} (h : n ≤ 9223372036854775807) : (decB n).size ≤ 19 := by
  have := decDigits_len 18 n (by omega)
  show (Lib.decDigits n).toArray.size ≤ 19
  simpa using this

theorem in_eq (k : Nat) (n a b : Int) : spec_l01In.f k n a b = some (decide (a ≤ n ∧ n ≤ b)) := by
  unfold spec_l01In.f
  by_cases h : n ≥ a <;> by_cases h' : n ≤ b <;> simp [h, h'] <;> omega
theorem within_eq (k : Nat) (n a b : Int) : impl_within.f k n a b = some (decide (a ≤ n ∧ n ≤ b)) := by
  unfold impl_within.f
  by_cases h : n ≥ a <;> by_cases h' : n ≤ b <;> simp [h, h'] <;> omega

/-! Decimal texts that are read. -/
theorem T_is {ι α : Type} {F : Fu ι} {g : ι → Option α} {v : α} (h : ∀ x, g x = some v) : Tells F g (· = v) := ⟨v, rfl, 0, fun x _ => h x⟩
theorem decB_toList (n : Nat) : (decB n).data.toList = Lib.decDigits n := rfl
/-- What the digits of a text come to. -/
def valL (acc : Nat) (l : List UInt8) : Nat := l.foldl (fun a c => a * 10 + (c.toNat - 48)) acc
theorem dig_nat {d : Nat} (h : d < 10) : (UInt8.ofNat (48 + d)).toNat = 48 + d := by
  simp only [UInt8.toNat_ofNat']
  omega
theorem digits_range : ∀ (u : Nat), ∀ c ∈ Lib.decDigits u, 48 ≤ c.toNat ∧ c.toNat ≤ 57 := by
  intro u
  induction u using Nat.strongRecOn with
  | ind u ih =>
    intro c hc
    rw [Lib.decDigits] at hc
    split at hc
    · simp only [List.mem_singleton] at hc
      rw [hc, dig_nat (by omega)]
      omega
    · rcases List.mem_append.1 hc with hc | hc
      · exact ih (u / 10) (by omega) c hc
      · simp only [List.mem_singleton] at hc
        rw [hc, dig_nat (by omega)]
        omega
theorem val_digits : ∀ (u : Nat), valL 0 (Lib.decDigits u) = u := by
  intro u
  induction u using Nat.strongRecOn with
  | ind u ih =>
    rw [Lib.decDigits]
    split
    · simp only [valL, List.foldl_cons, List.foldl_nil]
      rw [dig_nat (by omega)]
      omega
    · have := ih (u / 10) (by omega)
      unfold valL at this ⊢
      rw [List.foldl_append, this]
      simp only [List.foldl_cons, List.foldl_nil]
      rw [dig_nat (by omega)]
      omega
theorem decB_inj {m n : Nat} (h : decB m = decB n) : m = n := by
  have := congrArg (fun b : ByteArray => valL 0 b.data.toList) h
  simp only [decB_toList, val_digits] at this
  exact this
theorem decDigits_ne (n : Nat) : Lib.decDigits n ≠ [] := by
  rw [Lib.decDigits]
  split <;> simp
open Classical in
/-- The number of a text that is a number's. -/
noncomputable def rdM (s : ByteArray) : Int × Bool := if h : ∃ n : Nat, n ≤ 1000000000 ∧ s = decB n then ((h.choose : Int), true) else (0, false)
theorem rdM_yes {n : Nat} (h : n ≤ 1000000000) : rdM (decB n) = ((n : Int), true) := by
  have hx : ∃ m : Nat, m ≤ 1000000000 ∧ decB n = decB m := ⟨n, h, rfl⟩
  unfold rdM
  rw [dif_pos hx]
  have := decB_inj hx.choose_spec.2
  rw [← this]
theorem rdM_no {s : ByteArray} (h : ¬ ∃ n : Nat, n ≤ 1000000000 ∧ s = decB n) : rdM s = (0, false) := by
  unfold rdM
  rw [dif_neg h]
theorem parse_digits : ∀ (l : List UInt8) (acc : Nat), (∀ c ∈ l, 48 ≤ c.toNat ∧ c.toNat ≤ 57) → valL acc l < 18446744073709551616 → Lib.parseUint10 acc l = .ok (valL acc l)
  | [], acc, _, _ => rfl
  | c :: r, acc, hd, hv => by
    have hc := hd c (by simp)
    have mono : ∀ (l : List UInt8) (a : Nat), a ≤ valL a l := by
      intro l
      induction l with
      | nil => intro a; exact Nat.le_refl _
      | cons x q ih =>
        intro a
        refine Nat.le_trans ?_ (ih (a * 10 + (x.toNat - 48)))
        omega
    have hm := mono r (acc * 10 + (c.toNat - 48))
    have hv' : valL (acc * 10 + (c.toNat - 48)) r < 18446744073709551616 := hv
    simp only [Lib.parseUint10]
    rw [if_pos hc, if_neg (by omega), if_neg (by omega)]
    exact parse_digits r _ (fun x hx => hd x (by simp [hx])) hv'
theorem atoi_dec {n : Nat} (h : n ≤ 1000000000) : Lib.atoiAll (Lib.decDigits n) = .ok (n : Int) := by
  have hp := parse_digits (Lib.decDigits n) 0 (digits_range n) (by rw [val_digits]; omega)
  rw [val_digits] at hp
  have hne := decDigits_ne n
  have hr := digits_range n
  match hl : Lib.decDigits n, hne with
  | c :: r, _ =>
    rw [hl] at hp hr
    have hc := hr c (by simp)
    unfold Lib.atoiAll
    simp only
    rw [if_neg (show ¬ (c.toNat = 43 ∨ c.toNat = 45) by omega)]
    unfold Lib.parseMag
    rw [if_neg (by simp), hp]
    simp only
    rw [if_neg (by omega), if_neg (by omega), if_neg (by omega)]
theorem readDM_eq (s : ByteArray) : readDM s = rdM s := by
  by_cases h : ∃ n : Nat, n ≤ 1000000000 ∧ s = decB n
  · obtain ⟨n, hn, rfl⟩ := h
    rw [rdM_yes hn]
    unfold readDM
    rw [decB_toList, atoi_dec hn]
    simp only
    rw [if_pos ⟨⟨by omega, by omega⟩, by unfold Lib.itoa; rw [if_neg (by omega), Int.toNat_natCast]⟩]
  · rw [rdM_no h]
    unfold readDM
    split
    · rename_i v hv
      rw [if_neg]
      rintro ⟨⟨h0, h1⟩, h2⟩
      refine h ⟨v.toNat, by omega, ?_⟩
      unfold Lib.itoa at h2
      rw [if_neg (by omega)] at h2
      apply ByteArray.ext
      apply Array.toList_inj.mp
      rw [← h2]
      rfl
    · rfl
theorem impl_ReadDecimal.ev (s : ByteArray) (h : s.size ≤ 281474976710656) : Tells F0 (fun k => impl_ReadDecimal.f k s) (· = rdM s) := by
  refine T_is fun k => ?_
  unfold impl_ReadDecimal.f readDRun
  rw [if_pos h, readDM_eq]
theorem valL_snoc (l : List UInt8) (c : UInt8) : valL 0 (l ++ [c]) = valL 0 l * 10 + (c.toNat - 48) := by unfold valL; rw [List.foldl_append]; rfl
theorem val_bound : ∀ (l : List UInt8), (∀ c ∈ l, 48 ≤ c.toNat ∧ c.toNat ≤ 57) → ∀ m, l.length ≤ m → ∀ a, valL a l + 1 ≤ (a + 1) * 10 ^ m
  | [], _, m, _, a => by
    have := Nat.one_le_pow m 10 (by omega)
    show a + 1 ≤ (a + 1) * 10 ^ m
    exact Nat.le_mul_of_pos_right _ this
  | c :: r, hd, 0, hl, a => by simp at hl
  | c :: r, hd, m + 1, hl, a => by
    have ih := val_bound r (fun x hx => hd x (by simp [hx])) m (by simpa using hl) (a * 10 + (c.toNat - 48))
    have hc := hd c (by simp)
    have e : valL a (c :: r) = valL (a * 10 + (c.toNat - 48)) r := rfl
    rw [e, Nat.pow_succ]
    refine Nat.le_trans ih ?_
    rw [Nat.mul_comm (10 ^ m) 10, ← Nat.mul_assoc]
    exact Nat.mul_le_mul_right _ (by omega)
theorem spec_ReadDecimal.ev (s : ByteArray) (h : s.size ≤ 140737488351232) : Tells F0 (fun k => spec_ReadDecimal.f k s) (· = rdM s) := by
  have hl : s.data.toList.length = s.size := by rw [Array.length_toList]; rfl
  unfold spec_ReadDecimal.f
  refine T_dec (fun g => T_ret ?_) fun g => ?_
  · rw [rdM_no]
    rintro ⟨n, hn, rfl⟩
    have := decDigits_len 9 n (by omega)
    rw [← decB_toList, hl] at this
    omega
  · have hh := T_loops (F := F0) (fun k j (_ : Unit) i => spec_ReadDecimal.l0 k j (s, (valL 0 (s.data.toList.take i) : Int), (i : Int))) s.size (fun i _ => ∀ c ∈ s.data.toList.take i, 48 ≤ c.toNat ∧ c.toNat ≤ 57) (fun _ _ r => r = rdM s) (fun i _ hi hI he => by
      dsimp only [spec_ReadDecimal.l0, spec_ReadDecimal.s0]
      simp only [Int.toNat_natCast]
      rw [wrs hi (by omega)]
      have hb := val_bound _ hI i (by rw [List.length_take]; omega) 0
      have hp : 10 ^ i ≤ 10 ^ 10 := Nat.pow_le_pow_right (by omega) (by omega)
      have gi : s.data.toList.take (i + 1) = s.data.toList.take i ++ [s[i]] := by
        rw [List.take_succ_eq_append_getElem (by omega)]
        rfl
      have bad : ¬ (48 ≤ s[i].toNat ∧ s[i].toNat ≤ 57) → ((0 : Int), false) = rdM s := fun hn => by
        rw [rdM_no]
        rintro ⟨n, _, e⟩
        refine hn (digits_range n _ ?_)
        rw [← decB_toList, ← e]
        exact List.mem_of_getElem? (i := i) (by rw [List.getElem?_eq_getElem (by omega)]; rfl)
      refine T_pos (by omega) (T_byte hi (T_dec (fun a => T_ret (bad (by omega))) fun a => T_byte hi (T_dec (fun b => T_ret (bad (by omega))) fun b => T_byte hi ?_)))
      have hu := s[i].toNat_lt
      have e1 : IntKind.i64.wrap ((IntKind.i64.wrap ((IntKind.i64.wrap ((10 : Int) * (valL 0 (s.data.toList.take i) : Int))) + (IntKind.i64.wrap (s[i].toNat : Int)))) - (48 : Int)) = ((valL 0 (s.data.toList.take (i + 1)) : Nat) : Int) := by
        rw [gi, valL_snoc]
        generalize valL 0 (s.data.toList.take i) = x at hb
        rw [wr64 (x := (10 : Int) * (x : Int)) (by omega) (by omega), wr64 (x := (s[i].toNat : Int)) (by omega) (by omega), wr64 (x := (10 : Int) * (x : Int) + (s[i].toNat : Int)) (by omega) (by omega), wr64 (by omega) (by omega)]
        omega
      rw [e1]
      refine he () fun c hc => ?_
      rw [gi] at hc
      rcases List.mem_append.1 hc with hc | hc
      · exact hI c hc
      · simp only [List.mem_singleton] at hc
        rw [hc]
        omega) (fun _ hI => by
      dsimp only [spec_ReadDecimal.l0, spec_ReadDecimal.s0]
      rw [List.take_of_length_le (by omega)] at hI ⊢
      refine T_neg (by omega) ?_
      have hb := val_bound _ hI s.size (by omega) 0
      have hp : 10 ^ s.size ≤ 10 ^ 10 := Nat.pow_le_pow_right (by omega) (by omega)
      generalize hv : valL 0 s.data.toList = v at hb
      refine T_dec (fun a => T_ret ?_) fun a => T_bindE (T_call (spec_Decimal.ev (by omega)) Prod.fst (fun _ _ h => h.1)) ?_
      · rw [rdM_no]
        rintro ⟨n, hn, rfl⟩
        rw [decB_toList, val_digits] at hv
        omega
      · rw [beq_bytes_iff]
        refine T_ndec (fun e => T_ret ?_) fun e => T_ret ?_
        · rw [← e, rdM_yes (by omega)]
        · rw [rdM_no]
          rintro ⟨n, hn, rfl⟩
          rw [decB_toList, val_digits] at hv
          exact e (by rw [hv])) 0 () (Nat.zero_le _) (fun c hc => by simp at hc)
    exact T_in (F := F0) (g := fun x j => spec_ReadDecimal.l0 x j (s, (0 : Int), (0 : Int))) hh (fun k => k) (fun _ _ h => h)

/-! Texts split at a byte. -/
def splD (s : ByteArray) (c : UInt8) : Nat → Nat → Nat → List ByteArray
  | b, 0, _ => [s.extract b s.size]
  | b, d + 1, i => if s.data.toList[i]? = some c then s.extract b i :: splD s c (i + 1) d (i + 1) else splD s c b d (i + 1)
def splM (s : ByteArray) (c : UInt8) : List ByteArray := splD s c 0 s.size 0
theorem splD_len (s : ByteArray) (c : UInt8) : ∀ (d b i : Nat), 1 ≤ (splD s c b d i).length ∧ (splD s c b d i).length ≤ d + 1
  | 0, b, i => ⟨Nat.le_refl _, Nat.le_refl _⟩
  | d + 1, b, i => by
    unfold splD
    split
    · have := splD_len s c d (i + 1) (i + 1)
      simp only [List.length_cons]
      omega
    · have := splD_len s c d b (i + 1)
      omega
theorem splD_size (s : ByteArray) (c : UInt8) : ∀ (d b i : Nat), ∀ x ∈ splD s c b d i, ByteArray.size x ≤ s.size
  | 0, b, i, x, hx => by
    simp only [splD, List.mem_singleton] at hx
    rw [hx, ByteArray.size_extract]
    omega
  | d + 1, b, i, x, hx => by
    unfold splD at hx
    split at hx
    · rcases List.mem_cons.1 hx with rfl | hx
      · rw [ByteArray.size_extract]; omega
      · exact splD_size s c d _ _ x hx
    · exact splD_size s c d _ _ x hx
theorem spec_l08Split.ev (s : ByteArray) (c : UInt8) (h : s.size ≤ 1000000000) : Tells F0 (fun k => spec_l08Split.f k s (c.toNat : Int)) (· = splM s c) := by
  have hl : s.data.toList.length = s.size := by rw [Array.length_toList]; rfl
  have hh := T_loops (F := F0) (fun k j (st : Nat × List ByteArray) i => spec_l08Split.l0 k j (s, (c.toNat : Int), (st.1 : Int), (i : Int), st.2)) (s.size + 1) (fun i st => st.1 ≤ i ∧ st.2.length ≤ i)
    (fun i st r => r = if i ≤ s.size then st.2 ++ splD s c st.1 (s.size - i) i else st.2) (fun i st hi hI he => by
    dsimp only [spec_l08Split.l0, spec_l08Split.s0]
    simp only [Int.toNat_natCast]
    obtain ⟨b, out⟩ := st
    obtain ⟨h1, h2⟩ := hI
    have h1 : b ≤ i := h1
    have h2 : out.length ≤ i := h2
    rw [wrs hi (by omega)]
    rw [if_pos (by omega)]
    refine T_pos (by omega) (T_beq (fun e => ?_) fun e => ?_)
    · refine T_true (by simp only [Bool.and_eq_true, decide_eq_true_eq]; omega) (T_pos (by simp only [List.length_singleton]; omega) ?_)
      have e : i = s.size := by omega
      subst e
      have he := he (s.size + 1, out ++ [s.extract b s.size]) ⟨Nat.le_refl _, by simp only [List.length_append, List.length_singleton]; omega⟩
      refine T_mono he fun r hr => ?_
      rw [hr, if_neg (by omega), Nat.sub_self]
      rfl
    · have hi2 : i < s.size := by omega
      have ed : s.size - i = (s.size - (i + 1)) + 1 := by omega
      have gi : s.data.toList[i]? = some s[i] := by rw [List.getElem?_eq_getElem (by omega)]; rfl
      refine T_byte hi2 (T_beq (fun g => ?_) fun g => ?_)
      · have gc : s[i] = c := UInt8.toNat_inj.1 (by omega)
        refine T_true (by simp only [Bool.and_eq_true, decide_eq_true_eq]; omega) (T_pos (by simp only [List.length_singleton]; omega) ?_)
        refine T_mono (he (i + 1, out ++ [s.extract b i]) ⟨Nat.le_refl _, by simp only [List.length_append, List.length_singleton]; omega⟩) fun r hr => ?_
        rw [hr, if_pos (by omega), ed, splD, gi, if_pos (by rw [gc])]
        simp
      · refine T_mono (he (b, out) ⟨by omega, by omega⟩) fun r hr => ?_
        rw [hr, if_pos (by omega), ed, splD, gi, if_neg (fun k => g (by rw [Option.some.inj k]))]) (fun st _ => by
    dsimp only [spec_l08Split.l0, spec_l08Split.s0]
    exact T_neg (by omega) (T_ret (by rw [if_neg (by omega)]))) 0 (0, []) (Nat.zero_le _) ⟨Nat.le_refl _, Nat.le_refl _⟩
  unfold spec_l08Split.f
  rw [if_pos (Nat.zero_le _)] at hh
  exact T_in (F := F0) (g := fun x j => spec_l08Split.l0 x j (s, (c.toNat : Int), (0 : Int), (0 : Int), ([] : List ByteArray))) hh (fun k => k) (fun _ _ h => h)
theorem splD_skip (s : ByteArray) (c : UInt8) (b : Nat) : ∀ (m d i : Nat), m ≤ d → (∀ k, k < m → s.data.toList[i + k]? ≠ some c) → splD s c b d i = splD s c b (d - m) (i + m)
  | 0, d, i, _, _ => rfl
  | m + 1, 0, i, h, _ => absurd h (by omega)
  | m + 1, d + 1, i, h, hk => by
    rw [splD, if_neg (show ¬ s.data.toList[i]? = some c from hk 0 (by omega)), splD_skip s c b m d (i + 1) (by omega) (fun k hk' => by rw [show i + 1 + k = i + (k + 1) from by omega]; exact hk (k + 1) (by omega))]
    rw [show d + 1 - (m + 1) = d - m from by omega, show i + 1 + m = i + (m + 1) from by omega]
/-- The first place of a byte behind a place. -/
theorem first_at (s : ByteArray) (c : UInt8) (b : Nat) (hb : b ≤ s.size) :
    (Lib.indexB (s.extract b s.size) ⟨#[c]⟩ = -1 ∧ splD s c b (s.size - b) b = [s.extract b s.size] ∧ ∀ k, b ≤ k → s.data.toList[k]? ≠ some c) ∨
    ∃ i : Nat, Lib.indexB (s.extract b s.size) ⟨#[c]⟩ = (i : Int) ∧ b + i < s.size ∧ splD s c b (s.size - b) b = s.extract b (b + i) :: splD s c (b + i + 1) (s.size - (b + i + 1)) (b + i + 1) := by
  have hl : s.data.toList.length = s.size := by rw [Array.length_toList]; rfl
  have e1 : Lib.indexB (s.extract b s.size) ⟨#[c]⟩ = Lib.indexByte (s.data.toList.drop b) c := by
    show Lib.index (s.extract b s.size).data.toList [c] = _
    rw [Lib.index_one, Lib.extract_data, List.take_of_length_le (by rw [List.length_drop]; omega)]
  have get : ∀ k, (s.data.toList.drop b)[k]? = s.data.toList[b + k]? := fun k => by rw [List.getElem?_drop]
  by_cases hn : Lib.indexByte (s.data.toList.drop b) c = -1
  · left
    have hno := Lib.indexByte_none hn
    refine ⟨by rw [e1, hn], ?_, fun k hk => by have := hno (k - b); rw [get, show b + (k - b) = k from by omega] at this; exact this⟩
    rw [splD_skip s c b (s.size - b) (s.size - b) b (Nat.le_refl _) (fun k _ => by rw [← get]; exact hno k), Nat.sub_self]
    rfl
  · right
    have hge := Lib.indexByte_ge (s.data.toList.drop b) c
    obtain ⟨i, hi⟩ : ∃ i : Nat, Lib.indexByte (s.data.toList.drop b) c = i := ⟨(Lib.indexByte (s.data.toList.drop b) c).toNat, by omega⟩
    obtain ⟨h1, h2⟩ := Lib.indexByte_some hi
    rw [get] at h1
    have hlt : b + i < s.size := by
      have := (List.getElem?_eq_some_iff.1 h1).1
      omega
    refine ⟨i, by rw [e1, hi], hlt, ?_⟩
    rw [splD_skip s c b i (s.size - b) b (by omega) (fun k hk => by rw [← get]; exact h2 k hk), show s.size - b - i = (s.size - (b + i + 1)) + 1 from by omega, splD, if_pos h1]
theorem extract_tail (s : ByteArray) (b j : Nat) (h : b + j ≤ s.size) : (s.extract b s.size).extract j (s.extract b s.size).size = s.extract (b + j) s.size := by
  rw [ByteArray.extract_extract, ByteArray.size_extract]
  congr 1
  omega
theorem extract_head (s : ByteArray) (b j : Nat) (h : b + j ≤ s.size) : (s.extract b s.size).extract 0 j = s.extract b (b + j) := by
  rw [ByteArray.extract_extract]
  congr 1
  omega
theorem splitB_eq (s : ByteArray) (c : UInt8) : ∀ (m b : Nat), s.size - b ≤ m → b ≤ s.size → Lib.splitB ⟨#[c]⟩ 0 (Lib.countB (s.extract b s.size) ⟨#[c]⟩) (s.extract b s.size) = splD s c b (s.size - b) b := by
  intro m
  induction m with
  | zero =>
    intro b hm hb
    rcases first_at s c b hb with ⟨h1, h2, _⟩ | ⟨i, h1, h2, h3⟩
    · rw [Lib.splitB_miss _ _ _ _ h1, h2]
    · omega
  | succ m ih =>
    intro b hm hb
    rcases first_at s c b hb with ⟨h1, h2, _⟩ | ⟨i, h1, h2, h3⟩
    · rw [Lib.splitB_miss _ _ _ _ h1, h2]
    · have z : (⟨#[c]⟩ : ByteArray).size = 1 := rfl
      rw [Lib.countB_hit _ _ i (by omega) h1, Nat.add_comm 1, Lib.splitB_hit _ _ _ _ i h1, h3, z, extract_tail s b (i + 1) (by omega), Nat.add_zero, extract_head s b i (by omega)]
      rw [show b + (i + 1) = b + i + 1 from by omega, ih (b + i + 1) (by omega) (by omega)]
theorem split_run (s : ByteArray) (c : UInt8) (h : s.size < 4294967281) : splitRun s ⟨#[c]⟩ = some (splM s c) := by
  unfold splitRun
  rw [if_pos ⟨h, by show 1 ≤ 1; omega⟩]
  have := splitB_eq s c s.size 0 (by omega) (by omega)
  have e : s.extract 0 s.size = s := ByteArray.extract_zero_size
  rw [e] at this
  rw [this]
  rfl
theorem cut_run (s : ByteArray) (c : UInt8) (h : s.size < 4294967281) :
    (cutRun s ⟨#[c]⟩ = some (s, ByteArray.empty, false) ∧ splM s c = [s] ∧ ∀ k : Nat, s.data.toList[k]? ≠ some c) ∨
    ∃ i : Nat, i < s.size ∧ cutRun s ⟨#[c]⟩ = some (s.extract 0 i, s.extract (i + 1) s.size, true) ∧ splM s c = s.extract 0 i :: splD s c (i + 1) (s.size - (i + 1)) (i + 1) := by
  have hl : s.data.toList.length = s.size := by rw [Array.length_toList]; rfl
  have e : s.extract 0 s.size = s := ByteArray.extract_zero_size
  have ei : Lib.index s.data.toList (⟨#[c]⟩ : ByteArray).data.toList = Lib.indexB (s.extract 0 s.size) ⟨#[c]⟩ := by rw [e]
  rcases first_at s c 0 (by omega) with ⟨h1, h2, h3⟩ | ⟨i, h1, h2, h3⟩
  · left
    refine ⟨?_, by unfold splM; rw [Nat.sub_zero] at h2; rw [h2, e], fun k => h3 k (Nat.zero_le _)⟩
    unfold cutRun Lib.cut
    rw [if_pos h, ei, h1, if_neg (by decide)]
    rfl
  · right
    rw [Nat.zero_add] at h2 h3
    refine ⟨i, h2, ?_, by unfold splM; rw [Nat.sub_zero] at h3; exact h3⟩
    unfold cutRun Lib.cut
    rw [if_pos h, ei, h1, if_pos (by omega)]
    congr 2
    · apply ByteArray.ext
      apply Array.toList_inj.mp
      rw [Lib.extract_data]
      simp
    · congr 1
      apply ByteArray.ext
      apply Array.toList_inj.mp
      rw [Lib.extract_data]
      have z : (⟨#[c]⟩ : ByteArray).data.toList.length = 1 := rfl
      simp only [Int.toNat_natCast, z]
      rw [List.take_of_length_le (by rw [List.length_drop]; omega)]

def PfxP (a n : Int) : Prop := (0 ≤ a ∧ a ≤ 4294967295) ∧ (0 ≤ n ∧ n ≤ 32) ∧ a % 2 ^ (32 - n).toNat = 0
def InP (p n a : Int) : Prop := PfxP p n ∧ (0 ≤ a ∧ a ≤ 4294967295) ∧ a - a % 2 ^ (32 - n).toNat = p
instance decPfxP (a n : Int) : Decidable (PfxP a n) := by unfold PfxP; infer_instance
instance decInP (p n a : Int) : Decidable (InP p n a) := by unfold InP; infer_instance
theorem pow_rng (m : Nat) (h : m ≤ 32) : (1 : Int) ≤ 2 ^ m ∧ (2 : Int) ^ m ≤ 4294967296 := by
  have h1 : 2 ^ m ≤ 2 ^ 32 := Nat.pow_le_pow_right (by decide) h
  have h2 : 1 ≤ 2 ^ m := Nat.one_le_two_pow
  have e : ((2 ^ m : Nat) : Int) = (2 : Int) ^ m := by simp
  omega
theorem mask_nat (i : Nat) : ((2 : Int) ^ i - 1) = ((2 ^ i - 1 : Nat) : Int) := by
  have hpn : 1 ≤ 2 ^ i := Nat.one_le_two_pow
  rw [Int.natCast_sub hpn]; simp
theorem bv_nat (a : Nat) (h : a < 18446744073709551616) : (BitVec.ofInt IntKind.i64.bits (a : Int)).toNat = a := by
  show (BitVec.ofInt 64 (a : Int)).toNat = a
  rw [BitVec.ofInt_natCast, BitVec.toNat_ofNat, Nat.mod_eq_of_lt h]
theorem and_mask (i : Nat) (hi : i ≤ 32) (x : Int) (h₀ : 0 ≤ x) (h₁ : x ≤ 4294967295) : (((BitVec.ofInt IntKind.i64.bits x) &&& (BitVec.ofInt IntKind.i64.bits (2 ^ i - 1))).toNat : Int) = x % 2 ^ i := by
  obtain ⟨a, rfl⟩ := Int.eq_ofNat_of_zero_le h₀
  have hb : 2 ^ i ≤ 2 ^ 32 := Nat.pow_le_pow_right (by decide) hi
  rw [mask_nat, BitVec.toNat_and, bv_nat a (by omega), bv_nat _ (by omega), Nat.and_two_pow_sub_one_eq_mod]
  simp
theorem andNot_mask (i : Nat) (hi : i ≤ 32) (x : Int) (h₀ : 0 ≤ x) (h₁ : x ≤ 4294967295) : (((BitVec.ofInt IntKind.i64.bits x) &&& ~~~(BitVec.ofInt IntKind.i64.bits (2 ^ i - 1))).toNat : Int) = x - x % 2 ^ i := by
  have e1 := and_mask i hi x h₀ h₁
  obtain ⟨a, rfl⟩ := Int.eq_ofNat_of_zero_le h₀
  have hb : 2 ^ i ≤ 2 ^ 32 := Nat.pow_le_pow_right (by decide) hi
  have e2 : (BitVec.ofInt IntKind.i64.bits (a : Int) &&& BitVec.ofInt IntKind.i64.bits (2 ^ i - 1)) + (BitVec.ofInt IntKind.i64.bits (a : Int) &&& ~~~ (BitVec.ofInt IntKind.i64.bits (2 ^ i - 1))) = BitVec.ofInt IntKind.i64.bits (a : Int) := by
    generalize BitVec.ofInt IntKind.i64.bits (a : Int) = u
    generalize BitVec.ofInt IntKind.i64.bits (2 ^ i - 1) = v
    rw [BitVec.add_eq_or_of_and_eq_zero]
    · ext j h
      simp
      cases (u[j]) <;> simp
    · ext j h
      simp
      cases (u[j]) <;> simp
  have e3 := congrArg BitVec.toNat e2
  rw [BitVec.toNat_add, bv_nat a (by omega)] at e3
  have h4 : (BitVec.ofInt IntKind.i64.bits (a : Int) &&& ~~~ (BitVec.ofInt IntKind.i64.bits (2 ^ i - 1))).toNat ≤ a := by
    rw [BitVec.toNat_and, bv_nat a (by omega)]
    exact Nat.and_le_left
  have h5 : (a : Int) % 2 ^ i ≤ a := by
    have : ((a % 2 ^ i : Nat) : Int) = (a : Int) % 2 ^ i := by simp
    have := Nat.mod_le a (2 ^ i)
    omega
  have h6 : 0 ≤ (a : Int) % 2 ^ i := Int.emod_nonneg _ (by have := pow_rng i hi; omega)
  have e4 : (2 : Nat) ^ IntKind.i64.bits = 18446744073709551616 := by decide
  rw [e4] at e3
  rw [Nat.mod_eq_of_lt (by omega)] at e3
  omega
theorem or_mask (i : Nat) (hi : i ≤ 32) (x : Int) (h₀ : 0 ≤ x) (h₁ : x ≤ 4294967295) (hm : x % 2 ^ i = 0) : (((BitVec.ofInt IntKind.i64.bits x) ||| (BitVec.ofInt IntKind.i64.bits (2 ^ i - 1))).toNat : Int) = x + 2 ^ i - 1 := by
  obtain ⟨a, rfl⟩ := Int.eq_ofNat_of_zero_le h₀
  have hb : 2 ^ i ≤ 2 ^ 32 := Nat.pow_le_pow_right (by decide) hi
  have hpn : 1 ≤ 2 ^ i := Nat.one_le_two_pow
  have hmn : a % 2 ^ i = 0 := by
    have : ((a % 2 ^ i : Nat) : Int) = (a : Int) % 2 ^ i := by simp
    omega
  have hd : a = 2 ^ i * (a / 2 ^ i) := by have := Nat.div_add_mod a (2 ^ i); omega
  rw [mask_nat, BitVec.toNat_or, bv_nat a (by omega), bv_nat _ (by omega), hd, ← Nat.two_pow_add_eq_or_of_lt (by omega : 2 ^ i - 1 < 2 ^ i)]
  rw [← hd]
  have : ((2 ^ i : Nat) : Int) = (2 : Int) ^ i := by simp
  omega
theorem impl_AddrOk_eq (k : Nat) (a : Int) : impl_AddrOk.f k a = some (decide (0 ≤ a ∧ a ≤ 4294967295)) := by
  unfold impl_AddrOk.f
  rw [within_eq]; rfl
theorem spec_AddrOk_eq (k : Nat) (a : Int) : spec_AddrOk.f k a = some (decide (0 ≤ a ∧ a ≤ 4294967295)) := by
  unfold spec_AddrOk.f
  rw [in_eq]; rfl
theorem lastBits_eq (k : Nat) (n : Int) (h0 : 0 ≤ n) (h1 : n ≤ 32) : impl_lastBits.f k n = some (2 ^ (32 - n).toNat - 1) := by
  unfold impl_lastBits.f
  have hp := pow_rng (32 - n).toNat (by omega)
  rw [wr64 (x := 32 - n) (by omega) (by omega), show min (32 - n).toNat IntKind.i64.bits = (32 - n).toNat from Nat.min_eq_left (by show _ ≤ 64; omega), Int.one_mul, wr64 (x := 2 ^ (32 - n).toNat) (by omega) (by omega), wr64 (by omega) (by omega)]
  have : decide (32 - n < 0) = false := decide_eq_false (by omega)
  rw [this]; rfl
theorem impl_PrefixOk_eq (k : Nat) (a n : Int) : impl_PrefixOk.f k a n = some (decide (PfxP a n)) := by
  unfold impl_PrefixOk.f
  simp only [impl_AddrOk_eq, within_eq, Option.bind_some]
  by_cases h1 : 0 ≤ a ∧ a ≤ 4294967295
  · by_cases h2 : 0 ≤ n ∧ n ≤ 32
    · have hp := pow_rng (32 - n).toNat (by omega)
      have hm0 := Int.emod_nonneg a (show (2 : Int) ^ (32 - n).toNat ≠ 0 by omega)
      have hm1 := Int.emod_lt_of_pos a (show (0 : Int) < 2 ^ (32 - n).toNat by omega)
      rw [decide_eq_true h1, decide_eq_true h2]
      simp only [cond_true, lastBits_eq k n h2.1 h2.2, Option.bind_some]
      rw [and_mask _ (by omega) a h1.1 h1.2, wr64 (by omega) (by omega)]
      congr 1
      by_cases h3 : a % 2 ^ (32 - n).toNat = 0
      · rw [decide_eq_true (show PfxP a n from ⟨h1, h2, h3⟩)]; simp [h3]
      · rw [decide_eq_false (show ¬ PfxP a n from fun c => h3 c.2.2)]; simp [h3]
    · rw [decide_eq_true h1, decide_eq_false h2, decide_eq_false (show ¬ PfxP a n from fun c => h2 c.2.1)]; rfl
  · rw [decide_eq_false h1, decide_eq_false (show ¬ PfxP a n from fun c => h1 c.1)]; rfl
theorem spec_l08Size.ev (n : Int) (h0 : 0 ≤ n) (h1 : n ≤ 32) : Tells F0 (fun k => spec_l08Size.f k n) (· = 2 ^ (32 - n).toNat) := by
  obtain ⟨m, rfl⟩ := Int.eq_ofNat_of_zero_le h0
  have hd : ∀ j : Fin 32, IntKind.i64.wrap (2 * 2 ^ j.val) = 2 ^ (j.val + 1) := by decide +kernel
  have h := T_loop (F := F0) (fun k j i => spec_l08Size.l0 k j (2 ^ i, ((m + i : Nat) : Int))) (32 - m) (fun _ r => r = 2 ^ (32 - m)) (fun i hi he => by
    dsimp only [spec_l08Size.l0, spec_l08Size.s0]
    refine T_pos (by omega) ?_
    rw [hd ⟨i, by omega⟩, wrn (by omega)]
    exact he) (by
    dsimp only [spec_l08Size.l0, spec_l08Size.s0]
    exact T_neg (by omega) (T_ret rfl)) 0 (Nat.zero_le _)
  unfold spec_l08Size.f
  rw [show (32 - (m : Int)).toNat = 32 - m by omega]
  exact T_in (g := fun x j => spec_l08Size.l0 x j _) (by simpa using h) (fun k => k) (fun _ _ h => h)
theorem spec_PrefixOk.ev (a n : Int) : Tells F0 (fun k => spec_PrefixOk.f k a n) (· = decide (PfxP a n)) := by
  unfold spec_PrefixOk.f
  simp only [spec_AddrOk_eq, in_eq, Option.bind_some]
  refine T_dec (fun h1 => T_dec (fun h2 => ?_) fun h => T_ret (decide_eq_false fun c => h c.2.1).symm) fun h => T_ret (decide_eq_false fun c => h c.1).symm
  refine T_bindE (spec_l08Size.ev n h2.1 h2.2) ?_
  have hp := pow_rng (32 - n).toNat (by omega)
  refine T_false (by simp; omega) (T_ret ?_)
  rw [Int.tmod_eq_emod_of_nonneg h1.1]
  by_cases h3 : a % 2 ^ (32 - n).toNat = 0
  · rw [decide_eq_true (show PfxP a n from ⟨h1, h2, h3⟩)]; simp [h3]
  · rw [decide_eq_false (show ¬ PfxP a n from fun c => h3 c.2.2)]; simp [h3]
/-! Words of 32 bits, as naturals. -/
def rotr (x n : Nat) : Nat := x / 2 ^ n + (x % 2 ^ n) * 2 ^ (32 - n)
theorem rotr_lt {x n : Nat} (hx : x < 4294967296) (hn : n ≤ 32) : rotr x n < 4294967296 := by
  unfold rotr
  have h1 : x / 2 ^ n < 2 ^ (32 - n) := by
    rw [Nat.div_lt_iff_lt_mul (Nat.two_pow_pos n), ← Nat.pow_add]
    rw [show 32 - n + n = 32 from by omega]
    exact hx
  have h2 : x % 2 ^ n + 1 ≤ 2 ^ n := Nat.mod_lt _ (Nat.two_pow_pos n)
  have h3 := Nat.mul_le_mul_right (2 ^ (32 - n)) h2
  rw [← Nat.pow_add, show n + (32 - n) = 32 from by omega, Nat.add_mul] at h3
  omega
theorem rotr_or {x n : Nat} (hx : x < 4294967296) (hn : n ≤ 32) : (x / 2 ^ n ||| x * 2 ^ (32 - n)) % 4294967296 = rotr x n := by
  have h1 : x / 2 ^ n < 2 ^ (32 - n) := by
    rw [Nat.div_lt_iff_lt_mul (Nat.two_pow_pos n), ← Nat.pow_add]
    rw [show 32 - n + n = 32 from by omega]
    exact hx
  have h2 : x / 2 ^ n ||| x * 2 ^ (32 - n) = 2 ^ (32 - n) * x + x / 2 ^ n := by
    rw [Nat.two_pow_add_eq_or_of_lt h1, Nat.mul_comm x, Nat.or_comm]
  rw [h2]
  have h3 : 2 ^ (32 - n) * x = 4294967296 * (x / 2 ^ n) + (x % 2 ^ n) * 2 ^ (32 - n) := by
    have e : (4294967296 : Nat) = 2 ^ (32 - n) * 2 ^ n := by rw [← Nat.pow_add, show 32 - n + n = 32 from by omega]
    rw [e, Nat.mul_assoc, Nat.mul_comm (x % 2 ^ n), ← Nat.mul_add, Nat.div_add_mod]
  have h4 := rotr_lt hx hn
  unfold rotr at h4 ⊢
  omega
theorem xor64 {a b : Nat} (ha : a < 4294967296) (hb : b < 4294967296) : IntKind.i64.wrap (((BitVec.ofInt IntKind.i64.bits (a : Int)) ^^^ (BitVec.ofInt IntKind.i64.bits (b : Int))).toNat : Int) = ((a ^^^ b : Nat) : Int) := by
  show IntKind.i64.wrap (((BitVec.ofInt 64 (a : Int)) ^^^ (BitVec.ofInt 64 (b : Int))).toNat : Int) = _
  rw [BitVec.toNat_xor, BitVec.ofInt_natCast, BitVec.ofInt_natCast, BitVec.toNat_ofNat, BitVec.toNat_ofNat, Nat.mod_eq_of_lt (show a < 2 ^ 64 by omega), Nat.mod_eq_of_lt (show b < 2 ^ 64 by omega)]
  have := Nat.xor_lt_two_pow (n := 32) ha hb
  exact wr64 (by omega) (by omega)
theorem xor_lt {a b : Nat} (ha : a < 4294967296) (hb : b < 4294967296) : a ^^^ b < 4294967296 := Nat.xor_lt_two_pow (n := 32) ha hb
theorem and64 {a b : Nat} (ha : a < 9223372036854775808) (hb : b < 4294967296) : IntKind.i64.wrap (((BitVec.ofInt IntKind.i64.bits (a : Int)) &&& (BitVec.ofInt IntKind.i64.bits (b : Int))).toNat : Int) = ((a &&& b : Nat) : Int) := by
  show IntKind.i64.wrap (((BitVec.ofInt 64 (a : Int)) &&& (BitVec.ofInt 64 (b : Int))).toNat : Int) = _
  rw [BitVec.toNat_and, BitVec.ofInt_natCast, BitVec.ofInt_natCast, BitVec.toNat_ofNat, BitVec.toNat_ofNat, Nat.mod_eq_of_lt (show a < 2 ^ 64 by omega), Nat.mod_eq_of_lt (show b < 2 ^ 64 by omega)]
  have := Nat.and_le_right (n := a) (m := b)
  exact wr64 (by omega) (by omega)
theorem and_lt {a b : Nat} (hb : b < 4294967296) : a &&& b < 4294967296 := Nat.lt_of_le_of_lt Nat.and_le_right hb
theorem mask64 {a : Nat} (ha : a < 9223372036854775808) : IntKind.i64.wrap (((BitVec.ofInt IntKind.i64.bits (a : Int)) &&& (BitVec.ofInt IntKind.i64.bits (4294967295 : Int))).toNat : Int) = ((a % 4294967296 : Nat) : Int) := by
  have h := and64 ha (b := 4294967295) (by omega)
  rw [show a &&& 4294967295 = a % 4294967296 from Nat.and_two_pow_sub_one_eq_mod a 32] at h
  exact h
theorem or64 {a b : Nat} (ha : a < 9223372036854775808) (hb : b < 9223372036854775808) : IntKind.i64.wrap (((BitVec.ofInt IntKind.i64.bits (a : Int)) ||| (BitVec.ofInt IntKind.i64.bits (b : Int))).toNat : Int) = ((a ||| b : Nat) : Int) := by
  show IntKind.i64.wrap (((BitVec.ofInt 64 (a : Int)) ||| (BitVec.ofInt 64 (b : Int))).toNat : Int) = _
  rw [BitVec.toNat_or, BitVec.ofInt_natCast, BitVec.ofInt_natCast, BitVec.toNat_ofNat, BitVec.toNat_ofNat, Nat.mod_eq_of_lt (show a < 2 ^ 64 by omega), Nat.mod_eq_of_lt (show b < 2 ^ 64 by omega)]
  have := Nat.or_lt_two_pow (n := 63) (x := a) (y := b) (by omega) (by omega)
  exact wr64 (by omega) (by omega)
theorem or_lt63 {a b : Nat} (ha : a < 9223372036854775808) (hb : b < 9223372036854775808) : a ||| b < 9223372036854775808 := Nat.or_lt_two_pow (n := 63) ha hb
theorem wr32 (a : Nat) : IntKind.u32.wrap (a : Int) = ((a % 4294967296 : Nat) : Int) := by
  have e : IntKind.u32.wrap (a : Int) = if (false && decide ((a : Int) % 4294967296 ≥ 2147483648)) = true then (a : Int) % 4294967296 - 4294967296 else (a : Int) % 4294967296 := by kernel_rfl
  rw [e]
  simp
theorem xor32 {a b : Nat} (ha : a < 4294967296) (hb : b < 4294967296) : IntKind.u32.wrap (((BitVec.ofInt IntKind.u32.bits (a : Int)) ^^^ (BitVec.ofInt IntKind.u32.bits (b : Int))).toNat : Int) = ((a ^^^ b : Nat) : Int) := by
  show IntKind.u32.wrap (((BitVec.ofInt 32 (a : Int)) ^^^ (BitVec.ofInt 32 (b : Int))).toNat : Int) = _
  rw [BitVec.toNat_xor, BitVec.ofInt_natCast, BitVec.ofInt_natCast, BitVec.toNat_ofNat, BitVec.toNat_ofNat, Nat.mod_eq_of_lt (show a < 2 ^ 32 by omega), Nat.mod_eq_of_lt (show b < 2 ^ 32 by omega), wr32, Nat.mod_eq_of_lt (xor_lt ha hb)]
theorem and32 {a b : Nat} (ha : a < 4294967296) (hb : b < 4294967296) : IntKind.u32.wrap (((BitVec.ofInt IntKind.u32.bits (a : Int)) &&& (BitVec.ofInt IntKind.u32.bits (b : Int))).toNat : Int) = ((a &&& b : Nat) : Int) := by
  show IntKind.u32.wrap (((BitVec.ofInt 32 (a : Int)) &&& (BitVec.ofInt 32 (b : Int))).toNat : Int) = _
  rw [BitVec.toNat_and, BitVec.ofInt_natCast, BitVec.ofInt_natCast, BitVec.toNat_ofNat, BitVec.toNat_ofNat, Nat.mod_eq_of_lt (show a < 2 ^ 32 by omega), Nat.mod_eq_of_lt (show b < 2 ^ 32 by omega), wr32, Nat.mod_eq_of_lt (and_lt hb)]
theorem not32 {a : Nat} (ha : a < 4294967296) : IntKind.u32.wrap ((4294967295 : Int) - (a : Int)) = ((4294967295 - a : Nat) : Int) := by
  rw [show (4294967295 : Int) - (a : Int) = ((4294967295 - a : Nat) : Int) from by omega, wr32, Nat.mod_eq_of_lt (by omega)]
theorem xor_not {a : Nat} (ha : a < 4294967296) : 4294967295 ^^^ a = 4294967295 - a := by
  have h := BitVec.toNat_not (x := BitVec.ofNat 32 a)
  rw [BitVec.toNat_ofNat, Nat.mod_eq_of_lt (show a < 2 ^ 32 by omega)] at h
  have h2 : (~~~ (BitVec.ofNat 32 a)).toNat = (BitVec.allOnes 32 ^^^ BitVec.ofNat 32 a).toNat := by rw [BitVec.allOnes_xor]
  rw [BitVec.toNat_xor, BitVec.toNat_allOnes, BitVec.toNat_ofNat, Nat.mod_eq_of_lt (show a < 2 ^ 32 by omega)] at h2
  have h3 : 2 ^ 32 - 1 ^^^ a = 2 ^ 32 - 1 - a := h2.symm.trans h
  exact h3

/-! Addresses that are read. -/
def raS (p : ByteArray × Unit) : ByteArray := p.1
noncomputable def raL : List ByteArray → Nat → Option Nat
  | [], a => some a
  | p :: r, a => if (rdM p).2 = true ∧ (rdM p).1 ≤ 255 then raL r (256 * a + (rdM p).1.toNat) else none
noncomputable def raM (s : ByteArray) : Int × Bool := if (splM s 46).length = 4 then (match raL (splM s 46) 0 with | some a => ((a : Int), true) | none => (0, false)) else (0, false)
theorem rdM_range (s : ByteArray) : 0 ≤ (rdM s).1 ∧ (rdM s).1 ≤ 1000000000 := by
  by_cases h : ∃ n : Nat, n ≤ 1000000000 ∧ s = decB n
  · obtain ⟨n, hn, rfl⟩ := h
    rw [rdM_yes hn]
    exact ⟨by show (0 : Int) ≤ (n : Int); omega, by show (n : Int) ≤ 1000000000; omega⟩
  · rw [rdM_no h]
    exact ⟨Int.le_refl _, by decide⟩
theorem raL_drop {l : List ByteArray} {i : Nat} (h : i < l.length) (a : Nat) : raL (l.drop i) a = if (rdM l[i]).2 = true ∧ (rdM l[i]).1 ≤ 255 then raL (l.drop (i + 1)) (256 * a + (rdM l[i]).1.toNat) else none := by
  rw [List.drop_eq_getElem_cons h]
  rfl
def raR : Option Nat → Int × Bool | some a => ((a : Int), true) | none => (0, false)
theorem spec_ReadAddr.ev (s : ByteArray) (h : s.size ≤ 1000000000) : Tells F0 (fun k => spec_ReadAddr.f k s) (· = raM s) := by
  unfold spec_ReadAddr.f raM
  refine T_bindE (spec_l08Split.ev s 46 h) (T_bne (fun e => T_ret (by rw [if_neg (by omega)])) fun e => ?_)
  have e4 : (splM s 46).length = 4 := by omega
  rw [if_pos e4]
  have hz : ∀ x ∈ splM s 46, ByteArray.size x ≤ s.size := splD_size s 46 _ _ _
  have hh := T_loops (F := F0) (fun k j (a : Nat) i => spec_ReadAddr.l0 k j ((a : Int), (i : Int), splM s 46)) 4 (fun i a => a < 256 ^ i) (fun i a r => r = raR (raL ((splM s 46).drop i) a)) (fun i a hi hI he => by
    dsimp only [spec_ReadAddr.l0, spec_ReadAddr.s0]
    simp only [Int.toNat_natCast]
    have hi' : i < (splM s 46).length := by omega
    rw [wrs hi (by omega), raL_drop hi']
    have hr := rdM_range (splM s 46)[i]
    have hp : 256 ^ i ≤ 256 ^ 3 := Nat.pow_le_pow_right (by omega) (by omega)
    have hsz := hz _ (List.getElem_mem hi')
    refine T_pos (by omega) (T_get hi' (T_bindE (T_call (spec_ReadDecimal.ev _ (by omega)) Prod.fst (fun _ _ h => h.1)) ?_))
    cases hb : (rdM (splM s 46)[i]).2 with
    | false => exact T_true rfl (T_ret (by rw [if_neg (fun k => by cases k.1)]; rfl))
    | true =>
      refine T_false rfl (T_dec (fun g => T_ret (by rw [if_neg (fun k => by omega)]; rfl)) fun g => ?_)
      rw [if_pos ⟨rfl, by omega⟩]
      generalize (rdM (splM s 46)[i]).1 = v at hr g
      have e1 : IntKind.i64.wrap ((IntKind.i64.wrap ((256 : Int) * (a : Int))) + v) = ((256 * a + v.toNat : Nat) : Int) := by
        rw [wr64 (x := (256 : Int) * (a : Int)) (by omega) (by omega), wr64 (by omega) (by omega)]
        omega
      rw [e1]
      exact he _ (by rw [Nat.pow_succ]; omega)) (fun a hI => by
    dsimp only [spec_ReadAddr.l0, spec_ReadAddr.s0]
    refine T_neg (by omega) (T_ret ?_)
    rw [List.drop_of_length_le (by omega)]
    rfl) 0 0 (Nat.zero_le _) (by simp)
  rw [List.drop_zero] at hh
  have e5 : raR (raL (splM s 46) 0) = (match raL (splM s 46) 0 with | some a => ((a : Int), true) | none => (0, false)) := by cases raL (splM s 46) 0 <;> rfl
  rw [e5] at hh
  exact T_in (F := F0) (g := fun x j => spec_ReadAddr.l0 x j ((0 : Int), (0 : Int), splM s 46)) hh (fun k => k) (fun _ _ h => h)
theorem impl_or {a n : Nat} (ha : a < 16777216) (hn : n ≤ 255) : IntKind.i64.wrap (((BitVec.ofInt IntKind.i64.bits (IntKind.i64.wrap ((a : Int) * 2 ^ 8))) ||| (BitVec.ofInt IntKind.i64.bits (n : Int))).toNat : Int) = ((256 * a + n : Nat) : Int) := by
  have e1 : (a : Int) * 2 ^ 8 = ((a * 256 : Nat) : Int) := by simp
  rw [e1, wr64 (x := ((a * 256 : Nat) : Int)) (by omega) (by omega), or64 (a := a * 256) (b := n) (by omega) (by omega)]
  have e2 : a * 256 ||| n = 256 * a + n := by
    rw [show a * 256 = 2 ^ 8 * a from Nat.mul_comm _ _]
    exact (Nat.two_pow_add_eq_or_of_lt (by omega) a).symm
  rw [e2]
theorem impl_ReadAddr.ev (s : ByteArray) (h : s.size ≤ 1000000000) : Tells F0 (fun k => impl_ReadAddr.f k s) (· = raM s) := by
  unfold impl_ReadAddr.f raM
  have hz : ∀ x ∈ splM s 46, ByteArray.size x ≤ s.size := splD_size s 46 _ _ _
  have hln := splD_len s 46 s.size 0 0
  have hln : 1 ≤ (splM s 46).length ∧ (splM s 46).length ≤ s.size + 1 := hln
  refine T_bindE (T_is (v := splM s 46) fun k => by unfold strings_Split.f; exact split_run s 46 (by omega)) ?_
  by_cases e4 : (splM s 46).length = 4
  · rw [if_pos e4]
    have hh := T_loops (F := F0) (fun k j (a : Nat) i => impl_ReadAddr.l0 k j ((a : Int), ((splM s 46).length : Int), (i : Int), splM s 46, splM s 46)) 4 (fun i a => a < 256 ^ i) (fun i a r => r = raR (raL ((splM s 46).drop i) a)) (fun i a hi hI he => by
      dsimp only [impl_ReadAddr.l0, impl_ReadAddr.s0]
      simp only [Int.toNat_natCast]
      have hi' : i < (splM s 46).length := by omega
      rw [wrs hi (by omega), raL_drop hi']
      have hr := rdM_range (splM s 46)[i]
      have hp : 256 ^ i ≤ 256 ^ 3 := Nat.pow_le_pow_right (by omega) (by omega)
      have hsz := hz _ (List.getElem_mem hi')
      refine T_pos (by omega) (T_get hi' (T_bindE (T_call (impl_ReadDecimal.ev _ (by omega)) Prod.fst (fun _ _ h => h.1)) ?_))
      cases hb : (rdM (splM s 46)[i]).2 with
      | false => exact T_true rfl (T_ret (by rw [if_neg (fun k => by cases k.1)]; rfl))
      | true =>
        refine T_false rfl (T_dec (fun g => T_ret (by rw [if_neg (fun k => by omega)]; rfl)) fun g => T_false (by rw [e4]; rfl) ?_)
        rw [if_pos ⟨rfl, by omega⟩]
        generalize (rdM (splM s 46)[i]).1 = v at hr g
        obtain ⟨n, rfl⟩ : ∃ n : Nat, v = (n : Int) := ⟨v.toNat, by omega⟩
        rw [impl_or (by omega) (by omega), Int.toNat_natCast]
        exact he _ (by rw [Nat.pow_succ]; omega)) (fun a hI => by
      dsimp only [impl_ReadAddr.l0, impl_ReadAddr.s0]
      refine T_neg (by omega) (T_ret ?_)
      rw [List.drop_of_length_le (by omega)]
      rfl) 0 0 (Nat.zero_le _) (by simp)
    rw [List.drop_zero] at hh
    have e5 : raR (raL (splM s 46) 0) = (match raL (splM s 46) 0 with | some a => ((a : Int), true) | none => (0, false)) := by cases raL (splM s 46) 0 <;> rfl
    rw [e5] at hh
    exact T_in (F := F0) (g := fun x j => impl_ReadAddr.l0 x j ((0 : Int), ((splM s 46).length : Int), (0 : Int), splM s 46, splM s 46)) hh (fun k => k) (fun _ _ h => h)
  · rw [if_neg e4]
    refine T_in (F := F0) (g := fun x j => impl_ReadAddr.l0 x j ((0 : Int), ((splM s 46).length : Int), (0 : Int), splM s 46, splM s 46)) ?_ (fun k => k) (fun _ _ h => h)
    refine T_step (g := fun x j => impl_ReadAddr.l0 x j ((0 : Int), ((splM s 46).length : Int), (0 : Int), splM s 46, splM s 46)) ?_
    dsimp only [impl_ReadAddr.l0, impl_ReadAddr.s0]
    have h0 : 0 < (splM s 46).length := by omega
    have hsz := hz _ (List.getElem_mem h0)
    refine T_pos (by omega) (T_get (i := 0) h0 (T_bindE (T_call (impl_ReadDecimal.ev _ (by omega)) Prod.fst (fun _ _ h => h.1)) ?_))
    refine T_bif (fun _ => T_ret rfl) fun _ => T_dec (fun _ => T_ret rfl) fun _ => T_true (by simp only [bne_iff_ne, ne_eq]; omega) (T_ret rfl)
/-! Prefixes that are read. -/
open Classical in
noncomputable def rpA (a t : ByteArray) : Int × Int × Bool := if (raM a).2 = true ∧ (rdM t).2 = true ∧ PfxP (raM a).1 (rdM t).1 then ((raM a).1, (rdM t).1, true) else (0, 0, false)
open Classical in
noncomputable def rpM (s : ByteArray) : Int × Int × Bool := match cutRun s ⟨#[47]⟩ with | some r => rpA r.1 r.2.1 | none => (0, 0, false)
theorem rd_slash {t : ByteArray} {k : Nat} (h : t.data.toList[k]? = some 47) : rdM t = (0, false) := by
  refine rdM_no ?_
  rintro ⟨n, _, rfl⟩
  have := digits_range n 47 (List.mem_of_getElem? (by rw [← decB_toList]; exact h))
  have e : (47 : UInt8).toNat = 47 := rfl
  omega
theorem rd_empty : rdM ByteArray.empty = (0, false) := by
  refine rdM_no ?_
  rintro ⟨n, _, e⟩
  have := congrArg (fun b : ByteArray => b.data.toList) e
  exact decDigits_ne n this.symm
theorem impl_ReadPrefix.ev (s : ByteArray) (h : s.size ≤ 1000000000) : Tells F0 (fun k => impl_ReadPrefix.f k s) (· = rpM s) := by
  unfold impl_ReadPrefix.f rpM
  have key : ∀ r : ByteArray × ByteArray × Bool, r.1.size ≤ s.size → r.2.1.size ≤ s.size → cutRun s ⟨#[47]⟩ = some r → Tells F0 (fun k => (strings_Cut.f k s (⟨#[47]⟩ : ByteArray)).bind fun r1 => (impl_ReadAddr.f k r1.1).bind fun r2 => (impl_ReadDecimal.f k r1.2.1).bind fun r3 => (bif (!r2.2) then some ((0 : Int), (0 : Int), false) else (bif (!r3.2) then some ((0 : Int), (0 : Int), false) else (impl_PrefixOk.f k r2.1 r3.1).bind fun r4 => (bif (!r4) then some ((0 : Int), (0 : Int), false) else some (r2.1, r3.1, true))))) (· = rpA r.1 r.2.1) := by
    intro r h1 h2 hr
    refine T_bindE (T_is (v := r) fun k => by unfold strings_Cut.f; exact hr) (T_bindE (impl_ReadAddr.ev r.1 (by omega)) (T_bindE (impl_ReadDecimal.ev r.2.1 (by omega)) ?_))
    simp only [impl_PrefixOk_eq, Option.bind_some]
    unfold rpA
    cases ha : (raM r.1).2 with
    | false => exact T_true rfl (T_ret (by rw [if_neg (fun k => by cases k.1)]))
    | true =>
      refine T_false rfl ?_
      cases hd : (rdM r.2.1).2 with
      | false => exact T_true rfl (T_ret (by rw [if_neg (fun k => by cases k.2.1)]))
      | true => exact T_false rfl (T_ndec (fun g => T_ret (by rw [if_pos ⟨rfl, rfl, g⟩])) fun g => T_ret (by rw [if_neg (fun k => g k.2.2)]))
  rcases cut_run s 47 (by omega) with ⟨h1, _, _⟩ | ⟨i, hi, h1, _⟩
  · rw [h1]
    exact key _ (Nat.le_refl _) (Nat.zero_le _) h1
  · rw [h1]
    exact key _ (by rw [ByteArray.size_extract]; omega) (by rw [ByteArray.size_extract]; omega) h1
theorem spec_ReadPrefix.ev (s : ByteArray) (h : s.size ≤ 1000000000) : Tells F0 (fun k => spec_ReadPrefix.f k s) (· = rpM s) := by
  unfold spec_ReadPrefix.f rpM
  refine T_bindE (spec_l08Split.ev s 47 h) ?_
  rcases cut_run s 47 (by omega) with ⟨h1, h2, _⟩ | ⟨i, hi, h1, h2⟩
  · rw [h1, h2]
    refine T_true rfl (T_ret ?_)
    show _ = rpA s ByteArray.empty
    unfold rpA
    rw [rd_empty, if_neg (fun k => by cases k.2.1)]
  · rw [h1, h2]
    show Tells F0 _ (· = rpA (s.extract 0 i) (s.extract (i + 1) s.size))
    have hl := splD_len s 47 (s.size - (i + 1)) (i + 1) (i + 1)
    rcases first_at s 47 (i + 1) (by omega) with ⟨_, h3, _⟩ | ⟨j, hj, hjs, h3⟩
    · rw [h3]
      refine T_false rfl (T_true rfl ?_)
      simp only [List.getElem?_cons_zero, Option.bind_some]
      refine T_bindE (spec_ReadAddr.ev _ (by rw [ByteArray.size_extract]; omega)) (T_true rfl ?_)
      simp only [List.getElem?_cons_succ, List.getElem?_cons_zero, Option.bind_some]
      refine T_bindE (spec_ReadDecimal.ev _ (by rw [ByteArray.size_extract]; omega)) ?_
      unfold rpA
      cases ha : (raM (s.extract 0 i)).2 with
      | false => exact T_true rfl (T_ret (by rw [if_neg (fun k => by cases k.1)]))
      | true =>
        refine T_false rfl ?_
        cases hd : (rdM (s.extract (i + 1) s.size)).2 with
        | false => exact T_true rfl (T_ret (by rw [if_neg (fun k => by cases k.2.1)]))
        | true => exact T_false rfl (T_bindE (spec_PrefixOk.ev _ _) (T_ndec (fun g => T_ret (by rw [if_pos ⟨rfl, rfl, g⟩])) fun g => T_ret (by rw [if_neg (fun k => g k.2.2)])))
    · refine T_true ?_ (T_ret ?_)
      · rw [h3]
        have := splD_len s 47 (s.size - (i + 1 + j + 1)) (i + 1 + j + 1) (i + 1 + j + 1)
        simp only [bne_iff_ne, ne_eq, List.length_cons]
        omega
      · unfold rpA
        have e1 : Lib.indexByte (s.extract (i + 1) s.size).data.toList 47 = (j : Int) := by
          rw [← Lib.index_one]
          exact hj
        have := rd_slash (Lib.indexByte_some e1).1
        rw [this, if_neg (fun k => by cases k.2.1)]

theorem FnExactReadPrefix : laws_FnExactReadPrefix.Goal := by
  intro s _
  refine Tells.rounds ?_
  unfold laws_FnExactReadPrefix.f
  refine T_dec (fun _ => T_ret rfl) fun h1 => ?_
  refine T_bindE (spec_ReadPrefix.ev s (by omega)) (T_bindE (impl_ReadPrefix.ev s (by omega)) ?_)
  simp only [laws_eqPrefix.refl, Option.bind_some]
  exact T_false rfl (T_false (by simp) (T_ret rfl))

end Go.Proofs.YtpheniajdbbphaaDoor.DI.Pure
