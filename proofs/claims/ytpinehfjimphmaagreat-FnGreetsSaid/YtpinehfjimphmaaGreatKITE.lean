/- Plain laws, more rules: rows, counters, rows that are marked. -/
import Derived.Test.YtpinehfjimphmaaGreatKITD
namespace Go.Proofs.YtpinehfjimphmaaGreat.DI.Pure
open Go Go.RowKit
set_option linter.unusedVariables false
theorem wrn {a : Nat} (h : a + 1 ≤ 9223372036854775807) : IntKind.i64.wrap ((a : Int) + 1) = ((a + 1 : Nat) : Int) := by rw [wr64 (by omega) (by omega)]; rfl
theorem T_lift {ι α : Type} {F : Fu ι} {g : ι → Option α} {P : α → Prop} (h : Tells F g P) : Tells (FS F) (fun x => g x.1) P := by
  obtain ⟨r, hr, K, h⟩ := h
  exact ⟨r, hr, K, fun x hx => h _ hx.1⟩
section
variable {ι α β : Type} {F : Fu ι} {P : α → Prop}
theorem T_bindE {g : ι → Option β} {f : ι → β → Option α} {v : β} (h : Tells F g (· = v)) (k : Tells F (fun x => f x v) P) : Tells F (fun x => (g x).bind (f x)) P := T_bind h (by rintro _ rfl; exact k)
/-- A row is read at a place. -/
theorem T_get {l : List β} {i : Nat} {f : ι → β → Option α} {g : ι → Option α} (h : i < l.length) (hf : Tells F (fun x => f x l[i]) P) : Tells F (fun x => bif (decide ((0 : Int) ≤ (i : Int)) && decide ((i : Int) < (l.length : Int))) then (l[i]?).bind (f x) else g x) P := by
  refine T_and (by omega) (by omega) ?_
  simp only [List.getElem?_eq_getElem h, Option.bind_some]
  exact hf
/-- The place that was just written. -/
theorem T_got {l : List β} {i : Nat} {v : β} {f : ι → β → Option α} {g : ι → Option α} (h : i < l.length) (hf : Tells F (fun x => f x v) P) : Tells F (fun x => bif (decide ((0 : Int) ≤ (i : Int)) && decide ((i : Int) < ((l.set i v).length : Int))) then ((l.set i v)[i]?).bind (f x) else g x) P := by
  refine T_get (by simpa using h) ?_
  simpa using hf
end
section
variable {ι α β : Type} {F : Fu ι} {P : α → Prop}
/-- A text is read at a place. -/
theorem T_byte {s : ByteArray} {i : Nat} {f : ι → UInt8 → Option α} {g : ι → Option α} (h : i < s.size) (hf : Tells F (fun x => f x s[i]) P) : Tells F (fun x => bif decide ((0 : Int) ≤ (i : Int)) then (s[i]?).bind (f x) else g x) P := by
  refine T_pos (by omega) ?_
  have e : s[i]? = some s[i] := getElem?_pos s i h
  simp only [e, Option.bind_some]
  exact hf
end
/-- A test of all places of a row. -/
theorem T_alls {ι β : Type} {F : Fu ι} (g : ι → Nat → Nat → Option Bool) (l : List β) (c : β → Bool) (X : Bool)
    (body : ∀ i (hi : i < l.length), ∀ P : Bool → Prop, (c l[i] = true → Tells (FS F) (fun x => g x.1 x.2 (i + 1)) P) → (c l[i] = false → P false) → Tells (FS F) (fun x => g x.1 (x.2 + 1) i) P)
    (hf : Tells (FS F) (fun x => g x.1 (x.2 + 1) l.length) (· = X)) : Tells (FS F) (fun x => g x.1 x.2 0) (· = (l.all c && X)) := by
  refine T_loop g l.length (fun i r => r = ((l.drop i).all c && X)) (fun i hi he => ?_) (T_mono hf fun r hr => by rw [hr, List.drop_length]; rfl) 0 (Nat.zero_le _)
  rw [List.drop_eq_getElem_cons hi]
  refine body i hi _ (fun hc => ?_) (fun hc => ?_)
  · rw [List.all_cons, hc, Bool.true_and]; exact he
  · rw [List.all_cons, hc]; rfl
/-- A loop within: each place is so, or the answer is known. -/
theorem T_inner {ι α : Type} {F : Fu ι} {P : α → Prop} (g : ι → Nat → Nat → Option α) (n : Nat) (C : Nat → Prop)
    (body : ∀ i, i < n → (∀ m, m < i → C m) → (C i → Tells (FS F) (fun x => g x.1 x.2 (i + 1)) P) → Tells (FS F) (fun x => g x.1 (x.2 + 1) i) P)
    (good : (∀ m, m < n → C m) → Tells (FS F) (fun x => g x.1 (x.2 + 1) n) P) : Tells (FS F) (fun x => g x.1 x.2 0) P :=
  T_loops (fun x j (_ : Unit) i => g x j i) n (fun i _ => ∀ m, m < i → C m) (fun _ _ => P) (fun i _ hi hI he => body i hi hI (fun hc => he () (fun m hm => by
    by_cases e : m = i
    · exact e ▸ hc
    · exact hI m (by omega)))) (fun _ hI => good hI) 0 () (Nat.zero_le _) (fun m hm => absurd hm (by omega))
/-- The first place of a row that is so. -/
theorem find_step {β : Type} (p : β → Bool) (l : List β) (i : Nat) (h : i < l.length) : (l.drop i).find? p = if p l[i] then some l[i] else (l.drop (i + 1)).find? p := by
  rw [List.drop_eq_getElem_cons h, List.find?_cons]
  cases p l[i] <;> rfl
theorem mark_step {α : Type} (M l : List α) (i : Nat) (v : α) (hl : M.length = l.length) (h : i < l.length) (hv : M[i]? = some v) : (M.take i ++ l.drop i).set i v = M.take (i + 1) ++ l.drop (i + 1) := by
  have h1 : (M.take i).length = i := by simp; omega
  rw [List.set_append_right _ _ (by omega), h1, Nat.sub_self, List.drop_eq_getElem_cons h, List.set_cons_zero, List.take_add_one, hv]
  simp
theorem beq_bytes (a : ByteArray) : (a.toList == a.toList) = true := by simp
theorem bytes_toList_inj {a b : ByteArray} (h : a.toList = b.toList) : a = b := by
  rw [ByteArray.toList_eq, ByteArray.toList_eq] at h
  exact ByteArray.ext (Array.toList_inj.mp h)
theorem beq_bytes_iff (a b : ByteArray) : (a.toList == b.toList) = decide (a = b) := by
  by_cases h : a = b
  · subst h; simp
  · have : a.toList ≠ b.toList := fun k => h (bytes_toList_inj k)
    simp [h, this]
theorem wf64 {x : Int} (h : (Lit.int .i64 x).wf = true) : -9223372036854775808 ≤ x ∧ x ≤ 9223372036854775807 := by
  have h' : IntKind.i64.min ≤ x ∧ x ≤ IntKind.i64.max := by simpa [Lit.wf] using h
  exact h'
end Go.Proofs.YtpinehfjimphmaaGreat.DI.Pure
