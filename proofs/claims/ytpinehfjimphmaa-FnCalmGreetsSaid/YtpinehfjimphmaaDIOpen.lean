/- What reads as data opens as a plain Lean value of its kind, for the machine of values. -/
import Derived.Test.YtpinehfjimphmaaDIRoot
namespace Go.Proofs.Ytpinehfjimphmaa.DI
open Go Go.RowKit Go.ChangeShapes Go.WideShapes
set_option linter.unusedVariables false
set_option linter.unusedSimpArgs false
/-- What reads as data of type t is a value of kind ty that is ok. -/
structure OpT (P : Program) (t : TypeId) (ty : Ty) (ok : ty.den → Prop) : Prop where
  sz : P.cellsOf t = ty.size
  op : ∀ {H : Type} {enc : TypeId × Value → H} {w : World} {base : Nat} {spare : Nat → Bool} {held : Bool} {fuel : Nat} {cs : List Value} {x : DataW H × List MemPlace},
    DataW.trod enc P w base spare held fuel t cs = some x → (∀ n ∈ x.1.weights P t, n ≤ reachBytes) → ∃ y, RepC w (fun b => b < w.heap.size) ty y cs ∧ ok y
theorem opt_int {P : Program} {t : TypeId} {k : IntKind} (ht : P.underlying t = some (.int k)) (hc : P.cellsOf t = 1) : OpT P t (.int k) (fun n => (Lit.int k n).wf = true) where
  sz := hc
  op := fun h _ => by
    obtain ⟨n, rfl, _, hw⟩ := DataW.trod_int ht h
    exact ⟨n, rfl, hw⟩
theorem opt_bool {P : Program} {t : TypeId} (ht : P.underlying t = some .bool) (hc : P.cellsOf t = 1) : OpT P t .bool (fun _ => True) where
  sz := hc
  op := fun h _ => by
    obtain ⟨n, rfl, _⟩ := DataW.trod_bool ht h
    exact ⟨n, rfl, trivial⟩
theorem opt_string {P : Program} {t : TypeId} (ht : P.underlying t = some .string) (hc : P.cellsOf t = 1) : OpT P t .str (fun s => s.size ≤ 140737488351232) where
  sz := hc
  op := fun h hw => by
    obtain ⟨s, rfl, rfl, _⟩ := DataW.trod_string ht h
    refine ⟨s, rfl, ?_⟩
    have := hw s.data.toList.length (by simp [DataW.weights])
    simpa [reachBytes] using this
theorem addr_add (a : Addr) (x y : Nat) : (a.add x).add y = a.add (x + y) := by
  unfold Addr.add
  by_cases hx : x = 0
  · simp [hx]
  · by_cases hy : y = 0
    · simp [hx, hy]
    · simp [hx, hy]
      omega
theorem choose_list {α : Type} (n : Nat) (Q : Nat → α → Prop) (h : ∀ i, i < n → ∃ y, Q i y) : ∃ ys : List α, ys.length = n ∧ ∀ i y, ys[i]? = some y → Q i y := by
  induction n with
  | zero => exact ⟨[], rfl, fun i y hy => by simp at hy⟩
  | succ n ih =>
    obtain ⟨ys, hl, hq⟩ := ih (fun i hi => h i (by omega))
    obtain ⟨y, hy⟩ := h n (by omega)
    refine ⟨ys ++ [y], by simp [hl], fun i z hz => ?_⟩
    rcases Nat.lt_or_ge i ys.length with hi | hi
    · rw [List.getElem?_append_left hi] at hz
      exact hq i z hz
    · have hi' : i = ys.length := by
        have := (List.getElem?_eq_some_iff.1 hz).1
        simp at this
        omega
      subst hi'
      rw [List.getElem?_append_right (Nat.le_refl _)] at hz
      simp at hz
      subst hz
      rw [hl]
      exact hy
theorem weightsAll_mem {H : Type} {P : Program} {e : TypeId} {ds : List (DataW H)} {d : DataW H} (hd : d ∈ ds) {n : Nat} (hn : n ∈ d.weights P e) : n ∈ DataW.weightsAll P e ds := by
  induction ds with
  | nil => cases hd
  | cons a r ih =>
    rw [DataW.weightsAll, List.mem_append]
    rcases List.mem_cons.1 hd with rfl | hd
    · exact .inl hn
    · exact .inr (ih hd)
theorem weightsEach_mem {H : Type} {P : Program} {ts : List TypeId} {ds : List (DataW H)} {j : Nat} {t : TypeId} {d : DataW H} (ht : ts[j]? = some t) (hd : ds[j]? = some d) {n : Nat} (hn : n ∈ d.weights P t) : n ∈ DataW.weightsEach P ts ds := by
  induction ts generalizing ds j with
  | nil => simp at ht
  | cons a r ih =>
    cases ds with
    | nil => simp at hd
    | cons b s =>
      rw [DataW.weightsEach, List.mem_append]
      cases j with
      | zero =>
        simp at ht hd
        subst ht hd
        exact .inl hn
      | succ j => exact .inr (ih (by simpa using ht) (by simpa using hd))
theorem cell_lives {w : World} {a : Addr} {u : Value} (h : w.cell? a = some u) : a.spot = none ∧ a.block < w.heap.size := by
  unfold World.cell? at h
  split at h
  · rename_i c x y hb
    split at h
    · cases h
    · rename_i hs
      exact ⟨by simpa using hs, (Array.getElem?_eq_some_iff.1 hb).1⟩
  · cases h
theorem opt_slice {P : Program} {t e : TypeId} {ty : Ty} {ok : ty.den → Prop} {B : Nat} (ht : P.underlying t = some (.slice e)) (hc : P.cellsOf t = 1) (hB : P.bytesOf e = B) (h0 : 0 < ty.size) (he : OpT P e ty ok) :
    OpT P t (.sl e ty) (fun xs => List.length (α := ty.den) xs ≤ maxLen ∧ List.length (α := ty.den) xs * B ≤ 140737488351232 ∧ ∀ x ∈ (xs : List ty.den), ok x) where
  sz := hc
  op := fun {H enc w base spare held fuel cs x} h hw => by
    rcases DataW.trod_slice ht h with ⟨rfl, rfl⟩ | ⟨a, len, cap, elems, rest, n, _, rfl, rfl, hb, hl, hm, hlen, hel, _, _⟩
    · exact ⟨([] : List ty.den), ⟨none, 0, rfl, Nat.le_refl _, fun i x hx => by simp at hx⟩, by simp, by simp, by simp⟩
    · have hwe : ∀ (i : Nat) (y : DataW H × List MemPlace), elems[i]? = some y → ∀ m ∈ y.1.weights P e, m ≤ reachBytes := by
        intro i y hy m hm'
        refine hw m ?_
        simp only [DataW.weights, ht]
        refine List.mem_cons_of_mem _ (List.mem_append_left _ (weightsAll_mem (d := y.1) ?_ hm'))
        exact List.mem_map.2 ⟨y, List.mem_of_getElem? hy, rfl⟩
      have hlw : elems.length * B ≤ 140737488351232 := by
        have h1 := hw ((elems.length + rest.length) * P.bytesOf e) (by simp [DataW.weights, ht])
        rw [hB] at h1
        exact Nat.le_trans (Nat.mul_le_mul_right _ (by omega)) h1
      obtain ⟨ys, hyl, hys⟩ := choose_list len (fun i y => ∃ c, RepC w (fun b => b < w.heap.size) ty y c ∧ ok y ∧ ∀ j u, c[j]? = some u → w.cell? (a.add (i * ty.size + j)) = some u) (fun i hi => by
        have h1 := hel i hi
        have h2 : elems[i]? = some (elems[i]'(by omega)) := List.getElem?_eq_getElem (by omega)
        rw [h2, Option.bind_eq_some_iff] at h1
        obtain ⟨c, hcc, htr⟩ := h1
        obtain ⟨_, hcl, hcell⟩ := World.cells?_some hcc
        obtain ⟨y, hK, hok⟩ := he.op htr (hwe i _ h2)
        refine ⟨y, c, hK, hok, fun j u hu => ?_⟩
        have hj : j < c.length := (List.getElem?_eq_some_iff.1 hu).1
        have h3 := hcell j (by omega)
        rw [hu, he.sz] at h3
        rw [← h3]
        rw [addr_add])
      subst hyl
      refine ⟨ys, ⟨some a, cap, rfl, hl, fun i y hy => ?_⟩, by omega, by rw [hlen] at hlw; exact hlw, fun y hy => ?_⟩
      · have h00 : 0 < ys.length := Nat.lt_of_le_of_lt (Nat.zero_le _) (List.getElem?_eq_some_iff.1 hy).1
        obtain ⟨c0, k1, _, k3⟩ := hys 0 _ (List.getElem?_eq_getElem h00)
        have hc0 : 0 < c0.length := by rw [RepC.len k1]; exact h0
        have := cell_lives (k3 0 _ (List.getElem?_eq_getElem hc0))
        rw [Nat.zero_mul, Nat.zero_add] at this
        have ha : a.add 0 = a := by simp [Addr.add]
        rw [ha] at this
        obtain ⟨c, hK, _, hcell⟩ := hys i y hy
        exact ⟨a, rfl, this.1, this.2, c, hK, hcell⟩
      · obtain ⟨i, hi⟩ := List.getElem?_of_mem hy
        obtain ⟨_, _, hok, _⟩ := hys i y hi
        exact hok
/-- Fields in line, from the cell 'off' on. -/
structure OpFT (P : Program) (fs : List Field) (off : Nat) (ty : Ty) (ok : ty.den → Prop) : Prop where
  op : ∀ {H : Type} {enc : TypeId × Value → H} {w : World} {base : Nat} {spare : Nat → Bool} {held : Bool} {fuel : Nat} {cs : List Value} {xs : List (DataW H × List MemPlace)},
    xs.length = fs.length → (∀ (i : Nat) (f : Field), fs[i]? = some f → DataW.trod enc P w base spare held fuel f.type ((cs.drop f.offset).take (P.cellsOf f.type)) = xs[i]?) →
    (∀ n ∈ DataW.weightsEach P (fs.map (·.type)) (xs.map (·.1)), n ≤ reachBytes) → cs.length = off + ty.size → ∃ y, RepC w (fun b => b < w.heap.size) ty y (cs.drop off) ∧ ok y
theorem opft_one {P : Program} {f : Field} {off : Nat} {ty : Ty} {ok : ty.den → Prop} (ho : f.offset = off) (h : OpT P f.type ty ok) : OpFT P [f] off ty ok where
  op := fun {H enc w base spare held fuel cs xs} hl hx hw hc => by
    match xs, hl with
    | [x], _ =>
      have h1 := hx 0 f rfl
      rw [ho, h.sz, List.take_of_length_le (by simp; omega)] at h1
      exact h.op (by simpa using h1) (fun n hn => hw n (by simpa [DataW.weightsEach] using hn))
theorem opft_cons {P : Program} {f : Field} {fs : List Field} {off : Nat} {a b : Ty} {ok : a.den → Prop} {oks : b.den → Prop} (ho : f.offset = off) (h : OpT P f.type a ok) (hs : OpFT P fs (off + a.size) b oks) :
    OpFT P (f :: fs) off (.two a b) (fun p => ok p.1 ∧ oks p.2) where
  op := fun {H enc w base spare held fuel cs xs} hl hx hw hc => by
    match xs, hl with
    | x :: xs, hl =>
      have h1 := hx 0 f rfl
      rw [ho, h.sz] at h1
      obtain ⟨y, hK, hok⟩ := h.op (x := x) (by simpa using h1) (fun n hn => hw n (by simpa [DataW.weightsEach] using .inl hn))
      obtain ⟨z, hKs, hoks⟩ := hs.op (xs := xs) (by simpa using hl) (fun i g hg => by simpa using hx (i + 1) g (by simpa using hg)) (fun n hn => hw n (by simpa [DataW.weightsEach] using .inr (by simpa using hn)))
        (show cs.length = off + a.size + b.size by rw [hc]; show off + (a.size + b.size) = _; omega)
      refine ⟨(y, z), ⟨(cs.drop off).take a.size, cs.drop (off + a.size), ?_, hK, hKs⟩, hok, hoks⟩
      rw [← List.drop_drop]
      exact (List.take_append_drop _ _).symm
/-- Pairs on the left are put in line. -/
def Ty.app : Ty → Ty → Ty | .two a b, r => .two a (b.app r) | .unit, r => .two .unit r | .int k, r => .two (.int k) r | .bool, r => .two .bool r | .str, r => .two .str r | .sl e t, r => .two (.sl e t) r
def Ty.join : (a r : Ty) → a.den → r.den → (a.app r).den | .two _ b, r, x, y => (x.1, Ty.join b r x.2 y) | .unit, _, x, y => (x, y) | .int _, _, x, y => (x, y) | .bool, _, x, y => (x, y) | .str, _, x, y => (x, y) | .sl _ _, _, x, y => (x, y)
def Ty.fst : (a r : Ty) → (a.app r).den → a.den | .two _ b, r, p => (p.1, Ty.fst b r p.2) | .unit, _, p => p.1 | .int _, _, p => p.1 | .bool, _, p => p.1 | .str, _, p => p.1 | .sl _ _, _, p => p.1
def Ty.snd : (a r : Ty) → (a.app r).den → r.den | .two _ b, r, p => Ty.snd b r p.2 | .unit, _, p => p.2 | .int _, _, p => p.2 | .bool, _, p => p.2 | .str, _, p => p.2 | .sl _ _, _, p => p.2
theorem Ty.fst_join : ∀ (a r : Ty) (x : a.den) (y : r.den), Ty.fst a r (Ty.join a r x y) = x
  | .two _ b, r, x, y => by simp only [Ty.fst, Ty.join, Ty.fst_join b r x.2 y]
  | .unit, _, _, _ => rfl | .int _, _, _, _ => rfl | .bool, _, _, _ => rfl | .str, _, _, _ => rfl | .sl _ _, _, _, _ => rfl
theorem Ty.snd_join : ∀ (a r : Ty) (x : a.den) (y : r.den), Ty.snd a r (Ty.join a r x y) = y
  | .two _ b, r, x, y => by simp only [Ty.snd, Ty.join, Ty.snd_join b r x.2 y]
  | .unit, _, _, _ => rfl | .int _, _, _, _ => rfl | .bool, _, _, _ => rfl | .str, _, _, _ => rfl | .sl _ _, _, _, _ => rfl
theorem RepC.join {w : World} {N : Nat → Prop} : ∀ {a r : Ty} {x : a.den} {y : r.den} {c1 c2 : List Value}, RepC w N a x c1 → RepC w N r y c2 → RepC w N (a.app r) (Ty.join a r x y) (c1 ++ c2)
  | .two _ _, _, _, _, _, _, h, k => by
    simp only [RepC] at h
    obtain ⟨d1, d2, rfl, h1, h2⟩ := h
    simp only [Ty.app, Ty.join, RepC]
    exact ⟨d1, d2 ++ _, by rw [List.append_assoc], h1, RepC.join h2 k⟩
  | .unit, _, _, _, _, _, h, k => ⟨_, _, rfl, h, k⟩
  | .int _, _, _, _, _, _, h, k => ⟨_, _, rfl, h, k⟩
  | .bool, _, _, _, _, _, h, k => ⟨_, _, rfl, h, k⟩
  | .str, _, _, _, _, _, h, k => ⟨_, _, rfl, h, k⟩
  | .sl _ _, _, _, _, _, _, h, k => ⟨_, _, rfl, h, k⟩
theorem opft_app {P : Program} {fs : List Field} {off : Nat} {a b : Ty} {ok : a.den → Prop} {oks : b.den → Prop} (h : OpFT P fs off (.two a b) (fun p => ok p.1 ∧ oks p.2)) : OpFT P fs off (a.app b) (fun p => ok (Ty.fst a b p) ∧ oks (Ty.snd a b p)) where
  op := fun {H enc w base spare held fuel cs xs} hl hx hw hc => by
    have hsz : ∀ a b : Ty, (a.app b).size = (Ty.two a b).size := by
      intro a b
      induction a with
      | two x y _ ih => simp only [Ty.app, Ty.size] at ih ⊢; omega
      | _ => rfl
    obtain ⟨y, hK, k1, k2⟩ := h.op hl hx hw (by rw [hc, hsz])
    obtain ⟨c1, c2, e, h1, h2⟩ := hK
    refine ⟨Ty.join a b y.1 y.2, by rw [e]; exact RepC.join h1 h2, ?_, ?_⟩
    · rw [Ty.fst_join]; exact k1
    · rw [Ty.snd_join]; exact k2
theorem opt_struct {P : Program} {t : TypeId} {fs : Array Field} {ty : Ty} {ok : ty.den → Prop} (ht : P.underlying t = some (.struct fs)) (hc : P.cellsOf t = ty.size) (h : OpFT P fs.toList 0 ty ok) : OpT P t ty ok where
  sz := hc
  op := fun {H enc w base spare held fuel cs x} hx hw => by
    obtain ⟨xs, n, _, rfl, hl, hlen, hf⟩ := DataW.trod_struct ht hx
    have := h.op (w := w) (cs := cs) (xs := xs) (by simpa using hlen) (fun i f hi => hf i f (by simpa using hi)) (fun m hm => hw m (by simpa [DataW.weights, ht] using hm)) (by rw [hl, hc, Nat.zero_add])
    simpa using this
theorem OpT.weaken {P : Program} {t : TypeId} {ty : Ty} {ok ok' : ty.den → Prop} (h : OpT P t ty ok) (hi : ∀ a, ok a → ok' a) : OpT P t ty ok' where
  sz := h.sz
  op := fun hx hw => by
    obtain ⟨y, hK, hok⟩ := h.op hx hw
    exact ⟨y, hK, hi _ hok⟩
/-- An argument that is read. -/
theorem OpT.arg {P : Program} {t : TypeId} {ty : Ty} {ok : ty.den → Prop} (h : OpT P t ty ok) {H : Type} {enc : TypeId × Value → H} {w : World} {base : Nat} {spare : Nat → Bool} {held : Bool} {v : Value} {x : DataW H} {p : List MemPlace} {ts : List TypeId} {ds : List (DataW H)} {j : Nat}
    (hx : DataW.Trod enc P w base spare held t v x p) (hsz : (DataW.weightsEach P ts ds).all (· ≤ reachBytes) = true) (ht : ts[j]? = some t) (hd : ds[j]? = some x) : ∃ y, RepC w (fun b => b < w.heap.size) ty y v.cells.toList ∧ ok y := by
  obtain ⟨fuel, hf⟩ := hx
  refine h.op hf (fun n hn => ?_)
  have := List.all_eq_true.1 hsz n (weightsEach_mem ht hd hn)
  simpa using this
/-- The cells of an argument. -/
theorem cellsR {w : World} {N : Nat → Prop} : ∀ {t : Ty} {x : t.den} {cs : List Value}, t.nf = true → RepC w N t x cs → All2 CellV (Ty.cells t x) cs ∧ All2 (CellR false w N) (Ty.cells t x) cs
  | .two a b, x, cs, hn, h => by
    simp only [Ty.nf, Bool.and_eq_true] at hn
    simp only [RepC] at h
    obtain ⟨c1, c2, rfl, h1, h2⟩ := h
    have h3 := cellsR hn.2 h2
    have hc : Ty.cells a x.1 = [⟨a, x.1⟩] := by
      have := hn.1
      cases a <;> simp [Ty.atom] at this <;> rfl
    have hs : a.size = 1 := by
      have := hn.1
      cases a <;> simp [Ty.atom] at this <;> rfl
    have ht : ∀ p q, a ≠ .two p q := by
      intro p q e
      subst e
      exact absurd hn.1 (by simp [Ty.atom])
    have hl := RepC.len h1
    rw [hs] at hl
    match c1, hl with
    | [u], _ =>
      have := CellV.of (c := ⟨a, x.1⟩) h1 hs ht
      simp only [Ty.cells, hc]
      exact ⟨⟨this.1, h3.1⟩, ⟨this.2, h3.2⟩⟩
  | .unit, _, cs, _, h => by simp only [RepC] at h; subst h; exact ⟨trivial, trivial⟩
  | .int _, _, cs, _, h => by simp only [RepC] at h; subst h; exact ⟨⟨rfl, trivial⟩, ⟨trivial, trivial⟩⟩
  | .bool, _, cs, _, h => by simp only [RepC] at h; subst h; exact ⟨⟨rfl, trivial⟩, ⟨trivial, trivial⟩⟩
  | .str, _, cs, _, h => by simp only [RepC] at h; subst h; exact ⟨⟨rfl, trivial⟩, ⟨trivial, trivial⟩⟩
  | .sl e t, x, cs, _, h => by
    have hl := RepC.len h
    match cs, hl with
    | [u], _ =>
      have := CellV.of (c := ⟨.sl e t, x⟩) h rfl (fun _ _ e => by cases e)
      exact ⟨⟨this.1, trivial⟩, ⟨this.2, trivial⟩⟩
theorem arg_one {w : World} {N : Nat → Prop} {t : Ty} {x : t.den} {v : Value} (h : RepC w N t x [v]) (hs : t.atom = true) : CellV ⟨t, x⟩ v ∧ CellR false w N ⟨t, x⟩ v :=
  CellV.of (c := ⟨t, x⟩) h (by cases t <;> simp [Ty.atom] at hs <;> rfl) (fun a b e => by simp only at e; subst e; exact absurd hs (by simp [Ty.atom]))
theorem arg_agg {w : World} {N : Nat → Prop} {t : Ty} {x : t.den} {cs : Array Value} (h : RepC w N t x cs.toList) (hn : t.nf = true) : ∃ us, Value.agg cs = .agg (List.toArray us) ∧ All2 CellV (Ty.cells t x) us ∧ All2 (CellR false w N) (Ty.cells t x) us ∧ us.length = t.size :=
  ⟨cs.toList, by simp, (cellsR hn h).1, (cellsR hn h).2, RepC.len h⟩
end Go.Proofs.Ytpinehfjimphmaa.DI
