/- The machine of values: operations, second part. -/
import Derived.Test.YtpinehfjimphmaaGreatDIOps
namespace Go.Proofs.YtpinehfjimphmaaGreat.DI
open Go Go.RowKit
set_option linter.unusedVariables false
set_option linter.unusedSimpArgs false
section
variable {P : Program} {w0 : World} {X M : Nat → Prop} {ι : Nat → In} {s : DS} {a : Act} {w : World}
theorem run_bounds (isSl : Bool) (len cap : Nat) (lo hi : Option Value) (l h : Nat) (hl : (lo = none ∧ l = 0) ∨ ∃ k n, lo = some (.int k n) ∧ 0 ≤ n ∧ n.toNat = l)
    (hh : (hi = none ∧ h = len) ∨ ∃ k n, hi = some (.int k n) ∧ 0 ≤ n ∧ n.toNat = h ∧ h ≤ cap) (hlh : l ≤ h) (w : World) : (Instr.sliceBounds isSl len cap lo hi none).run P w = .ok (l, h, cap) w := by
  unfold Instr.sliceBounds
  rcases hl with ⟨rfl, rfl⟩ | ⟨k, n, rfl, h0, rfl⟩ <;> rcases hh with ⟨rfl, rfl⟩ | ⟨k', n', rfl, h0', rfl, hc⟩
  · simp
  · have : 0 ≤ n' ∧ n' ≤ (cap : Int) := ⟨h0', by omega⟩
    simp [Instr.sliceBound, asIntOf, this]
  · have : 0 ≤ n ∧ n ≤ (h : Int) := ⟨h0, by omega⟩
    simp [Instr.sliceBound, asIntOf, this]
  · have h1 : 0 ≤ n' ∧ n' ≤ (cap : Int) := ⟨h0', by omega⟩
    have h2 : 0 ≤ n ∧ n ≤ max n' 0 := ⟨h0, by omega⟩
    have h3 : n ≤ n' := by omega
    simp [Instr.sliceBound, asIntOf, h1, h0, h3, h2]
theorem op_slice_str (hs : HS w0 X M ι s.ob w) (ht : TS ι s a) (t : Nat) (ti : TI) (hti : TIok P t ti) (hk : ti.k = .str) (x : Operand) (lo hi : Option Operand) (b : ByteArray) (hx : ev s x = .at (.str b)) (l h : Nat)
    (hl : (lo = none ∧ l = 0) ∨ ∃ o k n, lo = some o ∧ ev s o = .at (.int k n) ∧ 0 ≤ n ∧ n.toNat = l) (hh : (hi = none ∧ h = b.size) ∨ ∃ o k n, hi = some o ∧ ev s o = .at (.int k n) ∧ 0 ≤ n ∧ n.toNat = h ∧ h ≤ b.size) (hlh : l ≤ h)
    (y : ByteArray) (hy : y = b.extract l h) (ty : TypeId) : Does P (.slice t x lo hi none) ty a.eval w (Post w0 X M ι s ⟨.at (.str y), [], []⟩) := by
  have h1 : a.eval x = .string b := ev_at ht hx
  have hu := hti.und
  rw [hk] at hu
  have hb := run_bounds (P := P) false b.size b.size (lo.map a.eval) (hi.map a.eval) l h (by
    rcases hl with ⟨rfl, rfl⟩ | ⟨o, k, n, rfl, h1, h2, h3⟩
    · exact .inl ⟨rfl, rfl⟩
    · have : a.eval o = .int k n := ev_at ht h1
      exact .inr ⟨k, n, by simp [this], h2, h3⟩) (by
    rcases hh with ⟨rfl, rfl⟩ | ⟨o, k, n, rfl, h1, h2, h3, h4⟩
    · exact .inl ⟨rfl, rfl⟩
    · have : a.eval o = .int k n := ev_at ht h1
      exact .inr ⟨k, n, by simp [this], h2, h3, h4⟩) hlh w
  subst hy
  exact Does.value (v := .string (b.extract l h)) (w' := w) (fun _ _ _ _ => by simp [execOp, h1, Instr.sliceAt, Instr.slice, run_underlying hu, hb]) (Post.same hs (d := .at (.str (b.extract l h))) rfl [])
/-- What a cut of a slice that is told comes to. -/
theorem run_slice_sl {cx : Cx} (htt : TTok P cx.tt) (ht : TS ι s a) (t z : Nat) (hz : szE cx t = some z) (x : Operand) (lo hi : Option Operand) (A : Option Addr) (len cap : Nat) (hv : a.eval x = .slice A len cap) (l h : Nat)
    (hl : (lo = none ∧ l = 0) ∨ ∃ o k n, lo = some o ∧ ev s o = .at (.int k n) ∧ 0 ≤ n ∧ n.toNat = l) (hh : (hi = none ∧ h = len) ∨ ∃ o k n, hi = some o ∧ ev s o = .at (.int k n) ∧ 0 ≤ n ∧ n.toNat = h ∧ h ≤ cap) (hlh : l ≤ h) (dst : Option Tmp) (pos : String) (after : Array Edge) (g : Option (Nat × Bool)) (ty : TypeId) :
    (execOp a.eval ⟨dst, .slice t x lo hi none, ty, pos, after, g⟩).run P w = .ok (.value (.slice (if cap = l then A else A.map (·.add (l * z))) (h - l) (cap - l))) w := by
  unfold szE at hz
  obtain ⟨ti, q1, hz⟩ := Option.bind_eq_some_iff.1 hz
  split at hz
  · rename_i e' hk
    obtain ⟨te, q2, hz⟩ := Option.bind_eq_some_iff.1 hz
    cases hz
    have hu := (htt _ _ q1).und
    rw [hk] at hu
    have hb := run_bounds (P := P) true len cap (lo.map a.eval) (hi.map a.eval) l h (by
      rcases hl with ⟨rfl, rfl⟩ | ⟨o, k, n, rfl, h1, h2, h3⟩
      · exact .inl ⟨rfl, rfl⟩
      · have : a.eval o = .int k n := ev_at ht h1
        exact .inr ⟨k, n, by simp [this], h2, h3⟩) (by
      rcases hh with ⟨rfl, rfl⟩ | ⟨o, k, n, rfl, h1, h2, h3, h4⟩
      · exact .inl ⟨rfl, rfl⟩
      · have : a.eval o = .int k n := ev_at ht h1
        exact .inr ⟨k, n, by simp [this], h2, h3, h4⟩) hlh w
    simp [execOp, hv, Instr.sliceAt, Instr.slice, run_underlying hu, hb, run_sizeOf (htt _ _ q2)]
  · cases hz
theorem cut_addr {A : Option Addr} {c l z : Nat} : l < c → (if c = l then A else A.map (·.add (l * z))) = A.map (·.add (l * z)) := fun h => if_neg (by omega)
theorem op_slice_cut {cx : Cx} (htt : TTok P cx.tt) (hs : HS w0 X M ι s.ob w) (ht : TS ι s a) (t z : Nat) (hz : szE cx t = some z) (x : Operand) (lo hi : Option Operand) (r : Nat) (hx : ev s x = .at (.whole r)) {e : Nat} {rt : Ty} {own : Bool} {ls : List rt.den} (hr : s.ob r = some (.row e rt own ls)) (hsz : rt.size = z) (l h : Nat)
    (hl : (lo = none ∧ l = 0) ∨ ∃ o k n, lo = some o ∧ ev s o = .at (.int k n) ∧ 0 ≤ n ∧ n.toNat = l) (hh : (hi = none ∧ h = ls.length) ∨ ∃ o k n, hi = some o ∧ ev s o = .at (.int k n) ∧ 0 ≤ n ∧ n.toNat = h ∧ h ≤ ls.length) (hlh : l ≤ h) (tc : List Nat) (ty : TypeId) :
    Does P (.slice t x lo hi none) ty a.eval w (Post w0 X M ι s ⟨.at (.cut r l (h - l)), [], tc⟩) := by
  have hv := whole_of (ev_at ht hx) hr
  have hc := row_len hs hr
  have hle : h ≤ ls.length := by rcases hh with ⟨_, rfl⟩ | ⟨_, _, _, _, _, _, _, h⟩ <;> omega
  have hrun := run_slice_sl (P := P) (w := w) htt ht t z hz x lo hi _ _ _ hv l h hl (by
    rcases hh with h | ⟨o, k, n, h1, h2, h3, h4, h5⟩
    · exact .inl h
    · exact .inr ⟨o, k, n, h1, h2, h3, h4, by omega⟩) hlh
  refine Does.value (fun dst pos after g => hrun dst pos after g ty) (Post.same hs (d := .at (.cut r l (h - l))) ⟨rfl, _, hr, fun t' m' he => ?_⟩ tc)
  cases he
  refine ⟨by omega, _, rfl, fun hlt => ?_, fun hge => if_pos (by omega)⟩
  rcases hlt with hlt | hlt
  · rw [cut_addr hlt, hsz]
  · subst hlt
    have : ∀ A : Option Addr, A.map (fun x => x.add 0) = A := fun A => by cases A <;> simp [Addr.add]
    simp only [Nat.zero_mul, this]
    split <;> rfl
theorem op_slice_ro {cx : Cx} (htt : TTok P cx.tt) (hs : HS w0 X M ι s.ob w) (ht : TS ι s a) (t z : Nat) (hz : szE cx t = some z) (x : Operand) (lo hi : Option Operand) (r : Nat) (hx : ev s x = .at (.whole r)) {e : Nat} {rt : Ty} {ls : List rt.den} (hr : s.ob r = some (.row e rt false ls)) (hsz : rt.size = z) (l h : Nat)
    (hl : (lo = none ∧ l = 0) ∨ ∃ o k n, lo = some o ∧ ev s o = .at (.int k n) ∧ 0 ≤ n ∧ n.toNat = l) (hh : (hi = none ∧ h = ls.length) ∨ ∃ o k n, hi = some o ∧ ev s o = .at (.int k n) ∧ 0 ≤ n ∧ n.toNat = h ∧ h ≤ ls.length) (hlh : l ≤ h) (id : Nat) (hid : s.ob id = none)
    (q : List rt.den) (hq : q = (ls.drop l).take (h - l)) (tc : List Nat) (ty : TypeId) :
    Does P (.slice t x lo hi none) ty a.eval w (Post w0 X M ι s ⟨.at (.whole id), [(id, .row e rt false q)], tc⟩) := by
  have hv := whole_of (ev_at ht hx) hr
  have hc := row_len hs hr
  have hle : h ≤ ls.length := by rcases hh with ⟨_, rfl⟩ | ⟨_, _, _, _, _, _, _, h⟩ <;> omega
  have hrun := run_slice_sl (P := P) (w := w) htt ht t z hz x lo hi _ _ _ hv l h hl (by
    rcases hh with h | ⟨o, k, n, h1, h2, h3, h4, h5⟩
    · exact .inl h
    · exact .inr ⟨o, k, n, h1, h2, h3, h4, by omega⟩) hlh
  have hro := (show Ro w (Nb w0 M ι s.ob w) rt ls (ι r).a (ι r).c from hs.obs r _ hr).sub (off := l) (n := h - l) (by omega) (A' := if (ι r).c = l then (ι r).a else (ι r).a.map (·.add (l * z))) (fun hlt => by rw [cut_addr hlt, hsz])
  rw [← hq] at hro
  refine Does.value (fun dst pos after g => hrun dst pos after g ty) ⟨_, hs.newRo id e rt q _ _ hid hro, Keeps.new id _ _ hid, rfl, _, upd_same _ _ _, fun t' m' he => ?_⟩
  cases he
  rw [upd_same]
  have : q.length = h - l := by rw [hq]; simp; omega
  simp only [this]
theorem op_slice_all {cx : Cx} (htt : TTok P cx.tt) (hs : HS w0 X M ι s.ob w) (ht : TS ι s a) (t z : Nat) (hz : szE cx t = some z) (x : Operand) (r : Nat) (hx : ev s x = .at (.whole r)) {e : Nat} {rt : Ty} {own : Bool} {ls : List rt.den} (hr : s.ob r = some (.row e rt own ls)) (tc : List Nat) (ty : TypeId) :
    Does P (.slice t x none none none) ty a.eval w (Post w0 X M ι s ⟨.at (.whole r), [], tc⟩) := by
  have hv := whole_of (ev_at ht hx) hr
  have hrun := run_slice_sl (P := P) (w := w) htt ht t z hz x none none _ _ _ hv 0 ls.length (.inl ⟨rfl, rfl⟩) (.inl ⟨rfl, rfl⟩) (Nat.zero_le _)
  refine Does.value (fun dst pos after g => hrun dst pos after g ty) (Post.same hs (d := .at (.whole r)) ⟨rfl, _, hr, fun t' m' he => ?_⟩ tc)
  cases he
  have : ∀ A : Option Addr, A.map (fun x => x.add 0) = A := fun A => by cases A <;> simp [Addr.add]
  simp [this]
theorem run_call {b : Builtin} {args : Array Operand} {at_ : Array TypeId} (dst : Option Tmp) (pos : String) (after : Array Edge) (g : Option (Nat × Bool)) (ty : TypeId) (ρ : Operand → Value) :
    (execOp ρ ⟨dst, .call ⟨.builtin b, args, at_⟩, ty, pos, after, g⟩).run P w = (builtin b at_ ty (args.map fun | .const _ => true | _ => false) (args.map ρ)).run P w := by
  simp only [execOp, resolve, invoke, Sem.run_bind, Sem.run_pure, Result.andThen_ok]
  rfl
theorem op_len_str (hs : HS w0 X M ι s.ob w) (ht : TS ι s a) (t : Nat) (ti : TI) (hti : TIok P t ti) (hk : ti.k = .str) (x : Operand) (b : ByteArray) (hx : ev s x = .at (.str b)) (ty : TypeId) :
    Does P (.call ⟨.builtin .len, #[x], #[t]⟩) ty a.eval w (Post w0 X M ι s ⟨.at (.int .i64 b.size), [], []⟩) := by
  have h1 : a.eval x = .string b := ev_at ht hx
  have hu := hti.und
  rw [hk] at hu
  exact Does.value (v := .int .i64 b.size) (w' := w) (fun _ _ _ _ => by rw [run_call]; simp [builtin, Builtin.len_, h1, run_underlying hu, goInt]) (Post.same hs (d := .at (.int .i64 b.size)) rfl [])
theorem op_len_sl (hs : HS w0 X M ι s.ob w) (ht : TS ι s a) (t : Nat) (ti : TI) (hti : TIok P t ti) (e : Nat) (hk : ti.k = .sl e) (x : Operand) (y : AV) (n : Nat) (hx : ev s x = .at y) (hn : lenOf s y = some n) (tc : List Nat) (ty : TypeId) :
    Does P (.call ⟨.builtin .len, #[x], #[t]⟩) ty a.eval w (Post w0 X M ι s ⟨.at (.int .i64 n), [], tc⟩) := by
  have hu := hti.und
  rw [hk] at hu
  have hv : ∃ A c, a.eval x = .slice A n c := by
    have h := ev_at ht hx
    unfold lenOf at hn
    split at hn
    · cases hn; exact ⟨_, _, h⟩
    · split at hn
      · rename_i r e' t' o l hr; cases hn; exact ⟨_, _, whole_of h hr⟩
      · rename_i r e' t' l o hr
        cases hn
        obtain ⟨_, o', ho, h⟩ := h
        rw [hr] at ho
        cases ho
        exact ⟨_, _, h _ _ rfl⟩
      · cases hn
    · split at hn
      · rename_i r off n' e' t' o l hr
        cases hn
        obtain ⟨_, A, h2, _⟩ := cut_of h hr
        exact ⟨_, _, h2⟩
      · cases hn
    · cases hn
  obtain ⟨A, c, hv⟩ := hv
  exact Does.value (v := .int .i64 n) (w' := w) (fun _ _ _ _ => by rw [run_call]; simp [builtin, Builtin.len_, hv, run_underlying hu, goInt]) (Post.same hs (d := .at (.int .i64 n)) rfl tc)
theorem op_min (hs : HS w0 X M ι s.ob w) (ht : TS ι s a) (x y : Operand) (k k' : IntKind) (m n : Int) (hx : ev s x = .at (.int k m)) (hy : ev s y = .at (.int k' n)) (at_ : Array TypeId) (ty : TypeId) :
    Does P (.call ⟨.builtin .min, #[x, y], at_⟩) ty a.eval w (Post w0 X M ι s ⟨.at (.int k (bif decide (n < m) then n else m)), [], []⟩) := by
  have h1 : a.eval x = .int k m := ev_at ht hx
  have h2 : a.eval y = .int k' n := ev_at ht hy
  refine Does.value (v := .int k (bif decide (n < m) then n else m)) (w' := w) (fun _ _ _ _ => ?_) (Post.same hs (d := .at (.int k _)) rfl [])
  rw [run_call]
  have e : (if n < m then n else m) = bif decide (n < m) then n else m := by by_cases h : n < m <;> simp [h]
  simp [builtin, Builtin.min_, h1, h2, Builtin.min2, e]
theorem op_makeFunc (hs : HS w0 X M ι s.ob w) (ht : TS ι s a) (f : Nat) (c : List Operand) (q : List (Nat × Nat)) (hc : mapO (fun x => match ev s x with | .at (.bptr b off) => some (b, off) | _ => none) c = some q) (ty : TypeId) :
    Does P (.makeFunc (.func f) #[] c.toArray) ty a.eval w (Post w0 X M ι s ⟨.at (.fn f q), [], []⟩) := by
  refine Does.value (v := .func (.func f) #[] (c.map a.eval).toArray) (w' := w) (fun _ _ _ _ => by simp [execOp, Instr.makeFunc]) (Post.same hs (d := .at (.fn f q)) ⟨_, rfl, ?_⟩ [])
  induction c generalizing q with
  | nil => cases hc; trivial
  | cons x r ih =>
    simp only [mapO] at hc
    obtain ⟨p, h1, hc⟩ := Option.bind_eq_some_iff.1 hc
    obtain ⟨q', h2, hc⟩ := Option.bind_eq_some_iff.1 hc
    cases hc
    split at h1
    · rename_i b off hx
      cases h1
      exact ⟨ev_at ht hx, ih _ h2⟩
    · cases h1

/-! Building. -/
theorem setL_nil {α : Type} : ∀ (l : List α) (j : Nat), setL l j [] = l
  | [], 0 => rfl
  | [], _ + 1 => rfl
  | _ :: _, 0 => rfl
  | x :: r, j + 1 => by simp [setL, setL_nil r j]
theorem setL_cons {α : Type} : ∀ (l : List α) (j : Nat) (v : α) (vs : List α), setL l j (v :: vs) = setL (l.set j v) (j + 1) vs
  | [], 0, v, vs => by cases vs <;> rfl
  | [], j + 1, v, vs => by cases vs <;> rfl
  | x :: r, 0, v, vs => by cases vs <;> simp [setL]
  | x :: r, j + 1, v, vs => by simp [setL, setL_cons r j v vs]
theorem foldl_setL (off : Nat) : ∀ (vs : List Value) (k : Nat) (cs : Array Value), (vs.zipIdx k).foldl (fun cs (p : Value × Nat) => cs.setIfInBounds (off + p.2) p.1) cs = (setL cs.toList (off + k) vs).toArray
  | [], k, cs => by simp [setL_nil]
  | v :: vs, k, cs => by
    rw [List.zipIdx_cons, List.foldl_cons, foldl_setL off vs (k + 1), setL_cons]
    simp [Array.toList_setIfInBounds, Nat.add_assoc]
theorem fill_one (cells : Array Value) (off : Nat) (v : Value) : v.cells.zipIdx.foldl (fun cs (p : Value × Nat) => cs.setIfInBounds (off + p.2) p.1) cells = (setL cells.toList off v.cells.toList).toArray := by
  rw [← Array.foldl_toList, Array.toList_zipIdx, foldl_setL off]
  rfl
theorem mapM_ok {α β : Type} (f : α → Sem β) (g : α → β) (w : World) : ∀ l : List α, (∀ x ∈ l, (f x).run P w = .ok (g x) w) → (l.mapM f).run P w = .ok (l.map g) w
  | [], _ => rfl
  | x :: r, h => by
    rw [List.mapM_cons, Sem.run_bind, h x (by simp)]
    simp only [Result.andThen_ok]
    rw [Sem.run_bind, mapM_ok f g w r (fun y hy => h y (by simp [hy]))]
    rfl
/-- Parts laid into cells that are told. -/
theorem rep_buildP {cx : Cx} (htt : TTok P cx.tt) (ht : TS ι s a) (fs : List (Nat × Nat)) (place : Nat → Option (Nat × Nat)) (hp : ∀ i p tp, fs[i]? = some p → cx.tt p.2 = some tp → place i = some (p.1, tp.sz)) :
    ∀ (ps : List (Nat × Operand)) (z c : List AV) (zs : List Value), buildP cx fs s z ps = some c → All2 (RepAV ι s.ob) z zs →
      ∃ cs : List Value, Instr.fill place zs.toArray (ps.map fun p => (p.1, a.eval p.2)) = some cs.toArray ∧ All2 (RepAV ι s.ob) c cs
  | [], z, c, zs, h, hz => by cases h; exact ⟨zs, rfl, hz⟩
  | (i, x) :: r, z, c, zs, h, hz => by
    simp only [buildP] at h
    obtain ⟨p, h1, h⟩ := Option.bind_eq_some_iff.1 h
    obtain ⟨ti, h2, h⟩ := Option.bind_eq_some_iff.1 h
    obtain ⟨c0, h3, h⟩ := Option.bind_eq_some_iff.1 h
    split at h
    · rename_i hl
      obtain ⟨z', h4, h⟩ := Option.bind_eq_some_iff.1 h
      unfold fillL at h4
      simp only at h4
      by_cases hle : p.1 + c0.length ≤ z.length
      · rw [if_pos hle] at h4
        cases h4
        obtain ⟨us, k1, k2⟩ := RepDV.cells (RepDV.ev ht x) h3
        have l1 := All2.len hz
        have l2 := All2.len k2
        have hz' := All2.set p.1 hz k2 hle
        have key : zs.take p.1 ++ us ++ zs.drop (p.1 + us.length) = setL zs p.1 us := by
          clear h hz' k2 k1 h3 hp
          have hle' : p.1 + us.length ≤ zs.length := by omega
          clear hle hl l1 l2 hz h1 h2
          generalize p.1 = off at hle'
          induction zs generalizing off us with
          | nil => simp at hle'; obtain ⟨rfl, rfl⟩ := hle'; rfl
          | cons y q ih =>
            cases off with
            | zero =>
              cases us with
              | nil => simp [setL]
              | cons u us => simp only [setL]; have := ih us 0 (by simp at hle' ⊢; omega); simp at this ⊢; exact this
            | succ off =>
              have := ih us off (by simp at hle' ⊢; omega)
              have e : off + 1 + us.length = (off + us.length) + 1 := by omega
              rw [e]
              cases us <;> simpa [setL] using this
        rw [key] at hz'
        obtain ⟨cs, q1, q2⟩ := rep_buildP htt ht fs place hp r _ c _ h hz'
        refine ⟨cs, ?_, q2⟩
        simp only [List.map_cons, Instr.fill, hp i p ti h1 h2, k1]
        have e1 : (us.toArray.size ≠ ti.sz) = False := by simp; omega
        have e2 : ¬ (p.1 + us.toArray.size > zs.toArray.size) := by simp; omega
        have := fill_one zs.toArray p.1 (a.eval x)
        rw [k1] at this
        simp only [List.toList_toArray] at this
        have e3 : (us.toArray.size != ti.sz) = false := by simp; omega
        simp only [e3, e2, decide_false, Bool.or_false, Bool.false_eq_true, if_false]
        first
          | (rw [this]; exact q1)
          | (simp only [ne_eq, e1, not_false_eq_true, if_false, this]; exact q1)
      · rw [if_neg hle] at h4; cases h4
    · cases h
theorem op_build {cx : Cx} (htt : TTok P cx.tt) (hs : HS w0 X M ι s.ob w) (ht : TS ι s a) (t : Nat) (ti : TI) (hti : TIok P t ti) (fs : List (Nat × Nat)) (hk : ti.k = .st fs) (ps : Array (Nat × Operand)) (c : List AV) (hc : buildP cx fs s ti.z ps.toList = some c) (ty : TypeId) :
    Does P (.build t ps) ty a.eval w (Post w0 X M ι s ⟨.agg c, [], []⟩) := by
  obtain ⟨z, hz, hz1, hz2, hz3⟩ := run_zero hti
  have hu := hti.und
  rw [hk] at hu
  obtain ⟨F, hu, hFi, hF⟩ := hu
  let g : Field → Nat × Nat := fun f => (f.offset, ((P.info? f.type).map (·.size)).getD 0)
  have hm : (F.mapM (fun (f : Field) => (do pure (f.offset, ← sizeOf f.type) : Sem (Nat × Nat)))).run P w = .ok (F.map g) w := by
    rw [Array.mapM_eq_mapM_toList, Sem.run_map, mapM_ok (P := P) (fun f : Field => (do pure (f.offset, ← sizeOf f.type) : Sem (Nat × Nat))) g w F.toList (fun f hf => by
      obtain ⟨⟨j, hj⟩, _⟩ := hFi.1 f hf
      simp [sizeOf, typeInfo, hj, g])]
    simp only [Result.andThen_ok]
    rw [← Array.toList_map, Array.toArray_toList]
  have hp : ∀ (i : Nat) (p : Nat × Nat) (tp : TI), fs[i]? = some p → cx.tt p.2 = some tp → (fun i : Nat => (F.map g)[i]?) i = some (p.1, tp.sz) := by
    intro i p tp h1 h2
    obtain ⟨fd, k1, k2, k3, j, k4, k5⟩ := hF i p h1
    obtain ⟨j', z', q1, q2, _⟩ := (htt _ _ h2).info
    rw [k3] at k4
    rw [k4] at q1
    cases q1
    simp [g, k1, k2, k3, k4, q2]
  obtain ⟨cs, h1, h2⟩ := rep_buildP htt ht fs _ hp ps.toList ti.z c z.cells.toList hc (by rw [← hz1]; exact All2.ofV ι s.ob _)
  refine Does.value (v := .agg cs.toArray) (w' := w) (fun _ _ _ _ => ?_) (Post.same hs (d := .agg c) ⟨cs, rfl, h2⟩ [])
  simp only [execOp, Instr.build, Sem.run_bind, hz, Result.andThen_ok, run_underlying hu, hm]
  have e : (ps.map fun x => (x.1, a.eval x.2)).toList = ps.toList.map fun p => (p.1, a.eval p.2) := by simp
  simp only [Array.toArray_toList] at h1
  rw [e, h1]
  rfl

/-- A row out of elements, each with its cells. -/
theorem RepL.of_map {N : Nat → Prop} {t : Ty} : ∀ {l : List t.den} {vs : List (List Value)}, All2 (fun x v => RepC w N t x v) l vs → RepL w N t l vs.flatten
  | [], [], _ => rfl
  | x :: r, v :: q, h => ⟨v, q.flatten, rfl, h.1, RepL.of_map h.2⟩
  | [], _ :: _, h => h.elim
  | _ :: _, [], h => h.elim
/-- Filling a row from left to right. -/
theorem fill_row (sz : Nat) : ∀ (vs : List Value) (k : Nat) (pre post : List Value), pre.length = k * sz → post.length = vs.length * sz → (∀ v ∈ vs, v.cells.size = sz) →
    Instr.fill (fun i => some (i * sz, sz)) (pre ++ post).toArray ((List.range' k vs.length).zip vs) = some (pre ++ (vs.map fun v => v.cells.toList).flatten).toArray
  | [], k, pre, post, _, h, _ => by
    simp at h
    simp [Instr.fill, h]
  | v :: r, k, pre, post, h1, h2, h3 => by
    have hv := h3 v (by simp)
    have hpl : post.length = r.length * sz + sz := by rw [h2, List.length_cons, Nat.add_mul]; omega
    simp only [List.length_cons, List.range'_succ, List.zip_cons_cons, Instr.fill]
    have e2 : ¬ (k * sz + v.cells.size > (pre ++ post).toArray.size) := by simp; omega
    have e3 : (v.cells.size != sz) = false := by simp [hv]
    have e4 : (v.cells.size ≠ sz) = False := by simp [hv]
    have hst : v.cells.zipIdx.foldl (fun cs (p : Value × Nat) => cs.setIfInBounds (k * sz + p.2) p.1) (pre ++ post).toArray = ((pre ++ v.cells.toList) ++ post.drop sz).toArray := by
      rw [fill_one]
      congr 1
      have key : ∀ (pre vs post : List Value), vs.length ≤ post.length → setL (pre ++ post) pre.length vs = pre ++ (vs ++ post.drop vs.length) := by
        intro pre
        induction pre with
        | nil =>
          intro vs
          induction vs with
          | nil => intro post _; simp [setL_nil]
          | cons u us ih => intro post hp; cases post with
            | nil => simp at hp
            | cons p q => have := ih q (by simp at hp; omega); simp [setL] at this ⊢; exact this
        | cons x r ih => intro vs post hp; have := ih vs post hp; cases vs <;> simp [setL] at this ⊢ <;> exact this
      have := key pre v.cells.toList post (by simp; omega)
      rw [h1] at this
      simp only [List.toList_toArray]
      rw [this]
      simp [hv]
    split
    · rename_i hc
      exfalso
      simp only [Bool.or_eq_true, decide_eq_true_eq] at hc
      rcases hc with hc | hc
      · exact hc hv
      · exact e2 hc
    · rw [hst, fill_row sz r (k + 1) (pre ++ v.cells.toList) (post.drop sz) (by rw [List.length_append, h1, Array.length_toList, hv, Nat.add_mul]; omega) (by rw [List.length_drop, hpl]; omega) (fun u hu => h3 u (by simp [hu]))]
      simp
theorem maxLen_pos : (maxLen : Nat) = 9223372036854775807 := by decide
theorem op_buildSlice {cx : Cx} (htt : TTok P cx.tt) (hs : HS w0 X M ι s.ob w) (hXM : ∀ b, X b → M b) (ht : TS ι s a) (t : Nat) (ti : TI) (hti : TIok P t ti) (e : Nat) (hk : ti.k = .sl e) (te : TI) (hte : TIok P e te) (n : Nat) (ps : Array (Nat × Operand)) (hps : ps.toList.map (·.1) = List.range n) (hn : n * te.sz ≤ 16777216)
    (cs : List (List AV)) (hcs : mapO (fun p : Nat × Operand => (ev s p.2).cells) ps.toList = some cs) (l : List te.ty.den) (hl : mapO (fun c : List AV => if c.length = te.sz then ofAVs s.ob te.ty c else none) cs = some l) (id : Nat) (hid : s.ob id = none) (tc : List Nat) (ty : TypeId) :
    Does P (.buildSlice t n ps) ty a.eval w (Post w0 X M ι s ⟨.at (.whole id), freeze s.ob cs.flatten ++ [(id, .row e te.ty true l)], tc⟩) := by
  have hu := hti.und
  rw [hk] at hu
  obtain ⟨z, hz, hz1, hz2, hz3⟩ := run_zero hte
  obtain ⟨g1, g2, g3, g4⟩ := HS.give hXM hs cs.flatten
  have hid1 : updL s.ob (freeze s.ob cs.flatten) id = none := by
    by_cases hm : id ∈ idsOf cs.flatten
    · by_cases hf : id ∈ outIds (freeze s.ob cs.flatten)
      · exfalso
        obtain ⟨p, hp, rfl⟩ := List.mem_map.1 hf
        obtain ⟨e', t', own, x, k1, _⟩ := freeze_frz s.ob cs.flatten p hp
        rw [hid] at k1; cases k1
      · rw [(HS.frz hXM _ hs (freeze_frz s.ob cs.flatten)).2.2.2 id hf]; exact hid
    · rw [g3 id hm]; exact hid
  -- the parts, as they lie
  have parts : ∀ (q : List (Nat × Operand)) (cs' : List (List AV)) (l' : List te.ty.den), mapO (fun p : Nat × Operand => (ev s p.2).cells) q = some cs' → mapO (fun c : List AV => if c.length = te.sz then ofAVs s.ob te.ty c else none) cs' = some l' → (∀ r ∈ idsOf cs'.flatten, r ∈ idsOf cs.flatten) →
      All2 (fun x v => RepC w (Nb w0 M ι (updL s.ob (freeze s.ob cs.flatten)) w) te.ty x v) l' (q.map fun p => (a.eval p.2).cells.toList) ∧ ∀ p ∈ q, (a.eval p.2).cells.size = te.sz := by
    intro q
    induction q with
    | nil => intro cs' l' h1 h2 _; cases h1; cases h2; exact ⟨trivial, by simp⟩
    | cons p r ih =>
      intro cs' l' h1 h2 h3
      simp only [mapO] at h1
      obtain ⟨c, k1, h1⟩ := Option.bind_eq_some_iff.1 h1
      obtain ⟨cr, k2, h1⟩ := Option.bind_eq_some_iff.1 h1
      cases h1
      simp only [mapO] at h2
      obtain ⟨y, k3, h2⟩ := Option.bind_eq_some_iff.1 h2
      obtain ⟨yr, k4, h2⟩ := Option.bind_eq_some_iff.1 h2
      cases h2
      split at k3
      · rename_i hcl
        obtain ⟨us, m1, m2⟩ := RepDV.cells (RepDV.ev ht p.2) k1
        obtain ⟨q1, q2⟩ := ih cr yr k2 k4 (fun r hr => h3 r (by simp only [idsOf, List.flatten_cons, List.flatMap_append, List.mem_append] at hr ⊢; exact .inr hr))
        refine ⟨⟨?_, q1⟩, fun p' hp' => ?_⟩
        · simp only [m1]
          exact rep_ofAVs k3 m2 (fun r hr => g4 r (h3 r (by simp only [idsOf, List.flatten_cons, List.flatMap_append, List.mem_append] at hr ⊢; exact .inl hr)))
        · rcases List.mem_cons.1 hp' with rfl | hp'
          · rw [m1]; simp [← All2.len m2, hcl]
          · exact q2 p' hp'
      · cases k3
  obtain ⟨p1, p2⟩ := parts ps.toList cs l hcs hl (fun r hr => hr)
  have hlen : ps.toList.length = n := by have := congrArg List.length hps; simpa using this
  have hll : l.length = n := by have := All2.len p1; rw [List.length_map] at this; omega
  have hrep := RepL.of_map p1
  have hxs := RepL.len hrep
  have hty := hte.ty
  have hzip : (ps.map fun x => (x.1, a.eval x.2)).toList = (List.range' 0 (ps.toList.map fun p => a.eval p.2).length).zip (ps.toList.map fun p => a.eval p.2) := by
    simp only [List.length_map, hlen, Array.toList_map, ← List.range_eq_range', ← hps]
    induction ps.toList with
    | nil => rfl
    | cons p r ih => simp [ih]
  have hfill : ∀ cells0 : Array Value, cells0.size = n * te.sz → Instr.fill (fun i => some (i * te.sz, te.sz)) cells0 (ps.map fun x => (x.1, a.eval x.2)).toList = some ((ps.toList.map fun p => (a.eval p.2).cells.toList).flatten).toArray := by
    intro cells0 h0
    have := fill_row te.sz (ps.toList.map fun p => a.eval p.2) 0 [] cells0.toList (by simp) (by simp [h0, hlen]) (by
      intro v hv
      obtain ⟨p, hp, rfl⟩ := List.mem_map.1 hv
      exact p2 p hp)
    rw [hzip]
    simpa [List.map_map, Function.comp_def] using this
  have hrun : ∀ (dst : Option Tmp) (pos : String) (after : Array Edge) (g : Option (Nat × Bool)), (execOp a.eval ⟨dst, .buildSlice t n ps, ty, pos, after, g⟩).run P w = .ok (.value (.slice (some ⟨w.heap.size, 0, none⟩) n n)) (w.alloc (.cells ((ps.toList.map fun p => (a.eval p.2).cells.toList).flatten).toArray e)) := by
    intro dst pos after g
    have hn' : ¬ n * te.sz > 2 ^ 24 := by omega
    simp only [execOp, Instr.buildSlice, Sem.run_bind, run_underlying hu, Result.andThen_ok, run_sizeOf hte, if_neg hn', Sem.run_pure]
    by_cases h0 : n * te.sz = 0
    · simp only [h0, if_true, Sem.run_bind, Sem.run_pure, Result.andThen_ok]
      rw [hfill _ (by simp [h0])]
      rfl
    · simp only [h0, if_false, Sem.run_bind, hz, Result.andThen_ok, Sem.run_pure]
      rw [hfill _ (by simp)]
      rfl
  have hnew := g1.newBlk id (.row e te.ty true l) n (.cells ((ps.toList.map fun p => (a.eval p.2).cells.toList).flatten).toArray e) hid1 trivial (fun N ι' ob' w' hk' hN hi hb => by
    refine ⟨(ps.toList.map fun p => (a.eval p.2).cells.toList).flatten, ⟨hxs, .inr ⟨w.heap.size, 0, n, _, (0, 0), by rw [hi, hll], hb, .inl (Nat.le_refl _), by rw [hll]; exact Nat.le_refl _, ?_, ?_⟩⟩, RepL.mono hN hrep⟩
    · simp only [List.size_toArray, hxs, hll, Nat.zero_add]; exact Nat.le_refl _
    · rw [List.toList_toArray, List.drop_zero, List.take_of_length_le (by omega)])
  refine Does.value (fun dst pos after g => hrun dst pos after g) ⟨upd ι id ⟨some ⟨w.heap.size, 0, none⟩, n, []⟩, ?_, ?_, ?_⟩
  · simp only [updL_append, updL]; exact hnew
  · simp only [updL_append, updL]; exact g2.trans (Keeps.new id _ _ hid1)
  · simp only [updL_append, updL]
    refine ⟨rfl, _, upd_same _ _ _, fun t' m' he => ?_⟩
    cases he
    rw [upd_same, hll]
theorem RepL.of_get {N : Nat → Prop} {t : Ty} : ∀ {l : List t.den} {cs : List Value}, cs.length = l.length * t.size → (∀ i x, l[i]? = some x → RepC w N t x ((cs.drop (i * t.size)).take t.size)) → RepL w N t l cs
  | [], cs, h, _ => by simp at h; exact h
  | x :: r, cs, h, k => by
    refine ⟨cs.take t.size, cs.drop t.size, (List.take_append_drop _ _).symm, ?_, RepL.of_get (by simp [h, Nat.add_mul]) fun i y hy => ?_⟩
    · have := k 0 x rfl; simpa using this
    · have := k (i + 1) y (by simpa using hy)
      rw [List.drop_drop]
      rw [Nat.add_mul, Nat.one_mul, Nat.add_comm] at this
      exact this
theorem made_get (z : Array Value) (n i sz : Nat) (hz : z.size = sz) (hi : i < n) (hp : 0 < sz) : (((madeCells z (n * sz)).toList.drop (i * sz)).take sz) = z.toList := by
  apply List.ext_getElem?
  intro j
  simp only [List.getElem?_take, List.getElem?_drop]
  by_cases hj : j < sz
  · have h1 : i * sz + j < n * sz := by
      have := Nat.mul_le_mul_right sz (by omega : i + 1 ≤ n)
      rw [Nat.add_mul] at this
      omega
    have h2 : (i * sz + j) % sz = j := by rw [Nat.mul_comm, Nat.mul_add_mod, Nat.mod_eq_of_lt hj]
    rw [if_pos hj]
    simp only [madeCells, Array.toList_map, List.getElem?_map, Array.toList_range, List.getElem?_range h1, Option.map_some, hz, h2]
    rw [Array.getElem?_toList, Array.getElem?_eq_getElem (by omega), getElem!_pos z j (by omega)]
  · rw [if_neg hj, List.getElem?_eq_none (by simp; omega)]
theorem rep_zero {te : TI} {t : Nat} (hte : TIok P t te) {zd : te.ty.den} {z : Value} (hzd : ofAVs s.ob te.ty te.z = some zd) (hz1 : z.cells.toList.map AV.ofV = te.z) (N : Nat → Prop) : RepC w N te.ty zd z.cells.toList := by
  refine rep_ofAVs (ι := fun _ => ⟨none, 0, []⟩) hzd (by rw [← hz1]; exact All2.ofV _ s.ob _) (fun r hr => ?_)
  exfalso
  rw [← hz1] at hr
  simp only [idsOf, List.mem_flatMap, List.mem_map] at hr
  obtain ⟨x, ⟨v, _, rfl⟩, h2⟩ := hr
  unfold AV.ofV at h2
  split at h2 <;> simp [AV.ids] at h2
theorem op_makeSlice (hs : HS w0 X M ι s.ob w) (ht : TS ι s a) (t : Nat) (ti : TI) (hti : TIok P t ti) (e : Nat) (hk : ti.k = .sl e) (te : TI) (hte : TIok P e te) (n c : Operand) (k : IntKind) (m : Int) (hn : ev s n = .at (.int k m)) (hc : sameO n c = true) (zd : te.ty.den) (hzd : ofAVs s.ob te.ty te.z = some zd)
    (h0 : 0 ≤ m) (hb : m * te.bytes ≤ 140737488355328) (id : Nat) (hid : s.ob id = none) (tc : List Nat) (ty : TypeId) :
    Does P (.makeSlice t n c) ty a.eval w (Post w0 X M ι s ⟨.at (.whole id), [(id, .row e te.ty true (List.replicate m.toNat zd))], tc⟩) := by
  have hu := hti.und
  rw [hk] at hu
  obtain ⟨i, z, i1, i2, i3, i4, i5, i6⟩ := hte.info
  have h1 : a.eval n = .int k m := ev_at ht hn
  have h2 : ∃ k', a.eval c = .int k' m := by
    unfold sameO at hc
    split at hc
    · rename_i x y; have := Nat.eq_of_beq_eq_true hc; subst this; exact ⟨k, h1⟩
    · rename_i x y; have : x = y := by simpa using hc
      subst this; exact ⟨k, h1⟩
    · cases hc
  obtain ⟨k', h2⟩ := h2
  have hm : ((m.toNat : Nat) : Int) = m := Int.toNat_of_nonneg h0
  have hbp := hte.bpos
  have hb' : m.toNat * te.bytes ≤ 140737488355328 := by
    have : ((m.toNat * te.bytes : Nat) : Int) ≤ 140737488355328 := by rw [Int.natCast_mul, hm]; exact hb
    omega
  have hm63 : m.toNat ≤ m.toNat * te.bytes := Nat.le_mul_of_pos_right _ hbp
  have hr := run_make (P := P) w t e i z hu i1 i4 k k' m m h0 (Int.le_refl _) (by rw [i3, Int.mul_comm]; omega) (by omega)
  rw [i2] at hr
  have hzs : z.cells.size = te.sz := by rw [← hte.zl, ← i5]; simp
  have hnew := hs.newBlk id (.row e te.ty true (List.replicate m.toNat zd)) m.toNat (.cells (madeCells z.cells (m.toNat * te.sz)) e) hid trivial (fun N ι' ob' w' hk' hN hi hb => by
    have hrep : RepL w' N te.ty (List.replicate m.toNat zd) (madeCells z.cells (m.toNat * te.sz)).toList := RepL.of_get (by simp [madeCells, hte.ty]) (fun i x hx => by
      have hi := (List.getElem?_eq_some_iff.1 hx).1
      rw [List.getElem?_replicate] at hx
      simp only [List.length_replicate] at hi
      rw [if_pos hi] at hx
      cases hx
      rw [hte.ty, made_get z.cells m.toNat i te.sz hzs hi hte.pos]
      exact rep_zero (s := s) hte hzd i5 N)
    refine ⟨_, ⟨RepL.len hrep, .inr ⟨w.heap.size, 0, m.toNat, _, (0, 0), by simp [hi], hb, .inl (Nat.le_refl _), by simp, by simp [madeCells, hte.ty], ?_⟩⟩, hrep⟩
    rw [List.drop_zero]
    exact List.take_of_length_le (by simp [madeCells, hte.ty]))
  refine Does.value (fun dst pos after g => by simp only [execOp, h1, h2, Sem.run_bind, hr, Result.andThen_ok]; rfl) ⟨_, hnew, Keeps.new id _ _ hid, rfl, _, upd_same _ _ _, fun t' m' he => ?_⟩
  cases he
  rw [upd_same]
  simp

/-! Appending. -/
theorem RepC.one {N : Nat → Prop} : ∀ {t : Ty} {x : t.den} {cs : List Value}, RepC w N t x cs → ∀ v ∈ cs, v.oneCell' = true
  | .unit, _, _, h => by simp only [RepC] at h; subst h; simp
  | .int _, _, _, h => by simp only [RepC] at h; subst h; simp [Value.oneCell']
  | .bool, _, _, h => by simp only [RepC] at h; subst h; simp [Value.oneCell']
  | .str, _, _, h => by simp only [RepC] at h; subst h; simp [Value.oneCell']
  | .sl _ _, _, _, h => by obtain ⟨A, c, rfl, _⟩ := Ro.of_cell h; simp [Value.oneCell']
  | .two _ _, _, _, h => by
    simp only [RepC] at h
    obtain ⟨c1, c2, rfl, h1, h2⟩ := h
    intro v hv
    rcases List.mem_append.1 hv with hv | hv
    · exact RepC.one h1 v hv
    · exact RepC.one h2 v hv
theorem RepL.one {N : Nat → Prop} {t : Ty} : ∀ {l : List t.den} {cs : List Value}, RepL w N t l cs → ∀ v ∈ cs, v.oneCell' = true
  | [], _, h => by simp only [RepL] at h; subst h; simp
  | _ :: _, _, h => by
    simp only [RepL] at h
    obtain ⟨c1, c2, rfl, h1, h2⟩ := h
    intro v hv
    rcases List.mem_append.1 hv with hv | hv
    · exact RepC.one h1 v hv
    · exact RepL.one h2 v hv
theorem Ro.flat0 {N : Nat → Prop} {t : Ty} (ad : Addr) : ∀ (l : List t.den) (k : Nat), (∀ i x, l[i]? = some x → ∃ es, RepC w N t x es ∧ ∀ j u, es[j]? = some u → w.cell? (ad.add ((k + i) * t.size + j)) = some u) →
    ∃ news, RepL w N t l news ∧ ∀ j u, news[j]? = some u → w.cell? (ad.add (k * t.size + j)) = some u
  | [], k, _ => ⟨[], rfl, by simp⟩
  | x :: r, k, h => by
    obtain ⟨es, h1, h2⟩ := h 0 x rfl
    obtain ⟨news, h3, h4⟩ := Ro.flat0 ad r (k + 1) (fun i y hy => by
      obtain ⟨es, q1, q2⟩ := h (i + 1) y (by simpa using hy)
      exact ⟨es, q1, fun j u hj => by have := q2 j u hj; rwa [show k + (i + 1) = k + 1 + i from by omega] at this⟩)
    refine ⟨es ++ news, ⟨es, news, rfl, h1, h3⟩, fun j u hj => ?_⟩
    have le := RepC.len h1
    by_cases hlt : j < es.length
    · rw [List.getElem?_append_left hlt] at hj
      exact h2 j u hj
    · rw [List.getElem?_append_right (by omega)] at hj
      have := h4 _ u hj
      rw [show (k + 1) * t.size + (j - es.length) = k * t.size + j from by rw [Nat.add_mul, le]; omega] at this
      exact this
/-- A row's elements, as they lie. -/
def Rd (w : World) (N : Nat → Prop) (t : Ty) (l : List t.den) (A : Option Addr) (c : Nat) : Prop :=
  l.length ≤ c ∧ ∀ i x, l[i]? = some x → ∃ ad, A = some ad ∧ ad.spot = none ∧ ∃ es, RepC w N t x es ∧ ∀ j u, es[j]? = some u → w.cell? (ad.add (i * t.size + j)) = some u
theorem Rd.sub {N : Nat → Prop} {t : Ty} {l : List t.den} {A : Option Addr} {c off n : Nat} (h : Rd w N t l A c) (hn : off + n ≤ l.length) {A' : Option Addr} (hA : off < c → A' = A.map (·.add (off * t.size))) :
    Rd w N t ((l.drop off).take n) A' (c - off) := by
  obtain ⟨h1, h2⟩ := h
  refine ⟨by simp; omega, fun i x hx => ?_⟩
  have hi := (List.getElem?_eq_some_iff.1 hx).1
  simp only [List.length_take, List.length_drop] at hi
  rw [List.getElem?_take, if_pos (by omega), List.getElem?_drop] at hx
  obtain ⟨ad, k1, k2, es, k4, k5⟩ := h2 (off + i) x hx
  refine ⟨ad.add (off * t.size), by rw [hA (by omega), k1]; rfl, add_spot _ _ k2, es, k4, fun j u hj => ?_⟩
  rw [add_add _ _ _ k2]
  have := k5 j u hj
  rw [Nat.add_mul] at this
  rw [← Nat.add_assoc]
  exact this
theorem rd_row (hs : HS w0 X M ι s.ob w) {r : Nat} {e : Nat} {t : Ty} {own : Bool} {l : List t.den} (hr : s.ob r = some (.row e t own l)) : Rd w (Nb w0 M ι s.ob w) t l (ι r).a (ι r).c :=
  ⟨row_len hs hr, fun i x hx => by obtain ⟨ad, k1, k2, _, es, k3, k4⟩ := row_at hs hr hx; exact ⟨ad, k1, k2, es, k3, k4⟩⟩
theorem rd_of (hs : HS w0 X M ι s.ob w) {e : Nat} {t : Ty} {x : AV} {v : Value} {q : List t.den} (h : ofAV s.ob (.sl e t) x = some q) (hx : RepAV ι s.ob x v) : ∃ A c, v = .slice A q.length c ∧ Rd w (Nb w0 M ι s.ob w) t q A c := by
  cases x with
  | nils => cases h; simp only [RepAV] at hx; subst hx; exact ⟨none, 0, rfl, Nat.le_refl _, fun i x hx => by simp at hx⟩
  | whole r =>
    simp only [ofAV] at h
    split at h
    · rename_i e' t' own l hr
      split at h
      · rename_i hh
        obtain ⟨rfl, rfl⟩ := hh
        cases h
        exact ⟨_, _, whole_of hx hr, rd_row hs hr⟩
      · cases h
    · cases h
  | cut r off n =>
    simp only [ofAV] at h
    split at h
    · rename_i e' t' own l hr
      split at h
      · rename_i hh
        obtain ⟨rfl, rfl⟩ := hh
        cases h
        obtain ⟨h1, A, hv, hA, _⟩ := cut_of hx hr
        refine ⟨A, _, ?_, (rd_row hs hr).sub h1 (fun hh => hA (.inl hh))⟩
        rw [hv]
        simp only [castL_self]
        congr 1
        simp
        omega
      · cases h
    · cases h
  | _ => cases h
theorem op_conv_bytes (hs : HS w0 X M ι s.ob w) (ht : TS ι s a) (t0 t : Nat) (ti0 ti : TI) (h0 : TIok P t0 ti0) (h1 : TIok P t ti) (e : Nat) (hk0 : ti0.k = .sl e) (te : TI) (he : TIok P e te) (hke : te.k = .num .u8) (hk : ti.k = .str) (x : Operand) (y : AV) (q : List Int)
    (hx : ev s x = .at y) (hq : ofAV s.ob (.sl e (.int .u8)) y = some q) (tc : List Nat) (ty : TypeId) : Does P (.convert t0 t x) ty a.eval w (Post w0 X M ι s ⟨.at (.str (strOfNums q)), [], tc⟩) := by
  obtain ⟨A, c, hv, hrd⟩ := rd_of hs hq (ev_at ht hx)
  have hu0 := h0.und
  rw [hk0] at hu0
  have hue := he.und
  rw [hke] at hue
  have hu := h1.und
  rw [hk] at hu
  have hr : (convert t0 t (.slice A q.length c)).run P w = .ok (.string (strOfNums q)) w := by
    cases A with
    | none =>
      cases q with
      | nil => rw [run_convert_bytes_nil w t0 e hu0 hue _ c t hu]; rfl
      | cons z q => obtain ⟨ad, h, _⟩ := hrd.2 0 z rfl; cases h
    | some ad =>
      have hl : (loadCells ad q.length).run P w = .ok (q.map (Value.int .u8)).toArray w := by
        have := run_loadCells_list (P := P) w ad (q.map (Value.int .u8)) (fun j v hj => by
          rw [List.getElem?_map, Option.map_eq_some_iff] at hj
          obtain ⟨n, hn, rfl⟩ := hj
          obtain ⟨ad', k1, k2, es, k3, k4⟩ := hrd.2 j n hn
          cases k1
          simp only [RepC] at k3
          subst k3
          have := k4 0 _ rfl
          simpa [Ty.size] using this)
        simpa using this
      rw [run_convert_bytes_string w t0 t e _ q.length c hu0 hue hu, run_bytesToString w _ q.length c q hl, foldl_push_bytes]
      simp [strOfNums, ByteArray.empty, ByteArray.emptyWithCapacity]
      rfl
  exact Does.value (v := .string (strOfNums q)) (w' := w) (fun _ _ _ _ => by simp only [execOp, hv, Sem.run_bind, hr, Result.andThen_ok, Sem.run_pure]) (Post.same hs (d := .at (.str (strOfNums q))) rfl tc)
theorem numsOf_cells (b : ByteArray) : (numsOf b).map (Value.int .u8) = b.data.toList.map fun c => Value.int .u8 (c.toNat : Int) := by
  unfold numsOf
  rw [List.map_map]
  rfl
theorem RepL.ints {N : Nat → Prop} (k : IntKind) : ∀ l : List Int, RepL w N (.int k) l (l.map (Value.int k))
  | [] => rfl
  | x :: r => ⟨[.int k x], r.map (Value.int k), rfl, rfl, RepL.ints k r⟩
theorem op_conv_of_str (hs : HS w0 X M ι s.ob w) (ht : TS ι s a) (t0 t : Nat) (ti0 ti : TI) (h0 : TIok P t0 ti0) (h1 : TIok P t ti) (e : Nat) (hk : ti.k = .sl e) (te : TI) (he : TIok P e te) (hke : te.k = .num .u8) (hk0 : ti0.k = .str) (x : Operand) (b : ByteArray)
    (hx : ev s x = .at (.str b)) (id : Nat) (hid : s.ob id = none) (tc : List Nat) (ty : TypeId) : Does P (.convert t0 t x) ty a.eval w (Post w0 X M ι s ⟨.at (.whole id), [(id, .row e (.int .u8) true (numsOf b))], tc⟩) := by
  have hv : a.eval x = .string b := ev_at ht hx
  have hu0 := h0.und
  rw [hk0] at hu0
  have hue := he.und
  rw [hke] at hue
  have hu := h1.und
  rw [hk] at hu
  have hr := run_bytes_of_string (P := P) w t0 t e b hu0 hu hue
  generalize hcap : grownCap w b.size 0 e = cap at hr
  have hge : b.size ≤ cap := by rw [← hcap]; exact grownCap_ge w b.size 0 e
  have hll : (numsOf b).length = b.size := by
    unfold numsOf
    rw [List.length_map, Array.length_toList]
    rfl
  have hdr : HS w0 X M ι s.ob w.drew := by
    have hN : ∀ b, Nb w0 M ι s.ob w b → Nb w0 M ι s.ob w.drew b ∧ w.drew.heap[b]? = w.heap[b]? := fun b hb => ⟨hb, rfl⟩
    exact ⟨⟨hs.fr.os, hs.fr.tape, hs.fr.output, hs.fr.size, hs.fr.block, hs.fr.gl⟩, fun id o ho => RepO.keep hN (Keeps.refl _ _) rfl (fun _ _ _ => rfl) (hs.obs id o ho), hs.wr, hs.sep⟩
  have hnew := hdr.newBlk id (.row e (.int .u8) true (numsOf b)) cap (.cells (bytesRow b cap) e ((bytesRow b cap).size, (bytesRow b cap).size + 1)) hid trivial (fun N ι' ob' w' hk' hN hi hb => by
    refine ⟨(numsOf b).map (Value.int .u8), ⟨by simp [Ty.size], .inr ⟨w.heap.size, 0, cap, _, _, by rw [hi]; rfl, hb, .inr ⟨rfl, Nat.le_refl _⟩, by omega, ?_, ?_⟩⟩, RepL.ints _ _⟩
    · have e1 : (bytesRow b cap).size = b.size + (cap - b.size) := by unfold bytesRow; rw [Array.size_append, Array.size_map, Array.size_replicate]; rfl
      rw [e1]
      show 0 + cap * 1 ≤ _
      omega
    · simp only [bytesRow, Array.toList_append, Array.toList_map, List.drop_zero, Ty.size, Nat.mul_one, hll]
      have hbl : (b.data.toList.map fun c => Value.int .u8 (c.toNat : Int)).length = b.size := by rw [List.length_map, Array.length_toList]; rfl
      rw [numsOf_cells, List.take_append_of_le_length (Nat.le_of_eq hbl.symm), List.take_of_length_le (Nat.le_of_eq hbl)])
  refine Does.value (fun dst pos after g => by simp only [execOp, hv, Sem.run_bind, hr, Result.andThen_ok, Sem.run_pure]; rfl) ⟨_, hnew, Keeps.new id _ _ hid, rfl, _, upd_same _ _ _, fun t' m' he' => ?_⟩
  cases he'
  rw [upd_same, hll]
  rfl
theorem Rd.flat {N : Nat → Prop} {t : Ty} {l : List t.den} {A : Option Addr} {c : Nat} (h : Rd w N t l A c) (hne : l ≠ []) : ∃ ad news, A = some ad ∧ RepL w N t l news ∧ ∀ j u, news[j]? = some u → w.cell? (ad.add j) = some u := by
  cases l with
  | nil => exact absurd rfl hne
  | cons x r =>
    obtain ⟨ad, h1, h2, _⟩ := h.2 0 x rfl
    obtain ⟨news, h3, h4⟩ := Ro.flat0 ad (x :: r) 0 (fun i y hy => by
      obtain ⟨ad', q1, q2, es, q3, q4⟩ := h.2 i y hy
      rw [h1] at q1
      cases q1
      exact ⟨es, q3, fun j u hj => by rw [Nat.zero_add]; exact q4 j u hj⟩)
    exact ⟨ad, news, h1, h3, fun j u hj => by have := h4 j u hj; rwa [Nat.zero_mul, Nat.zero_add] at this⟩
theorem grownBy_refl (w : World) (row : Option Nat) : w.grownBy w row := ⟨rfl, rfl, rfl, Nat.le_refl _, fun _ _ _ => rfl⟩
/-- Room behind the row. -/
theorem run_append_off (t ty e : TypeId) (i : TypeInfo) (ht : P.underlying t = some (.slice e)) (hi : P.info? e = some i)
    (g o sLen sCap : Nat) (cur : Array Value) (fz : Nat × Nat) (hg : w.heap[g]? = some (.cells cur e fz)) (hfz : NoFz cur fz)
    (a : Addr) (m c : Nat) (news : List Value) (hl : news.length = m * i.size) (hnews : ∀ j u, news[j]? = some u → w.cell? (a.add j) = some u) (h1 : ∀ u ∈ news, u.oneCell' = true)
    (hroom : sLen + m ≤ sCap) (hfit : o + sLen * i.size + news.length ≤ cur.size) :
    (Builtin.append_ #[t, t] ty #[.slice (some ⟨g, o, none⟩) sLen sCap, .slice (some a) m c]).run P w =
      .ok (.slice (some ⟨g, o, none⟩) (sLen + m) sCap) (w.setRow g (cur.toList.take (o + sLen * i.size) ++ news ++ cur.toList.drop (o + sLen * i.size + news.length)).toArray) := by
  have hf := run_firstCells_some (P := P) w i.size m a m c news hl hnews
  have hst := run_storeCells_fz P g (o + sLen * i.size) e fz news 0 cur w hg hfz (by simpa using hfit) h1
  simp only [Nat.add_zero] at hst
  simp [Builtin.append_, run_underlying ht, sizeOf, typeInfo, hi, Builtin.lenOf, hroom, hf, Addr.add_mid, hst]
/-- What an append comes to. -/
theorem run_append {N : Nat → Prop} (t ty e : Nat) (ti te : TI) (hti : TIok P t ti) (hk : ti.k = .sl e) (hte : TIok P e te) (v : Value) (n : Nat) (xs : List Value) (hown : OwnAt w e te.sz v n xs) (q : List te.ty.den) (A : Option Addr) (c : Nat) (hro : Rd w N te.ty q A c)
    (hb : (n + q.length) * te.bytes ≤ 140737488355328) :
    ∃ v' w' news, (Builtin.append_ #[t, t] ty #[v, .slice A q.length c]).run P w = .ok v' w' ∧ OwnAt w' e te.sz v' (n + q.length) (xs ++ news) ∧ RepL w N te.ty q news ∧ w.grownBy w' v.ownBlock ∧ (v'.ownBlock = v.ownBlock ∨ v'.ownBlock = some w.heap.size) := by
  have hu := hti.und
  rw [hk] at hu
  obtain ⟨i, z, i1, i2, i3, i4, i5, i6⟩ := hte.info
  have hzs : z.cells.size = te.sz := by rw [← hte.zl, ← i5]; simp
  have h63 : n + q.length ≤ maxLen := by
    have := Nat.le_mul_of_pos_right (n + q.length) hte.bpos
    rw [maxLen_pos]; omega
  by_cases hq : q = []
  · subst hq
    refine ⟨v, w, [], ?_, by simpa using hown, rfl, grownBy_refl w _, .inl rfl⟩
    rcases hown.2 with ⟨rfl, rfl⟩ | ⟨g, o, cap, cur, fz, rfl, _, _, hnc, _⟩
    · cases A <;> simp [Builtin.append_, run_underlying hu, sizeOf, typeInfo, i1, Builtin.lenOf, Builtin.firstCells, loadCells, loadCellsFrom]
    · cases A <;> simp [Builtin.append_, run_underlying hu, sizeOf, typeInfo, i1, Builtin.lenOf, Builtin.firstCells, hnc, storeCells, loadCells, loadCellsFrom]
  · obtain ⟨ad, news, rfl, h1, h2⟩ := hro.flat hq
    have hl1 : news.length = q.length * te.sz := by rw [RepL.len h1, hte.ty]
    rcases hown.2 with ⟨rfl, rfl⟩ | ⟨g, o, cap, cur, fz, rfl, hg, hfz, hnc, hcs, htake⟩
    · have hx : xs = [] := List.eq_nil_of_length_eq_zero (by simpa using hown.1)
      subst hx
      obtain ⟨v', w', k1, k2, k3, _, k5⟩ := run_append_own_at (P := P) w 0 t ty e i z te.sz te.bytes hu i1 i4 i2 i3 hzs hte.pos (.slice none 0 0) 0 [] (World.ownsRow_nil w 0 e te.sz) ad q.length c news hl1 h2 (RepL.one h1) h63 hb (Nat.zero_le _)
      exact ⟨v', w', news, k1, OwnAt.of k2, h1, k3, k5⟩
    · have hlen : (xs ++ news).length = (n + q.length) * te.sz := by rw [List.length_append, hown.1, hl1, Nat.add_mul]
      by_cases hroom : n + q.length ≤ cap
      · have hm : (n + q.length) * te.sz ≤ cap * te.sz := Nat.mul_le_mul_right _ hroom
        have hfit : o + n * i.size + news.length ≤ cur.size := by rw [i2, hl1]; rw [Nat.add_mul] at hm; omega
        have hr := run_append_off (P := P) (w := w) t ty e i hu i1 g o n cap cur fz hg hfz.to ad q.length c news (by rw [i2]; exact hl1) h2 (RepL.one h1) hroom hfit
        have hsz : (cur.toList.take (o + n * i.size) ++ news ++ cur.toList.drop (o + n * i.size + news.length)).toArray.size = cur.size := by simp; omega
        refine ⟨_, _, news, hr, ⟨hlen, .inr ⟨g, o, cap, _, fz, rfl, setRow_heap w g cur _ e _ hg, hfz.size hsz, hroom, by rw [hsz]; exact hcs, ?_⟩⟩, h1, ⟨rfl, rfl, rfl, by simp, fun k _ hk => setRow_other w g k _ (fun e => hk (by simp [Value.ownBlock, e]))⟩, .inl rfl⟩
        rw [List.toList_toArray, splice_drop _ _ _ _ _ (by simp; omega), i2, htake, ← hlen]
        exact List.take_left
      · have holds : ∀ j u, xs[j]? = some u → w.cell? ((⟨g, o, none⟩ : Addr).add j) = some u := by
          intro j u hu
          rw [Addr.add_mid, cell_of_row w g _ cur e fz hg]
          rw [← htake, List.getElem?_take] at hu
          split at hu
          · simpa using hu
          · cases hu
        have hr := run_append_grow (P := P) w t ty e i z hu i1 i4 ⟨g, o, none⟩ n cap xs (by rw [i2]; exact hown.1) holds ad q.length c news (by rw [i2]; exact hl1) h2 (by omega) (by rw [maxLen_pos] at h63; omega) (growslice_fits (by omega) (by rw [i3]; exact hb))
        have hge := grownCap_ge w (n + q.length) cap e
        refine ⟨_, _, news, hr, ⟨hlen, .inr ⟨w.heap.size, 0, _, _, (0, 0), rfl, heap_alloc_new w.drew _, .inl (Nat.le_refl _), hge, ?_, ?_⟩⟩, h1, ⟨rfl, rfl, rfl, by simp, fun k hk _ => Below.heap_alloc w.drew _ k hk⟩, .inr rfl⟩
        · simp only [Array.size_append, List.size_toArray, size_zeroCells, hzs, hown.1, hl1, ← Nat.add_mul, Nat.zero_add]
          apply Nat.le_of_eq
          congr 1
          omega
        · simp only [Array.toList_append, List.append_assoc, List.drop_zero]
          rw [← List.append_assoc, ← hlen]
          exact List.take_left
theorem own_slice' {e sz n : Nat} {v : Value} {xs : List Value} (h : OwnAt w e sz v n xs) : ∃ A c, v = .slice A n c := by
  rcases h.2 with ⟨rfl, rfl⟩ | ⟨g, o, cap, cur, fz, rfl, _⟩
  · exact ⟨_, _, rfl⟩
  · exact ⟨_, _, rfl⟩
/-- The row that is appended to: none, or one of the call's own. -/
def OldR (ι : Nat → In) (ob : Ob) (id e : Nat) (t : Ty) (l : List t.den) (v : Value) : Option Nat → Prop
  | none => v.ownBlock = none ∧ l = []
  | some r => r ≠ id ∧ ob r = some (.row e t true l) ∧ v = .slice (ι r).a l.length (ι r).c
def deadL : Option Nat → List (Nat × Obj) | none => [] | some r => [(r, .dead)]
def oldOb (ob : Ob) : Option Nat → Ob | none => ob | some r => upd ob r (some .dead)
/-- The row that an append leaves. -/
theorem HS.appended {ob : Ob} (h : HS w0 X M ι ob w) (id e : Nat) (t : Ty) (l lr : List t.den) (xs : List Value) (v v' : Value) (w' : World) (A' : Option Addr) (c' : Nat) (hv' : v' = .slice A' lr.length c') (hid : ob id = none) (old : Option Nat)
    (ho : OldR ι ob id e t l v old)
    (hown : OwnAt w' e t.size v' lr.length xs) (hrep : RepL w (Nb w0 M ι ob w) t lr xs) (hg : w.grownBy w' v.ownBlock) (hb : v'.ownBlock = v.ownBlock ∨ v'.ownBlock = some w.heap.size) :
    let ob' := upd (oldOb ob old) id (some (.row e t true lr))
    HS w0 X M (upd ι id ⟨A', c', []⟩) ob' w' ∧ Keeps ι (upd ι id ⟨A', c', []⟩) ob ob' := by
  intro ob'
  have hk : Keeps ι (upd ι id ⟨A', c', []⟩) ob ob' := by
    cases old with
    | none => exact Keeps.new id _ _ hid
    | some r =>
      obtain ⟨hr0, hr1, hr2⟩ := ho
      exact (Keeps.put r _ .dead hr1 trivial).trans (Keeps.new id _ _ (by rw [upd_ne _ _ _ _ (fun e => hr0 e.symm)]; exact hid))
  have hvb : ∀ b, v.ownBlock = some b → ∃ r, old = some r ∧ ∃ ad, (ι r).a = some ad ∧ ad.block = b := by
    intro b hb'
    cases old with
    | none => rw [ho.1] at hb'; cases hb'
    | some r =>
      obtain ⟨hr0, hr1, hr2⟩ := ho
      rw [hr2] at hb'
      cases ha : (ι r).a with
      | none => rw [ha] at hb'; cases hb'
      | some ad => rw [ha] at hb'; exact ⟨r, rfl, ad, ha, by simpa [Value.ownBlock] using hb'⟩
  have hoth : ∀ j o, j ≠ id → ob' j = some o → Wr o → ob j = some o ∧ old ≠ some j := by
    intro j o hj hjo hw
    simp only [ob', upd_ne _ _ _ _ hj] at hjo
    unfold oldOb at hjo
    cases old with
    | none => exact ⟨hjo, by simp⟩
    | some r =>
      by_cases e : j = r
      · subst e; simp only [upd_same] at hjo; cases hjo; exact hw.elim
      · simp only [upd_ne _ _ _ _ e] at hjo; exact ⟨hjo, fun k => e (by cases k; rfl)⟩
  have hnb : ∀ ad, A' = some ad → (∃ r, old = some r ∧ ∃ ad0, (ι r).a = some ad0 ∧ ad0.block = ad.block) ∨ ad.block = w.heap.size := by
    intro ad ha
    rw [hv', ha] at hb
    rcases hb with hb | hb
    · obtain ⟨r, h1, ad0, h2, h3⟩ := hvb ad.block (by simpa [Value.ownBlock] using hb.symm)
      exact .inl ⟨r, h1, ad0, h2, h3⟩
    · right; simpa [Value.ownBlock] using hb
  have hheap : ∀ b, b < w.heap.size → (∀ r, old = some r → ∀ ad, (ι r).a = some ad → ad.block ≠ b) → w'.heap[b]? = w.heap[b]? := fun b hb' hne => hg.block b hb' (fun k => by
    obtain ⟨r, h1, ad, h2, h3⟩ := hvb b k.symm
    exact hne r h1 ad h2 h3)
  have hheapW : ∀ b, b < w.heap.size → ¬ W ι ob b → w'.heap[b]? = w.heap[b]? := fun b hb' hW => hheap b hb' (fun r hr ad ha hbk => by
    subst hr
    exact hW ⟨r, _, ho.2.1, trivial, hbk ▸ Blk.main ha⟩)
  refine ⟨h.step0 (h.fr_step hg.os hg.tape hg.output hg.size hheapW) hg.size hheapW hk ?_ ?_ ?_, hk⟩
  · rintro b ⟨j, o, h1, h2, h3⟩
    by_cases e : j = id
    · subst e
      rw [upd_same] at h3
      obtain ⟨ad, h3', rfl⟩ := Blk.one rfl h3
      rcases hnb ad h3' with ⟨r, hr, ad0, q1, q2⟩ | q
      · subst hr; exact .inl ⟨r, _, ho.2.1, trivial, q2 ▸ Blk.main q1⟩
      · exact .inr (by omega)
    · rw [upd_ne _ _ _ _ e] at h3
      exact .inl ⟨j, o, (hoth j o e h1 h2).1, h2, h3⟩
  · have key : ∀ j o b, j ≠ id → ob' j = some o → Wr o → Blk (upd ι id ⟨A', c', []⟩ j) o b → Blk ⟨A', c', []⟩ (.row e t true lr) b → False := by
      intro j o b hj h1 h2 h3 h4
      obtain ⟨k1, k2⟩ := hoth j o hj h1 h2
      rw [upd_ne _ _ _ _ hj] at h3
      obtain ⟨ad', h4, h5⟩ := Blk.one rfl h4
      rcases hnb ad' h4 with ⟨r, hr, ad0, q1, q2⟩ | q
      · subst hr
        exact k2 (by rw [h.sep r j _ o b ho.2.1 k1 trivial h2 (by rw [← h5, ← q2]; exact Blk.main q1) h3])
      · have := (h.obs j o k1).lt h2 h3
        omega
    intro j j' o o' b a1 a2 a3 a4 a5 a6
    by_cases e1 : j = id <;> by_cases e2 : j' = id
    · rw [e1, e2]
    · subst e1; rw [upd_same] at a5; simp only [ob', upd_same] at a1; cases a1; exact (key j' o' b e2 a2 a4 a6 a5).elim
    · subst e2; rw [upd_same] at a6; simp only [ob', upd_same] at a2; cases a2; exact (key j o b e1 a1 a3 a5 a6).elim
    · rw [upd_ne _ _ _ _ e1] at a5
      rw [upd_ne _ _ _ _ e2] at a6
      exact h.sep j j' o o' b (hoth j o e1 a1 a3).1 (hoth j' o' e2 a2 a4).1 a3 a4 a5 a6
  · intro hN j o ho'
    by_cases e1 : j = id
    · subst e1
      simp only [ob', upd_same] at ho'
      cases ho'
      right
      refine ⟨xs, ?_, RepL.mono hN hrep⟩
      rw [upd_same, ← hv']
      exact hown
    · by_cases hdead : ∃ r, old = some r ∧ j = r
      · obtain ⟨r, hr, rfl⟩ := hdead
        subst hr
        simp only [ob', upd_ne _ _ _ _ e1, oldOb, upd_same] at ho'
        cases ho'
        exact .inr trivial
      · have hj : ob j = some o := by
          simp only [ob', upd_ne _ _ _ _ e1] at ho'
          unfold oldOb at ho'
          cases old with
          | none => exact ho'
          | some r => simp only [upd_ne _ _ _ _ (fun e => hdead ⟨r, rfl, e⟩ : j ≠ r)] at ho'; exact ho'
        refine .inl ⟨hj, upd_ne _ _ _ _ e1, fun hw b ha => hheap _ ((h.obs j o hj).lt hw ha) fun r hr ad0 h0 hbk => ?_⟩
        subst hr
        exact hdead ⟨r, rfl, (h.sep r j _ o b ho.2.1 hj trivial hw (hbk ▸ Blk.main h0) ha).symm⟩
theorem op_append {cx : Cx} (htt : TTok P cx.tt) (hs : HS w0 X M ι s.ob w) (hXM : ∀ b, X b → M b) (ht : TS ι s a) (t : Nat) (ti : TI) (hti : TIok P t ti) (e : Nat) (hk : ti.k = .sl e) (te : TI) (hte : TIok P e te) (x y : Operand) (xa ya : AV) (hx : ev s x = .at xa) (hy : ev s y = .at ya)
    (q : List te.ty.den) (hq : ofAV s.ob (.sl e te.ty) ya = some q) (id : Nat) (hid : s.ob id = none) (old : Option Nat) (l : List te.ty.den) (ho : match old with | none => xa = .nils ∧ l = [] | some r => xa = .whole r ∧ s.ob r = some (.row e te.ty true l) ∧ ya.ids.any (Nat.beq r) = false)
    (hb : (l.length + q.length) * te.bytes ≤ 140737488355328) (tc : List Nat) (ty : TypeId) :
    Does P (.call ⟨.builtin .append, #[x, y], #[t, t]⟩) ty a.eval w (Post w0 X M ι s ⟨.at (.whole id), deadL old ++ [(id, .row e te.ty true (l ++ q))], tc⟩) := by
  obtain ⟨A, c, hv, hro⟩ := rd_of hs hq (ev_at ht hy)
  -- the row that is appended to
  have hold : ∃ v xs, a.eval x = v ∧ OwnAt w e te.sz v l.length xs ∧ RepL w (Nb w0 M ι (s.ob) w) te.ty l xs ∧
      OldR ι (s.ob) id e te.ty l v old := by
    cases old with
    | none =>
      obtain ⟨rfl, rfl⟩ := ho
      have : a.eval x = .slice none 0 0 := ev_at ht hx
      exact ⟨_, [], this, ⟨by simp, .inl ⟨rfl, rfl⟩⟩, rfl, ⟨rfl, rfl⟩⟩
    | some r =>
      obtain ⟨rfl, h1, h2⟩ := ho
      have hr1 := h1
      obtain ⟨xs, q1, q2⟩ := hs.obs r _ hr1
      rw [hte.ty] at q1
      exact ⟨_, xs, whole_of (ev_at ht hx) h1, q1, q2, ⟨fun e => (by subst e; rw [hid] at h1; cases h1), hr1, rfl⟩⟩
  obtain ⟨v, xs, hxv, hown, hrl, hold⟩ := hold
  obtain ⟨v', w', news, k1, k2, k3, k4, k5⟩ := run_append (P := P) t ty e ti te hti hk hte v l.length xs hown q A c hro hb
  have hll : l.length + q.length = (l ++ q).length := by simp
  rw [hll] at k2
  obtain ⟨A', c', hv'⟩ := own_slice' k2
  have hty := hte.ty
  obtain ⟨m1, m2⟩ := HS.appended hs id e te.ty l (l ++ q) (xs ++ news) v v' w' A' c' hv' hid old hold (by rw [hty]; exact k2) (RepL.append hrl k3) k4 k5
  have hob : updL s.ob (deadL old ++ [(id, .row e te.ty true (l ++ q))]) =
      upd (oldOb (s.ob) old) id (some (.row e te.ty true (l ++ q))) := by
    rw [updL_append]
    cases old <;> rfl
  refine Does.value (v := v') (w' := w') (fun _ _ _ _ => ?_) ⟨upd ι id ⟨A', c', []⟩, ?_, ?_, ?_⟩
  · rw [run_call]
    simp only [builtin, List.map_toArray, List.map_cons, List.map_nil, hxv, hv, Sem.run_bind, k1, Result.andThen_ok]
    rfl
  · rw [hob]; exact m1
  · rw [hob]; exact m2
  · rw [hob]
    refine ⟨by rw [hv']; rfl, _, upd_same _ _ _, fun t' m' he => ?_⟩
    cases he
    rw [upd_same, hv']

theorem RepL.drop' {N : Nat → Prop} {t : Ty} : ∀ {l : List t.den} {cs : List Value} (n : Nat), RepL w N t l cs → RepL w N t (l.drop n) (cs.drop (n * t.size))
  | l, cs, 0, h => by simpa using h
  | [], cs, n + 1, h => by simp only [RepL] at h; subst h; simp [RepL]
  | x :: r, cs, n + 1, h => by
    simp only [RepL] at h
    obtain ⟨c1, c2, rfl, h1, h2⟩ := h
    have l1 := RepC.len h1
    have e : (n + 1) * t.size = c1.length + n * t.size := by rw [l1, Nat.add_mul]; omega
    have e2 : (c1 ++ c2).drop (c1.length + n * t.size) = c2.drop (n * t.size) := by rw [← List.drop_drop, List.drop_left]
    rw [e, e2]
    exact RepL.drop' n h2
theorem madeCells_zero (z : Array Value) (n : Nat) : Builtin.zeroCells z n = madeCells z (n * z.size) := rfl
theorem rep_zeros {te : TI} {t : Nat} (hte : TIok P t te) {zd : te.ty.den} {z : Value} (hzd : ofAVs s.ob te.ty te.z = some zd) (hz1 : z.cells.toList.map AV.ofV = te.z) (N : Nat → Prop) (m : Nat) : RepL w N te.ty (List.replicate m zd) (madeCells z.cells (m * te.sz)).toList := by
  have hzs : z.cells.size = te.sz := by rw [← hte.zl, ← hz1]; simp
  exact RepL.of_get (by simp [madeCells, hte.ty]) (fun i x hx => by
    have hi := (List.getElem?_eq_some_iff.1 hx).1
    rw [List.getElem?_replicate] at hx
    simp only [List.length_replicate] at hi
    rw [if_pos hi] at hx
    cases hx
    rw [hte.ty, made_get z.cells m i te.sz hzs hi hte.pos]
    exact rep_zero (s := s) hte hzd hz1 N)
theorem op_clear (hs : HS w0 X M ι s.ob w) (ht : TS ι s a) (t : Nat) (ti : TI) (hti : TIok P t ti) (e : Nat) (hk : ti.k = .sl e) (te : TI) (hte : TIok P e te) (x : Operand) (r off n : Nat) (hx : ev s x = .at (.cut r off n)) (l : List te.ty.den) (hr : s.ob r = some (.row e te.ty true l)) (zd : te.ty.den) (hzd : ofAVs s.ob te.ty te.z = some zd) (tc : List Nat) (ty : TypeId) :
    Does P (.call ⟨.builtin .clear, #[x], #[t]⟩) ty a.eval w (Post w0 X M ι s ⟨.at .undef, [(r, .row e te.ty true (l.take off ++ (List.replicate n zd ++ l.drop (off + n))))], tc⟩) := by
  obtain ⟨hle, A, hv, hA, _⟩ := cut_of (ev_at ht hx) hr
  have hu := hti.und
  rw [hk] at hu
  obtain ⟨i, z, i1, i2, i3, i4, i5, i6⟩ := hte.info
  have hzs : z.cells.size = te.sz := by rw [← hte.zl, ← i5]; simp
  by_cases hn : n = 0
  · subst hn
    have hl : l.take off ++ (List.replicate 0 zd ++ l.drop (off + 0)) = l := by simp
    rw [hl]
    refine Does.value (v := .tuple #[]) (w' := w) (fun _ _ _ _ => ?_) ⟨ι, ?_, ?_, trivial⟩
    · rw [run_call]
      simp only [builtin, List.map_toArray, List.map_cons, List.map_nil, hv, Sem.run_bind]
      cases A <;> simp [Builtin.clear_, run_underlying hu]
    · have := hs.put r _ (.row e te.ty true l) hr trivial ⟨rfl, rfl, rfl⟩ rfl rfl rfl rfl (w' := w) (fun _ _ => rfl) (fun N ob' hk hN _ => by
        obtain ⟨xs, q1, q2⟩ := hs.obs r _ hr
        exact ⟨xs, q1, RepL.mono hN q2⟩)
      exact this
    · exact Keeps.put r _ _ hr ⟨rfl, rfl, rfl⟩
  obtain ⟨xs, ⟨q1, q2⟩, q3⟩ := hs.obs r _ hr
  rcases q2 with ⟨_, q5⟩ | ⟨g, o, cap, cur, fz, e1, e3, ef, e4, e6, e7⟩
  · omega
  have ea : (ι r).a = some ⟨g, o, none⟩ := by injection e1
  have ec : (ι r).c = cap := by injection e1
  have hA' := hA (.inl (by omega))
  rw [ea] at hA'
  simp only [Option.map_some, Addr.add_mid] at hA'
  have hts := hte.ty
  have lx := RepL.len q3
  have hm1 : off * te.ty.size + n * te.ty.size ≤ l.length * te.ty.size := by rw [← Nat.add_mul]; exact Nat.mul_le_mul_right _ hle
  have hm2 : l.length * te.ty.size ≤ cap * te.ty.size := Nat.mul_le_mul_right _ (by omega)
  have lz : (madeCells z.cells (n * te.sz)).toList.length = n * te.ty.size := by simp [madeCells, hts]
  have hrz := rep_zeros (w := w) (s := s) hte hzd i5 (Nb w0 M ι s.ob w) n
  have hst := run_storeCells_fz P g (o + off * te.ty.size) e fz (madeCells z.cells (n * te.sz)).toList 0 cur w e3 ef.to (by rw [lz]; omega) (RepL.one hrz)
  simp only [Nat.add_zero] at hst
  rw [lz] at hst
  have hll : (l.take off ++ (List.replicate n zd ++ l.drop (off + n))).length = l.length := by simp; omega
  refine Does.value (v := .tuple #[]) (w' := w.setRow g (cur.toList.take (o + off * te.ty.size) ++ (madeCells z.cells (n * te.sz)).toList ++ cur.toList.drop (o + off * te.ty.size + n * te.ty.size)).toArray) (fun _ _ _ _ => ?_) ⟨ι, ?_, ?_, trivial⟩
  · rw [run_call]
    have hzv : (zeroValue e).run P w = .ok z w := by simp [zeroValue, typeInfo, i1, i4]
    have hn1 : ∃ k, n = k + 1 := ⟨n - 1, by omega⟩
    obtain ⟨k, rfl⟩ := hn1
    simp only [builtin, List.map_toArray, List.map_cons, List.map_nil, hv, hA', Sem.run_bind]
    simp only [Builtin.clear_, run_underlying hu, Sem.run_bind, List.getElem?_toArray, List.getElem?_cons_zero, Result.andThen_ok, hzv, madeCells_zero, hzs, hst, Sem.run_pure]
  · refine hs.put r _ (.row e te.ty true (l.take off ++ (List.replicate n zd ++ l.drop (off + n)))) hr trivial ⟨rfl, rfl, hll.symm⟩ (setRow_size _) rfl rfl rfl (fun b' hb' => setRow_heap_ne _ (hb' _ ea)) (fun N ob' hk hN _ => ?_)
    refine ⟨xs.take (off * te.ty.size) ++ ((madeCells z.cells (n * te.sz)).toList ++ xs.drop ((off + n) * te.ty.size)), ⟨?_, .inr ⟨g, o, cap, _, fz, by rw [ea, ec, hll], setRow_heap w g cur _ e _ e3, ef.size (by simp [lz]; omega), by rw [hll]; exact e4, ?_, ?_⟩⟩, RepL.append (RepL.take off (RepL.mono hN q3)) (RepL.append (RepL.mono hN hrz) (RepL.drop' (off + n) (RepL.mono hN q3)))⟩
    · rw [hll]; simp [lz, Nat.add_mul]; omega
    · simp [lz]; omega
    · rw [hll, List.toList_toArray, splice_drop _ _ _ _ _ (by simp; omega), ← e7, Nat.add_mul, ← List.append_assoc]
      have := splice_take (cur.toList.drop o) (madeCells z.cells (n * te.sz)).toList (off * te.ty.size) (l.length * te.ty.size) (by rw [lz]; omega) (by simp; omega)
      rw [lz] at this
      exact this
  · exact Keeps.put r _ _ hr ⟨rfl, rfl, hll.symm⟩

/-! Structs compared. -/
theorem ite_some' {R : Type} {c : Prop} [Decidable c] {x : Option R} {r : R} (h : (if c then x else none) = some r) : c ∧ x = some r := by by_cases hc : c <;> simp_all
def KU (P : Program) (t : Nat) : TK → Prop
  | .num k => P.underlying t = some (.int k) | .bool => P.underlying t = some .bool | .str => P.underlying t = some .string | _ => False
theorem run_eqAV {k : TK} {x y : AV} {b : Bool} {u v : Value} (h : eqAV k x y = some b) (hx : RepAV ι s.ob x u) (hy : RepAV ι s.ob y v) (t : Nat) (hu : KU P t k) (d : Nat) :
    (Op.equalIn (d + 1) t u v).run P w = .ok b w := by
  unfold eqAV at h
  split at h
  · rename_i k0 k1 m k2 n
    have h' := ite_some' h
    obtain rfl := h'.1
    have h2 := h'.2
    cases h2
    simp only [RepAV] at hx hy
    subst hx; subst hy
    rw [Op.equalIn, Sem.run_bind, run_underlying (show P.underlying t = some (.int k0) from hu)]
    simp
  · cases h
    simp only [RepAV] at hx hy
    subst hx; subst hy
    rw [Op.equalIn, Sem.run_bind, run_underlying (show P.underlying t = some .bool from hu)]
    rfl
  · cases h
    simp only [RepAV] at hx hy
    subst hx; subst hy
    rw [Op.equalIn, Sem.run_bind, run_underlying (show P.underlying t = some .string from hu)]
    rfl
  · cases h
theorem run_part {tp : TI} {t : Nat} (htp : TIok P t tp) (cs : List Value) (off : Nat) (hl : (subL cs off tp.sz).length = tp.sz) : (part t cs.toArray off).run P w = .ok (if tp.agg then .agg (subL cs off tp.sz).toArray else (subL cs off tp.sz).headD undef) w := by
  simp only [part, Sem.run_bind, run_isAgg htp, Result.andThen_ok]
  cases hg : tp.agg
  · simp only [Bool.false_eq_true, if_false]
    have l1 : tp.sz = 1 := by
      obtain ⟨i, z, _, h2, _, _, h5, h6⟩ := htp.info
      rw [hg] at h6
      simp only [Bool.false_eq_true, if_false] at h6
      rw [← htp.zl, ← h5, h6]; rfl
    match hc : subL cs off tp.sz, (by omega : (subL cs off tp.sz).length = 1) with
    | [u], _ =>
      have : cs[off]? = some u := sub_get (off := off) (n := tp.sz) (j := 0) (by rw [hc]; rfl)
      simp [this]
  · simp only [if_true, run_sizeOf htp, Sem.run_bind, Sem.run_pure, Result.andThen_ok]
    congr 2
    apply Array.ext'
    simp [subL, List.extract_toArray, Array.toList_extract, List.extract_eq_take_drop]
theorem eqF_sound {tt : Nat → Option TI} (htt : TTok P tt) (d : Nat) (rec : Nat → List AV → List AV → Option Bool) (hrec : ∀ t xs ys b us vs, rec t xs ys = some b → All2 (RepAV ι s.ob) xs us → All2 (RepAV ι s.ob) ys vs → (Op.equalIn (d + 1) t (.agg us.toArray) (.agg vs.toArray)).run P w = .ok b w)
    (xs ys : List AV) (us vs : List Value) (hx : All2 (RepAV ι s.ob) xs us) (hy : All2 (RepAV ι s.ob) ys vs) : ∀ (fs : List (Nat × Nat)) (F : List Field) (b : Bool), fs.length = F.length → (∀ (i : Nat) (p : Nat × Nat), fs[i]? = some p → ∃ f : Field, F[i]? = some f ∧ f.offset = p.1 ∧ f.type = p.2) → (∀ f ∈ F, (f.name == "_") = false) →
      eqF tt rec xs ys fs = some b → (Op.eqFields (d + 1) us.toArray vs.toArray F).run P w = .ok b w
  | [], [], b, _, _, _, h => by cases h; simp [Op.eqFields]
  | [], _ :: _, _, hl, _, _, _ => by cases hl
  | _ :: _, [], _, hl, _, _, _ => by cases hl
  | p :: r, f :: F, b, hl, hf, hn, h => by
    obtain ⟨f', e1, e2, e3⟩ := hf 0 p rfl
    simp at e1
    subst e1
    have hn' : f.name ≠ "_" := by simpa using hn f (by simp)
    simp only [eqF] at h
    obtain ⟨tp, h1, h⟩ := Option.bind_eq_some_iff.1 h
    have htp := htt _ _ h1
    have hl2 : (subL xs p.1 tp.sz).length = tp.sz ∧ (subL ys p.1 tp.sz).length = tp.sz := by
      by_cases hc : (subL xs p.1 tp.sz).length = tp.sz ∧ (subL ys p.1 tp.sz).length = tp.sz
      · exact hc
      · rw [if_neg hc] at h; cases h
    rw [if_pos hl2] at h
    obtain ⟨b1, h2, h⟩ := Option.bind_eq_some_iff.1 h
    have hsx := All2.sub p.1 tp.sz hx
    have hsy := All2.sub p.1 tp.sz hy
    have pa := run_part (P := P) (w := w) htp us p.1 (by rw [← All2.len hsx]; exact hl2.1)
    have pb := run_part (P := P) (w := w) htp vs p.1 (by rw [← All2.len hsy]; exact hl2.2)
    have he : (Op.equalIn (d + 1) p.2 (if tp.agg then .agg (subL us p.1 tp.sz).toArray else (subL us p.1 tp.sz).headD undef) (if tp.agg then .agg (subL vs p.1 tp.sz).toArray else (subL vs p.1 tp.sz).headD undef)).run P w = .ok b1 w := by
      cases hg : tp.agg <;> rw [hg] at h2 <;> simp only [cond_true, cond_false] at h2
      · simp only [Bool.false_eq_true, if_false]
        match hc : subL xs p.1 tp.sz, hd : subL ys p.1 tp.sz, h2 with
        | [x], [y], h2 =>
          rw [hc] at hsx
          rw [hd] at hsy
          match hc' : subL us p.1 tp.sz, hsx with
          | [u], hsx =>
            match hd' : subL vs p.1 tp.sz, hsy with
            | [v], hsy =>
              refine run_eqAV h2 hsx.1 hsy.1 p.2 ?_ d
              have hu := htp.und
              cases hk : tp.k with
              | num k => rw [hk] at hu; exact hu
              | bool => rw [hk] at hu; exact hu
              | str => rw [hk] at hu; exact hu
              | _ => rw [hk] at h2; simp [eqAV] at h2
      · simp only [if_true]
        exact hrec _ _ _ _ _ _ h2 hsx hsy
    cases r with
    | nil =>
      cases h
      cases F with
      | cons _ _ => cases hl
      | nil =>
        simp only [Op.eqFields, if_pos hn', Sem.run_bind, e2, e3, pa, pb, he, Result.andThen_ok]
        cases b <;> simp
    | cons p' r' =>
      obtain ⟨c, h3, h⟩ := Option.bind_eq_some_iff.1 h
      cases h
      have ih := eqF_sound htt d rec hrec xs ys us vs hx hy (p' :: r') F c (by simpa using hl) (fun i q hq => by simpa using hf (i + 1) q (by simpa using hq)) (fun f hf => hn f (by simp [hf])) h3
      rw [Op.eqFields]
      simp only [if_pos hn', Sem.run_bind, e2, e3, pa, pb, he, Result.andThen_ok]
      cases b1
      · simp
      · simpa using ih
theorem eqA_sound {tt : Nat → Option TI} (htt : TTok P tt) : ∀ (n e : Nat) (t : Nat) (xs ys : List AV) (b : Bool) (us vs : List Value), eqA tt (n + 1) t xs ys = some b → All2 (RepAV ι s.ob) xs us → All2 (RepAV ι s.ob) ys vs →
    (Op.equalIn (n + 1 + e + 1) t (.agg us.toArray) (.agg vs.toArray)).run P w = .ok b w := by
  intro n
  induction n with
  | zero =>
    intro e t xs ys b us vs h hx hy
    simp only [eqA] at h
    obtain ⟨ti, h1, h⟩ := Option.bind_eq_some_iff.1 h
    split at h
    · rename_i fs hk
      have hu := (htt _ _ h1).und
      rw [hk] at hu
      obtain ⟨F, hu, ⟨hF1, hF2, hF3, hF4⟩, hF⟩ := hu
      have hf : P.fieldsOf t = F := by simp [Program.fieldsOf, hu]
      rw [run_equalIn_struct (P := P) w _ t us.toArray vs.toArray (by rw [hf]; exact hu) hF3, hf]
      rw [show 0 + 1 + e = 0 + e + 1 from by omega]
      exact eqF_sound htt (0 + e) _ (fun t xs ys b us vs h _ _ => by cases h) xs ys us vs hx hy fs F.toList b (by simp [hF2]) (fun i p hp => by obtain ⟨f, k1, k2, k3, _⟩ := hF i p hp; exact ⟨f, by simpa using k1, k2, k3⟩) (fun f hf => (hF1 f hf).2) h
    · cases h
  | succ n ih =>
    intro e t xs ys b us vs h hx hy
    rw [eqA] at h
    obtain ⟨ti, h1, h⟩ := Option.bind_eq_some_iff.1 h
    split at h
    · rename_i fs hk
      have hu := (htt _ _ h1).und
      rw [hk] at hu
      obtain ⟨F, hu, ⟨hF1, hF2, hF3, hF4⟩, hF⟩ := hu
      have hf : P.fieldsOf t = F := by simp [Program.fieldsOf, hu]
      rw [run_equalIn_struct (P := P) w _ t us.toArray vs.toArray (by rw [hf]; exact hu) hF3, hf]
      have e0 : n + 1 + 1 + e = (n + 1 + e) + 1 := by omega
      rw [e0]
      exact eqF_sound htt (n + 1 + e) _ (fun t xs ys b us vs h h2 h3 => ih e t xs ys b us vs h h2 h3) xs ys us vs hx hy fs F.toList b (by simp [hF2]) (fun i p hp => by obtain ⟨f, k1, k2, k3, _⟩ := hF i p hp; exact ⟨f, by simpa using k1, k2, k3⟩) (fun f hf => (hF1 f hf).2) h
    · cases h
theorem op_eq_agg {tt : Nat → Option TI} (htt : TTok P tt) (hs : HS w0 X M ι s.ob w) (ht : TS ι s a) (op : BinOp) (t yt : Nat) (x y : Operand) (xs ys : List AV) (hx : ev s x = .agg xs) (hy : ev s y = .agg ys) (c : Bool) (hc : eqA tt 5 t xs ys = some c) (y0 : AV)
    (ho : op = .eql ∧ y0 = .bool c ∨ op = .neq ∧ y0 = .bool (!c)) (ty : TypeId) : Does P (.binOp op t x y yt) ty a.eval w (Post w0 X M ι s ⟨.at y0, [], []⟩) := by
  have hx' := RepDV.ev ht x
  have hy' := RepDV.ev ht y
  rw [hx] at hx'
  rw [hy] at hy'
  obtain ⟨us, h1, h2⟩ := hx'
  obtain ⟨vs, h3, h4⟩ := hy'
  have he : (Op.equal t (.agg us.toArray) (.agg vs.toArray)).run P w = .ok c w := by
    show (Op.equalIn (4 + 1 + 9994 + 1) t _ _).run P w = _
    exact eqA_sound htt 4 9994 t xs ys c us vs hc h2 h4
  have hg : (eqGuard op t x y (.agg us.toArray) (.agg vs.toArray)).run P w = .ok () w := by
    simp only [eqA] at hc
    obtain ⟨ti, k1, k2⟩ := Option.bind_eq_some_iff.1 hc
    split at k2
    · rename_i fs hk
      have hu := (htt _ _ k1).und
      rw [hk] at hu
      obtain ⟨F, hu, ⟨hF1, hF2, hF3, hF4⟩, hF⟩ := hu
      rcases ho with ⟨rfl, _⟩ | ⟨rfl, _⟩ <;> simp [eqGuard, hF4]
    · cases k2
  rcases ho with ⟨rfl, rfl⟩ | ⟨rfl, rfl⟩
  · refine Does.value (v := .bool c) (w' := w) (fun _ _ _ _ => ?_) (Post.same hs (d := .at (.bool c)) rfl [])
    simp only [execOp, h1, h3, Sem.run_bind, hg, Result.andThen_ok, binOp, he, Sem.run_pure]
  · refine Does.value (v := .bool (!c)) (w' := w) (fun _ _ _ _ => ?_) (Post.same hs (d := .at (.bool (!c))) rfl [])
    simp only [execOp, h1, h3, Sem.run_bind, hg, Result.andThen_ok, binOp, he, Sem.run_pure]
/-! Arrays of numbers: a row of the call's own, reached by a pointer to its first element. -/
theorem arr_of {t : Nat} {ti : TI} (h : TIok P t ti) {ik : IntKind} (hA : ti.arr = some ik) : ∃ e n, ti.k = .arr e ik n ∧ P.underlying t = some (.array n e) ∧ (∃ j, P.info? e = some j ∧ j.size = 1) ∧ ti.sz = n ∧ ti.z = List.replicate n (.int ik 0) := by
  unfold TI.arr at hA
  split at hA
  · rename_i e k n hk
    cases hA
    have hu := h.und
    rw [hk] at hu
    exact ⟨e, n, hk, hu⟩
  · cases hA
theorem RepL.intsA {N : Nat → Prop} {k : IntKind} : ∀ (l : List Int), RepL w N (.int k) l (l.map (Value.int k))
  | [] => rfl
  | x :: r => ⟨[.int k x], r.map (Value.int k), rfl, rfl, RepL.intsA r⟩
theorem ofV_int {k : IntKind} {n : Int} {v : Value} (h : AV.ofV v = .int k n) : v = .int k n := by
  unfold AV.ofV at h
  split at h <;> first | (cases h; done) | (injection h with a b; subst a b; rfl)
theorem ofV_zeros {k : IntKind} : ∀ (n : Nat) (l : List Value), l.map AV.ofV = List.replicate n (.int k 0) → l = (List.replicate n (0 : Int)).map (Value.int k)
  | 0, l, h => by simpa using h
  | n + 1, [], h => by simp [List.replicate_succ] at h
  | n + 1, v :: r, h => by
    simp only [List.map_cons, List.replicate_succ, List.cons.injEq] at h
    rw [ofV_int h.1, ofV_zeros n r h.2]
    rfl
theorem op_alloc_arr (hs : HS w0 X M ι s.ob w) (t : Nat) (ti : TI) (hti : TIok P t ti) (ik : IntKind) (hA : ti.arr = some ik) (id : Nat) (hid : s.ob id = none) (ty : TypeId) :
    Does P (.alloc t) ty a.eval w (Post w0 X M ι s ⟨.at (.eptr id 0 0), [(id, .row t (.int ik) true (zeroI ti.sz))], [id]⟩) := by
  obtain ⟨z, hz, hz1, hz2, hz3⟩ := run_zero hti
  obtain ⟨e, n, hk, hu, he, hn, hzz⟩ := arr_of hti hA
  have hpos := hti.pos
  rw [hzz] at hz1
  have hzc := ofV_zeros n _ hz1
  rw [← hn] at hzc
  have hlz : (zeroI ti.sz).length = ti.sz := by simp [zeroI]
  refine Does.value (v := .pointer (some ⟨w.heap.size, 0, none⟩)) (w' := w.alloc (.cells z.cells t)) (fun _ _ _ _ => ?_) ?_
  · simp only [execOp, Instr.alloc, newVar, newRow, Sem.run_bind, Sem.run_pure, Result.andThen_ok, hz, run_newObj]; rfl
  · have h := hs.newBlk id (.row t (.int ik) true (zeroI ti.sz)) ti.sz (.cells z.cells t) hid trivial (fun N ι' ob' w' hk hN hi hb => by
      refine ⟨_, ⟨?_, .inr ⟨w.heap.size, 0, ti.sz, _, (0, 0), by simp [hi], hb, .inl (Nat.le_refl _), by simp [zeroI], ?_, ?_⟩⟩, RepL.intsA (zeroI ti.sz)⟩
      · simp [Ty.size]
      · have : z.cells.size = ti.sz := by rw [← Array.length_toList, hzc]; simp
        simp [Ty.size, this]
      · rw [hzc, List.drop_zero]
        exact List.take_of_length_le (by simp [zeroI, Ty.size]))
    refine ⟨_, h, Keeps.new id _ _ hid, rfl, _, upd_same _ _ _, fun t' m' he' => ?_⟩
    cases he'
    rw [upd_same]
    exact ⟨by rw [show List.length (α := Ty.den (.int ik)) (zeroI ti.sz) = ti.sz from hlz]; exact hpos, _, rfl, rfl, rfl⟩
theorem ints_rep {k : IntKind} : ∀ {c : List AV} {q : List Int} {us : List Value}, intsOf k c = some q → All2 (RepAV ι s.ob) c us → us = q.map (Value.int k) ∧ q.length = c.length
  | [], q, [], h, _ => by cases h; exact ⟨rfl, rfl⟩
  | [], _, _ :: _, _, h => h.elim
  | x :: c, q, [], _, h => h.elim
  | x :: c, q, u :: us, h, h2 => by
    cases x with
    | int k' n =>
      simp only [intsOf] at h
      obtain ⟨rfl, h⟩ := ite_some' h
      obtain ⟨q', h3, h⟩ := Option.bind_eq_some_iff.1 h
      cases h
      obtain ⟨e1, e2⟩ := ints_rep h3 h2.2
      have hu : u = .int k' n := h2.1
      rw [e1, hu]
      exact ⟨rfl, by simp [e2]⟩
    | _ => simp [intsOf] at h
theorem op_store_arr (hs : HS w0 X M ι s.ob w) (ht : TS ι s a) (t : Nat) (ti : TI) (hti : TIok P t ti) (x y : Operand) (r : Nat) (hx : ev s x = .at (.eptr r 0 0)) (e : Nat) (ik : IntKind) (l : List Int) (hr : s.ob r = some (.row e (.int ik) true l))
    (c : List AV) (hc : (ev s y).cells = some c) (hl : c.length = ti.sz) (hll : l.length = ti.sz) (q : List Int) (hq : intsOf ik c = some q) (tc : List Nat) (ty : TypeId) :
    Does P (.store t x y) ty a.eval w (Post w0 X M ι s ⟨.at .undef, [(r, .row e (.int ik) true q)], tc⟩) := by
  obtain ⟨hi, ad, h1, _, h2⟩ := eptr_of (ev_at ht hx) hr
  obtain ⟨us, k1, k2⟩ := RepDV.cells (RepDV.ev ht y) hc
  obtain ⟨hus, hql⟩ := ints_rep hq k2
  obtain ⟨xs, ⟨q1, q2⟩, q3⟩ := hs.obs r _ hr
  have hll' : List.length (α := Ty.den (.int ik)) l = ti.sz := hll
  have hul : us.length = ti.sz := by rw [hus]; simp [hql, hl]
  rcases q2 with ⟨_, q5⟩ | ⟨g, o, cap, cur, fz, e1, e3, ef, e4, e6, e7⟩
  · omega
  have ea : (ι r).a = some ⟨g, o, none⟩ := by injection e1
  have ec : (ι r).c = cap := by injection e1
  rw [ea] at h1
  cases h1
  simp only [Ty.size, Nat.mul_one] at e4 e6 e7
  rw [hll'] at e4 e7
  have h2 : a.eval x = .pointer (some ⟨g, o, none⟩) := by rw [h2]; simp [Addr.add]
  have hst := run_storeCells_fz P g o e fz us 0 cur w e3 ef.to (by omega) (fun v hv => by rw [hus] at hv; obtain ⟨n, _, rfl⟩ := List.mem_map.1 hv; rfl)
  simp only [Nat.add_zero] at hst
  refine Does.skip (fun _ _ _ _ => ?_) ?_ (w' := w.setRow g (cur.toList.take o ++ us ++ cur.toList.drop (o + us.length)).toArray)
  · simp only [execOp, h2, Instr.storeAt, Instr.sureAddr, Sem.run_bind, Sem.run_pure, Result.andThen_ok, storeVar, run_sizeOf hti, k1]
    have : (us.toArray.size ≠ ti.sz) = False := by simp; omega
    simp only [this, if_false]
    rw [hst]
    rfl
  · have hsh : Sh (.row e (.int ik) true l) (.row e (.int ik) true q) := ⟨rfl, rfl, by show List.length (α := Int) l = List.length (α := Int) q; omega⟩
    have hp := hs.put r _ (.row e (.int ik) true q) hr trivial hsh (setRow_size _) rfl rfl rfl (w' := w.setRow g (cur.toList.take o ++ us ++ cur.toList.drop (o + us.length)).toArray) (fun b' hb' => setRow_heap_ne _ (hb' _ ea))
      (fun N ob' hk hN _ => by
        refine ⟨us, ⟨?_, .inr ⟨g, o, cap, _, fz, ?_, setRow_heap w g cur _ e _ e3, ef.size (by simp; omega), ?_, ?_, ?_⟩⟩, by rw [hus]; exact RepL.intsA q⟩
        · show us.length = List.length (α := Int) q * 1; omega
        · rw [ea, ec]
        · show List.length (α := Int) q ≤ cap; omega
        · simp [Ty.size]; omega
        · show List.take (List.length (α := Int) q * 1) (List.drop o (cur.toList.take o ++ us ++ cur.toList.drop (o + us.length)).toArray.toList) = us
          have e8 : (cur.toList.take o).length = o := by simp; omega
          rw [List.append_assoc, List.drop_left' e8]
          exact List.take_left' (by omega))
    refine ⟨ι, ?_, ?_, trivial⟩
    · simp only [updL]; exact hp
    · simp only [updL]; exact Keeps.put r _ _ hr hsh
theorem op_indexAddr_arr (hs : HS w0 X M ι s.ob w) (ht : TS ι s a) (t : Nat) (ti : TI) (hti : TIok P t ti) (m : Nat) (hm : ti.lenA = some m) (x i : Operand) (r : Nat) (k : IntKind) (n : Int) (hx : ev s x = .at (.eptr r 0 0)) (hi : ev s i = .at (.int k n)) {e : Nat} {rt : Ty} {own : Bool} {l : List rt.den} (hr : s.ob r = some (.row e rt own l)) (hsz : rt.size = 1)
    (h0 : 0 ≤ n) (h1 : n < l.length) (h1' : n < m) (tc : List Nat) (ty : TypeId) :
    Does P (.indexAddr t x i) ty a.eval w (Post w0 X M ι s ⟨.at (.eptr r n.toNat 0), [], tc⟩) := by
  have h2 : a.eval i = .int k n := ev_at ht hi
  obtain ⟨_, ad, k1, k2, k3⟩ := eptr_of (ev_at ht hx) hr
  have hu := hti.und
  unfold TI.lenA at hm
  split at hm
  · rename_i e' k' n' hk
    cases hm
    rw [hk] at hu
    obtain ⟨hu, ⟨j, hj, hj1⟩, _⟩ := hu
    refine Does.value (v := .pointer (some (ad.add (n.toNat * rt.size)))) (w' := w) (fun _ _ _ _ => ?_) (Post.same hs (d := .at (.eptr r n.toNat 0)) ⟨rfl, _, hr, fun t' m' he => ?_⟩ tc)
    · simp only [execOp, k3, h2, Instr.indexAt, run_underlying hu, asIntOf, Instr.sureAddr, Sem.run_bind, Sem.run_pure, Result.andThen_ok]
      rw [if_pos ⟨h0, h1'⟩]
      simp [sizeOf, typeInfo, hj, hj1, hsz, Addr.add]
    · cases he; exact ⟨by omega, ad, k1, k2, rfl⟩
  · cases hm
theorem op_build_arr {cx : Cx} (htt : TTok P cx.tt) (hs : HS w0 X M ι s.ob w) (ht : TS ι s a) (t : Nat) (ti : TI) (hti : TIok P t ti) (e : Nat) (ik : IntKind) (n : Nat) (hk : ti.k = .arr e ik n) (ps : Array (Nat × Operand)) (c : List AV) (hc : buildP cx ((List.range n).map fun i => (i, e)) s ti.z ps.toList = some c) (ty : TypeId) :
    Does P (.build t ps) ty a.eval w (Post w0 X M ι s ⟨.agg c, [], []⟩) := by
  obtain ⟨z, hz, hz1, hz2, hz3⟩ := run_zero hti
  have hu := hti.und
  rw [hk] at hu
  obtain ⟨hu, ⟨j, hj, hj1⟩, _⟩ := hu
  have hp : ∀ (i : Nat) (p : Nat × Nat) (tp : TI), ((List.range n).map fun i => (i, e))[i]? = some p → cx.tt p.2 = some tp → (fun i : Nat => some (i * 1, 1)) i = some (p.1, tp.sz) := by
    intro i p tp h1 h2
    simp only [List.getElem?_map, Option.map_eq_some_iff] at h1
    obtain ⟨i', h1, rfl⟩ := h1
    have hi : i' = i := by
      have := List.getElem?_eq_some_iff.1 h1
      obtain ⟨_, h⟩ := this
      simpa using h.symm
    subst hi
    obtain ⟨j', z', q1, q2, _⟩ := (htt _ _ h2).info
    rw [hj] at q1
    cases q1
    simp [← q2, hj1]
  obtain ⟨cs, h1, h2⟩ := rep_buildP htt ht _ _ hp ps.toList ti.z c z.cells.toList hc (by rw [← hz1]; exact All2.ofV ι s.ob _)
  refine Does.value (v := .agg cs.toArray) (w' := w) (fun _ _ _ _ => ?_) (Post.same hs (d := .agg c) ⟨cs, rfl, h2⟩ [])
  have hsz : (sizeOf e).run P w = .ok 1 w := by simp [sizeOf, typeInfo, hj, hj1]
  simp only [execOp, Instr.build, Sem.run_bind, hz, Result.andThen_ok, run_underlying hu, hsz]
  have e : (ps.map fun x => (x.1, a.eval x.2)).toList = ps.toList.map fun p => (p.1, a.eval p.2) := by simp
  simp only [Array.toArray_toList] at h1
  rw [e, h1]
  rfl
theorem RepL.int_eq {N : Nat → Prop} {k : IntKind} : ∀ {l : List Int} {xs : List Value}, RepL w N (.int k) l xs → xs = l.map (Value.int k)
  | [], _, h => h
  | x :: r, _, h => by
    obtain ⟨c1, c2, rfl, h1, h2⟩ := h
    have h1 : c1 = [.int k x] := h1
    rw [h1, RepL.int_eq h2]
    rfl
theorem ints_all {k : IntKind} : ∀ (l : List Int), All2 (RepAV ι s.ob) (l.map (AV.int k)) (l.map (Value.int k))
  | [] => trivial
  | _ :: r => ⟨rfl, ints_all r⟩
theorem res_arr (hs : HS w0 X M ι s.ob w) {t : Nat} {ti : TI} (hti : TIok P t ti) {ik : IntKind} (hA : ti.arr = some ik) {r e : Nat} {l : List Int} {v : Value} (hv : RepAV ι s.ob (.eptr r 0 0) v) (hr : s.ob r = some (.row e (.int ik) true l)) (hl : l.length = ti.sz) :
    ∃ ad u, v = .pointer (some ad) ∧ (loadVar t ad).run P w = .ok u w ∧ RepDV ι s.ob (.agg (l.map (AV.int ik))) u := by
  obtain ⟨hi, ad, h1, _, h2⟩ := eptr_of hv hr
  obtain ⟨xs, ⟨q1, q2⟩, q3⟩ := hs.obs r _ hr
  have hxs := RepL.int_eq q3
  have hll' : List.length (α := Ty.den (.int ik)) l = ti.sz := hl
  rcases q2 with ⟨_, q5⟩ | ⟨g, o, cap, cur, fz, e1, e3, ef, e4, e6, e7⟩
  · omega
  have ea : (ι r).a = some ⟨g, o, none⟩ := by injection e1
  rw [ea] at h1
  cases h1
  have hag : ti.agg = true := by
    obtain ⟨_, _, hk, _⟩ := arr_of hti hA
    unfold TI.agg
    rw [hk]
  have hlr := run_loadVar' (P := P) (w := w) hti ⟨g, o, none⟩ xs (by rw [hxs]; simpa using hl) (fun j u hj => by
    rw [Addr.add_mid, cell_of_row w g (o + j) cur e fz e3]
    rw [← e7, List.getElem?_take, List.getElem?_drop] at hj
    split at hj
    · simpa using hj
    · cases hj)
  rw [hag] at hlr
  exact ⟨_, _, by rw [h2]; simp [Addr.add], hlr, xs, rfl, by rw [hxs]; exact ints_all l⟩
end
end Go.Proofs.YtpinehfjimphmaaGreat.DI
