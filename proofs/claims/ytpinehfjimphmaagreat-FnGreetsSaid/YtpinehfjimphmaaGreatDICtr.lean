/- The machine of values: what a function's run in it says of calls. -/
import Derived.Test.YtpinehfjimphmaaGreatDICode
namespace Go.Proofs.YtpinehfjimphmaaGreat.DI
open Go Go.RowKit
set_option linter.unusedVariables false
set_option linter.unusedSimpArgs false
theorem Alike.of {i j : In} (h : i = j) : Alike i j := by subst h; exact Alike.refl _
/-! Deep rows seen as rows. -/
theorem dv_row {ob : Ob} {r e : Nat} {t : Ty} {own : Bool} {l : List t.den} (h : ob r = some (.row e t own l)) : dv ob r = some (.row e t own l) := by unfold dv; rw [h]
theorem dv_deep {ob : Ob} {r e : Nat} {t : Ty} {l : List t.den} (h : ob r = some (.deep e t l none)) : dv ob r = some (.row e t true l) := by unfold dv; rw [h]
theorem dv_inv {ob : Ob} {r e : Nat} {t : Ty} {own : Bool} {l : List t.den} (h : dv ob r = some (.row e t own l)) : ob r = some (.row e t own l) ∨ (own = true ∧ ob r = some (.deep e t l none)) := by
  unfold dv at h
  split at h
  · rename_i e' t' l' h'
    cases h
    exact .inr ⟨rfl, h'⟩
  · exact .inl h
theorem dv_obj {ob : Ob} {r : Nat} {o : Obj} (h : ob r = some o) : ∃ o', dv ob r = some o' ∧ o'.shp = o.shp ∧ ∀ t c, o' = .box t c → o = .box t c := by
  unfold dv
  rw [h]
  match o with
  | .box t c => exact ⟨_, rfl, rfl, fun _ _ h => h⟩
  | .row e t own l => exact ⟨_, rfl, rfl, fun _ _ h => h⟩
  | .deep e t l none => exact ⟨_, rfl, rfl, fun _ _ h => by cases h⟩
  | .deep e t l (some p) => exact ⟨_, rfl, rfl, fun _ _ h => h⟩
  | .dead => exact ⟨_, rfl, rfl, fun _ _ h => h⟩
theorem RepB.dv {ι : Nat → In} {ob : Ob} {b off : Nat} {v : Value} (h : RepB ι ob b off v) : RepB ι (dv ob) b off v := by
  obtain ⟨h1, o, h2, h3⟩ := h
  obtain ⟨o', k1, _, k3⟩ := dv_obj h2
  exact ⟨h1, o', k1, fun t c e => h3 t c (k3 t c e)⟩
theorem RepAV.dv {ι : Nat → In} {ob : Ob} : ∀ {x : AV} {v : Value}, RepAV ι ob x v → RepAV ι (dv ob) x v
  | .undef, _, _ => trivial
  | .int _ _, _, h => h
  | .bool _, _, h => h
  | .str _, _, h => h
  | .nils, _, h => h
  | .whole r, v, h => by
    obtain ⟨h1, o, h2, h3⟩ := h
    obtain ⟨o', k1, k2, _⟩ := dv_obj h2
    exact ⟨h1, o', k1, fun t m e => h3 t m (k2 ▸ e)⟩
  | .cut r off n, v, h => by
    obtain ⟨h1, o, h2, h3⟩ := h
    obtain ⟨o', k1, k2, _⟩ := dv_obj h2
    exact ⟨h1, o', k1, fun t m e => h3 t m (k2 ▸ e)⟩
  | .bptr _ _, _, h => RepB.dv h
  | .eptr r i off, v, h => by
    obtain ⟨h1, o, h2, h3⟩ := h
    obtain ⟨o', k1, k2, _⟩ := dv_obj h2
    exact ⟨h1, o', k1, fun t m e => h3 t m (k2 ▸ e)⟩
  | .fn _ _, _, h => by
    obtain ⟨vs, e, h⟩ := h
    exact ⟨vs, e, All2.mono (fun _ _ _ h => RepB.dv h) h⟩
/-! Rows of the call's own at a call. -/
theorem mkO_false {e : Nat} {t : Ty} {l : List t.den} : mkO false e t l = .row e t false l := rfl
theorem mkO_plain {e : Nat} {t : Ty} {l : List t.den} (h : t.plain = true) : mkO true e t l = .row e t true l := by unfold mkO; rw [h]; rfl
theorem mkO_deep {e : Nat} {t : Ty} {l : List t.den} (h : t.plain = false) : mkO true e t l = .deep e t l none := by unfold mkO; rw [h]; rfl
theorem mkO_cases {e : Nat} {t : Ty} {l : List t.den} : (t.plain = true ∧ mkO true e t l = .row e t true l) ∨ (t.plain = false ∧ mkO true e t l = .deep e t l none) := by
  cases h : t.plain
  · exact .inr ⟨rfl, mkO_deep h⟩
  · exact .inl ⟨rfl, mkO_plain h⟩
theorem mkO_shp {own : Bool} {e : Nat} {t : Ty} {l : List t.den} : (mkO own e t l).shp = some (t, l.length) := by
  cases own with
  | false => rfl
  | true => rcases mkO_cases (e := e) (l := l) with ⟨_, h⟩ | ⟨_, h⟩ <;> rw [h] <;> rfl
theorem mkO_Wr {e : Nat} {t : Ty} {l : List t.den} : Wr (mkO true e t l) := by
  rcases mkO_cases (e := e) (l := l) with ⟨_, h⟩ | ⟨_, h⟩ <;> rw [h] <;> trivial
theorem dv_mk {ob : Ob} {r e : Nat} {t : Ty} {own : Bool} {l : List t.den} (h : ob r = some (mkO own e t l)) : dv ob r = some (.row e t own l) := by
  cases own with
  | false => exact dv_row h
  | true =>
    rcases mkO_cases (e := e) (l := l) with ⟨_, k⟩ | ⟨_, k⟩ <;> rw [k] at h
    · exact dv_row h
    · exact dv_deep h
theorem okOwn_is {ob : Ob} {i : Nat} (h : okOwn ob i = true) : ∃ e t l, ob i = some (mkO true e t l) := by
  unfold okOwn at h
  split at h
  · rename_i e t l hi; exact ⟨e, t, l, by rw [hi, mkO_plain h]⟩
  · rename_i e t l hi; exact ⟨e, t, l, by rw [hi, mkO_deep (by simpa using h)]⟩
  · cases h
theorem isOwn_ok {s : DS} {r : Nat} (h : isOwn s r = true) : (∃ t c, s.ob r = some (.box t c)) ∨ okOwn s.ob r = true := by
  unfold isOwn at h
  unfold okOwn
  split at h
  · rename_i h'; exact .inl ⟨_, _, h'⟩
  · rename_i h'; rw [h']; exact .inr h
  · rename_i h'; rw [h']; exact .inr h
  · cases h
theorem isOwn_Wr {s : DS} {i : Nat} (h : isOwn s i = true) : ∃ o, s.ob i = some o ∧ Wr o := by
  rcases isOwn_ok h with ⟨t, c, h⟩ | h
  · exact ⟨_, h, trivial⟩
  · obtain ⟨e, t, l, h⟩ := okOwn_is h
    exact ⟨_, h, mkO_Wr⟩
/-- A row of the call's own, of either kind. -/
def isRL : Obj → Prop | .row _ _ true _ => True | .deep _ _ _ none => True | _ => False
theorem mkO_RL {e : Nat} {t : Ty} {l : List t.den} : isRL (mkO true e t l) := by
  rcases mkO_cases (e := e) (l := l) with ⟨_, h⟩ | ⟨_, h⟩ <;> rw [h] <;> trivial
theorem isRL.Wr : ∀ {o : Obj}, isRL o → Wr o
  | .row _ _ true _, _ => trivial
  | .deep _ _ _ none, _ => trivial
/-- What is told of it. -/
def OwnX (w : World) : Obj → In → Prop
  | .row e t true l, i => t.plain = true ∧ Own w (fun _ => False) e t l i.a i.c
  | .deep e t l none, i => DeepOk w e t l i
  | _, _ => False
theorem ownX_plain {w : World} {N : Nat → Prop} {e : Nat} {t : Ty} {l : List t.den} {i : In} (hp : t.plain = true) (h : Own w N e t l i.a i.c) : OwnX w (mkO true e t l) i := by
  rw [mkO_plain hp]
  exact ⟨hp, h.plainF hp⟩
theorem ownX_deep {w : World} {e : Nat} {t : Ty} {l : List t.den} {i : In} (hp : t.plain = false) (h : DeepOk w e t l i) : OwnX w (mkO true e t l) i := by
  rw [mkO_deep hp]
  exact h
theorem OwnX.rep {w : World} {N : Nat → Prop} {ι : Nat → In} {ob : Ob} {id : Nat} : ∀ {o : Obj} {i : In}, OwnX w o i → ι id = i → RepO w N ι ob id o
  | .row e t true l, i, h, hi => by rw [RepO, hi]; exact h.2.plainF h.1
  | .deep e t l none, i, h, hi => by rw [RepO, hi]; exact h
theorem RepO.ownX {w : World} {N : Nat → Prop} {ι : Nat → In} {ob : Ob} {id e : Nat} {t : Ty} {l : List t.den} (h : RepO w N ι ob id (mkO true e t l)) : OwnX w (mkO true e t l) (ι id) := by
  rcases mkO_cases (e := e) (l := l) with ⟨hp, k⟩ | ⟨hp, k⟩
  · rw [k] at h; exact ownX_plain hp h
  · rw [k] at h; exact ownX_deep hp h
theorem OwnX.RL {w : World} : ∀ {o : Obj} {i : In}, OwnX w o i → isRL o
  | .row _ _ true _, _, _ => trivial
  | .deep _ _ _ none, _, _ => trivial
theorem ownX_nil {w : World} {e : Nat} {t : Ty} : OwnX w (mkO true e t []) ⟨none, 0, []⟩ := by
  cases hp : t.plain
  · exact ownX_deep hp ⟨[], ⟨by simp, .inl ⟨rfl, rfl⟩⟩, ⟨rfl, rfl⟩, by simp [In.blks]⟩
  · exact ownX_plain (N := fun _ => False) hp nil_own
/-! Deep rows that are read alone. -/
theorem OwnAt.ro {w : World} {N : Nat → Prop} {e : Nat} {t : Ty} {l : List t.den} {A : Option Addr} {c : Nat} {xs : List Value} (h1 : OwnAt w e t.size (.slice A l.length c) l.length xs) (h2 : RepL w N t l xs) (hN : ∀ ad, A = some ad → N ad.block) : Ro w N t l A c := by
  obtain ⟨h3, h4⟩ := h1
  rcases h4 with ⟨h6, h5⟩ | ⟨g, o, cap, cur, fz, e1, e3, ef, e4, e6, e7⟩
  · refine ⟨by omega, fun i x hx => ?_⟩
    rw [List.length_eq_zero_iff.1 h5] at hx; simp at hx
  · have ea : A = some ⟨g, o, none⟩ := by injection e1
    have ec : c = cap := by injection e1
    refine ⟨by omega, fun i x hx => ?_⟩
    obtain ⟨es, k1, k2⟩ := RepL.get h2 hx
    refine ⟨_, ea, rfl, hN _ ea, es, k1, fun j u hj => ?_⟩
    rw [Addr.add_mid, cell_of_row w g _ cur e fz e3]
    have := k2 j u hj
    rw [← e7, List.getElem?_take] at this
    split at this
    · simpa using this
    · cases this
theorem RepD.toC {w : World} {N : Nat → Prop} : ∀ {t : Ty} {x : t.den} {cs : List Value} {bs : List Nat}, RepD w t x cs bs → (∀ b ∈ bs, N b) → RepC w N t x cs
  | .unit, _, _, _, h, _ => h.1
  | .int _, _, _, _, h, _ => h.1
  | .bool, _, _, _, h, _ => h.1
  | .str, _, _, _, h, _ => h.1
  | .sl _ t, l, cs, bs, h, hb => by
    simp only [RepD] at h
    obtain ⟨A, c, e1, ⟨xs, o1, o2⟩, h2⟩ := h
    have := OwnAt.ro (N := N) o1 (RepL.mono (fun _ k => k.elim) o2) (fun ad ha => hb _ (by rw [h2, ha]; simp))
    exact ⟨A, c, e1, this.1, this.2⟩
  | .two _ _, _, _, _, h, hb => by
    simp only [RepD] at h
    obtain ⟨c1, c2, b1, b2, ⟨e1, e2⟩, h1, h2⟩ := h
    subst e2
    exact ⟨c1, c2, e1, RepD.toC h1 (fun b k => hb b (List.mem_append_left _ k)), RepD.toC h2 (fun b k => hb b (List.mem_append_right _ k))⟩
theorem RepDL.toL {w : World} {N : Nat → Prop} {t : Ty} : ∀ {l : List t.den} {cs : List Value} {bs : List Nat}, RepDL w t l cs bs → (∀ b ∈ bs, N b) → RepL w N t l cs
  | [], _, _, h, _ => h.1
  | _ :: _, _, _, h, hb => by
    simp only [RepDL] at h
    obtain ⟨c1, c2, b1, b2, ⟨e1, e2⟩, h1, h2⟩ := h
    subst e2
    exact ⟨c1, c2, e1, RepD.toC h1 (fun b k => hb b (List.mem_append_left _ k)), RepDL.toL h2 (fun b k => hb b (List.mem_append_right _ k))⟩
theorem DeepOk.ro {w : World} {N : Nat → Prop} {e : Nat} {t : Ty} {l : List t.den} {i : In} (h : DeepOk w e t l i) (hN : ∀ b ∈ i.blks, N b) : Ro w N t l i.a i.c := by
  obtain ⟨xs, h1, h2, _⟩ := h
  exact OwnAt.ro h1 (RepDL.toL h2 fun b k => hN b (mem_blks.2 (.inr k))) fun ad ha => hN _ (mem_blks.2 (.inl ⟨ad, ha, rfl⟩))
section
variable {w0 : World} {X M : Nat → Prop} {ι : Nat → In} {w : World} {ob : Ob}
/-- Only the word on an object changes. -/
theorem HS.word (h : HS w0 X M ι ob w) (id : Nat) (o o' : Obj) (hid : ob id = some o) (hwr : Wr o) (hs : Sh o o')
    (hr : ∀ N ob', Keeps ι ι ob ob' → (∀ b, Nb w0 M ι ob w b → N b) → (¬ Wr o' → ∀ b, Blk (ι id) o b → b < w.heap.size → (M b ∨ w0.heap.size ≤ b) → N b) → RepO w N ι ob' id o') :
    HS w0 X M ι (upd ob id (some o')) w := by
  have hk := Keeps.put (ι := ι) id o o' hid hs
  refine h.step h.fr (Nat.le_refl _) (fun _ _ _ => rfl) hk (fun j o1 b ho hw ha => .inl ?_) (fun j j' o1 o2 b a1 a2 a3 a4 a5 a6 a7 => ?_) (fun hN j o1 ho => ?_)
  · by_cases e : j = id
    · subst e
      rw [upd_same] at ho
      cases ho
      exact ⟨o, hid, hwr, Blk.sh hs hw ha⟩
    · rw [upd_ne _ _ _ _ e] at ho; exact ⟨o1, ho, hw, ha⟩
  · by_cases e : j = id
    · subst e
      rw [upd_same] at a1
      cases a1
      have := (h.obs _ o hid).lt hwr (Blk.sh hs a3 a5)
      omega
    · rw [upd_ne _ _ _ _ e] at a1
      have := (h.obs j o1 a1).lt a3 a5
      omega
  · by_cases e : j = id
    · subst e
      rw [upd_same] at ho
      cases ho
      refine .inr (hr _ _ hk (fun b hb => (hN b hb).1) fun hn b hb hlt hM => ⟨hlt, hM, ?_⟩)
      rintro ⟨j', o2, k1, k2, k3⟩
      by_cases e' : j' = j
      · subst e'; rw [upd_same] at k1; cases k1; exact hn k2
      · rw [upd_ne _ _ _ _ e'] at k1
        exact e' (h.sep j' j o2 o _ k1 hid k2 hwr k3 hb)
    · rw [upd_ne _ _ _ _ e] at ho
      exact .inl ⟨ho, rfl, fun _ _ _ => rfl⟩
/-- A deep row is given away. -/
theorem HS.freezeDeep (h : HS w0 X M ι ob w) (hXM : ∀ b, X b → M b) {r e : Nat} {t : Ty} {l : List t.den} (hr : ob r = some (.deep e t l none)) : HS w0 X M ι (upd ob r (some (.row e t false l))) w := by
  refine h.word r _ (.row e t false l) hr trivial ⟨rfl, rfl, rfl⟩ (fun N ob' hk hN hb => ?_)
  have ho := h.obs r _ hr
  refine DeepOk.ro (e := e) ho fun b hb' => ?_
  refine hb (fun hw => hw) b hb' (ho.lt trivial hb') ?_
  rcases h.wr _ ⟨r, _, hr, trivial, hb'⟩ with q | q
  · exact .inr q
  · exact .inl (hXM _ q)
def FrzD (ob : Ob) (l : List (Nat × Obj)) : Prop := ∀ p ∈ l, ∃ e t own x, dv ob p.1 = some (.row e t own x) ∧ p.2 = .row e t false x
theorem dv_upd_ne {i j : Nat} {o : Option Obj} (h : j ≠ i) : dv (upd ob i o) j = dv ob j := by unfold dv; rw [upd_ne _ _ _ _ h]
theorem dv_upd_row {i e : Nat} {t : Ty} {own : Bool} {l : List t.den} : dv (upd ob i (some (.row e t own l))) i = some (.row e t own l) := dv_row (upd_same _ _ _)
theorem HS.frzD (hXM : ∀ b, X b → M b) : ∀ {ob : Ob} (l : List (Nat × Obj)), HS w0 X M ι ob w → FrzD ob l → HS w0 X M ι (updL ob l) w ∧ Keeps ι ι ob (updL ob l) ∧
    (∀ r e t own x, dv ob r = some (.row e t own x) → ∃ own', dv (updL ob l) r = some (.row e t own' x) ∧ (own = false → own' = false) ∧ (r ∈ outIds l → own' = false)) ∧ (∀ r, r ∉ outIds l → updL ob l r = ob r)
  | ob, [], h, _ => ⟨h, Keeps.refl _ _, fun r e t own x hr => ⟨own, hr, id, fun h => by simp [outIds] at h⟩, fun _ _ => rfl⟩
  | ob, (r, o) :: q, h, hl => by
    obtain ⟨e, t, own, x, h1, h2⟩ := hl (r, o) (by simp)
    simp only at h1 h2
    subst h2
    have step : HS w0 X M ι (upd ob r (some (.row e t false x))) w ∧ Keeps ι ι ob (upd ob r (some (.row e t false x))) := by
      rcases dv_inv h1 with k | ⟨rfl, k⟩
      · refine ⟨?_, Keeps.put r _ _ k ⟨rfl, rfl, rfl⟩⟩
        cases own with
        | true => exact h.freeze1 hXM k
        | false => rw [upd_self k]; exact h
      · exact ⟨h.freezeDeep hXM k, Keeps.put r _ _ k ⟨rfl, rfl, rfl⟩⟩
    obtain ⟨step, hk⟩ := step
    have hl' : FrzD (upd ob r (some (.row e t false x))) q := by
      intro p hp
      obtain ⟨e', t', own', x', k1, k2⟩ := hl p (by simp [hp])
      by_cases e0 : p.1 = r
      · rw [e0, h1] at k1; cases k1; exact ⟨_, _, false, _, by rw [e0, dv_upd_row], k2⟩
      · exact ⟨_, _, own', _, by rw [dv_upd_ne e0]; exact k1, k2⟩
    obtain ⟨m1, m2, m3, m4⟩ := HS.frzD hXM q step hl'
    refine ⟨m1, hk.trans m2, fun r' e' t' own' x' hr' => ?_, fun r' hr' => ?_⟩
    · by_cases e0 : r' = r
      · subst e0
        rw [h1] at hr'
        cases hr'
        obtain ⟨o1, q1, q2, q3⟩ := m3 r' _ _ false _ dv_upd_row
        exact ⟨o1, q1, fun _ => q2 rfl, fun _ => q2 rfl⟩
      · obtain ⟨o1, q1, q2, q3⟩ := m3 r' e' t' own' x' (by rw [dv_upd_ne e0]; exact hr')
        refine ⟨o1, q1, q2, fun hm => q3 ?_⟩
        simp only [outIds, List.map_cons, List.mem_cons] at hm
        exact hm.resolve_left e0
    · simp only [outIds, List.map_cons, List.mem_cons, not_or] at hr'
      have := m4 r' hr'.2
      simp only [updL]
      rw [this, upd_ne _ _ _ _ hr'.1]
theorem freezeD_is {l : List AV} {p : Nat × Obj} (h : p ∈ freezeD ob l) : p.1 ∈ idsOf l ∧ ∃ e t x, dv ob p.1 = some (.row e t true x) ∧ p.2 = .row e t false x := by
  simp only [freezeD, List.mem_filterMap] at h
  obtain ⟨r, hr, h⟩ := h
  split at h
  · rename_i e t x k; cases h; exact ⟨hr, e, t, x, dv_row k, rfl⟩
  · rename_i e t x k; cases h; exact ⟨hr, e, t, x, dv_deep k, rfl⟩
  · cases h
theorem freezeD_frz (ob : Ob) (l : List AV) : FrzD ob (freezeD ob l) := fun p hp => by
  obtain ⟨_, e, t, x, h1, h2⟩ := freezeD_is hp
  exact ⟨e, t, true, x, h1, h2⟩
theorem freezeD_mem {l : List AV} {r : Nat} (hr : r ∈ idsOf l) {e : Nat} {t : Ty} {x : List t.den} (h : dv ob r = some (.row e t true x)) : r ∈ outIds (freezeD ob l) := by
  simp only [outIds, freezeD, List.mem_map, List.mem_filterMap]
  rcases dv_inv h with k | ⟨_, k⟩
  · exact ⟨(r, .row e t false x), ⟨r, hr, by rw [k]⟩, rfl⟩
  · exact ⟨(r, .row e t false x), ⟨r, hr, by rw [k]⟩, rfl⟩
theorem freezeD_ids {l : List AV} {r : Nat} (h : r ∈ outIds (freezeD ob l)) : r ∈ idsOf l := by
  obtain ⟨p, h1, rfl⟩ := List.mem_map.1 h
  exact (freezeD_is h1).1
/-- What a call hands over to be read: its rows, deep ones too, are given away. -/
theorem HS.giveD (hXM : ∀ b, X b → M b) (h : HS w0 X M ι ob w) (l : List AV) :
    HS w0 X M ι (updL ob (freezeD ob l)) w ∧ Keeps ι ι ob (updL ob (freezeD ob l)) ∧ (∀ r, r ∉ idsOf l → updL ob (freezeD ob l) r = ob r) ∧
    (∀ r ∈ idsOf l, ∀ e t own x, dv ob r = some (.row e t own x) → Ro w (Nb w0 M ι (updL ob (freezeD ob l)) w) t x (ι r).a (ι r).c) := by
  obtain ⟨h1, h2, h3, h4⟩ := HS.frzD hXM (freezeD ob l) h (freezeD_frz ob l)
  refine ⟨h1, h2, fun r hr => h4 r fun k => hr (freezeD_ids k), fun r hr e t own x ho => ?_⟩
  obtain ⟨own', k1, k2, k3⟩ := h3 r e t own x ho
  have : own' = false := by
    cases own with
    | false => exact k2 rfl
    | true => exact k3 (freezeD_mem hr ho)
  subst this
  rcases dv_inv k1 with k | ⟨k, _⟩
  · exact h1.obs r _ k
  · cases k
end
/-- A slot's value is a cell. -/
def IsC (ob : Ob) (y : AV) (c : Cell) : Prop := ofAV (dv ob) c.t y = some c.v
theorem cells_of : ∀ {ob : Ob} {t : Ty} {l : List AV} {x : t.den}, ofAVs (dv ob) t l = some x → All2 (IsC ob) l (Ty.cells t x)
  | ob, .two a b, x :: r, y, h => by
    simp only [ofAVs] at h
    obtain ⟨y1, h1, h⟩ := Option.bind_eq_some_iff.1 h
    obtain ⟨y2, h2, h⟩ := Option.bind_eq_some_iff.1 h
    cases h
    have s1 := ofAV_size h1
    have : Ty.cells a y1 = [⟨a, y1⟩] := by
      cases a <;> first | rfl | (simp [ofAV] at h1; done) | (cases x <;> simp [ofAV] at h1)
    simp only [Ty.cells, this]
    exact ⟨h1, cells_of h2⟩
  | ob, .two _ _, [], y, h => by cases h
  | ob, .unit, [], _, _ => trivial
  | ob, .unit, _ :: _, _, h => by cases h
  | ob, .int k, [x], y, h => ⟨h, trivial⟩
  | ob, .bool, [x], y, h => ⟨h, trivial⟩
  | ob, .str, [x], y, h => ⟨h, trivial⟩
  | ob, .sl e t, [x], y, h => ⟨h, trivial⟩
  | ob, .int _, [], _, h => by cases h
  | ob, .bool, [], _, h => by cases h
  | ob, .str, [], _, h => by cases h
  | ob, .sl _ _, [], _, h => by cases h
  | ob, .int _, _ :: _ :: _, _, h => by cases h
  | ob, .bool, _ :: _ :: _, _, h => by cases h
  | ob, .str, _ :: _ :: _, _, h => by cases h
  | ob, .sl _ _, _ :: _ :: _, _, h => by cases h
def inOf : Value → In | .slice a _ c => ⟨a, c, []⟩ | _ => ⟨none, 0, []⟩
/-- The places of the rows that cells become. -/
def insOf : Nat → List Cell → List Value → List (Nat × In)
  | id, ⟨.sl _ _, _⟩ :: r, u :: us => (id, inOf u) :: insOf (id + 1) r us
  | id, _ :: r, _ :: us => insOf (id + 1) r us
  | _, _, _ => []
/-- A cell's value: numbers as they are, a row's place. -/
def CellV : Cell → Value → Prop
  | ⟨.int k, n⟩, u => u = .int k n
  | ⟨.bool, b⟩, u => u = .bool b
  | ⟨.str, s⟩, u => u = .string s
  | ⟨.sl _ t, l⟩, u => ∃ A c, u = .slice A (List.length (α := t.den) l) c
  | _, _ => False
/-- What is told of the row of a cell. -/
def CellR (own : Bool) (w : World) (N : Nat → Prop) : Cell → Value → Prop
  | ⟨.sl e t, l⟩, u => if own then Own w N e t l (inOf u).a (inOf u).c else Ro w N t l (inOf u).a (inOf u).c
  | _, _ => True
theorem toOwns_cons (own : Bool) (id : Nat) (c : Cell) (r : List Cell) : toOwns own id (c :: r) = ((c.toOwn own id).1 :: (toOwns own (id + 1) r).1, (c.toOwn own id).2 ++ (toOwns own (id + 1) r).2) := rfl
theorem insOf_fst (own : Bool) : ∀ (id : Nat) (cs : List Cell) (us : List Value), cs.length = us.length → (insOf id cs us).map Prod.fst = outIds (toOwns own id cs).2
  | id, [], [], _ => rfl
  | id, [], _ :: _, h => by cases h
  | id, _ :: _, [], h => by cases h
  | id, ⟨t, v⟩ :: r, u :: us, h => by
    rw [toOwns_cons]
    have ih := insOf_fst own (id + 1) r us (by simpa using h)
    cases t <;> simp [insOf, Cell.toOwn, Cell.toAV, outIds] at ih ⊢ <;> exact ih
/-- The slots that cells become, in any state that has their rows. -/
theorem toOwns_rep (own : Bool) {ι0 : Nat → In} {ob0 : Ob} : ∀ (id : Nat) (cs : List Cell) (us : List Value), All2 CellV cs us → (∀ p ∈ (toOwns own id cs).2, ob0 p.1 = some p.2) → (∀ p ∈ insOf id cs us, Alike (ι0 p.1) p.2) → All2 (RepAV ι0 ob0) (toOwns own id cs).1 us
  | id, [], [], _, _, _ => trivial
  | id, [], _ :: _, h, _, _ => h.elim
  | id, _ :: _, [], h, _, _ => h.elim
  | id, ⟨t, v⟩ :: r, u :: us, h, ho, hi => by
    rw [toOwns_cons] at ho ⊢
    have ih : ∀ (h1 : ∀ p ∈ insOf (id + 1) r us, Alike (ι0 p.1) p.2), All2 (RepAV ι0 ob0) (toOwns own (id + 1) r).1 us := fun h1 => toOwns_rep own (id + 1) r us h.2 (fun p hp => ho p (List.mem_append_right _ hp)) h1
    have hv := h.1
    cases t with
    | unit => exact hv.elim
    | two a b => exact hv.elim
    | int k => exact ⟨hv, ih fun p hp => hi p hp⟩
    | bool => exact ⟨hv, ih fun p hp => hi p hp⟩
    | str => exact ⟨hv, ih fun p hp => hi p hp⟩
    | sl e t =>
      obtain ⟨A, c, rfl⟩ := hv
      refine ⟨⟨rfl, _, ho (id, mkO own e t v) (by simp [Cell.toOwn]), fun t' m' he => ?_⟩, ih fun p hp => hi p (List.mem_cons_of_mem _ hp)⟩
      rw [mkO_shp] at he
      cases he
      have hh := hi (id, inOf (.slice A (List.length (α := t.den) v) c)) (by simp [insOf])
      simp only at hh
      rw [hh.1, hh.2]
      rfl
theorem toOwns_obj {ι0 : Nat → In} {w : World} {N : Nat → Prop} : ∀ (id : Nat) (cs : List Cell) (us : List Value), All2 (CellR false w N) cs us → (∀ p ∈ insOf id cs us, ι0 p.1 = p.2) →
    ∀ p ∈ (toOwns false id cs).2, ∃ e t l, p.2 = .row e t false l ∧ Ro w N t l (ι0 p.1).a (ι0 p.1).c
  | id, [], [], _, _ => by intro p hp; cases hp
  | id, [], _ :: _, h, _ => h.elim
  | id, _ :: _, [], h, _ => h.elim
  | id, ⟨t, v⟩ :: r, u :: us, h, hi => by
    rw [toOwns_cons]
    intro p hp
    rcases List.mem_append.1 hp with hp | hp
    · cases t <;> simp [Cell.toOwn, Cell.toAV] at hp
      subst hp
      refine ⟨_, _, v, rfl, ?_⟩
      rw [hi (id, inOf u) (by simp [insOf])]
      exact h.1
    · refine toOwns_obj (id + 1) r us h.2 (fun q hq => hi q ?_) p hp
      cases t <;> first | exact hq | exact List.mem_cons_of_mem _ hq
theorem CellV.of {N : Nat → Prop} {w : World} {c : Cell} {u : Value} (h : RepC w N c.t c.v [u]) (hs : c.t.size = 1) (h2 : ∀ a b, c.t ≠ .two a b) : CellV c u ∧ CellR false w N c u := by
  obtain ⟨t, v⟩ := c
  cases t with
  | unit => cases hs
  | two a b => exact (h2 a b rfl).elim
  | int k => simp only [RepC, List.cons.injEq, and_true] at h; exact ⟨h, trivial⟩
  | bool => simp only [RepC, List.cons.injEq, and_true] at h; exact ⟨h, trivial⟩
  | str => simp only [RepC, List.cons.injEq, and_true] at h; exact ⟨h, trivial⟩
  | sl e t =>
    obtain ⟨A, c, h1, h2⟩ := Ro.of_cell h
    simp only [List.cons.injEq, and_true] at h1
    subst h1
    exact ⟨⟨A, c, rfl⟩, h2⟩
theorem IsC.whole {ob : Ob} {i e : Nat} {t : Ty} {own : Bool} {l : List t.den} {c : Cell} (h : IsC ob (.whole i) c) (hob : dv ob i = some (.row e t own l)) : c = ⟨.sl e t, l⟩ := by
  obtain ⟨ct, cv⟩ := c
  unfold IsC at h
  cases ct <;> simp only [ofAV, hob] at h <;> try (cases h; done)
  split at h
  · rename_i hh
    obtain ⟨rfl, rfl⟩ := hh
    cases h
    rfl
  · cases h
theorem IsC.own {ob : Ob} {i e : Nat} {t : Ty} {own : Bool} {l : List t.den} {c : Cell} (h : IsC ob (.whole i) c) (hob : ob i = some (mkO own e t l)) : c = ⟨.sl e t, l⟩ := h.whole (dv_mk hob)
theorem IsC.atom {ob : Ob} {y : AV} {c : Cell} (h : IsC ob y c) : c.t.size = 1 ∧ ∀ a b, c.t ≠ .two a b := by
  refine ⟨ofAV_size h, fun a b e => ?_⟩
  obtain ⟨t, v⟩ := c
  simp only at e
  subst e
  cases y <;> cases h
section
variable {w0 : World} {X M : Nat → Prop} {ι : Nat → In} {w : World} {ob : Ob}
/-- Cells that are handed over to be read. -/
theorem read_cells {N : Nat → Prop} : ∀ {l : List AV} {cs : List Cell} {us : List Value}, All2 (IsC ob) l cs → All2 (RepAV ι ob) l us → (∀ r ∈ idsOf l, ∀ e t own x, dv ob r = some (.row e t own x) → Ro w N t x (ι r).a (ι r).c) →
    All2 CellV cs us ∧ All2 (CellR false w N) cs us
  | [], [], [], _, _, _ => ⟨trivial, trivial⟩
  | [], [], _ :: _, _, h, _ => h.elim
  | [], _ :: _, _, h, _, _ => h.elim
  | _ :: _, [], _, h, _, _ => h.elim
  | _ :: _, _ :: _, [], _, h, _ => h.elim
  | y :: l, c :: cs, u :: us, h1, h2, h3 => by
    have h := rep_ofAV (s := ⟨fun _ => .at .undef, dv ob⟩) h1.1 (RepAV.dv h2.1) (fun r hr => h3 r (mem_idsOf_cons.2 (.inl hr)))
    obtain ⟨k1, k2⟩ := CellV.of h h1.1.atom.1 h1.1.atom.2
    obtain ⟨q1, q2⟩ := read_cells h1.2 h2.2 (fun r hr => h3 r (mem_idsOf_cons.2 (.inr hr)))
    exact ⟨⟨k1, q1⟩, ⟨k2, q2⟩⟩
theorem All2.split {α β : Type} {R : α → β → Prop} : ∀ {l l' : List α} {q : List β}, All2 R (l ++ l') q → All2 R l (q.take l.length) ∧ All2 R l' (q.drop l.length)
  | [], l', q, h => ⟨by simp [All2], h⟩
  | a :: l, l', b :: q, h => by
    obtain ⟨h1, h2⟩ := All2.split (l := l) h.2
    exact ⟨⟨h.1, h1⟩, h2⟩
  | a :: l, l', [], h => h.elim
/-- Names of the rows of cells of the call's own. -/
def owL : Nat → List AV → List (Nat × Nat)
  | _, [] => []
  | id, x :: l => x.ids.map (fun r => (id, r)) ++ owL (id + 1) l
theorem owL_snd : ∀ (id : Nat) (l : List AV), (owL id l).map Prod.snd = idsOf l
  | _, [] => rfl
  | id, x :: l => by
    have := owL_snd (id + 1) l
    simp only [owL, List.map_append, this, idsOf, List.flatMap_cons, List.map_map]
    congr 1
    exact List.map_id _
/-- Objects of the call's own that are handed over to be written and stay: the callee's name of each, and the caller's. -/
def owP : Nat → List PK → List DV → List (Nat × Nat)
  | j, .box _ _ :: ps, .at (.bptr b _) :: r => (j * 16, b) :: owP (j + 1) ps r
  | j, .row :: ps, .at (.whole i) :: r => (j * 16, i) :: owP (j + 1) ps r
  | j, .aggw _ _ :: ps, .agg l :: r => owL (j * 16) l ++ owP (j + 1) ps r
  | j, .boxg _ _ :: ps, .at (.bptr b _) :: r => (j * 16, b) :: owP (j + 1) ps r
  | j, .fnp _ _ _ :: ps, .at (.fn _ [(b, _)]) :: r => (j * 16, b) :: owP (j + 1) ps r
  | j, _ :: ps, _ :: r => owP (j + 1) ps r
  | _, _, _ => []
theorem owP_snd : ∀ (j : Nat) (ps : List PK) (args : List DV), (owP j ps args).map Prod.snd = boxIds ps args := by
  intro j ps args
  induction j, ps, args using owP.induct <;> simp_all [owP, boxIds, owL_snd]
/-- Rows that are handed over for good. -/
def gvP (ob : Ob) : Nat → List PK → List DV → List (Nat × Nat)
  | j, .give :: ps, .at (.whole i) :: r => (j * 16, i) :: gvP ob (j + 1) ps r
  | j, .boxg _ _ :: ps, .at (.bptr b _) :: r => owL (j * 16 + 1) (match ob b with | some (.box _ c) => c | _ => []) ++ gvP ob (j + 1) ps r
  | j, _ :: ps, _ :: r => gvP ob (j + 1) ps r
  | _, _, _ => []
theorem gvP_snd {ob : Ob} : ∀ (j : Nat) (ps : List PK) (args : List DV), (gvP ob j ps args).map Prod.snd = gvIds ob ps args := by
  intro j ps args
  induction j, ps, args using gvP.induct <;> simp_all [gvP, gvIds, owL_snd]
  split <;> simp_all [idsOf]
/-- What a callee's objects are at its entry. -/
def InObj (ι : Nat → In) (ob : Ob) (w : World) (N : Nat → Prop) (OW : List (Nat × Nat)) (ι0 : Nat → In) (ob0 : Ob) (p : Nat × Obj) : Prop :=
  match p.2 with
  | .row _ t false l => Ro w N t l (ι0 p.1).a (ι0 p.1).c
  | .row e t true l => ∃ i, (p.1, i) ∈ OW ∧ ι0 p.1 = ι i ∧ ob i = some (.row e t true l)
  | .deep e t l none => ∃ i, (p.1, i) ∈ OW ∧ ι0 p.1 = ι i ∧ ob i = some (.deep e t l none)
  | .box t c => ∃ i c0 g cs, (p.1, i) ∈ OW ∧ ι0 p.1 = ι i ∧ ob i = some (.box t c0) ∧ (ι i).a = some ⟨g, 0, none⟩ ∧ w.heap[g]? = some (.cells (List.toArray cs) t (0, 0)) ∧ All2 (RepAV ι0 ob0) c cs
  | _ => False
theorem InObj.mk {N : Nat → Prop} {OW : List (Nat × Nat)} {ι0 : Nat → In} {ob0 : Ob} : ∀ {p : Nat × Obj} {i : Nat}, isRL p.2 → (p.1, i) ∈ OW → ι0 p.1 = ι i → ob i = some p.2 → InObj ι ob w N OW ι0 ob0 p
  | (n, .row e t true l), i, _, h1, h2, h3 => ⟨i, h1, h2, h3⟩
  | (n, .deep e t l none), i, _, h1, h2, h3 => ⟨i, h1, h2, h3⟩
theorem InObj.more {N : Nat → Prop} {OW OW' : List (Nat × Nat)} (ho : ∀ x ∈ OW, x ∈ OW') {ι0 : Nat → In} {ob0 : Ob} {p : Nat × Obj} (h : InObj ι ob w N OW ι0 ob0 p) : InObj ι ob w N OW' ι0 ob0 p := by
  obtain ⟨n, o⟩ := p
  match o, h with
  | .row _ t false l, h => exact h
  | .row e t true l, ⟨i, h1, h2⟩ => exact ⟨i, ho _ h1, h2⟩
  | .deep e t l none, ⟨i, h1, h2⟩ => exact ⟨i, ho _ h1, h2⟩
  | .box t c, ⟨i, c0, g, cs, h1, h2⟩ => exact ⟨i, c0, g, cs, ho _ h1, h2⟩
/-- Cells of rows of the call's own that are handed over. -/
theorem own_in : ∀ {l : List AV} {cs : List Cell} {us : List Value} (id : Nat), All2 (IsC ob) l cs → All2 (RepAV ι ob) l us → l.all (ownAV ob) = true →
    All2 CellV cs us ∧ (owL id l).map Prod.fst = outIds (toOwns true id cs).2 ∧ (∀ ι0 : Nat → In, (∀ x ∈ owL id l, ι0 x.1 = ι x.2) → ∀ p ∈ insOf id cs us, Alike (ι0 p.1) p.2) ∧
      (∀ p ∈ (toOwns true id cs).2, ∃ i, (p.1, i) ∈ owL id l ∧ ob i = some p.2 ∧ isRL p.2) ∧
      ∀ x ∈ owL id l, ∃ o, (x.1, o) ∈ (toOwns true id cs).2 ∧ ob x.2 = some o ∧ isRL o
  | [], [], [], _, _, _, _ => ⟨trivial, rfl, by simp [insOf], by simp [toOwns], by simp [owL]⟩
  | [], [], _ :: _, _, _, h, _ => h.elim
  | [], _ :: _, _, _, h, _, _ => h.elim
  | _ :: _, [], _, _, h, _, _ => h.elim
  | _ :: _, _ :: _, [], _, _, h, _ => h.elim
  | y :: l, c :: cs, u :: us, id, h1, h2, h3 => by
    simp only [List.all_cons, Bool.and_eq_true] at h3
    obtain ⟨q1, q2, q3, q4, q5⟩ := own_in (id + 1) h1.2 h2.2 h3.2
    have hc := h1.1
    have hv := h2.1
    have ho := h3.1
    obtain ⟨ct, cv⟩ := c
    have plain : CellV ⟨ct, cv⟩ u → y.ids = [] → (∀ e t, ct ≠ .sl e t) → All2 CellV (⟨ct, cv⟩ :: cs) (u :: us) ∧ (owL id (y :: l)).map Prod.fst = outIds (toOwns true id (⟨ct, cv⟩ :: cs)).2 ∧ (∀ ι0 : Nat → In, (∀ x ∈ owL id (y :: l), ι0 x.1 = ι x.2) → ∀ p ∈ insOf id (⟨ct, cv⟩ :: cs) (u :: us), Alike (ι0 p.1) p.2) ∧
      (∀ p ∈ (toOwns true id (⟨ct, cv⟩ :: cs)).2, ∃ i, (p.1, i) ∈ owL id (y :: l) ∧ ob i = some p.2 ∧ isRL p.2) ∧
      ∀ x ∈ owL id (y :: l), ∃ o, (x.1, o) ∈ (toOwns true id (⟨ct, cv⟩ :: cs)).2 ∧ ob x.2 = some o ∧ isRL o := by
      intro k1 k2 k3
      have e1 : insOf id (⟨ct, cv⟩ :: cs) (u :: us) = insOf (id + 1) cs us := by cases ct <;> first | rfl | exact (k3 _ _ rfl).elim
      have e2 : (toOwns true id (⟨ct, cv⟩ :: cs)).2 = (toOwns true (id + 1) cs).2 := by rw [toOwns_cons]; cases ct <;> first | rfl | exact (k3 _ _ rfl).elim
      have e3 : owL id (y :: l) = owL (id + 1) l := by simp [owL, k2]
      rw [e1, e2, e3]
      exact ⟨⟨k1, q1⟩, q2, q3, q4, q5⟩
    unfold IsC at hc
    cases y with
    | int k n =>
      cases ct <;> simp only [ofAV] at hc <;> try (cases hc; done)
      obtain ⟨rfl, hc⟩ := ite_some hc
      cases hc
      exact plain hv rfl (fun _ _ h => by cases h)
    | bool b =>
      cases ct <;> simp only [ofAV] at hc <;> try (cases hc; done)
      cases hc
      exact plain hv rfl (fun _ _ h => by cases h)
    | str b =>
      cases ct <;> simp only [ofAV] at hc <;> try (cases hc; done)
      cases hc
      exact plain hv rfl (fun _ _ h => by cases h)
    | whole r =>
      obtain ⟨e, t, x, hob⟩ := okOwn_is (ob := ob) (i := r) ho
      have hcc := IsC.own (c := ⟨ct, cv⟩) h1.1 hob
      cases hcc
      obtain ⟨v1, o, v2, v3⟩ := hv
      rw [hob] at v2
      cases v2
      have hu := v3 _ _ mkO_shp
      refine ⟨⟨⟨_, _, hu⟩, q1⟩, ?_, fun ι0 hi p hp => ?_, fun p hp => ?_, fun z hz => ?_⟩
      · simp only [owL, AV.ids, List.map_cons, List.map_nil, List.cons_append, List.nil_append, toOwns_cons, Cell.toOwn, outIds] at q2 ⊢
        rw [q2]
      · simp only [insOf, List.mem_cons] at hp
        rcases hp with rfl | hp
        · have := hi (id, r) (by simp [owL, AV.ids])
          simp only at this ⊢
          rw [this, hu]
          exact ⟨rfl, rfl⟩
        · exact q3 ι0 (fun x hx => hi x (by simp only [owL, List.mem_append]; exact .inr hx)) p hp
      · rw [toOwns_cons] at hp
        simp only [Cell.toOwn, List.cons_append, List.nil_append, List.mem_cons] at hp
        rcases hp with rfl | hp
        · exact ⟨r, by simp [owL, AV.ids], hob, mkO_RL⟩
        · obtain ⟨i, m1, m2⟩ := q4 p hp
          exact ⟨i, by simp only [owL, List.mem_append]; exact .inr m1, m2⟩
      · simp only [owL, AV.ids, List.map_cons, List.map_nil, List.cons_append, List.nil_append, List.mem_cons] at hz
        rw [toOwns_cons]
        rcases hz with rfl | hz
        · exact ⟨mkO true e t x, by simp [Cell.toOwn], hob, mkO_RL⟩
        · obtain ⟨o', m1, m2⟩ := q5 z hz
          exact ⟨o', List.mem_append_right _ m1, m2⟩
    | _ => cases ho
/-- The places of rows of the call's own. -/
def owI (ι : Nat → In) (L : List (Nat × Nat)) : List (Nat × In) := L.map fun x => (x.1, ι x.2)
theorem owI_fst (L : List (Nat × Nat)) : (owI ι L).map Prod.fst = L.map Prod.fst := by simp [owI, List.map_map, Function.comp_def]
theorem owI_mem {L : List (Nat × Nat)} {x : Nat × Nat} (h : x ∈ L) : (x.1, ι x.2) ∈ owI ι L := List.mem_map.2 ⟨x, h, rfl⟩
theorem subset_more {α : Type} {a b a' b' : List α} (h : ∀ x ∈ a, x ∈ a') (k : ∀ x ∈ b, x ∈ b') : ∀ x ∈ a ++ b, x ∈ a' ++ b' := fun x hx => by
  rcases List.mem_append.1 hx with hx | hx
  · exact List.mem_append_left _ (h x hx)
  · exact List.mem_append_right _ (k x hx)
theorem in_spec (hs : HS w0 X M ι ob w) {N : Nat → Prop} : ∀ (ps : List PK) (args : List DV) (vals : List Value) (j : Nat) (avs : List AV) (cells : List Cell), flat ob ps args = some avs → All2 (IsC ob) avs cells → All2 (RepDV ι ob) args vals →
    (∀ r ∈ idsOf (flatR ob ps args), ∀ e t own x, dv ob r = some (.row e t own x) → Ro w N t x (ι r).a (ι r).c) →
    ∃ (G : List (Nat × In)), G.map Prod.fst = outIds (inS j ps cells).2 ∧ (inS j ps cells).1.map Prod.fst = List.range' j ps.length ∧
      ∀ (ι0 : Nat → In) (ob0 : Ob), (∀ p ∈ (inS j ps cells).2, ob0 p.1 = some p.2) → (∀ p ∈ G, ι0 p.1 = p.2) →
        All2 (fun p v => RepDV ι0 ob0 p.2 v) (inS j ps cells).1 vals ∧ (∀ p ∈ (inS j ps cells).2, InObj ι ob w N (owP j ps args ++ gvP ob j ps args) ι0 ob0 p) ∧
          (∀ x ∈ owP j ps args, x.1 ∈ kpS j ps cells ∧ ι0 x.1 = ι x.2 ∧ ∃ o oo, ob0 x.1 = some o ∧ ob x.2 = some oo ∧ Wr oo ∧ Sh oo o) ∧ ∀ x ∈ gvP ob j ps args, ι0 x.1 = ι x.2 ∧ ∃ oo, ob x.2 = some oo ∧ Wr oo
  | [], [], [], j, avs, cells, h, hc, hv, hr => by cases h; exact ⟨[], rfl, rfl, fun _ _ _ _ => ⟨trivial, by simp [inS], by simp [owP], by simp [gvP]⟩⟩
  | [], [], _ :: _, j, avs, cells, h, hc, hv, hr => hv.elim
  | [], _ :: _, _, j, avs, cells, h, hc, hv, hr => by cases h
  | p :: _, [], _, j, avs, cells, h, hc, hv, hr => by cases p <;> simp [flat] at h
  | _ :: _, _ :: _, [], j, avs, cells, h, hc, hv, hr => hv.elim
  | p :: ps, d :: args, v :: vals, j, avs, cells, h, hc, hv, hr => by
    cases p with
    | one =>
      cases d with
      | «at» x =>
        simp only [flat] at h
        obtain ⟨q, h1, h⟩ := Option.bind_eq_some_iff.1 h
        cases h
        cases cells with
        | nil => exact hc.elim
        | cons c cells =>
          obtain ⟨k1, k2⟩ := read_cells (w := w) (N := N) (l := [x]) (cs := [c]) (us := [v]) ⟨hc.1, trivial⟩ ⟨hv.1, trivial⟩ (fun r hr' => hr r (by simp only [flatR, idsOf, List.flatMap_cons, List.mem_append]; exact .inl (by simpa [idsOf] using hr')))
          obtain ⟨G, g1, g3, g4⟩ := in_spec hs ps args vals (j + 1) q cells h1 hc.2 hv.2 (fun r hr' => hr r (by simp only [flatR, idsOf, List.flatMap_cons, List.mem_append]; exact .inr hr'))
          refine ⟨insOf (j * 16) [c] [v] ++ G, by simp [inS, outIds, insOf_fst false _ [c] [v] rfl] at g1 ⊢; exact g1, by simp [inS, List.range'_succ, g3], fun ι0 ob0 ho hi => ?_⟩
          have ho1 : ∀ p ∈ (toOwns false (j * 16) [c]).2, ob0 p.1 = some p.2 := fun p hp => ho p (by simp only [inS, List.take_succ_cons, List.take_zero, List.mem_append]; exact .inl hp)
          have hi1 : ∀ p ∈ insOf (j * 16) [c] [v], ι0 p.1 = p.2 := fun p hp => hi p (List.mem_append_left _ hp)
          obtain ⟨q1, q2, q3, q4⟩ := g4 ι0 ob0 (fun p hp => ho p (by simp only [inS, List.mem_append]; exact .inr hp)) (fun p hp => hi p (List.mem_append_right _ hp))
          have r1 := toOwns_rep false (j * 16) [c] [v] k1 ho1 (fun p hp => Alike.of (hi1 p hp))
          refine ⟨⟨?_, q1⟩, fun p hp => ?_, fun x hx => ⟨?_, (q3 x hx).2⟩, fun x hx => q4 x (by simpa [gvP] using hx)⟩
          rotate_left 2
          · have := (q3 x hx).1
            simp only [kpS, List.mem_append]
            exact .inr this
          · simp only [List.take_succ_cons, List.take_zero]
            rw [toOwns_cons] at r1 ⊢
            exact r1.1
          · simp only [inS, List.take_succ_cons, List.take_zero, List.mem_append] at hp
            rcases hp with hp | hp
            · obtain ⟨e, t, l, e1, e2⟩ := toOwns_obj (j * 16) [c] [v] k2 hi1 p hp
              unfold InObj
              rw [e1]
              exact e2
            · simpa [owP, gvP] using q2 p hp
      | agg l => cases h
      | tup l => cases h
    | agg n =>
      cases d with
      | «at» x => cases h
      | tup l => cases h
      | agg l =>
        simp only [flat] at h
        obtain ⟨hn, h⟩ := ite_some h
        obtain ⟨q, h1, h⟩ := Option.bind_eq_some_iff.1 h
        cases h
        obtain ⟨us, rfl, hus⟩ := hv.1
        obtain ⟨c1, c2⟩ := All2.split hc
        rw [hn] at c1 c2
        obtain ⟨k1, k2⟩ := read_cells (w := w) (N := N) c1 hus (fun r hr' => hr r (by simp only [flatR, idsOf, List.flatMap_append, List.mem_append]; exact .inl (by simpa [idsOf] using hr')))
        obtain ⟨G, g1, g3, g4⟩ := in_spec hs ps args vals (j + 1) q _ h1 c2 hv.2 (fun r hr' => hr r (by simp only [flatR, idsOf, List.flatMap_append, List.mem_append]; exact .inr hr'))
        refine ⟨insOf (j * 16) (cells.take n) us ++ G, by simp [inS, outIds, insOf_fst false _ _ us k1.len] at g1 ⊢; exact g1, by simp [inS, List.range'_succ, g3], fun ι0 ob0 ho hi => ?_⟩
        have ho1 : ∀ p ∈ (toOwns false (j * 16) (cells.take n)).2, ob0 p.1 = some p.2 := fun p hp => ho p (by simp only [inS, List.mem_append]; exact .inl hp)
        have hi1 : ∀ p ∈ insOf (j * 16) (cells.take n) us, ι0 p.1 = p.2 := fun p hp => hi p (List.mem_append_left _ hp)
        obtain ⟨q1, q2, q3, q4⟩ := g4 ι0 ob0 (fun p hp => ho p (by simp only [inS, List.mem_append]; exact .inr hp)) (fun p hp => hi p (List.mem_append_right _ hp))
        have r1 := toOwns_rep false (j * 16) (cells.take n) us k1 ho1 (fun p hp => Alike.of (hi1 p hp))
        refine ⟨⟨⟨us, rfl, r1⟩, q1⟩, fun p hp => ?_, fun x hx => ⟨?_, (q3 x hx).2⟩, fun x hx => q4 x (by simpa [gvP] using hx)⟩
        rotate_left 1
        · have := (q3 x hx).1
          simp only [kpS, List.mem_append]
          exact .inr this
        simp only [inS, List.mem_append] at hp
        rcases hp with hp | hp
        · obtain ⟨e, t, l, e1, e2⟩ := toOwns_obj (j * 16) (cells.take n) us k2 hi1 p hp
          unfold InObj
          rw [e1]
          exact e2
        · simpa [owP, gvP] using q2 p hp
    | aggw n sl =>
      cases d with
      | «at» x => cases h
      | tup l => cases h
      | agg l =>
        simp only [flat] at h
        obtain ⟨⟨hn, hall⟩, h⟩ := ite_some h
        simp only [Bool.and_eq_true] at hall
        obtain ⟨q, h1, h⟩ := Option.bind_eq_some_iff.1 h
        cases h
        obtain ⟨us, rfl, hus⟩ := hv.1
        obtain ⟨c1, c2⟩ := All2.split hc
        rw [hn] at c1 c2
        obtain ⟨k1, k2, k3, k4, k5⟩ := own_in (j * 16) c1 hus hall.1
        obtain ⟨G, g1, g3, g4⟩ := in_spec hs ps args vals (j + 1) q _ h1 c2 hv.2 (fun r hr' => hr r (by simpa [flatR] using hr'))
        refine ⟨owI ι (owL (j * 16) l) ++ G, by simp only [List.map_append, owI_fst, k2, inS, outIds] at g1 ⊢; rw [g1], by simp [inS, List.range'_succ, g3], fun ι0 ob0 ho hi => ?_⟩
        have ho1 : ∀ p ∈ (toOwns true (j * 16) (cells.take n)).2, ob0 p.1 = some p.2 := fun p hp => ho p (by simp only [inS, List.mem_append]; exact .inl hp)
        have hi1 : ∀ x ∈ owL (j * 16) l, ι0 x.1 = ι x.2 := fun x hx => hi (x.1, ι x.2) (List.mem_append_left _ (owI_mem hx))
        obtain ⟨q1, q2, q3, q4⟩ := g4 ι0 ob0 (fun p hp => ho p (by simp only [inS, List.mem_append]; exact .inr hp)) (fun p hp => hi p (List.mem_append_right _ hp))
        have r1 := toOwns_rep true (j * 16) (cells.take n) us k1 ho1 (k3 ι0 hi1)
        refine ⟨⟨⟨us, rfl, r1⟩, q1⟩, fun p hp => ?_, fun x hx => ?_, fun x hx => q4 x (by simpa [gvP] using hx)⟩
        · simp only [inS, List.mem_append] at hp
          rcases hp with hp | hp
          · obtain ⟨i, m1, m2, m3⟩ := k4 p hp
            exact InObj.mk m3 (by simp only [owP, List.mem_append]; exact .inl (.inl m1)) (hi1 _ m1) m2
          · exact (q2 p hp).more (by simp only [owP, gvP]; exact subset_more (fun x hx => List.mem_append_right _ hx) (fun x hx => hx))
        · simp only [owP, List.mem_append] at hx
          rcases hx with hx | hx
          · obtain ⟨o, m1, m2, m3⟩ := k5 x hx
            refine ⟨?_, hi1 x hx, _, _, ho1 _ m1, m2, m3.Wr, Sh.refl o⟩
            simp only [kpS, List.mem_append]
            exact .inl (List.mem_map.2 ⟨_, m1, rfl⟩)
          · refine ⟨?_, (q3 x hx).2⟩
            simp only [kpS, List.mem_append]
            exact .inr (q3 x hx).1
    | row =>
      match d, h, hv, hr with
      | .at (.whole i), h, hv, hr =>
          simp only [flat] at h
          obtain ⟨hok, h⟩ := bif_some h
          obtain ⟨e0, t0, l0, hob⟩ := okOwn_is hok
          obtain ⟨q, h1, h⟩ := Option.bind_eq_some_iff.1 h
          cases h
          cases cells with
          | nil => exact hc.elim
          | cons c cells =>
            obtain rfl : c = ⟨.sl e0 t0, l0⟩ := IsC.own hc.1 hob
            obtain ⟨G, g1, g3, g4⟩ := in_spec hs ps args vals (j + 1) q cells h1 hc.2 hv.2 (fun r hr' => hr r (by simpa [flatR] using hr'))
            refine ⟨(j * 16, ι i) :: G, by simpa [inS, outIds, toOwns, Cell.toOwn] using g1, by simp [inS, List.range'_succ, g3], fun ι0 ob0 ho hi => ?_⟩
            have ho1 : ob0 (j * 16) = some (mkO true e0 t0 l0) := ho (j * 16, mkO true e0 t0 l0) (by simp [inS, toOwns, Cell.toOwn])
            have hi1 : ι0 (j * 16) = ι i := hi (j * 16, ι i) (by simp)
            obtain ⟨q1, q2, q3, q4⟩ := g4 ι0 ob0 (fun p hp => ho p (by simp only [inS, List.mem_append]; exact .inr (by simpa using hp))) (fun p hp => hi p (List.mem_cons_of_mem _ hp))
            refine ⟨⟨?_, by simpa using q1⟩, fun p hp => ?_, fun x hx => ?_, fun x hx => q4 x (by simpa [gvP] using hx)⟩
            rotate_left 2
            · rcases List.mem_cons.1 hx with rfl | hx
              · exact ⟨by simp [kpS, outIds, toOwns, Cell.toOwn], hi1, _, _, ho1, hob, mkO_Wr, Sh.refl _⟩
              · refine ⟨?_, (q3 x hx).2⟩
                simp only [kpS, List.mem_append]
                exact .inr (by simpa using (q3 x hx).1)
            · obtain ⟨v1, o, v2, v3⟩ := hv.1
              rw [hob] at v2
              cases v2
              have := v3 _ _ mkO_shp
              refine ⟨v1, _, ho1, fun t' m' he => ?_⟩
              rw [mkO_shp] at he
              cases he
              rw [hi1]
              exact this
            · simp only [inS, List.take_succ_cons, List.take_zero, toOwns, Cell.toOwn, List.append_nil, List.cons_append, List.nil_append, List.mem_cons] at hp
              rcases hp with rfl | hp
              · exact InObj.mk mkO_RL (i := i) (by simp [owP]) hi1 hob
              · exact (q2 p (by simpa using hp)).more (by simp only [owP, gvP]; exact (subset_more (fun x hx => List.mem_cons_of_mem _ hx) (fun x hx => hx)))
    | give =>
      match d, h, hv, hr with
      | .at (.whole i), h, hv, hr =>
          simp only [flat] at h
          obtain ⟨hok, h⟩ := bif_some h
          obtain ⟨e0, t0, l0, hob⟩ := okOwn_is hok
          obtain ⟨q, h1, h⟩ := Option.bind_eq_some_iff.1 h
          cases h
          cases cells with
          | nil => exact hc.elim
          | cons c cells =>
            obtain rfl : c = ⟨.sl e0 t0, l0⟩ := IsC.own hc.1 hob
            obtain ⟨G, g1, g3, g4⟩ := in_spec hs ps args vals (j + 1) q cells h1 hc.2 hv.2 (fun r hr' => hr r (by simpa [flatR] using hr'))
            refine ⟨(j * 16, ι i) :: G, by simpa [inS, outIds, toOwns, Cell.toOwn] using g1, by simp [inS, List.range'_succ, g3], fun ι0 ob0 ho hi => ?_⟩
            have ho1 : ob0 (j * 16) = some (mkO true e0 t0 l0) := ho (j * 16, mkO true e0 t0 l0) (by simp [inS, toOwns, Cell.toOwn])
            have hi1 : ι0 (j * 16) = ι i := hi (j * 16, ι i) (by simp)
            obtain ⟨q1, q2, q3, q4⟩ := g4 ι0 ob0 (fun p hp => ho p (by simp only [inS, List.mem_append]; exact .inr (by simpa using hp))) (fun p hp => hi p (List.mem_cons_of_mem _ hp))
            refine ⟨⟨?_, by simpa using q1⟩, fun p hp => ?_, fun x hx => ⟨?_, (q3 x hx).2⟩, fun x hx => ?_⟩
            rotate_left 2
            · have := (q3 x hx).1
              simpa [kpS] using this
            · simp only [gvP, List.mem_cons] at hx
              rcases hx with rfl | hx
              · exact ⟨hi1, _, hob, mkO_Wr⟩
              · exact q4 x hx
            · obtain ⟨v1, o, v2, v3⟩ := hv.1
              rw [hob] at v2
              cases v2
              have := v3 _ _ mkO_shp
              refine ⟨v1, _, ho1, fun t' m' he => ?_⟩
              rw [mkO_shp] at he
              cases he
              rw [hi1]
              exact this
            · simp only [inS, List.take_succ_cons, List.take_zero, toOwns, Cell.toOwn, List.append_nil, List.cons_append, List.nil_append, List.mem_cons] at hp
              rcases hp with rfl | hp
              · exact InObj.mk mkO_RL (i := i) (by simp [gvP]) hi1 hob
              · exact (q2 p (by simpa using hp)).more (by simp only [owP, gvP]; exact (subset_more (fun x hx => hx) (fun x hx => List.mem_cons_of_mem _ hx)))
    | box t n =>
      match d, h, hv, hr with
      | .at (.bptr b 0), h, hv, hr =>
        simp only [flat] at h
        split at h
        · rename_i t' c hob
          obtain ⟨⟨ht, hn⟩, h'⟩ := ite_some h
          subst ht
          obtain ⟨q, h1, h'⟩ := Option.bind_eq_some_iff.1 h'
          cases h'
          obtain ⟨g, us, b1, b2, hus⟩ := hs.obs b _ hob
          obtain ⟨c1, c2⟩ := All2.split hc
          rw [hn] at c1 c2
          have hfr : flatR ob (.box t' n :: ps) (.at (.bptr b 0) :: args) = c ++ flatR ob ps args := by simp [flatR, hob]
          rw [hfr] at hr
          obtain ⟨k1, k2⟩ := read_cells (w := w) (N := N) c1 hus (fun r hr' => hr r (by simp only [idsOf, List.flatMap_append, List.mem_append]; exact .inl (by simpa [idsOf] using hr')))
          obtain ⟨G, g1, g3, g4⟩ := in_spec hs ps args vals (j + 1) q _ h1 c2 hv.2 (fun r hr' => hr r (by simp only [idsOf, List.flatMap_append, List.mem_append]; exact .inr hr'))
          refine ⟨(j * 16, ι b) :: (insOf (j * 16 + 1) (cells.take n) us ++ G), by simp [inS, outIds, insOf_fst false _ _ us k1.len] at g1 ⊢; exact g1, by simp [inS, List.range'_succ, g3], fun ι0 ob0 ho hi => ?_⟩
          have ho0 : ob0 (j * 16) = some (.box t' (toOwns false (j * 16 + 1) (cells.take n)).1) := ho (j * 16, .box t' (toOwns false (j * 16 + 1) (cells.take n)).1) (by simp [inS])
          have hi0 : ι0 (j * 16) = ι b := hi (j * 16, ι b) (by simp)
          have ho1 : ∀ p ∈ (toOwns false (j * 16 + 1) (cells.take n)).2, ob0 p.1 = some p.2 := fun p hp => ho p (by simp only [inS, List.mem_append, List.mem_cons]; exact .inr (.inl hp))
          have hi1 : ∀ p ∈ insOf (j * 16 + 1) (cells.take n) us, ι0 p.1 = p.2 := fun p hp => hi p (List.mem_cons_of_mem _ (List.mem_append_left _ hp))
          obtain ⟨q1, q2, q3, q4⟩ := g4 ι0 ob0 (fun p hp => ho p (by simp only [inS, List.mem_append, List.mem_cons]; exact .inr (.inr hp))) (fun p hp => hi p (List.mem_cons_of_mem _ (List.mem_append_right _ hp)))
          have r1 := toOwns_rep false (j * 16 + 1) (cells.take n) us k1 ho1 (fun p hp => Alike.of (hi1 p hp))
          refine ⟨⟨?_, q1⟩, fun p hp => ?_, fun x hx => ?_, fun x hx => q4 x (by simpa [gvP] using hx)⟩
          rotate_left 2
          · rcases List.mem_cons.1 hx with rfl | hx
            · exact ⟨by simp [kpS], hi0, _, _, ho0, hob, trivial, trivial⟩
            · refine ⟨?_, (q3 x hx).2⟩
              simp only [kpS, List.mem_append, List.mem_cons]
              exact .inr (.inr (q3 x hx).1)
          · obtain ⟨v1, o, v2, v3⟩ := hv.1
            rw [hob] at v2
            cases v2
            obtain ⟨g', e1, e2⟩ := v3 _ _ rfl
            refine ⟨v1, _, ho0, fun t' c' he => ⟨g', ?_, e2⟩⟩
            rw [hi0]
            exact e1
          · simp only [inS, List.mem_append, List.mem_cons] at hp
            rcases hp with rfl | hp | hp
            · exact ⟨b, c, g, us, by simp [owP], hi0, hob, b1, b2, r1⟩
            · obtain ⟨e, t, l, e1, e2⟩ := toOwns_obj (j * 16 + 1) (cells.take n) us k2 hi1 p hp
              unfold InObj
              rw [e1]
              exact e2
            · exact (q2 p hp).more (by simp only [owP, gvP]; exact subset_more (fun x hx => List.mem_cons_of_mem _ hx) (fun x hx => hx))
        · cases h
    | fnp g0 t n =>
      match d, h, hv, hr with
      | .at (.fn f0 [(b, 0)]), h, hv, hr =>
        simp only [flat] at h
        split at h
        · rename_i t' c hob
          obtain ⟨⟨hg, ht, hn⟩, h'⟩ := ite_some h
          subst ht
          subst hg
          obtain ⟨q, h1, h'⟩ := Option.bind_eq_some_iff.1 h'
          cases h'
          obtain ⟨g, us, b1, b2, hus⟩ := hs.obs b _ hob
          obtain ⟨c1, c2⟩ := All2.split hc
          rw [hn] at c1 c2
          have hfr : flatR ob (.fnp f0 t' n :: ps) (.at (.fn f0 [(b, 0)]) :: args) = c ++ flatR ob ps args := by simp [flatR, hob]
          rw [hfr] at hr
          obtain ⟨k1, k2⟩ := read_cells (w := w) (N := N) c1 hus (fun r hr' => hr r (by simp only [idsOf, List.flatMap_append, List.mem_append]; exact .inl (by simpa [idsOf] using hr')))
          obtain ⟨G, g1, g3, g4⟩ := in_spec hs ps args vals (j + 1) q _ h1 c2 hv.2 (fun r hr' => hr r (by simp only [idsOf, List.flatMap_append, List.mem_append]; exact .inr hr'))
          refine ⟨(j * 16, ι b) :: (insOf (j * 16 + 1) (cells.take n) us ++ G), by simp [inS, outIds, insOf_fst false _ _ us k1.len] at g1 ⊢; exact g1, by simp [inS, List.range'_succ, g3], fun ι0 ob0 ho hi => ?_⟩
          have ho0 : ob0 (j * 16) = some (.box t' (toOwns false (j * 16 + 1) (cells.take n)).1) := ho (j * 16, .box t' (toOwns false (j * 16 + 1) (cells.take n)).1) (by simp [inS])
          have hi0 : ι0 (j * 16) = ι b := hi (j * 16, ι b) (by simp)
          have ho1 : ∀ p ∈ (toOwns false (j * 16 + 1) (cells.take n)).2, ob0 p.1 = some p.2 := fun p hp => ho p (by simp only [inS, List.mem_append, List.mem_cons]; exact .inr (.inl hp))
          have hi1 : ∀ p ∈ insOf (j * 16 + 1) (cells.take n) us, ι0 p.1 = p.2 := fun p hp => hi p (List.mem_cons_of_mem _ (List.mem_append_left _ hp))
          obtain ⟨q1, q2, q3, q4⟩ := g4 ι0 ob0 (fun p hp => ho p (by simp only [inS, List.mem_append, List.mem_cons]; exact .inr (.inr hp))) (fun p hp => hi p (List.mem_cons_of_mem _ (List.mem_append_right _ hp)))
          have r1 := toOwns_rep false (j * 16 + 1) (cells.take n) us k1 ho1 (fun p hp => Alike.of (hi1 p hp))
          refine ⟨⟨?_, q1⟩, fun p hp => ?_, fun x hx => ?_, fun x hx => q4 x (by simpa [gvP] using hx)⟩
          rotate_left 2
          · rcases List.mem_cons.1 hx with rfl | hx
            · exact ⟨by simp [kpS], hi0, _, _, ho0, hob, trivial, trivial⟩
            · refine ⟨?_, (q3 x hx).2⟩
              simp only [kpS, List.mem_append, List.mem_cons]
              exact .inr (.inr (q3 x hx).1)
          · obtain ⟨vs, v0, v1⟩ := hv.1
            match vs, v0, v1 with
            | [u], v0, ⟨⟨v1, o, v2, v3⟩, _⟩ =>
              rw [hob] at v2
              cases v2
              obtain ⟨g', e1, e2⟩ := v3 _ _ rfl
              refine ⟨[u], v0, ⟨v1, _, ho0, fun t' c' he => ⟨g', ?_, e2⟩⟩, trivial⟩
              rw [hi0]
              exact e1
          · simp only [inS, List.mem_append, List.mem_cons] at hp
            rcases hp with rfl | hp | hp
            · exact ⟨b, c, g, us, by simp [owP], hi0, hob, b1, b2, r1⟩
            · obtain ⟨e, t, l, e1, e2⟩ := toOwns_obj (j * 16 + 1) (cells.take n) us k2 hi1 p hp
              unfold InObj
              rw [e1]
              exact e2
            · exact (q2 p hp).more (by simp only [owP, gvP]; exact subset_more (fun x hx => List.mem_cons_of_mem _ hx) (fun x hx => hx))
        · cases h
    | boxg t n =>
      match d, h, hv, hr with
      | .at (.bptr b 0), h, hv, hr =>
        simp only [flat] at h
        split at h
        · rename_i t' c hob
          obtain ⟨⟨⟨ht, hn⟩, hall⟩, h'⟩ := ite_some h
          subst ht
          obtain ⟨q, h1, h'⟩ := Option.bind_eq_some_iff.1 h'
          cases h'
          obtain ⟨g, us, b1, b2, hus⟩ := hs.obs b _ hob
          obtain ⟨c1, c2⟩ := All2.split hc
          rw [hn] at c1 c2
          obtain ⟨k1, k2, k3, k4, k5⟩ := own_in (j * 16 + 1) c1 hus hall
          obtain ⟨G, g1, g3, g4⟩ := in_spec hs ps args vals (j + 1) q _ h1 c2 hv.2 (fun r hr' => hr r (by simpa [flatR] using hr'))
          refine ⟨(j * 16, ι b) :: (owI ι (owL (j * 16 + 1) c) ++ G), by simp only [List.map_cons, List.map_append, owI_fst, k2, inS, outIds] at g1 ⊢; rw [g1], by simp [inS, List.range'_succ, g3], fun ι0 ob0 ho hi => ?_⟩
          have ho0 : ob0 (j * 16) = some (.box t' (toOwns true (j * 16 + 1) (cells.take n)).1) := ho (j * 16, .box t' (toOwns true (j * 16 + 1) (cells.take n)).1) (by simp [inS])
          have hi0 : ι0 (j * 16) = ι b := hi (j * 16, ι b) (by simp)
          have ho1 : ∀ p ∈ (toOwns true (j * 16 + 1) (cells.take n)).2, ob0 p.1 = some p.2 := fun p hp => ho p (by simp only [inS, List.mem_append, List.mem_cons]; exact .inr (.inl hp))
          have hi1 : ∀ x ∈ owL (j * 16 + 1) c, ι0 x.1 = ι x.2 := fun x hx => hi (x.1, ι x.2) (List.mem_cons_of_mem _ (List.mem_append_left _ (owI_mem hx)))
          obtain ⟨q1, q2, q3, q4⟩ := g4 ι0 ob0 (fun p hp => ho p (by simp only [inS, List.mem_append, List.mem_cons]; exact .inr (.inr hp))) (fun p hp => hi p (List.mem_cons_of_mem _ (List.mem_append_right _ hp)))
          have r1 := toOwns_rep true (j * 16 + 1) (cells.take n) us k1 ho1 (k3 ι0 hi1)
          refine ⟨⟨?_, q1⟩, fun p hp => ?_, fun x hx => ?_, fun x hx => ?_⟩
          rotate_left 2
          · rcases List.mem_cons.1 hx with rfl | hx
            · exact ⟨by simp [kpS], hi0, _, _, ho0, hob, trivial, trivial⟩
            · refine ⟨?_, (q3 x hx).2⟩
              simp only [kpS, List.mem_cons]
              exact .inr (q3 x hx).1
          · simp only [gvP, hob, List.mem_append] at hx
            rcases hx with hx | hx
            · obtain ⟨o, m1, m2, m3⟩ := k5 x hx
              exact ⟨hi1 x hx, _, m2, m3.Wr⟩
            · exact q4 x hx
          · obtain ⟨v1, o, v2, v3⟩ := hv.1
            rw [hob] at v2
            cases v2
            obtain ⟨g', e1, e2⟩ := v3 _ _ rfl
            refine ⟨v1, _, ho0, fun t' c' he => ⟨g', ?_, e2⟩⟩
            rw [hi0]
            exact e1
          · simp only [inS, List.mem_append, List.mem_cons] at hp
            rcases hp with rfl | hp | hp
            · exact ⟨b, c, g, us, by simp [owP], hi0, hob, b1, b2, r1⟩
            · obtain ⟨i, m1, m2, m3⟩ := k4 p hp
              exact InObj.mk m3 (by simp only [gvP, hob, List.mem_append]; exact .inr (.inl m1)) (hi1 _ m1) m2
            · exact (q2 p hp).more (by simp only [owP, gvP]; exact subset_more (fun x hx => List.mem_cons_of_mem _ hx) (fun x hx => List.mem_append_right _ hx))
        · cases h
/-- Blocks of objects that are handed over. -/
def XI (ι : Nat → In) (ob : Ob) (ids : List Nat) (b : Nat) : Prop := ∃ i ∈ ids, ∃ o, ob i = some o ∧ Wr o ∧ Blk (ι i) o b
def MI (w0 : World) (M : Nat → Prop) (ι : Nat → In) (ob : Ob) (obF : Ob) (w : World) (ids : List Nat) (b : Nat) : Prop := XI ι ob ids b ∨ Nb w0 M ι obF w b
/-- The world as a callee finds it. -/
theorem enter_HS {avs : List AV} {ids : List Nat} {OW : List (Nat × Nat)} (hs : HS w0 X M ι ob w) (hXM : ∀ b, X b → M b) {ps : List PK} {cells : List Cell} {ι0 : Nat → In} (hOW : OW.map Prod.snd = ids) (hd : disj ids = true) (ha : (ids.any fun i => (idsOf avs).any (Nat.beq i)) = false)
    (hI : ∀ p ∈ (inS 0 ps cells).2, InObj ι ob w (Nb w0 M ι (updL ob (freezeD ob avs)) w) OW ι0 (lookO (inS 0 ps cells).2) p)
    (hW : ∀ x ∈ OW, ι0 x.1 = ι x.2 ∧ ∃ oo, ob x.2 = some oo ∧ Wr oo) :
    HS w (XI ι ob ids) (MI w0 M ι ob (updL ob (freezeD ob avs)) w ids) ι0 (lookO (inS 0 ps cells).2) w := by
  obtain ⟨g1, g2, g3, g4⟩ := HS.giveD hXM hs avs
  have hap : ∀ i ∈ ids, i ∉ idsOf avs := fun i hi hk => by
    have : (ids.any fun i => (idsOf avs).any (Nat.beq i)) = true := List.any_eq_true.2 ⟨i, hi, List.any_eq_true.2 ⟨i, hk, Nat.beq_refl i⟩⟩
    rw [ha] at this; cases this
  have hsnd : ∀ {x}, x ∈ OW → x.2 ∈ ids := fun {x} hx => by rw [← hOW]; exact List.mem_map.2 ⟨x, hx, rfl⟩
  have hWr : ∀ id o, lookO (inS 0 ps cells).2 id = some o → Wr o → ∃ i oi, (id, i) ∈ OW ∧ ob i = some oi ∧ Wr oi ∧ ∀ b, Blk (ι0 id) o b → Blk (ι i) oi b := fun id o ho hw => by
    have := hI _ (lookO_mem ho)
    match o, hw, this with
    | .box _ _, _, ⟨i, c0, g, cs, h, h2, h3, h4, _⟩ => exact ⟨i, _, h, h3, trivial, fun b hb => by simp only at h2; rw [h2] at hb; exact hb⟩
    | .row _ _ true _, _, ⟨i, h, h2, h3⟩ => exact ⟨i, _, h, h3, trivial, fun b hb => by simp only at h2; rw [h2] at hb; exact hb⟩
    | .deep _ _ _ none, _, ⟨i, h, h2, h3⟩ => exact ⟨i, _, h, h3, trivial, fun b hb => by simp only at h2; rw [h2] at hb; exact hb⟩
  have hblk : ∀ b, W ι0 (lookO (inS 0 ps cells).2) b → XI ι ob ids b := by
    rintro b ⟨id, o, h1, h2, h3⟩
    obtain ⟨i, oi, hi, k1, k2, k3⟩ := hWr id o h1 h2
    exact ⟨i, hsnd hi, oi, k1, k2, k3 b h3⟩
  have hN : ∀ b, Nb w0 M ι (updL ob (freezeD ob avs)) w b → Nb w (MI w0 M ι ob (updL ob (freezeD ob avs)) w ids) ι0 (lookO (inS 0 ps cells).2) w b := by
    intro b hb
    refine ⟨hb.1, .inl (.inr hb), fun hw => ?_⟩
    obtain ⟨i, hi, oi, h1, h2, h3⟩ := hblk b hw
    exact hb.2.2 ⟨i, oi, by rw [g3 _ (hap _ hi)]; exact h1, h2, h3⟩
  have hgl : GOK w ∧ ∀ b, GB b → b < w.heap.size ∧ ¬ XI ι ob ids b := ⟨hs.fr.gok, fun b hb => ⟨Nat.lt_of_lt_of_le (hs.fr.gl.2 b hb).1 hs.fr.size, by
    rintro ⟨i, hi, oi, h1, h2, h3⟩
    rcases hs.wr b ⟨i, oi, h1, h2, h3⟩ with h | h
    · exact Nat.not_le_of_lt (hs.fr.gl.2 b hb).1 h
    · exact (hs.fr.gl.2 b hb).2 h⟩⟩
  refine ⟨Fr.refl _ _ hgl, fun id o ho => ?_, fun b hb => .inr (hblk b hb), fun id id' o o' b h1 h2 h3 h4 h5 h6 => ?_⟩
  · have := hI _ (lookO_mem ho)
    match o, this with
    | .row _ t false l, h => exact Ro.mono (fun b hb => ⟨hN b hb, rfl⟩) h
    | .row e t true l, ⟨i, m1, m2, m3⟩ =>
      have hk := g1.obs i (.row e t true l) (by rw [g3 _ (hap _ (hsnd m1))]; exact m3)
      obtain ⟨xs, k1, k2⟩ := hk
      exact ⟨xs, by rw [m2]; exact k1, RepL.mono (fun b hb => ⟨hN b hb, rfl⟩) k2⟩
    | .deep e t l none, ⟨i, m1, m2, m3⟩ =>
      have hk := hs.obs i (.deep e t l none) m3
      rw [RepO] at hk ⊢
      rw [m2]
      exact hk
    | .box t c, ⟨i, c0, g, cs, m1, m2, m3, m4, m5, m6⟩ => exact ⟨g, cs, by rw [m2]; exact m4, m5, m6⟩
  · obtain ⟨i, oi, hi, k1, k2, k3⟩ := hWr id o h1 h3
    obtain ⟨i', oi', hi', q1, q2, q3⟩ := hWr id' o' h2 h4
    have : i = i' := hs.sep i i' oi oi' b k1 q1 k2 q2 (k3 b h5) (q3 b h6)
    subst this
    have hnd := disj_pw hd
    rw [← hOW] at hnd
    have := pw_eq (R := fun (x y : Nat × Nat) => x.2 ≠ y.2) (fun a b h e => h e.symm) (List.pairwise_map.1 hnd) hi hi' (fun h => h rfl)
    exact (Prod.mk.inj this).1
/-- Where a block of what the caller gets was the callee's. -/
def Orig (ι1 : Nat → In) (ob1 : Ob) (OW : List (Nat × Nat)) (i : In) (n : Nat) (o : Obj) : Prop := ∀ b, Blk i o b → ∃ j oj, (n, j) ∈ OW ∧ ob1 j = some oj ∧ Wr oj ∧ Blk (ι1 j) oj b
/-- What a caller gets. -/
def OutObj (ι1 : Nat → In) (ob1 : Ob) (w1 : World) (NN : Nat → Prop) (OW : List (Nat × Nat)) (ι' : Nat → In) (ob' : Ob) (p : Nat × Obj) : Prop :=
  match p.2 with
  | .row _ t false l => Ro w1 NN t l (ι' p.1).a (ι' p.1).c
  | .box t c => (∃ g cs, (ι' p.1).a = some ⟨g, 0, none⟩ ∧ w1.heap[g]? = some (.cells (List.toArray cs) t (0, 0)) ∧ All2 (RepAV ι' ob') c cs) ∧ Orig ι1 ob1 OW (ι' p.1) p.1 (.box t c)
  | o => OwnX w1 o (ι' p.1) ∧ Orig ι1 ob1 OW (ι' p.1) p.1 o
theorem Orig.more {ι1 : Nat → In} {ob1 : Ob} {OW OW' : List (Nat × Nat)} (ho : ∀ x ∈ OW, x ∈ OW') {i : In} {n : Nat} {o : Obj} (h : Orig ι1 ob1 OW i n o) : Orig ι1 ob1 OW' i n o := fun b hb => by
  obtain ⟨j, oj, h1, h2⟩ := h b hb
  exact ⟨j, oj, ho _ h1, h2⟩
theorem OutObj.more {ι1 : Nat → In} {ob1 : Ob} {w1 : World} {NN : Nat → Prop} {OW OW' : List (Nat × Nat)} (ho : ∀ x ∈ OW, x ∈ OW') {ι' : Nat → In} {ob' : Ob} {p : Nat × Obj} (h : OutObj ι1 ob1 w1 NN OW ι' ob' p) : OutObj ι1 ob1 w1 NN OW' ι' ob' p := by
  obtain ⟨n, o⟩ := p
  match o, h with
  | .row _ t false l, h => exact h
  | .row e t true l, ⟨h1, h2⟩ => exact ⟨h1, h2.more ho⟩
  | .deep e t l h0, ⟨h1, h2⟩ => exact ⟨h1, h2.more ho⟩
  | .box t c, ⟨h1, h2⟩ => exact ⟨h1, h2.more ho⟩
  | .dead, ⟨h1, _⟩ => exact h1.elim
theorem OutObj.mk {ι1 : Nat → In} {ob1 : Ob} {w1 : World} {NN : Nat → Prop} {OW : List (Nat × Nat)} {ι' : Nat → In} {ob' : Ob} : ∀ {p : Nat × Obj}, OwnX w1 p.2 (ι' p.1) → Orig ι1 ob1 OW (ι' p.1) p.1 p.2 → OutObj ι1 ob1 w1 NN OW ι' ob' p
  | (n, .row e t true l), h1, h2 => ⟨h1, h2⟩
  | (n, .deep e t l none), h1, h2 => ⟨h1, h2⟩
theorem Blk.alike {i j : In} (h : i = j) {o : Obj} {b : Nat} (k : Blk i o b) : Blk j o b := h ▸ k
section
variable {s : DS} {w1 : World} {NN : Nat → Prop}
theorem own_cells (hs : HS w0 X M ι s.ob w1) : ∀ {l : List AV} {cs : List Cell} {us : List Value} (id : Nat), All2 (IsC s.ob) l cs → All2 (RepAV ι s.ob) l us → (∀ r ∈ idsOf l, isOwn s r = true) → (∀ y ∈ l, cutOk s y = true) →
    All2 CellV cs us ∧ ∃ G : List (Nat × In), G.map Prod.fst = outIds (toOwns true id cs).2 ∧ (∀ ι' : Nat → In, (∀ p ∈ G, ι' p.1 = p.2) → ∀ p ∈ insOf id cs us, Alike (ι' p.1) p.2) ∧
      ∀ ι' : Nat → In, (∀ p ∈ G, ι' p.1 = p.2) → ∀ p ∈ (toOwns true id cs).2, OwnX w1 p.2 (ι' p.1) ∧ Orig ι s.ob (owL id l) (ι' p.1) p.1 p.2
  | [], [], [], _, _, _, _, _ => ⟨trivial, [], rfl, by simp [insOf], by simp [toOwns]⟩
  | [], [], _ :: _, _, _, h, _, _ => h.elim
  | [], _ :: _, _, _, h, _, _, _ => h.elim
  | _ :: _, [], _, _, h, _, _, _ => h.elim
  | _ :: _, _ :: _, [], _, _, h, _, _ => h.elim
  | y :: l, c :: cs, u :: us, id, h1, h2, h3, h3' => by
    obtain ⟨q1, G, q2, q3, q4⟩ := own_cells hs (id + 1) h1.2 h2.2 (fun r hr => h3 r (mem_idsOf_cons.2 (.inr hr))) (fun z hz => h3' z (List.mem_cons_of_mem _ hz))
    have hown : ∀ r ∈ y.ids, isOwn s r = true := fun r hr => h3 r (mem_idsOf_cons.2 (.inl hr))
    have hcut := h3' y List.mem_cons_self
    have hmore : ∀ x ∈ owL (id + 1) l, x ∈ owL id (y :: l) := fun x hx => by simp only [owL, List.mem_append]; exact .inr hx
    suffices hh : CellV c u ∧ ∀ e t l, c = ⟨.sl e t, l⟩ → ∃ i : In, Alike i (inOf u) ∧ OwnX w1 (mkO true e t l) i ∧ ∀ b, Blk i (mkO true e t l) b → ∃ j ∈ y.ids, ∃ oj, s.ob j = some oj ∧ Wr oj ∧ Blk (ι j) oj b by
      obtain ⟨k1, k2⟩ := hh
      obtain ⟨ct, cv⟩ := c
      have plain : (∀ e t, ct ≠ .sl e t) → All2 CellV (⟨ct, cv⟩ :: cs) (u :: us) ∧ ∃ G : List (Nat × In), G.map Prod.fst = outIds (toOwns true id (⟨ct, cv⟩ :: cs)).2 ∧ (∀ ι' : Nat → In, (∀ p ∈ G, ι' p.1 = p.2) → ∀ p ∈ insOf id (⟨ct, cv⟩ :: cs) (u :: us), Alike (ι' p.1) p.2) ∧
          ∀ ι' : Nat → In, (∀ p ∈ G, ι' p.1 = p.2) → ∀ p ∈ (toOwns true id (⟨ct, cv⟩ :: cs)).2, OwnX w1 p.2 (ι' p.1) ∧ Orig ι s.ob (owL id (y :: l)) (ι' p.1) p.1 p.2 := by
        intro k3
        have e1 : insOf id (⟨ct, cv⟩ :: cs) (u :: us) = insOf (id + 1) cs us := by cases ct <;> first | rfl | exact (k3 _ _ rfl).elim
        have e2 : (toOwns true id (⟨ct, cv⟩ :: cs)).2 = (toOwns true (id + 1) cs).2 := by rw [toOwns_cons]; cases ct <;> first | rfl | exact (k3 _ _ rfl).elim
        rw [e1, e2]
        exact ⟨⟨k1, q1⟩, G, q2, q3, fun ι' hi p hp => ⟨(q4 ι' hi p hp).1, (q4 ι' hi p hp).2.more hmore⟩⟩
      cases ct with
      | sl e t =>
        obtain ⟨i, m1, m2, m3⟩ := k2 e t cv rfl
        refine ⟨⟨k1, q1⟩, (id, i) :: G, ?_, fun ι' hi p hp => ?_, fun ι' hi p hp => ?_⟩
        · rw [toOwns_cons]
          simp only [Cell.toOwn, List.cons_append, List.nil_append, outIds, List.map_cons] at q2 ⊢
          rw [q2]
        · have h0 := hi (id, i) List.mem_cons_self
          simp only [insOf, List.mem_cons] at hp
          rcases hp with rfl | hp
          · simp only at h0 ⊢; rw [h0]; exact m1
          · exact q3 ι' (fun p hp => hi p (List.mem_cons_of_mem _ hp)) p hp
        · have h0 := hi (id, i) List.mem_cons_self
          rw [toOwns_cons] at hp
          simp only [Cell.toOwn, List.cons_append, List.nil_append, List.mem_cons] at hp
          rcases hp with rfl | hp
          · simp only at h0 ⊢
            rw [h0]
            refine ⟨m2, fun b hb => ?_⟩
            obtain ⟨j, n1, n2⟩ := m3 b hb
            obtain ⟨oj, n3⟩ := n2
            exact ⟨j, oj, by simp only [owL, List.mem_append, List.mem_map]; exact .inl ⟨j, n1, rfl⟩, n3⟩
          · have := q4 ι' (fun p hp => hi p (List.mem_cons_of_mem _ hp)) p hp
            exact ⟨this.1, this.2.more hmore⟩
      | int k => exact plain fun _ _ h => by cases h
      | bool => exact plain fun _ _ h => by cases h
      | str => exact plain fun _ _ h => by cases h
      | unit => exact plain fun _ _ h => by cases h
      | two a b => exact plain fun _ _ h => by cases h
    have hc := h1.1
    have hv := h2.1
    obtain ⟨ct, cv⟩ := c
    unfold IsC at hc
    cases ct with
    | unit => cases y <;> simp [ofAV] at hc
    | two a b => cases y <;> simp [ofAV] at hc
    | int k =>
      cases y <;> simp only [ofAV] at hc <;> try (cases hc; done)
      obtain ⟨rfl, hc⟩ := ite_some hc
      cases hc
      exact ⟨hv, fun _ _ _ h => by cases h⟩
    | bool =>
      cases y <;> simp only [ofAV] at hc <;> try (cases hc; done)
      cases hc
      exact ⟨hv, fun _ _ _ h => by cases h⟩
    | str =>
      cases y <;> simp only [ofAV] at hc <;> try (cases hc; done)
      cases hc
      exact ⟨hv, fun _ _ _ h => by cases h⟩
    | sl e t =>
      cases y with
      | whole r =>
        have hb : okOwn s.ob r = true := by
          rcases isOwn_ok (hown r (by simp [AV.ids])) with ⟨t', c', k⟩ | k
          · simp [ofAV, dv, k] at hc
          · exact k
        obtain ⟨e', t', l', hob⟩ := okOwn_is hb
        have hcc := IsC.own (c := ⟨.sl e t, cv⟩) h1.1 hob
        cases hcc
        obtain ⟨v1, o, v2, v3⟩ := hv
        rw [hob] at v2
        cases v2
        have hu := v3 _ _ mkO_shp
        subst hu
        refine ⟨⟨_, _, rfl⟩, fun e2 t2 l2 he => ?_⟩
        cases he
        exact ⟨ι r, ⟨rfl, rfl⟩, RepO.ownX (hs.obs r _ hob), fun b hb => ⟨r, by simp [AV.ids], _, hob, mkO_Wr, hb⟩⟩
      | cut r off n =>
        simp only [cutOk] at hcut
        split at hcut
        · rename_i e' t' own l' hob
          simp only [ofAV, dv_row hob] at hc
          split at hc
          · rename_i hh
            obtain ⟨rfl, rfl⟩ := hh
            cases hc
            simp only [castL_self]
            have hw := hown r (by simp [AV.ids])
            unfold isOwn at hw
            rw [hob] at hw
            cases own with
            | false => cases hw
            | true =>
              simp only at hw
              obtain ⟨i, m1, m3⟩ := (claim_spec hs (id := 0) (e := e') (t := t') (en := ⟨0, .row e' t' true ((l'.drop off).take n), some r⟩) (by simp [claim, hob]) hv).2
              have m4 := m3.rep _ (fun _ h => h) (fun r' _ hnw => (hnw trivial).elim)
              have hll : lenO (.row e' t' true ((l'.drop off).take n)) = ((l'.drop off).take n).length := rfl
              subst m1
              refine ⟨⟨i.a, i.c, by rw [hll]⟩, fun e2 t2 l2 he => ?_⟩
              cases he
              refine ⟨i, ⟨rfl, rfl⟩, ownX_plain hw m4, fun b hb => ?_⟩
              rw [mkO_plain hw] at hb
              obtain ⟨r', o, e1, e2, e3, e4⟩ := m3.wr trivial b hb
              cases e1
              exact ⟨r, by simp [AV.ids], o, e2, e3, e4⟩
          · cases hc
        · cases hcut
      | nils =>
        simp only [ofAV] at hc
        cases hc
        simp only [RepAV] at hv
        subst hv
        refine ⟨⟨none, 0, rfl⟩, fun e2 t2 l2 he => ?_⟩
        cases he
        refine ⟨⟨none, 0, []⟩, ⟨rfl, rfl⟩, ownX_nil, fun b hb => ?_⟩
        obtain ⟨ad, h, _⟩ := Blk.one rfl hb
        cases h
      | undef => simp [ofAV] at hc
      | int _ _ => simp [ofAV] at hc
      | bool _ => simp [ofAV] at hc
      | str _ => simp [ofAV] at hc
      | bptr _ _ => simp [ofAV] at hc
      | eptr _ _ _ => simp [ofAV] at hc
      | fn _ _ => simp [ofAV] at hc
theorem toOwns_mem (own : Bool) : ∀ (id : Nat) (cs : List Cell), ∀ p ∈ (toOwns own id cs).2, ∃ e t x, p.2 = mkO own e t x
  | id, [], p, hp => by cases hp
  | id, ⟨t, v⟩ :: r, p, hp => by
    rw [toOwns_cons] at hp
    rcases List.mem_append.1 hp with hp | hp
    · cases t <;> simp [Cell.toOwn, Cell.toAV] at hp
      subst hp
      exact ⟨_, _, v, rfl⟩
    · exact toOwns_mem own (id + 1) r p hp
/-- Cells that a caller gets. -/
theorem grp (hs : HS w0 X M ι s.ob w1) (own : Bool) {l : List AV} {cs : List Cell} {us : List Value} (id : Nat) (h1 : All2 (IsC s.ob) l cs) (h2 : All2 (RepAV ι s.ob) l us)
    (h3 : own = true → ∀ r ∈ idsOf l, isOwn s r = true) (h3' : ∀ y ∈ l, cutOk s y = true) (h4 : own = false → ∀ r ∈ idsOf l, ∀ e t own x, dv s.ob r = some (.row e t own x) → Ro w1 NN t x (ι r).a (ι r).c) :
    ∃ G : List (Nat × In), G.map Prod.fst = outIds (toOwns own id cs).2 ∧ All2 CellV cs us ∧
    ∀ (ι' : Nat → In) (ob' : Ob), (∀ p ∈ (toOwns own id cs).2, ob' p.1 = some p.2) → (∀ p ∈ G, ι' p.1 = p.2) →
      All2 (RepAV ι' ob') (toOwns own id cs).1 us ∧ ∀ p ∈ (toOwns own id cs).2, OutObj ι s.ob w1 NN (bif own then owL id l else []) ι' ob' p := by
  cases own with
  | true =>
    obtain ⟨k1, G, k2, k3, k4⟩ := own_cells hs id h1 h2 (h3 rfl) h3'
    exact ⟨G, k2, k1, fun ι' ob' ho hi => ⟨toOwns_rep true id cs us k1 ho (k3 ι' hi), fun p hp => OutObj.mk (k4 ι' hi p hp).1 (k4 ι' hi p hp).2⟩⟩
  | false =>
    obtain ⟨k1, k2⟩ := read_cells (w := w1) (N := NN) h1 h2 (h4 rfl)
    refine ⟨insOf id cs us, insOf_fst false id cs us k1.len, k1, fun ι' ob' ho hi => ⟨toOwns_rep false id cs us k1 ho (fun p hp => Alike.of (hi p hp)), fun p hp => ?_⟩⟩
    obtain ⟨e, t, x, e1, e2⟩ := toOwns_obj id cs us k2 hi p hp
    obtain ⟨n, o⟩ := p
    simp only at e1
    subst e1
    exact e2
end
def RK.isOwn : RK → Bool | .one o => o | .agg _ o => o | .ptr _ _ o => o
def notRo : Obj → Bool | .row _ _ false _ => false | _ => true
theorem notRo_mk {e : Nat} {t : Ty} {l : List t.den} : notRo (mkO true e t l) = true := by
  rcases mkO_cases (e := e) (l := l) with ⟨_, h⟩ | ⟨_, h⟩ <;> rw [h] <;> rfl
section
variable {s : DS} {w1 : World} {NN : Nat → Prop}
theorem out_spec {tt : Nat → Option TI} (hs : HS w0 X M ι s.ob w1) : ∀ (ks : List RK) (vs : List ResultVar) (us0 : List Value) (id : Nat) (q : Ra) (rest : List AV) (cells : List Cell) (o : Out), resA tt s ks vs = some q → All2 (fun v u => ∀ d, resD tt s v = some d → RepDV ι s.ob d u) vs us0 → (∀ r ∈ q.own, isOwn s r = true) → (∀ y ∈ q.a, cutOk s y = true) →
    (∀ r ∈ q.oth, ∀ e t own x, dv s.ob r = some (.row e t own x) → Ro w1 NN t x (ι r).a (ι r).c) → All2 (IsC s.ob) (q.a ++ rest) cells → outR id ks cells = some o →
    ∃ (G : List (Nat × In)) (OW : List (Nat × Nat)), G.map Prod.fst = outIds o.w ∧ OW.map Prod.snd = q.own ∧ All2 (IsC s.ob) rest o.cs ∧ (∀ p ∈ o.vs, p.1 = false → ∃ x, p.2 = [x]) ∧ (ks.all RK.isOwn = true → ∀ p ∈ o.w, notRo p.2 = true) ∧
      ∀ (ι' : Nat → In) (ob' : Ob), (∀ p ∈ o.w, ob' p.1 = some p.2) → (∀ p ∈ G, ι' p.1 = p.2) → All2 (RepP ι' ob') o.vs us0 ∧ ∀ p ∈ o.w, OutObj ι s.ob w1 NN OW ι' ob' p
  | [], [], _ :: _, id, q, rest, cells, o, h, hv, _, _, _, hc, ho => hv.elim
  | _ :: _, _ :: _, [], id, q, rest, cells, o, h, hv, _, _, _, hc, ho => hv.elim
  | [], [], [], id, q, rest, cells, o, h, _, _, _, _, hc, ho => by
    cases h
    cases ho
    exact ⟨[], [], rfl, rfl, hc, by simp, by simp, fun _ _ _ _ => ⟨trivial, by simp⟩⟩
  | [], _ :: _, _, id, q, rest, cells, o, h, _, _, _, _, hc, ho => by cases h
  | _ :: _, [], _, id, q, rest, cells, o, h, _, _, _, _, hc, ho => by cases h
  | k :: ks, v :: vs, u0 :: us0, id, q, rest, cells, o, h, hv, how, hcut, hro, hc, ho => by
    simp only [resA] at h
    obtain ⟨dd, hdd, hb1⟩ := Option.bind_eq_some_iff.1 h
    obtain ⟨q0, h0, hb2⟩ := Option.bind_eq_some_iff.1 hb1
    have htt := hv.1 dd hdd
    clear h hb1
    revert hb2
    intro h
    cases k with
    | one own =>
      split at h
      all_goals try first | (cases h; done) | (rename_i hk; cases hk; done)
      · rename_i own' x hk
        cases hk
        cases h
        cases cells with
        | nil => exact hc.elim
        | cons c cells =>
          simp only [outR] at ho
          obtain ⟨o0, ho0, ho⟩ := Option.bind_eq_some_iff.1 ho
          cases ho
          have how1 : own = true → ∀ r ∈ idsOf [x], isOwn s r = true := fun h => by
            subst h
            exact fun r hr => how r (by simp only [ownL, cond_true]; exact List.mem_append_left _ hr)
          have hro1 : own = false → ∀ r ∈ idsOf [x], ∀ e t own x, dv s.ob r = some (.row e t own x) → Ro w1 NN t x (ι r).a (ι r).c := fun h r hr => hro r (by subst h; simp only [ownL, cond_false]; exact List.mem_append_left _ hr)
          obtain ⟨G0, g1, g2, g3⟩ := grp hs own (l := [x]) (cs := [c]) (us := [u0]) id ⟨hc.1, trivial⟩ ⟨htt, trivial⟩ how1 (fun y hy => hcut y (by simp only [ownL]; exact List.mem_append_left _ hy)) hro1
          obtain ⟨G, OW, r1, r2, r3, r5, r6, r8⟩ := out_spec hs ks vs us0 (id + 1) q0 rest cells o0 h0 hv.2 (fun r hr => how r (List.mem_append_right _ hr)) (fun y hy => hcut y (List.mem_append_right _ hy)) (fun r hr => hro r (List.mem_append_right _ hr)) hc.2 ho0
          have hto : toOwns own id [c] = ([(c.toOwn own id).1], (c.toOwn own id).2) := by rw [toOwns_cons]; simp [toOwns]
          rw [hto] at g1 g3
          refine ⟨G0 ++ G, (bif own then owL id [x] else []) ++ OW, by simp only [List.map_append, outIds] at g1 r1 ⊢; rw [g1, r1], ?_, r3, fun p hp => ?_, fun hall p hp => ?_, fun ι' ob' hob hin => ?_⟩
          · rw [List.map_append, r2]
            cases own
            · simp [ownL]
            · simp only [ownL, cond_true, owL_snd]
          · rcases List.mem_cons.1 hp with rfl | hp
            · exact fun _ => ⟨_, rfl⟩
            · exact r5 p hp
          · simp only [List.all_cons, Bool.and_eq_true, RK.isOwn] at hall
            rcases List.mem_append.1 hp with hp | hp
            · obtain ⟨e, t, x, e1⟩ := toOwns_mem own id [c] p (by rw [hto]; exact hp)
              rw [e1, hall.1]; exact notRo_mk
            · exact r6 hall.2 p hp
          · obtain ⟨m1, m2⟩ := g3 ι' ob' (fun p hp => hob p (List.mem_append_left _ hp)) (fun p hp => hin p (List.mem_append_left _ hp))
            obtain ⟨n1, n2⟩ := r8 ι' ob' (fun p hp => hob p (List.mem_append_right _ hp)) (fun p hp => hin p (List.mem_append_right _ hp))
            refine ⟨⟨fun y hy => ?_, n1⟩, fun p hp => ?_⟩
            · cases hy
              exact m1.1
            · rcases List.mem_append.1 hp with hp | hp
              · exact (m2 p hp).more fun z hz => List.mem_append_left _ hz
              · exact (n2 p hp).more fun z hz => List.mem_append_right _ hz
    | agg n own =>
      split at h
      all_goals try first | (cases h; done) | (rename_i hk; cases hk; done)
      · rename_i n' own' l hk
        cases hk
        obtain ⟨hn, h⟩ := ite_some h
        cases h
        obtain ⟨us, hus, hul⟩ := htt
        simp only [outR] at ho
        obtain ⟨o0, ho0, ho⟩ := Option.bind_eq_some_iff.1 ho
        cases ho
        have hc' : All2 (IsC s.ob) (l ++ (q0.a ++ rest)) cells := by simpa [ownL, List.append_assoc] using hc
        obtain ⟨c1, c2⟩ := All2.split hc'
        rw [hn] at c1 c2
        have how1 : own = true → ∀ r ∈ idsOf l, isOwn s r = true := fun h => by
          subst h
          exact fun r hr => how r (by simp only [ownL, cond_true]; exact List.mem_append_left _ hr)
        have hro1 : own = false → ∀ r ∈ idsOf l, ∀ e t own x, dv s.ob r = some (.row e t own x) → Ro w1 NN t x (ι r).a (ι r).c := fun h r hr => hro r (by subst h; simp only [ownL, cond_false]; exact List.mem_append_left _ hr)
        obtain ⟨G0, g1, g2, g3⟩ := grp hs own id c1 hul how1 (fun y hy => hcut y (by simp only [ownL]; exact List.mem_append_left _ hy)) hro1
        obtain ⟨G, OW, r1, r2, r3, r5, r6, r8⟩ := out_spec hs ks vs us0 (id + n) q0 rest _ o0 h0 hv.2 (fun r hr => how r (List.mem_append_right _ hr)) (fun y hy => hcut y (List.mem_append_right _ hy)) (fun r hr => hro r (List.mem_append_right _ hr)) c2 ho0
        refine ⟨G0 ++ G, (bif own then owL id l else []) ++ OW, by simp only [List.map_append, outIds] at g1 r1 ⊢; rw [g1, r1], ?_, r3, fun p hp => ?_, fun hall p hp => ?_, fun ι' ob' hob hin => ?_⟩
        · rw [List.map_append, r2]
          cases own
          · simp [ownL]
          · simp only [ownL, cond_true, owL_snd]
        · rcases List.mem_cons.1 hp with rfl | hp
          · exact fun h => by cases h
          · exact r5 p hp
        · simp only [List.all_cons, Bool.and_eq_true, RK.isOwn] at hall
          rcases List.mem_append.1 hp with hp | hp
          · obtain ⟨e, t, x, e1⟩ := toOwns_mem own id _ p hp
            rw [e1, hall.1]; exact notRo_mk
          · exact r6 hall.2 p hp
        · obtain ⟨m1, m2⟩ := g3 ι' ob' (fun p hp => hob p (List.mem_append_left _ hp)) (fun p hp => hin p (List.mem_append_left _ hp))
          obtain ⟨n1, n2⟩ := r8 ι' ob' (fun p hp => hob p (List.mem_append_right _ hp)) (fun p hp => hin p (List.mem_append_right _ hp))
          refine ⟨⟨⟨us, hus, m1⟩, n1⟩, fun p hp => ?_⟩
          rcases List.mem_append.1 hp with hp | hp
          · exact (m2 p hp).more fun z hz => List.mem_append_left _ hz
          · exact (n2 p hp).more fun z hz => List.mem_append_right _ hz
    | ptr t0 n own =>
      split at h
      all_goals try first | (cases h; done) | (rename_i hk; cases hk; done)
      · rename_i t' n' own' b hk
        cases hk
        split at h
        · rename_i t'' c hob
          obtain ⟨⟨e1, hn⟩, h'⟩ := ite_some h
          subst e1
          cases h'
          obtain ⟨g, us, b1, b2, hul⟩ := hs.obs b _ hob
          simp only [outR] at ho
          obtain ⟨o0, ho0, ho⟩ := Option.bind_eq_some_iff.1 ho
          cases ho
          have hc' : All2 (IsC s.ob) (c ++ (q0.a ++ rest)) cells := by simpa [ownL, List.append_assoc] using hc
          obtain ⟨c1, c2⟩ := All2.split hc'
          rw [hn] at c1 c2
          have how1 : own = true → ∀ r ∈ idsOf c, isOwn s r = true := fun h => by
            subst h
            exact fun r hr => how r (by simp only [ownL, cond_true]; exact List.mem_cons_of_mem _ (List.mem_append_left _ hr))
          have hro1 : own = false → ∀ r ∈ idsOf c, ∀ e t own x, dv s.ob r = some (.row e t own x) → Ro w1 NN t x (ι r).a (ι r).c := fun h r hr => hro r (by subst h; simp only [ownL, cond_false]; exact List.mem_append_left _ hr)
          obtain ⟨G0, g1, g2, g3⟩ := grp hs own (id + 1) c1 hul how1 (fun y hy => hcut y (by simp only [ownL]; exact List.mem_append_left _ hy)) hro1
          obtain ⟨G, OW, r1, r2, r3, r5, r6, r8⟩ := out_spec hs ks vs us0 (id + 1 + n) q0 rest _ o0 h0 hv.2 (fun r hr => how r (List.mem_cons_of_mem _ (List.mem_append_right _ hr))) (fun y hy => hcut y (List.mem_append_right _ hy)) (fun r hr => hro r (List.mem_append_right _ hr)) c2 ho0
          obtain ⟨v1, ob1, v2, v3⟩ := htt
          rw [hob] at v2
          cases v2
          obtain ⟨g', v4, v5⟩ := v3 _ _ rfl
          rw [b1] at v4
          cases v4
          refine ⟨(id, ι b) :: (G0 ++ G), (id, b) :: ((bif own then owL (id + 1) c else []) ++ OW), by simp only [List.map_append, outIds, List.map_cons] at g1 r1 ⊢; rw [g1, r1], ?_, r3, fun p hp => ?_, fun hall p hp => ?_, fun ι' ob' hob' hin => ?_⟩
          · rw [List.map_cons, List.map_append, r2]
            cases own
            · simp [ownL]
            · simp only [ownL, cond_true, owL_snd]
          · rcases List.mem_cons.1 hp with rfl | hp
            · exact fun _ => ⟨_, rfl⟩
            · exact r5 p hp
          · simp only [List.all_cons, Bool.and_eq_true, RK.isOwn] at hall
            rcases List.mem_cons.1 hp with rfl | hp
            · rfl
            rcases List.mem_append.1 hp with hp | hp
            · obtain ⟨e, t, x, e1⟩ := toOwns_mem own _ _ p hp
              rw [e1, hall.1]; exact notRo_mk
            · exact r6 hall.2 p hp
          · obtain ⟨m1, m2⟩ := g3 ι' ob' (fun p hp => hob' p (List.mem_cons_of_mem _ (List.mem_append_left _ hp))) (fun p hp => hin p (List.mem_cons_of_mem _ (List.mem_append_left _ hp)))
            obtain ⟨n1, n2⟩ := r8 ι' ob' (fun p hp => hob' p (List.mem_cons_of_mem _ (List.mem_append_right _ hp))) (fun p hp => hin p (List.mem_cons_of_mem _ (List.mem_append_right _ hp)))
            have hid : ι' id = ι b := hin (id, ι b) List.mem_cons_self
            have hidb := hob' _ List.mem_cons_self
            refine ⟨⟨fun y hy => ?_, n1⟩, fun p hp => ?_⟩
            · cases hy
              refine ⟨v1, _, hidb, fun t2 c2 _ => ⟨g, ?_, v5⟩⟩
              rw [hid]; exact b1
            · rcases List.mem_cons.1 hp with rfl | hp
              · exact ⟨⟨g, us, by rw [hid]; exact b1, b2, m1⟩, fun b' hb' => ⟨b, _, List.mem_cons_self, hob, trivial, by simp only at hb'; rw [hid] at hb'; exact hb'⟩⟩
              rcases List.mem_append.1 hp with hp | hp
              · exact (m2 p hp).more fun z hz => List.mem_cons_of_mem _ (List.mem_append_left _ hz)
              · exact (n2 p hp).more fun z hz => List.mem_cons_of_mem _ (List.mem_append_right _ hz)
        · cases h
end

def noBox : PK → Bool | .box _ _ => false | .fnp _ _ _ => false | _ => true
/-- What a caller gets back of what it handed over to be written: o is the object, oj what the callee has for it. -/
def ParObj (ι1 : Nat → In) (w1 : World) (oj : Obj) (jj : Nat) (ι' : Nat → In) (ob' : Ob) (o : Obj) : Prop :=
  match o with
  | .box t c => (∃ t1 c1, oj = .box t1 c1) ∧ ∃ g cs, (ι1 jj).a = some ⟨g, 0, none⟩ ∧ w1.heap[g]? = some (.cells (List.toArray cs) t (0, 0)) ∧ All2 (RepAV ι' ob') c cs
  | o => oj = o ∧ OwnX w1 o (ι1 jj)
theorem ParObj.mk {ι1 : Nat → In} {w1 : World} {jj : Nat} {ι' : Nat → In} {ob' : Ob} : ∀ {o : Obj}, OwnX w1 o (ι1 jj) → ParObj ι1 w1 o jj ι' ob' o
  | .row e t true l, h => ⟨rfl, h⟩
  | .deep e t l none, h => ⟨rfl, h⟩
section
variable {w0' : World} {X' M' : Nat → Prop} {ι1 : Nat → In} {s : DS} {w1 : World} {NN : Nat → Prop}
theorem slots_owL : ∀ (l : List AV) (id k : Nat), l.all (ownAV ob) = true → (owL (id + k) l).map Prod.fst = (slots k l).map fun i => id + i
  | [], _, _, _ => rfl
  | x :: l, id, k, h => by
    simp only [List.all_cons, Bool.and_eq_true] at h
    have ih := slots_owL l id (k + 1) h.2
    have hx := h.1
    rw [← Nat.add_assoc] at ih
    cases x <;> first | (simp [ownAV] at hx; done) | (simp [owL, slots, AV.ids, ih])
theorem sameL_eq : ∀ {l q : List Nat}, sameL l q = true → l = q
  | [], [], _ => rfl
  | a :: l, b :: q, h => by
    simp only [sameL, Bool.and_eq_true] at h
    rw [Nat.eq_of_beq_eq_true h.1, sameL_eq h.2]
  | [], _ :: _, h => by cases h
  | _ :: _, [], h => by cases h
/-- A row that stays: what the callee has for it at its end. -/
theorem stay {jj e0 : Nat} {t0 : Ty} {l0 : List t0.den} {c : Cell} {o : Obj} (ho : s.ob jj = some o) (hsh : Sh (mkO true e0 t0 l0) o) (how : isOwn s jj = true) (hc : IsC s.ob (.whole jj) c) :
    ∃ e t l, c = ⟨.sl e t, l⟩ ∧ o = mkO true e t l ∧ Sh (mkO true e0 t0 l0) (mkO true e t l) := by
  have hb : okOwn s.ob jj = true := by
    rcases isOwn_ok how with ⟨t', c', k⟩ | k
    · rw [ho] at k
      cases k
      rcases mkO_cases (e := e0) (l := l0) with ⟨_, h⟩ | ⟨_, h⟩ <;> rw [h] at hsh <;> exact hsh.elim
    · exact k
  obtain ⟨e, t, l, hob⟩ := okOwn_is hb
  have hcc := IsC.own hc hob
  rw [ho] at hob
  cases hob
  exact ⟨e, t, l, hcc, rfl, hsh⟩
/-- Rows that stay come back. -/
theorem outW_spec (k1 : HS w0' X' M' ι1 s.ob w1) {rest : List AV} : ∀ (P : List (Nat × Nat)) (cells : List Cell) (a : List (Nat × Obj) × List Cell), outW (P.map Prod.snd) cells = some a → All2 (IsC s.ob) ((P.map Prod.fst).map AV.whole ++ rest) cells →
    (∀ x ∈ P, ∃ o oo, s.ob x.1 = some o ∧ ob x.2 = some oo ∧ Wr oo ∧ Sh oo o) → (∀ x ∈ P, isOwn s x.1 = true) → (∀ x ∈ P, ∃ e t l, ob x.2 = some (mkO true e t l)) →
    outIds a.1 = P.map Prod.snd ∧ All2 (IsC s.ob) rest a.2 ∧
    ∀ (ι' : Nat → In) (ob' : Ob), ∀ y ∈ a.1, ∃ jj oj oo, (jj, y.1) ∈ P ∧ s.ob jj = some oj ∧ ob y.1 = some oo ∧ Wr oo ∧ Sh oo y.2 ∧ ParObj ι1 w1 oj jj ι' ob' y.2
  | [], cells, a, h, hc, _, _, _ => by cases h; exact ⟨rfl, hc, by simp⟩
  | (jj, i) :: P, [], a, h, hc, _, _, _ => by cases h
  | (jj, i) :: P, c :: cells, a, h, hc, hkeep, how, hrow => by
    obtain ⟨o, oo, a2, a3, a4, a5⟩ := hkeep (jj, i) List.mem_cons_self
    obtain ⟨e0, t0, l0, a6⟩ := hrow (jj, i) List.mem_cons_self
    have a7 := how (jj, i) List.mem_cons_self
    simp only at a2 a3 a6 a7
    rw [a6] at a3
    cases a3
    obtain ⟨e, t, l, rfl, rfl, a8⟩ := stay a2 a5 a7 hc.1
    simp only [List.map_cons, outW] at h
    obtain ⟨q, h1, h⟩ := Option.bind_eq_some_iff.1 h
    cases h
    obtain ⟨b1, b2, b5⟩ := outW_spec k1 P cells q h1 hc.2 (fun x hx => hkeep x (List.mem_cons_of_mem _ hx)) (fun x hx => how x (List.mem_cons_of_mem _ hx)) (fun x hx => hrow x (List.mem_cons_of_mem _ hx))
    refine ⟨by simp only [outIds, List.map_cons] at b1 ⊢; rw [b1], b2, fun ι' ob' y hy => ?_⟩
    rcases List.mem_cons.1 hy with rfl | hy
    · exact ⟨jj, _, _, List.mem_cons_self, a2, a6, mkO_Wr, a8, ParObj.mk (RepO.ownX (k1.obs _ _ a2))⟩
    · obtain ⟨jj', oj, oo, c1, c2⟩ := b5 ι' ob' y hy
      exact ⟨jj', oj, oo, List.mem_cons_of_mem _ c1, c2⟩
theorem owL_rows : ∀ (l : List AV) (id : Nat), l.all (ownAV ob) = true → ∀ x ∈ owL id l, ∃ e t y, ob x.2 = some (mkO true e t y)
  | [], _, _, x, hx => by cases hx
  | y :: l, id, h, x, hx => by
    simp only [List.all_cons, Bool.and_eq_true] at h
    simp only [owL, List.mem_append] at hx
    rcases hx with hx | hx
    · have hy := h.1
      cases y with
      | whole r =>
        simp only [AV.ids, List.map_cons, List.map_nil, List.mem_singleton] at hx
        subst hx
        exact okOwn_is hy
      | cut _ _ _ => simp [ownAV] at hy
      | _ => simp [AV.ids] at hx
    · exact owL_rows l (id + 1) h.2 x hx
theorem outP_spec (k1 : HS w0' X' M' ι1 s.ob w1) : ∀ (ps : List PK) (args : List DV) (j : Nat) (avs : List AV) (p : Ra) (cells : List Cell) (id : Nat) (q : List (Nat × Obj) × List (Nat × Obj)), flat ob ps args = some avs → pA s j ps = some p →
    (∀ r ∈ p.oth, ∀ e t own x, dv s.ob r = some (.row e t own x) → Ro w1 NN t x (ι1 r).a (ι1 r).c) → All2 (IsC s.ob) p.a cells → outP id ps args cells = some q →
    (∀ x ∈ owP j ps args, ∃ o oo, s.ob x.1 = some o ∧ ob x.2 = some oo ∧ Wr oo ∧ Sh oo o) → (∀ r ∈ p.kp, isOwn s r = true) → (∀ r ∈ p.own, isOwn s r = true) → (∀ y ∈ p.a, cutOk s y = true) →
    p.kp = (owP j ps args).map Prod.fst ∧ outIds q.1 = boxIds ps args ∧ (ps.all noBox = true → ∀ y ∈ q.2, notRo y.2 = true) ∧
    ∃ (G : List (Nat × In)) (OW2 : List (Nat × Nat)), G.map Prod.fst = outIds q.2 ∧ OW2.map Prod.snd = p.own ∧ ∀ (ι' : Nat → In) (ob' : Ob), (∀ y ∈ q.2, ob' y.1 = some y.2) → (∀ y ∈ G, ι' y.1 = y.2) →
      (∀ y ∈ q.2, OutObj ι1 s.ob w1 NN OW2 ι' ob' y) ∧ ∀ y ∈ q.1, ∃ jj oj oo, (jj, y.1) ∈ owP j ps args ∧ s.ob jj = some oj ∧ ob y.1 = some oo ∧ Wr oo ∧ Sh oo y.2 ∧ ParObj ι1 w1 oj jj ι' ob' y.2
  | [], [], j, avs, p, cells, id, q, hf, hp, hro, hc, ho, hkeep, how, hown, hcut => by
    cases hp
    cases cells with
    | nil => cases ho; exact ⟨rfl, rfl, by simp, [], [], rfl, rfl, fun _ _ _ _ => ⟨by simp, by simp⟩⟩
    | cons _ _ => exact hc.elim
  | [], _ :: _, j, avs, p, cells, id, q, hf, hp, hro, hc, ho, hkeep, how, hown, hcut => by cases hf
  | pk :: _, [], j, avs, p, cells, id, q, hf, hp, hro, hc, ho, hkeep, how, hown, hcut => by cases pk <;> simp [flat] at hf
  | pk :: ps, d :: args, j, avs, p, cells, id, q, hf, hp, hro, hc, ho, hkeep, how, hown, hcut => by
    cases pk with
    | one =>
      cases d with
      | «at» x =>
        simp only [flat] at hf
        obtain ⟨avs', hf3, _⟩ := Option.bind_eq_some_iff.1 hf
        simp only [pA] at hp
        simp only [outP] at ho
        have := outP_spec k1 ps args (j + 1) avs' p cells id q hf3 hp hro hc ho (fun x hx => hkeep x (by simpa [owP] using hx)) how hown hcut
        simpa [owP, boxIds, noBox] using this
      | agg l => cases hf
      | tup l => cases hf
    | agg n =>
      cases d with
      | «at» x => cases hf
      | tup l => cases hf
      | agg l =>
        simp only [flat] at hf
        obtain ⟨_, hf⟩ := ite_some hf
        obtain ⟨avs', hf3, _⟩ := Option.bind_eq_some_iff.1 hf
        simp only [pA] at hp
        simp only [outP] at ho
        have := outP_spec k1 ps args (j + 1) avs' p cells id q hf3 hp hro hc ho (fun x hx => hkeep x (by simpa [owP] using hx)) how hown hcut
        simpa [owP, boxIds, noBox] using this
    | give =>
      match d, hf, ho, hkeep with
      | .at (.whole i), hf, ho, hkeep =>
        simp only [flat] at hf
        obtain ⟨_, hf⟩ := bif_some hf
        obtain ⟨avs', hf3, _⟩ := Option.bind_eq_some_iff.1 hf
        simp only [pA] at hp
        simp only [outP] at ho
        have := outP_spec k1 ps args (j + 1) avs' p cells id q hf3 hp hro hc ho (fun x hx => hkeep x (by simpa [owP] using hx)) how hown hcut
        simpa [owP, boxIds, noBox] using this
    | row =>
      match d, hf, ho, hkeep with
      | .at (.whole i), hf, ho, hkeep =>
        simp only [flat] at hf
        obtain ⟨hok, hf⟩ := bif_some hf
        obtain ⟨e0, t0, l0, hob⟩ := okOwn_is hok
        obtain ⟨avs', hf3, _⟩ := Option.bind_eq_some_iff.1 hf
        simp only [pA] at hp
        obtain ⟨p', hp3, hp2⟩ := Option.bind_eq_some_iff.1 hp
        cases hp2
        cases cells with
        | nil => exact hc.elim
        | cons c cells =>
          obtain ⟨o, oo, a2, a3, a4, a5⟩ := hkeep (j * 16, i) (by simp [owP])
          simp only at a2 a3
          rw [hob] at a3
          cases a3
          have hw0 : isOwn s (j * 16) = true := how (j * 16) List.mem_cons_self
          obtain ⟨e, t, l, rfl, rfl, a8⟩ := stay a2 a5 hw0 hc.1
          simp only [outP] at ho
          obtain ⟨q', ho3, hq⟩ := Option.bind_eq_some_iff.1 ho
          cases hq
          obtain ⟨b1, b2, b3, G, OW2, b5, b52, b6⟩ := outP_spec k1 ps args (j + 1) avs' p' cells id q' hf3 hp3 hro hc.2 ho3 (fun x hx => hkeep x (by simp only [owP]; exact List.mem_cons_of_mem _ hx)) (fun r hr => how r (List.mem_cons_of_mem _ hr)) hown (fun y hy => hcut y (List.mem_cons_of_mem _ hy))
          refine ⟨by simp [owP, b1], by simp [boxIds, ← b2, outIds], fun h => b3 (by simpa [noBox] using h), G, OW2, b5, b52, fun ι' ob' h1 h2 => ⟨(b6 ι' ob' h1 h2).1, fun y hy => ?_⟩⟩
          rcases List.mem_cons.1 hy with rfl | hy
          · exact ⟨j * 16, _, _, by simp [owP], a2, hob, mkO_Wr, a8, ParObj.mk (RepO.ownX (k1.obs _ _ a2))⟩
          · obtain ⟨jj, oj, oo, c1, c2⟩ := (b6 ι' ob' h1 h2).2 y hy
            exact ⟨jj, oj, oo, by simp only [owP]; exact List.mem_cons_of_mem _ c1, c2⟩
    | aggw n sl =>
      cases d with
      | «at» x => cases hf
      | tup l => cases hf
      | agg l =>
        simp only [flat] at hf
        obtain ⟨⟨hn, hall⟩, hf⟩ := ite_some hf
        simp only [Bool.and_eq_true] at hall
        obtain ⟨avs', hf3, _⟩ := Option.bind_eq_some_iff.1 hf
        simp only [pA] at hp
        obtain ⟨p', hp3, hp2⟩ := Option.bind_eq_some_iff.1 hp
        cases hp2
        simp only [outP] at ho
        obtain ⟨a, ho1, ho2⟩ := Option.bind_eq_some_iff.1 ho
        obtain ⟨q', ho3, hq⟩ := Option.bind_eq_some_iff.1 ho2
        cases hq
        have hkp : sl.map (fun i => j * 16 + i) = (owL (j * 16) l).map Prod.fst := by
          have := slots_owL (ob := ob) l (j * 16) 0 hall.1
          rw [Nat.add_zero] at this
          rw [this, sameL_eq hall.2]
        have hkp2 : sl.map (fun i => AV.whole (j * 16 + i)) = ((owL (j * 16) l).map Prod.fst).map AV.whole := by
          rw [← hkp, List.map_map]
          rfl
        have hc' : All2 (IsC s.ob) (sl.map (fun i => AV.whole (j * 16 + i)) ++ p'.a) cells := hc
        have how' : ∀ r ∈ sl.map (fun i => j * 16 + i) ++ p'.kp, isOwn s r = true := how
        rw [hkp2] at hc'
        rw [hkp] at how'
        rw [← owL_snd (j * 16)] at ho1
        obtain ⟨w1, w2, w5⟩ := outW_spec k1 (owL (j * 16) l) cells a ho1 hc' (fun x hx => hkeep x (by simp only [owP, List.mem_append]; exact .inl hx)) (fun x hx => how' x.1 (List.mem_append_left _ (List.mem_map.2 ⟨x, hx, rfl⟩))) (owL_rows l (j * 16) hall.1)
        obtain ⟨b1, b2, b3, G, OW2, b5, b52, b6⟩ := outP_spec k1 ps args (j + 1) avs' p' a.2 id q' hf3 hp3 hro w2 ho3 (fun x hx => hkeep x (by simp only [owP, List.mem_append]; exact .inr hx)) (fun r hr => how' r (List.mem_append_right _ hr)) hown (fun y hy => hcut y (List.mem_append_right _ hy))
        refine ⟨by simp only [owP, List.map_append]; rw [hkp, b1], ?_, fun h => b3 (by simpa [noBox] using h), G, OW2, b5, b52, fun ι' ob' h1 h2 => ⟨(b6 ι' ob' h1 h2).1, fun y hy => ?_⟩⟩
        · simp only [boxIds, ← b2, outIds, List.map_append] at w1 ⊢
          rw [w1, owL_snd]
        · rcases List.mem_append.1 hy with hy | hy
          · obtain ⟨jj, oj, oo, c1, c2⟩ := w5 ι' ob' y hy
            exact ⟨jj, oj, oo, by simp only [owP, List.mem_append]; exact .inl c1, c2⟩
          · obtain ⟨jj, oj, oo, c1, c2⟩ := (b6 ι' ob' h1 h2).2 y hy
            exact ⟨jj, oj, oo, by simp only [owP, List.mem_append]; exact .inr c1, c2⟩
    | box t n =>
      match d, hf, ho, hkeep with
      | .at (.bptr b 0), hf, ho, hkeep =>
        simp only [flat] at hf
        split at hf
        · rename_i t0 c0 hob
          obtain ⟨⟨ht0, _⟩, hf⟩ := ite_some hf
          obtain ⟨avs', hf3, _⟩ := Option.bind_eq_some_iff.1 hf
          simp only [pA] at hp
          split at hp
          · rename_i t' c hsb
            obtain ⟨⟨e1, hn⟩, hp'⟩ := ite_some hp
            obtain ⟨p', hp3, hp2⟩ := Option.bind_eq_some_iff.1 hp'
            cases hp2
            simp only [outP] at ho
            obtain ⟨q', ho3, hq⟩ := Option.bind_eq_some_iff.1 ho
            cases hq
            have hc' : All2 (IsC s.ob) (c ++ p'.a) cells := hc
            obtain ⟨c1, c2⟩ := All2.split hc'
            rw [hn] at c1 c2
            obtain ⟨g, us, u1, u2, hul⟩ := k1.obs _ _ hsb
            obtain ⟨G0, g1, g2, g3⟩ := grp (NN := NN) k1 false id c1 hul (fun h => by cases h) (fun y hy => hcut y (List.mem_append_left _ hy)) (fun _ r hr => hro r (List.mem_append_left _ hr))
            obtain ⟨b1, b2, b3, G, OW2, b5, b52, b6⟩ := outP_spec k1 ps args (j + 1) avs' p' _ (id + n) q' hf3 hp3 (fun r hr => hro r (List.mem_append_right _ hr)) c2 ho3 (fun x hx => hkeep x (by simp only [owP]; exact List.mem_cons_of_mem _ hx)) (fun r hr => how r (List.mem_cons_of_mem _ hr)) hown (fun y hy => hcut y (List.mem_append_right _ hy))
            refine ⟨by simp [owP, b1], by simp [boxIds, ← b2, outIds], fun h => by simp [noBox] at h, G0 ++ G, OW2, by simp only [List.map_append, outIds] at g1 b5 ⊢; rw [g1, b5], b52, fun ι' ob' h1 h2 => ?_⟩
            · obtain ⟨m1, m2⟩ := g3 ι' ob' (fun y hy => h1 y (List.mem_append_left _ hy)) (fun y hy => h2 y (List.mem_append_left _ hy))
              obtain ⟨n1, n2⟩ := b6 ι' ob' (fun y hy => h1 y (List.mem_append_right _ hy)) (fun y hy => h2 y (List.mem_append_right _ hy))
              refine ⟨fun y hy => ?_, fun y hy => ?_⟩
              · rcases List.mem_append.1 hy with hy | hy
                · exact (m2 y hy).more (by simp)
                · exact n1 y hy
              · rcases List.mem_cons.1 hy with rfl | hy
                · subst e1
                  exact ⟨j * 16, _, _, by simp [owP], hsb, hob, trivial, trivial, ⟨_, _, rfl⟩, g, us, u1, u2, m1⟩
                · obtain ⟨jj, oj, oo, d1, d2⟩ := n2 y hy
                  exact ⟨jj, oj, oo, by simp only [owP]; exact List.mem_cons_of_mem _ d1, d2⟩
          · cases hp
        · cases hf
    | fnp g0 t n =>
      match d, hf, ho, hkeep with
      | .at (.fn f0 [(b, 0)]), hf, ho, hkeep =>
        simp only [flat] at hf
        split at hf
        · rename_i t0 c0 hob
          obtain ⟨⟨_, ht0, _⟩, hf⟩ := ite_some hf
          obtain ⟨avs', hf3, _⟩ := Option.bind_eq_some_iff.1 hf
          simp only [pA] at hp
          split at hp
          · rename_i t' c hsb
            obtain ⟨⟨e1, hn⟩, hp'⟩ := ite_some hp
            obtain ⟨p', hp3, hp2⟩ := Option.bind_eq_some_iff.1 hp'
            cases hp2
            simp only [outP] at ho
            obtain ⟨q', ho3, hq⟩ := Option.bind_eq_some_iff.1 ho
            cases hq
            have hc' : All2 (IsC s.ob) (c ++ p'.a) cells := hc
            obtain ⟨c1, c2⟩ := All2.split hc'
            rw [hn] at c1 c2
            obtain ⟨g, us, u1, u2, hul⟩ := k1.obs _ _ hsb
            obtain ⟨G0, g1, g2, g3⟩ := grp (NN := NN) k1 false id c1 hul (fun h => by cases h) (fun y hy => hcut y (List.mem_append_left _ hy)) (fun _ r hr => hro r (List.mem_append_left _ hr))
            obtain ⟨b1, b2, b3, G, OW2, b5, b52, b6⟩ := outP_spec k1 ps args (j + 1) avs' p' _ (id + n) q' hf3 hp3 (fun r hr => hro r (List.mem_append_right _ hr)) c2 ho3 (fun x hx => hkeep x (by simp only [owP]; exact List.mem_cons_of_mem _ hx)) (fun r hr => how r (List.mem_cons_of_mem _ hr)) hown (fun y hy => hcut y (List.mem_append_right _ hy))
            refine ⟨by simp [owP, b1], by simp [boxIds, ← b2, outIds], fun h => by simp [noBox] at h, G0 ++ G, OW2, by simp only [List.map_append, outIds] at g1 b5 ⊢; rw [g1, b5], b52, fun ι' ob' h1 h2 => ?_⟩
            · obtain ⟨m1, m2⟩ := g3 ι' ob' (fun y hy => h1 y (List.mem_append_left _ hy)) (fun y hy => h2 y (List.mem_append_left _ hy))
              obtain ⟨n1, n2⟩ := b6 ι' ob' (fun y hy => h1 y (List.mem_append_right _ hy)) (fun y hy => h2 y (List.mem_append_right _ hy))
              refine ⟨fun y hy => ?_, fun y hy => ?_⟩
              · rcases List.mem_append.1 hy with hy | hy
                · exact (m2 y hy).more (by simp)
                · exact n1 y hy
              · rcases List.mem_cons.1 hy with rfl | hy
                · subst e1
                  exact ⟨j * 16, _, _, by simp [owP], hsb, hob, trivial, trivial, ⟨_, _, rfl⟩, g, us, u1, u2, m1⟩
                · obtain ⟨jj, oj, oo, d1, d2⟩ := n2 y hy
                  exact ⟨jj, oj, oo, by simp only [owP]; exact List.mem_cons_of_mem _ d1, d2⟩
          · cases hp
        · cases hf
    | boxg t n =>
      match d, hf, ho, hkeep with
      | .at (.bptr b 0), hf, ho, hkeep =>
        simp only [flat] at hf
        split at hf
        · rename_i t0 c0 hob
          obtain ⟨⟨⟨ht0, _⟩, _⟩, hf⟩ := ite_some hf
          obtain ⟨avs', hf3, _⟩ := Option.bind_eq_some_iff.1 hf
          simp only [pA] at hp
          split at hp
          · rename_i t' c hsb
            obtain ⟨⟨e1, hn⟩, hp'⟩ := ite_some hp
            obtain ⟨p', hp3, hp2⟩ := Option.bind_eq_some_iff.1 hp'
            cases hp2
            simp only [outP] at ho
            obtain ⟨q', ho3, hq⟩ := Option.bind_eq_some_iff.1 ho
            cases hq
            have hc' : All2 (IsC s.ob) (c ++ p'.a) cells := hc
            obtain ⟨c1, c2⟩ := All2.split hc'
            rw [hn] at c1 c2
            obtain ⟨g, us, u1, u2, hul⟩ := k1.obs _ _ hsb
            obtain ⟨G0, g1, g2, g3⟩ := grp (NN := NN) k1 true id c1 hul (fun _ r hr => hown r (List.mem_append_left _ hr)) (fun y hy => hcut y (List.mem_append_left _ hy)) (fun h => by cases h)
            obtain ⟨b1, b2, b3, G, OW2, b5, b52, b6⟩ := outP_spec k1 ps args (j + 1) avs' p' _ (id + n) q' hf3 hp3 hro c2 ho3 (fun x hx => hkeep x (by simp only [owP]; exact List.mem_cons_of_mem _ hx)) (fun r hr => how r (List.mem_cons_of_mem _ hr)) (fun r hr => hown r (List.mem_append_right _ hr)) (fun y hy => hcut y (List.mem_append_right _ hy))
            refine ⟨by simp [owP, b1], by simp [boxIds, ← b2, outIds], fun h y hy => ?_, G0 ++ G, owL id c ++ OW2, by simp only [List.map_append, outIds] at g1 b5 ⊢; rw [g1, b5], by rw [List.map_append, owL_snd, b52], fun ι' ob' h1 h2 => ?_⟩
            · rcases List.mem_append.1 hy with hy | hy
              · obtain ⟨e, t, x, m1⟩ := toOwns_mem true id _ y hy
                rw [m1]; exact notRo_mk
              · exact b3 (by simpa [noBox] using h) y hy
            · obtain ⟨m1, m2⟩ := g3 ι' ob' (fun y hy => h1 y (List.mem_append_left _ hy)) (fun y hy => h2 y (List.mem_append_left _ hy))
              obtain ⟨n1, n2⟩ := b6 ι' ob' (fun y hy => h1 y (List.mem_append_right _ hy)) (fun y hy => h2 y (List.mem_append_right _ hy))
              refine ⟨fun y hy => ?_, fun y hy => ?_⟩
              · rcases List.mem_append.1 hy with hy | hy
                · exact (m2 y hy).more fun z hz => List.mem_append_left _ hz
                · exact (n1 y hy).more fun z hz => List.mem_append_right _ hz
              · rcases List.mem_cons.1 hy with rfl | hy
                · subst e1
                  exact ⟨j * 16, _, _, by simp [owP], hsb, hob, trivial, trivial, ⟨_, _, rfl⟩, g, us, u1, u2, m1⟩
                · obtain ⟨jj, oj, oo, d1, d2⟩ := n2 y hy
                  exact ⟨jj, oj, oo, by simp only [owP]; exact List.mem_cons_of_mem _ d1, d2⟩
          · cases hp
        · cases hf
end
theorem updL_mem {ob : Ob} : ∀ {L : List (Nat × Obj)} {i : Nat}, i ∈ outIds L → ∃ p ∈ L, p.1 = i ∧ updL ob L i = some p.2
  | [], i, h => by cases h
  | p :: r, i, h => by
    by_cases hr : i ∈ outIds r
    · obtain ⟨p', h1, h2, h3⟩ := updL_mem (ob := upd ob p.1 (some p.2)) hr
      exact ⟨p', List.mem_cons_of_mem _ h1, h2, h3⟩
    · have : i = p.1 := by
        rcases List.mem_cons.1 h with e | e
        · exact e
        · exact (hr e).elim
      subst this
      exact ⟨p, List.mem_cons_self, rfl, by simp only [updL]; rw [updL_ne hr, upd_same]⟩
theorem updL_of {ob : Ob} {L : List (Nat × Obj)} {p : Nat × Obj} (h : (outIds L).Pairwise (· ≠ ·)) (hp : p ∈ L) : updL ob L p.1 = some p.2 := by
  obtain ⟨p', h1, h2, h3⟩ := updL_mem (ob := ob) (L := L) (i := p.1) (List.mem_map.2 ⟨p, hp, rfl⟩)
  have := pw_eq (R := fun (x y : Nat × Obj) => x.1 ≠ y.1) (fun a b h e => h e.symm) (List.pairwise_map.1 h) h1 hp (fun hh => hh h2)
  rw [h3, this]
theorem lookI_mem {d : In} : ∀ {L : List (Nat × In)} {p : Nat × In}, (L.map Prod.fst).Pairwise (· ≠ ·) → p ∈ L → lookI d L p.1 = p.2
  | q :: L, p, h, hp => by
    simp only [List.map_cons] at h
    simp only [lookI]
    rcases List.mem_cons.1 hp with rfl | hp
    · simp
    · rw [if_neg (fun e => List.rel_of_pairwise_cons h (List.mem_map.2 ⟨p, hp, rfl⟩) e.symm)]
      exact lookI_mem (List.Pairwise.of_cons h) hp
theorem idsOf_whole : ∀ (l : List Nat), idsOf (l.map AV.whole) = l
  | [] => rfl
  | x :: r => by have := idsOf_whole r; simp only [idsOf, List.map_cons, List.flatMap_cons] at this ⊢; rw [this]; rfl
def fzOk (c : Ctr) : Bool := c.frz || (c.rs.all RK.isOwn && c.ps.all noBox)
theorem pw_append {α : Type} {R : α → α → Prop} {l l' : List α} (h : (l ++ l').Pairwise R) : l.Pairwise R ∧ l'.Pairwise R ∧ ∀ x ∈ l, ∀ y ∈ l', R x y := List.pairwise_append.1 h
theorem deads_ids (l : List Nat) : outIds (deads l) = l := by simp [outIds, deads, List.map_map, Function.comp_def]
theorem deads_mem {l : List Nat} {p : Nat × Obj} (h : p ∈ deads l) : p.2 = .dead := by
  simp only [deads, List.mem_map] at h
  obtain ⟨_, _, rfl⟩ := h
  rfl
theorem OutObj.orig {ι1 : Nat → In} {ob1 : Ob} {w1 : World} {NN : Nat → Prop} {OW : List (Nat × Nat)} {ι' : Nat → In} {ob' : Ob} : ∀ {p : Nat × Obj}, OutObj ι1 ob1 w1 NN OW ι' ob' p → Wr p.2 → Orig ι1 ob1 OW (ι' p.1) p.1 p.2
  | (n, .row e t true l), h, _ => h.2
  | (n, .deep e t l h0), h, _ => h.2
  | (n, .box t c), h, _ => h.2
/-- The world as a caller finds it again. -/
theorem leave {c : Ctr} (hs : HS w0 X M ι ob w) (hXM : ∀ b, X b → M b) {args : List DV} {avs : List AV} (h1 : flat ob c.ps args = some avs) (h3 : disj (boxIds c.ps args ++ gvIds ob c.ps args) = true) (h4 : ((boxIds c.ps args ++ gvIds ob c.ps args).any fun i => (idsOf (flatR ob c.ps args)).any (Nat.beq i)) = false)
    {ι1 : Nat → In} {s : DS} {w1 : World} (hkeep : ∀ x ∈ owP 0 c.ps args, Alike (ι1 x.1) (ι x.2) ∧ ∃ o oo, s.ob x.1 = some o ∧ ob x.2 = some oo ∧ Wr oo ∧ Sh oo o) (hgv : ∀ x ∈ gvP ob 0 c.ps args, ∃ oo, ob x.2 = some oo ∧ Wr oo)
    (k1 : HS w (XI ι ob (boxIds c.ps args ++ gvIds ob c.ps args)) (MI w0 M ι ob (updL ob (freezeD ob (flatR ob c.ps args))) w (boxIds c.ps args ++ gvIds ob c.ps args)) ι1 s.ob w1) {tt : Nat → Option TI} {vs : List ResultVar} {us0 : List Value} (hres : All2 (fun v u => ∀ d, resD tt s v = some d → RepDV ι1 s.ob d u) vs us0)
    {q0 p0 : Ra} (hq : resA tt s c.rs vs = some q0) (hp : pA s 0 c.ps = some p0) (how : ((q0.own ++ p0.own) ++ p0.kp).all (isOwn s) = true) (hdj : disj ((q0.own ++ p0.own) ++ p0.kp) = true) (hoth : ((q0.oth ++ p0.oth).all fun i => !mem ((q0.own ++ p0.own) ++ p0.kp) i) = true) (hcut : (q0.a ++ p0.a).all (cutOk s) = true)
    {r : c.O.den} (hO : ofAVs (dv s.ob) c.O (q0.a ++ p0.a) = some r) {id : Nat} {o : Out} {q : List (Nat × Obj) × List (Nat × Obj)} (h6 : outR id c.rs (Ty.cells c.O r) = some o) (h7 : outP o.id c.ps args o.cs = some q)
    (h8 : freshB ob (outIds (o.w ++ q.2)) = true) (h9 : disj (outIds (o.w ++ q.2)) = true) (hfz : fzOk c = true) :
    ∃ ι', HS w0 X M ι' (updL ob ((bif c.frz then freezeD ob (flatR ob c.ps args) else []) ++ (deads (gvIds ob c.ps args) ++ (q.1 ++ (o.w ++ q.2))))) w1 ∧ Keeps ι ι' ob (updL ob ((bif c.frz then freezeD ob (flatR ob c.ps args) else []) ++ (deads (gvIds ob c.ps args) ++ (q.1 ++ (o.w ++ q.2))))) ∧
      All2 (RepP ι' (updL ob ((bif c.frz then freezeD ob (flatR ob c.ps args) else []) ++ (deads (gvIds ob c.ps args) ++ (q.1 ++ (o.w ++ q.2)))))) o.vs us0 ∧ ∀ p ∈ o.vs, p.1 = false → ∃ x, p.2 = [x] := by
  obtain ⟨g1, g2, g3, g4⟩ := HS.giveD hXM hs (flatR ob c.ps args)
  have how' : ∀ i ∈ (q0.own ++ p0.own) ++ p0.kp, isOwn s i = true := fun i hi => List.all_eq_true.1 how i hi
  have hcut' : ∀ y ∈ q0.a ++ p0.a, cutOk s y = true := fun i hi => List.all_eq_true.1 hcut i hi
  obtain ⟨f1, f2, f3, f4⟩ := HS.giveD (M := MI w0 M ι ob (updL ob (freezeD ob (flatR ob c.ps args))) w (boxIds c.ps args ++ gvIds ob c.ps args)) (fun b hb => Or.inl hb) k1 ((q0.oth ++ p0.oth).map AV.whole)
  rw [idsOf_whole] at f3 f4
  generalize hobF : updL s.ob (freezeD s.ob ((q0.oth ++ p0.oth).map AV.whole)) = obF at f1 f2 f3 f4
  have hoff : ∀ i ∈ (q0.own ++ p0.own) ++ p0.kp, obF i = s.ob i := fun i hi => f3 i fun hk => by
    have := List.all_eq_true.1 hoth i hk
    rw [mem_iff.2 hi] at this
    cases this
  generalize hids : boxIds c.ps args ++ gvIds ob c.ps args = ids at *
  generalize hNNd : Nb w (MI w0 M ι ob (updL ob (freezeD ob (flatR ob c.ps args))) w ids) ι1 obF w1 = NN at f4
  have hcs := cells_of hO
  obtain ⟨G, OW, r1, r2, r3, r5, r6, r8⟩ := out_spec (NN := NN) k1 c.rs vs us0 id q0 p0.a _ o hq hres (fun i hi => how' i (List.mem_append_left _ (List.mem_append_left _ hi))) (fun y hy => hcut' y (List.mem_append_left _ hy)) (fun i hi => f4 i (List.mem_append_left _ hi)) hcs h6
  obtain ⟨s1, s2, s3, G2, OW2, s5, s52, s6⟩ := outP_spec (NN := NN) k1 c.ps args 0 avs p0 o.cs o.id q h1 hp (fun i hi => f4 i (List.mem_append_right _ hi)) r3 h7 (fun x hx => (hkeep x hx).2) (fun i hi => how' i (List.mem_append_right _ hi)) (fun i hi => how' i (List.mem_append_left _ (List.mem_append_right _ hi))) (fun y hy => hcut' y (List.mem_append_right _ hy))
  -- names
  have hdom : ∀ j ∈ outIds (o.w ++ q.2), ob j = none := ids_none h8
  have hnd := disj_pw h9
  have hin := pw_append (hids ▸ disj_pw h3)
  have hbg : ∀ i ∈ boxIds c.ps args, i ∉ gvIds ob c.ps args := fun i hi hk => hin.2.2 i hi i hk rfl
  have hbd : ∀ i ∈ boxIds c.ps args, ∃ x ∈ owP 0 c.ps args, x.2 = i := fun i hi => by rw [← owP_snd 0] at hi; simpa using hi
  have hbob : ∀ i ∈ boxIds c.ps args, ∃ oo, ob i = some oo ∧ Wr oo := fun i hi => by
    obtain ⟨x, hx, rfl⟩ := hbd i hi
    obtain ⟨_, _, oo, _, k3, k4, _⟩ := hkeep x hx
    exact ⟨oo, k3, k4⟩
  have hgob : ∀ i ∈ gvIds ob c.ps args, ∃ oo, ob i = some oo ∧ Wr oo := fun i hi => by
    rw [← gvP_snd 0] at hi
    obtain ⟨x, hx, rfl⟩ := List.mem_map.1 hi
    exact hgv x hx
  have hap : ∀ i ∈ ids, i ∉ idsOf (flatR ob c.ps args) := fun i hi hk => by
    have : (ids.any fun i => (idsOf (flatR ob c.ps args)).any (Nat.beq i)) = true := List.any_eq_true.2 ⟨i, hi, List.any_eq_true.2 ⟨i, hk, Nat.beq_refl i⟩⟩
    rw [h4] at this; cases this
  generalize hfr : (bif c.frz then freezeD ob (flatR ob c.ps args) else []) = fr
  have hfrm : ∀ p ∈ fr, c.frz = true ∧ p ∈ freezeD ob (flatR ob c.ps args) := fun p hp => by
    cases hc : c.frz <;> rw [hc] at hfr <;> simp only [cond_true, cond_false] at hfr <;> subst hfr
    · cases hp
    · exact ⟨rfl, hp⟩
  have hfrz0 : c.frz = true → fr = freezeD ob (flatR ob c.ps args) := fun hz => by rw [← hfr, hz]; rfl
  generalize hobN : updL ob (fr ++ (deads (gvIds ob c.ps args) ++ (q.1 ++ (o.w ++ q.2)))) = obN
  have hob1 : obN = updL (updL (updL (updL ob fr) (deads (gvIds ob c.ps args))) q.1) (o.w ++ q.2) := by rw [← hobN, updL_append, updL_append, updL_append]
  have hnew : ∀ p ∈ o.w ++ q.2, obN p.1 = some p.2 := fun p hp => by rw [hob1]; exact updL_of hnd hp
  have hnotnew : ∀ j oo, ob j = some oo → j ∉ outIds (o.w ++ q.2) := fun j oo h hk => by rw [hdom j hk] at h; cases h
  have hq1nd : (outIds q.1).Pairwise (· ≠ ·) := by rw [s2]; exact hin.1
  have hpar : ∀ p ∈ q.1, obN p.1 = some p.2 := fun p hp => by
    have hm : p.1 ∈ boxIds c.ps args := by rw [← s2]; exact List.mem_map.2 ⟨p, hp, rfl⟩
    obtain ⟨oo, e1, _⟩ := hbob _ hm
    rw [hob1, updL_ne (hnotnew _ _ e1)]
    exact updL_of hq1nd hp
  have hdd : ∀ j ∈ gvIds ob c.ps args, obN j = some .dead := fun j hj => by
    obtain ⟨oo, e1, _⟩ := hgob _ hj
    rw [hob1, updL_ne (hnotnew _ _ e1), updL_ne (by rw [s2]; exact fun h => hbg j h hj)]
    obtain ⟨p, m1, m2, m3⟩ := updL_mem (ob := updL ob fr) (L := deads (gvIds ob c.ps args)) (i := j) (by rw [deads_ids]; exact hj)
    rw [m3, deads_mem m1]
  have hold : ∀ j, j ∉ outIds (o.w ++ q.2) → j ∉ boxIds c.ps args → j ∉ gvIds ob c.ps args → obN j = updL ob fr j := fun j e1 e2 e3 => by
    rw [hob1, updL_ne e1, updL_ne (by rw [s2]; exact e2), updL_ne (by rw [deads_ids]; exact e3)]
  have hidm : ∀ j, j ∉ boxIds c.ps args → j ∉ gvIds ob c.ps args → j ∉ ids := fun j e1 e2 h => by
    rw [← hids] at h
    exact (List.mem_append.1 h).elim e1 e2
  have hcl : ∀ j o', obN j = some o' → (∃ p ∈ o.w ++ q.2, p.1 = j ∧ p.2 = o') ∨ (∃ p ∈ q.1, p.1 = j ∧ p.2 = o') ∨ o' = .dead ∨ (j ∉ boxIds c.ps args ∧ j ∉ ids ∧ updL ob fr j = some o') := fun j o' h => by
    by_cases e1 : j ∈ outIds (o.w ++ q.2)
    · obtain ⟨p, hp, rfl⟩ := List.mem_map.1 e1
      rw [hnew p hp] at h
      cases h
      exact .inl ⟨p, hp, rfl, rfl⟩
    · by_cases e2 : j ∈ boxIds c.ps args
      · rw [← s2] at e2
        obtain ⟨p, hp, rfl⟩ := List.mem_map.1 e2
        rw [hpar p hp] at h
        cases h
        exact .inr (.inl ⟨p, hp, rfl, rfl⟩)
      · by_cases e3 : j ∈ gvIds ob c.ps args
        · rw [hdd j e3] at h
          cases h
          exact .inr (.inr (.inl rfl))
        · rw [hold j e1 e2 e3] at h
          exact .inr (.inr (.inr ⟨e2, hidm j e2 e3, h⟩))
  have hfrz : ∀ j o', updL ob fr j = some o' → ob j = some o' ∨ (c.frz = true ∧ ∃ e t x, dv ob j = some (.row e t true x) ∧ o' = .row e t false x) := fun j o' h => by
    by_cases e1 : j ∈ outIds fr
    · obtain ⟨p, m1, m2, m3⟩ := updL_mem (ob := ob) e1
      obtain ⟨n0, n1⟩ := hfrm p m1
      obtain ⟨_, e, t, x, n2, n3⟩ := freezeD_is n1
      rw [m3] at h
      cases h
      rw [← m2]
      exact .inr ⟨n0, e, t, x, n2, n3⟩
    · rw [updL_ne e1] at h; exact .inl h
  have hobs : ∀ j o', dv ob j = some o' → ∃ oo, ob j = some oo := fun j o' h => by
    unfold dv at h
    split at h
    · rename_i h'; exact ⟨_, h'⟩
    · exact ⟨_, h⟩
  -- places
  obtain ⟨GP, hGP⟩ : ∃ GP : List (Nat × In), GP = (owP 0 c.ps args).map fun x => (x.2, ι1 x.1) := ⟨_, rfl⟩
  have hGPf : GP.map Prod.fst = boxIds c.ps args := by rw [hGP, ← owP_snd 0, List.map_map]; rfl
  have hGid : ((G ++ G2) ++ GP).map Prod.fst = outIds (o.w ++ q.2) ++ boxIds c.ps args := by rw [List.map_append, hGPf]; simp only [List.map_append, r1, s5, outIds]
  have hkeys : (outIds (o.w ++ q.2) ++ boxIds c.ps args).Pairwise (· ≠ ·) := List.pairwise_append.2 ⟨hnd, hin.1, fun x hx y hy e => by
    subst e
    obtain ⟨oo, e1, _⟩ := hbob _ hy
    exact hnotnew _ _ e1 hx⟩
  obtain ⟨ι', hι'⟩ : ∃ ι' : Nat → In, ι' = fun j => lookI (ι j) ((G ++ G2) ++ GP) j := ⟨_, rfl⟩
  have hιG : ∀ p ∈ (G ++ G2) ++ GP, ι' p.1 = p.2 := fun p hp => by rw [hι']; exact lookI_mem (by rw [hGid]; exact hkeys) hp
  have hιo : ∀ j oo, ob j = some oo → j ∉ boxIds c.ps args → ι' j = ι j := fun j oo h hb => by
    rw [hι']
    exact lookI_none fun p hp e => by
      have : j ∈ outIds (o.w ++ q.2) ++ boxIds c.ps args := by rw [← hGid, ← e]; exact List.mem_map.2 ⟨p, hp, rfl⟩
      exact (List.mem_append.1 this).elim (hnotnew j oo h) hb
  have hιp : ∀ jj i, (jj, i) ∈ owP 0 c.ps args → ι' i = ι1 jj := fun jj i h => hιG (i, ι1 jj) (List.mem_append_right _ (by rw [hGP]; exact List.mem_map.2 ⟨(jj, i), h, rfl⟩))
  obtain ⟨v1, v2⟩ := r8 ι' obN (fun p hp => hnew p (List.mem_append_left _ hp)) (fun p hp => hιG p (List.mem_append_left _ (List.mem_append_left _ hp)))
  obtain ⟨v3, v4⟩ := s6 ι' obN (fun p hp => hnew p (List.mem_append_right _ hp)) (fun p hp => hιG p (List.mem_append_left _ (List.mem_append_right _ hp)))
  obtain ⟨OA, hOA⟩ : ∃ OA : List (Nat × Nat), OA = (OW ++ OW2) ++ (owP 0 c.ps args).map fun x => (x.2, x.1) := ⟨_, rfl⟩
  have hOAs : OA.map Prod.snd = (q0.own ++ p0.own) ++ p0.kp := by rw [hOA, List.map_append, List.map_append, r2, s52, s1, List.map_map]; rfl
  have hOut : ∀ p ∈ o.w ++ q.2, OutObj ι1 s.ob w1 NN OA ι' obN p := fun p hp => by
    rw [hOA]
    rcases List.mem_append.1 hp with hp | hp
    · exact (v2 p hp).more fun x hx => List.mem_append_left _ (List.mem_append_left _ hx)
    · exact (v3 p hp).more fun x hx => List.mem_append_left _ (List.mem_append_right _ hx)
  have hOrigP : ∀ y ∈ q.1, Orig ι1 s.ob OA (ι' y.1) y.1 y.2 := fun y hy b hb => by
    obtain ⟨jj, oj, oo, c1, c2, c3, c4, c5, c6⟩ := v4 y hy
    rw [hιp jj y.1 c1] at hb
    have hm : (y.1, jj) ∈ OA := by rw [hOA]; exact List.mem_append_right _ (List.mem_map.2 ⟨(jj, y.1), c1, rfl⟩)
    obtain ⟨n, po⟩ := y
    match po, c6 with
    | .box t cc, ⟨⟨t1, cc1, e1⟩, _⟩ => subst e1; exact ⟨jj, _, hm, c2, trivial, hb⟩
    | .row e t true l, ⟨e1, e2⟩ => subst e1; exact ⟨jj, _, hm, c2, trivial, hb⟩
    | .deep e t l none, ⟨e1, e2⟩ => subst e1; exact ⟨jj, _, hm, c2, trivial, hb⟩
    | .row e t false l, ⟨_, e2⟩ => exact e2.elim
    | .deep e t l (some _), ⟨_, e2⟩ => exact e2.elim
    | .dead, ⟨_, e2⟩ => exact e2.elim
  have hOAo : ∀ j i, (j, i) ∈ OA → i ∈ (q0.own ++ p0.own) ++ p0.kp := fun j i h => by rw [← hOAs]; exact List.mem_map.2 ⟨_, h, rfl⟩
  have hdj2 := disj_pw hdj
  -- blocks
  have hXW : ∀ b, XI ι ob ids b → W ι ob b := fun b ⟨i, _, oo, e1, e2, e3⟩ => ⟨i, oo, e1, e2, e3⟩
  have hlt : ∀ j oo b, ob j = some oo → Wr oo → Blk (ι j) oo b → b < w.heap.size := fun j oo b e1 e2 e3 => (hs.obs j oo e1).lt e2 e3
  have hnX : ∀ j oo b, j ∉ ids → ob j = some oo → Wr oo → Blk (ι j) oo b → ¬ XI ι ob ids b := by
    rintro j oo b e1 e2 e3 e4 ⟨i, hi, oi, m1, m2, m3⟩
    have := hs.sep i j oi oo b m1 e2 m2 e3 m3 e4
    subst this
    exact e1 hi
  have hsize : w.heap.size ≤ w1.heap.size := k1.fr.size
  -- what may be written, of the caller
  have hWN : ∀ j o', obN j = some o' → Wr o' → (j ∉ ids ∧ ob j = some o' ∧ updL ob fr j = some o' ∧ ι' j = ι j) ∨ Orig ι1 s.ob OA (ι' j) j o' := fun j o' h hw => by
    rcases hcl j o' h with ⟨p, hp, rfl, rfl⟩ | ⟨p, hp, rfl, rfl⟩ | e0 | ⟨e1, e0, e2⟩
    · exact .inr ((hOut p hp).orig hw)
    · exact .inr (hOrigP p hp)
    · subst e0; exact hw.elim
    · rcases hfrz j o' e2 with e3 | ⟨_, e, t, x, _, e4⟩
      · exact .inl ⟨e0, e3, e2, hιo _ _ e3 e1⟩
      · rw [e4] at hw; exact hw.elim
  have hfr1 : Fr w0 X w1 := ⟨k1.fr.os.trans hs.fr.os, k1.fr.tape.trans hs.fr.tape, k1.fr.output.trans hs.fr.output, Nat.le_trans hs.fr.size k1.fr.size, fun b e1 e2 => (k1.fr.block b (Nat.lt_of_lt_of_le e1 hs.fr.size) fun hx => (hs.wr b (hXW b hx)).elim (fun h => Nat.not_le_of_lt e1 h) e2).trans (hs.fr.block b e1 e2), hs.fr.gl⟩
  have hheap : ∀ b, b < w.heap.size → ¬ XI ι ob ids b → w1.heap[b]? = w.heap[b]? := fun b e1 e2 => k1.fr.block b e1 e2
  have hNoW : c.frz = true → ∀ b, (XI ι ob ids b ∨ Nb w0 M ι (updL ob (freezeD ob (flatR ob c.ps args))) w b ∨ w.heap.size ≤ b) → ¬ W ι1 obF b → ¬ W ι' obN b := by
    rintro hz b hb hnw ⟨j, o', m1, m2, m3⟩
    rcases hWN j o' m1 m2 with ⟨n1, n2, n3, n4⟩ | n1
    · rw [n4] at m3
      rcases hb with hb | hb | hb
      · exact hnX j o' b n1 n2 m2 m3 hb
      · rw [hfrz0 hz] at n3
        exact hb.2.2 ⟨j, o', n3, m2, m3⟩
      · have := hlt j o' b n2 m2 m3
        omega
    · obtain ⟨i, oi, l1, l2, l3, l4⟩ := n1 b m3
      exact hnw ⟨i, oi, by rw [hoff i (hOAo _ _ l1)]; exact l2, l3, l4⟩
  have hMw : ∀ b, (XI ι ob ids b ∨ Nb w0 M ι (updL ob (freezeD ob (flatR ob c.ps args))) w b ∨ w.heap.size ≤ b) → M b ∨ w0.heap.size ≤ b := fun b hb => by
    rcases hb with hb | hb | hb
    · rcases hs.wr b (hXW b hb) with h | h
      · exact .inr h
      · exact .inl (hXM b h)
    · exact hb.2.1
    · exact .inr (Nat.le_trans hs.fr.size hb)
  have hN' : c.frz = true → ∀ b, NN b → Nb w0 M ι' obN w1 b := fun hz b hb => by
    rw [← hNNd] at hb
    obtain ⟨m1, m2, m3⟩ := hb
    have m4 : XI ι ob ids b ∨ Nb w0 M ι (updL ob (freezeD ob (flatR ob c.ps args))) w b ∨ w.heap.size ≤ b := by
      rcases m2 with (h | h) | h
      · exact .inl h
      · exact .inr (.inl h)
      · exact .inr (.inr h)
    exact ⟨m1, hMw b m4, hNoW hz b m4 m3⟩
  have hN2 : c.frz = true → ∀ b, Nb w0 M ι (updL ob (freezeD ob (flatR ob c.ps args))) w b → Nb w0 M ι' obN w1 b ∧ w1.heap[b]? = w.heap[b]? := fun hz b hb => by
    have hx : ¬ XI ι ob ids b := by
      rintro ⟨i, hi, oo, m1, m2, m3⟩
      exact hb.2.2 ⟨i, oo, by rw [g3 _ (hap i hi)]; exact m1, m2, m3⟩
    refine ⟨⟨Nat.lt_of_lt_of_le hb.1 hsize, hb.2.1, hNoW hz b (.inr (.inl hb)) fun hw => ?_⟩, hheap b hb.1 hx⟩
    rcases f1.wr b hw with h | h
    · have := hb.1
      omega
    · exact hx h
  have hkeeps : Keeps ι ι' ob obN := fun j oj hj => by
    by_cases hb : j ∈ boxIds c.ps args
    · have hb' := hb
      rw [← s2] at hb'
      obtain ⟨p, hp, rfl⟩ := List.mem_map.1 hb'
      obtain ⟨jj, ojj, oo, e1, _, e2, _, e3, _⟩ := v4 p hp
      rw [hj] at e2
      cases e2
      exact ⟨_, hpar p hp, e3, by rw [hιp _ _ e1]; exact (hkeep _ e1).1⟩
    · by_cases hg : j ∈ gvIds ob c.ps args
      · exact ⟨_, hdd j hg, by cases oj <;> exact trivial, Alike.of (hιo _ _ hj hb)⟩
      rw [hold j (hnotnew j oj hj) hb hg]
      by_cases e1 : j ∈ outIds fr
      · obtain ⟨p, m1, m2, m3⟩ := updL_mem (ob := ob) e1
        obtain ⟨_, e, t, x, n2, n3⟩ := freezeD_is (hfrm p m1).2
        refine ⟨_, m3, ?_, Alike.of (hιo _ _ hj hb)⟩
        rw [m2] at n2
        rw [n3]
        rcases dv_inv n2 with k | ⟨_, k⟩ <;> rw [hj] at k <;> cases k <;> exact ⟨rfl, rfl, rfl⟩
      · exact ⟨oj, by rw [updL_ne e1]; exact hj, Sh.refl _, Alike.of (hιo _ _ hj hb)⟩
  refine ⟨ι', HS.step0 hs hfr1 hsize (fun b e1 e2 => hheap b e1 fun hx => e2 (hXW b hx)) hkeeps ?_ ?_ ?_, hkeeps, v1, r5⟩
  · rintro b ⟨j, o', m1, m2, m3⟩
    rcases hWN j o' m1 m2 with ⟨n1, n2, n3, n4⟩ | n1
    · exact .inl ⟨j, o', n2, m2, by rw [← n4]; exact m3⟩
    · obtain ⟨i, oi, l1, l2, l3, l4⟩ := n1 b m3
      rcases k1.wr b ⟨i, oi, l2, l3, l4⟩ with h | h
      · exact .inr h
      · exact .inl (hXW _ h)
  · have hon : ∀ (j : Nat) (o1 : Obj) (j' : Nat) (i : In) (o2 : Obj) (b : Nat), j ∉ ids → ob j = some o1 → Wr o1 → Blk (ι j) o1 b → Orig ι1 s.ob OA i j' o2 → Blk i o2 b → False := by
      intro j o1 j' i o2 b n1 n2 n3 n4 l1 l2
      obtain ⟨i', oi, m1, m2, m3, m4⟩ := l1 b l2
      rcases k1.wr b ⟨i', oi, m2, m3, m4⟩ with h | h
      · have := hlt j o1 b n2 n3 n4
        omega
      · exact hnX j o1 b n1 n2 n3 n4 h
    intro j j' o1 o2 b m1 m1' m2 m2' m3 m3'
    rcases hWN j o1 m1 m2 with ⟨n1, n2, n3, n4⟩ | n1
    · rcases hWN j' o2 m1' m2' with ⟨l1, l2, l3, l4⟩ | l1
      · exact hs.sep j j' o1 o2 b n2 l2 m2 m2' (by rw [← n4]; exact m3) (by rw [← l4]; exact m3')
      · exact (hon j o1 j' (ι' j') o2 b n1 n2 m2 (by rw [← n4]; exact m3) l1 m3').elim
    · rcases hWN j' o2 m1' m2' with ⟨l1, l2, l3, l4⟩ | l1
      · exact (hon j' o2 j (ι' j) o1 b l1 l2 m2' (by rw [← l4]; exact m3') n1 m3).elim
      · obtain ⟨i, oi, p1, p2, p3, p4⟩ := n1 b m3
        obtain ⟨i', oi', p1', p2', p3', p4'⟩ := l1 b m3'
        have := k1.sep i i' oi oi' b p2 p2' p3 p3' p4 p4'
        subst this
        rw [← hOAs] at hdj2
        have := pw_eq (R := fun (x y : Nat × Nat) => x.2 ≠ y.2) (fun a b h e => h e.symm) (List.pairwise_map.1 hdj2) p1 p1' (fun h => h rfl)
        exact (Prod.mk.inj this).1
  · intro _ j o' h
    rcases hcl j o' h with ⟨p, hp, rfl, rfl⟩ | ⟨p, hp, rfl, rfl⟩ | e0 | ⟨e1, e0, e2⟩
    · refine .inr ?_
      have ho := hOut p hp
      have hro : c.frz = false → notRo p.2 = true := fun hz => by
        unfold fzOk at hfz
        rw [hz, Bool.false_or, Bool.and_eq_true] at hfz
        rcases List.mem_append.1 hp with hp | hp
        · exact r6 hfz.1 p hp
        · exact s3 hfz.2 p hp
      obtain ⟨n, po⟩ := p
      match po, ho, hro with
      | .row _ t false l, ho, hro =>
        cases hz : c.frz with
        | true => exact Ro.mono (fun b hb => ⟨hN' hz b hb, rfl⟩) ho
        | false => exact absurd (hro hz) (by simp [notRo])
      | .row e t true l, ⟨ho, _⟩, _ => exact OwnX.rep ho rfl
      | .deep e t l none, ⟨ho, _⟩, _ => exact OwnX.rep ho rfl
      | .deep e t l (some _), ⟨ho, _⟩, _ => exact ho.elim
      | .box t cc, ⟨⟨g, cs, m2, m4, m5⟩, _⟩, _ => exact ⟨g, cs, m2, m4, m5⟩
      | .dead, _, _ => trivial
    · refine .inr ?_
      obtain ⟨jj, oj, oo, c1, c2, _, _, _, c3⟩ := v4 p hp
      have hi : ι' p.1 = ι1 jj := hιp _ _ c1
      obtain ⟨n, po⟩ := p
      match po, c3, hi with
      | .row e t true l, ⟨_, c3⟩, hi => exact OwnX.rep c3 hi
      | .deep e t l none, ⟨_, c3⟩, hi => exact OwnX.rep c3 hi
      | .box t cc, ⟨_, g, cs, m2, m4, m5⟩, hi =>
        simp only at hi
        exact ⟨g, cs, by rw [hi]; exact m2, m4, m5⟩
      | .row e t false l, ⟨_, c3⟩, _ => exact c3.elim
      | .deep e t l (some _), ⟨_, c3⟩, _ => exact c3.elim
      | .dead, _, _ => trivial
    · subst e0
      exact .inr trivial
    · rcases hfrz j o' e2 with e3 | ⟨hz, e, t, x, e3, e4⟩
      · exact .inl ⟨e3, hιo _ _ e3 e1, fun hw b ha => hheap _ (hlt j o' b e3 hw ha) (hnX j o' b e0 e3 hw ha)⟩
      · refine .inr ?_
        subst e4
        rw [hfrz0 hz] at e2
        have := g1.obs j _ e2
        obtain ⟨oo, e5⟩ := hobs j _ e3
        rw [RepO] at this ⊢
        rw [hιo _ _ e5 e1]
        exact Ro.mono (hN2 hz) this
theorem flat_len {ob : Ob} : ∀ {ps : List PK} {args : List DV} {avs : List AV}, flat ob ps args = some avs → args.length = ps.length
  | [], [], _, _ => rfl
  | [], _ :: _, _, h => by cases h
  | p :: _, [], _, h => by cases p <;> simp [flat] at h
  | p :: ps, d :: r, _, h => by
    have key : ∃ q, flat ob ps r = some q := by
      cases p with
      | one =>
        cases d <;> simp only [flat] at h <;> try (cases h; done)
        obtain ⟨q, h, _⟩ := Option.bind_eq_some_iff.1 h
        exact ⟨q, h⟩
      | agg n =>
        cases d <;> simp only [flat] at h <;> try (cases h; done)
        obtain ⟨_, h⟩ := ite_some h
        obtain ⟨q, h, _⟩ := Option.bind_eq_some_iff.1 h
        exact ⟨q, h⟩
      | aggw n sl =>
        cases d <;> simp only [flat] at h <;> try (cases h; done)
        obtain ⟨_, h⟩ := ite_some h
        obtain ⟨q, h, _⟩ := Option.bind_eq_some_iff.1 h
        exact ⟨q, h⟩
      | row =>
        match d, h with
        | .at (.whole i), h =>
          simp only [flat] at h
          obtain ⟨_, h⟩ := bif_some h
          obtain ⟨q, h, _⟩ := Option.bind_eq_some_iff.1 h
          exact ⟨q, h⟩
      | give =>
        match d, h with
        | .at (.whole i), h =>
          simp only [flat] at h
          obtain ⟨_, h⟩ := bif_some h
          obtain ⟨q, h, _⟩ := Option.bind_eq_some_iff.1 h
          exact ⟨q, h⟩
      | box t n =>
        match d, h with
        | .at (.bptr b 0), h =>
          simp only [flat] at h
          split at h
          · obtain ⟨_, h⟩ := ite_some h
            obtain ⟨q, h, _⟩ := Option.bind_eq_some_iff.1 h
            exact ⟨q, h⟩
          · cases h
      | boxg t n =>
        match d, h with
        | .at (.bptr b 0), h =>
          simp only [flat] at h
          split at h
          · obtain ⟨_, h⟩ := ite_some h
            obtain ⟨q, h, _⟩ := Option.bind_eq_some_iff.1 h
            exact ⟨q, h⟩
          · cases h
      | fnp g t n =>
        match d, h with
        | .at (.fn f [(b, 0)]), h =>
          simp only [flat] at h
          split at h
          · obtain ⟨_, h⟩ := ite_some h
            obtain ⟨q, h, _⟩ := Option.bind_eq_some_iff.1 h
            exact ⟨q, h⟩
          · cases h
    obtain ⟨q, hq⟩ := key
    simp [flat_len hq]
def sized (us : List Value) : Value := match us with | [u] => u | us => .tuple us.toArray
def readR (a : Act) : ResultVar → Sem Value
  | .tmp t => pure (a.tmps.getD t undef)
  | .cell x t => do loadVar t (← asAddr (a.tmps.getD x undef))
theorem run_results {fn : Func} {us : List Value} {a : Act} {P : Program} {w : World} (h : All2 (fun v u => (readR a v).run P w = .ok u w) fn.results.toList us) (h3 : Nat.ble fn.results.toList.length 4 = true) : (results fn a.tmps).run P w = .ok (sized us) w := by
  have he : fn.results = fn.results.toList.toArray := by simp
  have hm : results fn a.tmps = (do let vs ← fn.results.mapM (readR a); pure (if h : vs.size = 1 then vs[0] else .tuple vs)) := by
    unfold results
    congr 1
  rw [hm]
  match hl : fn.results.toList, us, h, h3 with
  | [], [], _, _ => rw [hl] at he; simp [he, sized]
  | [v], [u], h, _ => rw [hl] at he; simp [he, sized, Sem.run_bind, h.1]
  | [v, v2], [u, u2], h, _ => rw [hl] at he; simp [he, sized, Sem.run_bind, h.1, h.2.1]
  | [v, v2, v3], [u, u2, u3], h, _ => rw [hl] at he; simp [he, sized, Sem.run_bind, h.1, h.2.1, h.2.2.1]
  | [v, v2, v3, v4], [u, u2, u3, u4], h, _ => rw [hl] at he; simp [he, sized, Sem.run_bind, h.1, h.2.1, h.2.2.1, h.2.2.2.1]
theorem res_val {P : Program} {tt : Nat → Option TI} (htt : TTok P tt) {w0 : World} {X M : Nat → Prop} {ι : Nat → In} {s : DS} {a : Act} {w : World} (hs : HS w0 X M ι s.ob w) (ht : TS ι s a) {v : ResultVar} {d : DV} (h : resD tt s v = some d) : ∃ u, (readR a v).run P w = .ok u w ∧ RepDV ι s.ob d u := by
  cases v with
  | tmp t => cases h; exact ⟨_, rfl, ht t⟩
  | cell x t =>
    simp only [resD] at h
    obtain ⟨ti, hti, h⟩ := Option.bind_eq_some_iff.1 h
    split at h
    · rename_i b hx
      split at h
      · rename_i bt c hb
        obtain ⟨hl, h⟩ := ite_some h
        have hxx := ht x
        rw [hx] at hxx
        obtain ⟨g, cs, h1, h2, h3, h4⟩ := bptr_of hs hxx hb
        have hr := run_loadVar' (P := P) (w := w) (htt t ti hti) ⟨g, 0, none⟩ cs (by rw [← All2.len h4, hl]) (fun j u hj => by
          rw [Addr.add_mid, cell_of_row w g (0 + j) _ bt (0, 0) h3]
          simpa using hj)
        refine ⟨_, by simp only [readR, h2, Sem.run_bind, asAddr]; exact hr, ?_⟩
        cases ha : ti.agg with
        | true =>
          rw [ha] at h
          cases h
          exact ⟨cs, rfl, h4⟩
        | false =>
          rw [ha] at h
          simp only [cond_false] at h
          split at h
          · cases h
            match cs, h4 with
            | [u], h4 => exact h4.1
            | _ :: _ :: _, h4 => exact h4.2.elim
          · cases h
      · cases h
    · rename_i r hx
      split at h
      · rename_i ik hA
        split at h
        · rename_i e ik' l hr
          have hh := ite_some h
          have hl := hh.1.2
          have he := hh.1.1
          subst he
          have hd := Option.some.inj hh.2
          subst hd
          have hxx := ht x
          rw [hx] at hxx
          obtain ⟨ad, u, v1, v2, v3⟩ := res_arr (P := P) hs (htt t ti hti) hA hxx hr hl
          exact ⟨u, by simp only [readR, v1, Sem.run_bind, asAddr]; exact v2, v3⟩
        · cases h
      · cases h
    · cases h
theorem res_vals {P : Program} {tt : Nat → Option TI} (htt : TTok P tt) {w0 : World} {X M : Nat → Prop} {ι : Nat → In} {s : DS} {a : Act} {w : World} (hs : HS w0 X M ι s.ob w) (ht : TS ι s a) : ∀ {ks : List RK} {vs : List ResultVar} {q : Ra}, resA tt s ks vs = some q →
    ∃ us, All2 (fun v u => (readR a v).run P w = .ok u w) vs us ∧ All2 (fun v u => ∀ d, resD tt s v = some d → RepDV ι s.ob d u) vs us
  | [], [], _, _ => ⟨[], trivial, trivial⟩
  | [], _ :: _, _, h => by cases h
  | _ :: _, [], _, h => by cases h
  | k :: ks, v :: vs, q, h => by
    simp only [resA] at h
    obtain ⟨d, hd, h⟩ := Option.bind_eq_some_iff.1 h
    obtain ⟨q0, h0, h⟩ := Option.bind_eq_some_iff.1 h
    obtain ⟨u, u1, u2⟩ := res_val htt hs ht hd
    obtain ⟨us, k1, k2⟩ := res_vals htt hs ht h0
    exact ⟨u :: us, ⟨u1, k1⟩, ⟨fun d' hd' => by rw [hd] at hd'; cases hd'; exact u2, k2⟩⟩
theorem tup_rep {ι : Nat → In} {ob : Ob} : ∀ {vs : List (Bool × List AV)} {us : List Value}, All2 (RepP ι ob) vs us → (∀ p ∈ vs, p.1 = false → ∃ x, p.2 = [x]) → RepDV ι ob (tupV vs) (sized us)
  | [], [], h, _ => ⟨[], rfl, h⟩
  | [(true, l)], [u], h, _ => h.1
  | [(false, l)], [u], h, hs => by
    obtain ⟨x, hx⟩ := hs (false, l) (by simp) rfl
    simp only at hx
    subst hx
    exact h.1 x rfl
  | a :: b :: r, [u], h, _ => h.2.elim
  | [(true, _)], _ :: _ :: _, h, _ => h.2.elim
  | [(false, _)], _ :: _ :: _, h, _ => h.2.elim
  | a :: b :: r, u :: v :: us, h, _ => by
    have e1 : tupV (a :: b :: r) = .tup (a :: b :: r) := by obtain ⟨x, l⟩ := a; cases x <;> rcases l with _ | ⟨y, _ | _⟩ <;> rfl
    rw [e1]
    exact ⟨_, rfl, h⟩
  | [], _ :: _, h, _ => h.elim
  | _ :: _, [], h, _ => h.elim
/-- A function whose run in the machine of values is known keeps the contract. -/
theorem CtrOk.of {P : Program} {f : Nat} {fn : Func} {cd : Code} {c : Ctr} {cx : Cx} {hs : Nat → Hint} (hf : P.funcs[f]? = some fn) (hn : (fn.name == "runtime.NumGoroutine") = false) (hb : fn.body = some cd) (hok : codeOk fn.ntmps cd = true) (htt : TTok P cx.tt) (henv : EnvOk P cx.env) (hmx : P.follows .mixedOrders = true)
    (h3 : Nat.ble fn.results.toList.length 4 = true) (hfz : fzOk c = true) (hnt : Nat.ble c.ps.length fn.ntmps = true) (hrun : ∀ k x r, c.run k x = some r → func cx hs c.ps c.rs fn.results.toList c.I c.O cd k x = some r) : CtrOk P f c := by
  refine ⟨⟨fn, hf, hn, by rw [hb]; rfl⟩, fun w0 X M ι ob w hhs hXM args vals hargs k id avs x r o q h1 h2 h3' h4 h5 h6 h7 h8 h9 => ?_⟩
  have hfun := hrun k x r h5
  unfold func at hfun
  obtain ⟨hd0, hfun⟩ := bif_some hfun
  have hc := cells_of h2
  obtain ⟨g1, g2, g3, g4⟩ := HS.giveD hXM hhs (flatR ob c.ps args)
  obtain ⟨G, e1, e2, e3⟩ := in_spec hhs (N := Nb w0 M ι (updL ob (freezeD ob (flatR ob c.ps args))) w) c.ps args vals 0 avs _ h1 hc hargs g4
  have hnd := disj_pw hd0
  obtain ⟨m1, m2, m3⟩ := e3 (lookI ⟨none, 0, []⟩ G) (lookO (inS 0 c.ps (Ty.cells c.I x)).2) (fun p hp => lookO_of hnd hp) (fun p hp => lookI_mem (by rw [e1]; exact hnd) hp)
  have hlen : vals.length = c.ps.length := by rw [← hargs.len, flat_len h1]
  obtain ⟨m3, m4⟩ := m3
  have hent := enter_HS hhs hXM (by rw [List.map_append, owP_snd, gvP_snd]) h3' h4 m2 (fun x hx => by
    rcases List.mem_append.1 hx with hx | hx
    · obtain ⟨_, l1, o, oo, _, l2, l3, _⟩ := m3 x hx; exact ⟨l1, oo, l2, l3⟩
    · exact m4 x hx)
  have hts : ∀ i, RepDV (lookI ⟨none, 0, []⟩ G) (lookO (inS 0 c.ps (Ty.cells c.I x)).2) ((init c.ps (Ty.cells c.I x)).tm i) ((vals.toArray ++ Array.replicate (fn.ntmps - vals.toArray.size) undef).getD i undef) := by
    intro i
    have hlk : ∀ (L : List (Nat × DV)) (us : List Value) (b : Nat), L.map Prod.fst = List.range' b L.length → All2 (fun p v => RepDV (lookI ⟨none, 0, []⟩ G) (lookO (inS 0 c.ps (Ty.cells c.I x)).2) p.2 v) L us → ∀ j, (∃ d v, tl L (b + j) = d ∧ us[j]? = some v ∧ RepDV (lookI ⟨none, 0, []⟩ G) (lookO (inS 0 c.ps (Ty.cells c.I x)).2) d v) ∨ tl L (b + j) = .at .undef := by
      intro L
      induction L with
      | nil => intro us b _ _ j; exact .inr rfl
      | cons p L ih =>
        intro us b hm ha j
        cases us with
        | nil => exact ha.elim
        | cons u us =>
          simp only [List.map_cons, List.length_cons, List.range'_succ, List.cons.injEq] at hm
          cases j with
          | zero =>
            refine .inl ⟨p.2, u, ?_, rfl, ha.1⟩
            simp [tl, look, hm.1]
          | succ j =>
            have hne : Nat.beq (b + (j + 1)) p.1 = false := by
              rw [hm.1]
              cases hb : Nat.beq (b + (j + 1)) b with
              | false => rfl
              | true => have := Nat.eq_of_beq_eq_true hb; omega
            have := ih us (b + 1) hm.2 ha.2 j
            have e : b + (j + 1) = b + 1 + j := by omega
            rw [show tl (p :: L) (b + (j + 1)) = tl L (b + 1 + j) by simp only [tl, look, hne, cond_false]; rw [e]]
            simpa using this
    have hl2 : (inS 0 c.ps (Ty.cells c.I x)).1.length = c.ps.length := by have := congrArg List.length e2; simpa using this
    rcases hlk _ _ 0 (by rw [hl2]; exact e2) m1 i with ⟨d, v, l1, l2, l3⟩ | l1
    · rw [Nat.zero_add] at l1
      show RepDV _ _ (tl _ i) _
      rw [l1]
      have hi : i < vals.length := (List.getElem?_eq_some_iff.1 l2).1
      have : (vals.toArray ++ Array.replicate (fn.ntmps - vals.toArray.size) undef).getD i undef = v := by
        rw [Array.getD_eq_getD_getElem?, Array.getElem?_append_left (by simpa using hi)]
        simp [l2]
      rw [this]
      exact l3
    · rw [Nat.zero_add] at l1
      show RepDV _ _ (tl _ i) _
      rw [l1]
      exact trivial
  have hcalls := calls_of_wp (P := P) (f := f) (args := vals.toArray) (w := w) hf hb (runK_sound (cx := cx) (w0 := w) (X := XI ι ob (boxIds c.ps args ++ gvIds ob c.ps args)) (M := MI w0 M ι ob (updL ob (freezeD ob (flatR ob c.ps args))) w (boxIds c.ps args ++ gvIds ob c.ps args)) (ι0 := lookI ⟨none, 0, []⟩ G) (ob0 := lookO (inS 0 c.ps (Ty.cells c.I x)).2) (nt := fn.ntmps) htt henv (fun b hb => Or.inl hb) hmx k 0 hs r cd 0 (init c.ps (Ty.cells c.I x)) _ hfun hok _ w (bodyPost P fn fun e w' => ∃ v, e = .returned v ∧ ∃ ι', HS w0 X M ι' (updL ob ((bif c.frz then freezeD ob (flatR ob c.ps args) else []) ++ (deads (gvIds ob c.ps args) ++ (q.1 ++ (o.w ++ q.2))))) w' ∧ Keeps ι ι' ob (updL ob ((bif c.frz then freezeD ob (flatR ob c.ps args) else []) ++ (deads (gvIds ob c.ps args) ++ (q.1 ++ (o.w ++ q.2))))) ∧
      RepDV ι' (updL ob ((bif c.frz then freezeD ob (flatR ob c.ps args) else []) ++ (deads (gvIds ob c.ps args) ++ (q.1 ++ (o.w ++ q.2))))) (tupV o.vs) v) ⟨⟨lookI ⟨none, 0, []⟩ G, hent, hts, fun id hid o ho => ⟨o, ho, Sh.refl o, Alike.refl _⟩⟩, rfl, ?_⟩ ?_)
  · exact hcalls
  · have := Nat.le_of_ble_eq_true hnt
    simp [hlen]
    omega
  · intro e s a w1 he hst
    obtain ⟨s0, hst0, hfin0⟩ : ∃ s', St w (XI ι ob (boxIds c.ps args ++ gvIds ob c.ps args)) (MI w0 M ι ob (updL ob (freezeD ob (flatR ob c.ps args))) w (boxIds c.ps args ++ gvIds ob c.ps args)) (kpS 0 c.ps (Ty.cells c.I x)) (lookI ⟨none, 0, []⟩ G) (lookO (inS 0 c.ps (Ty.cells c.I x)).2) fn.ntmps s' a w1 ∧ fin0 cx.tt c.ps c.rs fn.results.toList c.O s' = some r := by
      have hf : ((resA cx.tt s c.rs fn.results.toList).bind fun q => (pA s 0 c.ps).bind fun p => backsK ((q.own ++ p.own) ++ (p.kp ++ (q.oth ++ p.oth))) s (fin0 cx.tt c.ps c.rs fn.results.toList c.O)) = some r := by
        cases e <;> first | exact he | cases he
      obtain ⟨_, _, hf⟩ := Option.bind_eq_some_iff.1 hf
      obtain ⟨_, _, hf⟩ := Option.bind_eq_some_iff.1 hf
      rw [backsK_eq] at hf
      obtain ⟨s', h', hf⟩ := Option.bind_eq_some_iff.1 hf
      exact ⟨s', backs_sound hst h', hf⟩
    clear hst
    generalize s0 = s at hst0 hfin0
    have hfin : ((resA cx.tt s c.rs fn.results.toList).bind fun q => (pA s 0 c.ps).bind fun p => bif (((q.own ++ p.own) ++ p.kp).all (isOwn s) && (disj ((q.own ++ p.own) ++ p.kp) && ((q.oth ++ p.oth).all (fun i => !mem ((q.own ++ p.own) ++ p.kp) i) && (q.a ++ p.a).all (cutOk s)))) then ofAVs (dv s.ob) c.O (q.a ++ p.a) else none) = some r := hfin0
    obtain ⟨q0, hq, hfin⟩ := Option.bind_eq_some_iff.1 hfin
    obtain ⟨p0, hp, hfin⟩ := Option.bind_eq_some_iff.1 hfin
    obtain ⟨hck, hO⟩ := bif_some hfin
    simp only [Bool.and_eq_true] at hck
    obtain ⟨ι1, k1, k2, k3⟩ := hst0.ex
    have hkeep : ∀ x ∈ owP 0 c.ps args, Alike (ι1 x.1) (ι x.2) ∧ ∃ o oo, s.ob x.1 = some o ∧ ob x.2 = some oo ∧ Wr oo ∧ Sh oo o := fun y hy => by
      obtain ⟨l1, l2, o1, oo, l3, l4, l5, l6⟩ := m3 y hy
      obtain ⟨o', n1, n2, n3⟩ := k3 y.1 l1 o1 l3
      exact ⟨n3.trans (Alike.of l2), o', oo, n1, l4, l5, l6.trans n2⟩
    obtain ⟨us, y1, y2⟩ := res_vals htt k1 k2 hq
    obtain ⟨ι', z1, z2, z3, z4⟩ := leave hhs hXM h1 h3' h4 hkeep (fun x hx => (m4 x hx).2) k1 y2 hq hp hck.1 hck.2.1 hck.2.2.1 hck.2.2.2 hO h6 h7 h8 h9 hfz
    have hR : bodyPost P fn (fun e w' => ∃ v, e = .returned v ∧ ∃ ι', HS w0 X M ι' (updL ob ((bif c.frz then freezeD ob (flatR ob c.ps args) else []) ++ (deads (gvIds ob c.ps args) ++ (q.1 ++ (o.w ++ q.2))))) w' ∧ Keeps ι ι' ob (updL ob ((bif c.frz then freezeD ob (flatR ob c.ps args) else []) ++ (deads (gvIds ob c.ps args) ++ (q.1 ++ (o.w ++ q.2))))) ∧
      RepDV ι' (updL ob ((bif c.frz then freezeD ob (flatR ob c.ps args) else []) ++ (deads (gvIds ob c.ps args) ++ (q.1 ++ (o.w ++ q.2))))) (tupV o.vs) v) .ret a w1 := ⟨hst0.df, _, run_results y1 h3, _, rfl, ι', z1, z2, tup_rep z3 z4⟩
    cases e with
    | normal => exact hR
    | ret => exact hR
    | exit _ => cases he
end
end Go.Proofs.YtpinehfjimphmaaGreat.DI
