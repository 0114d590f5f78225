/- The machine of values: forgetting, at a loop's head. -/
import Derived.Test.YtpinehfjimphmaaGreatDIReg
namespace Go.Proofs.YtpinehfjimphmaaGreat.DI
open Go Go.RowKit
set_option linter.unusedVariables false
set_option linter.unusedSimpArgs false
theorem pw_eq {α : Type} {R : α → α → Prop} (hs : ∀ a b, R a b → R b a) : ∀ {l : List α}, l.Pairwise R → ∀ {a b : α}, a ∈ l → b ∈ l → ¬ R a b → a = b
  | [], _, a, b, ha, _, _ => by cases ha
  | x :: r, h, a, b, ha, hb, hn => by
    rcases List.mem_cons.1 ha with rfl | ha' <;> rcases List.mem_cons.1 hb with rfl | hb'
    · rfl
    · exact (hn (List.rel_of_pairwise_cons h hb')).elim
    · exact (hn (hs _ _ (List.rel_of_pairwise_cons h ha'))).elim
    · exact pw_eq hs (List.Pairwise.of_cons h) ha' hb' hn
theorem lookO_mem : ∀ {L : List (Nat × Obj)} {j : Nat} {o : Obj}, lookO L j = some o → (j, o) ∈ L
  | p :: r, j, o, h => by
    simp only [lookO] at h
    cases hb : Nat.beq j p.1 <;> rw [hb] at h <;> simp only [cond_true, cond_false] at h
    · exact List.mem_cons_of_mem _ (lookO_mem h)
    · cases h; have := Nat.eq_of_beq_eq_true hb; subst this; exact List.mem_cons_self
theorem lookO_of : ∀ {L : List (Nat × Obj)} {j : Nat} {o : Obj}, (L.map Prod.fst).Pairwise (· ≠ ·) → (j, o) ∈ L → lookO L j = some o
  | p :: r, j, o, h, hm => by
    simp only [lookO]
    rcases List.mem_cons.1 hm with e | hm
    · subst e; simp
    · have hne : j ≠ p.1 := fun e => by
        simp only [List.map_cons] at h
        exact List.rel_of_pairwise_cons h (List.mem_map.2 ⟨(j, o), hm, rfl⟩) e.symm
      have : Nat.beq j p.1 = false := by cases hb : Nat.beq j p.1 with | false => rfl | true => exact (hne (Nat.eq_of_beq_eq_true hb)).elim
      rw [this]
      exact lookO_of (by simp only [List.map_cons] at h; exact List.Pairwise.of_cons h) hm
def AV.all : AV → List Nat | .whole r => [r] | .cut r _ _ => [r] | .eptr r _ _ => [r] | .bptr b _ => [b] | .fn _ c => c.map (·.1) | _ => []
def KeepAt (ι ι' : Nat → In) (ob ob' : Ob) (id : Nat) : Prop := ∀ o, ob id = some o → ∃ o', ob' id = some o' ∧ Sh o o' ∧ Alike (ι' id) (ι id)
section
variable {ι ι' : Nat → In} {ob ob' : Ob}
theorem RepB.at {b off : Nat} {v : Value} (hk : KeepAt ι ι' ob ob' b) (h : RepB ι ob b off v) : RepB ι' ob' b off v := by
  obtain ⟨h1c, o, ho, h⟩ := h
  obtain ⟨o', ho', hs, hi⟩ := hk o ho
  refine ⟨h1c, o', ho', fun t c e => ?_⟩
  subst e
  cases o with
  | box t0 c0 => rw [hi.1]; exact h t0 c0 rfl
  | row => exact hs.elim
  | deep => exact hs.elim
  | dead => exact hs.elim
theorem RepAV.at : ∀ {x : AV} {v : Value}, (∀ r ∈ x.all, KeepAt ι ι' ob ob' r) → RepAV ι ob x v → RepAV ι' ob' x v
  | .undef, _, _, _ => trivial
  | .int _ _, _, _, h => h
  | .bool _, _, _, h => h
  | .str _, _, _, h => h
  | .nils, _, _, h => h
  | .whole r, v, hk, h => by
    obtain ⟨h1c, o, ho, h⟩ := h
    obtain ⟨o', ho', hs, hi⟩ := hk r (by simp [AV.all]) o ho
    refine ⟨h1c, o', ho', fun t m he => ?_⟩
    have := h _ _ (hs.shp he)
    simpa only [hi.1, hi.2] using this
  | .cut r _ _, v, hk, h => by
    obtain ⟨h1c, o, ho, h⟩ := h
    obtain ⟨o', ho', hs, hi⟩ := hk r (by simp [AV.all]) o ho
    refine ⟨h1c, o', ho', fun t m he => ?_⟩
    have := h _ _ (hs.shp he)
    simpa only [hi.1, hi.2] using this
  | .bptr b _, _, hk, h => RepB.at (hk b (by simp [AV.all])) h
  | .eptr r _ _, v, hk, h => by
    obtain ⟨h1c, o, ho, h⟩ := h
    obtain ⟨o', ho', hs, hi⟩ := hk r (by simp [AV.all]) o ho
    refine ⟨h1c, o', ho', fun t m he => ?_⟩
    have := h _ _ (hs.shp he)
    simpa only [hi.1, hi.2] using this
  | .fn _ c, _, hk, h => by
    obtain ⟨vs, e, h⟩ := h
    exact ⟨vs, e, All2.mono (fun p hp _ h => RepB.at (hk p.1 (by simp only [AV.all, List.mem_map]; exact ⟨p, hp, rfl⟩)) h) h⟩
theorem scrub_rep {kp : List Nat} (hk : ∀ r, mem kp r = true → KeepAt ι ι' ob ob' r) {x : AV} {v : Value} (h : RepAV ι ob x v) : RepAV ι' ob' (x.scrub kp) v := by
  cases x with
  | undef => trivial
  | int k n => exact h
  | bool b => exact h
  | str b => exact h
  | nils => exact h
  | whole r =>
    simp only [AV.scrub]
    cases hm : mem kp r
    · trivial
    · exact RepAV.at (x := .whole r) (fun q hq => by simp [AV.all] at hq; subst hq; exact hk _ hm) h
  | cut r a b =>
    simp only [AV.scrub]
    cases hm : mem kp r
    · trivial
    · exact RepAV.at (x := .cut r a b) (fun q hq => by simp [AV.all] at hq; subst hq; exact hk _ hm) h
  | eptr r a b =>
    simp only [AV.scrub]
    cases hm : mem kp r
    · trivial
    · exact RepAV.at (x := .eptr r a b) (fun q hq => by simp [AV.all] at hq; subst hq; exact hk _ hm) h
  | bptr r a =>
    simp only [AV.scrub]
    cases hm : mem kp r
    · trivial
    · exact RepAV.at (x := .bptr r a) (fun q hq => by simp [AV.all] at hq; subst hq; exact hk _ hm) h
  | fn f c =>
    cases c with
    | nil => exact RepAV.at (x := .fn f []) (fun q hq => by simp [AV.all] at hq) h
    | cons p r =>
      simp only [AV.scrub]
      cases hm : (p :: r).all (fun p => mem kp p.1)
      · trivial
      · refine RepAV.at (x := .fn f (p :: r)) (fun q hq => ?_) h
        simp only [AV.all, List.mem_map] at hq
        obtain ⟨p', hp', rfl⟩ := hq
        exact hk _ (List.all_eq_true.1 hm p' hp')
end
def lenO : Obj → Nat | .row _ _ _ l => l.length | .deep _ _ l _ => l.length | _ => 0
def RepI (w : World) (N : Nat → Prop) : Obj → In → Prop
  | .row e t true l, i => Own w N e t l i.a i.c
  | .row _ t false l, i => Ro w N t l i.a i.c
  | .deep e t l none, i => DeepOk w e t l i
  | _, _ => False
section
variable {w0 : World} {X M : Nat → Prop} {ι : Nat → In} {s : DS} {a : Act} {w : World}
/-- What is told of a claimed row. -/
structure EnOk (w : World) (N : Nat → Prop) (ι : Nat → In) (ob : Ob) (en : En) (i : In) : Prop where
  rep : ∀ N' : Nat → Prop, (∀ b, N b → N' b) → (∀ r, en.r = some r → ¬ Wr en.o → ∀ ad, (ι r).a = some ad → N' ad.block) → RepI w N' en.o i
  wr : Wr en.o → ∀ b, Blk i en.o b → ∃ r o, en.r = some r ∧ ob r = some o ∧ Wr o ∧ Blk (ι r) o b
  src : ∀ r, en.r = some r → ∃ o, ob r = some o ∧ Wr o
theorem claim_spec (hs : HS w0 X M ι s.ob w) {id e : Nat} {t : Ty} {y : AV} {en : En} (h : claim s id e t y = some en) {v : Value} (hv : RepAV ι s.ob y v) :
    en.id = id ∧ ∃ i : In, v = .slice i.a (lenO en.o) i.c ∧ EnOk w (Nb w0 M ι s.ob w) ι s.ob en i := by
  unfold claim at h
  split at h
  · cases h
    simp only [RepAV] at hv
    subst hv
    exact ⟨rfl, ⟨none, 0, []⟩, rfl, fun N' _ _ => ⟨[], ⟨by simp, .inl ⟨rfl, rfl⟩⟩, rfl⟩, fun _ b h => (by obtain ⟨ad, h, _⟩ := h; cases h), fun r h => (by cases h)⟩
  · rename_i r
    split at h
    · rename_i e' t' own l hr
      cases h
      refine ⟨rfl, ι r, whole_of hv hr, fun N' hN hf => ?_, fun hw b hb => ?_, fun r' hr' => ?_⟩
      · have ho := hs.obs r _ hr
        cases own with
        | true => obtain ⟨xs, k1, k2⟩ := ho; exact ⟨xs, k1, RepL.mono (fun b hb => ⟨hN b hb, rfl⟩) k2⟩
        | false => exact Ro.mono (fun b hb => ⟨hN b hb, rfl⟩) ho
      · cases own with
        | true => exact ⟨r, _, rfl, hr, trivial, hb⟩
        | false => exact hw.elim
      · cases own with
        | true => cases hr'; exact ⟨_, hr, trivial⟩
        | false => cases hr'
    · rename_i e' t' l hr
      cases h
      obtain ⟨_, o, ho, hv⟩ := hv
      rw [hr] at ho
      cases ho
      exact ⟨rfl, ι r, hv _ _ rfl, fun N' hN hf => hs.obs r _ hr, fun hw b hb => ⟨r, _, rfl, hr, trivial, hb⟩, fun r' hr' => by cases hr'; exact ⟨_, hr, trivial⟩⟩
    · cases h
  · rename_i r off n
    split at h
    · rename_i e' t' own l hr
      obtain ⟨hle, A, hvv, hA, hA0⟩ := cut_of hv hr
      cases h
      have hlen : ((l.drop off).take n).length = n := by simp; omega
      have hrc := row_len hs hr
      have hblk : ∀ ad, A = some ad → ∃ ad0, (ι r).a = some ad0 ∧ ad0.block = ad.block := fun ad ha => by
        by_cases hc : off < (ι r).c
        · rw [hA (.inl hc)] at ha
          cases h0 : (ι r).a with
          | none => rw [h0] at ha; cases ha
          | some ad0 => rw [h0] at ha; cases ha; exact ⟨ad0, rfl, (add_block _ _).symm⟩
        · rw [hA0 (by omega)] at ha; exact ⟨ad, ha, rfl⟩
      refine ⟨rfl, ⟨A, (ι r).c - off, []⟩, by rw [hvv]; simp only [lenO, hlen], fun N' hN hf => ?_, fun hw b hb => ?_, fun r' hr' => ?_⟩
      · cases own with
        | false =>
          have hrd := (rd_row hs hr).sub hle (fun hh => hA (.inl hh))
          refine ⟨hrd.1, fun i x hx => ?_⟩
          obtain ⟨ad, k1, k2, es, k3, k4⟩ := hrd.2 i x hx
          refine ⟨ad, k1, k2, ?_, es, RepC.mono (fun b hb => ⟨hN b hb, rfl⟩) k3, k4⟩
          have hi := (List.getElem?_eq_some_iff.1 hx).1
          have hA' := hA (.inl (by rw [hlen] at hi; omega))
          cases ha : (ι r).a with
          | none => rw [hA', ha] at k1; cases k1
          | some ad0 =>
            rw [hA', ha] at k1
            cases k1
            rw [add_block]
            have hlt : off < l.length := by rw [hlen] at hi; omega
            obtain ⟨ad1, q1, _, q3, _⟩ := (show Ro w (Nb w0 M ι s.ob w) t' l (ι r).a (ι r).c from hs.obs r _ hr).2 off l[off] (List.getElem?_eq_getElem hlt)
            rw [ha] at q1
            cases q1
            exact hN _ q3
        | true =>
          obtain ⟨xs, k1, k2⟩ := hs.obs r _ hr
          exact own_cut k1 (RepL.mono (fun b hb => ⟨hN b hb, rfl⟩) k2) hle hA hA0
      · cases own with
        | true => obtain ⟨ad, ha, rfl⟩ := hb; obtain ⟨ad0, q1, q2⟩ := hblk ad ha; exact ⟨r, _, rfl, hr, trivial, q2 ▸ Blk.main q1⟩
        | false => exact hw.elim
      · cases own with
        | true => cases hr'; exact ⟨_, hr, trivial⟩
        | false => cases hr'
    · cases h
  · cases h
/-- The value of a source. -/
def valOf (ι : Nat → In) (w : World) (a : Act) : Sr → Value
  | .t i => a.tmps.getD i undef
  | .b x j => match (ι x).a with
    | some ad => match w.heap[ad.block]? with
      | some (.cells cs _ _) => cs.getD j undef
      | _ => undef
    | none => undef
theorem src_rep (hs : HS w0 X M ι s.ob w) (ht : TS ι s a) : ∀ r : Sr, RepAV ι s.ob (srcOf s r) (valOf ι w a r)
  | .t i => by
    have h := ht i
    simp only [srcOf, valOf]
    cases hd : s.tm i with
    | «at» x => rw [hd] at h; exact h
    | agg l => trivial
    | tup l => trivial
  | .b x j => by
    simp only [srcOf]
    cases ho : s.ob x with
    | none => trivial
    | some o =>
      cases o with
      | box t c =>
        obtain ⟨g, cs, h1, h2, h3⟩ := hs.obs x _ ho
        simp only [valOf, h1, h2]
        cases hc : c[j]? with
        | none => trivial
        | some y =>
          obtain ⟨v, k1, k2⟩ := All2.get h3 hc
          simpa [Array.getD_eq_getD_getElem?, k1] using k2
      | row => trivial
      | deep => trivial
      | dead => trivial
theorem claims_spec (hs : HS w0 X M ι s.ob w) (ht : TS ι s a) : ∀ (rw : List (Sr × Nat × Nat × Ty)) (E : List En), claims s rw = some E →
    ∃ I : List In, All2 (EnOk w (Nb w0 M ι s.ob w) ι s.ob) E I ∧ E.length = I.length ∧ ∀ p ∈ rw, ∃ (n : Nat) (en : En) (i : In), E[n]? = some en ∧ I[n]? = some i ∧ en.id = p.2.1 ∧ valOf ι w a p.1 = .slice i.a (lenO en.o) i.c
  | [], E, h => by cases h; exact ⟨[], trivial, rfl, by simp⟩
  | (r, id, e, t) :: rw, E, h => by
    simp only [claims] at h
    obtain ⟨en, h1, h⟩ := Option.bind_eq_some_iff.1 h
    obtain ⟨E', h2, h⟩ := Option.bind_eq_some_iff.1 h
    cases h
    obtain ⟨k1, i, k2, k3⟩ := claim_spec hs h1 (src_rep hs ht r)
    obtain ⟨I, q1, q2, q3⟩ := claims_spec hs ht rw E' h2
    refine ⟨i :: I, ⟨k3, q1⟩, by simp [q2], fun p hp => ?_⟩
    rcases List.mem_cons.1 hp with rfl | hp
    · exact ⟨0, en, i, rfl, rfl, k1, k2⟩
    · obtain ⟨n, en', i', m1, m2, m3, m4⟩ := q3 p hp
      exact ⟨n + 1, en', i', by simpa using m1, by simpa using m2, m3, m4⟩
theorem newT_mem : ∀ {rw : List (Sr × Nat × Nat × Ty)} {i id : Nat}, newT i rw = some id → ∃ e t, (Sr.t i, id, e, t) ∈ rw
  | (.t j, id', e, t) :: r, i, id, h => by
    simp only [newT] at h
    cases hb : Nat.beq i j <;> rw [hb] at h <;> simp only [cond_true, cond_false] at h
    · obtain ⟨e', t', h'⟩ := newT_mem h; exact ⟨e', t', by simp [h']⟩
    · cases h; have := Nat.eq_of_beq_eq_true hb; subst this; exact ⟨e, t, by simp⟩
  | (.b _ _, _, _, _) :: r, i, id, h => by
    simp only [newT] at h
    obtain ⟨e', t', h'⟩ := newT_mem h; exact ⟨e', t', by simp [h']⟩
theorem newB_mem : ∀ {rw : List (Sr × Nat × Nat × Ty)} {x i id : Nat}, newB x i rw = some id → ∃ e t, (Sr.b x i, id, e, t) ∈ rw
  | (.b y j, id', e, t) :: r, x, i, id, h => by
    simp only [newB] at h
    cases hb : (Nat.beq x y && Nat.beq i j) <;> rw [hb] at h <;> simp only [cond_true, cond_false] at h
    · obtain ⟨e', t', h'⟩ := newB_mem h; exact ⟨e', t', by simp [h']⟩
    · cases h
      simp only [Bool.and_eq_true] at hb
      have h1 := Nat.eq_of_beq_eq_true hb.1
      have h2 := Nat.eq_of_beq_eq_true hb.2
      subst h1; subst h2
      exact ⟨e, t, by simp⟩
  | (.t _, _, _, _) :: r, x, i, id, h => by
    simp only [newB] at h
    obtain ⟨e', t', h'⟩ := newB_mem h; exact ⟨e', t', by simp [h']⟩
end

theorem mapO_back {α β : Type} {f : α → Option β} : ∀ {l : List α} {q : List β}, mapO f l = some q → ∀ y ∈ q, ∃ x ∈ l, f x = some y
  | [], q, h => by cases h; simp
  | x :: r, q, h => by
    simp only [mapO] at h
    obtain ⟨y, h1, h⟩ := Option.bind_eq_some_iff.1 h
    obtain ⟨q', h2, h⟩ := Option.bind_eq_some_iff.1 h
    cases h
    intro z hz
    rcases List.mem_cons.1 hz with rfl | hz
    · exact ⟨x, by simp, h1⟩
    · obtain ⟨x', k1, k2⟩ := mapO_back h2 z hz; exact ⟨x', by simp [k1], k2⟩
theorem mapO_forth {α β : Type} {f : α → Option β} : ∀ {l : List α} {q : List β}, mapO f l = some q → ∀ x ∈ l, ∃ y ∈ q, f x = some y
  | [], q, h => by simp
  | x :: r, q, h => by
    simp only [mapO] at h
    obtain ⟨y, h1, h⟩ := Option.bind_eq_some_iff.1 h
    obtain ⟨q', h2, h⟩ := Option.bind_eq_some_iff.1 h
    cases h
    intro z hz
    rcases List.mem_cons.1 hz with rfl | hz
    · exact ⟨y, by simp, h1⟩
    · obtain ⟨y', k1, k2⟩ := mapO_forth h2 z hz; exact ⟨y', by simp [k1], k2⟩
theorem mapO_fst {f : Nat → Option (Nat × Obj)} (hf : ∀ x y, f x = some y → y.1 = x) : ∀ {l : List Nat} {q : List (Nat × Obj)}, mapO f l = some q → q.map Prod.fst = l
  | [], q, h => by cases h; rfl
  | x :: r, q, h => by
    simp only [mapO] at h
    obtain ⟨y, h1, h⟩ := Option.bind_eq_some_iff.1 h
    obtain ⟨q', h2, h⟩ := Option.bind_eq_some_iff.1 h
    cases h
    simp [hf _ _ h1, mapO_fst hf h2]
def lookI (d : In) : List (Nat × In) → Nat → In
  | [], _ => d
  | p :: r, j => if j = p.1 then p.2 else lookI d r j
theorem lookI_none {d : In} : ∀ {L : List (Nat × In)} {j : Nat}, (∀ p ∈ L, p.1 ≠ j) → lookI d L j = d
  | [], _, _ => rfl
  | p :: r, j, h => by simp only [lookI]; rw [if_neg (fun e => h p (by simp) e.symm), lookI_none (fun q hq => h q (by simp [hq]))]
theorem lookI_of {d : In} : ∀ {E : List En} {I : List In} {n : Nat} {en : En} {i : In}, (E.map En.id).Pairwise (· ≠ ·) → E[n]? = some en → I[n]? = some i → lookI d ((E.map En.id).zip I) en.id = i
  | [], _, _, _, _, _, h, _ => by simp at h
  | _ :: _, [], _, _, _, _, _, h => by simp at h
  | e :: E, i0 :: I, 0, en, i, _, h1, h2 => by simp at h1 h2; subst h1; subst h2; simp [lookI]
  | e :: E, i0 :: I, n + 1, en, i, hp, h1, h2 => by
    simp only [List.map_cons] at hp
    have h1' : E[n]? = some en := by simpa using h1
    simp only [List.map_cons, List.zip_cons_cons, lookI]
    rw [if_neg (fun e' => List.rel_of_pairwise_cons hp (List.mem_map.2 ⟨en, List.mem_of_getElem? h1', rfl⟩) e'.symm)]
    exact lookI_of (List.Pairwise.of_cons hp) h1' (by simpa using h2)
theorem keepN_spec {kp : List Nat} {h : Hint} {s : DS} {x : Nat} {y : Nat × Obj} (hy : keepN kp h s x = some y) : y.1 = x ∧ ((∃ o, s.ob x = some o ∧ y.2 = o ∧ ((∃ e t own l, o = .row e t own l) ∨ ∃ e t l, o = .deep e t l none)) ∨ ∃ t c, s.ob x = some (.box t c) ∧ y.2 = .box t (scrubC kp h x 0 c)) := by
  unfold keepN at hy
  split at hy
  · rename_i e t own l hx; cases hy; exact ⟨rfl, .inl ⟨_, hx, rfl, .inl ⟨e, t, own, l, rfl⟩⟩⟩
  · rename_i e t l hx; cases hy; exact ⟨rfl, .inl ⟨_, hx, rfl, .inr ⟨e, t, l, rfl⟩⟩⟩
  · rename_i t c hx; cases hy; exact ⟨rfl, .inr ⟨t, c, hx, rfl⟩⟩
  · cases hy
theorem boxN_spec {kp : List Nat} {h : Hint} {s : DS} {x : Nat} {y : Nat × Obj} (hy : boxN kp h s x = some y) : y.1 = x ∧ ((∃ o, s.ob x = some o ∧ y.2 = o ∧ ((∃ e t own l, o = .row e t own l) ∨ ∃ e t l, o = .deep e t l none)) ∨ ∃ t c, s.ob x = some (.box t c) ∧ y.2 = .box t (scrubC kp h x 0 c)) := keepN_spec hy
theorem look_map {α : Type} (d : α) (f : Nat → α) : ∀ (l : List Nat) (j : Nat), look d (l.map fun i => (i, f i)) j = if j ∈ l then f j else d
  | [], j => by simp [look]
  | i :: r, j => by
    simp only [List.map_cons, look]
    cases hb : Nat.beq j i
    · have hne : j ≠ i := fun e => by subst e; simp at hb
      simp only [cond_false]
      rw [look_map d f r j]
      simp [hne]
    · have := Nat.eq_of_beq_eq_true hb
      subst this
      simp
section
variable {P : Program} {w0 : World} {X M : Nat → Prop} {kp : List Nat} {ι0 : Nat → In} {ob0 : Ob} {nt : Nat}
theorem scrubC_rep {ι ι' : Nat → In} {ob ob' : Ob} {KB : List Nat} {h : Hint} {x : Nat} (hk : ∀ r, mem KB r = true → KeepAt ι ι' ob ob' r) (V : Nat → Value) (hn : ∀ j id, newB x j h.rw = some id → RepAV ι' ob' (.whole id) (V j)) :
    ∀ (c : List AV) (cs : List Value) (j : Nat), (∀ i v, cs[i]? = some v → V (j + i) = v) → All2 (RepAV ι ob) c cs → All2 (RepAV ι' ob') (scrubC KB h x j c) cs
  | [], [], _, _, _ => trivial
  | y :: c, v :: cs, j, hV, hr => by
    simp only [scrubC]
    refine ⟨?_, scrubC_rep hk V hn c cs (j + 1) (fun i u hu => by have := hV (i + 1) u (by simpa using hu); rwa [show j + 1 + i = j + (i + 1) from by omega]) hr.2⟩
    have hv : V j = v := hV 0 v rfl
    split
    · rename_i id hid; have := hn j id hid; rwa [hv] at this
    · exact scrub_rep hk hr.1
  | [], _ :: _, _, _, h => h.elim
  | _ :: _, [], _, _, h => h.elim
theorem mem_iff {l : List Nat} {i : Nat} : mem l i = true ↔ i ∈ l := by
  unfold mem
  rw [List.any_eq_true]
  exact ⟨fun ⟨x, h1, h2⟩ => by rw [Nat.eq_of_beq_eq_true h2]; exact h1, fun h => ⟨i, h, Nat.beq_refl i⟩⟩
theorem norm0_sound (hXM : ∀ b, X b → M b) {s s' : DS} {a : Act} {w : World} (hs : St w0 X M kp ι0 ob0 nt s a w) {h : Hint} (hn : norm0 kp h s = some s') : St w0 X M kp ι0 ob0 nt s' a w := by
  obtain ⟨ι, h1, h2, h3⟩ := hs.ex
  unfold norm0 at hn
  obtain ⟨E, n1, hn⟩ := Option.bind_eq_some_iff.1 hn
  obtain ⟨bs, n2, hn⟩ := Option.bind_eq_some_iff.1 hn
  obtain ⟨ks, n3, hn⟩ := Option.bind_eq_some_iff.1 hn
  obtain ⟨n4, hn⟩ := bif_some hn
  cases hn
  simp only [Bool.and_eq_true] at n4
  obtain ⟨n4, n5⟩ := n4
  have d1 := disj_pw n4
  have d2 := disj_pw n5
  obtain ⟨I, c1, c2, c3⟩ := claims_spec h1 h2 h.rw E n1
  have fk : ks.map Prod.fst = kp := mapO_fst (fun x y hy => (keepN_spec hy).1) n3
  have fb : bs.map Prod.fst = h.bx := mapO_fst (fun x y hy => (boxN_spec hy).1) n2
  let L := ks ++ (bs ++ E.map fun e => (e.id, e.o))
  have hLn : (L.map Prod.fst).Pairwise (· ≠ ·) := by
    simp only [L, List.map_append, fk, fb, List.map_map, Function.comp_def]
    exact d2
  have dE : (E.map En.id).Pairwise (· ≠ ·) := (List.pairwise_append.1 (List.pairwise_append.1 d2).2.1).2.1
  let ι' : Nat → In := fun j => lookI (ι j) ((E.map En.id).zip I) j
  have F1 : ∀ j, j ∈ kp ++ h.bx → ι' j = ι j := by
    intro j hj
    refine lookI_none fun p hp e => ?_
    have hp1 : p.1 ∈ E.map En.id := (List.of_mem_zip (a := p.1) (b := p.2) hp).1
    rw [e] at hp1
    rcases List.mem_append.1 hj with hj | hj
    · exact (List.pairwise_append.1 d2).2.2 j hj j (List.mem_append_right _ hp1) rfl
    · exact (List.pairwise_append.1 (List.pairwise_append.1 d2).2.1).2.2 j hj j hp1 rfl
  have F2 : ∀ (n : Nat) (en : En) (i : In), E[n]? = some en → I[n]? = some i → ι' en.id = i := fun n en i he hi => lookI_of dE he hi
  have FE : ∀ en ∈ E, ∃ (n : Nat) (i : In), E[n]? = some en ∧ I[n]? = some i ∧ EnOk w (Nb w0 M ι s.ob w) ι s.ob en i := by
    intro en hen
    obtain ⟨n, hn⟩ := List.mem_iff_getElem?.1 hen
    obtain ⟨i, k1, k2⟩ := All2.get c1 hn
    exact ⟨n, i, hn, k1, k2⟩
  have F3 : ∀ j o, lookO L j = some o → (j ∈ kp ++ h.bx ∧ ((∃ o', s.ob j = some o' ∧ o = o' ∧ ((∃ e t own l, o' = .row e t own l) ∨ ∃ e t l, o' = .deep e t l none)) ∨ ∃ t c, s.ob j = some (.box t c) ∧ o = .box t (scrubC (kp ++ h.bx) h j 0 c))) ∨ ∃ en ∈ E, en.id = j ∧ en.o = o := by
    intro j o hj
    have hm := lookO_mem hj
    rcases List.mem_append.1 hm with hm | hm
    · obtain ⟨x, hx, hy⟩ := mapO_back n3 _ hm
      obtain ⟨k1, k2⟩ := keepN_spec hy
      simp only at k1 k2
      subst k1
      exact .inl ⟨List.mem_append_left _ hx, k2⟩
    · rcases List.mem_append.1 hm with hm | hm
      · obtain ⟨x, hx, hy⟩ := mapO_back n2 _ hm
        obtain ⟨k1, k2⟩ := boxN_spec hy
        simp only at k1 k2
        subst k1
        exact .inl ⟨List.mem_append_right _ hx, k2⟩
      · obtain ⟨en, hen, he⟩ := List.mem_map.1 hm
        cases he
        exact .inr ⟨en, hen, rfl, rfl⟩
  have F4 : ∀ j, j ∈ kp ++ h.bx → KeepAt ι ι' s.ob (lookO L) j := by
    intro j hj o ho
    rcases List.mem_append.1 hj with hj' | hj'
    · obtain ⟨y, hy, hf⟩ := mapO_forth n3 j hj'
      obtain ⟨k1, k2⟩ := keepN_spec hf
      have hy' : (j, y.2) ∈ L := by rw [← k1]; exact List.mem_append_left _ hy
      refine ⟨y.2, lookO_of hLn hy', ?_, by rw [F1 j hj], by rw [F1 j hj]⟩
      rcases k2 with ⟨o', k3, k4, _⟩ | ⟨t, c, k3, k4⟩
      · rw [ho] at k3; cases k3; rw [k4]; exact Sh.refl _
      · rw [ho] at k3; cases k3; rw [k4]; exact trivial
    · obtain ⟨y, hy, hf⟩ := mapO_forth n2 j hj'
      obtain ⟨k1, k2⟩ := boxN_spec hf
      have hy' : (j, y.2) ∈ L := by rw [← k1]; exact List.mem_append_right _ (List.mem_append_left _ hy)
      refine ⟨y.2, lookO_of hLn hy', ?_, by rw [F1 j hj], by rw [F1 j hj]⟩
      rcases k2 with ⟨o', k3, k4, _⟩ | ⟨t, c, k3, k4⟩
      · rw [ho] at k3; cases k3; rw [k4]; exact Sh.refl _
      · rw [ho] at k3; cases k3; rw [k4]; exact trivial
  have pE : E.Pairwise (fun e e' => ∀ r, e.r = some r → ∀ r', e'.r = some r' → r ≠ r') := by
    have := (List.pairwise_append.1 d1).1
    exact List.pairwise_filterMap.1 this
  have uE : ∀ en ∈ E, ∀ en' ∈ E, ∀ r, en.r = some r → en'.r = some r → en = en' := fun en he en' he' r hr hr' =>
    pw_eq (fun a b hab r hr r' hr' e => hab r' hr' r hr e.symm) pE he he' (fun hR => hR r hr r hr' rfl)
  have rk : ∀ en ∈ E, ∀ r, en.r = some r → r ∉ kp ++ h.bx := by
    intro en hen r hr hm
    exact (List.pairwise_append.1 d1).2.2 r (List.mem_filterMap.2 ⟨en, hen, hr⟩) r hm rfl
  have WM : ∀ j o b, lookO L j = some o → Wr o → Blk (ι' j) o b → ∃ j0 o0, s.ob j0 = some o0 ∧ Wr o0 ∧ Blk (ι j0) o0 b ∧ ((j ∈ kp ++ h.bx ∧ j0 = j) ∨ ∃ en ∈ E, en.id = j ∧ en.o = o ∧ en.r = some j0) := by
    intro j o b hj hw ha
    rcases F3 j o hj with ⟨hm, hk⟩ | ⟨en, hen, rfl, rfl⟩
    · rw [F1 j hm] at ha
      rcases hk with ⟨o', k1, rfl, _⟩ | ⟨t, c, k1, rfl⟩
      · exact ⟨j, _, k1, hw, ha, .inl ⟨hm, rfl⟩⟩
      · exact ⟨j, _, k1, trivial, ha, .inl ⟨hm, rfl⟩⟩
    · obtain ⟨n, i, k1, k2, hok⟩ := FE en hen
      rw [F2 n en i k1 k2] at ha
      obtain ⟨r, o0, q1, q2, q3, q4⟩ := hok.wr hw b ha
      exact ⟨r, o0, q2, q3, q4, .inr ⟨en, hen, rfl, rfl, q1⟩⟩
  have hNN : ∀ b, Nb w0 M ι s.ob w b → Nb w0 M ι' (lookO L) w b := by
    rintro b ⟨b1, b2, b3⟩
    refine ⟨b1, b2, ?_⟩
    rintro ⟨j, o, q1, q2, q3⟩
    obtain ⟨j0, o0, k1, k2, k3, _⟩ := WM j o b q1 q2 q3
    exact b3 ⟨j0, o0, k1, k2, k3⟩
  have hrepI : ∀ en ∈ E, ∀ (n : Nat) (i : In), E[n]? = some en → I[n]? = some i → EnOk w (Nb w0 M ι s.ob w) ι s.ob en i → RepI w (Nb w0 M ι' (lookO L) w) en.o i := by
    intro en hen n i k1 k2 hok
    refine hok.rep _ hNN fun r hr hnw ad ha => ?_
    obtain ⟨o1, ho, ho1⟩ := hok.src r hr
    have hW : W ι s.ob ad.block := ⟨r, _, ho, ho1, Blk.main ha⟩
    refine ⟨h1.lt hW, ?_, ?_⟩
    · rcases h1.wr _ hW with q | q
      · exact .inr q
      · exact .inl (hXM _ q)
    · rintro ⟨j, o, q1, q2, q3⟩
      obtain ⟨j0, o0, m1, m2, m3, m4⟩ := WM j o _ q1 q2 q3
      have hj0 : j0 = r := h1.sep j0 r o0 _ _ m1 ho m2 ho1 m3 (Blk.main ha)
      subst hj0
      rcases m4 with ⟨m4, m5⟩ | ⟨en', m4, m5, m6, m7⟩
      · subst m5; exact rk en hen _ hr m4
      · have := uE en hen en' m4 j0 hr m7
        subst this
        rw [m6] at hnw
        exact hnw q2
  have whole : ∀ (src : Sr) (id e : Nat) (t : Ty), (src, id, e, t) ∈ h.rw → RepAV ι' (lookO L) (.whole id) (valOf ι w a src) := by
    intro src id e t hm
    obtain ⟨n, en, i, k1, k2, k3, k4⟩ := c3 _ hm
    simp only at k3 k4
    subst k3
    have hen := List.mem_of_getElem? k1
    have hl : lookO L en.id = some en.o := lookO_of hLn (List.mem_append_right _ (List.mem_append_right _ (List.mem_map.2 ⟨en, hen, rfl⟩)))
    refine ⟨by rw [k4]; rfl, en.o, hl, fun t' m he => ?_⟩
    rw [k4, F2 n en i k1 k2]
    cases ho : en.o with
    | row => rw [ho] at he; cases he; rfl
    | deep => rw [ho] at he; cases he; rfl
    | box => rw [ho] at he; cases he
    | dead => rw [ho] at he; cases he
  refine ⟨⟨ι', ⟨h1.fr, fun j o hj => ?_, fun b hb => ?_, fun j j' o o' b a1 a2 a3 a4 a5 a6 => ?_⟩, fun i => ?_, fun id hid o ho => ?_⟩, hs.df, hs.sz⟩
  · rcases F3 j o hj with ⟨hm, hk⟩ | ⟨en, hen, rfl, rfl⟩
    · rcases hk with ⟨o', k1, rfl, ⟨e, t, own, l, rfl⟩ | ⟨e, t, l, rfl⟩⟩ | ⟨t, c, k1, rfl⟩
      · have := h1.obs j _ k1
        cases own with
        | true => obtain ⟨xs, q1, q2⟩ := this; exact ⟨xs, by rw [F1 j hm]; exact q1, RepL.mono (fun b hb => ⟨hNN b hb, rfl⟩) q2⟩
        | false => simp only [RepO, F1 j hm]; exact Ro.mono (fun b hb => ⟨hNN b hb, rfl⟩) this
      · have := h1.obs j _ k1
        simp only [RepO, F1 j hm] at this ⊢
        exact this
      · obtain ⟨g, cs, q1, q2, q3⟩ := h1.obs j _ k1
        refine ⟨g, cs, by rw [F1 j hm]; exact q1, q2, ?_⟩
        refine scrubC_rep (fun r hr => F4 r (mem_iff.1 hr)) (fun i => cs.getD i undef) (fun i id hid => ?_) c cs 0 (fun i v hv => by simp [List.getD_eq_getElem?_getD, hv]) q3
        obtain ⟨e, t', hm'⟩ := newB_mem hid
        have := whole _ _ _ _ hm'
        simp only [valOf, q1, q2] at this
        simpa [Array.getD_eq_getD_getElem?, List.getD_eq_getElem?_getD] using this
    · obtain ⟨n, i, k1, k2, hok⟩ := FE en hen
      have hr := hrepI en hen n i k1 k2 hok
      have hi := F2 n en i k1 k2
      cases ho : en.o with
      | row e t own l =>
        rw [ho] at hr
        cases own with
        | true => simp only [RepO]; rw [hi]; exact hr
        | false => simp only [RepO]; rw [hi]; exact hr
      | deep e t l q =>
        rw [ho] at hr
        cases q with
        | none => simp only [RepO]; rw [hi]; exact hr
        | some q => exact hr.elim
      | box t c => rw [ho] at hr; exact hr.elim
      | dead => trivial
  · obtain ⟨j, o, q1, q2, q3⟩ := hb
    obtain ⟨j0, o0, k1, k2, k3, _⟩ := WM j o b q1 q2 q3
    exact h1.wr b ⟨j0, o0, k1, k2, k3⟩
  · obtain ⟨j0, o0, k1, k2, k3, k4⟩ := WM j o b a1 a3 a5
    obtain ⟨j1, o1, m1, m2, m3, m4⟩ := WM j' o' b a2 a4 a6
    have he : j0 = j1 := h1.sep j0 j1 o0 o1 b k1 m1 k2 m2 k3 m3
    subst he
    rcases k4 with ⟨k4, k5⟩ | ⟨en, k4, k5, k6, k7⟩ <;> rcases m4 with ⟨m4, m5⟩ | ⟨en', m4, m5, m6, m7⟩
    · omega
    · subst k5; exact (rk en' m4 _ m7 k4).elim
    · subst m5; exact (rk en k4 _ k7 m4).elim
    · have := uE en k4 en' m4 j0 k7 m7
      subst this
      omega
  · show RepDV ι' (lookO L) (tl (h.tm.map fun i => (i, scrubT (kp ++ h.bx) h i (s.tm i))) i) _
    unfold tl
    rw [look_map]
    split
    · unfold scrubT
      split
      · rename_i id hid
        obtain ⟨e, t, hm⟩ := newT_mem hid
        exact whole _ _ _ _ hm
      · have hi := h2 i
        cases hd : s.tm i with
        | «at» x => rw [hd] at hi; exact scrub_rep (fun r hr => F4 r (mem_iff.1 hr)) hi
        | agg l =>
          rw [hd] at hi
          obtain ⟨cs, k1, k2⟩ := hi
          refine ⟨cs, k1, ?_⟩
          clear hd k1
          induction l generalizing cs with
          | nil => cases cs with
            | nil => trivial
            | cons _ _ => exact k2.elim
          | cons x r ih => cases cs with
            | nil => exact k2.elim
            | cons v q => exact ⟨scrub_rep (fun r hr => F4 r (mem_iff.1 hr)) k2.1, ih q k2.2⟩
        | tup l => trivial
    · trivial
  · obtain ⟨o1, q1, q2, q3⟩ := h3 id hid o ho
    obtain ⟨o2, q4, q5, q6⟩ := F4 id (List.mem_append_left _ hid) o1 q1
    exact ⟨o2, q4, q2.trans q5, Alike.trans q6 q3⟩
theorem backs_sound : ∀ {ids : List Nat} {s s' : DS} {a : Act} {w : World}, St w0 X M kp ι0 ob0 nt s a w → backs ids s = some s' → St w0 X M kp ι0 ob0 nt s' a w
  | [], s, s', a, w, hs, h => by cases h; exact hs
  | r :: q, s, s', a, w, hs, h => by
    simp only [backs] at h
    obtain ⟨wb, h1, h⟩ := Option.bind_eq_some_iff.1 h
    obtain ⟨ι, k1, k2, k3⟩ := hs.ex
    obtain ⟨ι', b1, b2, _⟩ := takeBack_spec k1 h1
    refine backs_sound (s := ⟨s.tm, updL s.ob wb⟩) ⟨⟨ι', b1, fun i => RepDV.mono b2 (k2 i), fun id hid o ho => ?_⟩, hs.df, hs.sz⟩ h
    obtain ⟨o1, q1, q2, q3⟩ := k3 id hid o ho
    obtain ⟨o2, q4, q5, q6⟩ := b2 id o1 q1
    exact ⟨o2, q4, q2.trans q5, Alike.trans q6 q3⟩
theorem norm_sound (hXM : ∀ b, X b → M b) {s s' : DS} {a : Act} {w : World} (hs : St w0 X M kp ι0 ob0 nt s a w) {h : Hint} (hn : norm kp h s = some s') : St w0 X M kp ι0 ob0 nt s' a w := by
  unfold norm at hn
  obtain ⟨s1, h1, h2⟩ := Option.bind_eq_some_iff.1 hn
  exact norm0_sound hXM (backs_sound hs h1) h2
theorem normK_sound {R : Type} {K : DS → Option R} {res : R} (hXM : ∀ b, X b → M b) {s : DS} {a : Act} {w : World} (hs : St w0 X M kp ι0 ob0 nt s a w) {h : Hint} (hn : normK kp h s K = some res) : ∃ s', K s' = some res ∧ St w0 X M kp ι0 ob0 nt s' a w := by
  rw [normK_eq] at hn
  obtain ⟨s', h1, h2⟩ := Option.bind_eq_some_iff.1 hn
  exact ⟨s', h2, norm_sound hXM hs h1⟩
end
end Go.Proofs.YtpinehfjimphmaaGreat.DI
