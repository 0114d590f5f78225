/- The machine of values: an operation looks at nothing but what it tells. -/
import Derived.Test.YtpinehfjimphmaaDIReg
namespace Go.Proofs.Ytpinehfjimphmaa.DI
open Go Go.RowKit
set_option linter.unusedVariables false
set_option linter.unusedSimpArgs false
section
variable {ob ob' : Ob}
theorem ofAV_congr {t : Ty} {x : AV} (h : ∀ i ∈ x.ids, ob' i = ob i) : ofAV ob' t x = ofAV ob t x := by
  cases x with
  | whole r => cases t <;> simp only [ofAV]; rw [h r (by simp [AV.ids])]
  | cut r a b => cases t <;> simp only [ofAV]; rw [h r (by simp [AV.ids])]
  | _ => cases t <;> rfl
theorem mem_idsOf_cons {x : AV} {r : List AV} {i : Nat} : i ∈ idsOf (x :: r) ↔ i ∈ x.ids ∨ i ∈ idsOf r := by simp [idsOf]
theorem ofAVs_congr : ∀ {t : Ty} {l : List AV}, (∀ i ∈ idsOf l, ob' i = ob i) → ofAVs ob' t l = ofAVs ob t l
  | .two a b, x :: r, h => by
    simp only [ofAVs]
    rw [ofAV_congr (fun i hi => h i (mem_idsOf_cons.2 (.inl hi))), ofAVs_congr (fun i hi => h i (mem_idsOf_cons.2 (.inr hi)))]
  | .two _ _, [], _ => rfl
  | .unit, [], _ => rfl
  | .unit, _ :: _, _ => rfl
  | .int k, [x], h => ofAV_congr (t := .int k) (fun i hi => h i (mem_idsOf_cons.2 (.inl hi)))
  | .bool, [x], h => ofAV_congr (t := .bool) (fun i hi => h i (mem_idsOf_cons.2 (.inl hi)))
  | .str, [x], h => ofAV_congr (t := .str) (fun i hi => h i (mem_idsOf_cons.2 (.inl hi)))
  | .sl e t, [x], h => ofAV_congr (t := .sl e t) (fun i hi => h i (mem_idsOf_cons.2 (.inl hi)))
  | .int _, [], _ => rfl
  | .bool, [], _ => rfl
  | .str, [], _ => rfl
  | .sl _ _, [], _ => rfl
  | .int _, _ :: _ :: _, _ => rfl
  | .bool, _ :: _ :: _, _ => rfl
  | .str, _ :: _ :: _, _ => rfl
  | .sl _ _, _ :: _ :: _, _ => rfl
theorem put_congr : ∀ {t : Ty} {x : t.den} {j : Nat} {l : List AV}, (∀ i ∈ idsOf l, ob' i = ob i) → Ty.put ob' t x j l = Ty.put ob t x j l
  | .two a b, x, 0, v :: r, h => by
    simp only [Ty.put]
    rw [ofAV_congr (fun i hi => h i (mem_idsOf_cons.2 (.inl hi)))]
    cases r with
    | nil => rfl
    | cons v' r' => simp only; rw [put_congr (fun i hi => h i (mem_idsOf_cons.2 (.inr hi)))]
  | .two a b, x, j + 1, l, h => by simp only [Ty.put]; rw [put_congr h]
  | .two _ _, _, 0, [], _ => rfl
  | .unit, _, _, _, _ => by simp only [Ty.put]
  | .int k, x, 0, [v], h => ofAV_congr (t := .int k) (fun i hi => h i (mem_idsOf_cons.2 (.inl hi)))
  | .bool, x, 0, [v], h => ofAV_congr (t := .bool) (fun i hi => h i (mem_idsOf_cons.2 (.inl hi)))
  | .str, x, 0, [v], h => ofAV_congr (t := .str) (fun i hi => h i (mem_idsOf_cons.2 (.inl hi)))
  | .sl e t, x, 0, [v], h => ofAV_congr (t := .sl e t) (fun i hi => h i (mem_idsOf_cons.2 (.inl hi)))
  | .int _, _, 0, [], _ => rfl
  | .bool, _, 0, [], _ => rfl
  | .str, _, 0, [], _ => rfl
  | .sl _ _, _, 0, [], _ => rfl
  | .int _, _, 0, _ :: _ :: _, _ => rfl
  | .bool, _, 0, _ :: _ :: _, _ => rfl
  | .str, _, 0, _ :: _ :: _, _ => rfl
  | .sl _ _, _, 0, _ :: _ :: _, _ => rfl
  | .int _, _, _ + 1, _, _ => by simp only [Ty.put]
  | .bool, _, _ + 1, _, _ => by simp only [Ty.put]
  | .str, _, _ + 1, _, _ => by simp only [Ty.put]
  | .sl _ _, _, _ + 1, _, _ => by simp only [Ty.put]
theorem filterMap_congr {α β : Type} {f g : α → Option β} : ∀ {l : List α}, (∀ x ∈ l, f x = g x) → l.filterMap f = l.filterMap g
  | [], _ => rfl
  | x :: r, h => by rw [List.filterMap_cons, List.filterMap_cons, h x (by simp), filterMap_congr (l := r) fun y hy => h y (by simp [hy])]
theorem freeze_congr {l : List AV} (h : ∀ i ∈ idsOf l, ob' i = ob i) : freeze ob' l = freeze ob l := by
  unfold freeze
  exact filterMap_congr fun i hi => by rw [h i hi]
theorem freezeD_congr {l : List AV} (h : ∀ i ∈ idsOf l, ob' i = ob i) : freezeD ob' l = freezeD ob l := by
  unfold freezeD
  exact filterMap_congr fun i hi => by rw [h i hi]
theorem dv_congr {i : Nat} (h : ob' i = ob i) : dv ob' i = dv ob i := by unfold dv; rw [h]
theorem freshB_congr : ∀ {l : List Nat}, (∀ i ∈ l, ob' i = ob i) → freshB ob' l = freshB ob l
  | [], _ => rfl
  | i :: r, h => by simp only [freshB]; rw [h i (by simp), freshB_congr (l := r) fun j hj => h j (by simp [hj])]
theorem all_own_congr : ∀ {l : List AV}, (∀ i ∈ idsOf l, ob' i = ob i) → l.all (ownAV ob') = l.all (ownAV ob)
  | [], _ => rfl
  | x :: r, h => by
    have hx : ownAV ob' x = ownAV ob x := by
      cases x with
      | whole i => simp only [ownAV, okOwn]; rw [h i (mem_idsOf_cons.2 (.inl (by simp [AV.ids])))]
      | _ => rfl
    simp only [List.all_cons, hx, all_own_congr (l := r) (fun i hi => h i (mem_idsOf_cons.2 (.inr hi)))]
theorem flat_congr : ∀ {ps : List PK} {args : List DV}, (∀ i ∈ boxIds ps args, ob' i = ob i) → (∀ i ∈ gvIds ob ps args, ob' i = ob i) → flat ob' ps args = flat ob ps args ∧ flatR ob' ps args = flatR ob ps args ∧ gvIds ob' ps args = gvIds ob ps args := by
  intro ps
  induction ps with
  | nil => intro args _ _; cases args <;> exact ⟨rfl, rfl, rfl⟩
  | cons p ps ih =>
    intro args h k
    cases args with
    | nil => cases p <;> exact ⟨rfl, rfl, rfl⟩
    | cons d r =>
      cases p with
      | one =>
        obtain ⟨k1, k2, k3⟩ := @ih r (fun i hi => h i (by cases d <;> simpa [boxIds] using hi)) (fun i hi => k i (by cases d <;> simpa [gvIds] using hi))
        cases d <;> simp [flat, flatR, gvIds, k1, k2, k3]
      | agg n =>
        obtain ⟨k1, k2, k3⟩ := @ih r (fun i hi => h i (by cases d <;> simpa [boxIds] using hi)) (fun i hi => k i (by cases d <;> simpa [gvIds] using hi))
        cases d <;> simp [flat, flatR, gvIds, k1, k2, k3]
      | row =>
        cases d with
        | «at» x =>
          cases x with
          | whole b =>
            have hb := h b (by simp [boxIds])
            obtain ⟨k1, k2, k3⟩ := @ih r (fun i hi => h i (by simp [boxIds, hi])) (fun i hi => k i (by simpa [gvIds] using hi))
            simp [flat, flatR, gvIds, okOwn, hb, k1, k2, k3]
          | _ =>
            obtain ⟨k1, k2, k3⟩ := @ih r (fun i hi => h i (by simpa [boxIds] using hi)) (fun i hi => k i (by simpa [gvIds] using hi))
            simp [flat, flatR, gvIds, k1, k2, k3]
        | _ =>
          obtain ⟨k1, k2, k3⟩ := @ih r (fun i hi => h i (by simpa [boxIds] using hi)) (fun i hi => k i (by simpa [gvIds] using hi))
          simp [flat, flatR, gvIds, k1, k2, k3]
      | give =>
        cases d with
        | «at» x =>
          cases x with
          | whole b =>
            have hb := k b (by simp [gvIds])
            obtain ⟨k1, k2, k3⟩ := @ih r (fun i hi => h i (by simpa [boxIds] using hi)) (fun i hi => k i (by simp [gvIds, hi]))
            simp [flat, flatR, gvIds, okOwn, hb, k1, k2, k3]
          | _ =>
            obtain ⟨k1, k2, k3⟩ := @ih r (fun i hi => h i (by simpa [boxIds] using hi)) (fun i hi => k i (by simpa [gvIds] using hi))
            simp [flat, flatR, gvIds, k1, k2, k3]
        | _ =>
          obtain ⟨k1, k2, k3⟩ := @ih r (fun i hi => h i (by simpa [boxIds] using hi)) (fun i hi => k i (by simpa [gvIds] using hi))
          simp [flat, flatR, gvIds, k1, k2, k3]
      | box t n =>
        cases d with
        | «at» x =>
          cases x with
          | bptr b off =>
            have hb := h b (by simp [boxIds])
            obtain ⟨k1, k2, k3⟩ := @ih r (fun i hi => h i (by simp [boxIds, hi])) (fun i hi => k i (by simpa [gvIds] using hi))
            cases off <;> simp [flat, flatR, gvIds, hb, k1, k2, k3]
          | _ =>
            obtain ⟨k1, k2, k3⟩ := @ih r (fun i hi => h i (by simpa [boxIds] using hi)) (fun i hi => k i (by simpa [gvIds] using hi))
            simp [flat, flatR, gvIds, k1, k2, k3]
        | _ =>
          obtain ⟨k1, k2, k3⟩ := @ih r (fun i hi => h i (by simpa [boxIds] using hi)) (fun i hi => k i (by simpa [gvIds] using hi))
          simp [flat, flatR, gvIds, k1, k2, k3]
      | aggw n sl =>
        cases d with
        | agg l =>
          have hl : l.all (ownAV ob') = l.all (ownAV ob) := all_own_congr fun i hi => h i (by simp [boxIds, hi])
          obtain ⟨k1, k2, k3⟩ := @ih r (fun i hi => h i (by simp [boxIds, hi])) (fun i hi => k i (by simpa [gvIds] using hi))
          simp [flat, flatR, gvIds, hl, k1, k2, k3]
        | _ =>
          obtain ⟨k1, k2, k3⟩ := @ih r (fun i hi => h i (by simpa [boxIds] using hi)) (fun i hi => k i (by simpa [gvIds] using hi))
          simp [flat, flatR, gvIds, k1, k2, k3]
      | boxg t n =>
        cases d with
        | «at» x =>
          cases x with
          | bptr b off =>
            have hb := h b (by simp [boxIds])
            obtain ⟨k1, k2, k3⟩ := @ih r (fun i hi => h i (by simp [boxIds, hi])) (fun i hi => k i (by simp only [gvIds, List.mem_append]; exact .inr hi))
            have hl : ∀ t' c, ob b = some (.box t' c) → c.all (ownAV ob') = c.all (ownAV ob) := fun t' c hc => all_own_congr fun i hi => k i (by simp only [gvIds, hc, List.mem_append]; exact .inl hi)
            refine ⟨?_, ?_, ?_⟩
            · cases off with
              | succ _ => rfl
              | zero =>
                simp only [flat, hb]
                split
                · rename_i t' c hc
                  rw [hl t' c hc, k1]
                · rfl
            · simp only [flatR]; exact k2
            · simp only [gvIds, hb, k3]
          | _ =>
            obtain ⟨k1, k2, k3⟩ := @ih r (fun i hi => h i (by simpa [boxIds] using hi)) (fun i hi => k i (by simpa [gvIds] using hi))
            simp [flat, flatR, gvIds, k1, k2, k3]
        | _ =>
          obtain ⟨k1, k2, k3⟩ := @ih r (fun i hi => h i (by simpa [boxIds] using hi)) (fun i hi => k i (by simpa [gvIds] using hi))
          simp [flat, flatR, gvIds, k1, k2, k3]
      | fnp g t n =>
        cases d with
        | «at» x =>
          cases x with
          | fn f c =>
            cases c with
            | nil =>
              obtain ⟨k1, k2, k3⟩ := @ih r (fun i hi => h i (by simpa [boxIds] using hi)) (fun i hi => k i (by simpa [gvIds] using hi))
              simp [flat, flatR, gvIds, k1, k2, k3]
            | cons q c =>
              cases c with
              | cons _ _ =>
                obtain ⟨k1, k2, k3⟩ := @ih r (fun i hi => h i (by simpa [boxIds] using hi)) (fun i hi => k i (by simpa [gvIds] using hi))
                simp [flat, flatR, gvIds, k1, k2, k3]
              | nil =>
                obtain ⟨b, off⟩ := q
                have hb := h b (by simp [boxIds])
                obtain ⟨k1, k2, k3⟩ := @ih r (fun i hi => h i (by simp [boxIds, hi])) (fun i hi => k i (by simpa [gvIds] using hi))
                cases off <;> simp [flat, flatR, gvIds, hb, k1, k2, k3]
          | _ =>
            obtain ⟨k1, k2, k3⟩ := @ih r (fun i hi => h i (by simpa [boxIds] using hi)) (fun i hi => k i (by simpa [gvIds] using hi))
            simp [flat, flatR, gvIds, k1, k2, k3]
        | _ =>
          obtain ⟨k1, k2, k3⟩ := @ih r (fun i hi => h i (by simpa [boxIds] using hi)) (fun i hi => k i (by simpa [gvIds] using hi))
          simp [flat, flatR, gvIds, k1, k2, k3]
end
theorem mapO_congr {α β : Type} {f g : α → Option β} : ∀ {l : List α}, (∀ x ∈ l, f x = g x) → mapO f l = mapO g l
  | [], _ => rfl
  | x :: r, h => by simp only [mapO]; rw [h x (by simp), mapO_congr (l := r) fun y hy => h y (by simp [hy])]
theorem buildP_congr {cx : Cx} {fs : List (Nat × Nat)} {s s' : DS} : ∀ {ps : List (Nat × Operand)} {z : List AV}, (∀ p ∈ ps, ev s' p.2 = ev s p.2) → buildP cx fs s' z ps = buildP cx fs s z ps
  | [], _, _ => rfl
  | (i, x) :: r, z, h => by
    simp only [buildP]
    rw [h (i, x) (by simp)]
    congr 1; funext p; congr 1; funext ti; congr 1; funext c
    split
    · congr 1; funext z'; exact buildP_congr fun q hq => h q (by simp [hq])
    · rfl
theorem takeOk_congr {ob ob' : Ob} {r : Nat} {va : AV} (h : ∀ i ∈ va.ids, ob' i = ob i) : takeOk ob' r va = takeOk ob r va := by
  cases va <;> first | rfl | (simp only [takeOk]; rw [h _ (by simp [AV.ids])])
theorem takeBack_congr {ob ob' : Ob} {r e : Nat} {t : Ty} {l : List t.den} {h0 : Option (Nat × Nat × Nat)} (hr : ob r = some (.deep e t l h0)) (h : ∀ i ∈ r :: hId h0, ob' i = ob i) : takeBack ob' r = takeBack ob r := by
  unfold takeBack
  rw [h r (by simp), hr]
  cases h0 with
  | none => rfl
  | some p =>
    obtain ⟨i, off, q⟩ := p
    simp only
    refine congrArg _ (funext fun y => ?_)
    have hq : ob' q = ob q := h q (by simp [hId])
    have hp : Ty.put ob' t y off [.whole q] = Ty.put ob t y off [.whole q] := put_congr fun j hj => by
      have : j = q := by simpa [idsOf, AV.ids] using hj
      rw [this]; exact hq
    rw [hp, hq]
theorem updL_at {ob ob' : Ob} {j : Nat} (h : ob' j = ob j) : ∀ {w : List (Nat × Obj)}, updL ob' w j = updL ob w j := by
  intro w
  induction w generalizing ob ob' with
  | nil => exact h
  | cons p r ih =>
    simp only [updL]
    refine ih ?_
    unfold upd
    rw [h]
theorem storeD_tc {ob : Ob} {w : List (Nat × Obj)} {r e : Nat} {t : Ty} {l : List t.den} {h : List Nat} {i off : Nat} {c : List AV} {d : Dl} (hd : storeD ob w r e t l h i off c some = some d) : d.tc = r :: (idsOf c ++ h) := by
  unfold storeD at hd
  split at hd
  · rename_i va
    obtain ⟨y, _, hd⟩ := Option.bind_eq_some_iff.1 hd
    obtain ⟨z, _, hd⟩ := Option.bind_eq_some_iff.1 hd
    obtain ⟨_, hd⟩ := bif_some hd
    cases hd
    simp [idsOf]
  · cases hd
theorem storeD_congr {ob ob' : Ob} {w : List (Nat × Obj)} {r e : Nat} {t : Ty} {l : List t.den} {h : List Nat} {i off : Nat} {c : List AV} {K : Dl → Option Dl} (hc : ∀ j ∈ idsOf c, ob' j = ob j) : storeD ob' w r e t l h i off c K = storeD ob w r e t l h i off c K := by
  unfold storeD
  split
  · rename_i va
    rw [takeOk_congr (fun j hj => hc j (mem_idsOf_cons.2 (.inl hj)))]
    refine congrArg _ (funext fun y => ?_)
    rw [put_congr hc]
  · rfl
theorem all_take_congr {ob ob' : Ob} {r : Nat} : ∀ {l : List AV}, (∀ i ∈ idsOf l, ob' i = ob i) → l.all (takeOk ob' r) = l.all (takeOk ob r)
  | [], _ => rfl
  | x :: q, h => by
    simp only [List.all_cons, takeOk_congr (fun i hi => h i (mem_idsOf_cons.2 (.inl hi))), all_take_congr (l := q) (fun i hi => h i (mem_idsOf_cons.2 (.inr hi)))]
theorem fresh1_congr {R : Type} {s s' : DS} {id : Nat} {x : Option R} (h : s'.ob id = s.ob id) : fresh1 s' id x = fresh1 s id x := by unfold fresh1; rw [h]

theorem callK_local {s s' : DS} {id k : Nat} {c : Ctr} {args : List DV} {d : Dl} (h : callK s id k c args some = some d) (hO : ∀ i ∈ d.tc, s'.ob i = s.ob i) : callK s' id k c args some = some d := by
  have h0 := h
  unfold callK at h
  obtain ⟨avs, h1, h⟩ := Option.bind_eq_some_iff.1 h
  obtain ⟨x, h2, h⟩ := Option.bind_eq_some_iff.1 h
  obtain ⟨h3, h⟩ := bif_some h
  obtain ⟨r, h4, h⟩ := Option.bind_eq_some_iff.1 h
  obtain ⟨o, h5, h⟩ := Option.bind_eq_some_iff.1 h
  obtain ⟨q, h6, h⟩ := Option.bind_eq_some_iff.1 h
  obtain ⟨h7, h⟩ := bif_some h
  cases h
  simp only [List.mem_append] at hO
  have e1 : ∀ i ∈ boxIds c.ps args, s'.ob i = s.ob i := fun i hi => hO i (.inr (.inr (.inl hi)))
  have e0 : ∀ i ∈ gvIds s.ob c.ps args, s'.ob i = s.ob i := fun i hi => hO i (.inr (.inr (.inr (.inl hi))))
  obtain ⟨e3, e2, e4⟩ := flat_congr e1 e0
  unfold callK
  rw [e3, h1, Option.bind_some, ofAVs_congr (fun i hi => dv_congr (hO i (.inl hi))), h2, Option.bind_some, e2, e4, h3]
  simp only [cond_true, h4, h5, h6, Option.bind_some]
  rw [freshB_congr (fun i hi => hO i (.inr (.inr (.inr (.inr hi))))), h7, freezeD_congr (fun i hi => hO i (.inr (.inl hi)))]
  rfl
set_option maxHeartbeats 2000000 in
theorem opK_local {cx : Cx} {k id : Nat} {o : Op} {s s' : DS} {d : Dl} (h : opK cx k id o s some = some d) (hE : ∀ x ∈ o.operands, ev s' x = ev s x) (hO : ∀ i ∈ d.tc, s'.ob i = s.ob i) : opK cx k id o s' some = some d := by
  have h0 := h
  cases o with
  | move x => simp only [opK, takeBackK_eq] at h ⊢; rw [hE x (by simp [Op.operands])]; exact h
  | «assign» x => simp only [opK, takeBackK_eq] at h ⊢; rw [hE x (by simp [Op.operands])]; exact h
  | pick c x y => simp only [opK, takeBackK_eq] at h ⊢; rw [hE c (by simp [Op.operands]), hE x (by simp [Op.operands]), hE y (by simp [Op.operands])]; exact h
  | alloc t =>
    simp only [opK, takeBackK_eq] at h ⊢
    obtain ⟨ti, h1, h⟩ := Option.bind_eq_some_iff.1 h
    rw [h1, Option.bind_some]
    cases hA : ti.arr with
    | some ik =>
      rw [hA] at h
      obtain ⟨h2, h⟩ := fresh1_some h
      cases h
      simp only [fresh1_congr (hO id (by simp))]
      simp [fresh1, h2]
    | none =>
      rw [hA] at h
      obtain ⟨h2, h⟩ := fresh1_some h
      cases h
      simp only [fresh1_congr (hO id (by simp))]
      simp [fresh1, h2]
  | box t x =>
    simp only [opK, takeBackK_eq] at h ⊢
    rw [hE x (by simp [Op.operands])]
    obtain ⟨ti, h1, h⟩ := Option.bind_eq_some_iff.1 h
    obtain ⟨c, h2, h⟩ := Option.bind_eq_some_iff.1 h
    obtain ⟨h3, h⟩ := ite_some h
    obtain ⟨h4, h⟩ := fresh1_some h
    cases h
    rw [h1, Option.bind_some, h2, Option.bind_some, if_pos h3, fresh1_congr (hO id (by simp))]
    simp [fresh1, h4]
  | load t x =>
    simp only [opK, takeBackK_eq] at h h0 ⊢
    rw [hE x (by simp [Op.operands])]
    obtain ⟨ti, h1, h⟩ := Option.bind_eq_some_iff.1 h
    rw [h1, Option.bind_some] at h0 ⊢
    split at h
    · rename_i b off hx
      rw [hx] at h0
      simp only [hx] at h0 ⊢
      have : s'.ob b = s.ob b := hO b (by
        split at h
        · obtain ⟨hl, h⟩ := ite_some h
          cases hg : ti.agg <;> rw [hg] at h <;> simp only [cond_true, cond_false] at h
          · split at h
            · cases h; simp
            · cases h
          · cases h; simp
        · cases h)
      rw [this]; exact h0
    · rename_i r i off hx
      simp only [hx] at h0 ⊢
      split at h
      · rename_i e rt own l hr
        obtain ⟨y, hy, h⟩ := Option.bind_eq_some_iff.1 h
        obtain ⟨hl, h⟩ := ite_some h
        obtain ⟨hf, h⟩ := bif_some h
        have hd : d.tc = r :: outIds (toAVs id (subL (Ty.cells rt y) off ti.sz)).2 := by
          cases hg : ti.agg <;> rw [hg] at h <;> simp only [cond_true, cond_false] at h
          · split at h
            · cases h; rfl
            · cases h
          · cases h; rfl
        rw [hd] at hO
        have hb : freshB s'.ob (outIds (toAVs id (subL (Ty.cells rt y) off ti.sz)).2) = freshB s.ob (outIds (toAVs id (subL (Ty.cells rt y) off ti.sz)).2) := freshB_congr fun j hj => hO j (by simp [hj])
        simp only [hO r (by simp), hr, hy, Option.bind_some] at h0 ⊢
        rw [hb]
        exact h0
      · rename_i e0 rt0 l0 h00 hr
        split at h
        · rename_i e1 hk
          obtain ⟨hsz, h⟩ := ite_some h
          obtain ⟨wb, h2, h⟩ := Option.bind_eq_some_iff.1 h
          split at h
          · rename_i e rt l hu
            obtain ⟨y, h3, h⟩ := Option.bind_eq_some_iff.1 h
            split at h
            · rename_i e' t' q hc
              obtain ⟨z, h4, h⟩ := Option.bind_eq_some_iff.1 h
              obtain ⟨h5, h⟩ := bif_some h
              obtain ⟨h6, h⟩ := fresh1_some h
              cases h
              have hr' : s'.ob r = s.ob r := hO r (by simp)
              have ht : takeBack s'.ob r = takeBack s.ob r := takeBack_congr hr (fun i hi => hO i (by
                rcases List.mem_cons.1 hi with hi | hi
                · simp [hi]
                · simp [hi]))
              have hu' : updL s'.ob wb r = updL s.ob wb r := updL_at hr'
              have hp : Ty.put s'.ob rt y off [.nils] = Ty.put s.ob rt y off [.nils] := put_congr (fun i hi => by simp [idsOf, AV.ids] at hi)
              simp only [hr', hr, hk, if_pos hsz, ht, h2, Option.bind_some, hu', hu, h3, hc, hp, h4, h5, cond_true]
              rw [fresh1_congr (hO id (by simp))]
              simp [fresh1, h6]
            · cases h
          · cases h
        · cases h
      · cases h
    · cases h
  | store t x y =>
    simp only [opK, takeBackK_eq] at h h0 ⊢
    rw [hE x (by simp [Op.operands]), hE y (by simp [Op.operands])]
    obtain ⟨ti, h1, h⟩ := Option.bind_eq_some_iff.1 h
    obtain ⟨c, h2, h⟩ := Option.bind_eq_some_iff.1 h
    obtain ⟨⟨h3, h4⟩, h⟩ := ite_some h
    rw [h1, Option.bind_some, h2, Option.bind_some, if_pos ⟨h3, h4⟩]
    cases hA : ti.arr with
    | some ik =>
      rw [hA] at h
      simp only at h ⊢
      split at h
      · rename_i r hx
        split at h
        · rename_i e ik' l hr
          obtain ⟨h5, h⟩ := ite_some h
          obtain ⟨q, h6, h⟩ := Option.bind_eq_some_iff.1 h
          cases h
          rw [hO r (by simp), hr]
          simp only [if_pos h5, h6, Option.bind_some]
        · cases h
      · cases h
    | none =>
      rw [hA] at h
      simp only at h ⊢
      split at h
      · rename_i b off hx
        split at h
        · rename_i bt bc hb
          obtain ⟨hle, h⟩ := ite_some h
          cases h
          rw [hO b (by simp), hb]
          simp only [if_pos hle]
        · cases h
      · rename_i r i off hx
        split at h
        · rename_i e rt l hr
          obtain ⟨y0, h5, h⟩ := Option.bind_eq_some_iff.1 h
          obtain ⟨z, h6, h⟩ := Option.bind_eq_some_iff.1 h
          cases hn : (idsOf c).any (Nat.beq r) <;> rw [hn] at h <;> simp only [cond_true, cond_false] at h
          · cases h
            rw [hO r (by simp), hr]
            simp only [h5, Option.bind_some]
            rw [put_congr (fun i hi => hO i (by simp [hi])), h6, Option.bind_some]
            simp only [hn, cond_false]
            rw [freeze_congr (fun i hi => hO i (by simp [hi]))]
          · cases h
        · rename_i e rt l hr
          have hd := storeD_tc h
          rw [hd] at hO
          rw [hO r (by simp), hr]
          simp only
          rw [storeD_congr (fun j hj => hO j (by simp [hj]))]
          exact h
        · rename_i e rt l i0 off0 q0 hr
          cases hn : (Nat.beq off off0 && Nat.beq i i0) <;> rw [hn] at h <;> simp only [cond_true, cond_false] at h
          · obtain ⟨wb, h5, h⟩ := Option.bind_eq_some_iff.1 h
            split at h
            · rename_i e' rt' l' hu
              have hd := storeD_tc h
              rw [hd] at hO
              have hr' : s'.ob r = s.ob r := hO r (by simp)
              have ht : takeBack s'.ob r = takeBack s.ob r := takeBack_congr hr (fun i hi => hO i (by
                rcases List.mem_cons.1 hi with hi | hi
                · simp [hi]
                · have : i = q0 := by simpa [hId] using hi
                  simp [this]))
              rw [hr', hr]
              simp only [hn, cond_false, ht, h5, Option.bind_some, updL_at hr', hu]
              rw [storeD_congr (fun j hj => updL_at (hO j (by simp [hj])))]
              exact h
            · cases h
          · have hd := storeD_tc h
            rw [hd] at hO
            rw [hO r (by simp), hr]
            simp only [hn, cond_true]
            rw [storeD_congr (fun j hj => hO j (by simp [hj]))]
            exact h
        · cases h
      · cases h
  | nilCheck x =>
    simp only [opK, takeBackK_eq] at h ⊢
    rw [hE x (by simp [Op.operands])]
    split at h
    · rename_i b f hx
      obtain ⟨hb, h⟩ := bif_some h
      cases h
      unfold isBox at hb ⊢
      rw [hO b (by simp), hb]; rfl
    · rename_i r i f hx
      obtain ⟨hb, h⟩ := bif_some h
      cases h
      unfold isRow at hb ⊢
      rw [hO r (by simp), hb]; rfl
    · cases h
  | binOp op t x y yt => simp only [opK, takeBackK_eq] at h ⊢; rw [hE x (by simp [Op.operands]), hE y (by simp [Op.operands])]; exact h
  | unOp op t x => cases op <;> simp only [opK, takeBackK_eq] at h ⊢ <;> first | (cases h; done) | (rw [hE x (by simp [Op.operands])]; exact h)
  | convert t0 t x =>
    simp only [opK, takeBackK_eq] at h ⊢
    rw [hE x (by simp [Op.operands])]
    obtain ⟨ti0, h0, hb0⟩ := Option.bind_eq_some_iff.1 h
    obtain ⟨ti, h1, hb1⟩ := Option.bind_eq_some_iff.1 hb0
    rw [h0, Option.bind_some, h1, Option.bind_some]
    clear h hb0
    revert hb1
    intro h
    split at h
    · exact h
    · exact h
    · rename_i y _ hk hx
      obtain ⟨e, h2, hb2⟩ := Option.bind_eq_some_iff.1 h
      obtain ⟨q, h3, hb3⟩ := Option.bind_eq_some_iff.1 hb2
      cases hb3
      have hy : ∀ i ∈ y.ids, s'.ob i = s.ob i := fun i hi => hO i (by
        unfold rowOf at h3
        obtain ⟨l, _, h5⟩ := Option.bind_eq_some_iff.1 h3
        cases h5
        exact hi)
      have hrow : rowOf s' e (.int .u8) y = some q := by rw [← h3]; unfold rowOf; simp only; rw [ofAV_congr (t := .sl e (.int .u8)) hy]
      rw [h2, Option.bind_some, hrow]
      rfl
    · rename_i e b hk hx
      obtain ⟨e', h2, hb2⟩ := Option.bind_eq_some_iff.1 h
      rw [h2, Option.bind_some]
      obtain ⟨e1, hb3⟩ := ite_some hb2
      obtain ⟨e2, hb4⟩ := bif_some hb3
      obtain ⟨e3, hb5⟩ := fresh1_some hb4
      cases hb5
      rw [if_pos e1, e2, cond_true]
      unfold fresh1
      rw [hO id (by simp), e3]
    · cases h
  | fieldAddr t x f =>
    simp only [opK, takeBackK_eq] at h ⊢
    rw [hE x (by simp [Op.operands])]
    obtain ⟨ti, h1, h⟩ := Option.bind_eq_some_iff.1 h
    rw [h1, Option.bind_some]
    split at h
    · rename_i fs b off hk hx
      obtain ⟨p, h2, h⟩ := Option.bind_eq_some_iff.1 h
      obtain ⟨hb, h⟩ := bif_some h
      cases h
      unfold isBox at hb ⊢
      rw [h2, Option.bind_some, hO b (by simp), hb]; rfl
    · rename_i fs r i off hk hx
      obtain ⟨p, h2, h⟩ := Option.bind_eq_some_iff.1 h
      obtain ⟨hb, h⟩ := bif_some h
      cases h
      unfold isRow at hb ⊢
      rw [h2, Option.bind_some, hO r (by simp), hb]; rfl
    · cases h
  | field t x f => simp only [opK, takeBackK_eq] at h ⊢; rw [hE x (by simp [Op.operands])]; exact h
  | extract x i => simp only [opK, takeBackK_eq] at h ⊢; rw [hE x (by simp [Op.operands])]; exact h
  | build t ps =>
    simp only [opK, takeBackK_eq] at h ⊢
    obtain ⟨ti, h1, h⟩ := Option.bind_eq_some_iff.1 h
    rw [h1, Option.bind_some]
    split at h
    · rw [buildP_congr (fun p hp => hE p.2 (by simp only [Op.operands, List.mem_toArray, List.mem_map]; exact ⟨p, hp, rfl⟩))]; exact h
    · rw [buildP_congr (fun p hp => hE p.2 (by simp only [Op.operands, List.mem_toArray, List.mem_map]; exact ⟨p, hp, rfl⟩))]; exact h
    · cases h
  | buildSlice t n ps =>
    simp only [opK, takeBackK_eq] at h ⊢
    obtain ⟨ti, h1, h⟩ := Option.bind_eq_some_iff.1 h
    rw [h1, Option.bind_some]
    split at h
    · rename_i e hk
      obtain ⟨te, h2, h⟩ := Option.bind_eq_some_iff.1 h
      obtain ⟨h3, h⟩ := ite_some h
      obtain ⟨cs, h5, h⟩ := Option.bind_eq_some_iff.1 h
      obtain ⟨l, h6, h⟩ := Option.bind_eq_some_iff.1 h
      have e1 : mapO (fun p : Nat × Operand => (ev s' p.2).cells) ps.toList = some cs := by
        rw [← h5]
        exact mapO_congr fun p hp => by rw [hE p.2 (by simp only [Op.operands, List.mem_toArray, List.mem_map]; exact ⟨p, hp, rfl⟩)]
      have hd : d.tc = id :: idsOf cs.flatten := by
        cases hpl : (te.ty.plain || !(cs.flatten.all (takeOk s.ob id) && disj (idsOf cs.flatten))) <;> rw [hpl] at h <;> simp only [cond_true, cond_false] at h
        · obtain ⟨_, h⟩ := fresh1_some h
          cases h; rfl
        · obtain ⟨_, h⟩ := fresh1_some h
          cases h; rfl
      rw [hd] at hO
      have e2 : mapO (fun c : List AV => if c.length = te.sz then ofAVs s'.ob te.ty c else none) cs = some l := by
        rw [← h6]
        refine mapO_congr fun c hc => ?_
        rw [ofAVs_congr (fun i hi => hO i (by
          simp only [List.mem_cons, idsOf, List.mem_flatMap, List.mem_flatten] at hi ⊢
          obtain ⟨a, ha, hia⟩ := hi
          exact .inr ⟨a, ⟨c, hc, ha⟩, hia⟩))]
      rw [h2, Option.bind_some, if_pos h3, e1, Option.bind_some, e2, Option.bind_some, fresh1_congr (hO id (by simp)), fresh1_congr (hO id (by simp)), freeze_congr (fun i hi => hO i (by simp [hi])), all_take_congr (fun i hi => hO i (by simp [hi]))]
      exact h
    · cases h
  | makeSlice t n c =>
    simp only [opK, takeBackK_eq] at h ⊢
    rw [hE n (by simp [Op.operands])]
    obtain ⟨ti, h1, h⟩ := Option.bind_eq_some_iff.1 h
    rw [h1, Option.bind_some]
    split at h
    · rename_i e k m hk hn
      obtain ⟨h2, h⟩ := ite_some h
      obtain ⟨te, h3, h⟩ := Option.bind_eq_some_iff.1 h
      obtain ⟨zd, h4, h⟩ := Option.bind_eq_some_iff.1 h
      obtain ⟨h5, h⟩ := bif_some h
      obtain ⟨h6, h⟩ := fresh1_some h
      cases h
      have hz : ofAVs s'.ob te.ty te.z = some zd := by rw [← h4]; exact ofAVs_congr fun i hi => hO i (by simp [hi])
      rw [if_pos h2, h3, Option.bind_some, hz, Option.bind_some, h5, cond_true, fresh1_congr (hO id (by simp))]
      simp [fresh1, h6]
    · cases h
  | indexAddr t x i =>
    simp only [opK, takeBackK_eq] at h ⊢
    rw [hE x (by simp [Op.operands]), hE i (by simp [Op.operands])]
    cases hA : (cx.tt t).bind TI.lenA with
    | some m =>
      rw [hA] at h
      simp only at h ⊢
      split at h
      · rename_i r k n hx hi
        split at h
        · rename_i e rt own l hr
          obtain ⟨h2, h⟩ := ite_some h
          obtain ⟨h3, h⟩ := bif_some h
          cases h
          rw [hO r (by simp), hr]
          simp only [if_pos h2, h3, cond_true]
        · cases h
      · cases h
    | none =>
      rw [hA] at h
      simp only at h ⊢
      obtain ⟨z, h1, h⟩ := Option.bind_eq_some_iff.1 h
      rw [h1, Option.bind_some]
      split at h
      · rename_i r k n hx hi
        split at h
        · rename_i e rt own l hr
          obtain ⟨h2, h⟩ := ite_some h
          obtain ⟨h3, h⟩ := bif_some h
          cases h
          rw [hO r (by simp), hr]
          simp only [if_pos h2, h3, cond_true]
        · rename_i e rt l hh hr
          obtain ⟨h2, h⟩ := ite_some h
          obtain ⟨h3, h⟩ := bif_some h
          cases h
          rw [hO r (by simp), hr]
          simp only [if_pos h2, h3, cond_true]
        · cases h
      · rename_i r off m k n hx hi
        split at h
        · rename_i e rt own l hr
          obtain ⟨h2, h⟩ := ite_some h
          obtain ⟨h3, h⟩ := bif_some h
          cases h
          rw [hO r (by simp), hr]
          simp only [if_pos h2, h3, cond_true]
        · cases h
      · cases h
  | index t x i => simp only [opK, takeBackK_eq] at h ⊢; rw [hE x (by simp [Op.operands]), hE i (by simp [Op.operands])]; exact h
  | slice t x lo hi mx =>
    cases mx with
    | some _ => simp [opK] at h
    | none =>
      have hx := hE x (by simp [Op.operands])
      have hlo : ∀ l, lo = some l → ev s' l = ev s l := fun l hl => hE l (by subst hl; simp [Op.operands])
      have hhi : ∀ l, hi = some l → ev s' l = ev s l := fun l hl => hE l (by subst hl; simp [Op.operands])
      simp only [opK, takeBackK_eq] at h h0 ⊢
      rw [hx]
      split at h
      · rename_i b hb
        simp only [hb] at h0 ⊢
        cases lo with
        | none => cases hi with
          | none => exact h0
          | some o => simp only [hhi o rfl]; exact h0
        | some o => cases hi with
          | none => simp only [hlo o rfl]; exact h0
          | some o' => simp only [hlo o rfl, hhi o' rfl]; exact h0
      · rename_i r hb
        simp only [hb] at h0 ⊢
        obtain ⟨z, h1, h⟩ := Option.bind_eq_some_iff.1 h
        rw [h1, Option.bind_some] at h0 ⊢
        split at h
        · rename_i e rt own l hr
          simp only [hr] at h0
          obtain ⟨h2, h⟩ := ite_some h
          rw [if_pos h2] at h0
          have fin : s'.ob r = s.ob r ∧ (own = false → (lo.isSome || hi.isSome) = true → s'.ob id = s.ob id) := by
            match lo, hi, h with
            | none, some o, h =>
              obtain ⟨n, h3, h⟩ := Option.bind_eq_some_iff.1 h
              obtain ⟨h4, h⟩ := bif_some h
              cases own <;> simp only [cond_true, cond_false] at h
              · obtain ⟨h5, h⟩ := fresh1_some h; cases h; exact ⟨hO r (by simp), fun _ _ => hO id (by simp)⟩
              · cases h; exact ⟨hO r (by simp), fun h => by cases h⟩
            | some o, none, h =>
              obtain ⟨n, h3, h⟩ := Option.bind_eq_some_iff.1 h
              obtain ⟨h4, h⟩ := bif_some h
              cases own <;> simp only [cond_true, cond_false] at h
              · obtain ⟨h5, h⟩ := fresh1_some h; cases h; exact ⟨hO r (by simp), fun _ _ => hO id (by simp)⟩
              · cases h; exact ⟨hO r (by simp), fun h => by cases h⟩
            | some o, some o', h =>
              obtain ⟨n, h3, h⟩ := Option.bind_eq_some_iff.1 h
              obtain ⟨n', h3', h⟩ := Option.bind_eq_some_iff.1 h
              obtain ⟨h4, h⟩ := bif_some h
              cases own <;> simp only [cond_true, cond_false] at h
              · obtain ⟨h5, h⟩ := fresh1_some h; cases h; exact ⟨hO r (by simp), fun _ _ => hO id (by simp)⟩
              · cases h; exact ⟨hO r (by simp), fun h => by cases h⟩
            | none, none, h => cases h; exact ⟨hO r (by simp), fun _ h => by cases h⟩
          simp only [fin.1, hr, if_pos h2]
          cases lo with
          | none => cases hi with
            | none => exact h0
            | some o => simp only [hhi o rfl]; cases own <;> simp only [cond_true, cond_false] at h0 ⊢ <;> first | exact h0 | (simp only [fresh1_congr (fin.2 rfl rfl)]; exact h0)
          | some o => cases hi with
            | none => simp only [hlo o rfl]; cases own <;> simp only [cond_true, cond_false] at h0 ⊢ <;> first | exact h0 | (simp only [fresh1_congr (fin.2 rfl rfl)]; exact h0)
            | some o' => simp only [hlo o rfl, hhi o' rfl]; cases own <;> simp only [cond_true, cond_false] at h0 ⊢ <;> first | exact h0 | (simp only [fresh1_congr (fin.2 rfl rfl)]; exact h0)
        · cases h
      · cases h
  | makeFunc fn f c =>
    simp only [opK, takeBackK_eq] at h ⊢
    split at h
    · rename_i g hf
      refine (congrArg (fun z => Option.bind z _) (mapO_congr fun x hx => ?_)).trans h
      rw [hE x (by simp only [Op.operands, Array.mem_append]; exact .inr (by simpa using hx))]
    · cases h
  | call c =>
    obtain ⟨f, args, ats⟩ := c
    have ha : ∀ x ∈ args.toList, ev s' x = ev s x := fun x hx => hE x (by simp only [Op.operands, Call.operands, Array.mem_append]; exact .inr (by simpa using hx))
    cases f with
    | invoke _ _ => simp [opK] at h
    | value f =>
      simp only [opK, takeBackK_eq] at h ⊢
      have hf := hE f (by simp [Op.operands, Call.operands])
      rw [hf]
      have hm : args.toList.map (ev s') = args.toList.map (ev s) := List.map_congr_left ha
      rw [hm]
      split at h
      · obtain ⟨c, h1, h⟩ := Option.bind_eq_some_iff.1 h
        rw [h1, Option.bind_some]
        exact callK_local h hO
      · cases h
    | builtin b =>
      cases b <;> simp only [opK, takeBackK_eq] at h h0 ⊢ <;> first | (cases h; done) | skip
      · split at h
        · rename_i t t' x y e1 e2
          rw [e2] at ha
          simp only [e1, e2, ha x (by simp), ha y (by simp)] at h0 ⊢
          obtain ⟨rfl, h⟩ := ite_some h
          obtain ⟨ti, h1, h⟩ := Option.bind_eq_some_iff.1 h
          simp only [if_true, h1, Option.bind_some] at h0 ⊢
          split at h
          · rename_i e hk
            simp only [hk] at h0 ⊢
            obtain ⟨te, h2, h⟩ := Option.bind_eq_some_iff.1 h
            simp only [h2, Option.bind_some] at h0 ⊢
            split at h
            · rename_i xa ya hx hy
              simp only [hx, hy] at h0 ⊢
              cases hap : appD s.ob e te.ty xa ya with
              | some p =>
                obtain ⟨r, r2, l⟩ := p
                obtain ⟨hxa, hya, _⟩ := appD_some hap
                rw [hap] at h
                simp only at h
                obtain ⟨h4, h⟩ := bif_some h
                obtain ⟨h5, h⟩ := fresh1_some h
                cases h
                have hap' : appD s'.ob e te.ty xa ya = some (r, r2, l) := by
                  rw [← hap, hxa, hya]
                  unfold appD
                  simp only
                  rw [hO r (by simp), hO r2 (by simp)]
                rw [hap']
                simp only [h4, cond_true]
                rw [fresh1_congr (hO id (by simp))]
                simp [fresh1, h5]
              | none =>
                rw [hap] at h
                simp only at h
                obtain ⟨q, h3, h⟩ := Option.bind_eq_some_iff.1 h
                have hq2 : q.2 = ya.ids := by
                  unfold rowOf at h3
                  obtain ⟨q0, h3a, h3'⟩ := Option.bind_eq_some_iff.1 h3
                  cases h3'; rfl
                have hrow : (∀ i ∈ ya.ids, s'.ob i = s.ob i) → rowOf s' e te.ty ya = some q := fun hy => by
                  rw [← h3]; unfold rowOf; simp only; rw [ofAV_congr (t := .sl e te.ty) hy]
                match xa, hx, h, hap with
                | .nils, hx, h, hap =>
                  obtain ⟨h4, h⟩ := bif_some h
                  obtain ⟨h5, h⟩ := fresh1_some h
                  cases h
                  have hap' : appD s'.ob e te.ty .nils ya = none := by unfold appD; rfl
                  rw [hap']
                  simp only
                  rw [hrow (fun i hi => hO i (by simp [hq2, hi]))]
                  simp only [Option.bind_some, h4, cond_true]
                  rw [fresh1_congr (hO id (by simp))]
                  simp [fresh1, h5]
                | .whole r, hx, h, hap =>
                  simp only at h
                  cases hn : q.2.any (Nat.beq r) <;> rw [hn] at h <;> simp only [cond_true, cond_false] at h
                  · split at h
                    · rename_i e' t0 l hr
                      split at h
                      · rename_i hh
                        obtain ⟨rfl, rfl⟩ := hh
                        obtain ⟨h4, h⟩ := bif_some h
                        obtain ⟨h5, h⟩ := fresh1_some h
                        cases h
                        have hap' : appD s'.ob e' te.ty (.whole r) ya = none := by
                          unfold appD
                          cases ya <;> first | rfl | skip
                          simp only
                          rw [hO r (by simp), hr]
                        rw [hap']
                        simp only
                        rw [hrow (fun i hi => hO i (by simp [hq2, hi]))]
                        simp only [Option.bind_some, hn, cond_false, hO r (by simp), hr, and_self, dite_true, h4, cond_true]
                        rw [fresh1_congr (hO id (by simp))]
                        simp [fresh1, h5]
                      · cases h
                    · cases h
                  · cases h
            · cases h
          · cases h
        · cases h
      · split at h
        · rename_i x t e1 e2
          rw [e1] at ha
          simp only [e1, e2, ha x (by simp)] at h0 ⊢
          obtain ⟨ti, h1, h⟩ := Option.bind_eq_some_iff.1 h
          simp only [h1, Option.bind_some] at h0 ⊢
          split at h
          · rename_i e r off n hk hx
            simp only [hk, hx] at h0 ⊢
            obtain ⟨te, h2, h⟩ := Option.bind_eq_some_iff.1 h
            simp only [h2, Option.bind_some] at h0 ⊢
            split at h
            · rename_i e' t' l hr
              split at h
              · rename_i hh
                obtain ⟨rfl, rfl⟩ := hh
                obtain ⟨z, h3, h⟩ := Option.bind_eq_some_iff.1 h
                cases h
                rw [hO r (by simp), hr]
                simp only [and_self, dite_true]
                rw [ofAVs_congr (fun i hi => hO i (by simp [hi])), h3]
                rfl
              · cases h
            · cases h
          · cases h
        · cases h
      · split at h
        · rename_i x t e1 e2
          rw [e1] at ha
          simp only [e1, e2, ha x (by simp)] at h0 ⊢
          obtain ⟨ti, h1, h⟩ := Option.bind_eq_some_iff.1 h
          simp only [h1, Option.bind_some] at h0 ⊢
          split at h
          · rename_i b hk hx; simp only [hk, hx] at h0 ⊢; exact h0
          · rename_i e y hk hx
            simp only [hk, hx] at h0 ⊢
            obtain ⟨n, h2, h⟩ := Option.bind_eq_some_iff.1 h
            cases h
            have : lenOf s' y = lenOf s y := by cases y <;> simp only [lenOf] <;> (rw [hO _ (by simp [AV.ids])])
            rw [this]; exact h0
          · cases h
        · cases h
      · have hm : args.toList.map (ev s') = args.toList.map (ev s) := List.map_congr_left ha
        rw [hm]; exact h
  | _ => simp [opK] at h
end Go.Proofs.Ytpinehfjimphmaa.DI
