/- The machine of values: regions, code, functions. -/
import Derived.Test.YtpinehfjimphmaaGreatDIDeep
import Derived.Orders
namespace Go.Proofs.YtpinehfjimphmaaGreat.DI
open Go Go.RowKit
set_option linter.unusedVariables false
set_option linter.unusedSimpArgs false
/-- The callee's contract holds. -/
structure CtrOk (P : Program) (f : Nat) (c : Ctr) : Prop where
  fn : ∃ fn, P.funcs[f]? = some fn ∧ (fn.name == "runtime.NumGoroutine") = false ∧ fn.body.isNone = false
  calls : ∀ (w0 : World) (X M : Nat → Prop) (ι : Nat → In) (ob : Ob) (w : World), HS w0 X M ι ob w → (∀ b, X b → M b) → ∀ (args : List DV) (vals : List Value), All2 (RepDV ι ob) args vals → ∀ (k id : Nat) avs x r o q,
    flat ob c.ps args = some avs → ofAVs (dv ob) c.I avs = some x → disj (boxIds c.ps args ++ gvIds ob c.ps args) = true → ((boxIds c.ps args ++ gvIds ob c.ps args).any fun i => (idsOf (flatR ob c.ps args)).any (Nat.beq i)) = false → c.run k x = some r → outR id c.rs (Ty.cells c.O r) = some o → outP o.id c.ps args o.cs = some q →
    freshB ob (outIds (o.w ++ q.2)) = true → disj (outIds (o.w ++ q.2)) = true →
    Calls P f vals.toArray w fun e w' => ∃ v, e = .returned v ∧ ∃ ι', HS w0 X M ι' (updL ob ((bif c.frz then freezeD ob (flatR ob c.ps args) else []) ++ (deads (gvIds ob c.ps args) ++ (q.1 ++ (o.w ++ q.2))))) w' ∧ Keeps ι ι' ob (updL ob ((bif c.frz then freezeD ob (flatR ob c.ps args) else []) ++ (deads (gvIds ob c.ps args) ++ (q.1 ++ (o.w ++ q.2))))) ∧
      RepDV ι' (updL ob ((bif c.frz then freezeD ob (flatR ob c.ps args) else []) ++ (deads (gvIds ob c.ps args) ++ (q.1 ++ (o.w ++ q.2))))) (tupV o.vs) v
def EnvOk (P : Program) (env : Nat → Option Ctr) : Prop := ∀ g c, env g = some c → CtrOk P g c
theorem fresh1_some {R : Type} {s : DS} {id : Nat} {x : Option R} {r : R} (h : fresh1 s id x = some r) : s.ob id = none ∧ x = some r := by
  unfold fresh1 at h
  split at h
  · rename_i h'; exact ⟨h', h⟩
  · cases h
theorem bif_some {R : Type} {b : Bool} {x : Option R} {r : R} (h : (bif b then x else none) = some r) : b = true ∧ x = some r := by cases b <;> simp_all
theorem ite_some {R : Type} {c : Prop} [Decidable c] {x : Option R} {r : R} (h : (if c then x else none) = some r) : c ∧ x = some r := by by_cases hc : c <;> simp_all
theorem toList_one {α : Type} {x : Array α} {a : α} (h : x.toList = [a]) : x = #[a] := by rw [← Array.toArray_toList (xs := x), h]
theorem toList_two {α : Type} {x : Array α} {a b : α} (h : x.toList = [a, b]) : x = #[a, b] := by rw [← Array.toArray_toList (xs := x), h]
/-! What follows an operation is asked for what it gives. -/
section nat
variable {R : Type}
theorem bif_bind {S : Type} (b : Bool) (x y : Option S) (K : S → Option R) : (bif b then x else y).bind K = bif b then x.bind K else y.bind K := by cases b <;> rfl
theorem ite_bind {S : Type} (c : Prop) [Decidable c] (x y : Option S) (K : S → Option R) : (if c then x else y).bind K = if c then x.bind K else y.bind K := by by_cases h : c <;> simp [h]
theorem fresh1_bind {S : Type} (s : DS) (id : Nat) (x : Option S) (K : S → Option R) : (fresh1 s id x).bind K = fresh1 s id (x.bind K) := by unfold fresh1; split <;> rfl
theorem numOp_nat (op : BinOp) (k : IntKind) (a b : Int) (K : AV → Option R) : numOp op k a b K = (numOp op k a b some).bind K := by cases op <;> simp only [numOp, bif_bind, Option.bind_some, Option.bind_none]
theorem shOp_nat (op : BinOp) (k : IntKind) (a b : Int) (K : AV → Option R) : shOp op k a b K = (shOp op k a b some).bind K := by cases op <;> simp only [shOp, bif_bind, Option.bind_some, Option.bind_none]
theorem strOp_nat (op : BinOp) (a b : ByteArray) (K : AV → Option R) : strOp op a b K = (strOp op a b some).bind K := by cases op <;> simp only [strOp, bif_bind, Option.bind_some, Option.bind_none]
theorem bin_nat (tt : Nat → Option TI) (k : Nat) (op : BinOp) (x y : DV) (K : AV → Option R) : bin tt k op x y K = (bin tt k op x y some).bind K := by
  unfold bin
  split
  · exact shOp_nat _ _ _ _ K
  · exact shOp_nat _ _ _ _ K
  · rw [ite_bind, ← numOp_nat]; rfl
  · exact strOp_nat _ _ _ K
  · split <;> rfl
  · split <;> rfl
  · rw [Option.bind_assoc]; rfl
  · rw [Option.bind_assoc]; rfl
  · rfl
theorem callK_nat (s : DS) (id k : Nat) (c : Ctr) (args : List DV) (K : Dl → Option R) : callK s id k c args K = (callK s id k c args some).bind K := by
  simp only [callK, Option.bind_assoc, bif_bind, Option.bind_some, Option.bind_none]
theorem storeD_nat {R : Type} (ob : Ob) (w : List (Nat × Obj)) (r e : Nat) (t : Ty) (l : List t.den) (h : List Nat) (i off : Nat) (c : List AV) (K : Dl → Option R) : storeD ob w r e t l h i off c K = (storeD ob w r e t l h i off c some).bind K := by
  unfold storeD
  split
  · rw [Option.bind_assoc]
    refine congrArg _ (funext fun _ => ?_)
    rw [Option.bind_assoc]
    refine congrArg _ (funext fun _ => ?_)
    rw [bif_bind]
    rfl
  · rfl
theorem bif_nat {R S : Type} {b : Bool} {x y : Option S} {x' y' : Option R} {K : S → Option R} (h1 : x' = x.bind K) (h2 : y' = y.bind K) : (bif b then x' else y') = (bif b then x else y).bind K := by cases b <;> assumption
theorem back_nat {R : Type} (ob : Ob) (r : Nat) (h : List Nat) (i off : Nat) (c : List AV) (q : Option (List (Nat × Obj))) (K : Dl → Option R) : (q.bind fun wb => match updL ob wb r with
        | some (.deep e' rt' l' none) => storeD (updL ob wb) wb r e' rt' l' h i off c K
        | _ => none) = (q.bind fun wb => match updL ob wb r with
        | some (.deep e' rt' l' none) => storeD (updL ob wb) wb r e' rt' l' h i off c some
        | _ => none).bind K := by
  rw [Option.bind_assoc]
  refine congrArg _ (funext fun wb => ?_)
  split
  · exact storeD_nat _ _ _ _ _ _ _ _ _ _ _
  · rfl
theorem opK_nat (cx : Cx) (k id : Nat) (o : Op) (s : DS) (K : Dl → Option R) : opK cx k id o s K = (opK cx k id o s some).bind K := by
  cases o with
  | binOp op t x y yt =>
    simp only [opK, takeBackK_eq]
    rw [bin_nat, bin_nat (R := Dl), Option.bind_assoc]
    rfl
  | call c =>
    simp only [opK, takeBackK_eq]
    repeat' (first | rfl | split | (simp only [Option.bind_assoc, bif_bind, ite_bind, fresh1_bind, Option.bind_some, Option.bind_none]; done) | (exact callK_nat _ _ _ _ _ _) | (rw [Option.bind_assoc]; refine congrArg _ (funext fun _ => ?_)))
  | slice t x lo hi mx =>
    cases mx with
    | some _ => simp [opK]
    | none =>
      simp only [opK, takeBackK_eq]
      split
      · rw [Option.bind_assoc]
        refine congrArg _ (funext fun _ => ?_)
        split
        · cases lo <;> cases hi <;> simp only [Option.bind_assoc, bif_bind, Option.bind_some, Option.bind_none]
        · rfl
      · rw [Option.bind_assoc]
        refine congrArg _ (funext fun _ => ?_)
        split
        · rw [ite_bind]
          cases lo <;> cases hi <;> simp only [Option.bind_assoc, bif_bind, fresh1_bind, Option.bind_some, Option.bind_none]
        · rfl
      · rfl
  | unOp op t x => cases op <;> simp only [opK, takeBackK_eq] <;> (first | rfl | (split <;> rfl))
  | makeFunc fn f c =>
    simp only [opK, takeBackK_eq]
    split
    · simp only [Option.bind_assoc, Option.bind_some]
    · rfl
  | _ =>
    simp only [opK, takeBackK_eq]
    repeat' (first | rfl | exact storeD_nat _ _ _ _ _ _ _ _ _ _ _ | exact bif_nat (storeD_nat _ _ _ _ _ _ _ _ _ _ _) (back_nat _ _ _ _ _ _ _ _) | split | (simp only [Option.bind_assoc, bif_bind, ite_bind, fresh1_bind, Option.bind_some, Option.bind_none]; done) | (rw [Option.bind_assoc]; refine congrArg _ (funext fun _ => ?_)) | (rw [bif_bind]; refine congrArg₂ _ ?_ ?_) | (rw [ite_bind]))
end nat
section
variable {P : Program} {w0 : World} {X M : Nat → Prop} {ι : Nat → In} {s : DS} {a : Act} {w : World}
theorem evs (ht : TS ι s a) : ∀ l : List Operand, All2 (RepDV ι s.ob) (l.map (ev s)) (l.map a.eval)
  | [] => trivial
  | x :: r => ⟨RepDV.ev ht x, evs ht r⟩
theorem rep_caps {ι : Nat → In} {ob : Ob} : ∀ (bs : List (Nat × Nat)) (cs : List Value), All2 (fun p v => RepB ι ob p.1 p.2 v) bs cs → All2 (RepDV ι ob) (bs.map fun p => .at (.bptr p.1 p.2)) cs
  | [], [], _ => trivial
  | [], _ :: _, h => h.elim
  | _ :: _, [], h => h.elim
  | _ :: bs, _ :: cs, h => ⟨h.1, rep_caps bs cs h.2⟩
theorem storeD_some {ob : Ob} {wb : List (Nat × Obj)} {r e : Nat} {t : Ty} {l : List t.den} {hh : List Nat} {i off : Nat} {c : List AV} {d : Dl} (h : storeD ob wb r e t l hh i off c some = some d) :
    ∃ va, c = [va] ∧ ∃ y z, l[i]? = some y ∧ Ty.put ob t y off [va] = some z ∧ takeOk ob r va = true ∧ d = ⟨.at .undef, wb ++ (deads va.ids ++ [(r, .deep e t (l.set i z) none)]), r :: (va.ids ++ hh)⟩ := by
  unfold storeD at h
  split at h
  · rename_i va
    obtain ⟨y, h1, h⟩ := Option.bind_eq_some_iff.1 h
    obtain ⟨z, h2, h⟩ := Option.bind_eq_some_iff.1 h
    obtain ⟨h3, h⟩ := bif_some h
    cases h
    exact ⟨va, rfl, y, z, h1, h2, h3, rfl⟩
  · cases h
theorem appD_some {ob : Ob} {e : Nat} {t : Ty} {xa ya : AV} {r r2 : Nat} {l : List t.den} (h : appD ob e t xa ya = some (r, r2, l)) :
    xa = .whole r ∧ ya = .whole r2 ∧ ∃ l1 l2, ob r = some (.deep e t l1 none) ∧ ob r2 = some (.deep e t l2 none) ∧ r ≠ r2 ∧ l = l1 ++ l2 := by
  unfold appD at h
  split at h
  · rename_i r' r2'
    split at h
    · rename_i e1 t1 l1 e2 t2 l2 h1 h2
      split at h
      · rename_i hh
        obtain ⟨⟨rfl, rfl⟩, rfl, rfl⟩ := hh
        cases hb : Nat.beq r' r2' <;> rw [hb] at h <;> simp only [cond_true, cond_false] at h
        · cases h
          exact ⟨rfl, rfl, l1, l2, h1, h2, fun k => by subst k; simp at hb, rfl⟩
        · cases h
      · cases h
    · cases h
  · cases h
theorem op_call {cx : Cx} (henv : EnvOk P cx.env) (hs : HS w0 X M ι s.ob w) (hXM : ∀ b, X b → M b) (ht : TS ι s a) (id k : Nat) (f : Operand) (g : Nat) (bs : List (Nat × Nat)) (hf : ev s f = .at (.fn g bs)) (c : Ctr) (hc : cx.env g = some c) (args : Array Operand) (at_ : Array TypeId) (d : Dl)
    (h : callK s id k c (args.toList.map (ev s) ++ bs.map fun p => .at (.bptr p.1 p.2)) some = some d) (ty : TypeId) : Does P (.call ⟨.value f, args, at_⟩) ty a.eval w (Post w0 X M ι s d) := by
  unfold callK at h
  obtain ⟨avs, h1, h⟩ := Option.bind_eq_some_iff.1 h
  obtain ⟨x, h2, h⟩ := Option.bind_eq_some_iff.1 h
  obtain ⟨h3, h⟩ := bif_some h
  obtain ⟨r, h4, h⟩ := Option.bind_eq_some_iff.1 h
  obtain ⟨o, h5, h⟩ := Option.bind_eq_some_iff.1 h
  obtain ⟨q, h6, h⟩ := Option.bind_eq_some_iff.1 h
  obtain ⟨h7, h⟩ := bif_some h
  cases h
  simp only [Bool.and_eq_true, Bool.not_eq_true'] at h3 h7
  have hco := henv g c hc
  obtain ⟨fn, f1, f2, f3⟩ := hco.fn
  obtain ⟨cs, hv, hq⟩ := ev_at ht hf
  have hbs := rep_caps bs cs hq
  intro dst pos after gd
  right; right
  refine ⟨g, (args.toList.map a.eval ++ cs).toArray, ?_, hco.calls w0 X M ι s.ob w hs hXM _ _ (All2.append (evs ht args.toList) hbs) k id avs x r o q h1 h2 h3.1 h3.2 h4 h5 h6 h7.1 h7.2⟩
  simp only [execOp, resolve, hv, Deferred.ofValue, invoke, callFunc, Sem.run_bind, Sem.run_pure, Result.andThen_ok, run_program, f1]
  have e1 : (fn.name == "runtime.NumGoroutine") = false := f2
  simp only [e1, f3, Bool.false_eq_true, if_false, Sem.run_pure]
  congr 2
  simp only [Array.empty_append]
  apply Array.ext'
  simp
theorem isStr_of {k : TK} (h : k.isStr = true) : k = .str := by cases k <;> first | rfl | cases h
theorem natOf_some {x : DV} {n : Int} (h : natOf x = some n) : ∃ k, x = .at (.int k n) := by
  unfold natOf at h
  split at h
  · cases h; exact ⟨_, rfl⟩
  · cases h
theorem slice_sound {cx : Cx} (htt : TTok P cx.tt) (hs : HS w0 X M ι s.ob w) (ht : TS ι s a) (k id : Nat) (t : Nat) (x : Operand) (lo hi : Option Operand) (ty : TypeId) (d : Dl) (h : opK cx k id (.slice t x lo hi none) s some = some d) : Does P (.slice t x lo hi none) ty a.eval w (Post w0 X M ι s d) := by
  simp only [opK, takeBackK_eq] at h
  split at h
  · rename_i b hx
    obtain ⟨ti, h1, h⟩ := Option.bind_eq_some_iff.1 h
    split at h
    · rename_i hk
      match lo, hi, h with
      | none, some o, h =>
        obtain ⟨n, h2, h⟩ := Option.bind_eq_some_iff.1 h
        obtain ⟨h3, h⟩ := bif_some h
        cases h
        obtain ⟨kk, h2⟩ := natOf_some h2
        simp only [Bool.and_eq_true, decide_eq_true_eq] at h3
        exact op_slice_str hs ht t ti (htt _ _ h1) hk x none (some o) b hx 0 n.toNat (.inl ⟨rfl, rfl⟩) (.inr ⟨o, kk, n, rfl, h2, h3.1, rfl, by omega⟩) (Nat.zero_le _) _ rfl ty
      | some o, none, h =>
        obtain ⟨n, h2, h⟩ := Option.bind_eq_some_iff.1 h
        obtain ⟨h3, h⟩ := bif_some h
        cases h
        obtain ⟨kk, h2⟩ := natOf_some h2
        simp only [Bool.and_eq_true, decide_eq_true_eq] at h3
        exact op_slice_str hs ht t ti (htt _ _ h1) hk x (some o) none b hx n.toNat b.size (.inr ⟨o, kk, n, rfl, h2, h3.1, rfl⟩) (.inl ⟨rfl, rfl⟩) (by omega) _ rfl ty
      | some o, some o', h =>
        obtain ⟨n, h2, h⟩ := Option.bind_eq_some_iff.1 h
        obtain ⟨n', h2', h⟩ := Option.bind_eq_some_iff.1 h
        obtain ⟨h3, h⟩ := bif_some h
        cases h
        obtain ⟨kk, h2⟩ := natOf_some h2
        obtain ⟨kk', h2'⟩ := natOf_some h2'
        simp only [Bool.and_eq_true, decide_eq_true_eq] at h3
        exact op_slice_str hs ht t ti (htt _ _ h1) hk x (some o) (some o') b hx n.toNat n'.toNat (.inr ⟨o, kk, n, rfl, h2, h3.1, rfl⟩) (.inr ⟨o', kk', n', rfl, h2', by omega, rfl, by omega⟩) (by omega) _ rfl ty
      | none, none, h =>
        cases h
        exact op_slice_str hs ht t ti (htt _ _ h1) hk x none none b hx 0 b.size (.inl ⟨rfl, rfl⟩) (.inl ⟨rfl, rfl⟩) (Nat.zero_le _) _ (by apply ByteArray.ext; simp) ty
    · cases h
  · rename_i r hx
    obtain ⟨z, hz, h⟩ := Option.bind_eq_some_iff.1 h
    split at h
    · rename_i e rt own ls hr
      obtain ⟨hsz, h⟩ := ite_some h
      match lo, hi, h with
      | none, some o, h =>
        obtain ⟨n, h2, h⟩ := Option.bind_eq_some_iff.1 h
        obtain ⟨h3, h⟩ := bif_some h
        obtain ⟨kk, h2⟩ := natOf_some h2
        simp only [Bool.and_eq_true, decide_eq_true_eq] at h3
        cases own <;> simp only [cond_true, cond_false] at h
        · obtain ⟨h4, h⟩ := fresh1_some h
          cases h
          exact op_slice_ro htt hs ht t z hz x none (some o) r hx hr hsz 0 n.toNat (.inl ⟨rfl, rfl⟩) (.inr ⟨o, kk, n, rfl, h2, h3.1, rfl, by omega⟩) (Nat.zero_le _) id h4 _ (by simp) _ ty
        · cases h
          exact op_slice_cut htt hs ht t z hz x none (some o) r hx hr hsz 0 n.toNat (.inl ⟨rfl, rfl⟩) (.inr ⟨o, kk, n, rfl, h2, h3.1, rfl, by omega⟩) (Nat.zero_le _) _ ty
      | some o, none, h =>
        obtain ⟨n, h2, h⟩ := Option.bind_eq_some_iff.1 h
        obtain ⟨h3, h⟩ := bif_some h
        obtain ⟨kk, h2⟩ := natOf_some h2
        simp only [Bool.and_eq_true, decide_eq_true_eq] at h3
        cases own <;> simp only [cond_true, cond_false] at h
        · obtain ⟨h4, h⟩ := fresh1_some h
          cases h
          exact op_slice_ro htt hs ht t z hz x (some o) none r hx hr hsz n.toNat ls.length (.inr ⟨o, kk, n, rfl, h2, h3.1, rfl⟩) (.inl ⟨rfl, rfl⟩) (by omega) id h4 _ (List.take_of_length_le (by simp)).symm _ ty
        · cases h
          exact op_slice_cut htt hs ht t z hz x (some o) none r hx hr hsz n.toNat ls.length (.inr ⟨o, kk, n, rfl, h2, h3.1, rfl⟩) (.inl ⟨rfl, rfl⟩) (by omega) _ ty
      | some o, some o', h =>
        obtain ⟨n, h2, h⟩ := Option.bind_eq_some_iff.1 h
        obtain ⟨n', h2', h⟩ := Option.bind_eq_some_iff.1 h
        obtain ⟨h3, h⟩ := bif_some h
        obtain ⟨kk, h2⟩ := natOf_some h2
        obtain ⟨kk', h2'⟩ := natOf_some h2'
        simp only [Bool.and_eq_true, decide_eq_true_eq] at h3
        cases own <;> simp only [cond_true, cond_false] at h
        · obtain ⟨h4, h⟩ := fresh1_some h
          cases h
          exact op_slice_ro htt hs ht t z hz x (some o) (some o') r hx hr hsz n.toNat n'.toNat (.inr ⟨o, kk, n, rfl, h2, h3.1, rfl⟩) (.inr ⟨o', kk', n', rfl, h2', by omega, rfl, by omega⟩) (by omega) id h4 _ rfl _ ty
        · cases h
          exact op_slice_cut htt hs ht t z hz x (some o) (some o') r hx hr hsz n.toNat n'.toNat (.inr ⟨o, kk, n, rfl, h2, h3.1, rfl⟩) (.inr ⟨o', kk', n', rfl, h2', by omega, rfl, by omega⟩) (by omega) _ ty
      | none, none, h =>
        cases h
        exact op_slice_all htt hs ht t z hz x r hx hr _ ty
    · cases h
  · cases h
set_option maxHeartbeats 2000000 in
theorem opK_sound {cx : Cx} (htt : TTok P cx.tt) (henv : EnvOk P cx.env) (hs : HS w0 X M ι s.ob w) (hXM : ∀ b, X b → M b) (ht : TS ι s a) (k id : Nat) (o : Op) (ty : TypeId) (d : Dl) (h : opK cx k id o s some = some d) : Does P o ty a.eval w (Post w0 X M ι s d) := by
  cases o with
  | move x => simp only [opK, takeBackK_eq] at h; cases h; exact op_move hs ht x ty
  | «assign» x => simp only [opK, takeBackK_eq] at h; cases h; exact op_assign hs ht x ty
  | pick c x y =>
    simp only [opK, takeBackK_eq] at h
    split at h
    · rename_i b hb
      have := op_pick (P := P) hs ht c x y b hb ty
      cases b <;> (cases h; exact this)
    · cases h
  | alloc t =>
    simp only [opK, takeBackK_eq] at h
    obtain ⟨ti, h1, h⟩ := Option.bind_eq_some_iff.1 h
    cases hA : ti.arr with
    | some ik =>
      rw [hA] at h
      obtain ⟨h2, h⟩ := fresh1_some h
      cases h
      exact op_alloc_arr hs t ti (htt _ _ h1) ik hA id h2 ty
    | none =>
      rw [hA] at h
      obtain ⟨h2, h⟩ := fresh1_some h
      cases h
      exact op_alloc hs t ti (htt _ _ h1) id h2 ty
  | box t x =>
    simp only [opK, takeBackK_eq] at h
    obtain ⟨ti, h1, h⟩ := Option.bind_eq_some_iff.1 h
    obtain ⟨c, h2, h⟩ := Option.bind_eq_some_iff.1 h
    obtain ⟨h3, h⟩ := ite_some h
    obtain ⟨h4, h⟩ := fresh1_some h
    cases h
    exact op_box hs ht t x c h2 id h4 ty
  | load t x =>
    simp only [opK, takeBackK_eq] at h
    obtain ⟨ti, h1, h⟩ := Option.bind_eq_some_iff.1 h
    split at h
    · rename_i b off hx
      split at h
      · rename_i bt c hb
        obtain ⟨hl, h⟩ := ite_some h
        cases hg : ti.agg <;> rw [hg] at h <;> simp only [cond_true, cond_false] at h
        · split at h
          · rename_i y hy
            cases h
            exact op_load_box hs ht t ti (htt _ _ h1) x b off hx bt c hb hl _ (.inr ⟨hg, y, hy, rfl⟩) _ ty
          · cases h
        · cases h
          exact op_load_box hs ht t ti (htt _ _ h1) x b off hx bt c hb hl _ (.inl ⟨hg, rfl⟩) _ ty
      · cases h
    · rename_i r i off hx
      split at h
      · rename_i e rt own l hr
        obtain ⟨y, hy, h⟩ := Option.bind_eq_some_iff.1 h
        obtain ⟨hl, h⟩ := ite_some h
        obtain ⟨hf, h⟩ := bif_some h
        cases hg : ti.agg <;> rw [hg] at h <;> simp only [cond_true, cond_false] at h
        · split at h
          · rename_i v hv
            cases h
            exact op_load_elem hs ht t ti (htt _ _ h1) x r i off hx e rt own l hr y hy id hl hf _ (.inr ⟨hg, v, hv, rfl⟩) _ ty
          · cases h
        · cases h
          exact op_load_elem hs ht t ti (htt _ _ h1) x r i off hx e rt own l hr y hy id hl hf _ (.inl ⟨hg, rfl⟩) _ ty
      · rename_i e0 t0 l0 h0 hr
        split at h
        · rename_i ek hk
          obtain ⟨hsz, h⟩ := ite_some h
          obtain ⟨wb, hwb, h⟩ := Option.bind_eq_some_iff.1 h
          split at h
          · rename_i e rt l hr1
            obtain ⟨y, hy, h⟩ := Option.bind_eq_some_iff.1 h
            split at h
            · rename_i e' t' q hc
              obtain ⟨z, hz, h⟩ := Option.bind_eq_some_iff.1 h
              obtain ⟨hp, h⟩ := bif_some h
              obtain ⟨hid, h⟩ := fresh1_some h
              cases h
              exact op_load_deep hs ht t ti (htt _ _ h1) x r i off hx hr hsz (by unfold TI.agg; rw [hk]) hwb hr1 hy hc hz id hid _ ty
            · cases h
          · cases h
        · cases h
      · cases h
    · cases h
  | store t x y =>
    simp only [opK, takeBackK_eq] at h
    obtain ⟨ti, h1, h⟩ := Option.bind_eq_some_iff.1 h
    obtain ⟨c, h2, h⟩ := Option.bind_eq_some_iff.1 h
    obtain ⟨⟨h3, h4⟩, h⟩ := ite_some h
    cases hA : ti.arr with
    | some ik =>
      rw [hA] at h
      simp only at h
      split at h
      · rename_i r hx
        split at h
        · rename_i e ik' l hr
          obtain ⟨⟨h5, h5'⟩, h⟩ := ite_some h
          obtain ⟨q, h6, h⟩ := Option.bind_eq_some_iff.1 h
          cases h
          exact op_store_arr hs ht t ti (htt _ _ h1) x y r hx e ik' l hr c h2 h3 h5' q h6 _ ty
        · cases h
      · cases h
    | none =>
      rw [hA] at h
      simp only at h
      split at h
      · rename_i b off hx
        split at h
        · rename_i bt bc hb
          obtain ⟨hle, h⟩ := ite_some h
          cases h
          exact op_store_box hs ht t ti (htt _ _ h1) x y b off hx bt bc hb c h2 h3 h4 hle _ ty
        · cases h
      · rename_i r i off hx
        split at h
        · rename_i e rt l hr
          obtain ⟨y0, h5, h⟩ := Option.bind_eq_some_iff.1 h
          obtain ⟨z, h6, h⟩ := Option.bind_eq_some_iff.1 h
          cases hn : (idsOf c).any (Nat.beq r) <;> rw [hn] at h <;> simp only [cond_true, cond_false] at h
          · cases h
            exact op_store_elem hs hXM ht t ti (htt _ _ h1) x y r i off hx e rt l hr c h2 h3 h4 y0 z h5 h6 hn _ ty
          · cases h
        · rename_i e rt l hr
          obtain ⟨va, rfl, y0, z, h5, h6, h7, rfl⟩ := storeD_some h
          exact op_store_core (wb := []) ht t ti (htt _ _ h1) x y r i off hx hr h2 h3.symm (by simpa using h4) hs (Keeps.refl _ _) hr (.inl rfl) h5 h6 h7 _ ty
        · rename_i e rt l i0 off0 q0 hr
          cases hb : (Nat.beq off off0 && Nat.beq i i0) <;> rw [hb] at h <;> simp only [cond_true, cond_false] at h
          · obtain ⟨wb, hwb, h⟩ := Option.bind_eq_some_iff.1 h
            obtain ⟨ι1, b1, b2, _⟩ := takeBack_spec hs hwb
            split at h
            · rename_i e' rt' l' hr1
              obtain ⟨va, rfl, y0, z, h5, h6, h7, rfl⟩ := storeD_some h
              exact op_store_core ht t ti (htt _ _ h1) x y r i off hx hr h2 h3.symm (by simpa using h4) b1 b2 hr1 (.inl rfl) h5 h6 h7 _ ty
            · cases h
          · simp only [Bool.and_eq_true] at hb
            obtain rfl := Nat.eq_of_beq_eq_true hb.1
            obtain rfl := Nat.eq_of_beq_eq_true hb.2
            obtain ⟨va, rfl, y0, z, h5, h6, h7, rfl⟩ := storeD_some h
            exact op_store_core (wb := []) ht t ti (htt _ _ h1) x y r i off hx hr h2 h3.symm (by simpa using h4) hs (Keeps.refl _ _) hr (.inr ⟨_, rfl⟩) h5 h6 h7 _ ty
        · cases h
      · cases h
  | nilCheck x =>
    simp only [opK, takeBackK_eq] at h
    split at h
    · rename_i b f hx
      obtain ⟨hb, h⟩ := bif_some h
      cases h
      obtain ⟨A, hA⟩ := ptr_box hs ht hx hb
      exact op_nilCheck hs ht x _ hx A hA [b] ty
    · rename_i r i f hx
      obtain ⟨hb, h⟩ := bif_some h
      cases h
      obtain ⟨A, hA⟩ := ptr_row ht hx hb
      exact op_nilCheck hs ht x _ hx A hA [r] ty
    · cases h
  | binOp op t x y yt =>
    simp only [opK, takeBackK_eq] at h
    rw [bin_nat] at h
    obtain ⟨y0, hb, h⟩ := Option.bind_eq_some_iff.1 h
    cases h
    cases hx : ev s x with
    | tup l => rw [hx] at hb; cases op <;> cases ev s y <;> simp [bin] at hb
    | agg l =>
      cases hy : ev s y with
      | agg m =>
        rw [hx, hy] at hb
        cases op <;> simp only [bin] at hb <;> first | (cases hb; done) | skip
        · obtain ⟨c, hc, hb⟩ := Option.bind_eq_some_iff.1 hb
          cases hb
          exact op_eq_agg htt hs ht _ t yt x y l m hx hy c hc _ (.inl ⟨rfl, rfl⟩) ty
        · obtain ⟨c, hc, hb⟩ := Option.bind_eq_some_iff.1 hb
          cases hb
          exact op_eq_agg htt hs ht _ t yt x y l m hx hy c hc _ (.inr ⟨rfl, rfl⟩) ty
      | _ => rw [hx, hy] at hb; cases op <;> simp [bin] at hb
    | «at» xa =>
      cases hy : ev s y with
      | tup l => rw [hx, hy] at hb; cases op <;> cases xa <;> simp [bin] at hb
      | agg l => rw [hx, hy] at hb; cases op <;> cases xa <;> simp [bin] at hb
      | «at» ya =>
        rw [hx, hy] at hb
        cases xa with
        | int k m =>
          cases ya with
          | int k' n =>
            by_cases hop : op = .shl ∨ op = .shr
            · refine op_shift hs ht op t yt x y k k' m n hx hy hop y0 ?_ ty
              rcases hop with rfl | rfl <;> simpa only [bin] using hb
            · have hb' : (if k = k' then numOp op k m n some else none) = some y0 := by
                cases op <;> first | (exact absurd (Or.inl rfl) hop) | (exact absurd (Or.inr rfl) hop) | exact hb
              have hq := ite_some hb'
              obtain rfl := hq.1
              exact op_num hs ht op t yt x y k m n hx hy y0 hq.2 ty
          | _ => cases op <;> simp [bin] at hb
        | str m =>
          cases ya with
          | str n => exact op_str hs ht op t yt x y m n hx hy y0 (by cases op <;> exact hb) ty
          | _ => cases op <;> simp [bin] at hb
        | bool m =>
          cases ya with
          | bool n =>
            have hk : (op = .eql ∨ op = .neq) ∧ (cx.tt t).map (·.k) = some .bool ∧ y0 = (if op = .eql then .bool (m == n) else .bool (!(m == n))) := by
              cases op <;> simp only [bin] at hb <;> first | (cases hb; done) | (split at hb <;> first | (rename_i hk; cases hb; exact ⟨by simp, hk, by simp⟩) | cases hb)
            obtain ⟨hop, hk, hy0⟩ := hk
            cases ht' : cx.tt t with
            | none => rw [ht'] at hk; cases hk
            | some ti =>
              rw [ht'] at hk
              rcases hop with rfl | rfl
              · subst hy0; exact op_beq hs ht t yt ti (htt _ _ ht') (by simpa using hk) x y m n hx hy ty
              · subst hy0; exact op_bne hs ht t yt ti (htt _ _ ht') (by simpa using hk) x y m n hx hy ty
          | _ => cases op <;> simp [bin] at hb
        | _ => cases op <;> cases ya <;> simp [bin] at hb
  | unOp op t x =>
    cases op <;> simp only [opK, takeBackK_eq] at h <;> first | (cases h; done) | skip
    · split at h
      · rename_i k n hx; cases h; exact op_neg hs ht t x k n hx ty
      · cases h
    · split at h
      · rename_i b hx; cases h; exact op_not hs ht t x b hx ty
      · cases h
  | convert t0 t x =>
    simp only [opK, takeBackK_eq] at h
    obtain ⟨ti0, h0, h⟩ := Option.bind_eq_some_iff.1 h
    obtain ⟨ti, h1, h⟩ := Option.bind_eq_some_iff.1 h
    split at h
    · rename_i k k' n hk hx; cases h; exact op_conv_num hs ht t0 t ti0 ti (htt _ _ h0) (htt _ _ h1) k k' hk x n hx ty
    · rename_i b hk hx; cases h; exact op_conv_str hs ht t0 t ti0 ti (htt _ _ h0) (htt _ _ h1) hk x b hx ty
    · rename_i y _ hk hx
      obtain ⟨e, h2, h⟩ := Option.bind_eq_some_iff.1 h
      obtain ⟨q, h3, h⟩ := Option.bind_eq_some_iff.1 h
      cases h
      unfold byteE at h2
      split at h2
      · rename_i e' hk0
        obtain ⟨te, h4, h2⟩ := Option.bind_eq_some_iff.1 h2
        split at h2
        · rename_i hke
          cases h2
          unfold rowOf at h3
          obtain ⟨l, h5, h3⟩ := Option.bind_eq_some_iff.1 h3
          cases h3
          exact op_conv_bytes hs ht t0 t ti0 ti (htt _ _ h0) (htt _ _ h1) _ hk0 te (htt _ _ h4) hke hk x y l hx h5 _ ty
        · cases h2
      · cases h2
    · rename_i e b hk hx
      obtain ⟨e', h2, h⟩ := Option.bind_eq_some_iff.1 h
      obtain ⟨rfl, h⟩ := ite_some h
      obtain ⟨hk0, h⟩ := bif_some h
      obtain ⟨h3, h⟩ := fresh1_some h
      cases h
      unfold byteE at h2
      rw [hk] at h2
      obtain ⟨te, h4, h2⟩ := Option.bind_eq_some_iff.1 h2
      split at h2
      · rename_i hke
        cases h2
        exact op_conv_of_str hs ht t0 t ti0 ti (htt _ _ h0) (htt _ _ h1) _ hk te (htt _ _ h4) hke (isStr_of hk0) x b hx id h3 _ ty
      · cases h2
    · cases h
  | fieldAddr t x f =>
    simp only [opK, takeBackK_eq] at h
    obtain ⟨ti, h1, h⟩ := Option.bind_eq_some_iff.1 h
    split at h
    · rename_i fs b off hk hx
      obtain ⟨p, h2, h⟩ := Option.bind_eq_some_iff.1 h
      obtain ⟨h3, h⟩ := bif_some h
      cases h
      exact op_fieldAddr_box hs ht t ti (htt _ _ h1) fs hk x b off hx h3 f p h2 _ ty
    · rename_i fs r i off hk hx
      obtain ⟨p, h2, h⟩ := Option.bind_eq_some_iff.1 h
      obtain ⟨h3, h⟩ := bif_some h
      cases h
      exact op_fieldAddr_elem hs ht t ti (htt _ _ h1) fs hk x r i off hx h3 f p h2 _ ty
    · cases h
  | field t x f =>
    simp only [opK, takeBackK_eq] at h
    obtain ⟨ti, h1, h⟩ := Option.bind_eq_some_iff.1 h
    split at h
    · rename_i fs l hk hx
      obtain ⟨p, h2, h⟩ := Option.bind_eq_some_iff.1 h
      obtain ⟨tp, h3, h⟩ := Option.bind_eq_some_iff.1 h
      obtain ⟨hl, h⟩ := ite_some h
      cases hg : tp.agg <;> rw [hg] at h <;> simp only [cond_true, cond_false] at h
      · split at h
        · rename_i v hv
          cases h
          exact op_field hs ht htt t ti (htt _ _ h1) fs hk x l hx f p h2 tp h3 hl _ (.inr ⟨hg, v, hv, rfl⟩) ty
        · cases h
      · cases h
        exact op_field hs ht htt t ti (htt _ _ h1) fs hk x l hx f p h2 tp h3 hl _ (.inl ⟨hg, rfl⟩) ty
    · cases h
  | extract x i =>
    simp only [opK, takeBackK_eq] at h
    split at h
    · rename_i vs hx
      split at h
      · rename_i v hv; cases h; exact op_extract hs ht x i vs hx _ hv _ (.inl ⟨v, rfl, rfl⟩) ty
      · rename_i l hv; cases h; exact op_extract hs ht x i vs hx _ hv _ (.inr ⟨l, rfl, rfl⟩) ty
      · cases h
    · cases h
  | build t ps =>
    simp only [opK, takeBackK_eq] at h
    obtain ⟨ti, h1, h⟩ := Option.bind_eq_some_iff.1 h
    split at h
    · rename_i fs hk
      obtain ⟨c, h2, h⟩ := Option.bind_eq_some_iff.1 h
      cases h
      exact op_build htt hs ht t ti (htt _ _ h1) fs hk ps c h2 ty
    · rename_i e ik n hk
      obtain ⟨c, h2, h⟩ := Option.bind_eq_some_iff.1 h
      cases h
      exact op_build_arr htt hs ht t ti (htt _ _ h1) e ik n hk ps c h2 ty
    · cases h
  | buildSlice t n ps =>
    simp only [opK, takeBackK_eq] at h
    obtain ⟨ti, h1, h⟩ := Option.bind_eq_some_iff.1 h
    split at h
    · rename_i e hk
      obtain ⟨te, h2, h⟩ := Option.bind_eq_some_iff.1 h
      obtain ⟨⟨h3, h4⟩, h⟩ := ite_some h
      obtain ⟨cs, h5, h⟩ := Option.bind_eq_some_iff.1 h
      obtain ⟨l, h6, h⟩ := Option.bind_eq_some_iff.1 h
      cases hpl : (te.ty.plain || !(cs.flatten.all (takeOk s.ob id) && disj (idsOf cs.flatten))) <;> rw [hpl] at h <;> simp only [cond_true, cond_false] at h
      · have hk2 := (Bool.or_eq_false_iff.1 hpl).2
        rw [Bool.not_eq_false', Bool.and_eq_true] at hk2
        obtain ⟨h7, h⟩ := fresh1_some h
        cases h
        exact op_buildSlice_deep htt hs ht t ti (htt _ _ h1) e hk te (htt _ _ h2) n ps h3 h4 cs h5 l h6 id h7 hk2.1 hk2.2 _ ty
      obtain ⟨h7, h⟩ := fresh1_some h
      cases h
      exact op_buildSlice htt hs hXM ht t ti (htt _ _ h1) e hk te (htt _ _ h2) n ps h3 h4 cs h5 l h6 id h7 _ ty
    · cases h
  | makeSlice t n c =>
    simp only [opK, takeBackK_eq] at h
    obtain ⟨ti, h1, h⟩ := Option.bind_eq_some_iff.1 h
    split at h
    · rename_i e k m hk hn
      obtain ⟨h2, h⟩ := ite_some h
      obtain ⟨te, h3, h⟩ := Option.bind_eq_some_iff.1 h
      obtain ⟨zd, h4, h⟩ := Option.bind_eq_some_iff.1 h
      obtain ⟨h5, h⟩ := bif_some h
      obtain ⟨h6, h⟩ := fresh1_some h
      cases h
      simp only [Bool.and_eq_true, decide_eq_true_eq] at h5
      exact op_makeSlice hs ht t ti (htt _ _ h1) e hk te (htt _ _ h3) n c k m hn h2 zd h4 h5.1 h5.2 id h6 _ ty
    · cases h
  | indexAddr t x i =>
    simp only [opK, takeBackK_eq] at h
    cases hA : (cx.tt t).bind TI.lenA with
    | some m =>
      rw [hA] at h
      simp only at h
      split at h
      · rename_i r k n hx hi
        split at h
        · rename_i e rt own l hr
          obtain ⟨h2, h⟩ := ite_some h
          obtain ⟨h3, h⟩ := bif_some h
          cases h
          simp only [Bool.and_eq_true, decide_eq_true_eq] at h3
          obtain ⟨ti, q1, q2⟩ := Option.bind_eq_some_iff.1 hA
          exact op_indexAddr_arr hs ht t ti (htt _ _ q1) m q2 x i r k n hx hi hr h2 h3.1 h3.2.1 h3.2.2 _ ty
        · cases h
      · cases h
    | none =>
      rw [hA] at h
      simp only at h
      obtain ⟨z, h1, h⟩ := Option.bind_eq_some_iff.1 h
      split at h
      · rename_i r k n hx hi
        split at h
        · rename_i e rt own l hr
          obtain ⟨h2, h⟩ := ite_some h
          obtain ⟨h3, h⟩ := bif_some h
          cases h
          simp only [Bool.and_eq_true, decide_eq_true_eq] at h3
          have := op_indexAddr (P := P) htt hs ht t z h1 x i r 0 l.length k n hi hr h2 _ _ (whole_of (ev_at ht hx) hr) (fun ad ha _ => by rw [ha]; simp [Addr.add]) h3.1 h3.2 (by omega) [r] ty
          rwa [Nat.zero_add] at this
        · rename_i e rt l hh hr
          obtain ⟨h2, h⟩ := ite_some h
          obtain ⟨h3, h⟩ := bif_some h
          cases h
          simp only [Bool.and_eq_true, decide_eq_true_eq] at h3
          exact op_indexAddr_deep htt hs ht t z h1 x i r hx k n hi hr h2 h3.1 h3.2 _ ty
        · cases h
      · rename_i r off m k n hx hi
        split at h
        · rename_i e rt own l hr
          obtain ⟨h2, h⟩ := ite_some h
          obtain ⟨h3, h⟩ := bif_some h
          cases h
          simp only [Bool.and_eq_true, decide_eq_true_eq] at h3
          obtain ⟨h4, A, h5, h6, _⟩ := cut_of (ev_at ht hx) hr
          have hc := row_len hs hr
          exact op_indexAddr htt hs ht t z h1 x i r off m k n hi hr h2 A _ h5 (fun ad ha _ => by rw [h6 (.inl (by omega)), ha]; rfl) h3.1 h3.2 h4 _ ty
        · cases h
      · cases h
  | index t x i =>
    simp only [opK, takeBackK_eq] at h
    obtain ⟨ti, h1, h⟩ := Option.bind_eq_some_iff.1 h
    split at h
    · rename_i b k n hk hx hi
      obtain ⟨h2, h⟩ := bif_some h
      obtain ⟨c, h3, h⟩ := Option.bind_eq_some_iff.1 h
      cases h
      exact op_index hs ht t ti (htt _ _ h1) hk x i b k n hx hi (by simpa using h2) c h3 ty
    · cases h
  | slice t x lo hi mx =>
    cases mx with
    | some _ => simp [opK] at h
    | none => exact slice_sound htt hs ht k id t x lo hi ty d h
  | makeFunc fn f c =>
    simp only [opK, takeBackK_eq] at h
    split at h
    · rename_i g hf
      obtain ⟨q, h1, h⟩ := Option.bind_eq_some_iff.1 h
      cases h
      have hf' : f = #[] := by rw [← Array.toArray_toList (xs := f), hf]
      subst hf'
      exact op_makeFunc hs ht g c.toList q h1 ty
    · cases h
  | call c =>
    obtain ⟨f, args, ats⟩ := c
    cases f with
    | invoke _ _ => simp [opK] at h
    | value f =>
      simp only [opK, takeBackK_eq] at h
      split at h
      · rename_i g bs hf
        obtain ⟨c, h1, h⟩ := Option.bind_eq_some_iff.1 h
        exact op_call henv hs hXM ht id k f g bs hf c h1 args ats d h ty
      · cases h
    | builtin b =>
      cases b <;> simp only [opK, takeBackK_eq] at h <;> first | (cases h; done) | skip
      · -- append
        split at h
        · rename_i t t' x y e1 e2
          obtain rfl := toList_two e1
          obtain rfl := toList_two e2
          obtain ⟨rfl, h⟩ := ite_some h
          obtain ⟨ti, h1, h⟩ := Option.bind_eq_some_iff.1 h
          split at h
          · rename_i e hk
            obtain ⟨te, h2, h⟩ := Option.bind_eq_some_iff.1 h
            split at h
            · rename_i xa ya hx hy
              split at h
              · rename_i r r2 l hap
                obtain ⟨h4, h⟩ := bif_some h
                obtain ⟨h5, h⟩ := fresh1_some h
                cases h
                obtain ⟨rfl, rfl, l1, l2, a1, a2, a3, rfl⟩ := appD_some hap
                exact op_append_deep htt hs ht t' ti (htt _ _ h1) e hk te (htt _ _ h2) x y r r2 hx hy a3 l1 l2 a1 a2 id h5 (by simpa using h4) _ ty
              obtain ⟨q, h3, h⟩ := Option.bind_eq_some_iff.1 h
              unfold rowOf at h3
              obtain ⟨q0, h3a, h3'⟩ := Option.bind_eq_some_iff.1 h3
              cases h3'
              clear h3
              match xa, hx, h with
              | .nils, hx, h =>
                obtain ⟨h4, h⟩ := bif_some h
                obtain ⟨h5, h⟩ := fresh1_some h
                cases h
                have := op_append (P := P) htt hs hXM ht t' ti (htt _ _ h1) e hk te (htt _ _ h2) x y _ ya hx hy q0 h3a id h5 none [] ⟨rfl, rfl⟩ (by simpa using h4) (id :: ya.ids) ty
                simpa [deadL] using this
              | .whole r, hx, h =>
                simp only at h
                cases hn : ya.ids.any (Nat.beq r) <;> rw [hn] at h <;> simp only [cond_true, cond_false] at h
                · split at h
                  · rename_i e' t0 l hr
                    split at h
                    · rename_i hh
                      obtain ⟨rfl, rfl⟩ := hh
                      obtain ⟨h4, h⟩ := bif_some h
                      obtain ⟨h5, h⟩ := fresh1_some h
                      cases h
                      exact op_append htt hs hXM ht t' ti (htt _ _ h1) _ hk te (htt _ _ h2) x y _ ya hx hy q0 h3a id h5 (some r) l ⟨rfl, hr, hn⟩ (by simpa using h4) _ ty
                    · cases h
                  · cases h
                · cases h
            · cases h
          · cases h
        · cases h
      · -- clear
        split at h
        · rename_i x t e1 e2
          obtain rfl := toList_one e1
          obtain rfl := toList_one e2
          obtain ⟨ti, h1, h⟩ := Option.bind_eq_some_iff.1 h
          split at h
          · rename_i e r off n hk hx
            obtain ⟨te, h2, h⟩ := Option.bind_eq_some_iff.1 h
            split at h
            · rename_i e' t' l hr
              split at h
              · rename_i hh
                obtain ⟨rfl, rfl⟩ := hh
                obtain ⟨z, h3, h⟩ := Option.bind_eq_some_iff.1 h
                cases h
                exact op_clear hs ht t ti (htt _ _ h1) _ hk te (htt _ _ h2) x r off n hx l hr z h3 _ ty
              · cases h
            · cases h
          · cases h
        · cases h
      · -- len
        split at h
        · rename_i x t e1 e2
          obtain rfl := toList_one e1
          obtain rfl := toList_one e2
          obtain ⟨ti, h1, h⟩ := Option.bind_eq_some_iff.1 h
          split at h
          · rename_i b hk hx; cases h; exact op_len_str hs ht t ti (htt _ _ h1) hk x b hx ty
          · rename_i e y hk hx
            obtain ⟨n, h2, h⟩ := Option.bind_eq_some_iff.1 h
            cases h
            exact op_len_sl hs ht t ti (htt _ _ h1) e hk x y n hx h2 _ ty
          · cases h
        · cases h
      · -- min
        split at h
        · rename_i k0 m k1 n e1
          cases h
          cases hl : args.toList with
          | nil => rw [hl] at e1; simp at e1
          | cons x r =>
            cases r with
            | nil => rw [hl] at e1; simp at e1
            | cons y r' =>
              cases r' with
              | cons _ _ => rw [hl] at e1; simp at e1
              | nil =>
                rw [hl] at e1
                simp only [List.map_cons, List.map_nil, List.cons.injEq, and_true] at e1
                obtain rfl := toList_two hl
                exact op_min hs ht x y k0 k1 m n e1.1 e1.2 ats ty
        · cases h
  | _ => simp [opK] at h
end
end Go.Proofs.YtpinehfjimphmaaGreat.DI
