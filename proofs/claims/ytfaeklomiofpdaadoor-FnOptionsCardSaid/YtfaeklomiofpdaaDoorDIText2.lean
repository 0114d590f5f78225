/- The machine of values: contracts of functions of the library over texts. -/
import Derived.Test.YtfaeklomiofpdaaDoorDIText
import Derived.Lib.ItoaNum
import Derived.Lib.AtoiAll
import Derived.Lib.SplitLaws
import Derived.Lib.Join
import Derived.Lib.Strings
import Derived.Lib.IndexMore
namespace Go.Proofs.YtfaeklomiofpdaaDoor.DI
open Go Go.RowKit
set_option linter.unusedVariables false
set_option linter.unusedSimpArgs false
def itoaRun (n : Int) : Option ByteArray := if -9223372036854775808 ≤ n ∧ n ≤ 9223372036854775807 then some ⟨(Lib.itoa n).toArray⟩ else none
def itoaCtr : Ctr := ⟨ones 1, [.one true], false, .int .i64, .str, fun _ x => itoaRun x⟩
def cutRun (s p : ByteArray) : Option (ByteArray × ByteArray × Bool) := if s.size < 4294967281 then some (⟨(Lib.cut s.data.toList p.data.toList).1.toArray⟩, ⟨(Lib.cut s.data.toList p.data.toList).2.1.toArray⟩, (Lib.cut s.data.toList p.data.toList).2.2) else none
def cutCtr : Ctr := ⟨ones 2, [.one true, .one true, .one true], false, .two .str .str, .two .str (.two .str .bool), fun _ x => cutRun x.1 x.2⟩
def cutSRun (s p : ByteArray) : Option (ByteArray × Bool) := if s.size ≤ 9223372036854775807 then some (⟨(Lib.trimSuffix s.data.toList p.data.toList).toArray⟩, Lib.hasSuffix s.data.toList p.data.toList) else none
def cutSCtr : Ctr := ⟨ones 2, [.one true, .one true], false, .two .str .str, .two .str .bool, fun _ x => cutSRun x.1 x.2⟩
def trimPRun (s p : ByteArray) : Option ByteArray := some ⟨(Lib.trimPrefix s.data.toList p.data.toList).toArray⟩
def trimPCtr : Ctr := ⟨ones 2, [.one true], false, .two .str .str, .str, fun _ x => trimPRun x.1 x.2⟩
def readDM (s : ByteArray) : Int × Bool := match Lib.atoiAll s.data.toList with
  | .ok v => if (0 ≤ v ∧ v ≤ 1000000000) ∧ Lib.itoa v = s.data.toList then (v, true) else (0, false)
  | _ => (0, false)
def readDRun (s : ByteArray) : Option (Int × Bool) := if s.size ≤ 281474976710656 then some (readDM s) else none
def readDCtr : Ctr := ⟨ones 1, [.one true, .one true], false, .str, .two (.int .i64) .bool, fun _ x => readDRun x⟩
def joinRun (xs : List ByteArray) (p : ByteArray) : Option ByteArray := if xs.length ≤ 140737488355328 ∧ (Lib.join (xs.map (·.data.toList)) p.data.toList).length ≤ 140737488355328 then some ⟨(Lib.join (xs.map (·.data.toList)) p.data.toList).toArray⟩ else none
def joinCtr (e : Nat) : Ctr := ⟨ones 2, [.one true], false, .two (.sl e .str) .str, .str, fun _ x => joinRun x.1 x.2⟩
def splitRun (s p : ByteArray) : Option (List ByteArray) := if s.size < 4294967281 ∧ 1 ≤ p.size then some (Lib.splitB p 0 (Lib.countB s p) s) else none
def splitCtr (e : Nat) : Ctr := ⟨ones 2, [.one true], false, .two .str .str, .sl e .str, fun _ x => splitRun x.1 x.2⟩
def splitRCtr (e : Nat) : Ctr := ⟨ones 2, [.one false], false, .two .str .str, .sl e .str, fun _ x => splitRun x.1 x.2⟩
section
variable {P : Program}
theorem CtrOk.itoa {f : Nat} (fn : ∃ fn, P.funcs[f]? = some fn ∧ (fn.name == "runtime.NumGoroutine") = false ∧ fn.body.isNone = false)
    (hr : ∀ (n : Int) (w : World), GOK w → -9223372036854775808 ≤ n → n ≤ 9223372036854775807 → Calls P f #[.int .i64 n] w fun e w' => e = .returned (.string ⟨(Lib.itoa n).toArray⟩) ∧ Below w.heap.size w w') : CtrOk P f itoaCtr :=
  CtrOk.scalar fn (n := 1) rfl rfl (fun r => [(false, [.str r])]) (fun r => .string r) (fun id r => ⟨id + 1, rfl⟩) (fun _ _ _ => rfl) fun w0 X M ι ob w hs k x r avs vals h hv hx => by
    rw [in_int h hv]
    have hx : itoaRun x = some r := hx
    unfold itoaRun at hx
    split at hx
    · rename_i hc
      cases hx
      exact hr x w hs.fr.gok hc.1 hc.2
    · cases hx
theorem CtrOk.trimP {f : Nat} (fn : ∃ fn, P.funcs[f]? = some fn ∧ (fn.name == "runtime.NumGoroutine") = false ∧ fn.body.isNone = false)
    (hr : ∀ (s p : ByteArray) (w : World), Calls P f #[.string s, .string p] w fun e w' => e = .returned (.string ⟨(Lib.trimPrefix s.data.toList p.data.toList).toArray⟩) ∧ w' = w) : CtrOk P f trimPCtr :=
  CtrOk.scalar fn (n := 2) rfl rfl (fun r => [(false, [.str r])]) (fun r => .string r) (fun id r => ⟨id + 1, rfl⟩) (fun _ _ _ => rfl) fun w0 X M ι ob w hs k x r avs vals h hv hx => by
    rw [in_strs h hv]
    have hx : trimPRun x.1 x.2 = some r := hx
    cases hx
    exact (hr x.1 x.2 w).mono fun e w' ⟨he, hw⟩ => ⟨he, hw ▸ Below.refl _ _⟩
theorem CtrOk.cutS {f : Nat} (fn : ∃ fn, P.funcs[f]? = some fn ∧ (fn.name == "runtime.NumGoroutine") = false ∧ fn.body.isNone = false)
    (hr : ∀ (s p : ByteArray) (w : World), s.size ≤ 9223372036854775807 → Calls P f #[.string s, .string p] w fun e w' => e = .returned (.tuple #[.string ⟨(Lib.trimSuffix s.data.toList p.data.toList).toArray⟩, .bool (Lib.hasSuffix s.data.toList p.data.toList)]) ∧ w' = w) : CtrOk P f cutSCtr :=
  CtrOk.scalar fn (n := 2) rfl rfl (fun r => [(false, [.str r.1]), (false, [.bool r.2])]) (fun r => .tuple #[.string r.1, .bool r.2]) (fun id r => ⟨id + 1 + 1, rfl⟩)
    (fun _ _ r => ⟨[.string r.1, .bool r.2], rfl, fun x hx => by cases hx; rfl, fun x hx => by cases hx; rfl, trivial⟩) fun w0 X M ι ob w hs k x r avs vals h hv hx => by
    rw [in_strs h hv]
    have hx : cutSRun x.1 x.2 = some r := hx
    unfold cutSRun at hx
    split at hx
    · rename_i hc
      cases hx
      exact (hr x.1 x.2 w hc).mono fun e w' ⟨he, hw⟩ => ⟨he, hw ▸ Below.refl _ _⟩
    · cases hx
theorem CtrOk.cut {f : Nat} (fn : ∃ fn, P.funcs[f]? = some fn ∧ (fn.name == "runtime.NumGoroutine") = false ∧ fn.body.isNone = false)
    (hr : ∀ (s p : ByteArray) (w : World), GOK w → s.size < 4294967281 → Calls P f #[.string s, .string p] w fun e w' => e = .returned (.tuple #[.string ⟨(Lib.cut s.data.toList p.data.toList).1.toArray⟩, .string ⟨(Lib.cut s.data.toList p.data.toList).2.1.toArray⟩, .bool (Lib.cut s.data.toList p.data.toList).2.2]) ∧ Below w.heap.size w w') : CtrOk P f cutCtr :=
  CtrOk.scalar fn (n := 2) rfl rfl (fun r => [(false, [.str r.1]), (false, [.str r.2.1]), (false, [.bool r.2.2])]) (fun r => .tuple #[.string r.1, .string r.2.1, .bool r.2.2]) (fun id r => ⟨id + 1 + 1 + 1, rfl⟩)
    (fun _ _ r => ⟨[.string r.1, .string r.2.1, .bool r.2.2], rfl, fun x hx => by cases hx; rfl, fun x hx => by cases hx; rfl, fun x hx => by cases hx; rfl, trivial⟩) fun w0 X M ι ob w hs k x r avs vals h hv hx => by
    rw [in_strs h hv]
    have hx : cutRun x.1 x.2 = some r := hx
    unfold cutRun at hx
    split at hx
    · rename_i hc
      cases hx
      exact hr x.1 x.2 w hs.fr.gok hc
    · cases hx
theorem CtrOk.readD {f : Nat} (fn : ∃ fn, P.funcs[f]? = some fn ∧ (fn.name == "runtime.NumGoroutine") = false ∧ fn.body.isNone = false)
    (hr : ∀ (s : ByteArray) (w : World), GOK w → s.size ≤ 281474976710656 → Calls P f #[.string s] w fun e w' => e = .returned (.tuple #[.int .i64 (readDM s).1, .bool (readDM s).2]) ∧ Below w.heap.size w w') : CtrOk P f readDCtr :=
  CtrOk.scalar fn (n := 1) rfl rfl (fun r => [(false, [.int .i64 r.1]), (false, [.bool r.2])]) (fun r => .tuple #[.int .i64 r.1, .bool r.2]) (fun id r => ⟨id + 1 + 1, rfl⟩)
    (fun _ _ r => ⟨[.int .i64 r.1, .bool r.2], rfl, fun x hx => by cases hx; rfl, fun x hx => by cases hx; rfl, trivial⟩) fun w0 X M ι ob w hs k x r avs vals h hv hx => by
    rw [in_str h hv]
    have hx : readDRun x = some r := hx
    unfold readDRun at hx
    split at hx
    · rename_i hc
      cases hx
      exact hr x w hs.fr.gok hc
    · cases hx
theorem CtrOk.join {f e : Nat} (fn : ∃ fn, P.funcs[f]? = some fn ∧ (fn.name == "runtime.NumGoroutine") = false ∧ fn.body.isNone = false)
    (h0 : ∀ (a : Option Addr) (c : Nat) (p : ByteArray) (w : World), Calls P f #[.slice a 0 c, .string p] w fun e w' => e = .returned (.string ⟨#[]⟩) ∧ w' = w)
    (hr : ∀ (bk o c : Nat) (xs : List ByteArray) (p : ByteArray) (w : World), (∀ (j : Nat) x, xs[j]? = some x → w.cell? ⟨bk, o + j, none⟩ = some (.string x)) → bk < w.heap.size → xs.length ≤ 140737488355328 → xs.length ≤ c → (Lib.join (xs.map (·.data.toList)) p.data.toList).length ≤ 140737488355328 →
      Calls P f #[.slice (some ⟨bk, o, none⟩) xs.length c, .string p] w fun e w' => e = .returned (.string ⟨(Lib.join (xs.map (·.data.toList)) p.data.toList).toArray⟩) ∧ Below w.heap.size w w') : CtrOk P f (joinCtr e) :=
  CtrOk.scalar fn (n := 2) rfl rfl (fun r => [(false, [.str r])]) (fun r => .string r) (fun id r => ⟨id + 1, rfl⟩) (fun _ _ _ => rfl) fun w0 X M ι ob w hs k x r avs vals h hv hx => by
    obtain ⟨y, r1, v, q, rfl, rfl, g1, g2, g3, g4⟩ := in_two h hv
    rw [in_str g3 g4]
    obtain ⟨A, c, rfl, hc, hcells⟩ := in_row hs g1 g2
    obtain ⟨xs, p⟩ := x
    have hx : joinRun xs p = some r := hx
    unfold joinRun at hx
    split at hx
    · rename_i hb
      cases hx
      match xs, hcells, hb, hc with
      | [], _, _, _ => exact (h0 A c p w).mono fun e w' ⟨he, hw⟩ => ⟨he, hw ▸ Below.refl _ _⟩
      | x0 :: xr, hcells, hb, hc =>
        obtain ⟨ad, rfl, m2, m3, m4⟩ := hcells 0 x0 rfl
        obtain ⟨bk, o, sp⟩ := ad
        have m2 : sp = none := m2
        subst m2
        refine hr bk o c (x0 :: xr) p w (fun j x hj => ?_) m3 hb.1 hc hb.2
        obtain ⟨ad', e1, e2, e3, e4⟩ := hcells j x hj
        cases e1
        rw [Addr.add_mid] at e4
        exact e4
    · cases hx
theorem CtrOk.split {f e : Nat} {te : TI} (hte : TIok P e te) (hty : te.ty = .str) (fn : ∃ fn, P.funcs[f]? = some fn ∧ (fn.name == "runtime.NumGoroutine") = false ∧ fn.body.isNone = false)
    (hr : ∀ (s p : ByteArray) (w : World), GOK w → s.size < 4294967281 → 1 ≤ p.size → Calls P f #[.string s, .string p] w fun en w' => en = .returned (.slice (some ⟨w.heap.size, 0, none⟩) (Lib.countB s p + 1) (Lib.countB s p + 1)) ∧ w' = w.alloc (.cells ((Lib.splitB p 0 (Lib.countB s p) s).map Value.string).toArray e)) : CtrOk P f (splitCtr e) := by
  refine ⟨fn, fun w0 X M ι ob w hhs hXM args vals hargs k id avs x r o q h1 h2' h3 h4 h5 h6 h7 h8 h9 h10 => ?_⟩
  obtain rfl := flat_ones 2 h1
  have hv := all_at hargs
  have hin := in_strs h2' hv
  obtain ⟨g1, g2⟩ := flatR_ones (ob := ob) 2 avs
  have h6' : outR id (splitCtr e).rs (Ty.cells (splitCtr e).O r) = some ⟨[(false, [.whole id])], [(id, .row e .str true r)], id + 1, []⟩ := rfl
  rw [h6'] at h6
  cases h6
  rw [show (splitCtr e).ps = ones 2 from rfl, outP_ones 2 _ h1] at h7
  cases h7
  have hid : ob id = none := by
    simp only [outIds, List.map_cons, List.map_nil, List.append_nil, freshB, Bool.and_true] at h8
    cases ho : ob id with
    | none => rfl
    | some _ => rw [ho] at h8; cases h8
  have hobE : updL ob ((bif (splitCtr e).frz then freeze ob (flatR ob (splitCtr e).ps (avs.map .at)) else []) ++ (deads (gvIds ob (splitCtr e).ps (avs.map .at)) ++ (([] : List (Nat × Obj)) ++ ([(id, .row e .str true r)] ++ [])))) = upd ob id (some (.row e .str true r)) := by
    show updL ob ([] ++ (deads (gvIds ob (ones 2) (avs.map .at)) ++ (([] : List (Nat × Obj)) ++ ([(id, .row e .str true r)] ++ [])))) = _
    rw [g1]
    rfl
  simp only [hobE]
  have hx : splitRun x.1 x.2 = some r := h5
  unfold splitRun at hx
  split at hx
  · rename_i hc
    cases hx
    rw [hin]
    refine Calls.mono (hr x.1 x.2 w hhs.fr.gok hc.1 hc.2) fun en w' h => ?_
    obtain ⟨rfl, rfl⟩ := h
    have hlen := Lib.splitB_all x.2 hc.2 0 _ x.1 rfl
    have hnew := hhs.newBlk id (.row e .str true (Lib.splitB x.2 0 (Lib.countB x.1 x.2) x.1)) (Lib.countB x.1 x.2 + 1) (.cells ((Lib.splitB x.2 0 (Lib.countB x.1 x.2) x.1).map Value.string).toArray e) hid trivial (fun N ι' ob' w' hk' hN hi hb => by
      have hl : List.length (α := Ty.den .str) (Lib.splitB x.2 0 (Lib.countB x.1 x.2) x.1) = Lib.countB x.1 x.2 + 1 := hlen
      refine ⟨(Lib.splitB x.2 0 (Lib.countB x.1 x.2) x.1).map Value.string, ⟨by rw [List.length_map, hl]; simp [Ty.size], .inr ⟨w.heap.size, 0, Lib.countB x.1 x.2 + 1, _, (0, 0), by rw [hi], hb, .inl (Nat.le_refl _), by rw [hl]; omega, by simp only [Ty.size, Nat.mul_one, Nat.zero_add, List.size_toArray, List.length_map]; exact Nat.le_of_eq hlen.symm, ?_⟩⟩, ?_⟩
      · rw [hl]
        simp only [Ty.size, Nat.mul_one, List.drop_zero]
        exact List.take_of_length_le (by rw [List.length_map]; exact Nat.le_of_eq hlen)
      · exact RepL.of_get (by rw [List.length_map]; simp [Ty.size]) (fun i y hy => by
          have hy : (Lib.splitB x.2 0 (Lib.countB x.1 x.2) x.1)[i]? = some y := hy
          have : (((Lib.splitB x.2 0 (Lib.countB x.1 x.2) x.1).map Value.string).drop (i * 1)).take 1 = [Value.string y] := by
            rw [Nat.mul_one]
            have hi : i < ((Lib.splitB x.2 0 (Lib.countB x.1 x.2) x.1).map Value.string).length := by rw [List.length_map]; exact (List.getElem?_eq_some_iff.1 hy).1
            rw [List.drop_eq_getElem_cons hi, List.take_succ_cons, List.take_zero, List.getElem_map, (List.getElem?_eq_some_iff.1 hy).2]
          show RepC w' N .str y _
          exact this)) 
    refine ⟨_, rfl, _, hnew, Keeps.new id _ _ hid, rfl, _, upd_same _ _ _, fun e' t' o' l' he' => ?_⟩
    cases he'
    rw [upd_same]
    have hl : List.length (α := Ty.den .str) (Lib.splitB x.2 0 (Lib.countB x.1 x.2) x.1) = Lib.countB x.1 x.2 + 1 := hlen
    rw [hl]
  · cases hx
theorem CtrOk.splitR {f e : Nat} {te : TI} (hte : TIok P e te) (hty : te.ty = .str) (fn : ∃ fn, P.funcs[f]? = some fn ∧ (fn.name == "runtime.NumGoroutine") = false ∧ fn.body.isNone = false)
    (hr : ∀ (s p : ByteArray) (w : World), GOK w → s.size < 4294967281 → 1 ≤ p.size → Calls P f #[.string s, .string p] w fun en w' => en = .returned (.slice (some ⟨w.heap.size, 0, none⟩) (Lib.countB s p + 1) (Lib.countB s p + 1)) ∧ w' = w.alloc (.cells ((Lib.splitB p 0 (Lib.countB s p) s).map Value.string).toArray e)) : CtrOk P f (splitRCtr e) := by
  refine ⟨fn, fun w0 X M ι ob w hhs hXM args vals hargs k id avs x r o q h1 h2' h3 h4 h5 h6 h7 h8 h9 h10 => ?_⟩
  obtain rfl := flat_ones 2 h1
  have hv := all_at hargs
  have hin := in_strs h2' hv
  obtain ⟨g1, g2⟩ := flatR_ones (ob := ob) 2 avs
  have h6' : outR id (splitRCtr e).rs (Ty.cells (splitRCtr e).O r) = some ⟨[(false, [.whole id])], [(id, .row e .str false r)], id + 1, []⟩ := rfl
  rw [h6'] at h6
  cases h6
  rw [show (splitRCtr e).ps = ones 2 from rfl, outP_ones 2 _ h1] at h7
  cases h7
  have hid : ob id = none := by
    simp only [outIds, List.map_cons, List.map_nil, List.append_nil, freshB, Bool.and_true] at h8
    cases ho : ob id with
    | none => rfl
    | some _ => rw [ho] at h8; cases h8
  have hobE : updL ob ((bif (splitRCtr e).frz then freeze ob (flatR ob (splitRCtr e).ps (avs.map .at)) else []) ++ (deads (gvIds ob (splitRCtr e).ps (avs.map .at)) ++ (([] : List (Nat × Obj)) ++ ([(id, .row e .str false r)] ++ [])))) = upd ob id (some (.row e .str false r)) := by
    show updL ob ([] ++ (deads (gvIds ob (ones 2) (avs.map .at)) ++ (([] : List (Nat × Obj)) ++ ([(id, .row e .str false r)] ++ [])))) = _
    rw [g1]
    rfl
  simp only [hobE]
  have hx : splitRun x.1 x.2 = some r := h5
  unfold splitRun at hx
  split at hx
  · rename_i hc
    cases hx
    rw [hin]
    refine Calls.mono (hr x.1 x.2 w hhs.fr.gok hc.1 hc.2) fun en w' h => ?_
    obtain ⟨rfl, rfl⟩ := h
    have hlen := Lib.splitB_all x.2 hc.2 0 _ x.1 rfl
    have hb := hhs.below (Below.alloc (Below.refl w.heap.size w) (Nat.le_refl _) (.cells ((Lib.splitB x.2 0 (Lib.countB x.1 x.2) x.1).map Value.string).toArray e))
    have hl : List.length (α := Ty.den .str) (Lib.splitB x.2 0 (Lib.countB x.1 x.2) x.1) = Lib.countB x.1 x.2 + 1 := hlen
    have hnb : Nb w0 M ι ob (w.alloc (.cells ((Lib.splitB x.2 0 (Lib.countB x.1 x.2) x.1).map Value.string).toArray e)) w.heap.size := ⟨by show _ < (w.heap.push _).size; simp, .inr hhs.fr.size, fun h => absurd (hhs.lt h) (Nat.lt_irrefl _)⟩
    have hnew := hb.newRo id e .str (Lib.splitB x.2 0 (Lib.countB x.1 x.2) x.1) (some ⟨w.heap.size, 0, none⟩) (Lib.countB x.1 x.2 + 1) hid ⟨Nat.le_of_eq hl, fun i y hy => by
      have hy : (Lib.splitB x.2 0 (Lib.countB x.1 x.2) x.1)[i]? = some y := hy
      refine ⟨_, rfl, rfl, hnb, [.string y], rfl, fun j u hj => ?_⟩
      obtain ⟨rfl, rfl⟩ : j = 0 ∧ u = .string y := by
        cases j with
        | zero => simp at hj; exact ⟨rfl, hj.symm⟩
        | succ j => simp at hj
      rw [Addr.add_mid, cell_of_row _ _ _ _ e (0, 0) (heap_alloc_new w _)]
      simp [Ty.size, hy]⟩
    refine ⟨_, rfl, _, hnew, Keeps.new id _ _ hid, rfl, _, upd_same _ _ _, fun e' t' o' l' he' => ?_⟩
    cases he'
    rw [upd_same]
    have hl : List.length (α := Ty.den .str) (Lib.splitB x.2 0 (Lib.countB x.1 x.2) x.1) = Lib.countB x.1 x.2 + 1 := hlen
    rw [hl]
  · cases hx
end
end Go.Proofs.YtfaeklomiofpdaaDoor.DI
