/- slices.Insert in this program (function 109): three roads, the operations' runs given. -/
import Derived.Test.YtpheniajdbbphaaDIIns
import Derived.Test.YtpheniajdbbphaaProg
import Derived.WalkKit
import Derived.Shelf.RegionOpenPlain
import Derived.Lib.Walk
import Derived.Lib.SliceRun
import Derived.Lib.JoinLaws
import Derived.Lib.AppendZeros
import Derived.Lib.AppendZerosOnto
import Derived.Lib.Overlaps
import Derived.Laws.NewBlocks
import Derived.Laws.Externs
import Derived.Laws.IdiomCopy
namespace Go.Proofs.Ytpheniajdbbphaa.DI
open Go Go.RowKit Go.Lib
set_option linter.unusedVariables false
set_option linter.unusedSimpArgs false
namespace ins109
theorem wp_cp {P : Program} (w : World) {o : Oper} {a : Act} {K : Act → World → Prop} {Q : Exit → Act → World → Prop} (d s : Operand) (t t' : TypeId)
    (ho : o.op = .call { callee := .builtin .copy, args := #[d, s], argTypes := #[t, t'] }) (v u : Value) (hd : a.eval d = v) (hs : a.eval s = u) {v' : Value} {w' : World}
    (hr : (Builtin.copy_ #[t, t'] o.type #[v, u]).run P w = .ok v' w') (h : K (a.put o.dst v') w') : o.wp P a w K Q := by
  unfold Oper.wp execOp
  simp only [ho, resolve, invoke, builtin, Sem.run_bind, Sem.run_pure, Result.andThen_ok, List.map_toArray, List.map_cons, List.map_nil, hd, hs, hr]
  exact h
theorem wpList_cp {P : Program} (w : World) {ops : Array Oper} {rest : List Oper} {o : Oper} {a : Act} {Q : Exit → Act → World → Prop} (hgd : o.guard = none) (d s : Operand) (t t' : TypeId)
    (ho : o.op = .call { callee := .builtin .copy, args := #[d, s], argTypes := #[t, t'] }) (v u : Value) (hd : a.eval d = v) (hs : a.eval s = u) {v' : Value} {w' : World}
    (hr : (Builtin.copy_ #[t, t'] o.type #[v, u]).run P w = .ok v' w') (h : wpList P ops Q rest (a.put o.dst v') w') : wpList P ops Q (o :: rest) a w :=
  wpList_plain hgd fun _ hK => wp_cp w d s t t' ho v u hd hs hr (hK _ _ h)
theorem step_cp {P : Program} {ops : Array Oper} {o : Oper} {a : Act} {w : World} {K : Act → World → Prop} {Q : Exit → Act → World → Prop} {E : Prop}
    (hg : o.guard = none) (d x : Operand) (dT sT : TypeId) (hop : o.op = Op.call { callee := Callee.builtin Builtin.copy, args := #[d, x], argTypes := #[dT, sT] })
    (v u : Value) (hd : a.eval d = v) (hx : a.eval x = u) {v' : Value} {w' : World} (hr : (Builtin.copy_ #[dT, sT] o.type #[v, u]).run P w = .ok v' w') (hK : K (a.put o.dst v') w') :
    if Region.wanted o (yielded ops a.tmps) = true then Oper.wp P o a w K Q else E := by
  have hw : Region.wanted o (yielded ops a.tmps) = true := by simp [Region.wanted, hg]
  rw [if_pos hw]
  unfold Oper.wp
  simp [execOp, hop, resolve, invoke, builtin, hd, hx, hr, Result.andThen]
  exact hK
theorem hf : Try.prog.funcs[109]? = some Try.f109 := by kernel_rfl
theorem nt : Try.f109.ntmps = 95 := by kernel_rfl
theorem tS : Try.prog.underlying 34 = some (.slice 87) := by kernel_rfl
theorem t3 : Try.prog.underlying 3 = some (.int .i64) := by kernel_rfl
theorem t4 : Try.prog.underlying 4 = some .bool := by kernel_rfl
theorem mixed : Try.prog.follows .mixedOrders = true := by kernel_rfl
theorem zE (w : World) : (Go.sizeOf 87).run Try.prog w = .ok 2 w := by
  have h : (Try.prog.info? 87).map (·.size) = some 2 := by kernel_rfl
  cases hi : Try.prog.info? 87 with
  | none => rw [hi] at h; cases h
  | some i =>
    rw [hi] at h
    simp only [Option.map_some, Option.some.injEq] at h
    simp [Go.sizeOf, typeInfo, hi, h]
set_option maxHeartbeats 4000000 in
set_option maxRecDepth 100000 in
theorem road_end (base : Option Addr) (n c m : Nat) (hm : 0 < m) (hb : base = none → n = 0 ∧ c = 0) (hnc : n ≤ c) (hsp : ∀ a, base = some a → a.spot = none) (va : Addr) (vc : Nat) (w w' : World) (v' : Value)
    (hA : (Builtin.append_ #[34, 34] 34 #[.slice base n c, .slice (some va) m vc]).run Try.prog w = .ok v' w') :
    Calls Try.prog 109 #[.slice base n c, .int .i64 n, .slice (some va) m vc] w fun e w'' => e = .returned v' ∧ w'' = w' := by
  have uS := run_underlying tS; have u3 := run_underlying t3; have u4 := run_underlying t4; have zE := zE
  have hz1 : ¬ ((m : Int) = 0) := by omega
  go_enter hf, nt
  cases base with
  | none =>
    obtain ⟨h0, h1⟩ := hb rfl
    subst h0; subst h1
    go_wp2_with (at_builtin; refine Lib.wpList_append_run _ rfl _ _ _ _ rfl _ _ rfl rfl _ _ hA ?_)
    go_ret
    exact ⟨rfl, rfl⟩
  | some a =>
    have hs := hsp a rfl
    obtain ⟨ab, ao, asp⟩ := a
    simp only at hs
    subst hs
    go_wp2_with (at_builtin; refine Lib.wpList_append_run _ rfl _ _ _ _ rfl _ _ rfl rfl _ _ hA ?_)
    all_goals (go_ret; exact ⟨rfl, rfl⟩)
set_option maxHeartbeats 4000000 in
set_option maxRecDepth 100000 in
theorem road_room (b off n c i vb voff m vc : Nat) (hi : i < n) (hm : 0 < m) (hroom : n + m ≤ c) (hnm : n + m ≤ 9223372036854775807) (w w1 w2 : World) (x1 x2 : Value)
    (hov : ∀ lb cb, (callFunc 121 #[.slice (some ⟨vb, voff, none⟩) m vc, .slice (some ⟨b, off + (i + m) * 2, none⟩) lb cb]).run Try.prog w = .ok (.value (.bool false)) w)
    (hcp1 : ∀ ty dc sc, (Builtin.copy_ #[34, 34] ty #[.slice (some ⟨b, off + (i + m) * 2, none⟩) (n + m - (i + m)) dc, .slice (some ⟨b, off + i * 2, none⟩) (n + m - i) sc]).run Try.prog w.drew = .ok x1 w1)
    (hcp2 : ∀ ty dc, (Builtin.copy_ #[34, 34] ty #[.slice (some ⟨b, off + i * 2, none⟩) (n + m - i) dc, .slice (some ⟨vb, voff, none⟩) m vc]).run Try.prog w1 = .ok x2 w2) :
    Calls Try.prog 109 #[.slice (some ⟨b, off, none⟩) n c, .int .i64 i, .slice (some ⟨vb, voff, none⟩) m vc] w fun e w'' => e = .returned (.slice (some ⟨b, off, none⟩) (n + m) c) ∧ w'' = w2 := by
  have uS := run_underlying tS; have u3 := run_underlying t3; have u4 := run_underlying t4; have zE := zE
  have hz1 : ¬ ((m : Int) = 0) := by omega
  have hz2 : ¬ ((i : Int) = (n : Int)) := by omega
  have mixed := mixed
  have hw1 : IntKind.i64.wrap ((i : Int) + (m : Int)) = (i : Int) + (m : Int) := by rw [IntKind.wrap_i64]; omega
  have hw2 : IntKind.i64.wrap ((n : Int) + (m : Int)) = (n : Int) + (m : Int) := by rw [IntKind.wrap_i64]; omega
  have hb1 : (0 : Int) ≤ (i : Int) + (m : Int) := by omega
  have hin : i ≤ n := by omega
  have htn : ((i : Int) + (m : Int)).toNat = i + m := by omega
  have hb2 : ¬ (c = i + m) := by omega
  have hb3 : (i : Int) ≤ (n : Int) + (m : Int) := by omega
  have hb4 : ¬ (c = i) := by omega
  go_enter hf, nt
  go_wp2_with (simp only [hov])
  go_region_law_o (refine step_cp rfl _ _ 34 34 rfl _ _ (by simp [Act.eval, Act.put]) (by simp [Act.eval, Act.put]) (hcp1 _ _ _) ?_)
  go_wp2_with (at_builtin; refine wpList_cp _ rfl _ _ 34 34 rfl _ _ rfl rfl (hcp2 _ _) ?_)
  go_ret
  exact ⟨rfl, rfl⟩
set_option maxHeartbeats 4000000 in
set_option maxRecDepth 100000 in
theorem road_grow (b off n c i vb voff m vc h G : Nat) (hi : i < n) (hm : 0 < m) (hnc : n ≤ c) (hroom : c < n + m) (hG : n + m ≤ G) (hG63 : G ≤ 9223372036854775807) (w w1 w2 w3 : World) (x1 x2 : Value)
    (hrz : ∀ ty, (Builtin.append_ #[34, 3] ty #[.slice (some ⟨b, off, none⟩) i c, .int .i64 ((n : Int) + (m : Int) - (i : Int))]).run Try.prog w = .ok (.slice (some ⟨h, 0, none⟩) (n + m) G) w1)
    (hcpA : ∀ ty dc, (Builtin.copy_ #[34, 34] ty #[.slice (some ⟨h, i * 2, none⟩) (n + m - i) dc, .slice (some ⟨vb, voff, none⟩) m vc]).run Try.prog w1 = .ok x1 w2)
    (hcpB : ∀ ty dc sc, (Builtin.copy_ #[34, 34] ty #[.slice (some ⟨h, (i + m) * 2, none⟩) (n + m - (i + m)) dc, .slice (some ⟨b, off + i * 2, none⟩) (n - i) sc]).run Try.prog w2.drew = .ok x2 w3) :
    Calls Try.prog 109 #[.slice (some ⟨b, off, none⟩) n c, .int .i64 i, .slice (some ⟨vb, voff, none⟩) m vc] w fun e w'' => e = .returned (.slice (some ⟨h, 0, none⟩) (n + m) G) ∧ w'' = w3 := by
  have uS := run_underlying tS; have u3 := run_underlying t3; have u4 := run_underlying t4; have zE := zE
  have hz1 : ¬ ((m : Int) = 0) := by omega
  have hz2 : ¬ ((i : Int) = (n : Int)) := by omega
  have hz3 : (c : Int) < (n : Int) + (m : Int) := by omega
  have mixed := mixed
  have hGi : ¬ (G = i) := by omega
  have hGim : ¬ (G = i + m) := by omega
  have hci : ¬ (c = i) := by omega
  have hw1 : IntKind.i64.wrap ((i : Int) + (m : Int)) = (i : Int) + (m : Int) := by rw [IntKind.wrap_i64]; omega
  have hw2 : IntKind.i64.wrap ((n : Int) + (m : Int)) = (n : Int) + (m : Int) := by rw [IntKind.wrap_i64]; omega
  have hw3 : IntKind.i64.wrap ((n : Int) + (m : Int) - (i : Int)) = (n : Int) + (m : Int) - (i : Int) := by rw [IntKind.wrap_i64]; omega
  have hb1 : (0 : Int) ≤ (i : Int) + (m : Int) := by omega
  have hin : i ≤ n := by omega
  have htn : ((i : Int) + (m : Int)).toNat = i + m := by omega
  have hb3 : (i : Int) ≤ (n : Int) := by omega
  go_enter hf, nt
  go_wp2_with (first
    | (at_builtin; refine Lib.wpList_append_run _ rfl _ _ _ _ rfl _ _ rfl rfl _ _ (hrz _) ?_)
    | (at_builtin; refine wpList_cp _ rfl _ _ 34 34 rfl _ _ rfl rfl (hcpA _ _) ?_))
  go_region_law_o (refine step_cp rfl _ _ 34 34 rfl (.slice (some ⟨h, (i + m) * 2, none⟩) (n + m - (i + m)) (G - (i + m))) (.slice (some ⟨b, off + i * 2, none⟩) (n - i) (c - i)) (by simp [Act.eval, Act.put]) (by simp [Act.eval, Act.put]) (hcpB 3 (G - (i + m)) (c - i)) ?_)
  go_wp2
  go_ret
  exact ⟨rfl, rfl⟩
theorem hg : Try.prog.funcs[121]? = some Try.f121 := by kernel_rfl
theorem ov (w : World) (a b : Addr) (la ca lb cb : Nat) (hne : a.block ≠ b.block) (tA tB : TypeId) (kA kB : Nat) (h1 : w.shape? a.block = some (tA, kA)) (h2 : w.shape? b.block = some (tB, kB)) (h3 : kB ≠ 0) (h4 : w.frozen? a = false) (h5 : w.frozen? { block := a.block, off := kA } = false) :
    (callFunc 121 #[.slice (some a) la ca, .slice (some b) lb cb]).run Try.prog w = .ok (.value (.bool false)) w := by
  rw [run_callFunc_extern hg (by kernel_rfl) (by kernel_rfl) (by kernel_rfl) (e := Extern.SlicesOverlaps.overlaps #[34, 34] #[4]) (by kernel_rfl),
    Lib.run_overlaps_apart w 34 4 87 tS 2 zE a b la ca lb cb hne tA tB kA kB h1 h2 h3 h4 h5]
  rfl
theorem roads : InsRoads Try.prog 109 34 121 2 := ⟨⟨_, hf, by kernel_rfl, by kernel_rfl⟩, t3, ov, road_end, road_room, road_grow⟩
end ins109
end Go.Proofs.Ytpheniajdbbphaa.DI
