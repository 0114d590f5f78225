/- slices.Delete in this program (function 95): its road, the operations' runs given. -/
import Derived.Test.YtfaeklomiofpdaaDIDel
import Derived.Test.YtfaeklomiofpdaaProg
import Derived.WalkKit
import Derived.Shelf.RegionOpenPlain
import Derived.Lib.Walk
import Derived.Lib.SliceRun
import Derived.Lib.JoinLaws
import Derived.Lib.AppendZeros
import Derived.Lib.AppendZerosOnto
import Derived.Lib.Overlaps
import Derived.Laws.NewBlocks
import Derived.Laws.Externs
import Derived.Laws.IdiomCopy
namespace Go.Proofs.Ytfaeklomiofpdaa.DI
open Go Go.RowKit Go.Lib
set_option linter.unusedVariables false
set_option linter.unusedSimpArgs false
namespace del95
theorem step_ap {P : Program} {ops : Array Oper} {o : Oper} {a : Act} {w : World} {K : Act → World → Prop} {Q : Exit → Act → World → Prop} {E : Prop}
    (hg : o.guard = none) (d x : Operand) (dT sT : TypeId) (hop : o.op = Op.call { callee := Callee.builtin Builtin.append, args := #[d, x], argTypes := #[dT, sT] })
    (v u : Value) (hd : a.eval d = v) (hx : a.eval x = u) {v' : Value} {w' : World} (hr : (Builtin.append_ #[dT, sT] o.type #[v, u]).run P w = .ok v' w') (hK : K (a.put o.dst v') w') :
    if Region.wanted o (yielded ops a.tmps) = true then Oper.wp P o a w K Q else E := by
  have hw : Region.wanted o (yielded ops a.tmps) = true := by simp [Region.wanted, hg]
  rw [if_pos hw]
  unfold Oper.wp
  simp [execOp, hop, resolve, invoke, builtin, hd, hx, hr, Result.andThen]
  exact hK
theorem wpList_cl {P : Program} (w : World) {ops : Array Oper} {rest : List Oper} {o : Oper} {a : Act} {Q : Exit → Act → World → Prop} (hgd : o.guard = none) (d : Operand) (t : TypeId)
    (ho : o.op = .call { callee := .builtin .clear, args := #[d], argTypes := #[t] }) (v : Value) (hd : a.eval d = v) {v' : Value} {w' : World}
    (hr : (Builtin.clear_ #[t] o.type #[v]).run P w = .ok v' w') (h : wpList P ops Q rest (a.put o.dst v') w') : wpList P ops Q (o :: rest) a w :=
  wpList_plain hgd fun _ hK => by
    unfold Oper.wp execOp
    simp only [ho, resolve, invoke, builtin, Sem.run_bind, Sem.run_pure, Result.andThen_ok, List.map_toArray, List.map_cons, List.map_nil, hd, hr]
    exact hK _ _ h
theorem hf : Try.prog.funcs[95]? = some Try.f95 := by kernel_rfl
theorem nt : Try.f95.ntmps = 33 := by kernel_rfl
theorem tS : Try.prog.underlying 47 = some (.slice 63) := by kernel_rfl
theorem t3 : Try.prog.underlying 3 = some (.int .i64) := by kernel_rfl
theorem t4 : Try.prog.underlying 4 = some .bool := by kernel_rfl
theorem mixed : Try.prog.follows .mixedOrders = true := by kernel_rfl
theorem zE (w : World) : (Go.sizeOf 63).run Try.prog w = .ok 3 w := by
  have h : (Try.prog.info? 63).map (·.size) = some 3 := by kernel_rfl
  cases hi : Try.prog.info? 63 with
  | none => rw [hi] at h; cases h
  | some i =>
    rw [hi] at h
    simp only [Option.map_some, Option.some.injEq] at h
    simp [Go.sizeOf, typeInfo, hi, h]
set_option maxHeartbeats 4000000 in
set_option maxRecDepth 100000 in
set_option maxHeartbeats 4000000 in
set_option maxRecDepth 100000 in
theorem road (b off n c i j : Nat) (hij : i < j) (hjn : j ≤ n) (hnc : n ≤ c) (hn63 : n ≤ 9223372036854775807) (w w1 w2 : World) (x : Value)
    (hap : ∀ (ty : TypeId) (A : Addr), (c ≠ j → A = ⟨b, off + j * 3, none⟩) → (Builtin.append_ #[47, 47] ty #[.slice (some ⟨b, off, none⟩) i c, .slice (some A) (n - j) (c - j)]).run Try.prog w.drew = .ok (.slice (some ⟨b, off, none⟩) (i + (n - j)) c) w1)
    (hcl : ∀ ty : TypeId, (Builtin.clear_ #[47] ty #[.slice (some ⟨b, off + (i + (n - j)) * 3, none⟩) (n - (i + (n - j))) (c - (i + (n - j)))]).run Try.prog w1 = .ok x w2) :
    Calls Try.prog 95 #[.slice (some ⟨b, off, none⟩) n c, .int .i64 i, .int .i64 j] w fun e w'' => e = .returned (.slice (some ⟨b, off, none⟩) (i + (n - j)) c) ∧ w'' = w2 := by
  have uS := run_underlying tS; have u3 := run_underlying t3; have u4 := run_underlying t4; have zE := zE
  have mixed := mixed
  have h1 : ¬ ((i : Int) = (j : Int)) := by omega
  have h2 : ¬ (n = i) := by omega
  have h3 : ¬ (c = i + (n - j)) := by omega
  have h4 : i ≤ j := by omega
  have h5 : (i : Int) ≤ (j : Int) := by omega
  have h6 : (j : Int) ≤ (n : Int) := by omega
  have h7 : (n : Int) ≤ (c : Int) := by omega
  have h8 : (i : Int) ≤ (c : Int) := by omega
  have h9 : i + (n - j) ≤ n := by omega
  have h10 : ((i + (n - j) : Nat) : Int) ≤ (n : Int) := by omega
  have h11 : ((i : Int) + ((n - j : Nat) : Int)) ≤ (n : Int) := by omega
  have hj : j ≤ c := by omega
  have hi : i ≤ c := by omega
  by_cases hcj : c = j
  · have hA := fun ty => hap ty ⟨b, off, none⟩ (fun h => absurd hcj h)
    clear hap
    obtain rfl : n = j := by omega
    obtain rfl : c = n := by omega
    simp only [Nat.sub_self, Nat.add_zero] at hcl hA ⊢
    clear hcj h3 h9 h10 h11
    have h12 : ¬ (c = i) := by omega
    go_enter hf, nt
    go_wp2_with fail
    go_region_law_o (refine step_ap rfl _ _ 47 47 rfl _ _ (by simp [Act.eval, Act.put]) (by simp [Act.eval, Act.put]) (hA _) ?_)
    go_wp2_with (at_builtin; refine wpList_cl _ rfl _ 47 rfl _ rfl (hcl _) ?_)
    go_ret
    exact ⟨rfl, rfl⟩
  · have hA := fun ty => hap ty ⟨b, off + j * 3, none⟩ (fun _ => rfl)
    clear hap
    go_enter hf, nt
    go_wp2_with fail
    go_region_law_o (refine step_ap rfl _ _ 47 47 rfl _ _ (by simp [Act.eval, Act.put]) (by simp [Act.eval, Act.put]) (hA _) ?_)
    go_wp2_with (at_builtin; refine wpList_cl _ rfl _ 47 rfl _ rfl (hcl _) ?_)
    go_ret
    exact ⟨rfl, rfl⟩
theorem roads : DelRoads Try.prog 95 47 3 := ⟨⟨_, hf, by kernel_rfl, by kernel_rfl⟩, road⟩
end del95
end Go.Proofs.Ytfaeklomiofpdaa.DI
