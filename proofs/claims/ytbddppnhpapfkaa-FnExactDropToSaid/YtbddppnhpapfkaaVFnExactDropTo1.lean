/- FnExactDropTo: functions as plain Lean, in the machine of values. -/
import Derived.Test.YtbddppnhpapfkaaVFnExactDropTo0
namespace Go.Proofs.Ytbddppnhpapfkaa.DI
open Go
set_option linter.unusedVariables false
/-! laws.szRouteS -/
noncomputable def laws_szRouteS.c : Code := bodyOf Try.f15
def laws_szRouteS.h : Nat → Hint := look ⟨[], [], []⟩ []
def laws_szRouteS.ps : List PK := [.one, .one]
def laws_szRouteS.rs : List RK := [.one true]
def laws_szRouteS.vs : List ResultVar := [.tmp 4]
def laws_szRouteS.x : Cx := ⟨tt, look none []⟩
def laws_szRouteS.f (_k : Nat) (a0 : List (Int × Int × Int)) (a1 : Int) : Option (Int) :=
  (bif (decide ((IntKind.i64.wrap (a1 - (a0.length : Int))) < (0 : Int))) then some (-1 : Int) else some (IntKind.i64.wrap (a1 - (a0.length : Int))))
def laws_szRouteS.K : Ctr := ⟨laws_szRouteS.ps, laws_szRouteS.rs, false, (.two (.sl 81 (.two (.int .i64) (.two (.int .i64) (.int .i64)))) (.int .i64)), (.int .i64), fun k x => laws_szRouteS.f k x.1 x.2⟩
theorem laws_szRouteS.eq (k : Nat) (x : (laws_szRouteS.K.I).den) : func laws_szRouteS.x laws_szRouteS.h laws_szRouteS.ps laws_szRouteS.rs laws_szRouteS.vs laws_szRouteS.K.I laws_szRouteS.K.O laws_szRouteS.c k x = laws_szRouteS.K.run k x := by
  show _ = laws_szRouteS.f k x.1 x.2
  kernel_rfl
theorem laws_szRouteS.ok : CtrOk Try.prog 15 laws_szRouteS.K :=
  CtrOk.of (fn := Try.f15) (cd := laws_szRouteS.c) (cx := laws_szRouteS.x) (hs := laws_szRouteS.h) (by kernel_rfl) (by kernel_rfl) (by kernel_rfl) (by kernel_rfl) tt_ok (envOk_nil) (by kernel_rfl) (by kernel_rfl) (by kernel_rfl) (by kernel_rfl) fun k x r h => (laws_szRouteS.eq k x).trans h
/-! laws.toPrefix -/
noncomputable def laws_toPrefix.c : Code := bodyOf Try.f40
def laws_toPrefix.h : Nat → Hint := look ⟨[], [], []⟩ []
def laws_toPrefix.ps : List PK := [.agg 2]
def laws_toPrefix.rs : List RK := [.agg 2 true]
def laws_toPrefix.vs : List ResultVar := [.cell 2 40]
def laws_toPrefix.x : Cx := ⟨tt, look none []⟩
def laws_toPrefix.f (_k : Nat) (a0_0 : Int) (a0_1 : Int) : Option (Int × Int) :=
  some (a0_0, a0_1)
def laws_toPrefix.K : Ctr := ⟨laws_toPrefix.ps, laws_toPrefix.rs, false, (.two (.int .i64) (.int .i64)), (.two (.int .i64) (.int .i64)), fun k x => laws_toPrefix.f k x.1 x.2⟩
theorem laws_toPrefix.eq (k : Nat) (x : (laws_toPrefix.K.I).den) : func laws_toPrefix.x laws_toPrefix.h laws_toPrefix.ps laws_toPrefix.rs laws_toPrefix.vs laws_toPrefix.K.I laws_toPrefix.K.O laws_toPrefix.c k x = laws_toPrefix.K.run k x := by
  show _ = laws_toPrefix.f k x.1 x.2
  kernel_rfl
theorem laws_toPrefix.ok : CtrOk Try.prog 40 laws_toPrefix.K :=
  CtrOk.of (fn := Try.f40) (cd := laws_toPrefix.c) (cx := laws_toPrefix.x) (hs := laws_toPrefix.h) (by kernel_rfl) (by kernel_rfl) (by kernel_rfl) (by kernel_rfl) tt_ok (envOk_nil) (by kernel_rfl) (by kernel_rfl) (by kernel_rfl) (by kernel_rfl) fun k x r h => (laws_toPrefix.eq k x).trans h
/-! laws.toRoute -/
noncomputable def laws_toRoute.c : Code := bodyOf Try.f53
def laws_toRoute.h : Nat → Hint := look ⟨[], [], []⟩ []
def laws_toRoute.ps : List PK := [.agg 3]
def laws_toRoute.rs : List RK := [.agg 3 true]
def laws_toRoute.vs : List ResultVar := [.cell 2 65]
def laws_toRoute.x : Cx := ⟨tt, look none [(40, some laws_toPrefix.K)]⟩
def laws_toRoute.f (k : Nat) (a0_0 : Int) (a0_1 : Int) (a0_2 : Int) : Option (Int × Int × Int) :=
  (laws_toPrefix.f k a0_0 a0_1).bind fun r1 => some (r1.1, r1.2, a0_2)
def laws_toRoute.K : Ctr := ⟨laws_toRoute.ps, laws_toRoute.rs, false, (.two (.int .i64) (.two (.int .i64) (.int .i64))), (.two (.int .i64) (.two (.int .i64) (.int .i64))), fun k x => laws_toRoute.f k x.1 x.2.1 x.2.2⟩
theorem laws_toRoute.eq (k : Nat) (x : (laws_toRoute.K.I).den) : func laws_toRoute.x laws_toRoute.h laws_toRoute.ps laws_toRoute.rs laws_toRoute.vs laws_toRoute.K.I laws_toRoute.K.O laws_toRoute.c k x = laws_toRoute.K.run k x := by
  show _ = laws_toRoute.f k x.1 x.2.1 x.2.2
  kernel_rfl
theorem laws_toRoute.ok : CtrOk Try.prog 53 laws_toRoute.K :=
  CtrOk.of (fn := Try.f53) (cd := laws_toRoute.c) (cx := laws_toRoute.x) (hs := laws_toRoute.h) (by kernel_rfl) (by kernel_rfl) (by kernel_rfl) (by kernel_rfl) tt_ok (envOk_cons laws_toPrefix.ok (envOk_nil)) (by kernel_rfl) (by kernel_rfl) (by kernel_rfl) (by kernel_rfl) fun k x r h => (laws_toRoute.eq k x).trans h
/-! laws.toRouteS -/
noncomputable def laws_toRouteS.c : Code := bodyOf Try.f17
def laws_toRouteS.h : Nat → Hint := look ⟨[], [], []⟩ [(0, ⟨[0, 3, 4], [], [(.t 3, 368, 65, (.two (.int .i64) (.two (.int .i64) (.int .i64))))]⟩)]
def laws_toRouteS.ps : List PK := [.one]
def laws_toRouteS.rs : List RK := [.one true]
def laws_toRouteS.vs : List ResultVar := [.tmp 2]
def laws_toRouteS.x : Cx := ⟨tt, look none [(53, some laws_toRoute.K)]⟩
def laws_toRouteS.s0 (k : Nat) (rec0 : (Int × (List (Int × Int × Int)) × (List (Int × Int × Int))) → Option ((List (Int × Int × Int)))) (p : (Int × (List (Int × Int × Int)) × (List (Int × Int × Int)))) : Option ((List (Int × Int × Int))) :=
  (bif (decide (p.1 < (p.2.1.length : Int))) then (bif ((decide ((0 : Int) ≤ p.1)) && (decide (p.1 < (p.2.1.length : Int)))) then (p.2.1[p.1.toNat]?).bind fun x1 => (laws_toRoute.f k x1.1 x1.2.1 x1.2.2).bind fun r2 => (bif ((decide ((0 : Int) ≤ p.1)) && (decide (p.1 < (p.2.2.length : Int)))) then (p.2.2[p.1.toNat]?).bind fun x3 => rec0 ((IntKind.i64.wrap (p.1 + (1 : Int))), p.2.1, (p.2.2.set p.1.toNat (r2.1, r2.2.1, r2.2.2))) else none) else none) else some p.2.2)
def laws_toRouteS.l0 (k : Nat) : Nat → (Int × (List (Int × Int × Int)) × (List (Int × Int × Int))) → Option ((List (Int × Int × Int)))
  | 0 => fun _ => none
  | j + 1 => laws_toRouteS.s0 k (laws_toRouteS.l0 k j)
def laws_toRouteS.S0 (p : (Int × (List (Int × Int × Int)) × (List (Int × Int × Int)))) : DS := ⟨tl [(0, .at (.whole 0)), (3, .at (.whole 368)), (4, .at (.int .i64 p.1))], lookO [(0, .row 81 (.two (.int .i64) (.two (.int .i64) (.int .i64))) false p.2.1), (368, .row 65 (.two (.int .i64) (.two (.int .i64) (.int .i64))) true p.2.2)]⟩
noncomputable def laws_toRouteS.D0 (k : Nat) (j : Nat) (p : (Int × (List (Int × Int × Int)) × (List (Int × Int × Int)))) : Option ((List (Int × Int × Int))) := loopK (norm [0] (laws_toRouteS.h 0)) (runK laws_toRouteS.x k 0 [0] laws_toRouteS.h 0 (sub laws_toRouteS.c [1, 1, 0, 1, 0, 0])) j (laws_toRouteS.S0 p) (kBlk 0 (kSeq (runK laws_toRouteS.x k 0 [0] laws_toRouteS.h 0 (sub laws_toRouteS.c [1, 1, 1])) (fin tt laws_toRouteS.ps laws_toRouteS.rs laws_toRouteS.vs (.sl 65 (.two (.int .i64) (.two (.int .i64) (.int .i64)))))))
theorem laws_toRouteS.D0_eq (k : Nat) : ∀ j, laws_toRouteS.D0 k j = laws_toRouteS.l0 k j := by
  intro j
  induction j with
  | zero => rfl
  | succ j ih =>
    show _ = laws_toRouteS.s0 k (laws_toRouteS.l0 k j)
    rw [← ih]
    funext p
    kernel_rfl
def laws_toRouteS.f (k : Nat) (a0 : List (Int × Int × Int)) : Option ((List (Int × Int × Int))) :=
  (bif ((decide ((0 : Int) ≤ (a0.length : Int))) && decide ((a0.length : Int) * 24 ≤ 140737488355328)) then laws_toRouteS.l0 k k ((0 : Int), a0, (List.replicate (a0.length : Int).toNat ((0 : Int), (0 : Int), (0 : Int)))) else none)
def laws_toRouteS.K : Ctr := ⟨laws_toRouteS.ps, laws_toRouteS.rs, false, (.sl 81 (.two (.int .i64) (.two (.int .i64) (.int .i64)))), (.sl 65 (.two (.int .i64) (.two (.int .i64) (.int .i64)))), fun k x => laws_toRouteS.f k x⟩
theorem laws_toRouteS.eq (k : Nat) (x : (laws_toRouteS.K.I).den) : func laws_toRouteS.x laws_toRouteS.h laws_toRouteS.ps laws_toRouteS.rs laws_toRouteS.vs laws_toRouteS.K.I laws_toRouteS.K.O laws_toRouteS.c k x = laws_toRouteS.K.run k x := by
  show _ = laws_toRouteS.f k x
  unfold laws_toRouteS.f
  rw [← laws_toRouteS.D0_eq k k]
  kernel_rfl
theorem laws_toRouteS.ok : CtrOk Try.prog 17 laws_toRouteS.K :=
  CtrOk.of (fn := Try.f17) (cd := laws_toRouteS.c) (cx := laws_toRouteS.x) (hs := laws_toRouteS.h) (by kernel_rfl) (by kernel_rfl) (by kernel_rfl) (by kernel_rfl) tt_ok (envOk_cons laws_toRoute.ok (envOk_nil)) (by kernel_rfl) (by kernel_rfl) (by kernel_rfl) (by kernel_rfl) fun k x r h => (laws_toRouteS.eq k x).trans h
/-! spec.DropTo -/
noncomputable def spec_DropTo.c : Code := bodyOf Try.f16
def spec_DropTo.h : Nat → Hint := look ⟨[], [], []⟩ [(0, ⟨[0, 1, 5, 6], [], [(.t 5, 464, 65, (.two (.int .i64) (.two (.int .i64) (.int .i64))))]⟩)]
def spec_DropTo.ps : List PK := [.one, .one]
def spec_DropTo.rs : List RK := [.one true]
def spec_DropTo.vs : List ResultVar := [.tmp 4]
def spec_DropTo.x : Cx := ⟨tt, look none []⟩
def spec_DropTo.s0 (_k : Nat) (rec0 : (Int × Int × (List (Int × Int × Int)) × (List (Int × Int × Int))) → Option ((List (Int × Int × Int)))) (p : (Int × Int × (List (Int × Int × Int)) × (List (Int × Int × Int)))) : Option ((List (Int × Int × Int))) :=
  (bif (decide (p.2.1 < (p.2.2.1.length : Int))) then (bif ((decide ((0 : Int) ≤ p.2.1)) && (decide (p.2.1 < (p.2.2.1.length : Int)))) then (p.2.2.1[p.2.1.toNat]?).bind fun x1 => (bif (x1.2.2 != p.1) then (bif ((decide ((0 : Int) ≤ p.2.1)) && (decide (p.2.1 < (p.2.2.1.length : Int)))) then (p.2.2.1[p.2.1.toNat]?).bind fun x2 => (bif decide ((p.2.2.2.length + [(x2.1, x2.2.1, x2.2.2)].length) * 24 ≤ 140737488355328) then rec0 (p.1, (IntKind.i64.wrap (p.2.1 + (1 : Int))), p.2.2.1, (p.2.2.2 ++ [(x2.1, x2.2.1, x2.2.2)])) else none) else none) else rec0 (p.1, (IntKind.i64.wrap (p.2.1 + (1 : Int))), p.2.2.1, p.2.2.2)) else none) else some p.2.2.2)
def spec_DropTo.l0 (k : Nat) : Nat → (Int × Int × (List (Int × Int × Int)) × (List (Int × Int × Int))) → Option ((List (Int × Int × Int)))
  | 0 => fun _ => none
  | j + 1 => spec_DropTo.s0 k (spec_DropTo.l0 k j)
def spec_DropTo.S0 (p : (Int × Int × (List (Int × Int × Int)) × (List (Int × Int × Int)))) : DS := ⟨tl [(0, .at (.whole 0)), (1, .at (.int .i64 p.1)), (5, .at (.whole 464)), (6, .at (.int .i64 p.2.1))], lookO [(0, .row 65 (.two (.int .i64) (.two (.int .i64) (.int .i64))) false p.2.2.1), (464, .row 65 (.two (.int .i64) (.two (.int .i64) (.int .i64))) true p.2.2.2)]⟩
noncomputable def spec_DropTo.D0 (k : Nat) (j : Nat) (p : (Int × Int × (List (Int × Int × Int)) × (List (Int × Int × Int)))) : Option ((List (Int × Int × Int))) := loopK (norm [0] (spec_DropTo.h 0)) (runK spec_DropTo.x k 0 [0] spec_DropTo.h 0 (sub spec_DropTo.c [1, 1, 0, 1, 0, 0])) j (spec_DropTo.S0 p) (kBlk 0 (kSeq (runK spec_DropTo.x k 0 [0] spec_DropTo.h 0 (sub spec_DropTo.c [1, 1, 1])) (fin tt spec_DropTo.ps spec_DropTo.rs spec_DropTo.vs (.sl 65 (.two (.int .i64) (.two (.int .i64) (.int .i64)))))))
theorem spec_DropTo.D0_eq (k : Nat) : ∀ j, spec_DropTo.D0 k j = spec_DropTo.l0 k j := by
  intro j
  induction j with
  | zero => rfl
  | succ j ih =>
    show _ = spec_DropTo.s0 k (spec_DropTo.l0 k j)
    rw [← ih]
    funext p
    kernel_rfl
def spec_DropTo.f (k : Nat) (a0 : List (Int × Int × Int)) (a1 : Int) : Option ((List (Int × Int × Int))) :=
  spec_DropTo.l0 k k (a1, (0 : Int), a0, ([] : List (Int × Int × Int)))
def spec_DropTo.K : Ctr := ⟨spec_DropTo.ps, spec_DropTo.rs, false, (.two (.sl 65 (.two (.int .i64) (.two (.int .i64) (.int .i64)))) (.int .i64)), (.sl 65 (.two (.int .i64) (.two (.int .i64) (.int .i64)))), fun k x => spec_DropTo.f k x.1 x.2⟩
theorem spec_DropTo.eq (k : Nat) (x : (spec_DropTo.K.I).den) : func spec_DropTo.x spec_DropTo.h spec_DropTo.ps spec_DropTo.rs spec_DropTo.vs spec_DropTo.K.I spec_DropTo.K.O spec_DropTo.c k x = spec_DropTo.K.run k x := by
  show _ = spec_DropTo.f k x.1 x.2
  unfold spec_DropTo.f
  rw [← spec_DropTo.D0_eq k k]
  kernel_rfl
theorem spec_DropTo.ok : CtrOk Try.prog 16 spec_DropTo.K :=
  CtrOk.of (fn := Try.f16) (cd := spec_DropTo.c) (cx := spec_DropTo.x) (hs := spec_DropTo.h) (by kernel_rfl) (by kernel_rfl) (by kernel_rfl) (by kernel_rfl) tt_ok (envOk_nil) (by kernel_rfl) (by kernel_rfl) (by kernel_rfl) (by kernel_rfl) fun k x r h => (spec_DropTo.eq k x).trans h
/-! impl.copyRoutes -/
noncomputable def impl_copyRoutes.c : Code := bodyOf Try.f56
def impl_copyRoutes.h : Nat → Hint := look ⟨[], [], []⟩ []
def impl_copyRoutes.ps : List PK := [.one]
def impl_copyRoutes.rs : List RK := [.one true]
def impl_copyRoutes.vs : List ResultVar := [.tmp 2]
def impl_copyRoutes.x : Cx := ⟨tt, look none []⟩
def impl_copyRoutes.f (_k : Nat) (a0 : List (Int × Int × Int)) : Option ((List (Int × Int × Int))) :=
  (bif decide ((([] : List (Int × Int × Int)).length + a0.length) * 24 ≤ 140737488355328) then some (([] : List (Int × Int × Int)) ++ a0) else none)
def impl_copyRoutes.K : Ctr := ⟨impl_copyRoutes.ps, impl_copyRoutes.rs, false, (.sl 65 (.two (.int .i64) (.two (.int .i64) (.int .i64)))), (.sl 65 (.two (.int .i64) (.two (.int .i64) (.int .i64)))), fun k x => impl_copyRoutes.f k x⟩
theorem impl_copyRoutes.eq (k : Nat) (x : (impl_copyRoutes.K.I).den) : func impl_copyRoutes.x impl_copyRoutes.h impl_copyRoutes.ps impl_copyRoutes.rs impl_copyRoutes.vs impl_copyRoutes.K.I impl_copyRoutes.K.O impl_copyRoutes.c k x = impl_copyRoutes.K.run k x := by
  show _ = impl_copyRoutes.f k x
  kernel_rfl
theorem impl_copyRoutes.ok : CtrOk Try.prog 56 impl_copyRoutes.K :=
  CtrOk.of (fn := Try.f56) (cd := impl_copyRoutes.c) (cx := impl_copyRoutes.x) (hs := impl_copyRoutes.h) (by kernel_rfl) (by kernel_rfl) (by kernel_rfl) (by kernel_rfl) tt_ok (envOk_nil) (by kernel_rfl) (by kernel_rfl) (by kernel_rfl) (by kernel_rfl) fun k x r h => (impl_copyRoutes.eq k x).trans h
/-! impl.DropTo$1 -/
noncomputable def impl_DropTo_1.c : Code := bodyOf Try.f57
def impl_DropTo_1.h : Nat → Hint := look ⟨[], [], []⟩ []
def impl_DropTo_1.ps : List PK := [.agg 3, .box 3 1]
def impl_DropTo_1.rs : List RK := [.one true]
def impl_DropTo_1.vs : List ResultVar := [.tmp 3]
def impl_DropTo_1.x : Cx := ⟨tt, look none []⟩
def impl_DropTo_1.f (_k : Nat) (_a0_0 : Int) (_a0_1 : Int) (a0_2 : Int) (a1 : Int) : Option (Bool × Int) :=
  some ((a0_2 == a1), a1)
def impl_DropTo_1.K : Ctr := ⟨impl_DropTo_1.ps, impl_DropTo_1.rs, true, (.two (.int .i64) (.two (.int .i64) (.two (.int .i64) (.int .i64)))), (.two .bool (.int .i64)), fun k x => impl_DropTo_1.f k x.1 x.2.1 x.2.2.1 x.2.2.2⟩
theorem impl_DropTo_1.eq (k : Nat) (x : (impl_DropTo_1.K.I).den) : func impl_DropTo_1.x impl_DropTo_1.h impl_DropTo_1.ps impl_DropTo_1.rs impl_DropTo_1.vs impl_DropTo_1.K.I impl_DropTo_1.K.O impl_DropTo_1.c k x = impl_DropTo_1.K.run k x := by
  show _ = impl_DropTo_1.f k x.1 x.2.1 x.2.2.1 x.2.2.2
  kernel_rfl
theorem impl_DropTo_1.ok : CtrOk Try.prog 57 impl_DropTo_1.K :=
  CtrOk.of (fn := Try.f57) (cd := impl_DropTo_1.c) (cx := impl_DropTo_1.x) (hs := impl_DropTo_1.h) (by kernel_rfl) (by kernel_rfl) (by kernel_rfl) (by kernel_rfl) tt_ok (envOk_nil) (by kernel_rfl) (by kernel_rfl) (by kernel_rfl) (by kernel_rfl) fun k x r h => (impl_DropTo_1.eq k x).trans h
/-! slices.IndexFunc[[]impl.Route,impl.Route] -/
noncomputable def slices_IndexFunc_impl_Route_impl_Route_f57_r.c : Code := bodyOf Try.f101
def slices_IndexFunc_impl_Route_impl_Route_f57_r.h : Nat → Hint := look ⟨[], [], []⟩ [(0, ⟨[0, 1, 7, 8], [], []⟩)]
def slices_IndexFunc_impl_Route_impl_Route_f57_r.ps : List PK := [.row, .fnp 57 3 1]
def slices_IndexFunc_impl_Route_impl_Route_f57_r.rs : List RK := [.one true]
def slices_IndexFunc_impl_Route_impl_Route_f57_r.vs : List ResultVar := [.tmp 4]
def slices_IndexFunc_impl_Route_impl_Route_f57_r.x : Cx := ⟨tt, look none [(57, some impl_DropTo_1.K)]⟩
def slices_IndexFunc_impl_Route_impl_Route_f57_r.s0 (k : Nat) (rec0 : (Int × Int × (List (Int × Int × Int)) × Int) → Option (Int × (List (Int × Int × Int)) × Int)) (p : (Int × Int × (List (Int × Int × Int)) × Int)) : Option (Int × (List (Int × Int × Int)) × Int) :=
  (bif (decide (p.2.1 < p.1)) then (bif ((decide ((0 : Int) ≤ p.2.1)) && (decide (p.2.1 < (p.2.2.1.length : Int)))) then (p.2.2.1[p.2.1.toNat]?).bind fun x1 => (impl_DropTo_1.f k x1.1 x1.2.1 x1.2.2 p.2.2.2).bind fun r2 => (bif r2.1 then some (p.2.1, p.2.2.1, r2.2) else rec0 (p.1, (IntKind.i64.wrap (p.2.1 + (1 : Int))), p.2.2.1, r2.2)) else none) else some ((-1 : Int), p.2.2.1, p.2.2.2))
def slices_IndexFunc_impl_Route_impl_Route_f57_r.l0 (k : Nat) : Nat → (Int × Int × (List (Int × Int × Int)) × Int) → Option (Int × (List (Int × Int × Int)) × Int)
  | 0 => fun _ => none
  | j + 1 => slices_IndexFunc_impl_Route_impl_Route_f57_r.s0 k (slices_IndexFunc_impl_Route_impl_Route_f57_r.l0 k j)
def slices_IndexFunc_impl_Route_impl_Route_f57_r.S0 (p : (Int × Int × (List (Int × Int × Int)) × Int)) : DS := ⟨tl [(0, .at (.whole 0)), (1, .at (.fn 57 [(16, 0)])), (7, .at (.int .i64 p.1)), (8, .at (.int .i64 p.2.1))], lookO [(0, .row 65 (.two (.int .i64) (.two (.int .i64) (.int .i64))) true p.2.2.1), (16, .box 3 [.int .i64 p.2.2.2])]⟩
noncomputable def slices_IndexFunc_impl_Route_impl_Route_f57_r.D0 (k : Nat) (j : Nat) (p : (Int × Int × (List (Int × Int × Int)) × Int)) : Option (Int × (List (Int × Int × Int)) × Int) := loopK (norm [0, 16] (slices_IndexFunc_impl_Route_impl_Route_f57_r.h 0)) (runK slices_IndexFunc_impl_Route_impl_Route_f57_r.x k 0 [0, 16] slices_IndexFunc_impl_Route_impl_Route_f57_r.h 0 (sub slices_IndexFunc_impl_Route_impl_Route_f57_r.c [1, 0, 1, 0, 0])) j (slices_IndexFunc_impl_Route_impl_Route_f57_r.S0 p) (kBlk 0 (kSeq (runK slices_IndexFunc_impl_Route_impl_Route_f57_r.x k 0 [0, 16] slices_IndexFunc_impl_Route_impl_Route_f57_r.h 0 (sub slices_IndexFunc_impl_Route_impl_Route_f57_r.c [1, 1])) (fin tt slices_IndexFunc_impl_Route_impl_Route_f57_r.ps slices_IndexFunc_impl_Route_impl_Route_f57_r.rs slices_IndexFunc_impl_Route_impl_Route_f57_r.vs (.two (.int .i64) (.two (.sl 65 (.two (.int .i64) (.two (.int .i64) (.int .i64)))) (.int .i64))))))
theorem slices_IndexFunc_impl_Route_impl_Route_f57_r.D0_eq (k : Nat) : ∀ j, slices_IndexFunc_impl_Route_impl_Route_f57_r.D0 k j = slices_IndexFunc_impl_Route_impl_Route_f57_r.l0 k j := by
  intro j
  induction j with
  | zero => rfl
  | succ j ih =>
    show _ = slices_IndexFunc_impl_Route_impl_Route_f57_r.s0 k (slices_IndexFunc_impl_Route_impl_Route_f57_r.l0 k j)
    rw [← ih]
    funext p
    kernel_rfl
def slices_IndexFunc_impl_Route_impl_Route_f57_r.f (k : Nat) (a0 : List (Int × Int × Int)) (a1 : Int) : Option (Int × (List (Int × Int × Int)) × Int) :=
  slices_IndexFunc_impl_Route_impl_Route_f57_r.l0 k k ((a0.length : Int), (0 : Int), a0, a1)
def slices_IndexFunc_impl_Route_impl_Route_f57_r.K : Ctr := ⟨slices_IndexFunc_impl_Route_impl_Route_f57_r.ps, slices_IndexFunc_impl_Route_impl_Route_f57_r.rs, true, (.two (.sl 65 (.two (.int .i64) (.two (.int .i64) (.int .i64)))) (.int .i64)), (.two (.int .i64) (.two (.sl 65 (.two (.int .i64) (.two (.int .i64) (.int .i64)))) (.int .i64))), fun k x => slices_IndexFunc_impl_Route_impl_Route_f57_r.f k x.1 x.2⟩
theorem slices_IndexFunc_impl_Route_impl_Route_f57_r.eq (k : Nat) (x : (slices_IndexFunc_impl_Route_impl_Route_f57_r.K.I).den) : func slices_IndexFunc_impl_Route_impl_Route_f57_r.x slices_IndexFunc_impl_Route_impl_Route_f57_r.h slices_IndexFunc_impl_Route_impl_Route_f57_r.ps slices_IndexFunc_impl_Route_impl_Route_f57_r.rs slices_IndexFunc_impl_Route_impl_Route_f57_r.vs slices_IndexFunc_impl_Route_impl_Route_f57_r.K.I slices_IndexFunc_impl_Route_impl_Route_f57_r.K.O slices_IndexFunc_impl_Route_impl_Route_f57_r.c k x = slices_IndexFunc_impl_Route_impl_Route_f57_r.K.run k x := by
  show _ = slices_IndexFunc_impl_Route_impl_Route_f57_r.f k x.1 x.2
  unfold slices_IndexFunc_impl_Route_impl_Route_f57_r.f
  rw [← slices_IndexFunc_impl_Route_impl_Route_f57_r.D0_eq k k]
  kernel_rfl
theorem slices_IndexFunc_impl_Route_impl_Route_f57_r.ok : CtrOk Try.prog 101 slices_IndexFunc_impl_Route_impl_Route_f57_r.K :=
  CtrOk.of (fn := Try.f101) (cd := slices_IndexFunc_impl_Route_impl_Route_f57_r.c) (cx := slices_IndexFunc_impl_Route_impl_Route_f57_r.x) (hs := slices_IndexFunc_impl_Route_impl_Route_f57_r.h) (by kernel_rfl) (by kernel_rfl) (by kernel_rfl) (by kernel_rfl) tt_ok (envOk_cons impl_DropTo_1.ok (envOk_nil)) (by kernel_rfl) (by kernel_rfl) (by kernel_rfl) (by kernel_rfl) fun k x r h => (slices_IndexFunc_impl_Route_impl_Route_f57_r.eq k x).trans h
/-! slices.DeleteFunc[[]impl.Route,impl.Route] -/
noncomputable def slices_DeleteFunc_impl_Route_impl_Route_f57.c : Code := bodyOf Try.f55
def slices_DeleteFunc_impl_Route_impl_Route_f57.h : Nat → Hint := look ⟨[], [], []⟩ [(0, ⟨[0, 1, 5, 6], [], [(.t 0, 672, 65, (.two (.int .i64) (.two (.int .i64) (.int .i64))))]⟩)]
def slices_DeleteFunc_impl_Route_impl_Route_f57.ps : List PK := [.give, .fnp 57 3 1]
def slices_DeleteFunc_impl_Route_impl_Route_f57.rs : List RK := [.one true]
def slices_DeleteFunc_impl_Route_impl_Route_f57.vs : List ResultVar := [.tmp 4]
def slices_DeleteFunc_impl_Route_impl_Route_f57.x : Cx := ⟨tt, look none [(101, some slices_IndexFunc_impl_Route_impl_Route_f57_r.K), (57, some impl_DropTo_1.K)]⟩
def slices_DeleteFunc_impl_Route_impl_Route_f57.s0 (k : Nat) (rec0 : (Int × Int × Int × (List (Int × Int × Int))) → Option ((List (Int × Int × Int)) × Int)) (p : (Int × Int × Int × (List (Int × Int × Int)))) : Option ((List (Int × Int × Int)) × Int) :=
  (bif (decide (p.2.1 < (p.2.2.2.length : Int))) then (bif ((decide ((0 : Int) ≤ p.2.1)) && (decide (p.2.1 < (p.2.2.2.length : Int)))) then (p.2.2.2[p.2.1.toNat]?).bind fun x2 => (impl_DropTo_1.f k x2.1 x2.2.1 x2.2.2 p.2.2.1).bind fun r3 => (bif (!r3.1) then (bif ((decide ((0 : Int) ≤ p.1)) && (decide (p.1 < (p.2.2.2.length : Int)))) then (p.2.2.2[p.1.toNat]?).bind fun x4 => rec0 ((IntKind.i64.wrap (p.1 + (1 : Int))), (IntKind.i64.wrap (p.2.1 + (1 : Int))), r3.2, (p.2.2.2.set p.1.toNat (x2.1, x2.2.1, x2.2.2))) else none) else rec0 (p.1, (IntKind.i64.wrap (p.2.1 + (1 : Int))), r3.2, p.2.2.2)) else none) else (bif ((decide ((0 : Int) ≤ p.1)) && (decide (p.1 ≤ (p.2.2.2.length : Int)))) then (bif ((decide ((0 : Int) ≤ p.1)) && (decide (p.1 ≤ ((p.2.2.2.take p.1.toNat ++ (List.replicate (p.2.2.2.length - p.1.toNat) ((0 : Int), (0 : Int), (0 : Int)) ++ p.2.2.2.drop (p.1.toNat + (p.2.2.2.length - p.1.toNat)))).length : Int)))) then some (((p.2.2.2.take p.1.toNat ++ (List.replicate (p.2.2.2.length - p.1.toNat) ((0 : Int), (0 : Int), (0 : Int)) ++ p.2.2.2.drop (p.1.toNat + (p.2.2.2.length - p.1.toNat)))).take p.1.toNat), p.2.2.1) else none) else none))
def slices_DeleteFunc_impl_Route_impl_Route_f57.l0 (k : Nat) : Nat → (Int × Int × Int × (List (Int × Int × Int))) → Option ((List (Int × Int × Int)) × Int)
  | 0 => fun _ => none
  | j + 1 => slices_DeleteFunc_impl_Route_impl_Route_f57.s0 k (slices_DeleteFunc_impl_Route_impl_Route_f57.l0 k j)
def slices_DeleteFunc_impl_Route_impl_Route_f57.S0 (p : (Int × Int × Int × (List (Int × Int × Int)))) : DS := ⟨tl [(0, .at (.whole 672)), (1, .at (.fn 57 [(16, 0)])), (5, .at (.int .i64 p.1)), (6, .at (.int .i64 p.2.1))], lookO [(16, .box 3 [.int .i64 p.2.2.1]), (672, .row 65 (.two (.int .i64) (.two (.int .i64) (.int .i64))) true p.2.2.2)]⟩
noncomputable def slices_DeleteFunc_impl_Route_impl_Route_f57.D0 (k : Nat) (j : Nat) (p : (Int × Int × Int × (List (Int × Int × Int)))) : Option ((List (Int × Int × Int)) × Int) := loopK (norm [16] (slices_DeleteFunc_impl_Route_impl_Route_f57.h 0)) (runK slices_DeleteFunc_impl_Route_impl_Route_f57.x k 0 [16] slices_DeleteFunc_impl_Route_impl_Route_f57.h 0 (sub slices_DeleteFunc_impl_Route_impl_Route_f57.c [1, 1, 1, 0, 1, 0, 0])) j (slices_DeleteFunc_impl_Route_impl_Route_f57.S0 p) (kBlk 0 (kSeq (runK slices_DeleteFunc_impl_Route_impl_Route_f57.x k 0 [16] slices_DeleteFunc_impl_Route_impl_Route_f57.h 0 (sub slices_DeleteFunc_impl_Route_impl_Route_f57.c [1, 1, 1, 1])) (fin tt slices_DeleteFunc_impl_Route_impl_Route_f57.ps slices_DeleteFunc_impl_Route_impl_Route_f57.rs slices_DeleteFunc_impl_Route_impl_Route_f57.vs (.two (.sl 65 (.two (.int .i64) (.two (.int .i64) (.int .i64)))) (.int .i64)))))
theorem slices_DeleteFunc_impl_Route_impl_Route_f57.D0_eq (k : Nat) : ∀ j, slices_DeleteFunc_impl_Route_impl_Route_f57.D0 k j = slices_DeleteFunc_impl_Route_impl_Route_f57.l0 k j := by
  intro j
  induction j with
  | zero => rfl
  | succ j ih =>
    show _ = slices_DeleteFunc_impl_Route_impl_Route_f57.s0 k (slices_DeleteFunc_impl_Route_impl_Route_f57.l0 k j)
    rw [← ih]
    funext p
    kernel_rfl
def slices_DeleteFunc_impl_Route_impl_Route_f57.f (k : Nat) (a0 : List (Int × Int × Int)) (a1 : Int) : Option ((List (Int × Int × Int)) × Int) :=
  (slices_IndexFunc_impl_Route_impl_Route_f57_r.f k a0 a1).bind fun r1 => (bif (r1.1 == (-1 : Int)) then some (r1.2.1, r1.2.2) else slices_DeleteFunc_impl_Route_impl_Route_f57.l0 k k (r1.1, (IntKind.i64.wrap (r1.1 + (1 : Int))), r1.2.2, r1.2.1))
def slices_DeleteFunc_impl_Route_impl_Route_f57.K : Ctr := ⟨slices_DeleteFunc_impl_Route_impl_Route_f57.ps, slices_DeleteFunc_impl_Route_impl_Route_f57.rs, true, (.two (.sl 65 (.two (.int .i64) (.two (.int .i64) (.int .i64)))) (.int .i64)), (.two (.sl 65 (.two (.int .i64) (.two (.int .i64) (.int .i64)))) (.int .i64)), fun k x => slices_DeleteFunc_impl_Route_impl_Route_f57.f k x.1 x.2⟩
theorem slices_DeleteFunc_impl_Route_impl_Route_f57.eq (k : Nat) (x : (slices_DeleteFunc_impl_Route_impl_Route_f57.K.I).den) : func slices_DeleteFunc_impl_Route_impl_Route_f57.x slices_DeleteFunc_impl_Route_impl_Route_f57.h slices_DeleteFunc_impl_Route_impl_Route_f57.ps slices_DeleteFunc_impl_Route_impl_Route_f57.rs slices_DeleteFunc_impl_Route_impl_Route_f57.vs slices_DeleteFunc_impl_Route_impl_Route_f57.K.I slices_DeleteFunc_impl_Route_impl_Route_f57.K.O slices_DeleteFunc_impl_Route_impl_Route_f57.c k x = slices_DeleteFunc_impl_Route_impl_Route_f57.K.run k x := by
  show _ = slices_DeleteFunc_impl_Route_impl_Route_f57.f k x.1 x.2
  unfold slices_DeleteFunc_impl_Route_impl_Route_f57.f
  rw [← slices_DeleteFunc_impl_Route_impl_Route_f57.D0_eq k k]
  kernel_rfl
theorem slices_DeleteFunc_impl_Route_impl_Route_f57.ok : CtrOk Try.prog 55 slices_DeleteFunc_impl_Route_impl_Route_f57.K :=
  CtrOk.of (fn := Try.f55) (cd := slices_DeleteFunc_impl_Route_impl_Route_f57.c) (cx := slices_DeleteFunc_impl_Route_impl_Route_f57.x) (hs := slices_DeleteFunc_impl_Route_impl_Route_f57.h) (by kernel_rfl) (by kernel_rfl) (by kernel_rfl) (by kernel_rfl) tt_ok (envOk_cons slices_IndexFunc_impl_Route_impl_Route_f57_r.ok (envOk_cons impl_DropTo_1.ok (envOk_nil))) (by kernel_rfl) (by kernel_rfl) (by kernel_rfl) (by kernel_rfl) fun k x r h => (slices_DeleteFunc_impl_Route_impl_Route_f57.eq k x).trans h
/-! impl.DropTo -/
noncomputable def impl_DropTo.c : Code := bodyOf Try.f18
def impl_DropTo.h : Nat → Hint := look ⟨[], [], []⟩ []
def impl_DropTo.ps : List PK := [.one, .one]
def impl_DropTo.rs : List RK := [.one true]
def impl_DropTo.vs : List ResultVar := [.tmp 4]
def impl_DropTo.x : Cx := ⟨tt, look none [(56, some impl_copyRoutes.K), (55, some slices_DeleteFunc_impl_Route_impl_Route_f57.K)]⟩
def impl_DropTo.f (k : Nat) (a0 : List (Int × Int × Int)) (a1 : Int) : Option ((List (Int × Int × Int))) :=
  (impl_copyRoutes.f k a0).bind fun r1 => (slices_DeleteFunc_impl_Route_impl_Route_f57.f k r1 a1).bind fun r2 => some r2.1
def impl_DropTo.K : Ctr := ⟨impl_DropTo.ps, impl_DropTo.rs, false, (.two (.sl 65 (.two (.int .i64) (.two (.int .i64) (.int .i64)))) (.int .i64)), (.sl 65 (.two (.int .i64) (.two (.int .i64) (.int .i64)))), fun k x => impl_DropTo.f k x.1 x.2⟩
theorem impl_DropTo.eq (k : Nat) (x : (impl_DropTo.K.I).den) : func impl_DropTo.x impl_DropTo.h impl_DropTo.ps impl_DropTo.rs impl_DropTo.vs impl_DropTo.K.I impl_DropTo.K.O impl_DropTo.c k x = impl_DropTo.K.run k x := by
  show _ = impl_DropTo.f k x.1 x.2
  kernel_rfl
theorem impl_DropTo.ok : CtrOk Try.prog 18 impl_DropTo.K :=
  CtrOk.of (fn := Try.f18) (cd := impl_DropTo.c) (cx := impl_DropTo.x) (hs := impl_DropTo.h) (by kernel_rfl) (by kernel_rfl) (by kernel_rfl) (by kernel_rfl) tt_ok (envOk_cons impl_copyRoutes.ok (envOk_cons slices_DeleteFunc_impl_Route_impl_Route_f57.ok (envOk_nil))) (by kernel_rfl) (by kernel_rfl) (by kernel_rfl) (by kernel_rfl) fun k x r h => (impl_DropTo.eq k x).trans h
/-! laws.eqPrefix -/
noncomputable def laws_eqPrefix.c : Code := bodyOf Try.f69
def laws_eqPrefix.h : Nat → Hint := look ⟨[], [], []⟩ []
def laws_eqPrefix.ps : List PK := [.agg 2, .agg 2]
def laws_eqPrefix.rs : List RK := [.one true]
def laws_eqPrefix.vs : List ResultVar := [.tmp 4]
def laws_eqPrefix.x : Cx := ⟨tt, look none []⟩
def laws_eqPrefix.f (_k : Nat) (a0_0 : Int) (a0_1 : Int) (a1_0 : Int) (a1_1 : Int) : Option (Bool) :=
  (bif (a0_0 != a1_0) then some false else (bif (a0_1 != a1_1) then some false else some true))
def laws_eqPrefix.K : Ctr := ⟨laws_eqPrefix.ps, laws_eqPrefix.rs, false, (.two (.int .i64) (.two (.int .i64) (.two (.int .i64) (.int .i64)))), .bool, fun k x => laws_eqPrefix.f k x.1 x.2.1 x.2.2.1 x.2.2.2⟩
theorem laws_eqPrefix.eq (k : Nat) (x : (laws_eqPrefix.K.I).den) : func laws_eqPrefix.x laws_eqPrefix.h laws_eqPrefix.ps laws_eqPrefix.rs laws_eqPrefix.vs laws_eqPrefix.K.I laws_eqPrefix.K.O laws_eqPrefix.c k x = laws_eqPrefix.K.run k x := by
  show _ = laws_eqPrefix.f k x.1 x.2.1 x.2.2.1 x.2.2.2
  kernel_rfl
theorem laws_eqPrefix.ok : CtrOk Try.prog 69 laws_eqPrefix.K :=
  CtrOk.of (fn := Try.f69) (cd := laws_eqPrefix.c) (cx := laws_eqPrefix.x) (hs := laws_eqPrefix.h) (by kernel_rfl) (by kernel_rfl) (by kernel_rfl) (by kernel_rfl) tt_ok (envOk_nil) (by kernel_rfl) (by kernel_rfl) (by kernel_rfl) (by kernel_rfl) fun k x r h => (laws_eqPrefix.eq k x).trans h
/-! laws.eqRoute -/
noncomputable def laws_eqRoute.c : Code := bodyOf Try.f58
def laws_eqRoute.h : Nat → Hint := look ⟨[], [], []⟩ []
def laws_eqRoute.ps : List PK := [.agg 3, .agg 3]
def laws_eqRoute.rs : List RK := [.one true]
def laws_eqRoute.vs : List ResultVar := [.tmp 4]
def laws_eqRoute.x : Cx := ⟨tt, look none [(69, some laws_eqPrefix.K)]⟩
def laws_eqRoute.f (k : Nat) (a0_0 : Int) (a0_1 : Int) (a0_2 : Int) (a1_0 : Int) (a1_1 : Int) (a1_2 : Int) : Option (Bool) :=
  (laws_eqPrefix.f k a0_0 a0_1 a1_0 a1_1).bind fun r1 => (bif (!r1) then some false else (bif (a0_2 != a1_2) then some false else some true))
def laws_eqRoute.K : Ctr := ⟨laws_eqRoute.ps, laws_eqRoute.rs, false, (.two (.int .i64) (.two (.int .i64) (.two (.int .i64) (.two (.int .i64) (.two (.int .i64) (.int .i64)))))), .bool, fun k x => laws_eqRoute.f k x.1 x.2.1 x.2.2.1 x.2.2.2.1 x.2.2.2.2.1 x.2.2.2.2.2⟩
theorem laws_eqRoute.eq (k : Nat) (x : (laws_eqRoute.K.I).den) : func laws_eqRoute.x laws_eqRoute.h laws_eqRoute.ps laws_eqRoute.rs laws_eqRoute.vs laws_eqRoute.K.I laws_eqRoute.K.O laws_eqRoute.c k x = laws_eqRoute.K.run k x := by
  show _ = laws_eqRoute.f k x.1 x.2.1 x.2.2.1 x.2.2.2.1 x.2.2.2.2.1 x.2.2.2.2.2
  kernel_rfl
theorem laws_eqRoute.ok : CtrOk Try.prog 58 laws_eqRoute.K :=
  CtrOk.of (fn := Try.f58) (cd := laws_eqRoute.c) (cx := laws_eqRoute.x) (hs := laws_eqRoute.h) (by kernel_rfl) (by kernel_rfl) (by kernel_rfl) (by kernel_rfl) tt_ok (envOk_cons laws_eqPrefix.ok (envOk_nil)) (by kernel_rfl) (by kernel_rfl) (by kernel_rfl) (by kernel_rfl) fun k x r h => (laws_eqRoute.eq k x).trans h
/-! laws.eqRouteS -/
noncomputable def laws_eqRouteS.c : Code := bodyOf Try.f19
def laws_eqRouteS.h : Nat → Hint := look ⟨[], [], []⟩ [(0, ⟨[0, 1, 5], [], []⟩)]
def laws_eqRouteS.ps : List PK := [.one, .one]
def laws_eqRouteS.rs : List RK := [.one true]
def laws_eqRouteS.vs : List ResultVar := [.tmp 4]
def laws_eqRouteS.x : Cx := ⟨tt, look none [(58, some laws_eqRoute.K)]⟩
def laws_eqRouteS.s0 (k : Nat) (rec0 : (Int × (List (Int × Int × Int)) × (List (Int × Int × Int))) → Option (Bool)) (p : (Int × (List (Int × Int × Int)) × (List (Int × Int × Int)))) : Option (Bool) :=
  (bif (decide (p.1 < (p.2.1.length : Int))) then (bif ((decide ((0 : Int) ≤ p.1)) && (decide (p.1 < (p.2.1.length : Int)))) then (p.2.1[p.1.toNat]?).bind fun x1 => (bif ((decide ((0 : Int) ≤ p.1)) && (decide (p.1 < (p.2.2.length : Int)))) then (p.2.2[p.1.toNat]?).bind fun x2 => (laws_eqRoute.f k x1.1 x1.2.1 x1.2.2 x2.1 x2.2.1 x2.2.2).bind fun r3 => (bif (!r3) then some false else rec0 ((IntKind.i64.wrap (p.1 + (1 : Int))), p.2.1, p.2.2)) else none) else none) else some true)
def laws_eqRouteS.l0 (k : Nat) : Nat → (Int × (List (Int × Int × Int)) × (List (Int × Int × Int))) → Option (Bool)
  | 0 => fun _ => none
  | j + 1 => laws_eqRouteS.s0 k (laws_eqRouteS.l0 k j)
def laws_eqRouteS.S0 (p : (Int × (List (Int × Int × Int)) × (List (Int × Int × Int)))) : DS := ⟨tl [(0, .at (.whole 0)), (1, .at (.whole 16)), (5, .at (.int .i64 p.1))], lookO [(0, .row 65 (.two (.int .i64) (.two (.int .i64) (.int .i64))) false p.2.1), (16, .row 65 (.two (.int .i64) (.two (.int .i64) (.int .i64))) false p.2.2)]⟩
noncomputable def laws_eqRouteS.D0 (k : Nat) (j : Nat) (p : (Int × (List (Int × Int × Int)) × (List (Int × Int × Int)))) : Option (Bool) := loopK (norm [0, 16] (laws_eqRouteS.h 0)) (runK laws_eqRouteS.x k 0 [0, 16] laws_eqRouteS.h 0 (sub laws_eqRouteS.c [1, 1, 0, 1, 0, 0])) j (laws_eqRouteS.S0 p) (kBlk 0 (kSeq (runK laws_eqRouteS.x k 0 [0, 16] laws_eqRouteS.h 0 (sub laws_eqRouteS.c [1, 1, 1])) (fin tt laws_eqRouteS.ps laws_eqRouteS.rs laws_eqRouteS.vs .bool)))
theorem laws_eqRouteS.D0_eq (k : Nat) : ∀ j, laws_eqRouteS.D0 k j = laws_eqRouteS.l0 k j := by
  intro j
  induction j with
  | zero => rfl
  | succ j ih =>
    show _ = laws_eqRouteS.s0 k (laws_eqRouteS.l0 k j)
    rw [← ih]
    funext p
    kernel_rfl
def laws_eqRouteS.f (k : Nat) (a0 : List (Int × Int × Int)) (a1 : List (Int × Int × Int)) : Option (Bool) :=
  (bif ((a0.length : Int) != (a1.length : Int)) then some false else laws_eqRouteS.l0 k k ((0 : Int), a0, a1))
def laws_eqRouteS.K : Ctr := ⟨laws_eqRouteS.ps, laws_eqRouteS.rs, false, (.two (.sl 65 (.two (.int .i64) (.two (.int .i64) (.int .i64)))) (.sl 65 (.two (.int .i64) (.two (.int .i64) (.int .i64))))), .bool, fun k x => laws_eqRouteS.f k x.1 x.2⟩
theorem laws_eqRouteS.eq (k : Nat) (x : (laws_eqRouteS.K.I).den) : func laws_eqRouteS.x laws_eqRouteS.h laws_eqRouteS.ps laws_eqRouteS.rs laws_eqRouteS.vs laws_eqRouteS.K.I laws_eqRouteS.K.O laws_eqRouteS.c k x = laws_eqRouteS.K.run k x := by
  show _ = laws_eqRouteS.f k x.1 x.2
  unfold laws_eqRouteS.f
  rw [← laws_eqRouteS.D0_eq k k]
  kernel_rfl
theorem laws_eqRouteS.ok : CtrOk Try.prog 19 laws_eqRouteS.K :=
  CtrOk.of (fn := Try.f19) (cd := laws_eqRouteS.c) (cx := laws_eqRouteS.x) (hs := laws_eqRouteS.h) (by kernel_rfl) (by kernel_rfl) (by kernel_rfl) (by kernel_rfl) tt_ok (envOk_cons laws_eqRoute.ok (envOk_nil)) (by kernel_rfl) (by kernel_rfl) (by kernel_rfl) (by kernel_rfl) fun k x r h => (laws_eqRouteS.eq k x).trans h
/-! laws.markRouteS -/
noncomputable def laws_markRouteS.c : Code := bodyOf Try.f20
def laws_markRouteS.h : Nat → Hint := look ⟨[], [], []⟩ [(0, ⟨[0, 1, 5], [], []⟩)]
def laws_markRouteS.ps : List PK := [.row, .one]
def laws_markRouteS.rs : List RK := [.one true]
def laws_markRouteS.vs : List ResultVar := [.tmp 4]
def laws_markRouteS.x : Cx := ⟨tt, look none []⟩
def laws_markRouteS.s0 (_k : Nat) (rec0 : (Int × Int × (List (Int × Int × Int))) → Option (Int × (List (Int × Int × Int)))) (p : (Int × Int × (List (Int × Int × Int)))) : Option (Int × (List (Int × Int × Int))) :=
  (bif (decide (p.2.1 < (p.2.2.length : Int))) then (bif ((decide ((0 : Int) ≤ p.2.1)) && (decide (p.2.1 < (p.2.2.length : Int)))) then (p.2.2[p.2.1.toNat]?).bind fun x1 => (bif ((decide ((0 : Int) ≤ p.2.1)) && (decide (p.2.1 < ((p.2.2.set p.2.1.toNat (p.1, x1.2)).length : Int)))) then ((p.2.2.set p.2.1.toNat (p.1, x1.2))[p.2.1.toNat]?).bind fun x2 => (bif ((decide ((0 : Int) ≤ p.2.1)) && (decide (p.2.1 < (((p.2.2.set p.2.1.toNat (p.1, x1.2)).set p.2.1.toNat (x2.1, (IntKind.i64.wrap (p.1 + (1 : Int))), x2.2.2)).length : Int)))) then (((p.2.2.set p.2.1.toNat (p.1, x1.2)).set p.2.1.toNat (x2.1, (IntKind.i64.wrap (p.1 + (1 : Int))), x2.2.2))[p.2.1.toNat]?).bind fun x3 => rec0 ((IntKind.i64.wrap ((IntKind.i64.wrap ((IntKind.i64.wrap (p.1 + (1 : Int))) + (1 : Int))) + (1 : Int))), (IntKind.i64.wrap (p.2.1 + (1 : Int))), (((p.2.2.set p.2.1.toNat (p.1, x1.2)).set p.2.1.toNat (x2.1, (IntKind.i64.wrap (p.1 + (1 : Int))), x2.2.2)).set p.2.1.toNat (x3.1, x3.2.1, (IntKind.i64.wrap ((IntKind.i64.wrap (p.1 + (1 : Int))) + (1 : Int)))))) else none) else none) else none) else some (p.1, p.2.2))
def laws_markRouteS.l0 (k : Nat) : Nat → (Int × Int × (List (Int × Int × Int))) → Option (Int × (List (Int × Int × Int)))
  | 0 => fun _ => none
  | j + 1 => laws_markRouteS.s0 k (laws_markRouteS.l0 k j)
def laws_markRouteS.S0 (p : (Int × Int × (List (Int × Int × Int)))) : DS := ⟨tl [(0, .at (.whole 0)), (1, .at (.int .i64 p.1)), (5, .at (.int .i64 p.2.1))], lookO [(0, .row 65 (.two (.int .i64) (.two (.int .i64) (.int .i64))) true p.2.2)]⟩
noncomputable def laws_markRouteS.D0 (k : Nat) (j : Nat) (p : (Int × Int × (List (Int × Int × Int)))) : Option (Int × (List (Int × Int × Int))) := loopK (norm [0] (laws_markRouteS.h 0)) (runK laws_markRouteS.x k 0 [0] laws_markRouteS.h 0 (sub laws_markRouteS.c [1, 0, 1, 0, 0])) j (laws_markRouteS.S0 p) (kBlk 0 (kSeq (runK laws_markRouteS.x k 0 [0] laws_markRouteS.h 0 (sub laws_markRouteS.c [1, 1])) (fin tt laws_markRouteS.ps laws_markRouteS.rs laws_markRouteS.vs (.two (.int .i64) (.sl 65 (.two (.int .i64) (.two (.int .i64) (.int .i64))))))))
theorem laws_markRouteS.D0_eq (k : Nat) : ∀ j, laws_markRouteS.D0 k j = laws_markRouteS.l0 k j := by
  intro j
  induction j with
  | zero => rfl
  | succ j ih =>
    show _ = laws_markRouteS.s0 k (laws_markRouteS.l0 k j)
    rw [← ih]
    funext p
    kernel_rfl
def laws_markRouteS.f (k : Nat) (a0 : List (Int × Int × Int)) (a1 : Int) : Option (Int × (List (Int × Int × Int))) :=
  laws_markRouteS.l0 k k (a1, (0 : Int), a0)
def laws_markRouteS.K : Ctr := ⟨laws_markRouteS.ps, laws_markRouteS.rs, false, (.two (.sl 65 (.two (.int .i64) (.two (.int .i64) (.int .i64)))) (.int .i64)), (.two (.int .i64) (.sl 65 (.two (.int .i64) (.two (.int .i64) (.int .i64))))), fun k x => laws_markRouteS.f k x.1 x.2⟩
theorem laws_markRouteS.eq (k : Nat) (x : (laws_markRouteS.K.I).den) : func laws_markRouteS.x laws_markRouteS.h laws_markRouteS.ps laws_markRouteS.rs laws_markRouteS.vs laws_markRouteS.K.I laws_markRouteS.K.O laws_markRouteS.c k x = laws_markRouteS.K.run k x := by
  show _ = laws_markRouteS.f k x.1 x.2
  unfold laws_markRouteS.f
  rw [← laws_markRouteS.D0_eq k k]
  kernel_rfl
theorem laws_markRouteS.ok : CtrOk Try.prog 20 laws_markRouteS.K :=
  CtrOk.of (fn := Try.f20) (cd := laws_markRouteS.c) (cx := laws_markRouteS.x) (hs := laws_markRouteS.h) (by kernel_rfl) (by kernel_rfl) (by kernel_rfl) (by kernel_rfl) tt_ok (envOk_nil) (by kernel_rfl) (by kernel_rfl) (by kernel_rfl) (by kernel_rfl) fun k x r h => (laws_markRouteS.eq k x).trans h
end Go.Proofs.Ytbddppnhpapfkaa.DI
