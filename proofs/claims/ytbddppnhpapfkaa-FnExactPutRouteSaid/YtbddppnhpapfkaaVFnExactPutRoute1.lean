/- FnExactPutRoute: functions as plain Lean, in the machine of values. -/
import Derived.Test.YtbddppnhpapfkaaVFnExactPutRoute0
namespace Go.Proofs.Ytbddppnhpapfkaa.DI
open Go
set_option linter.unusedVariables false
/-! laws.szRouteS -/
noncomputable def laws_szRouteS.c : Code := bodyOf Try.f15
def laws_szRouteS.h : Nat → Hint := look ⟨[], [], []⟩ []
def laws_szRouteS.ps : List PK := [.one, .one]
def laws_szRouteS.rs : List RK := [.one true]
def laws_szRouteS.vs : List ResultVar := [.tmp 4]
def laws_szRouteS.x : Cx := ⟨tt, look none []⟩
def laws_szRouteS.f (_k : Nat) (a0 : List (Int × Int × Int)) (a1 : Int) : Option (Int) :=
  (bif (decide ((IntKind.i64.wrap (a1 - (a0.length : Int))) < (0 : Int))) then some (-1 : Int) else some (IntKind.i64.wrap (a1 - (a0.length : Int))))
def laws_szRouteS.K : Ctr := ⟨laws_szRouteS.ps, laws_szRouteS.rs, false, (.two (.sl 81 (.two (.int .i64) (.two (.int .i64) (.int .i64)))) (.int .i64)), (.int .i64), fun k x => laws_szRouteS.f k x.1 x.2⟩
theorem laws_szRouteS.eq (k : Nat) (x : (laws_szRouteS.K.I).den) : func laws_szRouteS.x laws_szRouteS.h laws_szRouteS.ps laws_szRouteS.rs laws_szRouteS.vs laws_szRouteS.K.I laws_szRouteS.K.O laws_szRouteS.c k x = laws_szRouteS.K.run k x := by
  show _ = laws_szRouteS.f k x.1 x.2
  kernel_rfl
theorem laws_szRouteS.ok : CtrOk Try.prog 15 laws_szRouteS.K :=
  CtrOk.of (fn := Try.f15) (cd := laws_szRouteS.c) (cx := laws_szRouteS.x) (hs := laws_szRouteS.h) (by kernel_rfl) (by kernel_rfl) (by kernel_rfl) (by kernel_rfl) tt_ok (envOk_nil) (by kernel_rfl) (by kernel_rfl) (by kernel_rfl) (by kernel_rfl) fun k x r h => (laws_szRouteS.eq k x).trans h
/-! laws.toPrefix -/
noncomputable def laws_toPrefix.c : Code := bodyOf Try.f40
def laws_toPrefix.h : Nat → Hint := look ⟨[], [], []⟩ []
def laws_toPrefix.ps : List PK := [.agg 2]
def laws_toPrefix.rs : List RK := [.agg 2 true]
def laws_toPrefix.vs : List ResultVar := [.cell 2 40]
def laws_toPrefix.x : Cx := ⟨tt, look none []⟩
def laws_toPrefix.f (_k : Nat) (a0_0 : Int) (a0_1 : Int) : Option (Int × Int) :=
  some (a0_0, a0_1)
def laws_toPrefix.K : Ctr := ⟨laws_toPrefix.ps, laws_toPrefix.rs, false, (.two (.int .i64) (.int .i64)), (.two (.int .i64) (.int .i64)), fun k x => laws_toPrefix.f k x.1 x.2⟩
theorem laws_toPrefix.eq (k : Nat) (x : (laws_toPrefix.K.I).den) : func laws_toPrefix.x laws_toPrefix.h laws_toPrefix.ps laws_toPrefix.rs laws_toPrefix.vs laws_toPrefix.K.I laws_toPrefix.K.O laws_toPrefix.c k x = laws_toPrefix.K.run k x := by
  show _ = laws_toPrefix.f k x.1 x.2
  kernel_rfl
theorem laws_toPrefix.ok : CtrOk Try.prog 40 laws_toPrefix.K :=
  CtrOk.of (fn := Try.f40) (cd := laws_toPrefix.c) (cx := laws_toPrefix.x) (hs := laws_toPrefix.h) (by kernel_rfl) (by kernel_rfl) (by kernel_rfl) (by kernel_rfl) tt_ok (envOk_nil) (by kernel_rfl) (by kernel_rfl) (by kernel_rfl) (by kernel_rfl) fun k x r h => (laws_toPrefix.eq k x).trans h
/-! laws.toRoute -/
noncomputable def laws_toRoute.c : Code := bodyOf Try.f53
def laws_toRoute.h : Nat → Hint := look ⟨[], [], []⟩ []
def laws_toRoute.ps : List PK := [.agg 3]
def laws_toRoute.rs : List RK := [.agg 3 true]
def laws_toRoute.vs : List ResultVar := [.cell 2 65]
def laws_toRoute.x : Cx := ⟨tt, look none [(40, some laws_toPrefix.K)]⟩
def laws_toRoute.f (k : Nat) (a0_0 : Int) (a0_1 : Int) (a0_2 : Int) : Option (Int × Int × Int) :=
  (laws_toPrefix.f k a0_0 a0_1).bind fun r1 => some (r1.1, r1.2, a0_2)
def laws_toRoute.K : Ctr := ⟨laws_toRoute.ps, laws_toRoute.rs, false, (.two (.int .i64) (.two (.int .i64) (.int .i64))), (.two (.int .i64) (.two (.int .i64) (.int .i64))), fun k x => laws_toRoute.f k x.1 x.2.1 x.2.2⟩
theorem laws_toRoute.eq (k : Nat) (x : (laws_toRoute.K.I).den) : func laws_toRoute.x laws_toRoute.h laws_toRoute.ps laws_toRoute.rs laws_toRoute.vs laws_toRoute.K.I laws_toRoute.K.O laws_toRoute.c k x = laws_toRoute.K.run k x := by
  show _ = laws_toRoute.f k x.1 x.2.1 x.2.2
  kernel_rfl
theorem laws_toRoute.ok : CtrOk Try.prog 53 laws_toRoute.K :=
  CtrOk.of (fn := Try.f53) (cd := laws_toRoute.c) (cx := laws_toRoute.x) (hs := laws_toRoute.h) (by kernel_rfl) (by kernel_rfl) (by kernel_rfl) (by kernel_rfl) tt_ok (envOk_cons laws_toPrefix.ok (envOk_nil)) (by kernel_rfl) (by kernel_rfl) (by kernel_rfl) (by kernel_rfl) fun k x r h => (laws_toRoute.eq k x).trans h
/-! laws.toRouteS -/
noncomputable def laws_toRouteS.c : Code := bodyOf Try.f17
def laws_toRouteS.h : Nat → Hint := look ⟨[], [], []⟩ [(0, ⟨[0, 3, 4], [], [(.t 3, 368, 65, (.two (.int .i64) (.two (.int .i64) (.int .i64))))]⟩)]
def laws_toRouteS.ps : List PK := [.one]
def laws_toRouteS.rs : List RK := [.one true]
def laws_toRouteS.vs : List ResultVar := [.tmp 2]
def laws_toRouteS.x : Cx := ⟨tt, look none [(53, some laws_toRoute.K)]⟩
def laws_toRouteS.s0 (k : Nat) (rec0 : (Int × (List (Int × Int × Int)) × (List (Int × Int × Int))) → Option ((List (Int × Int × Int)))) (p : (Int × (List (Int × Int × Int)) × (List (Int × Int × Int)))) : Option ((List (Int × Int × Int))) :=
  (bif (decide (p.1 < (p.2.1.length : Int))) then (bif ((decide ((0 : Int) ≤ p.1)) && (decide (p.1 < (p.2.1.length : Int)))) then (p.2.1[p.1.toNat]?).bind fun x1 => (laws_toRoute.f k x1.1 x1.2.1 x1.2.2).bind fun r2 => (bif ((decide ((0 : Int) ≤ p.1)) && (decide (p.1 < (p.2.2.length : Int)))) then (p.2.2[p.1.toNat]?).bind fun x3 => rec0 ((IntKind.i64.wrap (p.1 + (1 : Int))), p.2.1, (p.2.2.set p.1.toNat (r2.1, r2.2.1, r2.2.2))) else none) else none) else some p.2.2)
def laws_toRouteS.l0 (k : Nat) : Nat → (Int × (List (Int × Int × Int)) × (List (Int × Int × Int))) → Option ((List (Int × Int × Int)))
  | 0 => fun _ => none
  | j + 1 => laws_toRouteS.s0 k (laws_toRouteS.l0 k j)
def laws_toRouteS.S0 (p : (Int × (List (Int × Int × Int)) × (List (Int × Int × Int)))) : DS := ⟨tl [(0, .at (.whole 0)), (3, .at (.whole 368)), (4, .at (.int .i64 p.1))], lookO [(0, .row 81 (.two (.int .i64) (.two (.int .i64) (.int .i64))) false p.2.1), (368, .row 65 (.two (.int .i64) (.two (.int .i64) (.int .i64))) true p.2.2)]⟩
noncomputable def laws_toRouteS.D0 (k : Nat) (j : Nat) (p : (Int × (List (Int × Int × Int)) × (List (Int × Int × Int)))) : Option ((List (Int × Int × Int))) := loopK (norm [0] (laws_toRouteS.h 0)) (runK laws_toRouteS.x k 0 [0] laws_toRouteS.h 0 (sub laws_toRouteS.c [1, 1, 0, 1, 0, 0])) j (laws_toRouteS.S0 p) (kBlk 0 (kSeq (runK laws_toRouteS.x k 0 [0] laws_toRouteS.h 0 (sub laws_toRouteS.c [1, 1, 1])) (fin tt laws_toRouteS.ps laws_toRouteS.rs laws_toRouteS.vs (.sl 65 (.two (.int .i64) (.two (.int .i64) (.int .i64)))))))
theorem laws_toRouteS.D0_eq (k : Nat) : ∀ j, laws_toRouteS.D0 k j = laws_toRouteS.l0 k j := by
  intro j
  induction j with
  | zero => rfl
  | succ j ih =>
    show _ = laws_toRouteS.s0 k (laws_toRouteS.l0 k j)
    rw [← ih]
    funext p
    kernel_rfl
def laws_toRouteS.f (k : Nat) (a0 : List (Int × Int × Int)) : Option ((List (Int × Int × Int))) :=
  (bif ((decide ((0 : Int) ≤ (a0.length : Int))) && decide ((a0.length : Int) * 24 ≤ 140737488355328)) then laws_toRouteS.l0 k k ((0 : Int), a0, (List.replicate (a0.length : Int).toNat ((0 : Int), (0 : Int), (0 : Int)))) else none)
def laws_toRouteS.K : Ctr := ⟨laws_toRouteS.ps, laws_toRouteS.rs, false, (.sl 81 (.two (.int .i64) (.two (.int .i64) (.int .i64)))), (.sl 65 (.two (.int .i64) (.two (.int .i64) (.int .i64)))), fun k x => laws_toRouteS.f k x⟩
theorem laws_toRouteS.eq (k : Nat) (x : (laws_toRouteS.K.I).den) : func laws_toRouteS.x laws_toRouteS.h laws_toRouteS.ps laws_toRouteS.rs laws_toRouteS.vs laws_toRouteS.K.I laws_toRouteS.K.O laws_toRouteS.c k x = laws_toRouteS.K.run k x := by
  show _ = laws_toRouteS.f k x
  unfold laws_toRouteS.f
  rw [← laws_toRouteS.D0_eq k k]
  kernel_rfl
theorem laws_toRouteS.ok : CtrOk Try.prog 17 laws_toRouteS.K :=
  CtrOk.of (fn := Try.f17) (cd := laws_toRouteS.c) (cx := laws_toRouteS.x) (hs := laws_toRouteS.h) (by kernel_rfl) (by kernel_rfl) (by kernel_rfl) (by kernel_rfl) tt_ok (envOk_cons laws_toRoute.ok (envOk_nil)) (by kernel_rfl) (by kernel_rfl) (by kernel_rfl) (by kernel_rfl) fun k x r h => (laws_toRouteS.eq k x).trans h
/-! spec.l09Ahead -/
noncomputable def spec_l09Ahead.c : Code := bodyOf Try.f61
def spec_l09Ahead.h : Nat → Hint := look ⟨[], [], []⟩ []
def spec_l09Ahead.ps : List PK := [.agg 2, .agg 2]
def spec_l09Ahead.rs : List RK := [.one true]
def spec_l09Ahead.vs : List ResultVar := [.tmp 4]
def spec_l09Ahead.x : Cx := ⟨tt, look none []⟩
def spec_l09Ahead.f (_k : Nat) (a0_0 : Int) (a0_1 : Int) (a1_0 : Int) (a1_1 : Int) : Option (Bool) :=
  (bif (decide (a0_0 < a1_0)) then some true else (bif (a0_0 == a1_0) then some (decide (a0_1 < a1_1)) else some false))
def spec_l09Ahead.K : Ctr := ⟨spec_l09Ahead.ps, spec_l09Ahead.rs, false, (.two (.int .i64) (.two (.int .i64) (.two (.int .i64) (.int .i64)))), .bool, fun k x => spec_l09Ahead.f k x.1 x.2.1 x.2.2.1 x.2.2.2⟩
theorem spec_l09Ahead.eq (k : Nat) (x : (spec_l09Ahead.K.I).den) : func spec_l09Ahead.x spec_l09Ahead.h spec_l09Ahead.ps spec_l09Ahead.rs spec_l09Ahead.vs spec_l09Ahead.K.I spec_l09Ahead.K.O spec_l09Ahead.c k x = spec_l09Ahead.K.run k x := by
  show _ = spec_l09Ahead.f k x.1 x.2.1 x.2.2.1 x.2.2.2
  kernel_rfl
theorem spec_l09Ahead.ok : CtrOk Try.prog 61 spec_l09Ahead.K :=
  CtrOk.of (fn := Try.f61) (cd := spec_l09Ahead.c) (cx := spec_l09Ahead.x) (hs := spec_l09Ahead.h) (by kernel_rfl) (by kernel_rfl) (by kernel_rfl) (by kernel_rfl) tt_ok (envOk_nil) (by kernel_rfl) (by kernel_rfl) (by kernel_rfl) (by kernel_rfl) fun k x r h => (spec_l09Ahead.eq k x).trans h
/-! spec.l01In -/
noncomputable def spec_l01In.c : Code := bodyOf Try.f60
def spec_l01In.h : Nat → Hint := look ⟨[], [], []⟩ []
def spec_l01In.ps : List PK := [.one, .one, .one]
def spec_l01In.rs : List RK := [.one true]
def spec_l01In.vs : List ResultVar := [.tmp 6]
def spec_l01In.x : Cx := ⟨tt, look none []⟩
def spec_l01In.f (_k : Nat) (a0 : Int) (a1 : Int) (a2 : Int) : Option (Bool) :=
  (bif (decide (a0 ≥ a1)) then some (decide (a0 ≤ a2)) else some false)
def spec_l01In.K : Ctr := ⟨spec_l01In.ps, spec_l01In.rs, false, (.two (.int .i64) (.two (.int .i64) (.int .i64))), .bool, fun k x => spec_l01In.f k x.1 x.2.1 x.2.2⟩
theorem spec_l01In.eq (k : Nat) (x : (spec_l01In.K.I).den) : func spec_l01In.x spec_l01In.h spec_l01In.ps spec_l01In.rs spec_l01In.vs spec_l01In.K.I spec_l01In.K.O spec_l01In.c k x = spec_l01In.K.run k x := by
  show _ = spec_l01In.f k x.1 x.2.1 x.2.2
  kernel_rfl
theorem spec_l01In.ok : CtrOk Try.prog 60 spec_l01In.K :=
  CtrOk.of (fn := Try.f60) (cd := spec_l01In.c) (cx := spec_l01In.x) (hs := spec_l01In.h) (by kernel_rfl) (by kernel_rfl) (by kernel_rfl) (by kernel_rfl) tt_ok (envOk_nil) (by kernel_rfl) (by kernel_rfl) (by kernel_rfl) (by kernel_rfl) fun k x r h => (spec_l01In.eq k x).trans h
/-! spec.AddrOk -/
noncomputable def spec_AddrOk.c : Code := bodyOf Try.f75
def spec_AddrOk.h : Nat → Hint := look ⟨[], [], []⟩ []
def spec_AddrOk.ps : List PK := [.one]
def spec_AddrOk.rs : List RK := [.one true]
def spec_AddrOk.vs : List ResultVar := [.tmp 2]
def spec_AddrOk.x : Cx := ⟨tt, look none [(60, some spec_l01In.K)]⟩
def spec_AddrOk.f (k : Nat) (a0 : Int) : Option (Bool) :=
  (spec_l01In.f k a0 (0 : Int) (4294967295 : Int)).bind fun r1 => some r1
def spec_AddrOk.K : Ctr := ⟨spec_AddrOk.ps, spec_AddrOk.rs, false, (.int .i64), .bool, fun k x => spec_AddrOk.f k x⟩
theorem spec_AddrOk.eq (k : Nat) (x : (spec_AddrOk.K.I).den) : func spec_AddrOk.x spec_AddrOk.h spec_AddrOk.ps spec_AddrOk.rs spec_AddrOk.vs spec_AddrOk.K.I spec_AddrOk.K.O spec_AddrOk.c k x = spec_AddrOk.K.run k x := by
  show _ = spec_AddrOk.f k x
  kernel_rfl
theorem spec_AddrOk.ok : CtrOk Try.prog 75 spec_AddrOk.K :=
  CtrOk.of (fn := Try.f75) (cd := spec_AddrOk.c) (cx := spec_AddrOk.x) (hs := spec_AddrOk.h) (by kernel_rfl) (by kernel_rfl) (by kernel_rfl) (by kernel_rfl) tt_ok (envOk_cons spec_l01In.ok (envOk_nil)) (by kernel_rfl) (by kernel_rfl) (by kernel_rfl) (by kernel_rfl) fun k x r h => (spec_AddrOk.eq k x).trans h
/-! spec.l08Size -/
noncomputable def spec_l08Size.c : Code := bodyOf Try.f85
def spec_l08Size.h : Nat → Hint := look ⟨[], [], []⟩ [(0, ⟨[3, 4], [], []⟩)]
def spec_l08Size.ps : List PK := [.one]
def spec_l08Size.rs : List RK := [.one true]
def spec_l08Size.vs : List ResultVar := [.tmp 2]
def spec_l08Size.x : Cx := ⟨tt, look none []⟩
def spec_l08Size.s0 (_k : Nat) (rec0 : (Int × Int) → Option (Int)) (p : (Int × Int)) : Option (Int) :=
  (bif (decide (p.2 < (32 : Int))) then rec0 ((IntKind.i64.wrap ((2 : Int) * p.1)), (IntKind.i64.wrap (p.2 + (1 : Int)))) else some p.1)
def spec_l08Size.l0 (k : Nat) : Nat → (Int × Int) → Option (Int)
  | 0 => fun _ => none
  | j + 1 => spec_l08Size.s0 k (spec_l08Size.l0 k j)
def spec_l08Size.S0 (p : (Int × Int)) : DS := ⟨tl [(3, .at (.int .i64 p.1)), (4, .at (.int .i64 p.2))], lookO []⟩
noncomputable def spec_l08Size.D0 (k : Nat) (j : Nat) (p : (Int × Int)) : Option (Int) := loopK (norm [] (spec_l08Size.h 0)) (runK spec_l08Size.x k 0 [] spec_l08Size.h 0 (sub spec_l08Size.c [1, 1, 0, 1, 0, 0])) j (spec_l08Size.S0 p) (kBlk 0 (kSeq (runK spec_l08Size.x k 0 [] spec_l08Size.h 0 (sub spec_l08Size.c [1, 1, 1])) (fin tt spec_l08Size.ps spec_l08Size.rs spec_l08Size.vs (.int .i64))))
theorem spec_l08Size.D0_eq (k : Nat) : ∀ j, spec_l08Size.D0 k j = spec_l08Size.l0 k j := by
  intro j
  induction j with
  | zero => rfl
  | succ j ih =>
    show _ = spec_l08Size.s0 k (spec_l08Size.l0 k j)
    rw [← ih]
    funext p
    kernel_rfl
def spec_l08Size.f (k : Nat) (a0 : Int) : Option (Int) :=
  spec_l08Size.l0 k k ((1 : Int), a0)
def spec_l08Size.K : Ctr := ⟨spec_l08Size.ps, spec_l08Size.rs, false, (.int .i64), (.int .i64), fun k x => spec_l08Size.f k x⟩
theorem spec_l08Size.eq (k : Nat) (x : (spec_l08Size.K.I).den) : func spec_l08Size.x spec_l08Size.h spec_l08Size.ps spec_l08Size.rs spec_l08Size.vs spec_l08Size.K.I spec_l08Size.K.O spec_l08Size.c k x = spec_l08Size.K.run k x := by
  show _ = spec_l08Size.f k x
  unfold spec_l08Size.f
  rw [← spec_l08Size.D0_eq k k]
  kernel_rfl
theorem spec_l08Size.ok : CtrOk Try.prog 85 spec_l08Size.K :=
  CtrOk.of (fn := Try.f85) (cd := spec_l08Size.c) (cx := spec_l08Size.x) (hs := spec_l08Size.h) (by kernel_rfl) (by kernel_rfl) (by kernel_rfl) (by kernel_rfl) tt_ok (envOk_nil) (by kernel_rfl) (by kernel_rfl) (by kernel_rfl) (by kernel_rfl) fun k x r h => (spec_l08Size.eq k x).trans h
/-! spec.PrefixOk -/
noncomputable def spec_PrefixOk.c : Code := bodyOf Try.f59
def spec_PrefixOk.h : Nat → Hint := look ⟨[], [], []⟩ []
def spec_PrefixOk.ps : List PK := [.agg 2]
def spec_PrefixOk.rs : List RK := [.one true]
def spec_PrefixOk.vs : List ResultVar := [.tmp 2]
def spec_PrefixOk.x : Cx := ⟨tt, look none [(75, some spec_AddrOk.K), (60, some spec_l01In.K), (85, some spec_l08Size.K)]⟩
def spec_PrefixOk.f (k : Nat) (a0_0 : Int) (a0_1 : Int) : Option (Bool) :=
  (spec_AddrOk.f k a0_0).bind fun r1 => (bif r1 then (spec_l01In.f k a0_1 (0 : Int) (32 : Int)).bind fun r2 => (bif r2 then (spec_l08Size.f k a0_1).bind fun r3 => (bif (r3 == 0) then none else some ((a0_0.tmod r3) == (0 : Int))) else some false) else some false)
def spec_PrefixOk.K : Ctr := ⟨spec_PrefixOk.ps, spec_PrefixOk.rs, false, (.two (.int .i64) (.int .i64)), .bool, fun k x => spec_PrefixOk.f k x.1 x.2⟩
theorem spec_PrefixOk.eq (k : Nat) (x : (spec_PrefixOk.K.I).den) : func spec_PrefixOk.x spec_PrefixOk.h spec_PrefixOk.ps spec_PrefixOk.rs spec_PrefixOk.vs spec_PrefixOk.K.I spec_PrefixOk.K.O spec_PrefixOk.c k x = spec_PrefixOk.K.run k x := by
  show _ = spec_PrefixOk.f k x.1 x.2
  kernel_rfl
theorem spec_PrefixOk.ok : CtrOk Try.prog 59 spec_PrefixOk.K :=
  CtrOk.of (fn := Try.f59) (cd := spec_PrefixOk.c) (cx := spec_PrefixOk.x) (hs := spec_PrefixOk.h) (by kernel_rfl) (by kernel_rfl) (by kernel_rfl) (by kernel_rfl) tt_ok (envOk_cons spec_AddrOk.ok (envOk_cons spec_l01In.ok (envOk_cons spec_l08Size.ok (envOk_nil)))) (by kernel_rfl) (by kernel_rfl) (by kernel_rfl) (by kernel_rfl) fun k x r h => (spec_PrefixOk.eq k x).trans h
/-! spec.RoutesOk -/
noncomputable def spec_RoutesOk.c : Code := bodyOf Try.f22
def spec_RoutesOk.h : Nat → Hint := look ⟨[], [], []⟩ [(0, ⟨[0, 3], [], []⟩)]
def spec_RoutesOk.ps : List PK := [.one]
def spec_RoutesOk.rs : List RK := [.one true]
def spec_RoutesOk.vs : List ResultVar := [.tmp 2]
def spec_RoutesOk.x : Cx := ⟨tt, look none [(59, some spec_PrefixOk.K), (60, some spec_l01In.K), (61, some spec_l09Ahead.K)]⟩
def spec_RoutesOk.s0 (k : Nat) (rec0 : (Int × (List (Int × Int × Int))) → Option (Bool)) (p : (Int × (List (Int × Int × Int)))) : Option (Bool) :=
  (bif (decide (p.1 < (p.2.length : Int))) then (bif ((decide ((0 : Int) ≤ p.1)) && (decide (p.1 < (p.2.length : Int)))) then (p.2[p.1.toNat]?).bind fun x1 => (spec_PrefixOk.f k x1.1 x1.2.1).bind fun r2 => (bif (!r2) then some false else (bif ((decide ((0 : Int) ≤ p.1)) && (decide (p.1 < (p.2.length : Int)))) then (p.2[p.1.toNat]?).bind fun x3 => (spec_l01In.f k x3.2.2 (1 : Int) (99 : Int)).bind fun r4 => (bif (!r4) then some false else (bif (decide (p.1 > (0 : Int))) then (bif ((decide ((0 : Int) ≤ (IntKind.i64.wrap (p.1 - (1 : Int))))) && (decide ((IntKind.i64.wrap (p.1 - (1 : Int))) < (p.2.length : Int)))) then (p.2[(IntKind.i64.wrap (p.1 - (1 : Int))).toNat]?).bind fun x5 => (bif ((decide ((0 : Int) ≤ p.1)) && (decide (p.1 < (p.2.length : Int)))) then (p.2[p.1.toNat]?).bind fun x6 => (spec_l09Ahead.f k x5.1 x5.2.1 x6.1 x6.2.1).bind fun r7 => (bif (!r7) then some false else rec0 ((IntKind.i64.wrap (p.1 + (1 : Int))), p.2)) else none) else none) else rec0 ((IntKind.i64.wrap (p.1 + (1 : Int))), p.2))) else none)) else none) else some (decide ((p.2.length : Int) ≤ (12 : Int))))
def spec_RoutesOk.l0 (k : Nat) : Nat → (Int × (List (Int × Int × Int))) → Option (Bool)
  | 0 => fun _ => none
  | j + 1 => spec_RoutesOk.s0 k (spec_RoutesOk.l0 k j)
def spec_RoutesOk.S0 (p : (Int × (List (Int × Int × Int)))) : DS := ⟨tl [(0, .at (.whole 0)), (3, .at (.int .i64 p.1))], lookO [(0, .row 65 (.two (.int .i64) (.two (.int .i64) (.int .i64))) false p.2)]⟩
noncomputable def spec_RoutesOk.D0 (k : Nat) (j : Nat) (p : (Int × (List (Int × Int × Int)))) : Option (Bool) := loopK (norm [0] (spec_RoutesOk.h 0)) (runK spec_RoutesOk.x k 0 [0] spec_RoutesOk.h 0 (sub spec_RoutesOk.c [1, 0, 1, 0, 0])) j (spec_RoutesOk.S0 p) (kBlk 0 (kSeq (runK spec_RoutesOk.x k 0 [0] spec_RoutesOk.h 0 (sub spec_RoutesOk.c [1, 1])) (fin tt spec_RoutesOk.ps spec_RoutesOk.rs spec_RoutesOk.vs .bool)))
theorem spec_RoutesOk.D0_eq (k : Nat) : ∀ j, spec_RoutesOk.D0 k j = spec_RoutesOk.l0 k j := by
  intro j
  induction j with
  | zero => rfl
  | succ j ih =>
    show _ = spec_RoutesOk.s0 k (spec_RoutesOk.l0 k j)
    rw [← ih]
    funext p
    kernel_rfl
def spec_RoutesOk.f (k : Nat) (a0 : List (Int × Int × Int)) : Option (Bool) :=
  spec_RoutesOk.l0 k k ((0 : Int), a0)
def spec_RoutesOk.K : Ctr := ⟨spec_RoutesOk.ps, spec_RoutesOk.rs, false, (.sl 65 (.two (.int .i64) (.two (.int .i64) (.int .i64)))), .bool, fun k x => spec_RoutesOk.f k x⟩
theorem spec_RoutesOk.eq (k : Nat) (x : (spec_RoutesOk.K.I).den) : func spec_RoutesOk.x spec_RoutesOk.h spec_RoutesOk.ps spec_RoutesOk.rs spec_RoutesOk.vs spec_RoutesOk.K.I spec_RoutesOk.K.O spec_RoutesOk.c k x = spec_RoutesOk.K.run k x := by
  show _ = spec_RoutesOk.f k x
  unfold spec_RoutesOk.f
  rw [← spec_RoutesOk.D0_eq k k]
  kernel_rfl
theorem spec_RoutesOk.ok : CtrOk Try.prog 22 spec_RoutesOk.K :=
  CtrOk.of (fn := Try.f22) (cd := spec_RoutesOk.c) (cx := spec_RoutesOk.x) (hs := spec_RoutesOk.h) (by kernel_rfl) (by kernel_rfl) (by kernel_rfl) (by kernel_rfl) tt_ok (envOk_cons spec_PrefixOk.ok (envOk_cons spec_l01In.ok (envOk_cons spec_l09Ahead.ok (envOk_nil)))) (by kernel_rfl) (by kernel_rfl) (by kernel_rfl) (by kernel_rfl) fun k x r h => (spec_RoutesOk.eq k x).trans h
/-! spec.PutRoute -/
noncomputable def spec_PutRoute.c : Code := bodyOf Try.f52
def spec_PutRoute.h : Nat → Hint := look ⟨[], [], []⟩ [(0, ⟨[0, 3, 6, 7], [48], [(.t 6, 1088, 65, (.two (.int .i64) (.two (.int .i64) (.int .i64))))]⟩), (2, ⟨[0, 3, 6, 8], [48], [(.t 6, 1088, 65, (.two (.int .i64) (.two (.int .i64) (.int .i64))))]⟩)]
def spec_PutRoute.ps : List PK := [.one, .agg 3]
def spec_PutRoute.rs : List RK := [.one true, .one true]
def spec_PutRoute.vs : List ResultVar := [.tmp 4, .tmp 5]
def spec_PutRoute.x : Cx := ⟨tt, look none [(61, some spec_l09Ahead.K), (22, some spec_RoutesOk.K)]⟩
def spec_PutRoute.s2 (k : Nat) (rec2 : (Int × (List (Int × Int × Int)) × Int × Int × Int × (List (Int × Int × Int))) → Option ((List (Int × Int × Int)) × Bool)) (p : (Int × (List (Int × Int × Int)) × Int × Int × Int × (List (Int × Int × Int)))) : Option ((List (Int × Int × Int)) × Bool) :=
  (bif (decide (p.1 < (p.2.1.length : Int))) then (bif ((decide ((0 : Int) ≤ p.1)) && (decide (p.1 < (p.2.1.length : Int)))) then (p.2.1[p.1.toNat]?).bind fun x4 => (spec_l09Ahead.f k p.2.2.1 p.2.2.2.1 x4.1 x4.2.1).bind fun r5 => (bif r5 then (bif ((decide ((0 : Int) ≤ p.1)) && (decide (p.1 < (p.2.1.length : Int)))) then (p.2.1[p.1.toNat]?).bind fun x6 => (bif decide ((p.2.2.2.2.2.length + [(x6.1, x6.2.1, x6.2.2)].length) * 24 ≤ 140737488355328) then rec2 ((IntKind.i64.wrap (p.1 + (1 : Int))), p.2.1, p.2.2.1, p.2.2.2.1, p.2.2.2.2.1, (p.2.2.2.2.2 ++ [(x6.1, x6.2.1, x6.2.2)])) else none) else none) else rec2 ((IntKind.i64.wrap (p.1 + (1 : Int))), p.2.1, p.2.2.1, p.2.2.2.1, p.2.2.2.2.1, p.2.2.2.2.2)) else none) else (spec_RoutesOk.f k p.2.1).bind fun r7 => (bif (!r7) then (bif decide ((([] : List (Int × Int × Int)).length + p.2.1.length) * 24 ≤ 140737488355328) then some ((([] : List (Int × Int × Int)) ++ p.2.1), false) else none) else (spec_RoutesOk.f k p.2.2.2.2.2).bind fun r8 => (bif (!r8) then (bif decide ((([] : List (Int × Int × Int)).length + p.2.1.length) * 24 ≤ 140737488355328) then some ((([] : List (Int × Int × Int)) ++ p.2.1), false) else none) else some (p.2.2.2.2.2, true))))
def spec_PutRoute.l2 (k : Nat) : Nat → (Int × (List (Int × Int × Int)) × Int × Int × Int × (List (Int × Int × Int))) → Option ((List (Int × Int × Int)) × Bool)
  | 0 => fun _ => none
  | j + 1 => spec_PutRoute.s2 k (spec_PutRoute.l2 k j)
def spec_PutRoute.s0 (k : Nat) (rec0 : (Int × (List (Int × Int × Int)) × Int × Int × Int × (List (Int × Int × Int))) → Option ((List (Int × Int × Int)) × Bool)) (i2 : (Int × (List (Int × Int × Int)) × Int × Int × Int × (List (Int × Int × Int))) → Option ((List (Int × Int × Int)) × Bool)) (p : (Int × (List (Int × Int × Int)) × Int × Int × Int × (List (Int × Int × Int)))) : Option ((List (Int × Int × Int)) × Bool) :=
  (bif (decide (p.1 < (p.2.1.length : Int))) then (bif ((decide ((0 : Int) ≤ p.1)) && (decide (p.1 < (p.2.1.length : Int)))) then (p.2.1[p.1.toNat]?).bind fun x1 => (spec_l09Ahead.f k x1.1 x1.2.1 p.2.2.1 p.2.2.2.1).bind fun r2 => (bif r2 then (bif ((decide ((0 : Int) ≤ p.1)) && (decide (p.1 < (p.2.1.length : Int)))) then (p.2.1[p.1.toNat]?).bind fun x3 => (bif decide ((p.2.2.2.2.2.length + [(x3.1, x3.2.1, x3.2.2)].length) * 24 ≤ 140737488355328) then rec0 ((IntKind.i64.wrap (p.1 + (1 : Int))), p.2.1, p.2.2.1, p.2.2.2.1, p.2.2.2.2.1, (p.2.2.2.2.2 ++ [(x3.1, x3.2.1, x3.2.2)])) else none) else none) else rec0 ((IntKind.i64.wrap (p.1 + (1 : Int))), p.2.1, p.2.2.1, p.2.2.2.1, p.2.2.2.2.1, p.2.2.2.2.2)) else none) else (bif decide ((p.2.2.2.2.2.length + [(p.2.2.1, p.2.2.2.1, p.2.2.2.2.1)].length) * 24 ≤ 140737488355328) then i2 ((0 : Int), p.2.1, p.2.2.1, p.2.2.2.1, p.2.2.2.2.1, (p.2.2.2.2.2 ++ [(p.2.2.1, p.2.2.2.1, p.2.2.2.2.1)])) else none))
def spec_PutRoute.l0 (k : Nat) : Nat → (Int × (List (Int × Int × Int)) × Int × Int × Int × (List (Int × Int × Int))) → Option ((List (Int × Int × Int)) × Bool)
  | 0 => fun _ => none
  | j + 1 => spec_PutRoute.s0 k (spec_PutRoute.l0 k j) (spec_PutRoute.l2 k k)
def spec_PutRoute.S2 (p : (Int × (List (Int × Int × Int)) × Int × Int × Int × (List (Int × Int × Int)))) : DS := ⟨tl [(0, .at (.whole 0)), (3, .at (.bptr 48 0)), (6, .at (.whole 1088)), (8, .at (.int .i64 p.1))], lookO [(0, .row 65 (.two (.int .i64) (.two (.int .i64) (.int .i64))) false p.2.1), (48, .box 65 [.int .i64 p.2.2.1, .int .i64 p.2.2.2.1, .int .i64 p.2.2.2.2.1]), (1088, .row 65 (.two (.int .i64) (.two (.int .i64) (.int .i64))) true p.2.2.2.2.2)]⟩
def spec_PutRoute.S0 (p : (Int × (List (Int × Int × Int)) × Int × Int × Int × (List (Int × Int × Int)))) : DS := ⟨tl [(0, .at (.whole 0)), (3, .at (.bptr 48 0)), (6, .at (.whole 1088)), (7, .at (.int .i64 p.1))], lookO [(0, .row 65 (.two (.int .i64) (.two (.int .i64) (.int .i64))) false p.2.1), (48, .box 65 [.int .i64 p.2.2.1, .int .i64 p.2.2.2.1, .int .i64 p.2.2.2.2.1]), (1088, .row 65 (.two (.int .i64) (.two (.int .i64) (.int .i64))) true p.2.2.2.2.2)]⟩
noncomputable def spec_PutRoute.D2 (k : Nat) (j : Nat) (p : (Int × (List (Int × Int × Int)) × Int × Int × Int × (List (Int × Int × Int)))) : Option ((List (Int × Int × Int)) × Bool) := loopK (norm [0] (spec_PutRoute.h 2)) (runK spec_PutRoute.x k 0 [0] spec_PutRoute.h 2 (sub spec_PutRoute.c [1, 1, 1, 1, 0, 1, 0, 0])) j (spec_PutRoute.S2 p) (kBlk 2 (kSeq (runK spec_PutRoute.x k 0 [0] spec_PutRoute.h 0 (sub spec_PutRoute.c [1, 1, 1, 1, 1])) (fin tt spec_PutRoute.ps spec_PutRoute.rs spec_PutRoute.vs (.two (.sl 65 (.two (.int .i64) (.two (.int .i64) (.int .i64)))) .bool))))
noncomputable def spec_PutRoute.D0 (k : Nat) (j : Nat) (p : (Int × (List (Int × Int × Int)) × Int × Int × Int × (List (Int × Int × Int)))) : Option ((List (Int × Int × Int)) × Bool) := loopK (norm [0] (spec_PutRoute.h 0)) (runK spec_PutRoute.x k 0 [0] spec_PutRoute.h 0 (sub spec_PutRoute.c [1, 1, 0, 1, 0, 0])) j (spec_PutRoute.S0 p) (kBlk 0 (kSeq (runK spec_PutRoute.x k 0 [0] spec_PutRoute.h 0 (sub spec_PutRoute.c [1, 1, 1])) (fin tt spec_PutRoute.ps spec_PutRoute.rs spec_PutRoute.vs (.two (.sl 65 (.two (.int .i64) (.two (.int .i64) (.int .i64)))) .bool))))
theorem spec_PutRoute.D2_eq (k : Nat) : ∀ j, spec_PutRoute.D2 k j = spec_PutRoute.l2 k j := by
  intro j
  induction j with
  | zero => rfl
  | succ j ih =>
    show _ = spec_PutRoute.s2 k (spec_PutRoute.l2 k j)
    rw [← ih]
    funext p
    kernel_rfl
theorem spec_PutRoute.D0_eq (k : Nat) : ∀ j, spec_PutRoute.D0 k j = spec_PutRoute.l0 k j := by
  intro j
  induction j with
  | zero => rfl
  | succ j ih =>
    show _ = spec_PutRoute.s0 k (spec_PutRoute.l0 k j) (spec_PutRoute.l2 k k)
    rw [← ih, ← spec_PutRoute.D2_eq k k]
    funext p
    kernel_rfl
def spec_PutRoute.f (k : Nat) (a0 : List (Int × Int × Int)) (a1_0 : Int) (a1_1 : Int) (a1_2 : Int) : Option ((List (Int × Int × Int)) × Bool) :=
  spec_PutRoute.l0 k k ((0 : Int), a0, a1_0, a1_1, a1_2, ([] : List (Int × Int × Int)))
def spec_PutRoute.K : Ctr := ⟨spec_PutRoute.ps, spec_PutRoute.rs, false, (.two (.sl 65 (.two (.int .i64) (.two (.int .i64) (.int .i64)))) (.two (.int .i64) (.two (.int .i64) (.int .i64)))), (.two (.sl 65 (.two (.int .i64) (.two (.int .i64) (.int .i64)))) .bool), fun k x => spec_PutRoute.f k x.1 x.2.1 x.2.2.1 x.2.2.2⟩
theorem spec_PutRoute.eq (k : Nat) (x : (spec_PutRoute.K.I).den) : func spec_PutRoute.x spec_PutRoute.h spec_PutRoute.ps spec_PutRoute.rs spec_PutRoute.vs spec_PutRoute.K.I spec_PutRoute.K.O spec_PutRoute.c k x = spec_PutRoute.K.run k x := by
  show _ = spec_PutRoute.f k x.1 x.2.1 x.2.2.1 x.2.2.2
  unfold spec_PutRoute.f
  rw [← spec_PutRoute.D0_eq k k]
  kernel_rfl
theorem spec_PutRoute.ok : CtrOk Try.prog 52 spec_PutRoute.K :=
  CtrOk.of (fn := Try.f52) (cd := spec_PutRoute.c) (cx := spec_PutRoute.x) (hs := spec_PutRoute.h) (by kernel_rfl) (by kernel_rfl) (by kernel_rfl) (by kernel_rfl) tt_ok (envOk_cons spec_l09Ahead.ok (envOk_cons spec_RoutesOk.ok (envOk_nil))) (by kernel_rfl) (by kernel_rfl) (by kernel_rfl) (by kernel_rfl) fun k x r h => (spec_PutRoute.eq k x).trans h
/-! impl.copyRoutes -/
noncomputable def impl_copyRoutes.c : Code := bodyOf Try.f56
def impl_copyRoutes.h : Nat → Hint := look ⟨[], [], []⟩ []
def impl_copyRoutes.ps : List PK := [.one]
def impl_copyRoutes.rs : List RK := [.one true]
def impl_copyRoutes.vs : List ResultVar := [.tmp 2]
def impl_copyRoutes.x : Cx := ⟨tt, look none []⟩
def impl_copyRoutes.f (_k : Nat) (a0 : List (Int × Int × Int)) : Option ((List (Int × Int × Int))) :=
  (bif decide ((([] : List (Int × Int × Int)).length + a0.length) * 24 ≤ 140737488355328) then some (([] : List (Int × Int × Int)) ++ a0) else none)
def impl_copyRoutes.K : Ctr := ⟨impl_copyRoutes.ps, impl_copyRoutes.rs, false, (.sl 65 (.two (.int .i64) (.two (.int .i64) (.int .i64)))), (.sl 65 (.two (.int .i64) (.two (.int .i64) (.int .i64)))), fun k x => impl_copyRoutes.f k x⟩
theorem impl_copyRoutes.eq (k : Nat) (x : (impl_copyRoutes.K.I).den) : func impl_copyRoutes.x impl_copyRoutes.h impl_copyRoutes.ps impl_copyRoutes.rs impl_copyRoutes.vs impl_copyRoutes.K.I impl_copyRoutes.K.O impl_copyRoutes.c k x = impl_copyRoutes.K.run k x := by
  show _ = impl_copyRoutes.f k x
  kernel_rfl
theorem impl_copyRoutes.ok : CtrOk Try.prog 56 impl_copyRoutes.K :=
  CtrOk.of (fn := Try.f56) (cd := impl_copyRoutes.c) (cx := impl_copyRoutes.x) (hs := impl_copyRoutes.h) (by kernel_rfl) (by kernel_rfl) (by kernel_rfl) (by kernel_rfl) tt_ok (envOk_nil) (by kernel_rfl) (by kernel_rfl) (by kernel_rfl) (by kernel_rfl) fun k x r h => (impl_copyRoutes.eq k x).trans h
/-! impl.withoutPrefix$1 -/
noncomputable def impl_withoutPrefix_1.c : Code := bodyOf Try.f112
def impl_withoutPrefix_1.h : Nat → Hint := look ⟨[], [], []⟩ []
def impl_withoutPrefix_1.ps : List PK := [.agg 3, .box 40 2]
def impl_withoutPrefix_1.rs : List RK := [.one true]
def impl_withoutPrefix_1.vs : List ResultVar := [.tmp 3]
def impl_withoutPrefix_1.x : Cx := ⟨tt, look none []⟩
def impl_withoutPrefix_1.f (_k : Nat) (a0_0 : Int) (a0_1 : Int) (_a0_2 : Int) (a1_0 : Int) (a1_1 : Int) : Option (Bool × Int × Int) :=
  some (((a0_0 == a1_0) && (a0_1 == a1_1)), a1_0, a1_1)
def impl_withoutPrefix_1.K : Ctr := ⟨impl_withoutPrefix_1.ps, impl_withoutPrefix_1.rs, true, (.two (.int .i64) (.two (.int .i64) (.two (.int .i64) (.two (.int .i64) (.int .i64))))), (.two .bool (.two (.int .i64) (.int .i64))), fun k x => impl_withoutPrefix_1.f k x.1 x.2.1 x.2.2.1 x.2.2.2.1 x.2.2.2.2⟩
theorem impl_withoutPrefix_1.eq (k : Nat) (x : (impl_withoutPrefix_1.K.I).den) : func impl_withoutPrefix_1.x impl_withoutPrefix_1.h impl_withoutPrefix_1.ps impl_withoutPrefix_1.rs impl_withoutPrefix_1.vs impl_withoutPrefix_1.K.I impl_withoutPrefix_1.K.O impl_withoutPrefix_1.c k x = impl_withoutPrefix_1.K.run k x := by
  show _ = impl_withoutPrefix_1.f k x.1 x.2.1 x.2.2.1 x.2.2.2.1 x.2.2.2.2
  kernel_rfl
theorem impl_withoutPrefix_1.ok : CtrOk Try.prog 112 impl_withoutPrefix_1.K :=
  CtrOk.of (fn := Try.f112) (cd := impl_withoutPrefix_1.c) (cx := impl_withoutPrefix_1.x) (hs := impl_withoutPrefix_1.h) (by kernel_rfl) (by kernel_rfl) (by kernel_rfl) (by kernel_rfl) tt_ok (envOk_nil) (by kernel_rfl) (by kernel_rfl) (by kernel_rfl) (by kernel_rfl) fun k x r h => (impl_withoutPrefix_1.eq k x).trans h
/-! slices.IndexFunc[[]impl.Route,impl.Route] -/
noncomputable def slices_IndexFunc_impl_Route_impl_Route_f112_r.c : Code := bodyOf Try.f101
def slices_IndexFunc_impl_Route_impl_Route_f112_r.h : Nat → Hint := look ⟨[], [], []⟩ [(0, ⟨[0, 1, 7, 8], [], []⟩)]
def slices_IndexFunc_impl_Route_impl_Route_f112_r.ps : List PK := [.row, .fnp 112 40 2]
def slices_IndexFunc_impl_Route_impl_Route_f112_r.rs : List RK := [.one true]
def slices_IndexFunc_impl_Route_impl_Route_f112_r.vs : List ResultVar := [.tmp 4]
def slices_IndexFunc_impl_Route_impl_Route_f112_r.x : Cx := ⟨tt, look none [(112, some impl_withoutPrefix_1.K)]⟩
def slices_IndexFunc_impl_Route_impl_Route_f112_r.s0 (k : Nat) (rec0 : (Int × Int × (List (Int × Int × Int)) × Int × Int) → Option (Int × (List (Int × Int × Int)) × Int × Int)) (p : (Int × Int × (List (Int × Int × Int)) × Int × Int)) : Option (Int × (List (Int × Int × Int)) × Int × Int) :=
  (bif (decide (p.2.1 < p.1)) then (bif ((decide ((0 : Int) ≤ p.2.1)) && (decide (p.2.1 < (p.2.2.1.length : Int)))) then (p.2.2.1[p.2.1.toNat]?).bind fun x1 => (impl_withoutPrefix_1.f k x1.1 x1.2.1 x1.2.2 p.2.2.2.1 p.2.2.2.2).bind fun r2 => (bif r2.1 then some (p.2.1, p.2.2.1, r2.2.1, r2.2.2) else rec0 (p.1, (IntKind.i64.wrap (p.2.1 + (1 : Int))), p.2.2.1, r2.2.1, r2.2.2)) else none) else some ((-1 : Int), p.2.2.1, p.2.2.2.1, p.2.2.2.2))
def slices_IndexFunc_impl_Route_impl_Route_f112_r.l0 (k : Nat) : Nat → (Int × Int × (List (Int × Int × Int)) × Int × Int) → Option (Int × (List (Int × Int × Int)) × Int × Int)
  | 0 => fun _ => none
  | j + 1 => slices_IndexFunc_impl_Route_impl_Route_f112_r.s0 k (slices_IndexFunc_impl_Route_impl_Route_f112_r.l0 k j)
def slices_IndexFunc_impl_Route_impl_Route_f112_r.S0 (p : (Int × Int × (List (Int × Int × Int)) × Int × Int)) : DS := ⟨tl [(0, .at (.whole 0)), (1, .at (.fn 112 [(16, 0)])), (7, .at (.int .i64 p.1)), (8, .at (.int .i64 p.2.1))], lookO [(0, .row 65 (.two (.int .i64) (.two (.int .i64) (.int .i64))) true p.2.2.1), (16, .box 40 [.int .i64 p.2.2.2.1, .int .i64 p.2.2.2.2])]⟩
noncomputable def slices_IndexFunc_impl_Route_impl_Route_f112_r.D0 (k : Nat) (j : Nat) (p : (Int × Int × (List (Int × Int × Int)) × Int × Int)) : Option (Int × (List (Int × Int × Int)) × Int × Int) := loopK (norm [0, 16] (slices_IndexFunc_impl_Route_impl_Route_f112_r.h 0)) (runK slices_IndexFunc_impl_Route_impl_Route_f112_r.x k 0 [0, 16] slices_IndexFunc_impl_Route_impl_Route_f112_r.h 0 (sub slices_IndexFunc_impl_Route_impl_Route_f112_r.c [1, 0, 1, 0, 0])) j (slices_IndexFunc_impl_Route_impl_Route_f112_r.S0 p) (kBlk 0 (kSeq (runK slices_IndexFunc_impl_Route_impl_Route_f112_r.x k 0 [0, 16] slices_IndexFunc_impl_Route_impl_Route_f112_r.h 0 (sub slices_IndexFunc_impl_Route_impl_Route_f112_r.c [1, 1])) (fin tt slices_IndexFunc_impl_Route_impl_Route_f112_r.ps slices_IndexFunc_impl_Route_impl_Route_f112_r.rs slices_IndexFunc_impl_Route_impl_Route_f112_r.vs (.two (.int .i64) (.two (.sl 65 (.two (.int .i64) (.two (.int .i64) (.int .i64)))) (.two (.int .i64) (.int .i64)))))))
theorem slices_IndexFunc_impl_Route_impl_Route_f112_r.D0_eq (k : Nat) : ∀ j, slices_IndexFunc_impl_Route_impl_Route_f112_r.D0 k j = slices_IndexFunc_impl_Route_impl_Route_f112_r.l0 k j := by
  intro j
  induction j with
  | zero => rfl
  | succ j ih =>
    show _ = slices_IndexFunc_impl_Route_impl_Route_f112_r.s0 k (slices_IndexFunc_impl_Route_impl_Route_f112_r.l0 k j)
    rw [← ih]
    funext p
    kernel_rfl
def slices_IndexFunc_impl_Route_impl_Route_f112_r.f (k : Nat) (a0 : List (Int × Int × Int)) (a1_0 : Int) (a1_1 : Int) : Option (Int × (List (Int × Int × Int)) × Int × Int) :=
  slices_IndexFunc_impl_Route_impl_Route_f112_r.l0 k k ((a0.length : Int), (0 : Int), a0, a1_0, a1_1)
def slices_IndexFunc_impl_Route_impl_Route_f112_r.K : Ctr := ⟨slices_IndexFunc_impl_Route_impl_Route_f112_r.ps, slices_IndexFunc_impl_Route_impl_Route_f112_r.rs, true, (.two (.sl 65 (.two (.int .i64) (.two (.int .i64) (.int .i64)))) (.two (.int .i64) (.int .i64))), (.two (.int .i64) (.two (.sl 65 (.two (.int .i64) (.two (.int .i64) (.int .i64)))) (.two (.int .i64) (.int .i64)))), fun k x => slices_IndexFunc_impl_Route_impl_Route_f112_r.f k x.1 x.2.1 x.2.2⟩
theorem slices_IndexFunc_impl_Route_impl_Route_f112_r.eq (k : Nat) (x : (slices_IndexFunc_impl_Route_impl_Route_f112_r.K.I).den) : func slices_IndexFunc_impl_Route_impl_Route_f112_r.x slices_IndexFunc_impl_Route_impl_Route_f112_r.h slices_IndexFunc_impl_Route_impl_Route_f112_r.ps slices_IndexFunc_impl_Route_impl_Route_f112_r.rs slices_IndexFunc_impl_Route_impl_Route_f112_r.vs slices_IndexFunc_impl_Route_impl_Route_f112_r.K.I slices_IndexFunc_impl_Route_impl_Route_f112_r.K.O slices_IndexFunc_impl_Route_impl_Route_f112_r.c k x = slices_IndexFunc_impl_Route_impl_Route_f112_r.K.run k x := by
  show _ = slices_IndexFunc_impl_Route_impl_Route_f112_r.f k x.1 x.2.1 x.2.2
  unfold slices_IndexFunc_impl_Route_impl_Route_f112_r.f
  rw [← slices_IndexFunc_impl_Route_impl_Route_f112_r.D0_eq k k]
  kernel_rfl
theorem slices_IndexFunc_impl_Route_impl_Route_f112_r.ok : CtrOk Try.prog 101 slices_IndexFunc_impl_Route_impl_Route_f112_r.K :=
  CtrOk.of (fn := Try.f101) (cd := slices_IndexFunc_impl_Route_impl_Route_f112_r.c) (cx := slices_IndexFunc_impl_Route_impl_Route_f112_r.x) (hs := slices_IndexFunc_impl_Route_impl_Route_f112_r.h) (by kernel_rfl) (by kernel_rfl) (by kernel_rfl) (by kernel_rfl) tt_ok (envOk_cons impl_withoutPrefix_1.ok (envOk_nil)) (by kernel_rfl) (by kernel_rfl) (by kernel_rfl) (by kernel_rfl) fun k x r h => (slices_IndexFunc_impl_Route_impl_Route_f112_r.eq k x).trans h
end Go.Proofs.Ytbddppnhpapfkaa.DI
