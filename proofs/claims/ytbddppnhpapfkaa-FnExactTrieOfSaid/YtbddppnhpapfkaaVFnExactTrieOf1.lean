/- FnExactTrieOf: functions as plain Lean, in the machine of values. -/
import Derived.Test.YtbddppnhpapfkaaVFnExactTrieOf0
namespace Go.Proofs.Ytbddppnhpapfkaa.DI
open Go
set_option linter.unusedVariables false
/-! laws.szRouteS -/
noncomputable def laws_szRouteS.c : Code := bodyOf Try.f15
def laws_szRouteS.h : Nat → Hint := look ⟨[], [], []⟩ []
def laws_szRouteS.ps : List PK := [.one, .one]
def laws_szRouteS.rs : List RK := [.one true]
def laws_szRouteS.vs : List ResultVar := [.tmp 4]
def laws_szRouteS.x : Cx := ⟨tt, look none []⟩
def laws_szRouteS.f (_k : Nat) (a0 : List (Int × Int × Int)) (a1 : Int) : Option (Int) :=
  (bif (decide ((IntKind.i64.wrap (a1 - (a0.length : Int))) < (0 : Int))) then some (-1 : Int) else some (IntKind.i64.wrap (a1 - (a0.length : Int))))
def laws_szRouteS.K : Ctr := ⟨laws_szRouteS.ps, laws_szRouteS.rs, false, (.two (.sl 81 (.two (.int .i64) (.two (.int .i64) (.int .i64)))) (.int .i64)), (.int .i64), fun k x => laws_szRouteS.f k x.1 x.2⟩
theorem laws_szRouteS.eq (k : Nat) (x : (laws_szRouteS.K.I).den) : func laws_szRouteS.x laws_szRouteS.h laws_szRouteS.ps laws_szRouteS.rs laws_szRouteS.vs laws_szRouteS.K.I laws_szRouteS.K.O laws_szRouteS.c k x = laws_szRouteS.K.run k x := by
  show _ = laws_szRouteS.f k x.1 x.2
  kernel_rfl
theorem laws_szRouteS.ok : CtrOk Try.prog 15 laws_szRouteS.K :=
  CtrOk.of (fn := Try.f15) (cd := laws_szRouteS.c) (cx := laws_szRouteS.x) (hs := laws_szRouteS.h) (by kernel_rfl) (by kernel_rfl) (by kernel_rfl) (by kernel_rfl) tt_ok (envOk_nil) (by kernel_rfl) (by kernel_rfl) (by kernel_rfl) (by kernel_rfl) fun k x r h => (laws_szRouteS.eq k x).trans h
/-! laws.toPrefix -/
noncomputable def laws_toPrefix.c : Code := bodyOf Try.f40
def laws_toPrefix.h : Nat → Hint := look ⟨[], [], []⟩ []
def laws_toPrefix.ps : List PK := [.agg 2]
def laws_toPrefix.rs : List RK := [.agg 2 true]
def laws_toPrefix.vs : List ResultVar := [.cell 2 40]
def laws_toPrefix.x : Cx := ⟨tt, look none []⟩
def laws_toPrefix.f (_k : Nat) (a0_0 : Int) (a0_1 : Int) : Option (Int × Int) :=
  some (a0_0, a0_1)
def laws_toPrefix.K : Ctr := ⟨laws_toPrefix.ps, laws_toPrefix.rs, false, (.two (.int .i64) (.int .i64)), (.two (.int .i64) (.int .i64)), fun k x => laws_toPrefix.f k x.1 x.2⟩
theorem laws_toPrefix.eq (k : Nat) (x : (laws_toPrefix.K.I).den) : func laws_toPrefix.x laws_toPrefix.h laws_toPrefix.ps laws_toPrefix.rs laws_toPrefix.vs laws_toPrefix.K.I laws_toPrefix.K.O laws_toPrefix.c k x = laws_toPrefix.K.run k x := by
  show _ = laws_toPrefix.f k x.1 x.2
  kernel_rfl
theorem laws_toPrefix.ok : CtrOk Try.prog 40 laws_toPrefix.K :=
  CtrOk.of (fn := Try.f40) (cd := laws_toPrefix.c) (cx := laws_toPrefix.x) (hs := laws_toPrefix.h) (by kernel_rfl) (by kernel_rfl) (by kernel_rfl) (by kernel_rfl) tt_ok (envOk_nil) (by kernel_rfl) (by kernel_rfl) (by kernel_rfl) (by kernel_rfl) fun k x r h => (laws_toPrefix.eq k x).trans h
/-! laws.toRoute -/
noncomputable def laws_toRoute.c : Code := bodyOf Try.f53
def laws_toRoute.h : Nat → Hint := look ⟨[], [], []⟩ []
def laws_toRoute.ps : List PK := [.agg 3]
def laws_toRoute.rs : List RK := [.agg 3 true]
def laws_toRoute.vs : List ResultVar := [.cell 2 65]
def laws_toRoute.x : Cx := ⟨tt, look none [(40, some laws_toPrefix.K)]⟩
def laws_toRoute.f (k : Nat) (a0_0 : Int) (a0_1 : Int) (a0_2 : Int) : Option (Int × Int × Int) :=
  (laws_toPrefix.f k a0_0 a0_1).bind fun r1 => some (r1.1, r1.2, a0_2)
def laws_toRoute.K : Ctr := ⟨laws_toRoute.ps, laws_toRoute.rs, false, (.two (.int .i64) (.two (.int .i64) (.int .i64))), (.two (.int .i64) (.two (.int .i64) (.int .i64))), fun k x => laws_toRoute.f k x.1 x.2.1 x.2.2⟩
theorem laws_toRoute.eq (k : Nat) (x : (laws_toRoute.K.I).den) : func laws_toRoute.x laws_toRoute.h laws_toRoute.ps laws_toRoute.rs laws_toRoute.vs laws_toRoute.K.I laws_toRoute.K.O laws_toRoute.c k x = laws_toRoute.K.run k x := by
  show _ = laws_toRoute.f k x.1 x.2.1 x.2.2
  kernel_rfl
theorem laws_toRoute.ok : CtrOk Try.prog 53 laws_toRoute.K :=
  CtrOk.of (fn := Try.f53) (cd := laws_toRoute.c) (cx := laws_toRoute.x) (hs := laws_toRoute.h) (by kernel_rfl) (by kernel_rfl) (by kernel_rfl) (by kernel_rfl) tt_ok (envOk_cons laws_toPrefix.ok (envOk_nil)) (by kernel_rfl) (by kernel_rfl) (by kernel_rfl) (by kernel_rfl) fun k x r h => (laws_toRoute.eq k x).trans h
/-! laws.toRouteS -/
noncomputable def laws_toRouteS.c : Code := bodyOf Try.f17
def laws_toRouteS.h : Nat → Hint := look ⟨[], [], []⟩ [(0, ⟨[0, 3, 4], [], [(.t 3, 368, 65, (.two (.int .i64) (.two (.int .i64) (.int .i64))))]⟩)]
def laws_toRouteS.ps : List PK := [.one]
def laws_toRouteS.rs : List RK := [.one true]
def laws_toRouteS.vs : List ResultVar := [.tmp 2]
def laws_toRouteS.x : Cx := ⟨tt, look none [(53, some laws_toRoute.K)]⟩
def laws_toRouteS.s0 (k : Nat) (rec0 : (Int × (List (Int × Int × Int)) × (List (Int × Int × Int))) → Option ((List (Int × Int × Int)))) (p : (Int × (List (Int × Int × Int)) × (List (Int × Int × Int)))) : Option ((List (Int × Int × Int))) :=
  (bif (decide (p.1 < (p.2.1.length : Int))) then (bif ((decide ((0 : Int) ≤ p.1)) && (decide (p.1 < (p.2.1.length : Int)))) then (p.2.1[p.1.toNat]?).bind fun x1 => (laws_toRoute.f k x1.1 x1.2.1 x1.2.2).bind fun r2 => (bif ((decide ((0 : Int) ≤ p.1)) && (decide (p.1 < (p.2.2.length : Int)))) then (p.2.2[p.1.toNat]?).bind fun x3 => rec0 ((IntKind.i64.wrap (p.1 + (1 : Int))), p.2.1, (p.2.2.set p.1.toNat (r2.1, r2.2.1, r2.2.2))) else none) else none) else some p.2.2)
def laws_toRouteS.l0 (k : Nat) : Nat → (Int × (List (Int × Int × Int)) × (List (Int × Int × Int))) → Option ((List (Int × Int × Int)))
  | 0 => fun _ => none
  | j + 1 => laws_toRouteS.s0 k (laws_toRouteS.l0 k j)
def laws_toRouteS.S0 (p : (Int × (List (Int × Int × Int)) × (List (Int × Int × Int)))) : DS := ⟨tl [(0, .at (.whole 0)), (3, .at (.whole 368)), (4, .at (.int .i64 p.1))], lookO [(0, .row 81 (.two (.int .i64) (.two (.int .i64) (.int .i64))) false p.2.1), (368, .row 65 (.two (.int .i64) (.two (.int .i64) (.int .i64))) true p.2.2)]⟩
noncomputable def laws_toRouteS.D0 (k : Nat) (j : Nat) (p : (Int × (List (Int × Int × Int)) × (List (Int × Int × Int)))) : Option ((List (Int × Int × Int))) := loopK (norm [0] (laws_toRouteS.h 0)) (runK laws_toRouteS.x k 0 [0] laws_toRouteS.h 0 (sub laws_toRouteS.c [1, 1, 0, 1, 0, 0])) j (laws_toRouteS.S0 p) (kBlk 0 (kSeq (runK laws_toRouteS.x k 0 [0] laws_toRouteS.h 0 (sub laws_toRouteS.c [1, 1, 1])) (fin tt laws_toRouteS.ps laws_toRouteS.rs laws_toRouteS.vs (.sl 65 (.two (.int .i64) (.two (.int .i64) (.int .i64)))))))
theorem laws_toRouteS.D0_eq (k : Nat) : ∀ j, laws_toRouteS.D0 k j = laws_toRouteS.l0 k j := by
  intro j
  induction j with
  | zero => rfl
  | succ j ih =>
    show _ = laws_toRouteS.s0 k (laws_toRouteS.l0 k j)
    rw [← ih]
    funext p
    kernel_rfl
def laws_toRouteS.f (k : Nat) (a0 : List (Int × Int × Int)) : Option ((List (Int × Int × Int))) :=
  (bif ((decide ((0 : Int) ≤ (a0.length : Int))) && decide ((a0.length : Int) * 24 ≤ 140737488355328)) then laws_toRouteS.l0 k k ((0 : Int), a0, (List.replicate (a0.length : Int).toNat ((0 : Int), (0 : Int), (0 : Int)))) else none)
def laws_toRouteS.K : Ctr := ⟨laws_toRouteS.ps, laws_toRouteS.rs, false, (.sl 81 (.two (.int .i64) (.two (.int .i64) (.int .i64)))), (.sl 65 (.two (.int .i64) (.two (.int .i64) (.int .i64)))), fun k x => laws_toRouteS.f k x⟩
theorem laws_toRouteS.eq (k : Nat) (x : (laws_toRouteS.K.I).den) : func laws_toRouteS.x laws_toRouteS.h laws_toRouteS.ps laws_toRouteS.rs laws_toRouteS.vs laws_toRouteS.K.I laws_toRouteS.K.O laws_toRouteS.c k x = laws_toRouteS.K.run k x := by
  show _ = laws_toRouteS.f k x
  unfold laws_toRouteS.f
  rw [← laws_toRouteS.D0_eq k k]
  kernel_rfl
theorem laws_toRouteS.ok : CtrOk Try.prog 17 laws_toRouteS.K :=
  CtrOk.of (fn := Try.f17) (cd := laws_toRouteS.c) (cx := laws_toRouteS.x) (hs := laws_toRouteS.h) (by kernel_rfl) (by kernel_rfl) (by kernel_rfl) (by kernel_rfl) tt_ok (envOk_cons laws_toRoute.ok (envOk_nil)) (by kernel_rfl) (by kernel_rfl) (by kernel_rfl) (by kernel_rfl) fun k x r h => (laws_toRouteS.eq k x).trans h
/-! spec.TrieNew -/
noncomputable def spec_TrieNew.c : Code := bodyOf Try.f97
def spec_TrieNew.h : Nat → Hint := look ⟨[], [], []⟩ []
def spec_TrieNew.ps : List PK := []
def spec_TrieNew.rs : List RK := [.agg 1 true]
def spec_TrieNew.vs : List ResultVar := [.cell 0 55]
def spec_TrieNew.x : Cx := ⟨tt, look none []⟩
def spec_TrieNew.f (_k : Nat) : Option ((List (Int × Int × Int))) :=
  some [((0 : Int), (0 : Int), (0 : Int))]
def spec_TrieNew.K : Ctr := ⟨spec_TrieNew.ps, spec_TrieNew.rs, false, .unit, (.sl 104 (.two (.int .i64) (.two (.int .i64) (.int .i64)))), fun k _ => spec_TrieNew.f k⟩
theorem spec_TrieNew.eq (k : Nat) (x : (spec_TrieNew.K.I).den) : func spec_TrieNew.x spec_TrieNew.h spec_TrieNew.ps spec_TrieNew.rs spec_TrieNew.vs spec_TrieNew.K.I spec_TrieNew.K.O spec_TrieNew.c k x = spec_TrieNew.K.run k x := by
  show _ = spec_TrieNew.f k
  kernel_rfl
theorem spec_TrieNew.ok : CtrOk Try.prog 97 spec_TrieNew.K :=
  CtrOk.of (fn := Try.f97) (cd := spec_TrieNew.c) (cx := spec_TrieNew.x) (hs := spec_TrieNew.h) (by kernel_rfl) (by kernel_rfl) (by kernel_rfl) (by kernel_rfl) tt_ok (envOk_nil) (by kernel_rfl) (by kernel_rfl) (by kernel_rfl) (by kernel_rfl) fun k x r h => (spec_TrieNew.eq k x).trans h
/-! spec.l01In -/
noncomputable def spec_l01In.c : Code := bodyOf Try.f60
def spec_l01In.h : Nat → Hint := look ⟨[], [], []⟩ []
def spec_l01In.ps : List PK := [.one, .one, .one]
def spec_l01In.rs : List RK := [.one true]
def spec_l01In.vs : List ResultVar := [.tmp 6]
def spec_l01In.x : Cx := ⟨tt, look none []⟩
def spec_l01In.f (_k : Nat) (a0 : Int) (a1 : Int) (a2 : Int) : Option (Bool) :=
  (bif (decide (a0 ≥ a1)) then some (decide (a0 ≤ a2)) else some false)
def spec_l01In.K : Ctr := ⟨spec_l01In.ps, spec_l01In.rs, false, (.two (.int .i64) (.two (.int .i64) (.int .i64))), .bool, fun k x => spec_l01In.f k x.1 x.2.1 x.2.2⟩
theorem spec_l01In.eq (k : Nat) (x : (spec_l01In.K.I).den) : func spec_l01In.x spec_l01In.h spec_l01In.ps spec_l01In.rs spec_l01In.vs spec_l01In.K.I spec_l01In.K.O spec_l01In.c k x = spec_l01In.K.run k x := by
  show _ = spec_l01In.f k x.1 x.2.1 x.2.2
  kernel_rfl
theorem spec_l01In.ok : CtrOk Try.prog 60 spec_l01In.K :=
  CtrOk.of (fn := Try.f60) (cd := spec_l01In.c) (cx := spec_l01In.x) (hs := spec_l01In.h) (by kernel_rfl) (by kernel_rfl) (by kernel_rfl) (by kernel_rfl) tt_ok (envOk_nil) (by kernel_rfl) (by kernel_rfl) (by kernel_rfl) (by kernel_rfl) fun k x r h => (spec_l01In.eq k x).trans h
/-! spec.AddrOk -/
noncomputable def spec_AddrOk.c : Code := bodyOf Try.f75
def spec_AddrOk.h : Nat → Hint := look ⟨[], [], []⟩ []
def spec_AddrOk.ps : List PK := [.one]
def spec_AddrOk.rs : List RK := [.one true]
def spec_AddrOk.vs : List ResultVar := [.tmp 2]
def spec_AddrOk.x : Cx := ⟨tt, look none [(60, some spec_l01In.K)]⟩
def spec_AddrOk.f (k : Nat) (a0 : Int) : Option (Bool) :=
  (spec_l01In.f k a0 (0 : Int) (4294967295 : Int)).bind fun r1 => some r1
def spec_AddrOk.K : Ctr := ⟨spec_AddrOk.ps, spec_AddrOk.rs, false, (.int .i64), .bool, fun k x => spec_AddrOk.f k x⟩
theorem spec_AddrOk.eq (k : Nat) (x : (spec_AddrOk.K.I).den) : func spec_AddrOk.x spec_AddrOk.h spec_AddrOk.ps spec_AddrOk.rs spec_AddrOk.vs spec_AddrOk.K.I spec_AddrOk.K.O spec_AddrOk.c k x = spec_AddrOk.K.run k x := by
  show _ = spec_AddrOk.f k x
  kernel_rfl
theorem spec_AddrOk.ok : CtrOk Try.prog 75 spec_AddrOk.K :=
  CtrOk.of (fn := Try.f75) (cd := spec_AddrOk.c) (cx := spec_AddrOk.x) (hs := spec_AddrOk.h) (by kernel_rfl) (by kernel_rfl) (by kernel_rfl) (by kernel_rfl) tt_ok (envOk_cons spec_l01In.ok (envOk_nil)) (by kernel_rfl) (by kernel_rfl) (by kernel_rfl) (by kernel_rfl) fun k x r h => (spec_AddrOk.eq k x).trans h
/-! spec.l08Size -/
noncomputable def spec_l08Size.c : Code := bodyOf Try.f85
def spec_l08Size.h : Nat → Hint := look ⟨[], [], []⟩ [(0, ⟨[3, 4], [], []⟩)]
def spec_l08Size.ps : List PK := [.one]
def spec_l08Size.rs : List RK := [.one true]
def spec_l08Size.vs : List ResultVar := [.tmp 2]
def spec_l08Size.x : Cx := ⟨tt, look none []⟩
def spec_l08Size.s0 (_k : Nat) (rec0 : (Int × Int) → Option (Int)) (p : (Int × Int)) : Option (Int) :=
  (bif (decide (p.2 < (32 : Int))) then rec0 ((IntKind.i64.wrap ((2 : Int) * p.1)), (IntKind.i64.wrap (p.2 + (1 : Int)))) else some p.1)
def spec_l08Size.l0 (k : Nat) : Nat → (Int × Int) → Option (Int)
  | 0 => fun _ => none
  | j + 1 => spec_l08Size.s0 k (spec_l08Size.l0 k j)
def spec_l08Size.S0 (p : (Int × Int)) : DS := ⟨tl [(3, .at (.int .i64 p.1)), (4, .at (.int .i64 p.2))], lookO []⟩
noncomputable def spec_l08Size.D0 (k : Nat) (j : Nat) (p : (Int × Int)) : Option (Int) := loopK (norm [] (spec_l08Size.h 0)) (runK spec_l08Size.x k 0 [] spec_l08Size.h 0 (sub spec_l08Size.c [1, 1, 0, 1, 0, 0])) j (spec_l08Size.S0 p) (kBlk 0 (kSeq (runK spec_l08Size.x k 0 [] spec_l08Size.h 0 (sub spec_l08Size.c [1, 1, 1])) (fin tt spec_l08Size.ps spec_l08Size.rs spec_l08Size.vs (.int .i64))))
theorem spec_l08Size.D0_eq (k : Nat) : ∀ j, spec_l08Size.D0 k j = spec_l08Size.l0 k j := by
  intro j
  induction j with
  | zero => rfl
  | succ j ih =>
    show _ = spec_l08Size.s0 k (spec_l08Size.l0 k j)
    rw [← ih]
    funext p
    kernel_rfl
def spec_l08Size.f (k : Nat) (a0 : Int) : Option (Int) :=
  spec_l08Size.l0 k k ((1 : Int), a0)
def spec_l08Size.K : Ctr := ⟨spec_l08Size.ps, spec_l08Size.rs, false, (.int .i64), (.int .i64), fun k x => spec_l08Size.f k x⟩
theorem spec_l08Size.eq (k : Nat) (x : (spec_l08Size.K.I).den) : func spec_l08Size.x spec_l08Size.h spec_l08Size.ps spec_l08Size.rs spec_l08Size.vs spec_l08Size.K.I spec_l08Size.K.O spec_l08Size.c k x = spec_l08Size.K.run k x := by
  show _ = spec_l08Size.f k x
  unfold spec_l08Size.f
  rw [← spec_l08Size.D0_eq k k]
  kernel_rfl
theorem spec_l08Size.ok : CtrOk Try.prog 85 spec_l08Size.K :=
  CtrOk.of (fn := Try.f85) (cd := spec_l08Size.c) (cx := spec_l08Size.x) (hs := spec_l08Size.h) (by kernel_rfl) (by kernel_rfl) (by kernel_rfl) (by kernel_rfl) tt_ok (envOk_nil) (by kernel_rfl) (by kernel_rfl) (by kernel_rfl) (by kernel_rfl) fun k x r h => (spec_l08Size.eq k x).trans h
/-! spec.PrefixOk -/
noncomputable def spec_PrefixOk.c : Code := bodyOf Try.f59
def spec_PrefixOk.h : Nat → Hint := look ⟨[], [], []⟩ []
def spec_PrefixOk.ps : List PK := [.agg 2]
def spec_PrefixOk.rs : List RK := [.one true]
def spec_PrefixOk.vs : List ResultVar := [.tmp 2]
def spec_PrefixOk.x : Cx := ⟨tt, look none [(75, some spec_AddrOk.K), (60, some spec_l01In.K), (85, some spec_l08Size.K)]⟩
def spec_PrefixOk.f (k : Nat) (a0_0 : Int) (a0_1 : Int) : Option (Bool) :=
  (spec_AddrOk.f k a0_0).bind fun r1 => (bif r1 then (spec_l01In.f k a0_1 (0 : Int) (32 : Int)).bind fun r2 => (bif r2 then (spec_l08Size.f k a0_1).bind fun r3 => (bif (r3 == 0) then none else some ((a0_0.tmod r3) == (0 : Int))) else some false) else some false)
def spec_PrefixOk.K : Ctr := ⟨spec_PrefixOk.ps, spec_PrefixOk.rs, false, (.two (.int .i64) (.int .i64)), .bool, fun k x => spec_PrefixOk.f k x.1 x.2⟩
theorem spec_PrefixOk.eq (k : Nat) (x : (spec_PrefixOk.K.I).den) : func spec_PrefixOk.x spec_PrefixOk.h spec_PrefixOk.ps spec_PrefixOk.rs spec_PrefixOk.vs spec_PrefixOk.K.I spec_PrefixOk.K.O spec_PrefixOk.c k x = spec_PrefixOk.K.run k x := by
  show _ = spec_PrefixOk.f k x.1 x.2
  kernel_rfl
theorem spec_PrefixOk.ok : CtrOk Try.prog 59 spec_PrefixOk.K :=
  CtrOk.of (fn := Try.f59) (cd := spec_PrefixOk.c) (cx := spec_PrefixOk.x) (hs := spec_PrefixOk.h) (by kernel_rfl) (by kernel_rfl) (by kernel_rfl) (by kernel_rfl) tt_ok (envOk_cons spec_AddrOk.ok (envOk_cons spec_l01In.ok (envOk_cons spec_l08Size.ok (envOk_nil)))) (by kernel_rfl) (by kernel_rfl) (by kernel_rfl) (by kernel_rfl) fun k x r h => (spec_PrefixOk.eq k x).trans h
/-! spec.l09Ahead -/
noncomputable def spec_l09Ahead.c : Code := bodyOf Try.f61
def spec_l09Ahead.h : Nat → Hint := look ⟨[], [], []⟩ []
def spec_l09Ahead.ps : List PK := [.agg 2, .agg 2]
def spec_l09Ahead.rs : List RK := [.one true]
def spec_l09Ahead.vs : List ResultVar := [.tmp 4]
def spec_l09Ahead.x : Cx := ⟨tt, look none []⟩
def spec_l09Ahead.f (_k : Nat) (a0_0 : Int) (a0_1 : Int) (a1_0 : Int) (a1_1 : Int) : Option (Bool) :=
  (bif (decide (a0_0 < a1_0)) then some true else (bif (a0_0 == a1_0) then some (decide (a0_1 < a1_1)) else some false))
def spec_l09Ahead.K : Ctr := ⟨spec_l09Ahead.ps, spec_l09Ahead.rs, false, (.two (.int .i64) (.two (.int .i64) (.two (.int .i64) (.int .i64)))), .bool, fun k x => spec_l09Ahead.f k x.1 x.2.1 x.2.2.1 x.2.2.2⟩
theorem spec_l09Ahead.eq (k : Nat) (x : (spec_l09Ahead.K.I).den) : func spec_l09Ahead.x spec_l09Ahead.h spec_l09Ahead.ps spec_l09Ahead.rs spec_l09Ahead.vs spec_l09Ahead.K.I spec_l09Ahead.K.O spec_l09Ahead.c k x = spec_l09Ahead.K.run k x := by
  show _ = spec_l09Ahead.f k x.1 x.2.1 x.2.2.1 x.2.2.2
  kernel_rfl
theorem spec_l09Ahead.ok : CtrOk Try.prog 61 spec_l09Ahead.K :=
  CtrOk.of (fn := Try.f61) (cd := spec_l09Ahead.c) (cx := spec_l09Ahead.x) (hs := spec_l09Ahead.h) (by kernel_rfl) (by kernel_rfl) (by kernel_rfl) (by kernel_rfl) tt_ok (envOk_nil) (by kernel_rfl) (by kernel_rfl) (by kernel_rfl) (by kernel_rfl) fun k x r h => (spec_l09Ahead.eq k x).trans h
/-! spec.RoutesOk -/
noncomputable def spec_RoutesOk.c : Code := bodyOf Try.f22
def spec_RoutesOk.h : Nat → Hint := look ⟨[], [], []⟩ [(0, ⟨[0, 3], [], []⟩)]
def spec_RoutesOk.ps : List PK := [.one]
def spec_RoutesOk.rs : List RK := [.one true]
def spec_RoutesOk.vs : List ResultVar := [.tmp 2]
def spec_RoutesOk.x : Cx := ⟨tt, look none [(59, some spec_PrefixOk.K), (60, some spec_l01In.K), (61, some spec_l09Ahead.K)]⟩
def spec_RoutesOk.s0 (k : Nat) (rec0 : (Int × (List (Int × Int × Int))) → Option (Bool)) (p : (Int × (List (Int × Int × Int)))) : Option (Bool) :=
  (bif (decide (p.1 < (p.2.length : Int))) then (bif ((decide ((0 : Int) ≤ p.1)) && (decide (p.1 < (p.2.length : Int)))) then (p.2[p.1.toNat]?).bind fun x1 => (spec_PrefixOk.f k x1.1 x1.2.1).bind fun r2 => (bif (!r2) then some false else (bif ((decide ((0 : Int) ≤ p.1)) && (decide (p.1 < (p.2.length : Int)))) then (p.2[p.1.toNat]?).bind fun x3 => (spec_l01In.f k x3.2.2 (1 : Int) (99 : Int)).bind fun r4 => (bif (!r4) then some false else (bif (decide (p.1 > (0 : Int))) then (bif ((decide ((0 : Int) ≤ (IntKind.i64.wrap (p.1 - (1 : Int))))) && (decide ((IntKind.i64.wrap (p.1 - (1 : Int))) < (p.2.length : Int)))) then (p.2[(IntKind.i64.wrap (p.1 - (1 : Int))).toNat]?).bind fun x5 => (bif ((decide ((0 : Int) ≤ p.1)) && (decide (p.1 < (p.2.length : Int)))) then (p.2[p.1.toNat]?).bind fun x6 => (spec_l09Ahead.f k x5.1 x5.2.1 x6.1 x6.2.1).bind fun r7 => (bif (!r7) then some false else rec0 ((IntKind.i64.wrap (p.1 + (1 : Int))), p.2)) else none) else none) else rec0 ((IntKind.i64.wrap (p.1 + (1 : Int))), p.2))) else none)) else none) else some (decide ((p.2.length : Int) ≤ (12 : Int))))
def spec_RoutesOk.l0 (k : Nat) : Nat → (Int × (List (Int × Int × Int))) → Option (Bool)
  | 0 => fun _ => none
  | j + 1 => spec_RoutesOk.s0 k (spec_RoutesOk.l0 k j)
def spec_RoutesOk.S0 (p : (Int × (List (Int × Int × Int)))) : DS := ⟨tl [(0, .at (.whole 0)), (3, .at (.int .i64 p.1))], lookO [(0, .row 65 (.two (.int .i64) (.two (.int .i64) (.int .i64))) false p.2)]⟩
noncomputable def spec_RoutesOk.D0 (k : Nat) (j : Nat) (p : (Int × (List (Int × Int × Int)))) : Option (Bool) := loopK (norm [0] (spec_RoutesOk.h 0)) (runK spec_RoutesOk.x k 0 [0] spec_RoutesOk.h 0 (sub spec_RoutesOk.c [1, 0, 1, 0, 0])) j (spec_RoutesOk.S0 p) (kBlk 0 (kSeq (runK spec_RoutesOk.x k 0 [0] spec_RoutesOk.h 0 (sub spec_RoutesOk.c [1, 1])) (fin tt spec_RoutesOk.ps spec_RoutesOk.rs spec_RoutesOk.vs .bool)))
theorem spec_RoutesOk.D0_eq (k : Nat) : ∀ j, spec_RoutesOk.D0 k j = spec_RoutesOk.l0 k j := by
  intro j
  induction j with
  | zero => rfl
  | succ j ih =>
    show _ = spec_RoutesOk.s0 k (spec_RoutesOk.l0 k j)
    rw [← ih]
    funext p
    kernel_rfl
def spec_RoutesOk.f (k : Nat) (a0 : List (Int × Int × Int)) : Option (Bool) :=
  spec_RoutesOk.l0 k k ((0 : Int), a0)
def spec_RoutesOk.K : Ctr := ⟨spec_RoutesOk.ps, spec_RoutesOk.rs, false, (.sl 65 (.two (.int .i64) (.two (.int .i64) (.int .i64)))), .bool, fun k x => spec_RoutesOk.f k x⟩
theorem spec_RoutesOk.eq (k : Nat) (x : (spec_RoutesOk.K.I).den) : func spec_RoutesOk.x spec_RoutesOk.h spec_RoutesOk.ps spec_RoutesOk.rs spec_RoutesOk.vs spec_RoutesOk.K.I spec_RoutesOk.K.O spec_RoutesOk.c k x = spec_RoutesOk.K.run k x := by
  show _ = spec_RoutesOk.f k x
  unfold spec_RoutesOk.f
  rw [← spec_RoutesOk.D0_eq k k]
  kernel_rfl
theorem spec_RoutesOk.ok : CtrOk Try.prog 22 spec_RoutesOk.K :=
  CtrOk.of (fn := Try.f22) (cd := spec_RoutesOk.c) (cx := spec_RoutesOk.x) (hs := spec_RoutesOk.h) (by kernel_rfl) (by kernel_rfl) (by kernel_rfl) (by kernel_rfl) tt_ok (envOk_cons spec_PrefixOk.ok (envOk_cons spec_l01In.ok (envOk_cons spec_l09Ahead.ok (envOk_nil)))) (by kernel_rfl) (by kernel_rfl) (by kernel_rfl) (by kernel_rfl) fun k x r h => (spec_RoutesOk.eq k x).trans h
/-! spec.TrieOk -/
noncomputable def spec_TrieOk.c : Code := bodyOf Try.f74
def spec_TrieOk.h : Nat → Hint := look ⟨[], [], []⟩ [(0, ⟨[1, 3, 4], [16], [(.t 3, 1280, 3, (.int .i64))]⟩), (2, ⟨[1, 3, 4, 6, 7], [16], [(.t 3, 1280, 3, (.int .i64)), (.t 6, 1281, 3, (.int .i64))]⟩), (4, ⟨[3, 8], [], [(.t 3, 1280, 3, (.int .i64))]⟩)]
def spec_TrieOk.ps : List PK := [.agg 1]
def spec_TrieOk.rs : List RK := [.one true]
def spec_TrieOk.vs : List ResultVar := [.tmp 2]
def spec_TrieOk.x : Cx := ⟨tt, look none [(60, some spec_l01In.K)]⟩
def spec_TrieOk.s2 (k : Nat) (rec0 : (Int × (List (Int × Int × Int)) × (List (Int))) → Option (Bool)) (rec2 : (Int × Int × (List (Int × Int × Int)) × (List (Int)) × (List (Int))) → Option (Bool)) (p : (Int × Int × (List (Int × Int × Int)) × (List (Int)) × (List (Int)))) : Option (Bool) :=
  (bif (decide (p.2.1 < (2 : Int))) then (bif ((decide ((0 : Int) ≤ p.2.1)) && (decide (p.2.1 < (p.2.2.2.2.length : Int)))) then (p.2.2.2.2[p.2.1.toNat]?).bind fun x4 => (bif (x4 == (0 : Int)) then rec2 (p.1, (IntKind.i64.wrap (p.2.1 + (1 : Int))), p.2.2.1, p.2.2.2.1, p.2.2.2.2) else (bif ((decide ((0 : Int) ≤ p.2.1)) && (decide (p.2.1 < (p.2.2.2.2.length : Int)))) then (p.2.2.2.2[p.2.1.toNat]?).bind fun x5 => (spec_l01In.f k x5 (IntKind.i64.wrap (p.1 + (1 : Int))) (IntKind.i64.wrap ((p.2.2.1.length : Int) - (1 : Int)))).bind fun r6 => (bif (!r6) then some false else (bif ((decide ((0 : Int) ≤ p.2.1)) && (decide (p.2.1 < (p.2.2.2.2.length : Int)))) then (p.2.2.2.2[p.2.1.toNat]?).bind fun x7 => (bif ((decide ((0 : Int) ≤ x7)) && (decide (x7 < (p.2.2.2.1.length : Int)))) then (p.2.2.2.1[x7.toNat]?).bind fun x8 => (bif ((decide ((0 : Int) ≤ x7)) && (decide (x7 < (p.2.2.2.1.length : Int)))) then (p.2.2.2.1[x7.toNat]?).bind fun x9 => rec2 (p.1, (IntKind.i64.wrap (p.2.1 + (1 : Int))), p.2.2.1, (p.2.2.2.1.set x7.toNat (IntKind.i64.wrap (x8 + (1 : Int)))), p.2.2.2.2) else none) else none) else none)) else none)) else none) else rec0 ((IntKind.i64.wrap (p.1 + (1 : Int))), p.2.2.1, p.2.2.2.1))
def spec_TrieOk.l2 (k : Nat) (rec0 : (Int × (List (Int × Int × Int)) × (List (Int))) → Option (Bool)) : Nat → (Int × Int × (List (Int × Int × Int)) × (List (Int)) × (List (Int))) → Option (Bool)
  | 0 => fun _ => none
  | j + 1 => spec_TrieOk.s2 k rec0 (spec_TrieOk.l2 k rec0 j)
def spec_TrieOk.s4 (_k : Nat) (rec4 : (Int × (List (Int × Int × Int)) × (List (Int))) → Option (Bool)) (p : (Int × (List (Int × Int × Int)) × (List (Int)))) : Option (Bool) :=
  (bif (decide (p.1 < (p.2.2.length : Int))) then (bif ((decide ((0 : Int) ≤ p.1)) && (decide (p.1 < (p.2.2.length : Int)))) then (p.2.2[p.1.toNat]?).bind fun x10 => (bif (x10 != (1 : Int)) then some false else rec4 ((IntKind.i64.wrap (p.1 + (1 : Int))), p.2.1, p.2.2)) else none) else some true)
def spec_TrieOk.l4 (k : Nat) : Nat → (Int × (List (Int × Int × Int)) × (List (Int))) → Option (Bool)
  | 0 => fun _ => none
  | j + 1 => spec_TrieOk.s4 k (spec_TrieOk.l4 k j)
def spec_TrieOk.s0 (k : Nat) (_rec0 : (Int × (List (Int × Int × Int)) × (List (Int))) → Option (Bool)) (i2 : (Int × Int × (List (Int × Int × Int)) × (List (Int)) × (List (Int))) → Option (Bool)) (i4 : (Int × (List (Int × Int × Int)) × (List (Int))) → Option (Bool)) (p : (Int × (List (Int × Int × Int)) × (List (Int)))) : Option (Bool) :=
  (bif (decide (p.1 < (p.2.1.length : Int))) then (bif ((decide ((0 : Int) ≤ p.1)) && (decide (p.1 < (p.2.1.length : Int)))) then (p.2.1[p.1.toNat]?).bind fun x2 => (spec_l01In.f k x2.2.2 (0 : Int) (99 : Int)).bind fun r3 => (bif (!r3) then some false else i2 (p.1, (0 : Int), p.2.1, p.2.2, [x2.1, x2.2.1])) else none) else i4 ((1 : Int), p.2.1, p.2.2))
def spec_TrieOk.l0 (k : Nat) : Nat → (Int × (List (Int × Int × Int)) × (List (Int))) → Option (Bool)
  | 0 => fun _ => none
  | j + 1 => spec_TrieOk.s0 k (spec_TrieOk.l0 k j) (spec_TrieOk.l2 k (spec_TrieOk.l0 k j) k) (spec_TrieOk.l4 k k)
def spec_TrieOk.S2 (p : (Int × Int × (List (Int × Int × Int)) × (List (Int)) × (List (Int)))) : DS := ⟨tl [(1, .at (.bptr 16 0)), (3, .at (.whole 1280)), (4, .at (.int .i64 p.1)), (6, .at (.whole 1281)), (7, .at (.int .i64 p.2.1))], lookO [(0, .row 104 (.two (.int .i64) (.two (.int .i64) (.int .i64))) false p.2.2.1), (16, .box 55 [.whole 0]), (1280, .row 3 (.int .i64) true p.2.2.2.1), (1281, .row 3 (.int .i64) true p.2.2.2.2)]⟩
def spec_TrieOk.S4 (p : (Int × (List (Int × Int × Int)) × (List (Int)))) : DS := ⟨tl [(3, .at (.whole 1280)), (8, .at (.int .i64 p.1))], lookO [(0, .row 104 (.two (.int .i64) (.two (.int .i64) (.int .i64))) false p.2.1), (1280, .row 3 (.int .i64) true p.2.2)]⟩
def spec_TrieOk.S0 (p : (Int × (List (Int × Int × Int)) × (List (Int)))) : DS := ⟨tl [(1, .at (.bptr 16 0)), (3, .at (.whole 1280)), (4, .at (.int .i64 p.1))], lookO [(0, .row 104 (.two (.int .i64) (.two (.int .i64) (.int .i64))) false p.2.1), (16, .box 55 [.whole 0]), (1280, .row 3 (.int .i64) true p.2.2)]⟩
noncomputable def spec_TrieOk.D2 (k : Nat) (j0 : Nat) (j : Nat) (p : (Int × Int × (List (Int × Int × Int)) × (List (Int)) × (List (Int)))) : Option (Bool) := loopK (norm [0] (spec_TrieOk.h 2)) (runK spec_TrieOk.x k 0 [0] spec_TrieOk.h 2 (sub spec_TrieOk.c [1, 1, 1, 0, 1, 0, 0, 1, 0, 0, 1, 1, 1, 1, 0, 0])) j (spec_TrieOk.S2 p) (kBlk 2 (kBlk 1 (kSeq (runK spec_TrieOk.x k 0 [0] spec_TrieOk.h 0 (sub spec_TrieOk.c [1, 1, 1, 0, 1, 0, 0, 1, 1])) (kSeq (fun s' K => (norm [0] (spec_TrieOk.h 0) s').bind fun s => loopK (norm [0] (spec_TrieOk.h 0)) (runK spec_TrieOk.x k 0 [0] spec_TrieOk.h 0 (sub spec_TrieOk.c [1, 1, 1, 0, 1, 0, 0])) j0 s K) (kBlk 0 (kSeq (runK spec_TrieOk.x k 0 [0] spec_TrieOk.h 0 (sub spec_TrieOk.c [1, 1, 1, 1])) (fin tt spec_TrieOk.ps spec_TrieOk.rs spec_TrieOk.vs .bool)))))))
noncomputable def spec_TrieOk.D4 (k : Nat) (j : Nat) (p : (Int × (List (Int × Int × Int)) × (List (Int)))) : Option (Bool) := loopK (norm [0] (spec_TrieOk.h 4)) (runK spec_TrieOk.x k 0 [0] spec_TrieOk.h 4 (sub spec_TrieOk.c [1, 1, 1, 1, 0, 1, 0, 0])) j (spec_TrieOk.S4 p) (kBlk 4 (kSeq (runK spec_TrieOk.x k 0 [0] spec_TrieOk.h 0 (sub spec_TrieOk.c [1, 1, 1, 1, 1])) (fin tt spec_TrieOk.ps spec_TrieOk.rs spec_TrieOk.vs .bool)))
noncomputable def spec_TrieOk.D0 (k : Nat) (j : Nat) (p : (Int × (List (Int × Int × Int)) × (List (Int)))) : Option (Bool) := loopK (norm [0] (spec_TrieOk.h 0)) (runK spec_TrieOk.x k 0 [0] spec_TrieOk.h 0 (sub spec_TrieOk.c [1, 1, 1, 0, 1, 0, 0])) j (spec_TrieOk.S0 p) (kBlk 0 (kSeq (runK spec_TrieOk.x k 0 [0] spec_TrieOk.h 0 (sub spec_TrieOk.c [1, 1, 1, 1])) (fin tt spec_TrieOk.ps spec_TrieOk.rs spec_TrieOk.vs .bool)))
theorem spec_TrieOk.D2_eq (k : Nat) (j0 : Nat) : ∀ j, spec_TrieOk.D2 k j0 j = spec_TrieOk.l2 k (spec_TrieOk.D0 k j0) j := by
  intro j
  induction j with
  | zero => rfl
  | succ j ih =>
    show _ = spec_TrieOk.s2 k (spec_TrieOk.D0 k j0) (spec_TrieOk.l2 k (spec_TrieOk.D0 k j0) j)
    rw [← ih]
    funext p
    kernel_rfl
theorem spec_TrieOk.D4_eq (k : Nat) : ∀ j, spec_TrieOk.D4 k j = spec_TrieOk.l4 k j := by
  intro j
  induction j with
  | zero => rfl
  | succ j ih =>
    show _ = spec_TrieOk.s4 k (spec_TrieOk.l4 k j)
    rw [← ih]
    funext p
    kernel_rfl
theorem spec_TrieOk.D0_eq (k : Nat) : ∀ j, spec_TrieOk.D0 k j = spec_TrieOk.l0 k j := by
  intro j
  induction j with
  | zero => rfl
  | succ j ih =>
    show _ = spec_TrieOk.s0 k (spec_TrieOk.l0 k j) (spec_TrieOk.l2 k (spec_TrieOk.l0 k j) k) (spec_TrieOk.l4 k k)
    rw [← ih, ← spec_TrieOk.D2_eq k j k, ← spec_TrieOk.D4_eq k k]
    funext p
    kernel_rfl
def spec_TrieOk.f (k : Nat) (a0 : List (Int × Int × Int)) : Option (Bool) :=
  (spec_l01In.f k (a0.length : Int) (1 : Int) (400 : Int)).bind fun r1 => (bif (!r1) then some false else (bif ((decide ((0 : Int) ≤ (a0.length : Int))) && decide ((a0.length : Int) * 8 ≤ 140737488355328)) then spec_TrieOk.l0 k k ((0 : Int), a0, (List.replicate (a0.length : Int).toNat (0 : Int))) else none))
def spec_TrieOk.K : Ctr := ⟨spec_TrieOk.ps, spec_TrieOk.rs, false, (.sl 104 (.two (.int .i64) (.two (.int .i64) (.int .i64)))), .bool, fun k x => spec_TrieOk.f k x⟩
theorem spec_TrieOk.eq (k : Nat) (x : (spec_TrieOk.K.I).den) : func spec_TrieOk.x spec_TrieOk.h spec_TrieOk.ps spec_TrieOk.rs spec_TrieOk.vs spec_TrieOk.K.I spec_TrieOk.K.O spec_TrieOk.c k x = spec_TrieOk.K.run k x := by
  show _ = spec_TrieOk.f k x
  unfold spec_TrieOk.f
  rw [← spec_TrieOk.D0_eq k k]
  kernel_rfl
theorem spec_TrieOk.ok : CtrOk Try.prog 74 spec_TrieOk.K :=
  CtrOk.of (fn := Try.f74) (cd := spec_TrieOk.c) (cx := spec_TrieOk.x) (hs := spec_TrieOk.h) (by kernel_rfl) (by kernel_rfl) (by kernel_rfl) (by kernel_rfl) tt_ok (envOk_cons spec_l01In.ok (envOk_nil)) (by kernel_rfl) (by kernel_rfl) (by kernel_rfl) (by kernel_rfl) fun k x r h => (spec_TrieOk.eq k x).trans h
/-! spec.l10Bit -/
noncomputable def spec_l10Bit.c : Code := bodyOf Try.f76
def spec_l10Bit.h : Nat → Hint := look ⟨[], [], []⟩ []
def spec_l10Bit.ps : List PK := [.one, .one]
def spec_l10Bit.rs : List RK := [.one true]
def spec_l10Bit.vs : List ResultVar := [.tmp 4]
def spec_l10Bit.x : Cx := ⟨tt, look none [(85, some spec_l08Size.K)]⟩
def spec_l10Bit.f (k : Nat) (a0 : Int) (a1 : Int) : Option (Int) :=
  (spec_l08Size.f k a1).bind fun r1 => (bif ((IntKind.i64.wrap (r1.tdiv (2 : Int))) == 0) then none else some ((IntKind.i64.wrap (a0.tdiv (IntKind.i64.wrap (r1.tdiv (2 : Int))))).tmod (2 : Int)))
def spec_l10Bit.K : Ctr := ⟨spec_l10Bit.ps, spec_l10Bit.rs, false, (.two (.int .i64) (.int .i64)), (.int .i64), fun k x => spec_l10Bit.f k x.1 x.2⟩
theorem spec_l10Bit.eq (k : Nat) (x : (spec_l10Bit.K.I).den) : func spec_l10Bit.x spec_l10Bit.h spec_l10Bit.ps spec_l10Bit.rs spec_l10Bit.vs spec_l10Bit.K.I spec_l10Bit.K.O spec_l10Bit.c k x = spec_l10Bit.K.run k x := by
  show _ = spec_l10Bit.f k x.1 x.2
  kernel_rfl
theorem spec_l10Bit.ok : CtrOk Try.prog 76 spec_l10Bit.K :=
  CtrOk.of (fn := Try.f76) (cd := spec_l10Bit.c) (cx := spec_l10Bit.x) (hs := spec_l10Bit.h) (by kernel_rfl) (by kernel_rfl) (by kernel_rfl) (by kernel_rfl) tt_ok (envOk_cons spec_l08Size.ok (envOk_nil)) (by kernel_rfl) (by kernel_rfl) (by kernel_rfl) (by kernel_rfl) fun k x r h => (spec_l10Bit.eq k x).trans h
/-! spec.TriePut -/
noncomputable def spec_TriePut.c : Code := bodyOf Try.f44
def spec_TriePut.h : Nat → Hint := look ⟨[], [], []⟩ [(0, ⟨[2, 4, 6, 8, 9, 10, 11], [64, 96, 128], [(.b 96 0, 1472, 104, (.two (.int .i64) (.two (.int .i64) (.int .i64)))), (.b 128 0, 1473, 104, (.two (.int .i64) (.two (.int .i64) (.int .i64)))), (.t 9, 1474, 104, (.two (.int .i64) (.two (.int .i64) (.int .i64))))]⟩)]
def spec_TriePut.ps : List PK := [.agg 1, .agg 2, .one]
def spec_TriePut.rs : List RK := [.agg 1 true, .one true]
def spec_TriePut.vs : List ResultVar := [.cell 6 55, .tmp 7]
def spec_TriePut.x : Cx := ⟨tt, look none [(74, some spec_TrieOk.K), (59, some spec_PrefixOk.K), (60, some spec_l01In.K), (76, some spec_l10Bit.K)]⟩
def spec_TriePut.s0 (k : Nat) (rec0 : (Int × Int × Int × (List (Int × Int × Int)) × Int × Int × (List (Int × Int × Int)) × (List (Int × Int × Int)) × (List (Int × Int × Int))) → Option ((List (Int × Int × Int)) × Bool)) (p : (Int × Int × Int × (List (Int × Int × Int)) × Int × Int × (List (Int × Int × Int)) × (List (Int × Int × Int)) × (List (Int × Int × Int)))) : Option ((List (Int × Int × Int)) × Bool) :=
  (bif (decide (p.2.2.1 < p.2.2.2.2.2.1)) then (bif ((decide ((0 : Int) ≤ p.2.1)) && (decide (p.2.1 < (p.2.2.2.2.2.2.2.2.length : Int)))) then (p.2.2.2.2.2.2.2.2[p.2.1.toNat]?).bind fun x4 => (spec_l10Bit.f k p.2.2.2.2.1 p.2.2.1).bind fun r5 => (bif (r5 == (1 : Int)) then (bif ((decide ((0 : Int) ≤ p.2.1)) && (decide (p.2.1 < (p.2.2.2.2.2.2.2.2.length : Int)))) then (p.2.2.2.2.2.2.2.2[p.2.1.toNat]?).bind fun x6 => (bif (x6.2.1 == (0 : Int)) then (spec_l10Bit.f k p.2.2.2.2.1 p.2.2.1).bind fun r7 => (bif (r7 == (1 : Int)) then (bif ((decide ((0 : Int) ≤ p.2.1)) && (decide (p.2.1 < (p.2.2.2.2.2.2.2.2.length : Int)))) then (p.2.2.2.2.2.2.2.2[p.2.1.toNat]?).bind fun x8 => (bif decide (((p.2.2.2.2.2.2.2.2.set p.2.1.toNat (x8.1, (p.2.2.2.2.2.2.2.2.length : Int), x8.2.2)).length + [((0 : Int), (0 : Int), (0 : Int))].length) * 24 ≤ 140737488355328) then rec0 (p.1, (p.2.2.2.2.2.2.2.2.length : Int), (IntKind.i64.wrap (p.2.2.1 + (1 : Int))), p.2.2.2.1, p.2.2.2.2.1, p.2.2.2.2.2.1, p.2.2.2.2.2.2.1, p.2.2.2.2.2.2.2.1, ((p.2.2.2.2.2.2.2.2.set p.2.1.toNat (x8.1, (p.2.2.2.2.2.2.2.2.length : Int), x8.2.2)) ++ [((0 : Int), (0 : Int), (0 : Int))])) else none) else none) else (bif ((decide ((0 : Int) ≤ p.2.1)) && (decide (p.2.1 < (p.2.2.2.2.2.2.2.2.length : Int)))) then (p.2.2.2.2.2.2.2.2[p.2.1.toNat]?).bind fun x9 => (bif decide (((p.2.2.2.2.2.2.2.2.set p.2.1.toNat ((p.2.2.2.2.2.2.2.2.length : Int), x9.2)).length + [((0 : Int), (0 : Int), (0 : Int))].length) * 24 ≤ 140737488355328) then rec0 (p.1, (p.2.2.2.2.2.2.2.2.length : Int), (IntKind.i64.wrap (p.2.2.1 + (1 : Int))), p.2.2.2.1, p.2.2.2.2.1, p.2.2.2.2.2.1, p.2.2.2.2.2.2.1, p.2.2.2.2.2.2.2.1, ((p.2.2.2.2.2.2.2.2.set p.2.1.toNat ((p.2.2.2.2.2.2.2.2.length : Int), x9.2)) ++ [((0 : Int), (0 : Int), (0 : Int))])) else none) else none)) else rec0 (p.1, x6.2.1, (IntKind.i64.wrap (p.2.2.1 + (1 : Int))), p.2.2.2.1, p.2.2.2.2.1, p.2.2.2.2.2.1, p.2.2.2.2.2.2.1, p.2.2.2.2.2.2.2.1, p.2.2.2.2.2.2.2.2)) else none) else (bif (x4.1 == (0 : Int)) then (spec_l10Bit.f k p.2.2.2.2.1 p.2.2.1).bind fun r10 => (bif (r10 == (1 : Int)) then (bif ((decide ((0 : Int) ≤ p.2.1)) && (decide (p.2.1 < (p.2.2.2.2.2.2.2.2.length : Int)))) then (p.2.2.2.2.2.2.2.2[p.2.1.toNat]?).bind fun x11 => (bif decide (((p.2.2.2.2.2.2.2.2.set p.2.1.toNat (x11.1, (p.2.2.2.2.2.2.2.2.length : Int), x11.2.2)).length + [((0 : Int), (0 : Int), (0 : Int))].length) * 24 ≤ 140737488355328) then rec0 (p.1, (p.2.2.2.2.2.2.2.2.length : Int), (IntKind.i64.wrap (p.2.2.1 + (1 : Int))), p.2.2.2.1, p.2.2.2.2.1, p.2.2.2.2.2.1, p.2.2.2.2.2.2.1, p.2.2.2.2.2.2.2.1, ((p.2.2.2.2.2.2.2.2.set p.2.1.toNat (x11.1, (p.2.2.2.2.2.2.2.2.length : Int), x11.2.2)) ++ [((0 : Int), (0 : Int), (0 : Int))])) else none) else none) else (bif ((decide ((0 : Int) ≤ p.2.1)) && (decide (p.2.1 < (p.2.2.2.2.2.2.2.2.length : Int)))) then (p.2.2.2.2.2.2.2.2[p.2.1.toNat]?).bind fun x12 => (bif decide (((p.2.2.2.2.2.2.2.2.set p.2.1.toNat ((p.2.2.2.2.2.2.2.2.length : Int), x12.2)).length + [((0 : Int), (0 : Int), (0 : Int))].length) * 24 ≤ 140737488355328) then rec0 (p.1, (p.2.2.2.2.2.2.2.2.length : Int), (IntKind.i64.wrap (p.2.2.1 + (1 : Int))), p.2.2.2.1, p.2.2.2.2.1, p.2.2.2.2.2.1, p.2.2.2.2.2.2.1, p.2.2.2.2.2.2.2.1, ((p.2.2.2.2.2.2.2.2.set p.2.1.toNat ((p.2.2.2.2.2.2.2.2.length : Int), x12.2)) ++ [((0 : Int), (0 : Int), (0 : Int))])) else none) else none)) else rec0 (p.1, x4.1, (IntKind.i64.wrap (p.2.2.1 + (1 : Int))), p.2.2.2.1, p.2.2.2.2.1, p.2.2.2.2.2.1, p.2.2.2.2.2.2.1, p.2.2.2.2.2.2.2.1, p.2.2.2.2.2.2.2.2))) else none) else (bif (decide ((p.2.2.2.2.2.2.2.2.length : Int) > (400 : Int))) then some (p.2.2.2.2.2.2.2.1, false) else (bif ((decide ((0 : Int) ≤ p.2.1)) && (decide (p.2.1 < (p.2.2.2.2.2.2.2.2.length : Int)))) then (p.2.2.2.2.2.2.2.2[p.2.1.toNat]?).bind fun x13 => some ((p.2.2.2.2.2.2.2.2.set p.2.1.toNat (x13.1, x13.2.1, p.1)), true) else none)))
def spec_TriePut.l0 (k : Nat) : Nat → (Int × Int × Int × (List (Int × Int × Int)) × Int × Int × (List (Int × Int × Int)) × (List (Int × Int × Int)) × (List (Int × Int × Int))) → Option ((List (Int × Int × Int)) × Bool)
  | 0 => fun _ => none
  | j + 1 => spec_TriePut.s0 k (spec_TriePut.l0 k j)
def spec_TriePut.S0 (p : (Int × Int × Int × (List (Int × Int × Int)) × Int × Int × (List (Int × Int × Int)) × (List (Int × Int × Int)) × (List (Int × Int × Int)))) : DS := ⟨tl [(2, .at (.int .i64 p.1)), (4, .at (.bptr 64 0)), (6, .at (.bptr 96 0)), (8, .at (.bptr 128 0)), (9, .at (.whole 1474)), (10, .at (.int .i64 p.2.1)), (11, .at (.int .i64 p.2.2.1))], lookO [(0, .row 104 (.two (.int .i64) (.two (.int .i64) (.int .i64))) false p.2.2.2.1), (64, .box 40 [.int .i64 p.2.2.2.2.1, .int .i64 p.2.2.2.2.2.1]), (96, .box 55 [.whole 1472]), (128, .box 55 [.whole 1473]), (1472, .row 104 (.two (.int .i64) (.two (.int .i64) (.int .i64))) true p.2.2.2.2.2.2.1), (1473, .row 104 (.two (.int .i64) (.two (.int .i64) (.int .i64))) true p.2.2.2.2.2.2.2.1), (1474, .row 104 (.two (.int .i64) (.two (.int .i64) (.int .i64))) true p.2.2.2.2.2.2.2.2)]⟩
noncomputable def spec_TriePut.D0 (k : Nat) (j : Nat) (p : (Int × Int × Int × (List (Int × Int × Int)) × Int × Int × (List (Int × Int × Int)) × (List (Int × Int × Int)) × (List (Int × Int × Int)))) : Option ((List (Int × Int × Int)) × Bool) := loopK (norm [0] (spec_TriePut.h 0)) (runK spec_TriePut.x k 0 [0] spec_TriePut.h 0 (sub spec_TriePut.c [1, 1, 1, 1, 1, 0, 1, 0, 0])) j (spec_TriePut.S0 p) (kBlk 0 (kSeq (runK spec_TriePut.x k 0 [0] spec_TriePut.h 0 (sub spec_TriePut.c [1, 1, 1, 1, 1, 1])) (fin tt spec_TriePut.ps spec_TriePut.rs spec_TriePut.vs (.two (.sl 104 (.two (.int .i64) (.two (.int .i64) (.int .i64)))) .bool))))
theorem spec_TriePut.D0_eq (k : Nat) : ∀ j, spec_TriePut.D0 k j = spec_TriePut.l0 k j := by
  intro j
  induction j with
  | zero => rfl
  | succ j ih =>
    show _ = spec_TriePut.s0 k (spec_TriePut.l0 k j)
    rw [← ih]
    funext p
    kernel_rfl
def spec_TriePut.f (k : Nat) (a0 : List (Int × Int × Int)) (a1_0 : Int) (a1_1 : Int) (a2 : Int) : Option ((List (Int × Int × Int)) × Bool) :=
  (bif decide ((([] : List (Int × Int × Int)).length + a0.length) * 24 ≤ 140737488355328) then (spec_TrieOk.f k a0).bind fun r1 => (bif (!r1) then some ((([] : List (Int × Int × Int)) ++ a0), false) else (spec_PrefixOk.f k a1_0 a1_1).bind fun r2 => (bif (!r2) then some ((([] : List (Int × Int × Int)) ++ a0), false) else (spec_l01In.f k a2 (0 : Int) (99 : Int)).bind fun r3 => (bif (!r3) then some ((([] : List (Int × Int × Int)) ++ a0), false) else (bif decide ((([] : List (Int × Int × Int)).length + a0.length) * 24 ≤ 140737488355328) then spec_TriePut.l0 k k (a2, (0 : Int), (0 : Int), a0, a1_0, a1_1, ([] : List (Int × Int × Int)), (([] : List (Int × Int × Int)) ++ a0), (([] : List (Int × Int × Int)) ++ a0)) else none)))) else none)
def spec_TriePut.K : Ctr := ⟨spec_TriePut.ps, spec_TriePut.rs, false, (.two (.sl 104 (.two (.int .i64) (.two (.int .i64) (.int .i64)))) (.two (.int .i64) (.two (.int .i64) (.int .i64)))), (.two (.sl 104 (.two (.int .i64) (.two (.int .i64) (.int .i64)))) .bool), fun k x => spec_TriePut.f k x.1 x.2.1 x.2.2.1 x.2.2.2⟩
theorem spec_TriePut.eq (k : Nat) (x : (spec_TriePut.K.I).den) : func spec_TriePut.x spec_TriePut.h spec_TriePut.ps spec_TriePut.rs spec_TriePut.vs spec_TriePut.K.I spec_TriePut.K.O spec_TriePut.c k x = spec_TriePut.K.run k x := by
  show _ = spec_TriePut.f k x.1 x.2.1 x.2.2.1 x.2.2.2
  unfold spec_TriePut.f
  rw [← spec_TriePut.D0_eq k k]
  kernel_rfl
theorem spec_TriePut.ok : CtrOk Try.prog 44 spec_TriePut.K :=
  CtrOk.of (fn := Try.f44) (cd := spec_TriePut.c) (cx := spec_TriePut.x) (hs := spec_TriePut.h) (by kernel_rfl) (by kernel_rfl) (by kernel_rfl) (by kernel_rfl) tt_ok (envOk_cons spec_TrieOk.ok (envOk_cons spec_PrefixOk.ok (envOk_cons spec_l01In.ok (envOk_cons spec_l10Bit.ok (envOk_nil))))) (by kernel_rfl) (by kernel_rfl) (by kernel_rfl) (by kernel_rfl) fun k x r h => (spec_TriePut.eq k x).trans h
end Go.Proofs.Ytbddppnhpapfkaa.DI
