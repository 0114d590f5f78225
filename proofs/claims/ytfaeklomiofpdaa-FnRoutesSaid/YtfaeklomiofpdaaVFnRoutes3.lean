/- FnRoutes: functions as plain Lean, in the machine of values. -/
import Derived.Test.YtfaeklomiofpdaaVFnRoutes2
namespace Go.Proofs.Ytfaeklomiofpdaa.DI
open Go
set_option linter.unusedVariables false
/-! impl.RoutesOk -/
noncomputable def impl_RoutesOk.c : Code := bodyOf Try.f18
def impl_RoutesOk.h : Nat → Hint := look ⟨[], [], []⟩ [(0, ⟨[0, 5, 6, 7], [], []⟩)]
def impl_RoutesOk.ps : List PK := [.one]
def impl_RoutesOk.rs : List RK := [.one true]
def impl_RoutesOk.vs : List ResultVar := [.tmp 2]
def impl_RoutesOk.x : Cx := ⟨tt, look none [(69, some impl_PrefixOk.K), (70, some impl_isId.K), (64, some impl_comparePrefixes.K)]⟩
def impl_RoutesOk.s0 (k : Nat) (rec0 : (Int × Int × (List (Int × Int × Int))) → Option (Bool)) (p : (Int × Int × (List (Int × Int × Int)))) : Option (Bool) :=
  (bif (decide (p.2.1 < p.1)) then (bif ((decide ((0 : Int) ≤ p.2.1)) && (decide (p.2.1 < (p.2.2.length : Int)))) then (p.2.2[p.2.1.toNat]?).bind fun x1 => (impl_PrefixOk.f k x1.1 x1.2.1).bind fun r2 => (bif (!r2) then some false else (impl_isId.f k x1.2.2).bind fun r3 => (bif (!r3) then some false else (bif (decide (p.2.1 > (0 : Int))) then (bif ((decide ((0 : Int) ≤ (IntKind.i64.wrap (p.2.1 - (1 : Int))))) && (decide ((IntKind.i64.wrap (p.2.1 - (1 : Int))) < (p.2.2.length : Int)))) then (p.2.2[(IntKind.i64.wrap (p.2.1 - (1 : Int))).toNat]?).bind fun x4 => (impl_comparePrefixes.f k x4.1 x4.2.1 x1.1 x1.2.1).bind fun r5 => (bif (decide (r5 ≥ (0 : Int))) then some false else rec0 (p.1, (IntKind.i64.wrap (p.2.1 + (1 : Int))), p.2.2)) else none) else rec0 (p.1, (IntKind.i64.wrap (p.2.1 + (1 : Int))), p.2.2)))) else none) else some (decide ((p.2.2.length : Int) ≤ (12 : Int))))
def impl_RoutesOk.l0 (k : Nat) : Nat → (Int × Int × (List (Int × Int × Int))) → Option (Bool)
  | 0 => fun _ => none
  | j + 1 => impl_RoutesOk.s0 k (impl_RoutesOk.l0 k j)
def impl_RoutesOk.S0 (p : (Int × Int × (List (Int × Int × Int)))) : DS := ⟨tl [(0, .at (.whole 0)), (5, .at (.whole 0)), (6, .at (.int .i64 p.1)), (7, .at (.int .i64 p.2.1))], lookO [(0, .row 35 (.two (.int .i64) (.two (.int .i64) (.int .i64))) false p.2.2)]⟩
noncomputable def impl_RoutesOk.D0 (k : Nat) (j : Nat) (p : (Int × Int × (List (Int × Int × Int)))) : Option (Bool) := loopK (norm [0] (impl_RoutesOk.h 0)) (runK impl_RoutesOk.x k 0 [0] impl_RoutesOk.h 0 (sub impl_RoutesOk.c [1, 0, 1, 0, 0])) j (impl_RoutesOk.S0 p) (kBlk 0 (kSeq (runK impl_RoutesOk.x k 0 [0] impl_RoutesOk.h 0 (sub impl_RoutesOk.c [1, 1])) (fin tt impl_RoutesOk.ps impl_RoutesOk.rs impl_RoutesOk.vs .bool)))
theorem impl_RoutesOk.D0_eq (k : Nat) : ∀ j, impl_RoutesOk.D0 k j = impl_RoutesOk.l0 k j := by
  intro j
  induction j with
  | zero => rfl
  | succ j ih =>
    show _ = impl_RoutesOk.s0 k (impl_RoutesOk.l0 k j)
    rw [← ih]
    funext p
    kernel_rfl
def impl_RoutesOk.f (k : Nat) (a0 : List (Int × Int × Int)) : Option (Bool) :=
  impl_RoutesOk.l0 k k ((a0.length : Int), (0 : Int), a0)
def impl_RoutesOk.K : Ctr := ⟨impl_RoutesOk.ps, impl_RoutesOk.rs, false, (.sl 35 (.two (.int .i64) (.two (.int .i64) (.int .i64)))), .bool, fun k x => impl_RoutesOk.f k x⟩
theorem impl_RoutesOk.eq (k : Nat) (x : (impl_RoutesOk.K.I).den) : func impl_RoutesOk.x impl_RoutesOk.h impl_RoutesOk.ps impl_RoutesOk.rs impl_RoutesOk.vs impl_RoutesOk.K.I impl_RoutesOk.K.O impl_RoutesOk.c k x = impl_RoutesOk.K.run k x := by
  show _ = impl_RoutesOk.f k x
  unfold impl_RoutesOk.f
  rw [← impl_RoutesOk.D0_eq k k]
  kernel_rfl
theorem impl_RoutesOk.ok : CtrOk Try.prog 18 impl_RoutesOk.K :=
  CtrOk.of (fn := Try.f18) (cd := impl_RoutesOk.c) (cx := impl_RoutesOk.x) (hs := impl_RoutesOk.h) (by kernel_rfl) (by kernel_rfl) (by kernel_rfl) (by kernel_rfl) tt_ok (envOk_cons impl_PrefixOk.ok (envOk_cons impl_isId.ok (envOk_cons impl_comparePrefixes.ok (envOk_nil)))) (by kernel_rfl) (by kernel_rfl) (by kernel_rfl) (by kernel_rfl) fun k x r h => (impl_RoutesOk.eq k x).trans h
/-! impl.PutRoute -/
noncomputable def impl_PutRoute.c : Code := bodyOf Try.f15
def impl_PutRoute.h : Nat → Hint := look ⟨[], [], []⟩ [(0, ⟨[0, 3, 6, 7], [48], [(.t 6, 720, 35, (.two (.int .i64) (.two (.int .i64) (.int .i64))))]⟩)]
def impl_PutRoute.ps : List PK := [.one, .agg 3]
def impl_PutRoute.rs : List RK := [.one true, .one true]
def impl_PutRoute.vs : List ResultVar := [.tmp 4, .tmp 5]
def impl_PutRoute.x : Cx := ⟨tt, look none [(63, some impl_withoutPrefix.K), (64, some impl_comparePrefixes.K), (65, some slices_Insert_impl_Route_impl_Route.K), (18, some impl_RoutesOk.K), (66, some impl_copyRoutes.K)]⟩
def impl_PutRoute.s0 (k : Nat) (rec0 : (Int × (List (Int × Int × Int)) × Int × Int × Int × (List (Int × Int × Int))) → Option ((List (Int × Int × Int)) × Bool)) (p : (Int × (List (Int × Int × Int)) × Int × Int × Int × (List (Int × Int × Int)))) : Option ((List (Int × Int × Int)) × Bool) :=
  (bif (decide (p.1 < (p.2.2.2.2.2.length : Int))) then (bif ((decide ((0 : Int) ≤ p.1)) && (decide (p.1 < (p.2.2.2.2.2.length : Int)))) then (p.2.2.2.2.2[p.1.toNat]?).bind fun x2 => (impl_comparePrefixes.f k x2.1 x2.2.1 p.2.2.1 p.2.2.2.1).bind fun r3 => (bif (decide (r3 < (0 : Int))) then rec0 ((IntKind.i64.wrap (p.1 + (1 : Int))), p.2.1, p.2.2.1, p.2.2.2.1, p.2.2.2.2.1, p.2.2.2.2.2) else (slices_Insert_impl_Route_impl_Route.f k p.2.2.2.2.2 p.1 [(p.2.2.1, p.2.2.2.1, p.2.2.2.2.1)]).bind fun r4 => (impl_RoutesOk.f k p.2.1).bind fun r5 => (bif (!r5) then (impl_copyRoutes.f k p.2.1).bind fun r6 => some (r6, false) else (impl_RoutesOk.f k r4).bind fun r7 => (bif (!r7) then (impl_copyRoutes.f k p.2.1).bind fun r8 => some (r8, false) else some (r4, true)))) else none) else (slices_Insert_impl_Route_impl_Route.f k p.2.2.2.2.2 p.1 [(p.2.2.1, p.2.2.2.1, p.2.2.2.2.1)]).bind fun r9 => (impl_RoutesOk.f k p.2.1).bind fun r10 => (bif (!r10) then (impl_copyRoutes.f k p.2.1).bind fun r11 => some (r11, false) else (impl_RoutesOk.f k r9).bind fun r12 => (bif (!r12) then (impl_copyRoutes.f k p.2.1).bind fun r13 => some (r13, false) else some (r9, true))))
def impl_PutRoute.l0 (k : Nat) : Nat → (Int × (List (Int × Int × Int)) × Int × Int × Int × (List (Int × Int × Int))) → Option ((List (Int × Int × Int)) × Bool)
  | 0 => fun _ => none
  | j + 1 => impl_PutRoute.s0 k (impl_PutRoute.l0 k j)
def impl_PutRoute.S0 (p : (Int × (List (Int × Int × Int)) × Int × Int × Int × (List (Int × Int × Int)))) : DS := ⟨tl [(0, .at (.whole 0)), (3, .at (.bptr 48 0)), (6, .at (.whole 720)), (7, .at (.int .i64 p.1))], lookO [(0, .row 35 (.two (.int .i64) (.two (.int .i64) (.int .i64))) false p.2.1), (48, .box 35 [.int .i64 p.2.2.1, .int .i64 p.2.2.2.1, .int .i64 p.2.2.2.2.1]), (720, .row 35 (.two (.int .i64) (.two (.int .i64) (.int .i64))) true p.2.2.2.2.2)]⟩
noncomputable def impl_PutRoute.D0 (k : Nat) (j : Nat) (p : (Int × (List (Int × Int × Int)) × Int × Int × Int × (List (Int × Int × Int)))) : Option ((List (Int × Int × Int)) × Bool) := loopK (norm [0] (impl_PutRoute.h 0)) (runK impl_PutRoute.x k 0 [0] impl_PutRoute.h 0 (sub impl_PutRoute.c [1, 1, 1, 0, 0, 0])) j (impl_PutRoute.S0 p) (kBlk 0 (kSeq (runK impl_PutRoute.x k 0 [0] impl_PutRoute.h 0 (sub impl_PutRoute.c [1, 1, 1, 1])) (fin tt impl_PutRoute.ps impl_PutRoute.rs impl_PutRoute.vs (.two (.sl 35 (.two (.int .i64) (.two (.int .i64) (.int .i64)))) .bool))))
theorem impl_PutRoute.D0_eq (k : Nat) : ∀ j, impl_PutRoute.D0 k j = impl_PutRoute.l0 k j := by
  intro j
  induction j with
  | zero => rfl
  | succ j ih =>
    show _ = impl_PutRoute.s0 k (impl_PutRoute.l0 k j)
    rw [← ih]
    funext p
    kernel_rfl
def impl_PutRoute.f (k : Nat) (a0 : List (Int × Int × Int)) (a1_0 : Int) (a1_1 : Int) (a1_2 : Int) : Option ((List (Int × Int × Int)) × Bool) :=
  (impl_withoutPrefix.f k a0 a1_0 a1_1).bind fun r1 => impl_PutRoute.l0 k k ((0 : Int), a0, a1_0, a1_1, a1_2, r1)
def impl_PutRoute.K : Ctr := ⟨impl_PutRoute.ps, impl_PutRoute.rs, false, (.two (.sl 35 (.two (.int .i64) (.two (.int .i64) (.int .i64)))) (.two (.int .i64) (.two (.int .i64) (.int .i64)))), (.two (.sl 35 (.two (.int .i64) (.two (.int .i64) (.int .i64)))) .bool), fun k x => impl_PutRoute.f k x.1 x.2.1 x.2.2.1 x.2.2.2⟩
theorem impl_PutRoute.eq (k : Nat) (x : (impl_PutRoute.K.I).den) : func impl_PutRoute.x impl_PutRoute.h impl_PutRoute.ps impl_PutRoute.rs impl_PutRoute.vs impl_PutRoute.K.I impl_PutRoute.K.O impl_PutRoute.c k x = impl_PutRoute.K.run k x := by
  show _ = impl_PutRoute.f k x.1 x.2.1 x.2.2.1 x.2.2.2
  unfold impl_PutRoute.f
  rw [← impl_PutRoute.D0_eq k k]
  kernel_rfl
theorem impl_PutRoute.ok : CtrOk Try.prog 15 impl_PutRoute.K :=
  CtrOk.of (fn := Try.f15) (cd := impl_PutRoute.c) (cx := impl_PutRoute.x) (hs := impl_PutRoute.h) (by kernel_rfl) (by kernel_rfl) (by kernel_rfl) (by kernel_rfl) tt_ok (envOk_cons impl_withoutPrefix.ok (envOk_cons impl_comparePrefixes.ok (envOk_cons slices_Insert_impl_Route_impl_Route.ok (envOk_cons impl_RoutesOk.ok (envOk_cons impl_copyRoutes.ok (envOk_nil)))))) (by kernel_rfl) (by kernel_rfl) (by kernel_rfl) (by kernel_rfl) fun k x r h => (impl_PutRoute.eq k x).trans h
/-! laws.sameRoutes -/
noncomputable def laws_sameRoutes.c : Code := bodyOf Try.f17
def laws_sameRoutes.h : Nat → Hint := look ⟨[], [], []⟩ [(0, ⟨[0, 1, 5], [], []⟩)]
def laws_sameRoutes.ps : List PK := [.one, .one]
def laws_sameRoutes.rs : List RK := [.one true]
def laws_sameRoutes.vs : List ResultVar := [.tmp 4]
def laws_sameRoutes.x : Cx := ⟨tt, look none []⟩
def laws_sameRoutes.s0 (_k : Nat) (rec0 : (Int × (List (Int × Int × Int)) × (List (Int × Int × Int))) → Option (Bool)) (p : (Int × (List (Int × Int × Int)) × (List (Int × Int × Int)))) : Option (Bool) :=
  (bif (decide (p.1 < (p.2.1.length : Int))) then (bif ((decide ((0 : Int) ≤ p.1)) && (decide (p.1 < (p.2.1.length : Int)))) then (p.2.1[p.1.toNat]?).bind fun x1 => (bif ((decide ((0 : Int) ≤ p.1)) && (decide (p.1 < (p.2.2.length : Int)))) then (p.2.2[p.1.toNat]?).bind fun x2 => (bif (!(((x1.1 == x2.1) && (x1.2.1 == x2.2.1)) && (x1.2.2 == x2.2.2))) then some false else rec0 ((IntKind.i64.wrap (p.1 + (1 : Int))), p.2.1, p.2.2)) else none) else none) else some true)
def laws_sameRoutes.l0 (k : Nat) : Nat → (Int × (List (Int × Int × Int)) × (List (Int × Int × Int))) → Option (Bool)
  | 0 => fun _ => none
  | j + 1 => laws_sameRoutes.s0 k (laws_sameRoutes.l0 k j)
def laws_sameRoutes.S0 (p : (Int × (List (Int × Int × Int)) × (List (Int × Int × Int)))) : DS := ⟨tl [(0, .at (.whole 0)), (1, .at (.whole 16)), (5, .at (.int .i64 p.1))], lookO [(0, .row 35 (.two (.int .i64) (.two (.int .i64) (.int .i64))) false p.2.1), (16, .row 35 (.two (.int .i64) (.two (.int .i64) (.int .i64))) false p.2.2)]⟩
noncomputable def laws_sameRoutes.D0 (k : Nat) (j : Nat) (p : (Int × (List (Int × Int × Int)) × (List (Int × Int × Int)))) : Option (Bool) := loopK (norm [0, 16] (laws_sameRoutes.h 0)) (runK laws_sameRoutes.x k 0 [0, 16] laws_sameRoutes.h 0 (sub laws_sameRoutes.c [1, 1, 0, 1, 0, 0])) j (laws_sameRoutes.S0 p) (kBlk 0 (kSeq (runK laws_sameRoutes.x k 0 [0, 16] laws_sameRoutes.h 0 (sub laws_sameRoutes.c [1, 1, 1])) (fin tt laws_sameRoutes.ps laws_sameRoutes.rs laws_sameRoutes.vs .bool)))
theorem laws_sameRoutes.D0_eq (k : Nat) : ∀ j, laws_sameRoutes.D0 k j = laws_sameRoutes.l0 k j := by
  intro j
  induction j with
  | zero => rfl
  | succ j ih =>
    show _ = laws_sameRoutes.s0 k (laws_sameRoutes.l0 k j)
    rw [← ih]
    funext p
    kernel_rfl
def laws_sameRoutes.f (k : Nat) (a0 : List (Int × Int × Int)) (a1 : List (Int × Int × Int)) : Option (Bool) :=
  (bif ((a0.length : Int) != (a1.length : Int)) then some false else laws_sameRoutes.l0 k k ((0 : Int), a0, a1))
def laws_sameRoutes.K : Ctr := ⟨laws_sameRoutes.ps, laws_sameRoutes.rs, false, (.two (.sl 35 (.two (.int .i64) (.two (.int .i64) (.int .i64)))) (.sl 35 (.two (.int .i64) (.two (.int .i64) (.int .i64))))), .bool, fun k x => laws_sameRoutes.f k x.1 x.2⟩
theorem laws_sameRoutes.eq (k : Nat) (x : (laws_sameRoutes.K.I).den) : func laws_sameRoutes.x laws_sameRoutes.h laws_sameRoutes.ps laws_sameRoutes.rs laws_sameRoutes.vs laws_sameRoutes.K.I laws_sameRoutes.K.O laws_sameRoutes.c k x = laws_sameRoutes.K.run k x := by
  show _ = laws_sameRoutes.f k x.1 x.2
  unfold laws_sameRoutes.f
  rw [← laws_sameRoutes.D0_eq k k]
  kernel_rfl
theorem laws_sameRoutes.ok : CtrOk Try.prog 17 laws_sameRoutes.K :=
  CtrOk.of (fn := Try.f17) (cd := laws_sameRoutes.c) (cx := laws_sameRoutes.x) (hs := laws_sameRoutes.h) (by kernel_rfl) (by kernel_rfl) (by kernel_rfl) (by kernel_rfl) tt_ok (envOk_nil) (by kernel_rfl) (by kernel_rfl) (by kernel_rfl) (by kernel_rfl) fun k x r h => (laws_sameRoutes.eq k x).trans h
/-! impl.DropRoute -/
noncomputable def impl_DropRoute.c : Code := bodyOf Try.f19
def impl_DropRoute.h : Nat → Hint := look ⟨[], [], []⟩ []
def impl_DropRoute.ps : List PK := [.one, .agg 2]
def impl_DropRoute.rs : List RK := [.one true, .one true]
def impl_DropRoute.vs : List ResultVar := [.tmp 4, .tmp 5]
def impl_DropRoute.x : Cx := ⟨tt, look none [(63, some impl_withoutPrefix.K), (18, some impl_RoutesOk.K), (66, some impl_copyRoutes.K)]⟩
def impl_DropRoute.f (k : Nat) (a0 : List (Int × Int × Int)) (a1_0 : Int) (a1_1 : Int) : Option ((List (Int × Int × Int)) × Bool) :=
  (impl_withoutPrefix.f k a0 a1_0 a1_1).bind fun r1 => (impl_RoutesOk.f k a0).bind fun r2 => (bif (!r2) then (impl_copyRoutes.f k a0).bind fun r3 => some (r3, false) else (bif ((r1.length : Int) == (a0.length : Int)) then (impl_copyRoutes.f k a0).bind fun r4 => some (r4, false) else some (r1, true)))
def impl_DropRoute.K : Ctr := ⟨impl_DropRoute.ps, impl_DropRoute.rs, false, (.two (.sl 35 (.two (.int .i64) (.two (.int .i64) (.int .i64)))) (.two (.int .i64) (.int .i64))), (.two (.sl 35 (.two (.int .i64) (.two (.int .i64) (.int .i64)))) .bool), fun k x => impl_DropRoute.f k x.1 x.2.1 x.2.2⟩
theorem impl_DropRoute.eq (k : Nat) (x : (impl_DropRoute.K.I).den) : func impl_DropRoute.x impl_DropRoute.h impl_DropRoute.ps impl_DropRoute.rs impl_DropRoute.vs impl_DropRoute.K.I impl_DropRoute.K.O impl_DropRoute.c k x = impl_DropRoute.K.run k x := by
  show _ = impl_DropRoute.f k x.1 x.2.1 x.2.2
  kernel_rfl
theorem impl_DropRoute.ok : CtrOk Try.prog 19 impl_DropRoute.K :=
  CtrOk.of (fn := Try.f19) (cd := impl_DropRoute.c) (cx := impl_DropRoute.x) (hs := impl_DropRoute.h) (by kernel_rfl) (by kernel_rfl) (by kernel_rfl) (by kernel_rfl) tt_ok (envOk_cons impl_withoutPrefix.ok (envOk_cons impl_RoutesOk.ok (envOk_cons impl_copyRoutes.ok (envOk_nil)))) (by kernel_rfl) (by kernel_rfl) (by kernel_rfl) (by kernel_rfl) fun k x r h => (impl_DropRoute.eq k x).trans h
/-! spec.InPrefix -/
noncomputable def spec_InPrefix.c : Code := bodyOf Try.f42
def spec_InPrefix.h : Nat → Hint := look ⟨[], [], []⟩ []
def spec_InPrefix.ps : List PK := [.agg 2, .one]
def spec_InPrefix.rs : List RK := [.one true]
def spec_InPrefix.vs : List ResultVar := [.tmp 4]
def spec_InPrefix.x : Cx := ⟨tt, look none [(100, some spec_PrefixOk.K), (101, some spec_AddrOk.K), (102, some spec_l08Size.K)]⟩
def spec_InPrefix.f (k : Nat) (a0_0 : Int) (a0_1 : Int) (a1 : Int) : Option (Bool) :=
  (spec_PrefixOk.f k a0_0 a0_1).bind fun r1 => (bif r1 then (spec_AddrOk.f k a1).bind fun r2 => (bif r2 then (spec_l08Size.f k a0_1).bind fun r3 => (bif (r3 == 0) then none else some ((IntKind.i64.wrap (a1 - (a1.tmod r3))) == a0_0)) else some false) else some false)
def spec_InPrefix.K : Ctr := ⟨spec_InPrefix.ps, spec_InPrefix.rs, false, (.two (.int .i64) (.two (.int .i64) (.int .i64))), .bool, fun k x => spec_InPrefix.f k x.1 x.2.1 x.2.2⟩
theorem spec_InPrefix.eq (k : Nat) (x : (spec_InPrefix.K.I).den) : func spec_InPrefix.x spec_InPrefix.h spec_InPrefix.ps spec_InPrefix.rs spec_InPrefix.vs spec_InPrefix.K.I spec_InPrefix.K.O spec_InPrefix.c k x = spec_InPrefix.K.run k x := by
  show _ = spec_InPrefix.f k x.1 x.2.1 x.2.2
  kernel_rfl
theorem spec_InPrefix.ok : CtrOk Try.prog 42 spec_InPrefix.K :=
  CtrOk.of (fn := Try.f42) (cd := spec_InPrefix.c) (cx := spec_InPrefix.x) (hs := spec_InPrefix.h) (by kernel_rfl) (by kernel_rfl) (by kernel_rfl) (by kernel_rfl) tt_ok (envOk_cons spec_PrefixOk.ok (envOk_cons spec_AddrOk.ok (envOk_cons spec_l08Size.ok (envOk_nil)))) (by kernel_rfl) (by kernel_rfl) (by kernel_rfl) (by kernel_rfl) fun k x r h => (spec_InPrefix.eq k x).trans h
/-! spec.LookUp -/
noncomputable def spec_LookUp.c : Code := bodyOf Try.f20
def spec_LookUp.h : Nat → Hint := look ⟨[], [], []⟩ [(0, ⟨[0, 1, 5, 6, 7], [], []⟩)]
def spec_LookUp.ps : List PK := [.one, .one]
def spec_LookUp.rs : List RK := [.one true]
def spec_LookUp.vs : List ResultVar := [.tmp 4]
def spec_LookUp.x : Cx := ⟨tt, look none [(68, some spec_RoutesOk.K), (42, some spec_InPrefix.K)]⟩
def spec_LookUp.s0 (k : Nat) (rec0 : (Int × Int × Int × Int × (List (Int × Int × Int))) → Option (Int)) (p : (Int × Int × Int × Int × (List (Int × Int × Int)))) : Option (Int) :=
  (bif (decide (p.2.2.2.1 < (p.2.2.2.2.length : Int))) then (bif ((decide ((0 : Int) ≤ p.2.2.2.1)) && (decide (p.2.2.2.1 < (p.2.2.2.2.length : Int)))) then (p.2.2.2.2[p.2.2.2.1.toNat]?).bind fun x2 => (spec_InPrefix.f k x2.1 x2.2.1 p.1).bind fun r3 => (bif r3 then (bif ((decide ((0 : Int) ≤ p.2.2.2.1)) && (decide (p.2.2.2.1 < (p.2.2.2.2.length : Int)))) then (p.2.2.2.2[p.2.2.2.1.toNat]?).bind fun x4 => (bif (decide (x4.2.1 > p.2.1)) then (bif ((decide ((0 : Int) ≤ p.2.2.2.1)) && (decide (p.2.2.2.1 < (p.2.2.2.2.length : Int)))) then (p.2.2.2.2[p.2.2.2.1.toNat]?).bind fun x5 => (bif ((decide ((0 : Int) ≤ p.2.2.2.1)) && (decide (p.2.2.2.1 < (p.2.2.2.2.length : Int)))) then (p.2.2.2.2[p.2.2.2.1.toNat]?).bind fun x6 => rec0 (p.1, x5.2.1, x6.2.2, (IntKind.i64.wrap (p.2.2.2.1 + (1 : Int))), p.2.2.2.2) else none) else none) else rec0 (p.1, p.2.1, p.2.2.1, (IntKind.i64.wrap (p.2.2.2.1 + (1 : Int))), p.2.2.2.2)) else none) else rec0 (p.1, p.2.1, p.2.2.1, (IntKind.i64.wrap (p.2.2.2.1 + (1 : Int))), p.2.2.2.2)) else none) else some p.2.2.1)
def spec_LookUp.l0 (k : Nat) : Nat → (Int × Int × Int × Int × (List (Int × Int × Int))) → Option (Int)
  | 0 => fun _ => none
  | j + 1 => spec_LookUp.s0 k (spec_LookUp.l0 k j)
def spec_LookUp.S0 (p : (Int × Int × Int × Int × (List (Int × Int × Int)))) : DS := ⟨tl [(0, .at (.whole 0)), (1, .at (.int .i64 p.1)), (5, .at (.int .i64 p.2.1)), (6, .at (.int .i64 p.2.2.1)), (7, .at (.int .i64 p.2.2.2.1))], lookO [(0, .row 35 (.two (.int .i64) (.two (.int .i64) (.int .i64))) false p.2.2.2.2)]⟩
noncomputable def spec_LookUp.D0 (k : Nat) (j : Nat) (p : (Int × Int × Int × Int × (List (Int × Int × Int)))) : Option (Int) := loopK (norm [0] (spec_LookUp.h 0)) (runK spec_LookUp.x k 0 [0] spec_LookUp.h 0 (sub spec_LookUp.c [1, 1, 1, 1, 0, 1, 0, 0])) j (spec_LookUp.S0 p) (kBlk 0 (kSeq (runK spec_LookUp.x k 0 [0] spec_LookUp.h 0 (sub spec_LookUp.c [1, 1, 1, 1, 1])) (fin tt spec_LookUp.ps spec_LookUp.rs spec_LookUp.vs (.int .i64))))
theorem spec_LookUp.D0_eq (k : Nat) : ∀ j, spec_LookUp.D0 k j = spec_LookUp.l0 k j := by
  intro j
  induction j with
  | zero => rfl
  | succ j ih =>
    show _ = spec_LookUp.s0 k (spec_LookUp.l0 k j)
    rw [← ih]
    funext p
    kernel_rfl
def spec_LookUp.f (k : Nat) (a0 : List (Int × Int × Int)) (a1 : Int) : Option (Int) :=
  (spec_RoutesOk.f k a0).bind fun r1 => (bif (!r1) then some (0 : Int) else spec_LookUp.l0 k k (a1, (-1 : Int), (0 : Int), (0 : Int), a0))
def spec_LookUp.K : Ctr := ⟨spec_LookUp.ps, spec_LookUp.rs, false, (.two (.sl 35 (.two (.int .i64) (.two (.int .i64) (.int .i64)))) (.int .i64)), (.int .i64), fun k x => spec_LookUp.f k x.1 x.2⟩
theorem spec_LookUp.eq (k : Nat) (x : (spec_LookUp.K.I).den) : func spec_LookUp.x spec_LookUp.h spec_LookUp.ps spec_LookUp.rs spec_LookUp.vs spec_LookUp.K.I spec_LookUp.K.O spec_LookUp.c k x = spec_LookUp.K.run k x := by
  show _ = spec_LookUp.f k x.1 x.2
  unfold spec_LookUp.f
  rw [← spec_LookUp.D0_eq k k]
  kernel_rfl
theorem spec_LookUp.ok : CtrOk Try.prog 20 spec_LookUp.K :=
  CtrOk.of (fn := Try.f20) (cd := spec_LookUp.c) (cx := spec_LookUp.x) (hs := spec_LookUp.h) (by kernel_rfl) (by kernel_rfl) (by kernel_rfl) (by kernel_rfl) tt_ok (envOk_cons spec_RoutesOk.ok (envOk_cons spec_InPrefix.ok (envOk_nil))) (by kernel_rfl) (by kernel_rfl) (by kernel_rfl) (by kernel_rfl) fun k x r h => (spec_LookUp.eq k x).trans h
/-! impl.DropTo$1 -/
noncomputable def impl_DropTo_1.c : Code := bodyOf Try.f72
def impl_DropTo_1.h : Nat → Hint := look ⟨[], [], []⟩ []
def impl_DropTo_1.ps : List PK := [.agg 3, .box 3 1]
def impl_DropTo_1.rs : List RK := [.one true]
def impl_DropTo_1.vs : List ResultVar := [.tmp 3]
def impl_DropTo_1.x : Cx := ⟨tt, look none []⟩
def impl_DropTo_1.f (_k : Nat) (_a0_0 : Int) (_a0_1 : Int) (a0_2 : Int) (a1 : Int) : Option (Bool × Int) :=
  some ((a0_2 == a1), a1)
def impl_DropTo_1.K : Ctr := ⟨impl_DropTo_1.ps, impl_DropTo_1.rs, true, (.two (.int .i64) (.two (.int .i64) (.two (.int .i64) (.int .i64)))), (.two .bool (.int .i64)), fun k x => impl_DropTo_1.f k x.1 x.2.1 x.2.2.1 x.2.2.2⟩
theorem impl_DropTo_1.eq (k : Nat) (x : (impl_DropTo_1.K.I).den) : func impl_DropTo_1.x impl_DropTo_1.h impl_DropTo_1.ps impl_DropTo_1.rs impl_DropTo_1.vs impl_DropTo_1.K.I impl_DropTo_1.K.O impl_DropTo_1.c k x = impl_DropTo_1.K.run k x := by
  show _ = impl_DropTo_1.f k x.1 x.2.1 x.2.2.1 x.2.2.2
  kernel_rfl
theorem impl_DropTo_1.ok : CtrOk Try.prog 72 impl_DropTo_1.K :=
  CtrOk.of (fn := Try.f72) (cd := impl_DropTo_1.c) (cx := impl_DropTo_1.x) (hs := impl_DropTo_1.h) (by kernel_rfl) (by kernel_rfl) (by kernel_rfl) (by kernel_rfl) tt_ok (envOk_nil) (by kernel_rfl) (by kernel_rfl) (by kernel_rfl) (by kernel_rfl) fun k x r h => (impl_DropTo_1.eq k x).trans h
/-! slices.IndexFunc[[]impl.Route,impl.Route] -/
noncomputable def slices_IndexFunc_impl_Route_impl_Route_f72_r.c : Code := bodyOf Try.f131
def slices_IndexFunc_impl_Route_impl_Route_f72_r.h : Nat → Hint := look ⟨[], [], []⟩ [(0, ⟨[0, 1, 7, 8], [], []⟩)]
def slices_IndexFunc_impl_Route_impl_Route_f72_r.ps : List PK := [.row, .fnp 72 3 1]
def slices_IndexFunc_impl_Route_impl_Route_f72_r.rs : List RK := [.one true]
def slices_IndexFunc_impl_Route_impl_Route_f72_r.vs : List ResultVar := [.tmp 4]
def slices_IndexFunc_impl_Route_impl_Route_f72_r.x : Cx := ⟨tt, look none [(72, some impl_DropTo_1.K)]⟩
def slices_IndexFunc_impl_Route_impl_Route_f72_r.s0 (k : Nat) (rec0 : (Int × Int × (List (Int × Int × Int)) × Int) → Option (Int × (List (Int × Int × Int)) × Int)) (p : (Int × Int × (List (Int × Int × Int)) × Int)) : Option (Int × (List (Int × Int × Int)) × Int) :=
  (bif (decide (p.2.1 < p.1)) then (bif ((decide ((0 : Int) ≤ p.2.1)) && (decide (p.2.1 < (p.2.2.1.length : Int)))) then (p.2.2.1[p.2.1.toNat]?).bind fun x1 => (impl_DropTo_1.f k x1.1 x1.2.1 x1.2.2 p.2.2.2).bind fun r2 => (bif r2.1 then some (p.2.1, p.2.2.1, r2.2) else rec0 (p.1, (IntKind.i64.wrap (p.2.1 + (1 : Int))), p.2.2.1, r2.2)) else none) else some ((-1 : Int), p.2.2.1, p.2.2.2))
def slices_IndexFunc_impl_Route_impl_Route_f72_r.l0 (k : Nat) : Nat → (Int × Int × (List (Int × Int × Int)) × Int) → Option (Int × (List (Int × Int × Int)) × Int)
  | 0 => fun _ => none
  | j + 1 => slices_IndexFunc_impl_Route_impl_Route_f72_r.s0 k (slices_IndexFunc_impl_Route_impl_Route_f72_r.l0 k j)
def slices_IndexFunc_impl_Route_impl_Route_f72_r.S0 (p : (Int × Int × (List (Int × Int × Int)) × Int)) : DS := ⟨tl [(0, .at (.whole 0)), (1, .at (.fn 72 [(16, 0)])), (7, .at (.int .i64 p.1)), (8, .at (.int .i64 p.2.1))], lookO [(0, .row 35 (.two (.int .i64) (.two (.int .i64) (.int .i64))) true p.2.2.1), (16, .box 3 [.int .i64 p.2.2.2])]⟩
noncomputable def slices_IndexFunc_impl_Route_impl_Route_f72_r.D0 (k : Nat) (j : Nat) (p : (Int × Int × (List (Int × Int × Int)) × Int)) : Option (Int × (List (Int × Int × Int)) × Int) := loopK (norm [0, 16] (slices_IndexFunc_impl_Route_impl_Route_f72_r.h 0)) (runK slices_IndexFunc_impl_Route_impl_Route_f72_r.x k 0 [0, 16] slices_IndexFunc_impl_Route_impl_Route_f72_r.h 0 (sub slices_IndexFunc_impl_Route_impl_Route_f72_r.c [1, 0, 1, 0, 0])) j (slices_IndexFunc_impl_Route_impl_Route_f72_r.S0 p) (kBlk 0 (kSeq (runK slices_IndexFunc_impl_Route_impl_Route_f72_r.x k 0 [0, 16] slices_IndexFunc_impl_Route_impl_Route_f72_r.h 0 (sub slices_IndexFunc_impl_Route_impl_Route_f72_r.c [1, 1])) (fin tt slices_IndexFunc_impl_Route_impl_Route_f72_r.ps slices_IndexFunc_impl_Route_impl_Route_f72_r.rs slices_IndexFunc_impl_Route_impl_Route_f72_r.vs (.two (.int .i64) (.two (.sl 35 (.two (.int .i64) (.two (.int .i64) (.int .i64)))) (.int .i64))))))
theorem slices_IndexFunc_impl_Route_impl_Route_f72_r.D0_eq (k : Nat) : ∀ j, slices_IndexFunc_impl_Route_impl_Route_f72_r.D0 k j = slices_IndexFunc_impl_Route_impl_Route_f72_r.l0 k j := by
  intro j
  induction j with
  | zero => rfl
  | succ j ih =>
    show _ = slices_IndexFunc_impl_Route_impl_Route_f72_r.s0 k (slices_IndexFunc_impl_Route_impl_Route_f72_r.l0 k j)
    rw [← ih]
    funext p
    kernel_rfl
def slices_IndexFunc_impl_Route_impl_Route_f72_r.f (k : Nat) (a0 : List (Int × Int × Int)) (a1 : Int) : Option (Int × (List (Int × Int × Int)) × Int) :=
  slices_IndexFunc_impl_Route_impl_Route_f72_r.l0 k k ((a0.length : Int), (0 : Int), a0, a1)
def slices_IndexFunc_impl_Route_impl_Route_f72_r.K : Ctr := ⟨slices_IndexFunc_impl_Route_impl_Route_f72_r.ps, slices_IndexFunc_impl_Route_impl_Route_f72_r.rs, true, (.two (.sl 35 (.two (.int .i64) (.two (.int .i64) (.int .i64)))) (.int .i64)), (.two (.int .i64) (.two (.sl 35 (.two (.int .i64) (.two (.int .i64) (.int .i64)))) (.int .i64))), fun k x => slices_IndexFunc_impl_Route_impl_Route_f72_r.f k x.1 x.2⟩
theorem slices_IndexFunc_impl_Route_impl_Route_f72_r.eq (k : Nat) (x : (slices_IndexFunc_impl_Route_impl_Route_f72_r.K.I).den) : func slices_IndexFunc_impl_Route_impl_Route_f72_r.x slices_IndexFunc_impl_Route_impl_Route_f72_r.h slices_IndexFunc_impl_Route_impl_Route_f72_r.ps slices_IndexFunc_impl_Route_impl_Route_f72_r.rs slices_IndexFunc_impl_Route_impl_Route_f72_r.vs slices_IndexFunc_impl_Route_impl_Route_f72_r.K.I slices_IndexFunc_impl_Route_impl_Route_f72_r.K.O slices_IndexFunc_impl_Route_impl_Route_f72_r.c k x = slices_IndexFunc_impl_Route_impl_Route_f72_r.K.run k x := by
  show _ = slices_IndexFunc_impl_Route_impl_Route_f72_r.f k x.1 x.2
  unfold slices_IndexFunc_impl_Route_impl_Route_f72_r.f
  rw [← slices_IndexFunc_impl_Route_impl_Route_f72_r.D0_eq k k]
  kernel_rfl
theorem slices_IndexFunc_impl_Route_impl_Route_f72_r.ok : CtrOk Try.prog 131 slices_IndexFunc_impl_Route_impl_Route_f72_r.K :=
  CtrOk.of (fn := Try.f131) (cd := slices_IndexFunc_impl_Route_impl_Route_f72_r.c) (cx := slices_IndexFunc_impl_Route_impl_Route_f72_r.x) (hs := slices_IndexFunc_impl_Route_impl_Route_f72_r.h) (by kernel_rfl) (by kernel_rfl) (by kernel_rfl) (by kernel_rfl) tt_ok (envOk_cons impl_DropTo_1.ok (envOk_nil)) (by kernel_rfl) (by kernel_rfl) (by kernel_rfl) (by kernel_rfl) fun k x r h => (slices_IndexFunc_impl_Route_impl_Route_f72_r.eq k x).trans h
/-! slices.DeleteFunc[[]impl.Route,impl.Route] -/
noncomputable def slices_DeleteFunc_impl_Route_impl_Route_f72.c : Code := bodyOf Try.f71
def slices_DeleteFunc_impl_Route_impl_Route_f72.h : Nat → Hint := look ⟨[], [], []⟩ [(0, ⟨[0, 1, 5, 6], [], [(.t 0, 672, 35, (.two (.int .i64) (.two (.int .i64) (.int .i64))))]⟩)]
def slices_DeleteFunc_impl_Route_impl_Route_f72.ps : List PK := [.give, .fnp 72 3 1]
def slices_DeleteFunc_impl_Route_impl_Route_f72.rs : List RK := [.one true]
def slices_DeleteFunc_impl_Route_impl_Route_f72.vs : List ResultVar := [.tmp 4]
def slices_DeleteFunc_impl_Route_impl_Route_f72.x : Cx := ⟨tt, look none [(131, some slices_IndexFunc_impl_Route_impl_Route_f72_r.K), (72, some impl_DropTo_1.K)]⟩
def slices_DeleteFunc_impl_Route_impl_Route_f72.s0 (k : Nat) (rec0 : (Int × Int × Int × (List (Int × Int × Int))) → Option ((List (Int × Int × Int)) × Int)) (p : (Int × Int × Int × (List (Int × Int × Int)))) : Option ((List (Int × Int × Int)) × Int) :=
  (bif (decide (p.2.1 < (p.2.2.2.length : Int))) then (bif ((decide ((0 : Int) ≤ p.2.1)) && (decide (p.2.1 < (p.2.2.2.length : Int)))) then (p.2.2.2[p.2.1.toNat]?).bind fun x2 => (impl_DropTo_1.f k x2.1 x2.2.1 x2.2.2 p.2.2.1).bind fun r3 => (bif (!r3.1) then (bif ((decide ((0 : Int) ≤ p.1)) && (decide (p.1 < (p.2.2.2.length : Int)))) then (p.2.2.2[p.1.toNat]?).bind fun x4 => rec0 ((IntKind.i64.wrap (p.1 + (1 : Int))), (IntKind.i64.wrap (p.2.1 + (1 : Int))), r3.2, (p.2.2.2.set p.1.toNat (x2.1, x2.2.1, x2.2.2))) else none) else rec0 (p.1, (IntKind.i64.wrap (p.2.1 + (1 : Int))), r3.2, p.2.2.2)) else none) else (bif ((decide ((0 : Int) ≤ p.1)) && (decide (p.1 ≤ (p.2.2.2.length : Int)))) then (bif ((decide ((0 : Int) ≤ p.1)) && (decide (p.1 ≤ ((p.2.2.2.take p.1.toNat ++ (List.replicate (p.2.2.2.length - p.1.toNat) ((0 : Int), (0 : Int), (0 : Int)) ++ p.2.2.2.drop (p.1.toNat + (p.2.2.2.length - p.1.toNat)))).length : Int)))) then some (((p.2.2.2.take p.1.toNat ++ (List.replicate (p.2.2.2.length - p.1.toNat) ((0 : Int), (0 : Int), (0 : Int)) ++ p.2.2.2.drop (p.1.toNat + (p.2.2.2.length - p.1.toNat)))).take p.1.toNat), p.2.2.1) else none) else none))
def slices_DeleteFunc_impl_Route_impl_Route_f72.l0 (k : Nat) : Nat → (Int × Int × Int × (List (Int × Int × Int))) → Option ((List (Int × Int × Int)) × Int)
  | 0 => fun _ => none
  | j + 1 => slices_DeleteFunc_impl_Route_impl_Route_f72.s0 k (slices_DeleteFunc_impl_Route_impl_Route_f72.l0 k j)
def slices_DeleteFunc_impl_Route_impl_Route_f72.S0 (p : (Int × Int × Int × (List (Int × Int × Int)))) : DS := ⟨tl [(0, .at (.whole 672)), (1, .at (.fn 72 [(16, 0)])), (5, .at (.int .i64 p.1)), (6, .at (.int .i64 p.2.1))], lookO [(16, .box 3 [.int .i64 p.2.2.1]), (672, .row 35 (.two (.int .i64) (.two (.int .i64) (.int .i64))) true p.2.2.2)]⟩
noncomputable def slices_DeleteFunc_impl_Route_impl_Route_f72.D0 (k : Nat) (j : Nat) (p : (Int × Int × Int × (List (Int × Int × Int)))) : Option ((List (Int × Int × Int)) × Int) := loopK (norm [16] (slices_DeleteFunc_impl_Route_impl_Route_f72.h 0)) (runK slices_DeleteFunc_impl_Route_impl_Route_f72.x k 0 [16] slices_DeleteFunc_impl_Route_impl_Route_f72.h 0 (sub slices_DeleteFunc_impl_Route_impl_Route_f72.c [1, 1, 1, 0, 1, 0, 0])) j (slices_DeleteFunc_impl_Route_impl_Route_f72.S0 p) (kBlk 0 (kSeq (runK slices_DeleteFunc_impl_Route_impl_Route_f72.x k 0 [16] slices_DeleteFunc_impl_Route_impl_Route_f72.h 0 (sub slices_DeleteFunc_impl_Route_impl_Route_f72.c [1, 1, 1, 1])) (fin tt slices_DeleteFunc_impl_Route_impl_Route_f72.ps slices_DeleteFunc_impl_Route_impl_Route_f72.rs slices_DeleteFunc_impl_Route_impl_Route_f72.vs (.two (.sl 35 (.two (.int .i64) (.two (.int .i64) (.int .i64)))) (.int .i64)))))
theorem slices_DeleteFunc_impl_Route_impl_Route_f72.D0_eq (k : Nat) : ∀ j, slices_DeleteFunc_impl_Route_impl_Route_f72.D0 k j = slices_DeleteFunc_impl_Route_impl_Route_f72.l0 k j := by
  intro j
  induction j with
  | zero => rfl
  | succ j ih =>
    show _ = slices_DeleteFunc_impl_Route_impl_Route_f72.s0 k (slices_DeleteFunc_impl_Route_impl_Route_f72.l0 k j)
    rw [← ih]
    funext p
    kernel_rfl
def slices_DeleteFunc_impl_Route_impl_Route_f72.f (k : Nat) (a0 : List (Int × Int × Int)) (a1 : Int) : Option ((List (Int × Int × Int)) × Int) :=
  (slices_IndexFunc_impl_Route_impl_Route_f72_r.f k a0 a1).bind fun r1 => (bif (r1.1 == (-1 : Int)) then some (r1.2.1, r1.2.2) else slices_DeleteFunc_impl_Route_impl_Route_f72.l0 k k (r1.1, (IntKind.i64.wrap (r1.1 + (1 : Int))), r1.2.2, r1.2.1))
def slices_DeleteFunc_impl_Route_impl_Route_f72.K : Ctr := ⟨slices_DeleteFunc_impl_Route_impl_Route_f72.ps, slices_DeleteFunc_impl_Route_impl_Route_f72.rs, true, (.two (.sl 35 (.two (.int .i64) (.two (.int .i64) (.int .i64)))) (.int .i64)), (.two (.sl 35 (.two (.int .i64) (.two (.int .i64) (.int .i64)))) (.int .i64)), fun k x => slices_DeleteFunc_impl_Route_impl_Route_f72.f k x.1 x.2⟩
theorem slices_DeleteFunc_impl_Route_impl_Route_f72.eq (k : Nat) (x : (slices_DeleteFunc_impl_Route_impl_Route_f72.K.I).den) : func slices_DeleteFunc_impl_Route_impl_Route_f72.x slices_DeleteFunc_impl_Route_impl_Route_f72.h slices_DeleteFunc_impl_Route_impl_Route_f72.ps slices_DeleteFunc_impl_Route_impl_Route_f72.rs slices_DeleteFunc_impl_Route_impl_Route_f72.vs slices_DeleteFunc_impl_Route_impl_Route_f72.K.I slices_DeleteFunc_impl_Route_impl_Route_f72.K.O slices_DeleteFunc_impl_Route_impl_Route_f72.c k x = slices_DeleteFunc_impl_Route_impl_Route_f72.K.run k x := by
  show _ = slices_DeleteFunc_impl_Route_impl_Route_f72.f k x.1 x.2
  unfold slices_DeleteFunc_impl_Route_impl_Route_f72.f
  rw [← slices_DeleteFunc_impl_Route_impl_Route_f72.D0_eq k k]
  kernel_rfl
theorem slices_DeleteFunc_impl_Route_impl_Route_f72.ok : CtrOk Try.prog 71 slices_DeleteFunc_impl_Route_impl_Route_f72.K :=
  CtrOk.of (fn := Try.f71) (cd := slices_DeleteFunc_impl_Route_impl_Route_f72.c) (cx := slices_DeleteFunc_impl_Route_impl_Route_f72.x) (hs := slices_DeleteFunc_impl_Route_impl_Route_f72.h) (by kernel_rfl) (by kernel_rfl) (by kernel_rfl) (by kernel_rfl) tt_ok (envOk_cons slices_IndexFunc_impl_Route_impl_Route_f72_r.ok (envOk_cons impl_DropTo_1.ok (envOk_nil))) (by kernel_rfl) (by kernel_rfl) (by kernel_rfl) (by kernel_rfl) fun k x r h => (slices_DeleteFunc_impl_Route_impl_Route_f72.eq k x).trans h
/-! impl.DropTo -/
noncomputable def impl_DropTo.c : Code := bodyOf Try.f21
def impl_DropTo.h : Nat → Hint := look ⟨[], [], []⟩ []
def impl_DropTo.ps : List PK := [.one, .one]
def impl_DropTo.rs : List RK := [.one true]
def impl_DropTo.vs : List ResultVar := [.tmp 4]
def impl_DropTo.x : Cx := ⟨tt, look none [(66, some impl_copyRoutes.K), (71, some slices_DeleteFunc_impl_Route_impl_Route_f72.K)]⟩
def impl_DropTo.f (k : Nat) (a0 : List (Int × Int × Int)) (a1 : Int) : Option ((List (Int × Int × Int))) :=
  (impl_copyRoutes.f k a0).bind fun r1 => (slices_DeleteFunc_impl_Route_impl_Route_f72.f k r1 a1).bind fun r2 => some r2.1
def impl_DropTo.K : Ctr := ⟨impl_DropTo.ps, impl_DropTo.rs, false, (.two (.sl 35 (.two (.int .i64) (.two (.int .i64) (.int .i64)))) (.int .i64)), (.sl 35 (.two (.int .i64) (.two (.int .i64) (.int .i64)))), fun k x => impl_DropTo.f k x.1 x.2⟩
theorem impl_DropTo.eq (k : Nat) (x : (impl_DropTo.K.I).den) : func impl_DropTo.x impl_DropTo.h impl_DropTo.ps impl_DropTo.rs impl_DropTo.vs impl_DropTo.K.I impl_DropTo.K.O impl_DropTo.c k x = impl_DropTo.K.run k x := by
  show _ = impl_DropTo.f k x.1 x.2
  kernel_rfl
theorem impl_DropTo.ok : CtrOk Try.prog 21 impl_DropTo.K :=
  CtrOk.of (fn := Try.f21) (cd := impl_DropTo.c) (cx := impl_DropTo.x) (hs := impl_DropTo.h) (by kernel_rfl) (by kernel_rfl) (by kernel_rfl) (by kernel_rfl) tt_ok (envOk_cons impl_copyRoutes.ok (envOk_cons slices_DeleteFunc_impl_Route_impl_Route_f72.ok (envOk_nil))) (by kernel_rfl) (by kernel_rfl) (by kernel_rfl) (by kernel_rfl) fun k x r h => (impl_DropTo.eq k x).trans h
end Go.Proofs.Ytfaeklomiofpdaa.DI
