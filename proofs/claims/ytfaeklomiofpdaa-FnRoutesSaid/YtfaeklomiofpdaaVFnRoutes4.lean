/- FnRoutes: functions as plain Lean, in the machine of values. -/
import Derived.Test.YtfaeklomiofpdaaVFnRoutes3
namespace Go.Proofs.Ytfaeklomiofpdaa.DI
open Go
set_option linter.unusedVariables false
/-! laws.FnRoutes -/
noncomputable def laws_FnRoutes.c : Code := bodyOf Try.f3
def laws_FnRoutes.h : Nat → Hint := look ⟨[], [], []⟩ [(0, ⟨[3, 6, 7, 8, 11, 12, 14, 15], [96], [(.t 3, 2480, 35, (.two (.int .i64) (.two (.int .i64) (.int .i64)))), (.t 7, 2481, 35, (.two (.int .i64) (.two (.int .i64) (.int .i64)))), (.t 11, 2482, 35, (.two (.int .i64) (.two (.int .i64) (.int .i64))))]⟩), (2, ⟨[7, 8, 11, 12, 14, 16, 17], [], [(.t 7, 2480, 35, (.two (.int .i64) (.two (.int .i64) (.int .i64)))), (.t 11, 2481, 35, (.two (.int .i64) (.two (.int .i64) (.int .i64)))), (.t 16, 2482, 35, (.two (.int .i64) (.two (.int .i64) (.int .i64))))]⟩)]
def laws_FnRoutes.ps : List PK := [.one]
def laws_FnRoutes.rs : List RK := [.one true]
def laws_FnRoutes.vs : List ResultVar := [.tmp 2]
def laws_FnRoutes.x : Cx := ⟨tt, look none [(12, some laws_big.K), (13, some spec_DrawRoutes.K), (14, some spec_DrawAddrs.K), (15, some impl_PutRoute.K), (16, some spec_PutRoute.K), (17, some laws_sameRoutes.K), (18, some impl_RoutesOk.K), (19, some impl_DropRoute.K), (20, some spec_LookUp.K), (21, some impl_DropTo.K)]⟩
def laws_FnRoutes.s2 (k : Nat) (rec2 : (Bool × Bool × Bool × Int × (List (Int)) × (List (Int × Int × Int)) × (List (Int × Int × Int)) × (List (Int × Int × Int))) → Option (Bool)) (p : (Bool × Bool × Bool × Int × (List (Int)) × (List (Int × Int × Int)) × (List (Int × Int × Int)) × (List (Int × Int × Int)))) : Option (Bool) :=
  (bif (decide (p.2.2.2.1 < (p.2.2.2.2.2.2.2.length : Int))) then (bif ((decide ((0 : Int) ≤ p.2.2.2.1)) && (decide (p.2.2.2.1 < (p.2.2.2.2.2.2.2.length : Int)))) then (p.2.2.2.2.2.2.2[p.2.2.2.1.toNat]?).bind fun x17 => (bif (x17.2.2 == (7 : Int)) then some false else rec2 (p.1, p.2.1, p.2.2.1, (IntKind.i64.wrap (p.2.2.2.1 + (1 : Int))), p.2.2.2.2.1, p.2.2.2.2.2.1, p.2.2.2.2.2.2.1, p.2.2.2.2.2.2.2)) else none) else (bif p.1 then (bif p.2.1 then (bif (!p.2.2.1) then (bif ((IntKind.i64.wrap ((p.2.2.2.2.2.2.1.length : Int) + (1 : Int))) == (p.2.2.2.2.2.1.length : Int)) then (impl_RoutesOk.f k p.2.2.2.2.2.2.1).bind fun r18 => (bif r18 then some ((p.2.2.2.2.2.2.2.length : Int) == (p.2.2.2.2.2.2.1.length : Int)) else some false) else some false) else some false) else some false) else some false))
def laws_FnRoutes.l2 (k : Nat) : Nat → (Bool × Bool × Bool × Int × (List (Int)) × (List (Int × Int × Int)) × (List (Int × Int × Int)) × (List (Int × Int × Int))) → Option (Bool)
  | 0 => fun _ => none
  | j + 1 => laws_FnRoutes.s2 k (laws_FnRoutes.l2 k j)
def laws_FnRoutes.s0 (k : Nat) (rec0 : (Bool × Bool × Bool × Int × (List (Int)) × Int × Int × (List (Int × Int × Int)) × (List (Int × Int × Int)) × (List (Int × Int × Int))) → Option (Bool)) (i2 : (Bool × Bool × Bool × Int × (List (Int)) × (List (Int × Int × Int)) × (List (Int × Int × Int)) × (List (Int × Int × Int))) → Option (Bool)) (p : (Bool × Bool × Bool × Int × (List (Int)) × Int × Int × (List (Int × Int × Int)) × (List (Int × Int × Int)) × (List (Int × Int × Int)))) : Option (Bool) :=
  (bif (decide (p.2.2.2.1 < (p.2.2.2.2.2.2.2.1.length : Int))) then (bif ((decide ((0 : Int) ≤ p.2.2.2.1)) && (decide (p.2.2.2.1 < (p.2.2.2.2.2.2.2.1.length : Int)))) then (p.2.2.2.2.2.2.2.1[p.2.2.2.1.toNat]?).bind fun x11 => (bif (!((x11.1 == p.2.2.2.2.2.1) && (x11.2.1 == p.2.2.2.2.2.2.1))) then (bif ((decide ((0 : Int) ≤ p.2.2.2.1)) && (decide (p.2.2.2.1 < (p.2.2.2.2.2.2.2.1.length : Int)))) then (p.2.2.2.2.2.2.2.1[p.2.2.2.1.toNat]?).bind fun x12 => (spec_LookUp.f k p.2.2.2.2.2.2.2.1 x12.1).bind fun r13 => (bif ((decide ((0 : Int) ≤ p.2.2.2.1)) && (decide (p.2.2.2.1 < (p.2.2.2.2.2.2.2.1.length : Int)))) then (p.2.2.2.2.2.2.2.1[p.2.2.2.1.toNat]?).bind fun x14 => (spec_LookUp.f k p.2.2.2.2.2.2.2.2.2 x14.1).bind fun r15 => (bif (r13 != r15) then (bif ((p.2.2.2.2.2.2.2.2.2.length : Int) == (p.2.2.2.2.2.2.2.1.length : Int)) then some false else rec0 (p.1, p.2.1, p.2.2.1, (IntKind.i64.wrap (p.2.2.2.1 + (1 : Int))), p.2.2.2.2.1, p.2.2.2.2.2.1, p.2.2.2.2.2.2.1, p.2.2.2.2.2.2.2.1, p.2.2.2.2.2.2.2.2.1, p.2.2.2.2.2.2.2.2.2)) else rec0 (p.1, p.2.1, p.2.2.1, (IntKind.i64.wrap (p.2.2.2.1 + (1 : Int))), p.2.2.2.2.1, p.2.2.2.2.2.1, p.2.2.2.2.2.2.1, p.2.2.2.2.2.2.2.1, p.2.2.2.2.2.2.2.2.1, p.2.2.2.2.2.2.2.2.2)) else none) else none) else rec0 (p.1, p.2.1, p.2.2.1, (IntKind.i64.wrap (p.2.2.2.1 + (1 : Int))), p.2.2.2.2.1, p.2.2.2.2.2.1, p.2.2.2.2.2.2.1, p.2.2.2.2.2.2.2.1, p.2.2.2.2.2.2.2.2.1, p.2.2.2.2.2.2.2.2.2)) else none) else (impl_DropTo.f k p.2.2.2.2.2.2.2.2.1 (7 : Int)).bind fun r16 => i2 (p.1, p.2.1, p.2.2.1, (0 : Int), p.2.2.2.2.1, p.2.2.2.2.2.2.2.2.1, p.2.2.2.2.2.2.2.2.2, r16))
def laws_FnRoutes.l0 (k : Nat) : Nat → (Bool × Bool × Bool × Int × (List (Int)) × Int × Int × (List (Int × Int × Int)) × (List (Int × Int × Int)) × (List (Int × Int × Int))) → Option (Bool)
  | 0 => fun _ => none
  | j + 1 => laws_FnRoutes.s0 k (laws_FnRoutes.l0 k j) (laws_FnRoutes.l2 k k)
def laws_FnRoutes.S2 (p : (Bool × Bool × Bool × Int × (List (Int)) × (List (Int × Int × Int)) × (List (Int × Int × Int)) × (List (Int × Int × Int)))) : DS := ⟨tl [(7, .at (.whole 2480)), (8, .at (.bool p.1)), (11, .at (.whole 2481)), (12, .at (.bool p.2.1)), (14, .at (.bool p.2.2.1)), (16, .at (.whole 2482)), (17, .at (.int .i64 p.2.2.2.1))], lookO [(0, .row 5 (.int .u8) false p.2.2.2.2.1), (2480, .row 35 (.two (.int .i64) (.two (.int .i64) (.int .i64))) true p.2.2.2.2.2.1), (2481, .row 35 (.two (.int .i64) (.two (.int .i64) (.int .i64))) true p.2.2.2.2.2.2.1), (2482, .row 35 (.two (.int .i64) (.two (.int .i64) (.int .i64))) true p.2.2.2.2.2.2.2)]⟩
def laws_FnRoutes.S0 (p : (Bool × Bool × Bool × Int × (List (Int)) × Int × Int × (List (Int × Int × Int)) × (List (Int × Int × Int)) × (List (Int × Int × Int)))) : DS := ⟨tl [(3, .at (.whole 2480)), (6, .at (.bptr 96 0)), (7, .at (.whole 2481)), (8, .at (.bool p.1)), (11, .at (.whole 2482)), (12, .at (.bool p.2.1)), (14, .at (.bool p.2.2.1)), (15, .at (.int .i64 p.2.2.2.1))], lookO [(0, .row 5 (.int .u8) false p.2.2.2.2.1), (96, .box 29 [.int .i64 p.2.2.2.2.2.1, .int .i64 p.2.2.2.2.2.2.1]), (2480, .row 35 (.two (.int .i64) (.two (.int .i64) (.int .i64))) true p.2.2.2.2.2.2.2.1), (2481, .row 35 (.two (.int .i64) (.two (.int .i64) (.int .i64))) true p.2.2.2.2.2.2.2.2.1), (2482, .row 35 (.two (.int .i64) (.two (.int .i64) (.int .i64))) true p.2.2.2.2.2.2.2.2.2)]⟩
noncomputable def laws_FnRoutes.D2 (k : Nat) (j : Nat) (p : (Bool × Bool × Bool × Int × (List (Int)) × (List (Int × Int × Int)) × (List (Int × Int × Int)) × (List (Int × Int × Int)))) : Option (Bool) := loopK (norm [0] (laws_FnRoutes.h 2)) (runK laws_FnRoutes.x k 0 [0] laws_FnRoutes.h 2 (sub laws_FnRoutes.c [1, 1, 1, 1, 1, 1, 1, 1, 1, 1, 1, 0, 1, 0, 0])) j (laws_FnRoutes.S2 p) (kBlk 2 (kSeq (runK laws_FnRoutes.x k 0 [0] laws_FnRoutes.h 0 (sub laws_FnRoutes.c [1, 1, 1, 1, 1, 1, 1, 1, 1, 1, 1, 1])) (fin tt laws_FnRoutes.ps laws_FnRoutes.rs laws_FnRoutes.vs .bool)))
noncomputable def laws_FnRoutes.D0 (k : Nat) (j : Nat) (p : (Bool × Bool × Bool × Int × (List (Int)) × Int × Int × (List (Int × Int × Int)) × (List (Int × Int × Int)) × (List (Int × Int × Int)))) : Option (Bool) := loopK (norm [0] (laws_FnRoutes.h 0)) (runK laws_FnRoutes.x k 0 [0] laws_FnRoutes.h 0 (sub laws_FnRoutes.c [1, 1, 1, 1, 1, 1, 1, 1, 1, 0, 1, 0, 0])) j (laws_FnRoutes.S0 p) (kBlk 0 (kSeq (runK laws_FnRoutes.x k 0 [0] laws_FnRoutes.h 0 (sub laws_FnRoutes.c [1, 1, 1, 1, 1, 1, 1, 1, 1, 1])) (fin tt laws_FnRoutes.ps laws_FnRoutes.rs laws_FnRoutes.vs .bool)))
theorem laws_FnRoutes.D2_eq (k : Nat) : ∀ j, laws_FnRoutes.D2 k j = laws_FnRoutes.l2 k j := by
  intro j
  induction j with
  | zero => rfl
  | succ j ih =>
    show _ = laws_FnRoutes.s2 k (laws_FnRoutes.l2 k j)
    rw [← ih]
    funext p
    kernel_rfl
theorem laws_FnRoutes.D0_eq (k : Nat) : ∀ j, laws_FnRoutes.D0 k j = laws_FnRoutes.l0 k j := by
  intro j
  induction j with
  | zero => rfl
  | succ j ih =>
    show _ = laws_FnRoutes.s0 k (laws_FnRoutes.l0 k j) (laws_FnRoutes.l2 k k)
    rw [← ih, ← laws_FnRoutes.D2_eq k k]
    funext p
    kernel_rfl
def laws_FnRoutes.f (k : Nat) (a0 : List (Int)) : Option (Bool) :=
  (laws_big.f k a0).bind fun r1 => (bif r1 then some true else (spec_DrawRoutes.f k a0).bind fun r2 => (spec_DrawAddrs.f k a0).bind fun r3 => (impl_PutRoute.f k r2.1 r3.2.1 r3.2.2 (7 : Int)).bind fun r4 => (spec_PutRoute.f k r2.1 r3.2.1 r3.2.2 (7 : Int)).bind fun r5 => (bif (!(r4.2 == r5.2)) then some false else (laws_sameRoutes.f k r4.1 r5.1).bind fun r6 => (bif (!r6) then some false else (impl_RoutesOk.f k r2.1).bind fun r7 => (bif (!r7) then some false else (impl_RoutesOk.f k r4.1).bind fun r8 => (bif (!r8) then some false else (impl_DropRoute.f k r4.1 r3.2.1 r3.2.2).bind fun r9 => (impl_DropRoute.f k r9.1 r3.2.1 r3.2.2).bind fun r10 => laws_FnRoutes.l0 k k (r4.2, r9.2, r10.2, (0 : Int), a0, r3.2.1, r3.2.2, r2.1, r4.1, r9.1))))))
def laws_FnRoutes.K : Ctr := ⟨laws_FnRoutes.ps, laws_FnRoutes.rs, false, (.sl 5 (.int .u8)), .bool, fun k x => laws_FnRoutes.f k x⟩
theorem laws_FnRoutes.eq (k : Nat) (x : (laws_FnRoutes.K.I).den) : func laws_FnRoutes.x laws_FnRoutes.h laws_FnRoutes.ps laws_FnRoutes.rs laws_FnRoutes.vs laws_FnRoutes.K.I laws_FnRoutes.K.O laws_FnRoutes.c k x = laws_FnRoutes.K.run k x := by
  show _ = laws_FnRoutes.f k x
  unfold laws_FnRoutes.f
  rw [← laws_FnRoutes.D0_eq k k]
  kernel_rfl
theorem laws_FnRoutes.ok : CtrOk Try.prog 3 laws_FnRoutes.K :=
  CtrOk.of (fn := Try.f3) (cd := laws_FnRoutes.c) (cx := laws_FnRoutes.x) (hs := laws_FnRoutes.h) (by kernel_rfl) (by kernel_rfl) (by kernel_rfl) (by kernel_rfl) tt_ok (envOk_cons laws_big.ok (envOk_cons spec_DrawRoutes.ok (envOk_cons spec_DrawAddrs.ok (envOk_cons impl_PutRoute.ok (envOk_cons spec_PutRoute.ok (envOk_cons laws_sameRoutes.ok (envOk_cons impl_RoutesOk.ok (envOk_cons impl_DropRoute.ok (envOk_cons spec_LookUp.ok (envOk_cons impl_DropTo.ok (envOk_nil))))))))))) (by kernel_rfl) (by kernel_rfl) (by kernel_rfl) (by kernel_rfl) fun k x r h => (laws_FnRoutes.eq k x).trans h
end Go.Proofs.Ytfaeklomiofpdaa.DI
