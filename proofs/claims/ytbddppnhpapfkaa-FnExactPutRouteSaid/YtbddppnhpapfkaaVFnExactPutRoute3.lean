/- FnExactPutRoute: functions as plain Lean, in the machine of values. -/
import Derived.Test.YtbddppnhpapfkaaVFnExactPutRoute2
namespace Go.Proofs.Ytbddppnhpapfkaa.DI
open Go
set_option linter.unusedVariables false
/-! laws.markRouteS -/
noncomputable def laws_markRouteS.c : Code := bodyOf Try.f20
def laws_markRouteS.h : Nat → Hint := look ⟨[], [], []⟩ [(0, ⟨[0, 1, 5], [], []⟩)]
def laws_markRouteS.ps : List PK := [.row, .one]
def laws_markRouteS.rs : List RK := [.one true]
def laws_markRouteS.vs : List ResultVar := [.tmp 4]
def laws_markRouteS.x : Cx := ⟨tt, look none []⟩
def laws_markRouteS.s0 (_k : Nat) (rec0 : (Int × Int × (List (Int × Int × Int))) → Option (Int × (List (Int × Int × Int)))) (p : (Int × Int × (List (Int × Int × Int)))) : Option (Int × (List (Int × Int × Int))) :=
  (bif (decide (p.2.1 < (p.2.2.length : Int))) then (bif ((decide ((0 : Int) ≤ p.2.1)) && (decide (p.2.1 < (p.2.2.length : Int)))) then (p.2.2[p.2.1.toNat]?).bind fun x1 => (bif ((decide ((0 : Int) ≤ p.2.1)) && (decide (p.2.1 < ((p.2.2.set p.2.1.toNat (p.1, x1.2)).length : Int)))) then ((p.2.2.set p.2.1.toNat (p.1, x1.2))[p.2.1.toNat]?).bind fun x2 => (bif ((decide ((0 : Int) ≤ p.2.1)) && (decide (p.2.1 < (((p.2.2.set p.2.1.toNat (p.1, x1.2)).set p.2.1.toNat (x2.1, (IntKind.i64.wrap (p.1 + (1 : Int))), x2.2.2)).length : Int)))) then (((p.2.2.set p.2.1.toNat (p.1, x1.2)).set p.2.1.toNat (x2.1, (IntKind.i64.wrap (p.1 + (1 : Int))), x2.2.2))[p.2.1.toNat]?).bind fun x3 => rec0 ((IntKind.i64.wrap ((IntKind.i64.wrap ((IntKind.i64.wrap (p.1 + (1 : Int))) + (1 : Int))) + (1 : Int))), (IntKind.i64.wrap (p.2.1 + (1 : Int))), (((p.2.2.set p.2.1.toNat (p.1, x1.2)).set p.2.1.toNat (x2.1, (IntKind.i64.wrap (p.1 + (1 : Int))), x2.2.2)).set p.2.1.toNat (x3.1, x3.2.1, (IntKind.i64.wrap ((IntKind.i64.wrap (p.1 + (1 : Int))) + (1 : Int)))))) else none) else none) else none) else some (p.1, p.2.2))
def laws_markRouteS.l0 (k : Nat) : Nat → (Int × Int × (List (Int × Int × Int))) → Option (Int × (List (Int × Int × Int)))
  | 0 => fun _ => none
  | j + 1 => laws_markRouteS.s0 k (laws_markRouteS.l0 k j)
def laws_markRouteS.S0 (p : (Int × Int × (List (Int × Int × Int)))) : DS := ⟨tl [(0, .at (.whole 0)), (1, .at (.int .i64 p.1)), (5, .at (.int .i64 p.2.1))], lookO [(0, .row 65 (.two (.int .i64) (.two (.int .i64) (.int .i64))) true p.2.2)]⟩
noncomputable def laws_markRouteS.D0 (k : Nat) (j : Nat) (p : (Int × Int × (List (Int × Int × Int)))) : Option (Int × (List (Int × Int × Int))) := loopK (norm [0] (laws_markRouteS.h 0)) (runK laws_markRouteS.x k 0 [0] laws_markRouteS.h 0 (sub laws_markRouteS.c [1, 0, 1, 0, 0])) j (laws_markRouteS.S0 p) (kBlk 0 (kSeq (runK laws_markRouteS.x k 0 [0] laws_markRouteS.h 0 (sub laws_markRouteS.c [1, 1])) (fin tt laws_markRouteS.ps laws_markRouteS.rs laws_markRouteS.vs (.two (.int .i64) (.sl 65 (.two (.int .i64) (.two (.int .i64) (.int .i64))))))))
theorem laws_markRouteS.D0_eq (k : Nat) : ∀ j, laws_markRouteS.D0 k j = laws_markRouteS.l0 k j := by
  intro j
  induction j with
  | zero => rfl
  | succ j ih =>
    show _ = laws_markRouteS.s0 k (laws_markRouteS.l0 k j)
    rw [← ih]
    funext p
    kernel_rfl
def laws_markRouteS.f (k : Nat) (a0 : List (Int × Int × Int)) (a1 : Int) : Option (Int × (List (Int × Int × Int))) :=
  laws_markRouteS.l0 k k (a1, (0 : Int), a0)
def laws_markRouteS.K : Ctr := ⟨laws_markRouteS.ps, laws_markRouteS.rs, false, (.two (.sl 65 (.two (.int .i64) (.two (.int .i64) (.int .i64)))) (.int .i64)), (.two (.int .i64) (.sl 65 (.two (.int .i64) (.two (.int .i64) (.int .i64))))), fun k x => laws_markRouteS.f k x.1 x.2⟩
theorem laws_markRouteS.eq (k : Nat) (x : (laws_markRouteS.K.I).den) : func laws_markRouteS.x laws_markRouteS.h laws_markRouteS.ps laws_markRouteS.rs laws_markRouteS.vs laws_markRouteS.K.I laws_markRouteS.K.O laws_markRouteS.c k x = laws_markRouteS.K.run k x := by
  show _ = laws_markRouteS.f k x.1 x.2
  unfold laws_markRouteS.f
  rw [← laws_markRouteS.D0_eq k k]
  kernel_rfl
theorem laws_markRouteS.ok : CtrOk Try.prog 20 laws_markRouteS.K :=
  CtrOk.of (fn := Try.f20) (cd := laws_markRouteS.c) (cx := laws_markRouteS.x) (hs := laws_markRouteS.h) (by kernel_rfl) (by kernel_rfl) (by kernel_rfl) (by kernel_rfl) tt_ok (envOk_nil) (by kernel_rfl) (by kernel_rfl) (by kernel_rfl) (by kernel_rfl) fun k x r h => (laws_markRouteS.eq k x).trans h
/-! laws.heldRouteS -/
noncomputable def laws_heldRouteS.c : Code := bodyOf Try.f21
def laws_heldRouteS.h : Nat → Hint := look ⟨[], [], []⟩ [(0, ⟨[0, 1, 5], [], []⟩)]
def laws_heldRouteS.ps : List PK := [.one, .one]
def laws_heldRouteS.rs : List RK := [.one true]
def laws_heldRouteS.vs : List ResultVar := [.tmp 4]
def laws_heldRouteS.x : Cx := ⟨tt, look none []⟩
def laws_heldRouteS.s0 (_k : Nat) (rec0 : (Int × Int × (List (Int × Int × Int))) → Option (Int)) (p : (Int × Int × (List (Int × Int × Int)))) : Option (Int) :=
  (bif (decide (p.2.1 < (p.2.2.length : Int))) then (bif ((decide ((0 : Int) ≤ p.2.1)) && (decide (p.2.1 < (p.2.2.length : Int)))) then (p.2.2[p.2.1.toNat]?).bind fun x1 => (bif (x1.1 != p.1) then some (-1 : Int) else (bif ((decide ((0 : Int) ≤ p.2.1)) && (decide (p.2.1 < (p.2.2.length : Int)))) then (p.2.2[p.2.1.toNat]?).bind fun x2 => (bif (x2.2.1 != (IntKind.i64.wrap (p.1 + (1 : Int)))) then some (-1 : Int) else (bif ((decide ((0 : Int) ≤ p.2.1)) && (decide (p.2.1 < (p.2.2.length : Int)))) then (p.2.2[p.2.1.toNat]?).bind fun x3 => (bif (x3.2.2 != (IntKind.i64.wrap ((IntKind.i64.wrap (p.1 + (1 : Int))) + (1 : Int)))) then some (-1 : Int) else rec0 ((IntKind.i64.wrap ((IntKind.i64.wrap ((IntKind.i64.wrap (p.1 + (1 : Int))) + (1 : Int))) + (1 : Int))), (IntKind.i64.wrap (p.2.1 + (1 : Int))), p.2.2)) else none)) else none)) else none) else some p.1)
def laws_heldRouteS.l0 (k : Nat) : Nat → (Int × Int × (List (Int × Int × Int))) → Option (Int)
  | 0 => fun _ => none
  | j + 1 => laws_heldRouteS.s0 k (laws_heldRouteS.l0 k j)
def laws_heldRouteS.S0 (p : (Int × Int × (List (Int × Int × Int)))) : DS := ⟨tl [(0, .at (.whole 0)), (1, .at (.int .i64 p.1)), (5, .at (.int .i64 p.2.1))], lookO [(0, .row 65 (.two (.int .i64) (.two (.int .i64) (.int .i64))) false p.2.2)]⟩
noncomputable def laws_heldRouteS.D0 (k : Nat) (j : Nat) (p : (Int × Int × (List (Int × Int × Int)))) : Option (Int) := loopK (norm [0] (laws_heldRouteS.h 0)) (runK laws_heldRouteS.x k 0 [0] laws_heldRouteS.h 0 (sub laws_heldRouteS.c [1, 0, 1, 0, 0])) j (laws_heldRouteS.S0 p) (kBlk 0 (kSeq (runK laws_heldRouteS.x k 0 [0] laws_heldRouteS.h 0 (sub laws_heldRouteS.c [1, 1])) (fin tt laws_heldRouteS.ps laws_heldRouteS.rs laws_heldRouteS.vs (.int .i64))))
theorem laws_heldRouteS.D0_eq (k : Nat) : ∀ j, laws_heldRouteS.D0 k j = laws_heldRouteS.l0 k j := by
  intro j
  induction j with
  | zero => rfl
  | succ j ih =>
    show _ = laws_heldRouteS.s0 k (laws_heldRouteS.l0 k j)
    rw [← ih]
    funext p
    kernel_rfl
def laws_heldRouteS.f (k : Nat) (a0 : List (Int × Int × Int)) (a1 : Int) : Option (Int) :=
  laws_heldRouteS.l0 k k (a1, (0 : Int), a0)
def laws_heldRouteS.K : Ctr := ⟨laws_heldRouteS.ps, laws_heldRouteS.rs, false, (.two (.sl 65 (.two (.int .i64) (.two (.int .i64) (.int .i64)))) (.int .i64)), (.int .i64), fun k x => laws_heldRouteS.f k x.1 x.2⟩
theorem laws_heldRouteS.eq (k : Nat) (x : (laws_heldRouteS.K.I).den) : func laws_heldRouteS.x laws_heldRouteS.h laws_heldRouteS.ps laws_heldRouteS.rs laws_heldRouteS.vs laws_heldRouteS.K.I laws_heldRouteS.K.O laws_heldRouteS.c k x = laws_heldRouteS.K.run k x := by
  show _ = laws_heldRouteS.f k x.1 x.2
  unfold laws_heldRouteS.f
  rw [← laws_heldRouteS.D0_eq k k]
  kernel_rfl
theorem laws_heldRouteS.ok : CtrOk Try.prog 21 laws_heldRouteS.K :=
  CtrOk.of (fn := Try.f21) (cd := laws_heldRouteS.c) (cx := laws_heldRouteS.x) (hs := laws_heldRouteS.h) (by kernel_rfl) (by kernel_rfl) (by kernel_rfl) (by kernel_rfl) tt_ok (envOk_nil) (by kernel_rfl) (by kernel_rfl) (by kernel_rfl) (by kernel_rfl) fun k x r h => (laws_heldRouteS.eq k x).trans h
/-! laws.FnExactPutRoute -/
noncomputable def laws_FnExactPutRoute.c : Code := bodyOf Try.f14
def laws_FnExactPutRoute.h : Nat → Hint := look ⟨[], [], []⟩ []
def laws_FnExactPutRoute.ps : List PK := [.one, .agg 3]
def laws_FnExactPutRoute.rs : List RK := [.one true]
def laws_FnExactPutRoute.vs : List ResultVar := [.tmp 4]
def laws_FnExactPutRoute.x : Cx := ⟨tt, look none [(15, some laws_szRouteS.K), (17, some laws_toRouteS.K), (53, some laws_toRoute.K), (52, some spec_PutRoute.K), (54, some impl_PutRoute.K), (19, some laws_eqRouteS.K), (20, some laws_markRouteS.K), (21, some laws_heldRouteS.K)]⟩
def laws_FnExactPutRoute.f (k : Nat) (a0 : List (Int × Int × Int)) (a1_0 : Int) (a1_1 : Int) (a1_2 : Int) : Option (Bool) :=
  (laws_szRouteS.f k a0 (1048576 : Int)).bind fun r1 => (bif (decide (r1 < (0 : Int))) then some true else (laws_toRouteS.f k a0).bind fun r2 => (laws_toRoute.f k a1_0 a1_1 a1_2).bind fun r3 => (spec_PutRoute.f k r2 r3.1 r3.2.1 r3.2.2).bind fun r4 => (laws_toRouteS.f k a0).bind fun r5 => (laws_toRoute.f k a1_0 a1_1 a1_2).bind fun r6 => (impl_PutRoute.f k r5 r6.1 r6.2.1 r6.2.2).bind fun r7 => (laws_eqRouteS.f k r7.1 r4.1).bind fun r8 => (bif (!r8) then some false else (bif (!(r7.2 == r4.2)) then some false else (laws_toRouteS.f k a0).bind fun r9 => (laws_eqRouteS.f k r5 r9).bind fun r10 => (bif (!r10) then some false else (laws_markRouteS.f k r5 (1 : Int)).bind fun r11 => (bif (decide (r11.1 < (0 : Int))) then some false else (laws_eqRouteS.f k r7.1 r4.1).bind fun r12 => (bif (!r12) then some false else (bif (!(r7.2 == r4.2)) then some false else (laws_markRouteS.f k r7.1 (1 : Int)).bind fun r13 => (laws_heldRouteS.f k r13.2 (1 : Int)).bind fun r14 => (bif (decide (r14 < (0 : Int))) then some false else (bif (r14 != r13.1) then some false else (laws_toRouteS.f k a0).bind fun r15 => (laws_toRoute.f k a1_0 a1_1 a1_2).bind fun r16 => (impl_PutRoute.f k r15 r16.1 r16.2.1 r16.2.2).bind fun r17 => (laws_eqRouteS.f k r17.1 r4.1).bind fun r18 => (bif (!r18) then some false else (bif (!(r17.2 == r4.2)) then some false else (laws_heldRouteS.f k r13.2 (1 : Int)).bind fun r19 => (bif (decide (r19 < (0 : Int))) then some false else (bif (r19 != r13.1) then some false else some true)))))))))))))
def laws_FnExactPutRoute.K : Ctr := ⟨laws_FnExactPutRoute.ps, laws_FnExactPutRoute.rs, false, (.two (.sl 81 (.two (.int .i64) (.two (.int .i64) (.int .i64)))) (.two (.int .i64) (.two (.int .i64) (.int .i64)))), .bool, fun k x => laws_FnExactPutRoute.f k x.1 x.2.1 x.2.2.1 x.2.2.2⟩
theorem laws_FnExactPutRoute.eq (k : Nat) (x : (laws_FnExactPutRoute.K.I).den) : func laws_FnExactPutRoute.x laws_FnExactPutRoute.h laws_FnExactPutRoute.ps laws_FnExactPutRoute.rs laws_FnExactPutRoute.vs laws_FnExactPutRoute.K.I laws_FnExactPutRoute.K.O laws_FnExactPutRoute.c k x = laws_FnExactPutRoute.K.run k x := by
  show _ = laws_FnExactPutRoute.f k x.1 x.2.1 x.2.2.1 x.2.2.2
  kernel_rfl
theorem laws_FnExactPutRoute.ok : CtrOk Try.prog 14 laws_FnExactPutRoute.K :=
  CtrOk.of (fn := Try.f14) (cd := laws_FnExactPutRoute.c) (cx := laws_FnExactPutRoute.x) (hs := laws_FnExactPutRoute.h) (by kernel_rfl) (by kernel_rfl) (by kernel_rfl) (by kernel_rfl) tt_ok (envOk_cons laws_szRouteS.ok (envOk_cons laws_toRouteS.ok (envOk_cons laws_toRoute.ok (envOk_cons spec_PutRoute.ok (envOk_cons impl_PutRoute.ok (envOk_cons laws_eqRouteS.ok (envOk_cons laws_markRouteS.ok (envOk_cons laws_heldRouteS.ok (envOk_nil))))))))) (by kernel_rfl) (by kernel_rfl) (by kernel_rfl) (by kernel_rfl) fun k x r h => (laws_FnExactPutRoute.eq k x).trans h
end Go.Proofs.Ytbddppnhpapfkaa.DI
