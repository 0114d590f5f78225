/- FnExactDropTo: functions as plain Lean, in the machine of values. -/
import Derived.Test.YtbddppnhpapfkaaVFnExactDropTo1
namespace Go.Proofs.Ytbddppnhpapfkaa.DI
open Go
set_option linter.unusedVariables false
/-! laws.heldRouteS -/
noncomputable def laws_heldRouteS.c : Code := bodyOf Try.f21
def laws_heldRouteS.h : Nat → Hint := look ⟨[], [], []⟩ [(0, ⟨[0, 1, 5], [], []⟩)]
def laws_heldRouteS.ps : List PK := [.one, .one]
def laws_heldRouteS.rs : List RK := [.one true]
def laws_heldRouteS.vs : List ResultVar := [.tmp 4]
def laws_heldRouteS.x : Cx := ⟨tt, look none []⟩
def laws_heldRouteS.s0 (_k : Nat) (rec0 : (Int × Int × (List (Int × Int × Int))) → Option (Int)) (p : (Int × Int × (List (Int × Int × Int)))) : Option (Int) :=
  (bif (decide (p.2.1 < (p.2.2.length : Int))) then (bif ((decide ((0 : Int) ≤ p.2.1)) && (decide (p.2.1 < (p.2.2.length : Int)))) then (p.2.2[p.2.1.toNat]?).bind fun x1 => (bif (x1.1 != p.1) then some (-1 : Int) else (bif ((decide ((0 : Int) ≤ p.2.1)) && (decide (p.2.1 < (p.2.2.length : Int)))) then (p.2.2[p.2.1.toNat]?).bind fun x2 => (bif (x2.2.1 != (IntKind.i64.wrap (p.1 + (1 : Int)))) then some (-1 : Int) else (bif ((decide ((0 : Int) ≤ p.2.1)) && (decide (p.2.1 < (p.2.2.length : Int)))) then (p.2.2[p.2.1.toNat]?).bind fun x3 => (bif (x3.2.2 != (IntKind.i64.wrap ((IntKind.i64.wrap (p.1 + (1 : Int))) + (1 : Int)))) then some (-1 : Int) else rec0 ((IntKind.i64.wrap ((IntKind.i64.wrap ((IntKind.i64.wrap (p.1 + (1 : Int))) + (1 : Int))) + (1 : Int))), (IntKind.i64.wrap (p.2.1 + (1 : Int))), p.2.2)) else none)) else none)) else none) else some p.1)
def laws_heldRouteS.l0 (k : Nat) : Nat → (Int × Int × (List (Int × Int × Int))) → Option (Int)
  | 0 => fun _ => none
  | j + 1 => laws_heldRouteS.s0 k (laws_heldRouteS.l0 k j)
def laws_heldRouteS.S0 (p : (Int × Int × (List (Int × Int × Int)))) : DS := ⟨tl [(0, .at (.whole 0)), (1, .at (.int .i64 p.1)), (5, .at (.int .i64 p.2.1))], lookO [(0, .row 65 (.two (.int .i64) (.two (.int .i64) (.int .i64))) false p.2.2)]⟩
noncomputable def laws_heldRouteS.D0 (k : Nat) (j : Nat) (p : (Int × Int × (List (Int × Int × Int)))) : Option (Int) := loopK (norm [0] (laws_heldRouteS.h 0)) (runK laws_heldRouteS.x k 0 [0] laws_heldRouteS.h 0 (sub laws_heldRouteS.c [1, 0, 1, 0, 0])) j (laws_heldRouteS.S0 p) (kBlk 0 (kSeq (runK laws_heldRouteS.x k 0 [0] laws_heldRouteS.h 0 (sub laws_heldRouteS.c [1, 1])) (fin tt laws_heldRouteS.ps laws_heldRouteS.rs laws_heldRouteS.vs (.int .i64))))
theorem laws_heldRouteS.D0_eq (k : Nat) : ∀ j, laws_heldRouteS.D0 k j = laws_heldRouteS.l0 k j := by
  intro j
  induction j with
  | zero => rfl
  | succ j ih =>
    show _ = laws_heldRouteS.s0 k (laws_heldRouteS.l0 k j)
    rw [← ih]
    funext p
    kernel_rfl
def laws_heldRouteS.f (k : Nat) (a0 : List (Int × Int × Int)) (a1 : Int) : Option (Int) :=
  laws_heldRouteS.l0 k k (a1, (0 : Int), a0)
def laws_heldRouteS.K : Ctr := ⟨laws_heldRouteS.ps, laws_heldRouteS.rs, false, (.two (.sl 65 (.two (.int .i64) (.two (.int .i64) (.int .i64)))) (.int .i64)), (.int .i64), fun k x => laws_heldRouteS.f k x.1 x.2⟩
theorem laws_heldRouteS.eq (k : Nat) (x : (laws_heldRouteS.K.I).den) : func laws_heldRouteS.x laws_heldRouteS.h laws_heldRouteS.ps laws_heldRouteS.rs laws_heldRouteS.vs laws_heldRouteS.K.I laws_heldRouteS.K.O laws_heldRouteS.c k x = laws_heldRouteS.K.run k x := by
  show _ = laws_heldRouteS.f k x.1 x.2
  unfold laws_heldRouteS.f
  rw [← laws_heldRouteS.D0_eq k k]
  kernel_rfl
theorem laws_heldRouteS.ok : CtrOk Try.prog 21 laws_heldRouteS.K :=
  CtrOk.of (fn := Try.f21) (cd := laws_heldRouteS.c) (cx := laws_heldRouteS.x) (hs := laws_heldRouteS.h) (by kernel_rfl) (by kernel_rfl) (by kernel_rfl) (by kernel_rfl) tt_ok (envOk_nil) (by kernel_rfl) (by kernel_rfl) (by kernel_rfl) (by kernel_rfl) fun k x r h => (laws_heldRouteS.eq k x).trans h
/-! laws.FnExactDropTo -/
noncomputable def laws_FnExactDropTo.c : Code := bodyOf Try.f3
def laws_FnExactDropTo.h : Nat → Hint := look ⟨[], [], []⟩ []
def laws_FnExactDropTo.ps : List PK := [.one, .one]
def laws_FnExactDropTo.rs : List RK := [.one true]
def laws_FnExactDropTo.vs : List ResultVar := [.tmp 4]
def laws_FnExactDropTo.x : Cx := ⟨tt, look none [(15, some laws_szRouteS.K), (17, some laws_toRouteS.K), (16, some spec_DropTo.K), (18, some impl_DropTo.K), (19, some laws_eqRouteS.K), (20, some laws_markRouteS.K), (21, some laws_heldRouteS.K)]⟩
def laws_FnExactDropTo.f (k : Nat) (a0 : List (Int × Int × Int)) (a1 : Int) : Option (Bool) :=
  (laws_szRouteS.f k a0 (1048576 : Int)).bind fun r1 => (bif (decide (r1 < (0 : Int))) then some true else (laws_toRouteS.f k a0).bind fun r2 => (spec_DropTo.f k r2 a1).bind fun r3 => (laws_toRouteS.f k a0).bind fun r4 => (impl_DropTo.f k r4 a1).bind fun r5 => (laws_eqRouteS.f k r5 r3).bind fun r6 => (bif (!r6) then some false else (laws_toRouteS.f k a0).bind fun r7 => (laws_eqRouteS.f k r4 r7).bind fun r8 => (bif (!r8) then some false else (laws_markRouteS.f k r4 (1 : Int)).bind fun r9 => (bif (decide (r9.1 < (0 : Int))) then some false else (laws_eqRouteS.f k r5 r3).bind fun r10 => (bif (!r10) then some false else (laws_markRouteS.f k r5 (1 : Int)).bind fun r11 => (laws_heldRouteS.f k r11.2 (1 : Int)).bind fun r12 => (bif (decide (r12 < (0 : Int))) then some false else (bif (r12 != r11.1) then some false else (laws_toRouteS.f k a0).bind fun r13 => (impl_DropTo.f k r13 a1).bind fun r14 => (laws_eqRouteS.f k r14 r3).bind fun r15 => (bif (!r15) then some false else (laws_heldRouteS.f k r11.2 (1 : Int)).bind fun r16 => (bif (decide (r16 < (0 : Int))) then some false else (bif (r16 != r11.1) then some false else some true))))))))))
def laws_FnExactDropTo.K : Ctr := ⟨laws_FnExactDropTo.ps, laws_FnExactDropTo.rs, false, (.two (.sl 81 (.two (.int .i64) (.two (.int .i64) (.int .i64)))) (.int .i64)), .bool, fun k x => laws_FnExactDropTo.f k x.1 x.2⟩
theorem laws_FnExactDropTo.eq (k : Nat) (x : (laws_FnExactDropTo.K.I).den) : func laws_FnExactDropTo.x laws_FnExactDropTo.h laws_FnExactDropTo.ps laws_FnExactDropTo.rs laws_FnExactDropTo.vs laws_FnExactDropTo.K.I laws_FnExactDropTo.K.O laws_FnExactDropTo.c k x = laws_FnExactDropTo.K.run k x := by
  show _ = laws_FnExactDropTo.f k x.1 x.2
  kernel_rfl
theorem laws_FnExactDropTo.ok : CtrOk Try.prog 3 laws_FnExactDropTo.K :=
  CtrOk.of (fn := Try.f3) (cd := laws_FnExactDropTo.c) (cx := laws_FnExactDropTo.x) (hs := laws_FnExactDropTo.h) (by kernel_rfl) (by kernel_rfl) (by kernel_rfl) (by kernel_rfl) tt_ok (envOk_cons laws_szRouteS.ok (envOk_cons laws_toRouteS.ok (envOk_cons spec_DropTo.ok (envOk_cons impl_DropTo.ok (envOk_cons laws_eqRouteS.ok (envOk_cons laws_markRouteS.ok (envOk_cons laws_heldRouteS.ok (envOk_nil)))))))) (by kernel_rfl) (by kernel_rfl) (by kernel_rfl) (by kernel_rfl) fun k x r h => (laws_FnExactDropTo.eq k x).trans h
end Go.Proofs.Ytbddppnhpapfkaa.DI
