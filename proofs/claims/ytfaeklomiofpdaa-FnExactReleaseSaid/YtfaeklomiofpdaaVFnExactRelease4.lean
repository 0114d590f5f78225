/- FnExactRelease: functions as plain Lean, in the machine of values. -/
import Derived.Test.YtfaeklomiofpdaaVFnExactRelease3
namespace Go.Proofs.Ytfaeklomiofpdaa.DI
open Go
set_option linter.unusedVariables false
/-! laws.heldLeaseS -/
noncomputable def laws_heldLeaseS.c : Code := bodyOf Try.f85
def laws_heldLeaseS.h : Nat → Hint := look ⟨[], [], []⟩ [(0, ⟨[0, 1, 5], [], []⟩)]
def laws_heldLeaseS.ps : List PK := [.one, .one]
def laws_heldLeaseS.rs : List RK := [.one true]
def laws_heldLeaseS.vs : List ResultVar := [.tmp 4]
def laws_heldLeaseS.x : Cx := ⟨tt, look none []⟩
def laws_heldLeaseS.s0 (_k : Nat) (rec0 : (Int × Int × (List (Int × Int × Int))) → Option (Int)) (p : (Int × Int × (List (Int × Int × Int)))) : Option (Int) :=
  (bif (decide (p.2.1 < (p.2.2.length : Int))) then (bif ((decide ((0 : Int) ≤ p.2.1)) && (decide (p.2.1 < (p.2.2.length : Int)))) then (p.2.2[p.2.1.toNat]?).bind fun x1 => (bif (x1.1 != p.1) then some (-1 : Int) else (bif ((decide ((0 : Int) ≤ p.2.1)) && (decide (p.2.1 < (p.2.2.length : Int)))) then (p.2.2[p.2.1.toNat]?).bind fun x2 => (bif (x2.2.1 != (IntKind.i64.wrap (p.1 + (1 : Int)))) then some (-1 : Int) else (bif ((decide ((0 : Int) ≤ p.2.1)) && (decide (p.2.1 < (p.2.2.length : Int)))) then (p.2.2[p.2.1.toNat]?).bind fun x3 => (bif (x3.2.2 != (IntKind.i64.wrap ((IntKind.i64.wrap (p.1 + (1 : Int))) + (1 : Int)))) then some (-1 : Int) else rec0 ((IntKind.i64.wrap ((IntKind.i64.wrap ((IntKind.i64.wrap (p.1 + (1 : Int))) + (1 : Int))) + (1 : Int))), (IntKind.i64.wrap (p.2.1 + (1 : Int))), p.2.2)) else none)) else none)) else none) else some p.1)
def laws_heldLeaseS.l0 (k : Nat) : Nat → (Int × Int × (List (Int × Int × Int))) → Option (Int)
  | 0 => fun _ => none
  | j + 1 => laws_heldLeaseS.s0 k (laws_heldLeaseS.l0 k j)
def laws_heldLeaseS.S0 (p : (Int × Int × (List (Int × Int × Int)))) : DS := ⟨tl [(0, .at (.whole 0)), (1, .at (.int .i64 p.1)), (5, .at (.int .i64 p.2.1))], lookO [(0, .row 63 (.two (.int .i64) (.two (.int .i64) (.int .i64))) false p.2.2)]⟩
noncomputable def laws_heldLeaseS.D0 (k : Nat) (j : Nat) (p : (Int × Int × (List (Int × Int × Int)))) : Option (Int) := loopK (norm [0] (laws_heldLeaseS.h 0)) (runK laws_heldLeaseS.x k 0 [0] laws_heldLeaseS.h 0 (sub laws_heldLeaseS.c [1, 0, 1, 0, 0])) j (laws_heldLeaseS.S0 p) (kBlk 0 (kSeq (runK laws_heldLeaseS.x k 0 [0] laws_heldLeaseS.h 0 (sub laws_heldLeaseS.c [1, 1])) (fin tt laws_heldLeaseS.ps laws_heldLeaseS.rs laws_heldLeaseS.vs (.int .i64))))
theorem laws_heldLeaseS.D0_eq (k : Nat) : ∀ j, laws_heldLeaseS.D0 k j = laws_heldLeaseS.l0 k j := by
  intro j
  induction j with
  | zero => rfl
  | succ j ih =>
    show _ = laws_heldLeaseS.s0 k (laws_heldLeaseS.l0 k j)
    rw [← ih]
    funext p
    kernel_rfl
def laws_heldLeaseS.f (k : Nat) (a0 : List (Int × Int × Int)) (a1 : Int) : Option (Int) :=
  laws_heldLeaseS.l0 k k (a1, (0 : Int), a0)
def laws_heldLeaseS.K : Ctr := ⟨laws_heldLeaseS.ps, laws_heldLeaseS.rs, false, (.two (.sl 63 (.two (.int .i64) (.two (.int .i64) (.int .i64)))) (.int .i64)), (.int .i64), fun k x => laws_heldLeaseS.f k x.1 x.2⟩
theorem laws_heldLeaseS.eq (k : Nat) (x : (laws_heldLeaseS.K.I).den) : func laws_heldLeaseS.x laws_heldLeaseS.h laws_heldLeaseS.ps laws_heldLeaseS.rs laws_heldLeaseS.vs laws_heldLeaseS.K.I laws_heldLeaseS.K.O laws_heldLeaseS.c k x = laws_heldLeaseS.K.run k x := by
  show _ = laws_heldLeaseS.f k x.1 x.2
  unfold laws_heldLeaseS.f
  rw [← laws_heldLeaseS.D0_eq k k]
  kernel_rfl
theorem laws_heldLeaseS.ok : CtrOk Try.prog 85 laws_heldLeaseS.K :=
  CtrOk.of (fn := Try.f85) (cd := laws_heldLeaseS.c) (cx := laws_heldLeaseS.x) (hs := laws_heldLeaseS.h) (by kernel_rfl) (by kernel_rfl) (by kernel_rfl) (by kernel_rfl) tt_ok (envOk_nil) (by kernel_rfl) (by kernel_rfl) (by kernel_rfl) (by kernel_rfl) fun k x r h => (laws_heldLeaseS.eq k x).trans h
/-! laws.heldFixedS -/
noncomputable def laws_heldFixedS.c : Code := bodyOf Try.f86
def laws_heldFixedS.h : Nat → Hint := look ⟨[], [], []⟩ [(0, ⟨[0, 1, 5], [], []⟩)]
def laws_heldFixedS.ps : List PK := [.one, .one]
def laws_heldFixedS.rs : List RK := [.one true]
def laws_heldFixedS.vs : List ResultVar := [.tmp 4]
def laws_heldFixedS.x : Cx := ⟨tt, look none []⟩
def laws_heldFixedS.s0 (_k : Nat) (rec0 : (Int × Int × (List (Int × Int))) → Option (Int)) (p : (Int × Int × (List (Int × Int)))) : Option (Int) :=
  (bif (decide (p.2.1 < (p.2.2.length : Int))) then (bif ((decide ((0 : Int) ≤ p.2.1)) && (decide (p.2.1 < (p.2.2.length : Int)))) then (p.2.2[p.2.1.toNat]?).bind fun x1 => (bif (x1.1 != p.1) then some (-1 : Int) else (bif ((decide ((0 : Int) ≤ p.2.1)) && (decide (p.2.1 < (p.2.2.length : Int)))) then (p.2.2[p.2.1.toNat]?).bind fun x2 => (bif (x2.2 != (IntKind.i64.wrap (p.1 + (1 : Int)))) then some (-1 : Int) else rec0 ((IntKind.i64.wrap ((IntKind.i64.wrap (p.1 + (1 : Int))) + (1 : Int))), (IntKind.i64.wrap (p.2.1 + (1 : Int))), p.2.2)) else none)) else none) else some p.1)
def laws_heldFixedS.l0 (k : Nat) : Nat → (Int × Int × (List (Int × Int))) → Option (Int)
  | 0 => fun _ => none
  | j + 1 => laws_heldFixedS.s0 k (laws_heldFixedS.l0 k j)
def laws_heldFixedS.S0 (p : (Int × Int × (List (Int × Int)))) : DS := ⟨tl [(0, .at (.whole 0)), (1, .at (.int .i64 p.1)), (5, .at (.int .i64 p.2.1))], lookO [(0, .row 150 (.two (.int .i64) (.int .i64)) false p.2.2)]⟩
noncomputable def laws_heldFixedS.D0 (k : Nat) (j : Nat) (p : (Int × Int × (List (Int × Int)))) : Option (Int) := loopK (norm [0] (laws_heldFixedS.h 0)) (runK laws_heldFixedS.x k 0 [0] laws_heldFixedS.h 0 (sub laws_heldFixedS.c [1, 0, 1, 0, 0])) j (laws_heldFixedS.S0 p) (kBlk 0 (kSeq (runK laws_heldFixedS.x k 0 [0] laws_heldFixedS.h 0 (sub laws_heldFixedS.c [1, 1])) (fin tt laws_heldFixedS.ps laws_heldFixedS.rs laws_heldFixedS.vs (.int .i64))))
theorem laws_heldFixedS.D0_eq (k : Nat) : ∀ j, laws_heldFixedS.D0 k j = laws_heldFixedS.l0 k j := by
  intro j
  induction j with
  | zero => rfl
  | succ j ih =>
    show _ = laws_heldFixedS.s0 k (laws_heldFixedS.l0 k j)
    rw [← ih]
    funext p
    kernel_rfl
def laws_heldFixedS.f (k : Nat) (a0 : List (Int × Int)) (a1 : Int) : Option (Int) :=
  laws_heldFixedS.l0 k k (a1, (0 : Int), a0)
def laws_heldFixedS.K : Ctr := ⟨laws_heldFixedS.ps, laws_heldFixedS.rs, false, (.two (.sl 150 (.two (.int .i64) (.int .i64))) (.int .i64)), (.int .i64), fun k x => laws_heldFixedS.f k x.1 x.2⟩
theorem laws_heldFixedS.eq (k : Nat) (x : (laws_heldFixedS.K.I).den) : func laws_heldFixedS.x laws_heldFixedS.h laws_heldFixedS.ps laws_heldFixedS.rs laws_heldFixedS.vs laws_heldFixedS.K.I laws_heldFixedS.K.O laws_heldFixedS.c k x = laws_heldFixedS.K.run k x := by
  show _ = laws_heldFixedS.f k x.1 x.2
  unfold laws_heldFixedS.f
  rw [← laws_heldFixedS.D0_eq k k]
  kernel_rfl
theorem laws_heldFixedS.ok : CtrOk Try.prog 86 laws_heldFixedS.K :=
  CtrOk.of (fn := Try.f86) (cd := laws_heldFixedS.c) (cx := laws_heldFixedS.x) (hs := laws_heldFixedS.h) (by kernel_rfl) (by kernel_rfl) (by kernel_rfl) (by kernel_rfl) tt_ok (envOk_nil) (by kernel_rfl) (by kernel_rfl) (by kernel_rfl) (by kernel_rfl) fun k x r h => (laws_heldFixedS.eq k x).trans h
/-! laws.heldPool -/
noncomputable def laws_heldPool.c : Code := bodyOf Try.f30
def laws_heldPool.h : Nat → Hint := look ⟨[], [], []⟩ []
def laws_heldPool.ps : List PK := [.agg 4, .one]
def laws_heldPool.rs : List RK := [.one true]
def laws_heldPool.vs : List ResultVar := [.tmp 4]
def laws_heldPool.x : Cx := ⟨tt, look none [(85, some laws_heldLeaseS.K), (86, some laws_heldFixedS.K)]⟩
def laws_heldPool.f (k : Nat) (_a0_0 : Int) (_a0_1 : Int) (a0_2 : List (Int × Int × Int)) (a0_3 : List (Int × Int)) (a1 : Int) : Option (Int) :=
  (laws_heldLeaseS.f k a0_2 a1).bind fun r1 => (bif (decide (r1 < (0 : Int))) then some (-1 : Int) else (laws_heldFixedS.f k a0_3 r1).bind fun r2 => (bif (decide (r2 < (0 : Int))) then some (-1 : Int) else some r2))
def laws_heldPool.K : Ctr := ⟨laws_heldPool.ps, laws_heldPool.rs, false, (.two (.int .i64) (.two (.int .i64) (.two (.sl 63 (.two (.int .i64) (.two (.int .i64) (.int .i64)))) (.two (.sl 150 (.two (.int .i64) (.int .i64))) (.int .i64))))), (.int .i64), fun k x => laws_heldPool.f k x.1 x.2.1 x.2.2.1 x.2.2.2.1 x.2.2.2.2⟩
theorem laws_heldPool.eq (k : Nat) (x : (laws_heldPool.K.I).den) : func laws_heldPool.x laws_heldPool.h laws_heldPool.ps laws_heldPool.rs laws_heldPool.vs laws_heldPool.K.I laws_heldPool.K.O laws_heldPool.c k x = laws_heldPool.K.run k x := by
  show _ = laws_heldPool.f k x.1 x.2.1 x.2.2.1 x.2.2.2.1 x.2.2.2.2
  kernel_rfl
theorem laws_heldPool.ok : CtrOk Try.prog 30 laws_heldPool.K :=
  CtrOk.of (fn := Try.f30) (cd := laws_heldPool.c) (cx := laws_heldPool.x) (hs := laws_heldPool.h) (by kernel_rfl) (by kernel_rfl) (by kernel_rfl) (by kernel_rfl) tt_ok (envOk_cons laws_heldLeaseS.ok (envOk_cons laws_heldFixedS.ok (envOk_nil))) (by kernel_rfl) (by kernel_rfl) (by kernel_rfl) (by kernel_rfl) fun k x r h => (laws_heldPool.eq k x).trans h
/-! laws.FnExactRelease -/
noncomputable def laws_FnExactRelease.c : Code := bodyOf Try.f6
def laws_FnExactRelease.h : Nat → Hint := look ⟨[], [], []⟩ []
def laws_FnExactRelease.ps : List PK := [.agg 4, .one]
def laws_FnExactRelease.rs : List RK := [.one true]
def laws_FnExactRelease.vs : List ResultVar := [.tmp 4]
def laws_FnExactRelease.x : Cx := ⟨tt, look none [(22, some laws_szPool.K), (24, some laws_toPool.K), (38, some spec_Release.K), (39, some impl_Release.K), (26, some laws_eqPool.K), (28, some laws_markPool.K), (30, some laws_heldPool.K)]⟩
def laws_FnExactRelease.f (k : Nat) (a0_0 : Int) (a0_1 : Int) (a0_2 : List (Int × Int × Int)) (a0_3 : List (Int × Int)) (a1 : Int) : Option (Bool) :=
  (laws_szPool.f k a0_0 a0_1 a0_2 a0_3 (1048576 : Int)).bind fun r1 => (bif (decide (r1 < (0 : Int))) then some true else (laws_toPool.f k a0_0 a0_1 a0_2 a0_3).bind fun r2 => (spec_Release.f k r2.1 r2.2.1 r2.2.2.1 r2.2.2.2 a1).bind fun r3 => (laws_toPool.f k a0_0 a0_1 a0_2 a0_3).bind fun r4 => (impl_Release.f k r4.1 r4.2.1 r4.2.2.1 r4.2.2.2 a1).bind fun r5 => (laws_eqPool.f k r5.1 r5.2.1 r5.2.2.1 r5.2.2.2.1 r3.1 r3.2.1 r3.2.2.1 r3.2.2.2.1).bind fun r6 => (bif (!r6) then some false else (bif (!(r5.2.2.2.2 == r3.2.2.2.2)) then some false else (laws_toPool.f k a0_0 a0_1 a0_2 a0_3).bind fun r7 => (laws_eqPool.f k r4.1 r4.2.1 r4.2.2.1 r4.2.2.2 r7.1 r7.2.1 r7.2.2.1 r7.2.2.2).bind fun r8 => (bif (!r8) then some false else (laws_markPool.f k r4.1 r4.2.1 r4.2.2.1 r4.2.2.2 (1 : Int)).bind fun r9 => (bif (decide (r9.1 < (0 : Int))) then some false else (laws_eqPool.f k r5.1 r5.2.1 r5.2.2.1 r5.2.2.2.1 r3.1 r3.2.1 r3.2.2.1 r3.2.2.2.1).bind fun r10 => (bif (!r10) then some false else (bif (!(r5.2.2.2.2 == r3.2.2.2.2)) then some false else (laws_markPool.f k r5.1 r5.2.1 r5.2.2.1 r5.2.2.2.1 (1 : Int)).bind fun r11 => (laws_heldPool.f k r5.1 r5.2.1 r11.2.1 r11.2.2 (1 : Int)).bind fun r12 => (bif (decide (r12 < (0 : Int))) then some false else (bif (r12 != r11.1) then some false else (laws_toPool.f k a0_0 a0_1 a0_2 a0_3).bind fun r13 => (impl_Release.f k r13.1 r13.2.1 r13.2.2.1 r13.2.2.2 a1).bind fun r14 => (laws_eqPool.f k r14.1 r14.2.1 r14.2.2.1 r14.2.2.2.1 r3.1 r3.2.1 r3.2.2.1 r3.2.2.2.1).bind fun r15 => (bif (!r15) then some false else (bif (!(r14.2.2.2.2 == r3.2.2.2.2)) then some false else (laws_heldPool.f k r5.1 r5.2.1 r11.2.1 r11.2.2 (1 : Int)).bind fun r16 => (bif (decide (r16 < (0 : Int))) then some false else (bif (r16 != r11.1) then some false else some true)))))))))))))
def laws_FnExactRelease.K : Ctr := ⟨laws_FnExactRelease.ps, laws_FnExactRelease.rs, false, (.two (.int .i64) (.two (.int .i64) (.two (.sl 148 (.two (.int .i64) (.two (.int .i64) (.int .i64)))) (.two (.sl 152 (.two (.int .i64) (.int .i64))) (.int .i64))))), .bool, fun k x => laws_FnExactRelease.f k x.1 x.2.1 x.2.2.1 x.2.2.2.1 x.2.2.2.2⟩
theorem laws_FnExactRelease.eq (k : Nat) (x : (laws_FnExactRelease.K.I).den) : func laws_FnExactRelease.x laws_FnExactRelease.h laws_FnExactRelease.ps laws_FnExactRelease.rs laws_FnExactRelease.vs laws_FnExactRelease.K.I laws_FnExactRelease.K.O laws_FnExactRelease.c k x = laws_FnExactRelease.K.run k x := by
  show _ = laws_FnExactRelease.f k x.1 x.2.1 x.2.2.1 x.2.2.2.1 x.2.2.2.2
  kernel_rfl
theorem laws_FnExactRelease.ok : CtrOk Try.prog 6 laws_FnExactRelease.K :=
  CtrOk.of (fn := Try.f6) (cd := laws_FnExactRelease.c) (cx := laws_FnExactRelease.x) (hs := laws_FnExactRelease.h) (by kernel_rfl) (by kernel_rfl) (by kernel_rfl) (by kernel_rfl) tt_ok (envOk_cons laws_szPool.ok (envOk_cons laws_toPool.ok (envOk_cons spec_Release.ok (envOk_cons impl_Release.ok (envOk_cons laws_eqPool.ok (envOk_cons laws_markPool.ok (envOk_cons laws_heldPool.ok (envOk_nil)))))))) (by kernel_rfl) (by kernel_rfl) (by kernel_rfl) (by kernel_rfl) fun k x r h => (laws_FnExactRelease.eq k x).trans h
end Go.Proofs.Ytfaeklomiofpdaa.DI
