/- FnExactSend: functions as plain Lean, in the machine of values. -/
import Derived.Test.YtpheniajdbbphaaVFnExactSend6
namespace Go.Proofs.Ytpheniajdbbphaa.DI
open Go
set_option linter.unusedVariables false
/-! laws.markPacketS -/
noncomputable def laws_markPacketS.c : Code := bodyOf Try.f30
def laws_markPacketS.h : Nat → Hint := look ⟨[], [], []⟩ [(0, ⟨[0, 1, 5], [], []⟩)]
def laws_markPacketS.ps : List PK := [.row, .one]
def laws_markPacketS.rs : List RK := [.one true]
def laws_markPacketS.vs : List ResultVar := [.tmp 4]
def laws_markPacketS.x : Cx := ⟨tt, look none [(60, some laws_markIntS.K), (80, some laws_markText.K)]⟩
def laws_markPacketS.s0 (k : Nat) (rec0 : (Int × Int × (List (Int × Int × Int × Int × Int × (List (Int)) × ByteArray))) → Option (Int × (List (Int × Int × Int × Int × Int × (List (Int)) × ByteArray)))) (p : (Int × Int × (List (Int × Int × Int × Int × Int × (List (Int)) × ByteArray)))) : Option (Int × (List (Int × Int × Int × Int × Int × (List (Int)) × ByteArray))) :=
  (bif (decide (p.2.1 < (p.2.2.length : Int))) then (bif ((decide ((0 : Int) ≤ p.2.1)) && (decide (p.2.1 < (p.2.2.length : Int)))) then (p.2.2[p.2.1.toNat]?).bind fun x1 => (bif ((decide ((0 : Int) ≤ p.2.1)) && (decide (p.2.1 < ((p.2.2.set p.2.1.toNat (p.1, x1.2)).length : Int)))) then ((p.2.2.set p.2.1.toNat (p.1, x1.2))[p.2.1.toNat]?).bind fun x2 => (bif ((decide ((0 : Int) ≤ p.2.1)) && (decide (p.2.1 < (((p.2.2.set p.2.1.toNat (p.1, x1.2)).set p.2.1.toNat (x2.1, (IntKind.i64.wrap (p.1 + (1 : Int))), x2.2.2)).length : Int)))) then (((p.2.2.set p.2.1.toNat (p.1, x1.2)).set p.2.1.toNat (x2.1, (IntKind.i64.wrap (p.1 + (1 : Int))), x2.2.2))[p.2.1.toNat]?).bind fun x3 => (bif ((decide ((0 : Int) ≤ p.2.1)) && (decide (p.2.1 < ((((p.2.2.set p.2.1.toNat (p.1, x1.2)).set p.2.1.toNat (x2.1, (IntKind.i64.wrap (p.1 + (1 : Int))), x2.2.2)).set p.2.1.toNat (x3.1, x3.2.1, (IntKind.i64.wrap ((IntKind.i64.wrap (p.1 + (1 : Int))) + (1 : Int))), x3.2.2.2)).length : Int)))) then ((((p.2.2.set p.2.1.toNat (p.1, x1.2)).set p.2.1.toNat (x2.1, (IntKind.i64.wrap (p.1 + (1 : Int))), x2.2.2)).set p.2.1.toNat (x3.1, x3.2.1, (IntKind.i64.wrap ((IntKind.i64.wrap (p.1 + (1 : Int))) + (1 : Int))), x3.2.2.2))[p.2.1.toNat]?).bind fun x4 => (bif ((decide ((0 : Int) ≤ p.2.1)) && (decide (p.2.1 < (((((p.2.2.set p.2.1.toNat (p.1, x1.2)).set p.2.1.toNat (x2.1, (IntKind.i64.wrap (p.1 + (1 : Int))), x2.2.2)).set p.2.1.toNat (x3.1, x3.2.1, (IntKind.i64.wrap ((IntKind.i64.wrap (p.1 + (1 : Int))) + (1 : Int))), x3.2.2.2)).set p.2.1.toNat (x4.1, x4.2.1, x4.2.2.1, (IntKind.i64.wrap ((IntKind.i64.wrap ((IntKind.i64.wrap (p.1 + (1 : Int))) + (1 : Int))) + (1 : Int))), x4.2.2.2.2)).length : Int)))) then (((((p.2.2.set p.2.1.toNat (p.1, x1.2)).set p.2.1.toNat (x2.1, (IntKind.i64.wrap (p.1 + (1 : Int))), x2.2.2)).set p.2.1.toNat (x3.1, x3.2.1, (IntKind.i64.wrap ((IntKind.i64.wrap (p.1 + (1 : Int))) + (1 : Int))), x3.2.2.2)).set p.2.1.toNat (x4.1, x4.2.1, x4.2.2.1, (IntKind.i64.wrap ((IntKind.i64.wrap ((IntKind.i64.wrap (p.1 + (1 : Int))) + (1 : Int))) + (1 : Int))), x4.2.2.2.2))[p.2.1.toNat]?).bind fun x5 => (bif ((decide ((0 : Int) ≤ p.2.1)) && (decide (p.2.1 < ((((((p.2.2.set p.2.1.toNat (p.1, x1.2)).set p.2.1.toNat (x2.1, (IntKind.i64.wrap (p.1 + (1 : Int))), x2.2.2)).set p.2.1.toNat (x3.1, x3.2.1, (IntKind.i64.wrap ((IntKind.i64.wrap (p.1 + (1 : Int))) + (1 : Int))), x3.2.2.2)).set p.2.1.toNat (x4.1, x4.2.1, x4.2.2.1, (IntKind.i64.wrap ((IntKind.i64.wrap ((IntKind.i64.wrap (p.1 + (1 : Int))) + (1 : Int))) + (1 : Int))), x4.2.2.2.2)).set p.2.1.toNat (x5.1, x5.2.1, x5.2.2.1, x5.2.2.2.1, (IntKind.i64.wrap ((IntKind.i64.wrap ((IntKind.i64.wrap ((IntKind.i64.wrap (p.1 + (1 : Int))) + (1 : Int))) + (1 : Int))) + (1 : Int))), x5.2.2.2.2.2)).length : Int)))) then ((((((p.2.2.set p.2.1.toNat (p.1, x1.2)).set p.2.1.toNat (x2.1, (IntKind.i64.wrap (p.1 + (1 : Int))), x2.2.2)).set p.2.1.toNat (x3.1, x3.2.1, (IntKind.i64.wrap ((IntKind.i64.wrap (p.1 + (1 : Int))) + (1 : Int))), x3.2.2.2)).set p.2.1.toNat (x4.1, x4.2.1, x4.2.2.1, (IntKind.i64.wrap ((IntKind.i64.wrap ((IntKind.i64.wrap (p.1 + (1 : Int))) + (1 : Int))) + (1 : Int))), x4.2.2.2.2)).set p.2.1.toNat (x5.1, x5.2.1, x5.2.2.1, x5.2.2.2.1, (IntKind.i64.wrap ((IntKind.i64.wrap ((IntKind.i64.wrap ((IntKind.i64.wrap (p.1 + (1 : Int))) + (1 : Int))) + (1 : Int))) + (1 : Int))), x5.2.2.2.2.2))[p.2.1.toNat]?).bind fun x6 => (laws_markIntS.f k x6.2.2.2.2.2.1 (IntKind.i64.wrap ((IntKind.i64.wrap ((IntKind.i64.wrap ((IntKind.i64.wrap ((IntKind.i64.wrap (p.1 + (1 : Int))) + (1 : Int))) + (1 : Int))) + (1 : Int))) + (1 : Int)))).bind fun r7 => (laws_markText.f k r7.1).bind fun r8 => (bif ((decide ((0 : Int) ≤ p.2.1)) && (decide (p.2.1 < (((((((p.2.2.set p.2.1.toNat (p.1, x1.2)).set p.2.1.toNat (x2.1, (IntKind.i64.wrap (p.1 + (1 : Int))), x2.2.2)).set p.2.1.toNat (x3.1, x3.2.1, (IntKind.i64.wrap ((IntKind.i64.wrap (p.1 + (1 : Int))) + (1 : Int))), x3.2.2.2)).set p.2.1.toNat (x4.1, x4.2.1, x4.2.2.1, (IntKind.i64.wrap ((IntKind.i64.wrap ((IntKind.i64.wrap (p.1 + (1 : Int))) + (1 : Int))) + (1 : Int))), x4.2.2.2.2)).set p.2.1.toNat (x5.1, x5.2.1, x5.2.2.1, x5.2.2.2.1, (IntKind.i64.wrap ((IntKind.i64.wrap ((IntKind.i64.wrap ((IntKind.i64.wrap (p.1 + (1 : Int))) + (1 : Int))) + (1 : Int))) + (1 : Int))), x5.2.2.2.2.2)).set p.2.1.toNat (x6.1, x6.2.1, x6.2.2.1, x6.2.2.2.1, x6.2.2.2.2.1, ([] : List (Int)), x6.2.2.2.2.2.2)).length : Int)))) then (((((((p.2.2.set p.2.1.toNat (p.1, x1.2)).set p.2.1.toNat (x2.1, (IntKind.i64.wrap (p.1 + (1 : Int))), x2.2.2)).set p.2.1.toNat (x3.1, x3.2.1, (IntKind.i64.wrap ((IntKind.i64.wrap (p.1 + (1 : Int))) + (1 : Int))), x3.2.2.2)).set p.2.1.toNat (x4.1, x4.2.1, x4.2.2.1, (IntKind.i64.wrap ((IntKind.i64.wrap ((IntKind.i64.wrap (p.1 + (1 : Int))) + (1 : Int))) + (1 : Int))), x4.2.2.2.2)).set p.2.1.toNat (x5.1, x5.2.1, x5.2.2.1, x5.2.2.2.1, (IntKind.i64.wrap ((IntKind.i64.wrap ((IntKind.i64.wrap ((IntKind.i64.wrap (p.1 + (1 : Int))) + (1 : Int))) + (1 : Int))) + (1 : Int))), x5.2.2.2.2.2)).set p.2.1.toNat (x6.1, x6.2.1, x6.2.2.1, x6.2.2.2.1, x6.2.2.2.2.1, ([] : List (Int)), x6.2.2.2.2.2.2))[p.2.1.toNat]?).bind fun y9 => ((((((((p.2.2.set p.2.1.toNat (p.1, x1.2)).set p.2.1.toNat (x2.1, (IntKind.i64.wrap (p.1 + (1 : Int))), x2.2.2)).set p.2.1.toNat (x3.1, x3.2.1, (IntKind.i64.wrap ((IntKind.i64.wrap (p.1 + (1 : Int))) + (1 : Int))), x3.2.2.2)).set p.2.1.toNat (x4.1, x4.2.1, x4.2.2.1, (IntKind.i64.wrap ((IntKind.i64.wrap ((IntKind.i64.wrap (p.1 + (1 : Int))) + (1 : Int))) + (1 : Int))), x4.2.2.2.2)).set p.2.1.toNat (x5.1, x5.2.1, x5.2.2.1, x5.2.2.2.1, (IntKind.i64.wrap ((IntKind.i64.wrap ((IntKind.i64.wrap ((IntKind.i64.wrap (p.1 + (1 : Int))) + (1 : Int))) + (1 : Int))) + (1 : Int))), x5.2.2.2.2.2)).set p.2.1.toNat (x6.1, x6.2.1, x6.2.2.1, x6.2.2.2.1, x6.2.2.2.2.1, ([] : List (Int)), x6.2.2.2.2.2.2)).set p.2.1.toNat (y9.1, y9.2.1, y9.2.2.1, y9.2.2.2.1, y9.2.2.2.2.1, r7.2, y9.2.2.2.2.2.2))[p.2.1.toNat]?).bind fun x10 => rec0 ((IntKind.i64.wrap (r7.1 + (1 : Int))), (IntKind.i64.wrap (p.2.1 + (1 : Int))), ((((((((p.2.2.set p.2.1.toNat (p.1, x1.2)).set p.2.1.toNat (x2.1, (IntKind.i64.wrap (p.1 + (1 : Int))), x2.2.2)).set p.2.1.toNat (x3.1, x3.2.1, (IntKind.i64.wrap ((IntKind.i64.wrap (p.1 + (1 : Int))) + (1 : Int))), x3.2.2.2)).set p.2.1.toNat (x4.1, x4.2.1, x4.2.2.1, (IntKind.i64.wrap ((IntKind.i64.wrap ((IntKind.i64.wrap (p.1 + (1 : Int))) + (1 : Int))) + (1 : Int))), x4.2.2.2.2)).set p.2.1.toNat (x5.1, x5.2.1, x5.2.2.1, x5.2.2.2.1, (IntKind.i64.wrap ((IntKind.i64.wrap ((IntKind.i64.wrap ((IntKind.i64.wrap (p.1 + (1 : Int))) + (1 : Int))) + (1 : Int))) + (1 : Int))), x5.2.2.2.2.2)).set p.2.1.toNat (x6.1, x6.2.1, x6.2.2.1, x6.2.2.2.1, x6.2.2.2.2.1, ([] : List (Int)), x6.2.2.2.2.2.2)).set p.2.1.toNat (y9.1, y9.2.1, y9.2.2.1, y9.2.2.2.1, y9.2.2.2.2.1, r7.2, y9.2.2.2.2.2.2)).set p.2.1.toNat (x10.1, x10.2.1, x10.2.2.1, x10.2.2.2.1, x10.2.2.2.2.1, x10.2.2.2.2.2.1, r8))) else none) else none) else none) else none) else none) else none) else none) else some (p.1, p.2.2))
def laws_markPacketS.l0 (k : Nat) : Nat → (Int × Int × (List (Int × Int × Int × Int × Int × (List (Int)) × ByteArray))) → Option (Int × (List (Int × Int × Int × Int × Int × (List (Int)) × ByteArray)))
  | 0 => fun _ => none
  | j + 1 => laws_markPacketS.s0 k (laws_markPacketS.l0 k j)
def laws_markPacketS.S0 (p : (Int × Int × (List (Int × Int × Int × Int × Int × (List (Int)) × ByteArray)))) : DS := ⟨tl [(0, .at (.whole 0)), (1, .at (.int .i64 p.1)), (5, .at (.int .i64 p.2.1))], lookO [(0, .deep 28 (.two (.int .i64) (.two (.int .i64) (.two (.int .i64) (.two (.int .i64) (.two (.int .i64) (.two (.sl 3 (.int .i64)) .str)))))) p.2.2 none)]⟩
noncomputable def laws_markPacketS.D0 (k : Nat) (j : Nat) (p : (Int × Int × (List (Int × Int × Int × Int × Int × (List (Int)) × ByteArray)))) : Option (Int × (List (Int × Int × Int × Int × Int × (List (Int)) × ByteArray))) := loopK (normK [0] (laws_markPacketS.h 0)) (runK laws_markPacketS.x k 0 [0] laws_markPacketS.h 0 (sub laws_markPacketS.c [1, 0, 1, 0, 0])) j (laws_markPacketS.S0 p) (kBlk 0 (kSeq (runK laws_markPacketS.x k 0 [0] laws_markPacketS.h 0 (sub laws_markPacketS.c [1, 1])) (fin tt laws_markPacketS.ps laws_markPacketS.rs laws_markPacketS.vs (.two (.int .i64) (.sl 28 (.two (.int .i64) (.two (.int .i64) (.two (.int .i64) (.two (.int .i64) (.two (.int .i64) (.two (.sl 3 (.int .i64)) .str)))))))))))
theorem laws_markPacketS.D0_eq (k : Nat) : ∀ j, laws_markPacketS.D0 k j = laws_markPacketS.l0 k j := by
  intro j
  induction j with
  | zero => rfl
  | succ j ih =>
    show _ = laws_markPacketS.s0 k (laws_markPacketS.l0 k j)
    rw [← ih]
    funext p
    kernel_rfl
def laws_markPacketS.f (k : Nat) (a0 : List (Int × Int × Int × Int × Int × (List (Int)) × ByteArray)) (a1 : Int) : Option (Int × (List (Int × Int × Int × Int × Int × (List (Int)) × ByteArray))) :=
  laws_markPacketS.l0 k k (a1, (0 : Int), a0)
def laws_markPacketS.K : Ctr := ⟨laws_markPacketS.ps, laws_markPacketS.rs, false, (.two (.sl 28 (.two (.int .i64) (.two (.int .i64) (.two (.int .i64) (.two (.int .i64) (.two (.int .i64) (.two (.sl 3 (.int .i64)) .str))))))) (.int .i64)), (.two (.int .i64) (.sl 28 (.two (.int .i64) (.two (.int .i64) (.two (.int .i64) (.two (.int .i64) (.two (.int .i64) (.two (.sl 3 (.int .i64)) .str)))))))), fun k x => laws_markPacketS.f k x.1 x.2⟩
theorem laws_markPacketS.eq (k : Nat) (x : (laws_markPacketS.K.I).den) : func laws_markPacketS.x laws_markPacketS.h laws_markPacketS.ps laws_markPacketS.rs laws_markPacketS.vs laws_markPacketS.K.I laws_markPacketS.K.O laws_markPacketS.c k x = laws_markPacketS.K.run k x := by
  show _ = laws_markPacketS.f k x.1 x.2
  unfold laws_markPacketS.f
  rw [← laws_markPacketS.D0_eq k k]
  kernel_rfl
theorem laws_markPacketS.ok : CtrOk Try.prog 30 laws_markPacketS.K :=
  CtrOk.of (fn := Try.f30) (cd := laws_markPacketS.c) (cx := laws_markPacketS.x) (hs := laws_markPacketS.h) (by kernel_rfl) (by kernel_rfl) (by kernel_rfl) (by kernel_rfl) tt_ok (envOk_cons laws_markIntS.ok (envOk_cons laws_markText.ok (envOk_nil))) (by kernel_rfl) (by kernel_rfl) (by kernel_rfl) (by kernel_rfl) fun k x r h => (laws_markPacketS.eq k x).trans h
/-! laws.heldStringS -/
noncomputable def laws_heldStringS.c : Code := bodyOf Try.f61
def laws_heldStringS.h : Nat → Hint := look ⟨[], [], []⟩ [(0, ⟨[0, 1, 5], [], []⟩)]
def laws_heldStringS.ps : List PK := [.one, .one]
def laws_heldStringS.rs : List RK := [.one true]
def laws_heldStringS.vs : List ResultVar := [.tmp 4]
def laws_heldStringS.x : Cx := ⟨tt, look none [(80, some laws_markText.K)]⟩
def laws_heldStringS.s0 (k : Nat) (rec0 : (Int × Int × (List (ByteArray))) → Option (Int)) (p : (Int × Int × (List (ByteArray)))) : Option (Int) :=
  (bif (decide (p.2.1 < (p.2.2.length : Int))) then (bif ((decide ((0 : Int) ≤ p.2.1)) && (decide (p.2.1 < (p.2.2.length : Int)))) then (p.2.2[p.2.1.toNat]?).bind fun x1 => (laws_markText.f k p.1).bind fun r2 => (bif (!(x1.toList == r2.toList)) then some (-1 : Int) else rec0 ((IntKind.i64.wrap (p.1 + (1 : Int))), (IntKind.i64.wrap (p.2.1 + (1 : Int))), p.2.2)) else none) else some p.1)
def laws_heldStringS.l0 (k : Nat) : Nat → (Int × Int × (List (ByteArray))) → Option (Int)
  | 0 => fun _ => none
  | j + 1 => laws_heldStringS.s0 k (laws_heldStringS.l0 k j)
def laws_heldStringS.S0 (p : (Int × Int × (List (ByteArray)))) : DS := ⟨tl [(0, .at (.whole 0)), (1, .at (.int .i64 p.1)), (5, .at (.int .i64 p.2.1))], lookO [(0, .row 9 .str false p.2.2)]⟩
noncomputable def laws_heldStringS.D0 (k : Nat) (j : Nat) (p : (Int × Int × (List (ByteArray)))) : Option (Int) := loopK (normK [0] (laws_heldStringS.h 0)) (runK laws_heldStringS.x k 0 [0] laws_heldStringS.h 0 (sub laws_heldStringS.c [1, 0, 1, 0, 0])) j (laws_heldStringS.S0 p) (kBlk 0 (kSeq (runK laws_heldStringS.x k 0 [0] laws_heldStringS.h 0 (sub laws_heldStringS.c [1, 1])) (fin tt laws_heldStringS.ps laws_heldStringS.rs laws_heldStringS.vs (.int .i64))))
theorem laws_heldStringS.D0_eq (k : Nat) : ∀ j, laws_heldStringS.D0 k j = laws_heldStringS.l0 k j := by
  intro j
  induction j with
  | zero => rfl
  | succ j ih =>
    show _ = laws_heldStringS.s0 k (laws_heldStringS.l0 k j)
    rw [← ih]
    funext p
    kernel_rfl
def laws_heldStringS.f (k : Nat) (a0 : List (ByteArray)) (a1 : Int) : Option (Int) :=
  laws_heldStringS.l0 k k (a1, (0 : Int), a0)
def laws_heldStringS.K : Ctr := ⟨laws_heldStringS.ps, laws_heldStringS.rs, false, (.two (.sl 9 .str) (.int .i64)), (.int .i64), fun k x => laws_heldStringS.f k x.1 x.2⟩
theorem laws_heldStringS.eq (k : Nat) (x : (laws_heldStringS.K.I).den) : func laws_heldStringS.x laws_heldStringS.h laws_heldStringS.ps laws_heldStringS.rs laws_heldStringS.vs laws_heldStringS.K.I laws_heldStringS.K.O laws_heldStringS.c k x = laws_heldStringS.K.run k x := by
  show _ = laws_heldStringS.f k x.1 x.2
  unfold laws_heldStringS.f
  rw [← laws_heldStringS.D0_eq k k]
  kernel_rfl
theorem laws_heldStringS.ok : CtrOk Try.prog 61 laws_heldStringS.K :=
  CtrOk.of (fn := Try.f61) (cd := laws_heldStringS.c) (cx := laws_heldStringS.x) (hs := laws_heldStringS.h) (by kernel_rfl) (by kernel_rfl) (by kernel_rfl) (by kernel_rfl) tt_ok (envOk_cons laws_markText.ok (envOk_nil)) (by kernel_rfl) (by kernel_rfl) (by kernel_rfl) (by kernel_rfl) fun k x r h => (laws_heldStringS.eq k x).trans h
/-! laws.heldPendingS -/
noncomputable def laws_heldPendingS.c : Code := bodyOf Try.f62
def laws_heldPendingS.h : Nat → Hint := look ⟨[], [], []⟩ [(0, ⟨[0, 1, 5], [], []⟩)]
def laws_heldPendingS.ps : List PK := [.one, .one]
def laws_heldPendingS.rs : List RK := [.one true]
def laws_heldPendingS.vs : List ResultVar := [.tmp 4]
def laws_heldPendingS.x : Cx := ⟨tt, look none [(80, some laws_markText.K)]⟩
def laws_heldPendingS.s0 (k : Nat) (rec0 : (Int × Int × (List (Int × ByteArray × Int × Int))) → Option (Int)) (p : (Int × Int × (List (Int × ByteArray × Int × Int)))) : Option (Int) :=
  (bif (decide (p.2.1 < (p.2.2.length : Int))) then (bif ((decide ((0 : Int) ≤ p.2.1)) && (decide (p.2.1 < (p.2.2.length : Int)))) then (p.2.2[p.2.1.toNat]?).bind fun x1 => (bif (x1.1 != p.1) then some (-1 : Int) else (bif ((decide ((0 : Int) ≤ p.2.1)) && (decide (p.2.1 < (p.2.2.length : Int)))) then (p.2.2[p.2.1.toNat]?).bind fun x2 => (laws_markText.f k (IntKind.i64.wrap (p.1 + (1 : Int)))).bind fun r3 => (bif (!(x2.2.1.toList == r3.toList)) then some (-1 : Int) else (bif ((decide ((0 : Int) ≤ p.2.1)) && (decide (p.2.1 < (p.2.2.length : Int)))) then (p.2.2[p.2.1.toNat]?).bind fun x4 => (bif (x4.2.2.1 != (IntKind.i64.wrap ((IntKind.i64.wrap (p.1 + (1 : Int))) + (1 : Int)))) then some (-1 : Int) else (bif ((decide ((0 : Int) ≤ p.2.1)) && (decide (p.2.1 < (p.2.2.length : Int)))) then (p.2.2[p.2.1.toNat]?).bind fun x5 => (bif (x5.2.2.2 != (IntKind.i64.wrap ((IntKind.i64.wrap ((IntKind.i64.wrap (p.1 + (1 : Int))) + (1 : Int))) + (1 : Int)))) then some (-1 : Int) else rec0 ((IntKind.i64.wrap ((IntKind.i64.wrap ((IntKind.i64.wrap ((IntKind.i64.wrap (p.1 + (1 : Int))) + (1 : Int))) + (1 : Int))) + (1 : Int))), (IntKind.i64.wrap (p.2.1 + (1 : Int))), p.2.2)) else none)) else none)) else none)) else none) else some p.1)
def laws_heldPendingS.l0 (k : Nat) : Nat → (Int × Int × (List (Int × ByteArray × Int × Int))) → Option (Int)
  | 0 => fun _ => none
  | j + 1 => laws_heldPendingS.s0 k (laws_heldPendingS.l0 k j)
def laws_heldPendingS.S0 (p : (Int × Int × (List (Int × ByteArray × Int × Int)))) : DS := ⟨tl [(0, .at (.whole 0)), (1, .at (.int .i64 p.1)), (5, .at (.int .i64 p.2.1))], lookO [(0, .row 92 (.two (.int .i64) (.two .str (.two (.int .i64) (.int .i64)))) false p.2.2)]⟩
noncomputable def laws_heldPendingS.D0 (k : Nat) (j : Nat) (p : (Int × Int × (List (Int × ByteArray × Int × Int)))) : Option (Int) := loopK (normK [0] (laws_heldPendingS.h 0)) (runK laws_heldPendingS.x k 0 [0] laws_heldPendingS.h 0 (sub laws_heldPendingS.c [1, 0, 1, 0, 0])) j (laws_heldPendingS.S0 p) (kBlk 0 (kSeq (runK laws_heldPendingS.x k 0 [0] laws_heldPendingS.h 0 (sub laws_heldPendingS.c [1, 1])) (fin tt laws_heldPendingS.ps laws_heldPendingS.rs laws_heldPendingS.vs (.int .i64))))
theorem laws_heldPendingS.D0_eq (k : Nat) : ∀ j, laws_heldPendingS.D0 k j = laws_heldPendingS.l0 k j := by
  intro j
  induction j with
  | zero => rfl
  | succ j ih =>
    show _ = laws_heldPendingS.s0 k (laws_heldPendingS.l0 k j)
    rw [← ih]
    funext p
    kernel_rfl
def laws_heldPendingS.f (k : Nat) (a0 : List (Int × ByteArray × Int × Int)) (a1 : Int) : Option (Int) :=
  laws_heldPendingS.l0 k k (a1, (0 : Int), a0)
def laws_heldPendingS.K : Ctr := ⟨laws_heldPendingS.ps, laws_heldPendingS.rs, false, (.two (.sl 92 (.two (.int .i64) (.two .str (.two (.int .i64) (.int .i64))))) (.int .i64)), (.int .i64), fun k x => laws_heldPendingS.f k x.1 x.2⟩
theorem laws_heldPendingS.eq (k : Nat) (x : (laws_heldPendingS.K.I).den) : func laws_heldPendingS.x laws_heldPendingS.h laws_heldPendingS.ps laws_heldPendingS.rs laws_heldPendingS.vs laws_heldPendingS.K.I laws_heldPendingS.K.O laws_heldPendingS.c k x = laws_heldPendingS.K.run k x := by
  show _ = laws_heldPendingS.f k x.1 x.2
  unfold laws_heldPendingS.f
  rw [← laws_heldPendingS.D0_eq k k]
  kernel_rfl
theorem laws_heldPendingS.ok : CtrOk Try.prog 62 laws_heldPendingS.K :=
  CtrOk.of (fn := Try.f62) (cd := laws_heldPendingS.c) (cx := laws_heldPendingS.x) (hs := laws_heldPendingS.h) (by kernel_rfl) (by kernel_rfl) (by kernel_rfl) (by kernel_rfl) tt_ok (envOk_cons laws_markText.ok (envOk_nil)) (by kernel_rfl) (by kernel_rfl) (by kernel_rfl) (by kernel_rfl) fun k x r h => (laws_heldPendingS.eq k x).trans h
/-! laws.heldEarlyS -/
noncomputable def laws_heldEarlyS.c : Code := bodyOf Try.f63
def laws_heldEarlyS.h : Nat → Hint := look ⟨[], [], []⟩ [(0, ⟨[0, 1, 5], [], []⟩)]
def laws_heldEarlyS.ps : List PK := [.one, .one]
def laws_heldEarlyS.rs : List RK := [.one true]
def laws_heldEarlyS.vs : List ResultVar := [.tmp 4]
def laws_heldEarlyS.x : Cx := ⟨tt, look none [(80, some laws_markText.K)]⟩
def laws_heldEarlyS.s0 (k : Nat) (rec0 : (Int × Int × (List (Int × ByteArray))) → Option (Int)) (p : (Int × Int × (List (Int × ByteArray)))) : Option (Int) :=
  (bif (decide (p.2.1 < (p.2.2.length : Int))) then (bif ((decide ((0 : Int) ≤ p.2.1)) && (decide (p.2.1 < (p.2.2.length : Int)))) then (p.2.2[p.2.1.toNat]?).bind fun x1 => (bif (x1.1 != p.1) then some (-1 : Int) else (bif ((decide ((0 : Int) ≤ p.2.1)) && (decide (p.2.1 < (p.2.2.length : Int)))) then (p.2.2[p.2.1.toNat]?).bind fun x2 => (laws_markText.f k (IntKind.i64.wrap (p.1 + (1 : Int)))).bind fun r3 => (bif (!(x2.2.toList == r3.toList)) then some (-1 : Int) else rec0 ((IntKind.i64.wrap ((IntKind.i64.wrap (p.1 + (1 : Int))) + (1 : Int))), (IntKind.i64.wrap (p.2.1 + (1 : Int))), p.2.2)) else none)) else none) else some p.1)
def laws_heldEarlyS.l0 (k : Nat) : Nat → (Int × Int × (List (Int × ByteArray))) → Option (Int)
  | 0 => fun _ => none
  | j + 1 => laws_heldEarlyS.s0 k (laws_heldEarlyS.l0 k j)
def laws_heldEarlyS.S0 (p : (Int × Int × (List (Int × ByteArray)))) : DS := ⟨tl [(0, .at (.whole 0)), (1, .at (.int .i64 p.1)), (5, .at (.int .i64 p.2.1))], lookO [(0, .row 87 (.two (.int .i64) .str) false p.2.2)]⟩
noncomputable def laws_heldEarlyS.D0 (k : Nat) (j : Nat) (p : (Int × Int × (List (Int × ByteArray)))) : Option (Int) := loopK (normK [0] (laws_heldEarlyS.h 0)) (runK laws_heldEarlyS.x k 0 [0] laws_heldEarlyS.h 0 (sub laws_heldEarlyS.c [1, 0, 1, 0, 0])) j (laws_heldEarlyS.S0 p) (kBlk 0 (kSeq (runK laws_heldEarlyS.x k 0 [0] laws_heldEarlyS.h 0 (sub laws_heldEarlyS.c [1, 1])) (fin tt laws_heldEarlyS.ps laws_heldEarlyS.rs laws_heldEarlyS.vs (.int .i64))))
theorem laws_heldEarlyS.D0_eq (k : Nat) : ∀ j, laws_heldEarlyS.D0 k j = laws_heldEarlyS.l0 k j := by
  intro j
  induction j with
  | zero => rfl
  | succ j ih =>
    show _ = laws_heldEarlyS.s0 k (laws_heldEarlyS.l0 k j)
    rw [← ih]
    funext p
    kernel_rfl
def laws_heldEarlyS.f (k : Nat) (a0 : List (Int × ByteArray)) (a1 : Int) : Option (Int) :=
  laws_heldEarlyS.l0 k k (a1, (0 : Int), a0)
def laws_heldEarlyS.K : Ctr := ⟨laws_heldEarlyS.ps, laws_heldEarlyS.rs, false, (.two (.sl 87 (.two (.int .i64) .str)) (.int .i64)), (.int .i64), fun k x => laws_heldEarlyS.f k x.1 x.2⟩
theorem laws_heldEarlyS.eq (k : Nat) (x : (laws_heldEarlyS.K.I).den) : func laws_heldEarlyS.x laws_heldEarlyS.h laws_heldEarlyS.ps laws_heldEarlyS.rs laws_heldEarlyS.vs laws_heldEarlyS.K.I laws_heldEarlyS.K.O laws_heldEarlyS.c k x = laws_heldEarlyS.K.run k x := by
  show _ = laws_heldEarlyS.f k x.1 x.2
  unfold laws_heldEarlyS.f
  rw [← laws_heldEarlyS.D0_eq k k]
  kernel_rfl
theorem laws_heldEarlyS.ok : CtrOk Try.prog 63 laws_heldEarlyS.K :=
  CtrOk.of (fn := Try.f63) (cd := laws_heldEarlyS.c) (cx := laws_heldEarlyS.x) (hs := laws_heldEarlyS.h) (by kernel_rfl) (by kernel_rfl) (by kernel_rfl) (by kernel_rfl) tt_ok (envOk_cons laws_markText.ok (envOk_nil)) (by kernel_rfl) (by kernel_rfl) (by kernel_rfl) (by kernel_rfl) fun k x r h => (laws_heldEarlyS.eq k x).trans h
/-! laws.heldIntS -/
noncomputable def laws_heldIntS.c : Code := bodyOf Try.f64
def laws_heldIntS.h : Nat → Hint := look ⟨[], [], []⟩ [(0, ⟨[0, 1, 5], [], []⟩)]
def laws_heldIntS.ps : List PK := [.one, .one]
def laws_heldIntS.rs : List RK := [.one true]
def laws_heldIntS.vs : List ResultVar := [.tmp 4]
def laws_heldIntS.x : Cx := ⟨tt, look none []⟩
def laws_heldIntS.s0 (_k : Nat) (rec0 : (Int × Int × (List (Int))) → Option (Int)) (p : (Int × Int × (List (Int)))) : Option (Int) :=
  (bif (decide (p.2.1 < (p.2.2.length : Int))) then (bif ((decide ((0 : Int) ≤ p.2.1)) && (decide (p.2.1 < (p.2.2.length : Int)))) then (p.2.2[p.2.1.toNat]?).bind fun x1 => (bif (x1 != p.1) then some (-1 : Int) else rec0 ((IntKind.i64.wrap (p.1 + (1 : Int))), (IntKind.i64.wrap (p.2.1 + (1 : Int))), p.2.2)) else none) else some p.1)
def laws_heldIntS.l0 (k : Nat) : Nat → (Int × Int × (List (Int))) → Option (Int)
  | 0 => fun _ => none
  | j + 1 => laws_heldIntS.s0 k (laws_heldIntS.l0 k j)
def laws_heldIntS.S0 (p : (Int × Int × (List (Int)))) : DS := ⟨tl [(0, .at (.whole 0)), (1, .at (.int .i64 p.1)), (5, .at (.int .i64 p.2.1))], lookO [(0, .row 3 (.int .i64) false p.2.2)]⟩
noncomputable def laws_heldIntS.D0 (k : Nat) (j : Nat) (p : (Int × Int × (List (Int)))) : Option (Int) := loopK (normK [0] (laws_heldIntS.h 0)) (runK laws_heldIntS.x k 0 [0] laws_heldIntS.h 0 (sub laws_heldIntS.c [1, 0, 1, 0, 0])) j (laws_heldIntS.S0 p) (kBlk 0 (kSeq (runK laws_heldIntS.x k 0 [0] laws_heldIntS.h 0 (sub laws_heldIntS.c [1, 1])) (fin tt laws_heldIntS.ps laws_heldIntS.rs laws_heldIntS.vs (.int .i64))))
theorem laws_heldIntS.D0_eq (k : Nat) : ∀ j, laws_heldIntS.D0 k j = laws_heldIntS.l0 k j := by
  intro j
  induction j with
  | zero => rfl
  | succ j ih =>
    show _ = laws_heldIntS.s0 k (laws_heldIntS.l0 k j)
    rw [← ih]
    funext p
    kernel_rfl
def laws_heldIntS.f (k : Nat) (a0 : List (Int)) (a1 : Int) : Option (Int) :=
  laws_heldIntS.l0 k k (a1, (0 : Int), a0)
def laws_heldIntS.K : Ctr := ⟨laws_heldIntS.ps, laws_heldIntS.rs, false, (.two (.sl 3 (.int .i64)) (.int .i64)), (.int .i64), fun k x => laws_heldIntS.f k x.1 x.2⟩
theorem laws_heldIntS.eq (k : Nat) (x : (laws_heldIntS.K.I).den) : func laws_heldIntS.x laws_heldIntS.h laws_heldIntS.ps laws_heldIntS.rs laws_heldIntS.vs laws_heldIntS.K.I laws_heldIntS.K.O laws_heldIntS.c k x = laws_heldIntS.K.run k x := by
  show _ = laws_heldIntS.f k x.1 x.2
  unfold laws_heldIntS.f
  rw [← laws_heldIntS.D0_eq k k]
  kernel_rfl
theorem laws_heldIntS.ok : CtrOk Try.prog 64 laws_heldIntS.K :=
  CtrOk.of (fn := Try.f64) (cd := laws_heldIntS.c) (cx := laws_heldIntS.x) (hs := laws_heldIntS.h) (by kernel_rfl) (by kernel_rfl) (by kernel_rfl) (by kernel_rfl) tt_ok (envOk_nil) (by kernel_rfl) (by kernel_rfl) (by kernel_rfl) (by kernel_rfl) fun k x r h => (laws_heldIntS.eq k x).trans h
/-! laws.heldChan -/
noncomputable def laws_heldChan.c : Code := bodyOf Try.f20
def laws_heldChan.h : Nat → Hint := look ⟨[], [], []⟩ []
def laws_heldChan.ps : List PK := [.agg 9, .one]
def laws_heldChan.rs : List RK := [.one true]
def laws_heldChan.vs : List ResultVar := [.tmp 4]
def laws_heldChan.x : Cx := ⟨tt, look none [(61, some laws_heldStringS.K), (62, some laws_heldPendingS.K), (63, some laws_heldEarlyS.K), (64, some laws_heldIntS.K)]⟩
def laws_heldChan.f (k : Nat) (_a0_0 : Int) (_a0_1 : Int) (_a0_2 : Int) (a0_3 : List (ByteArray)) (a0_4 : List (Int × ByteArray × Int × Int)) (_a0_5 : Int) (a0_6 : List (Int × ByteArray)) (a0_7 : List (Int)) (a0_8 : List (ByteArray)) (a1 : Int) : Option (Int) :=
  (laws_heldStringS.f k a0_3 a1).bind fun r1 => (bif (decide (r1 < (0 : Int))) then some (-1 : Int) else (laws_heldPendingS.f k a0_4 r1).bind fun r2 => (bif (decide (r2 < (0 : Int))) then some (-1 : Int) else (laws_heldEarlyS.f k a0_6 r2).bind fun r3 => (bif (decide (r3 < (0 : Int))) then some (-1 : Int) else (laws_heldIntS.f k a0_7 r3).bind fun r4 => (bif (decide (r4 < (0 : Int))) then some (-1 : Int) else (laws_heldStringS.f k a0_8 r4).bind fun r5 => (bif (decide (r5 < (0 : Int))) then some (-1 : Int) else some r5)))))
def laws_heldChan.K : Ctr := ⟨laws_heldChan.ps, laws_heldChan.rs, false, (.two (.int .i64) (.two (.int .i64) (.two (.int .i64) (.two (.sl 9 .str) (.two (.sl 92 (.two (.int .i64) (.two .str (.two (.int .i64) (.int .i64))))) (.two (.int .i64) (.two (.sl 87 (.two (.int .i64) .str)) (.two (.sl 3 (.int .i64)) (.two (.sl 9 .str) (.int .i64)))))))))), (.int .i64), fun k x => laws_heldChan.f k x.1 x.2.1 x.2.2.1 x.2.2.2.1 x.2.2.2.2.1 x.2.2.2.2.2.1 x.2.2.2.2.2.2.1 x.2.2.2.2.2.2.2.1 x.2.2.2.2.2.2.2.2.1 x.2.2.2.2.2.2.2.2.2⟩
theorem laws_heldChan.eq (k : Nat) (x : (laws_heldChan.K.I).den) : func laws_heldChan.x laws_heldChan.h laws_heldChan.ps laws_heldChan.rs laws_heldChan.vs laws_heldChan.K.I laws_heldChan.K.O laws_heldChan.c k x = laws_heldChan.K.run k x := by
  show _ = laws_heldChan.f k x.1 x.2.1 x.2.2.1 x.2.2.2.1 x.2.2.2.2.1 x.2.2.2.2.2.1 x.2.2.2.2.2.2.1 x.2.2.2.2.2.2.2.1 x.2.2.2.2.2.2.2.2.1 x.2.2.2.2.2.2.2.2.2
  kernel_rfl
theorem laws_heldChan.ok : CtrOk Try.prog 20 laws_heldChan.K :=
  CtrOk.of (fn := Try.f20) (cd := laws_heldChan.c) (cx := laws_heldChan.x) (hs := laws_heldChan.h) (by kernel_rfl) (by kernel_rfl) (by kernel_rfl) (by kernel_rfl) tt_ok (envOk_cons laws_heldStringS.ok (envOk_cons laws_heldPendingS.ok (envOk_cons laws_heldEarlyS.ok (envOk_cons laws_heldIntS.ok (envOk_nil))))) (by kernel_rfl) (by kernel_rfl) (by kernel_rfl) (by kernel_rfl) fun k x r h => (laws_heldChan.eq k x).trans h
/-! laws.heldPacketS -/
noncomputable def laws_heldPacketS.c : Code := bodyOf Try.f31
def laws_heldPacketS.h : Nat → Hint := look ⟨[], [], []⟩ [(0, ⟨[0, 1, 5], [], []⟩)]
def laws_heldPacketS.ps : List PK := [.one, .one]
def laws_heldPacketS.rs : List RK := [.one true]
def laws_heldPacketS.vs : List ResultVar := [.tmp 4]
def laws_heldPacketS.x : Cx := ⟨tt, look none [(64, some laws_heldIntS.K), (80, some laws_markText.K)]⟩
def laws_heldPacketS.s0 (k : Nat) (rec0 : (Int × Int × (List (Int × Int × Int × Int × Int × (List (Int)) × ByteArray))) → Option (Int)) (p : (Int × Int × (List (Int × Int × Int × Int × Int × (List (Int)) × ByteArray)))) : Option (Int) :=
  (bif (decide (p.2.1 < (p.2.2.length : Int))) then (bif ((decide ((0 : Int) ≤ p.2.1)) && (decide (p.2.1 < (p.2.2.length : Int)))) then (p.2.2[p.2.1.toNat]?).bind fun x1 => (bif (x1.1 != p.1) then some (-1 : Int) else (bif ((decide ((0 : Int) ≤ p.2.1)) && (decide (p.2.1 < (p.2.2.length : Int)))) then (p.2.2[p.2.1.toNat]?).bind fun x2 => (bif (x2.2.1 != (IntKind.i64.wrap (p.1 + (1 : Int)))) then some (-1 : Int) else (bif ((decide ((0 : Int) ≤ p.2.1)) && (decide (p.2.1 < (p.2.2.length : Int)))) then (p.2.2[p.2.1.toNat]?).bind fun x3 => (bif (x3.2.2.1 != (IntKind.i64.wrap ((IntKind.i64.wrap (p.1 + (1 : Int))) + (1 : Int)))) then some (-1 : Int) else (bif ((decide ((0 : Int) ≤ p.2.1)) && (decide (p.2.1 < (p.2.2.length : Int)))) then (p.2.2[p.2.1.toNat]?).bind fun x4 => (bif (x4.2.2.2.1 != (IntKind.i64.wrap ((IntKind.i64.wrap ((IntKind.i64.wrap (p.1 + (1 : Int))) + (1 : Int))) + (1 : Int)))) then some (-1 : Int) else (bif ((decide ((0 : Int) ≤ p.2.1)) && (decide (p.2.1 < (p.2.2.length : Int)))) then (p.2.2[p.2.1.toNat]?).bind fun x5 => (bif (x5.2.2.2.2.1 != (IntKind.i64.wrap ((IntKind.i64.wrap ((IntKind.i64.wrap ((IntKind.i64.wrap (p.1 + (1 : Int))) + (1 : Int))) + (1 : Int))) + (1 : Int)))) then some (-1 : Int) else (bif ((decide ((0 : Int) ≤ p.2.1)) && (decide (p.2.1 < (p.2.2.length : Int)))) then (p.2.2[p.2.1.toNat]?).bind fun x6 => (laws_heldIntS.f k x6.2.2.2.2.2.1 (IntKind.i64.wrap ((IntKind.i64.wrap ((IntKind.i64.wrap ((IntKind.i64.wrap ((IntKind.i64.wrap (p.1 + (1 : Int))) + (1 : Int))) + (1 : Int))) + (1 : Int))) + (1 : Int)))).bind fun r7 => (bif (decide (r7 < (0 : Int))) then some (-1 : Int) else (bif ((decide ((0 : Int) ≤ p.2.1)) && (decide (p.2.1 < (p.2.2.length : Int)))) then (p.2.2[p.2.1.toNat]?).bind fun x8 => (laws_markText.f k r7).bind fun r9 => (bif (!(x8.2.2.2.2.2.2.toList == r9.toList)) then some (-1 : Int) else rec0 ((IntKind.i64.wrap (r7 + (1 : Int))), (IntKind.i64.wrap (p.2.1 + (1 : Int))), p.2.2)) else none)) else none)) else none)) else none)) else none)) else none)) else none) else some p.1)
def laws_heldPacketS.l0 (k : Nat) : Nat → (Int × Int × (List (Int × Int × Int × Int × Int × (List (Int)) × ByteArray))) → Option (Int)
  | 0 => fun _ => none
  | j + 1 => laws_heldPacketS.s0 k (laws_heldPacketS.l0 k j)
def laws_heldPacketS.S0 (p : (Int × Int × (List (Int × Int × Int × Int × Int × (List (Int)) × ByteArray)))) : DS := ⟨tl [(0, .at (.whole 0)), (1, .at (.int .i64 p.1)), (5, .at (.int .i64 p.2.1))], lookO [(0, .row 28 (.two (.int .i64) (.two (.int .i64) (.two (.int .i64) (.two (.int .i64) (.two (.int .i64) (.two (.sl 3 (.int .i64)) .str)))))) false p.2.2)]⟩
noncomputable def laws_heldPacketS.D0 (k : Nat) (j : Nat) (p : (Int × Int × (List (Int × Int × Int × Int × Int × (List (Int)) × ByteArray)))) : Option (Int) := loopK (normK [0] (laws_heldPacketS.h 0)) (runK laws_heldPacketS.x k 0 [0] laws_heldPacketS.h 0 (sub laws_heldPacketS.c [1, 0, 1, 0, 0])) j (laws_heldPacketS.S0 p) (kBlk 0 (kSeq (runK laws_heldPacketS.x k 0 [0] laws_heldPacketS.h 0 (sub laws_heldPacketS.c [1, 1])) (fin tt laws_heldPacketS.ps laws_heldPacketS.rs laws_heldPacketS.vs (.int .i64))))
theorem laws_heldPacketS.D0_eq (k : Nat) : ∀ j, laws_heldPacketS.D0 k j = laws_heldPacketS.l0 k j := by
  intro j
  induction j with
  | zero => rfl
  | succ j ih =>
    show _ = laws_heldPacketS.s0 k (laws_heldPacketS.l0 k j)
    rw [← ih]
    funext p
    kernel_rfl
def laws_heldPacketS.f (k : Nat) (a0 : List (Int × Int × Int × Int × Int × (List (Int)) × ByteArray)) (a1 : Int) : Option (Int) :=
  laws_heldPacketS.l0 k k (a1, (0 : Int), a0)
def laws_heldPacketS.K : Ctr := ⟨laws_heldPacketS.ps, laws_heldPacketS.rs, false, (.two (.sl 28 (.two (.int .i64) (.two (.int .i64) (.two (.int .i64) (.two (.int .i64) (.two (.int .i64) (.two (.sl 3 (.int .i64)) .str))))))) (.int .i64)), (.int .i64), fun k x => laws_heldPacketS.f k x.1 x.2⟩
theorem laws_heldPacketS.eq (k : Nat) (x : (laws_heldPacketS.K.I).den) : func laws_heldPacketS.x laws_heldPacketS.h laws_heldPacketS.ps laws_heldPacketS.rs laws_heldPacketS.vs laws_heldPacketS.K.I laws_heldPacketS.K.O laws_heldPacketS.c k x = laws_heldPacketS.K.run k x := by
  show _ = laws_heldPacketS.f k x.1 x.2
  unfold laws_heldPacketS.f
  rw [← laws_heldPacketS.D0_eq k k]
  kernel_rfl
theorem laws_heldPacketS.ok : CtrOk Try.prog 31 laws_heldPacketS.K :=
  CtrOk.of (fn := Try.f31) (cd := laws_heldPacketS.c) (cx := laws_heldPacketS.x) (hs := laws_heldPacketS.h) (by kernel_rfl) (by kernel_rfl) (by kernel_rfl) (by kernel_rfl) tt_ok (envOk_cons laws_heldIntS.ok (envOk_cons laws_markText.ok (envOk_nil))) (by kernel_rfl) (by kernel_rfl) (by kernel_rfl) (by kernel_rfl) fun k x r h => (laws_heldPacketS.eq k x).trans h
/-! laws.FnExactSend -/
noncomputable def laws_FnExactSend.c : Code := bodyOf Try.f7
def laws_FnExactSend.h : Nat → Hint := look ⟨[], [], []⟩ []
def laws_FnExactSend.ps : List PK := [.agg 9, .one]
def laws_FnExactSend.rs : List RK := [.one true]
def laws_FnExactSend.vs : List ResultVar := [.tmp 4]
def laws_FnExactSend.x : Cx := ⟨tt, look none [(21, some laws_szChan.K), (23, some laws_toChan.K), (27, some spec_Send.K), (28, some impl_Send.K), (18, some laws_eqChan.K), (29, some laws_eqPacketS.K), (19, some laws_markChan.K), (30, some laws_markPacketS.K), (20, some laws_heldChan.K), (31, some laws_heldPacketS.K)]⟩
def laws_FnExactSend.f (k : Nat) (a0_0 : Int) (a0_1 : Int) (a0_2 : Int) (a0_3 : List (ByteArray)) (a0_4 : List (Int × ByteArray × Int × Int)) (a0_5 : Int) (a0_6 : List (Int × ByteArray)) (a0_7 : List (Int)) (a0_8 : List (ByteArray)) (a1 : Int) : Option (Bool) :=
  (laws_szChan.f k a0_0 a0_1 a0_2 a0_3 a0_4 a0_5 a0_6 a0_7 a0_8 (1048576 : Int)).bind fun r1 => (bif (decide (r1 < (0 : Int))) then some true else (laws_toChan.f k a0_0 a0_1 a0_2 a0_3 a0_4 a0_5 a0_6 a0_7 a0_8).bind fun r2 => (spec_Send.f k r2.1 r2.2.1 r2.2.2.1 r2.2.2.2.1 r2.2.2.2.2.1 r2.2.2.2.2.2.1 r2.2.2.2.2.2.2.1 r2.2.2.2.2.2.2.2.1 r2.2.2.2.2.2.2.2.2 a1).bind fun r3 => (laws_toChan.f k a0_0 a0_1 a0_2 a0_3 a0_4 a0_5 a0_6 a0_7 a0_8).bind fun r4 => (impl_Send.f k r4.1 r4.2.1 r4.2.2.1 r4.2.2.2.1 r4.2.2.2.2.1 r4.2.2.2.2.2.1 r4.2.2.2.2.2.2.1 r4.2.2.2.2.2.2.2.1 r4.2.2.2.2.2.2.2.2 a1).bind fun r5 => (laws_eqChan.f k r5.1 r5.2.1 r5.2.2.1 r5.2.2.2.1 r5.2.2.2.2.1 r5.2.2.2.2.2.1 r5.2.2.2.2.2.2.1 r5.2.2.2.2.2.2.2.1 r5.2.2.2.2.2.2.2.2.1 r3.1 r3.2.1 r3.2.2.1 r3.2.2.2.1 r3.2.2.2.2.1 r3.2.2.2.2.2.1 r3.2.2.2.2.2.2.1 r3.2.2.2.2.2.2.2.1 r3.2.2.2.2.2.2.2.2.1).bind fun r6 => (bif (!r6) then some false else (laws_eqPacketS.f k r5.2.2.2.2.2.2.2.2.2 r3.2.2.2.2.2.2.2.2.2).bind fun r7 => (bif (!r7) then some false else (laws_toChan.f k a0_0 a0_1 a0_2 a0_3 a0_4 a0_5 a0_6 a0_7 a0_8).bind fun r8 => (laws_eqChan.f k r4.1 r4.2.1 r4.2.2.1 r4.2.2.2.1 r4.2.2.2.2.1 r4.2.2.2.2.2.1 r4.2.2.2.2.2.2.1 r4.2.2.2.2.2.2.2.1 r4.2.2.2.2.2.2.2.2 r8.1 r8.2.1 r8.2.2.1 r8.2.2.2.1 r8.2.2.2.2.1 r8.2.2.2.2.2.1 r8.2.2.2.2.2.2.1 r8.2.2.2.2.2.2.2.1 r8.2.2.2.2.2.2.2.2).bind fun r9 => (bif (!r9) then some false else (laws_markChan.f k r4.1 r4.2.1 r4.2.2.1 r4.2.2.2.1 r4.2.2.2.2.1 r4.2.2.2.2.2.1 r4.2.2.2.2.2.2.1 r4.2.2.2.2.2.2.2.1 r4.2.2.2.2.2.2.2.2 (1 : Int)).bind fun r10 => (bif (decide (r10.1 < (0 : Int))) then some false else (laws_eqChan.f k r5.1 r5.2.1 r5.2.2.1 r5.2.2.2.1 r5.2.2.2.2.1 r5.2.2.2.2.2.1 r5.2.2.2.2.2.2.1 r5.2.2.2.2.2.2.2.1 r5.2.2.2.2.2.2.2.2.1 r3.1 r3.2.1 r3.2.2.1 r3.2.2.2.1 r3.2.2.2.2.1 r3.2.2.2.2.2.1 r3.2.2.2.2.2.2.1 r3.2.2.2.2.2.2.2.1 r3.2.2.2.2.2.2.2.2.1).bind fun r11 => (bif (!r11) then some false else (laws_eqPacketS.f k r5.2.2.2.2.2.2.2.2.2 r3.2.2.2.2.2.2.2.2.2).bind fun r12 => (bif (!r12) then some false else (laws_markChan.f k r5.1 r5.2.1 r5.2.2.1 r5.2.2.2.1 r5.2.2.2.2.1 r5.2.2.2.2.2.1 r5.2.2.2.2.2.2.1 r5.2.2.2.2.2.2.2.1 r5.2.2.2.2.2.2.2.2.1 (1 : Int)).bind fun r13 => (laws_markPacketS.f k r5.2.2.2.2.2.2.2.2.2 r13.1).bind fun r14 => (laws_heldChan.f k r5.1 r5.2.1 r5.2.2.1 r13.2.1 r13.2.2.1 r5.2.2.2.2.2.1 r13.2.2.2.1 r13.2.2.2.2.1 r13.2.2.2.2.2 (1 : Int)).bind fun r15 => (bif (decide (r15 < (0 : Int))) then some false else (laws_heldPacketS.f k r14.2 r15).bind fun r16 => (bif (decide (r16 < (0 : Int))) then some false else (bif (r16 != r14.1) then some false else (laws_toChan.f k a0_0 a0_1 a0_2 a0_3 a0_4 a0_5 a0_6 a0_7 a0_8).bind fun r17 => (impl_Send.f k r17.1 r17.2.1 r17.2.2.1 r17.2.2.2.1 r17.2.2.2.2.1 r17.2.2.2.2.2.1 r17.2.2.2.2.2.2.1 r17.2.2.2.2.2.2.2.1 r17.2.2.2.2.2.2.2.2 a1).bind fun r18 => (laws_eqChan.f k r18.1 r18.2.1 r18.2.2.1 r18.2.2.2.1 r18.2.2.2.2.1 r18.2.2.2.2.2.1 r18.2.2.2.2.2.2.1 r18.2.2.2.2.2.2.2.1 r18.2.2.2.2.2.2.2.2.1 r3.1 r3.2.1 r3.2.2.1 r3.2.2.2.1 r3.2.2.2.2.1 r3.2.2.2.2.2.1 r3.2.2.2.2.2.2.1 r3.2.2.2.2.2.2.2.1 r3.2.2.2.2.2.2.2.2.1).bind fun r19 => (bif (!r19) then some false else (laws_eqPacketS.f k r18.2.2.2.2.2.2.2.2.2 r3.2.2.2.2.2.2.2.2.2).bind fun r20 => (bif (!r20) then some false else (laws_heldChan.f k r5.1 r5.2.1 r5.2.2.1 r13.2.1 r13.2.2.1 r5.2.2.2.2.2.1 r13.2.2.2.1 r13.2.2.2.2.1 r13.2.2.2.2.2 (1 : Int)).bind fun r21 => (bif (decide (r21 < (0 : Int))) then some false else (laws_heldPacketS.f k r14.2 r21).bind fun r22 => (bif (decide (r22 < (0 : Int))) then some false else (bif (r22 != r14.1) then some false else some true)))))))))))))))
def laws_FnExactSend.K : Ctr := ⟨laws_FnExactSend.ps, laws_FnExactSend.rs, false, (.two (.int .i64) (.two (.int .i64) (.two (.int .i64) (.two (.sl 9 .str) (.two (.sl 118 (.two (.int .i64) (.two .str (.two (.int .i64) (.int .i64))))) (.two (.int .i64) (.two (.sl 120 (.two (.int .i64) .str)) (.two (.sl 3 (.int .i64)) (.two (.sl 9 .str) (.int .i64)))))))))), .bool, fun k x => laws_FnExactSend.f k x.1 x.2.1 x.2.2.1 x.2.2.2.1 x.2.2.2.2.1 x.2.2.2.2.2.1 x.2.2.2.2.2.2.1 x.2.2.2.2.2.2.2.1 x.2.2.2.2.2.2.2.2.1 x.2.2.2.2.2.2.2.2.2⟩
theorem laws_FnExactSend.eq (k : Nat) (x : (laws_FnExactSend.K.I).den) : func laws_FnExactSend.x laws_FnExactSend.h laws_FnExactSend.ps laws_FnExactSend.rs laws_FnExactSend.vs laws_FnExactSend.K.I laws_FnExactSend.K.O laws_FnExactSend.c k x = laws_FnExactSend.K.run k x := by
  show _ = laws_FnExactSend.f k x.1 x.2.1 x.2.2.1 x.2.2.2.1 x.2.2.2.2.1 x.2.2.2.2.2.1 x.2.2.2.2.2.2.1 x.2.2.2.2.2.2.2.1 x.2.2.2.2.2.2.2.2.1 x.2.2.2.2.2.2.2.2.2
  kernel_rfl
theorem laws_FnExactSend.ok : CtrOk Try.prog 7 laws_FnExactSend.K :=
  CtrOk.of (fn := Try.f7) (cd := laws_FnExactSend.c) (cx := laws_FnExactSend.x) (hs := laws_FnExactSend.h) (by kernel_rfl) (by kernel_rfl) (by kernel_rfl) (by kernel_rfl) tt_ok (envOk_cons laws_szChan.ok (envOk_cons laws_toChan.ok (envOk_cons spec_Send.ok (envOk_cons impl_Send.ok (envOk_cons laws_eqChan.ok (envOk_cons laws_eqPacketS.ok (envOk_cons laws_markChan.ok (envOk_cons laws_markPacketS.ok (envOk_cons laws_heldChan.ok (envOk_cons laws_heldPacketS.ok (envOk_nil))))))))))) (by kernel_rfl) (by kernel_rfl) (by kernel_rfl) (by kernel_rfl) fun k x r h => (laws_FnExactSend.eq k x).trans h
end Go.Proofs.Ytpheniajdbbphaa.DI
