/- FnExactGreeting: functions as plain Lean, in the machine of values. -/
import Derived.Test.YtpinehfjimphmaaGreatVFnExactGreeting7
namespace Go.Proofs.YtpinehfjimphmaaGreat.DI
open Go
set_option linter.unusedVariables false
/-! laws.markStringS -/
noncomputable def laws_markStringS.c : Code := bodyOf Tryz.f17
def laws_markStringS.h : Nat → Hint := look ⟨[], [], []⟩ [(0, ⟨[0, 1, 5], [], []⟩)]
def laws_markStringS.ps : List PK := [.row, .one]
def laws_markStringS.rs : List RK := [.one true]
def laws_markStringS.vs : List ResultVar := [.tmp 4]
def laws_markStringS.x : Cx := ⟨tt, look none [(41, some laws_markText.K)]⟩
def laws_markStringS.s0 (k : Nat) (rec0 : (Int × Int × (List (ByteArray))) → Option (Int × (List (ByteArray)))) (p : (Int × Int × (List (ByteArray)))) : Option (Int × (List (ByteArray))) :=
  (bif (decide (p.2.1 < (p.2.2.length : Int))) then (laws_markText.f k p.1).bind fun r1 => (bif ((decide ((0 : Int) ≤ p.2.1)) && (decide (p.2.1 < (p.2.2.length : Int)))) then (p.2.2[p.2.1.toNat]?).bind fun x2 => rec0 ((IntKind.i64.wrap (p.1 + (1 : Int))), (IntKind.i64.wrap (p.2.1 + (1 : Int))), (p.2.2.set p.2.1.toNat r1)) else none) else some (p.1, p.2.2))
def laws_markStringS.l0 (k : Nat) : Nat → (Int × Int × (List (ByteArray))) → Option (Int × (List (ByteArray)))
  | 0 => fun _ => none
  | j + 1 => laws_markStringS.s0 k (laws_markStringS.l0 k j)
def laws_markStringS.S0 (p : (Int × Int × (List (ByteArray)))) : DS := ⟨tl [(0, .at (.whole 0)), (1, .at (.int .i64 p.1)), (5, .at (.int .i64 p.2.1))], lookO [(0, .row 9 .str true p.2.2)]⟩
noncomputable def laws_markStringS.D0 (k : Nat) (j : Nat) (p : (Int × Int × (List (ByteArray)))) : Option (Int × (List (ByteArray))) := loopK (normK [0] (laws_markStringS.h 0)) (runK laws_markStringS.x k 0 [0] laws_markStringS.h 0 (sub laws_markStringS.c [1, 0, 1, 0, 0])) j (laws_markStringS.S0 p) (kBlk 0 (kSeq (runK laws_markStringS.x k 0 [0] laws_markStringS.h 0 (sub laws_markStringS.c [1, 1])) (fin tt laws_markStringS.ps laws_markStringS.rs laws_markStringS.vs (.two (.int .i64) (.sl 9 .str)))))
theorem laws_markStringS.D0_eq (k : Nat) : ∀ j, laws_markStringS.D0 k j = laws_markStringS.l0 k j := by
  intro j
  induction j with
  | zero => rfl
  | succ j ih =>
    show _ = laws_markStringS.s0 k (laws_markStringS.l0 k j)
    rw [← ih]
    funext p
    kernel_rfl
def laws_markStringS.f (k : Nat) (a0 : List (ByteArray)) (a1 : Int) : Option (Int × (List (ByteArray))) :=
  laws_markStringS.l0 k k (a1, (0 : Int), a0)
def laws_markStringS.K : Ctr := ⟨laws_markStringS.ps, laws_markStringS.rs, false, (.two (.sl 9 .str) (.int .i64)), (.two (.int .i64) (.sl 9 .str)), fun k x => laws_markStringS.f k x.1 x.2⟩
theorem laws_markStringS.eq (k : Nat) (x : (laws_markStringS.K.I).den) : func laws_markStringS.x laws_markStringS.h laws_markStringS.ps laws_markStringS.rs laws_markStringS.vs laws_markStringS.K.I laws_markStringS.K.O laws_markStringS.c k x = laws_markStringS.K.run k x := by
  show _ = laws_markStringS.f k x.1 x.2
  unfold laws_markStringS.f
  rw [← laws_markStringS.D0_eq k k]
  kernel_rfl
theorem laws_markStringS.ok : CtrOk Tryz.prog 17 laws_markStringS.K :=
  CtrOk.of (fn := Tryz.f17) (cd := laws_markStringS.c) (cx := laws_markStringS.x) (hs := laws_markStringS.h) (by kernel_rfl) (by kernel_rfl) (by kernel_rfl) (by kernel_rfl) tt_ok (envOk_cons laws_markText.ok (envOk_nil)) (by kernel_rfl) (by kernel_rfl) (by kernel_rfl) (by kernel_rfl) fun k x r h => (laws_markStringS.eq k x).trans h
/-! laws.markIntS -/
noncomputable def laws_markIntS.c : Code := bodyOf Tryz.f18
def laws_markIntS.h : Nat → Hint := look ⟨[], [], []⟩ [(0, ⟨[0, 1, 5], [], []⟩)]
def laws_markIntS.ps : List PK := [.row, .one]
def laws_markIntS.rs : List RK := [.one true]
def laws_markIntS.vs : List ResultVar := [.tmp 4]
def laws_markIntS.x : Cx := ⟨tt, look none []⟩
def laws_markIntS.s0 (_k : Nat) (rec0 : (Int × Int × (List (Int))) → Option (Int × (List (Int)))) (p : (Int × Int × (List (Int)))) : Option (Int × (List (Int))) :=
  (bif (decide (p.2.1 < (p.2.2.length : Int))) then (bif ((decide ((0 : Int) ≤ p.2.1)) && (decide (p.2.1 < (p.2.2.length : Int)))) then (p.2.2[p.2.1.toNat]?).bind fun x1 => rec0 ((IntKind.i64.wrap (p.1 + (1 : Int))), (IntKind.i64.wrap (p.2.1 + (1 : Int))), (p.2.2.set p.2.1.toNat p.1)) else none) else some (p.1, p.2.2))
def laws_markIntS.l0 (k : Nat) : Nat → (Int × Int × (List (Int))) → Option (Int × (List (Int)))
  | 0 => fun _ => none
  | j + 1 => laws_markIntS.s0 k (laws_markIntS.l0 k j)
def laws_markIntS.S0 (p : (Int × Int × (List (Int)))) : DS := ⟨tl [(0, .at (.whole 0)), (1, .at (.int .i64 p.1)), (5, .at (.int .i64 p.2.1))], lookO [(0, .row 3 (.int .i64) true p.2.2)]⟩
noncomputable def laws_markIntS.D0 (k : Nat) (j : Nat) (p : (Int × Int × (List (Int)))) : Option (Int × (List (Int))) := loopK (normK [0] (laws_markIntS.h 0)) (runK laws_markIntS.x k 0 [0] laws_markIntS.h 0 (sub laws_markIntS.c [1, 0, 1, 0, 0])) j (laws_markIntS.S0 p) (kBlk 0 (kSeq (runK laws_markIntS.x k 0 [0] laws_markIntS.h 0 (sub laws_markIntS.c [1, 1])) (fin tt laws_markIntS.ps laws_markIntS.rs laws_markIntS.vs (.two (.int .i64) (.sl 3 (.int .i64))))))
theorem laws_markIntS.D0_eq (k : Nat) : ∀ j, laws_markIntS.D0 k j = laws_markIntS.l0 k j := by
  intro j
  induction j with
  | zero => rfl
  | succ j ih =>
    show _ = laws_markIntS.s0 k (laws_markIntS.l0 k j)
    rw [← ih]
    funext p
    kernel_rfl
def laws_markIntS.f (k : Nat) (a0 : List (Int)) (a1 : Int) : Option (Int × (List (Int))) :=
  laws_markIntS.l0 k k (a1, (0 : Int), a0)
def laws_markIntS.K : Ctr := ⟨laws_markIntS.ps, laws_markIntS.rs, false, (.two (.sl 3 (.int .i64)) (.int .i64)), (.two (.int .i64) (.sl 3 (.int .i64))), fun k x => laws_markIntS.f k x.1 x.2⟩
theorem laws_markIntS.eq (k : Nat) (x : (laws_markIntS.K.I).den) : func laws_markIntS.x laws_markIntS.h laws_markIntS.ps laws_markIntS.rs laws_markIntS.vs laws_markIntS.K.I laws_markIntS.K.O laws_markIntS.c k x = laws_markIntS.K.run k x := by
  show _ = laws_markIntS.f k x.1 x.2
  unfold laws_markIntS.f
  rw [← laws_markIntS.D0_eq k k]
  kernel_rfl
theorem laws_markIntS.ok : CtrOk Tryz.prog 18 laws_markIntS.K :=
  CtrOk.of (fn := Tryz.f18) (cd := laws_markIntS.c) (cx := laws_markIntS.x) (hs := laws_markIntS.h) (by kernel_rfl) (by kernel_rfl) (by kernel_rfl) (by kernel_rfl) tt_ok (envOk_nil) (by kernel_rfl) (by kernel_rfl) (by kernel_rfl) (by kernel_rfl) fun k x r h => (laws_markIntS.eq k x).trans h
/-! laws.markGreeterS -/
noncomputable def laws_markGreeterS.c : Code := bodyOf Tryz.f19
def laws_markGreeterS.h : Nat → Hint := look ⟨[], [], []⟩ [(0, ⟨[0, 1, 5], [], []⟩)]
def laws_markGreeterS.ps : List PK := [.row, .one]
def laws_markGreeterS.rs : List RK := [.one true]
def laws_markGreeterS.vs : List ResultVar := [.tmp 4]
def laws_markGreeterS.x : Cx := ⟨tt, look none [(41, some laws_markText.K)]⟩
def laws_markGreeterS.s0 (k : Nat) (rec0 : (Int × Int × (List (Int × Int × Int × Int × Int × ByteArray × ByteArray))) → Option (Int × (List (Int × Int × Int × Int × Int × ByteArray × ByteArray)))) (p : (Int × Int × (List (Int × Int × Int × Int × Int × ByteArray × ByteArray)))) : Option (Int × (List (Int × Int × Int × Int × Int × ByteArray × ByteArray))) :=
  (bif (decide (p.2.1 < (p.2.2.length : Int))) then (bif ((decide ((0 : Int) ≤ p.2.1)) && (decide (p.2.1 < (p.2.2.length : Int)))) then (p.2.2[p.2.1.toNat]?).bind fun x1 => (bif ((decide ((0 : Int) ≤ p.2.1)) && (decide (p.2.1 < ((p.2.2.set p.2.1.toNat (p.1, x1.2)).length : Int)))) then ((p.2.2.set p.2.1.toNat (p.1, x1.2))[p.2.1.toNat]?).bind fun x2 => (bif ((decide ((0 : Int) ≤ p.2.1)) && (decide (p.2.1 < (((p.2.2.set p.2.1.toNat (p.1, x1.2)).set p.2.1.toNat (x2.1, (IntKind.i64.wrap (p.1 + (1 : Int))), x2.2.2)).length : Int)))) then (((p.2.2.set p.2.1.toNat (p.1, x1.2)).set p.2.1.toNat (x2.1, (IntKind.i64.wrap (p.1 + (1 : Int))), x2.2.2))[p.2.1.toNat]?).bind fun x3 => (bif ((decide ((0 : Int) ≤ p.2.1)) && (decide (p.2.1 < ((((p.2.2.set p.2.1.toNat (p.1, x1.2)).set p.2.1.toNat (x2.1, (IntKind.i64.wrap (p.1 + (1 : Int))), x2.2.2)).set p.2.1.toNat (x3.1, x3.2.1, (IntKind.i64.wrap ((IntKind.i64.wrap (p.1 + (1 : Int))) + (1 : Int))), x3.2.2.2)).length : Int)))) then ((((p.2.2.set p.2.1.toNat (p.1, x1.2)).set p.2.1.toNat (x2.1, (IntKind.i64.wrap (p.1 + (1 : Int))), x2.2.2)).set p.2.1.toNat (x3.1, x3.2.1, (IntKind.i64.wrap ((IntKind.i64.wrap (p.1 + (1 : Int))) + (1 : Int))), x3.2.2.2))[p.2.1.toNat]?).bind fun x4 => (bif ((decide ((0 : Int) ≤ p.2.1)) && (decide (p.2.1 < (((((p.2.2.set p.2.1.toNat (p.1, x1.2)).set p.2.1.toNat (x2.1, (IntKind.i64.wrap (p.1 + (1 : Int))), x2.2.2)).set p.2.1.toNat (x3.1, x3.2.1, (IntKind.i64.wrap ((IntKind.i64.wrap (p.1 + (1 : Int))) + (1 : Int))), x3.2.2.2)).set p.2.1.toNat (x4.1, x4.2.1, x4.2.2.1, (IntKind.i64.wrap ((IntKind.i64.wrap ((IntKind.i64.wrap (p.1 + (1 : Int))) + (1 : Int))) + (1 : Int))), x4.2.2.2.2)).length : Int)))) then (((((p.2.2.set p.2.1.toNat (p.1, x1.2)).set p.2.1.toNat (x2.1, (IntKind.i64.wrap (p.1 + (1 : Int))), x2.2.2)).set p.2.1.toNat (x3.1, x3.2.1, (IntKind.i64.wrap ((IntKind.i64.wrap (p.1 + (1 : Int))) + (1 : Int))), x3.2.2.2)).set p.2.1.toNat (x4.1, x4.2.1, x4.2.2.1, (IntKind.i64.wrap ((IntKind.i64.wrap ((IntKind.i64.wrap (p.1 + (1 : Int))) + (1 : Int))) + (1 : Int))), x4.2.2.2.2))[p.2.1.toNat]?).bind fun x5 => (laws_markText.f k (IntKind.i64.wrap ((IntKind.i64.wrap ((IntKind.i64.wrap ((IntKind.i64.wrap ((IntKind.i64.wrap (p.1 + (1 : Int))) + (1 : Int))) + (1 : Int))) + (1 : Int))) + (1 : Int)))).bind fun r6 => (bif ((decide ((0 : Int) ≤ p.2.1)) && (decide (p.2.1 < ((((((p.2.2.set p.2.1.toNat (p.1, x1.2)).set p.2.1.toNat (x2.1, (IntKind.i64.wrap (p.1 + (1 : Int))), x2.2.2)).set p.2.1.toNat (x3.1, x3.2.1, (IntKind.i64.wrap ((IntKind.i64.wrap (p.1 + (1 : Int))) + (1 : Int))), x3.2.2.2)).set p.2.1.toNat (x4.1, x4.2.1, x4.2.2.1, (IntKind.i64.wrap ((IntKind.i64.wrap ((IntKind.i64.wrap (p.1 + (1 : Int))) + (1 : Int))) + (1 : Int))), x4.2.2.2.2)).set p.2.1.toNat (x5.1, x5.2.1, x5.2.2.1, x5.2.2.2.1, (IntKind.i64.wrap ((IntKind.i64.wrap ((IntKind.i64.wrap ((IntKind.i64.wrap (p.1 + (1 : Int))) + (1 : Int))) + (1 : Int))) + (1 : Int))), x5.2.2.2.2.2)).length : Int)))) then ((((((p.2.2.set p.2.1.toNat (p.1, x1.2)).set p.2.1.toNat (x2.1, (IntKind.i64.wrap (p.1 + (1 : Int))), x2.2.2)).set p.2.1.toNat (x3.1, x3.2.1, (IntKind.i64.wrap ((IntKind.i64.wrap (p.1 + (1 : Int))) + (1 : Int))), x3.2.2.2)).set p.2.1.toNat (x4.1, x4.2.1, x4.2.2.1, (IntKind.i64.wrap ((IntKind.i64.wrap ((IntKind.i64.wrap (p.1 + (1 : Int))) + (1 : Int))) + (1 : Int))), x4.2.2.2.2)).set p.2.1.toNat (x5.1, x5.2.1, x5.2.2.1, x5.2.2.2.1, (IntKind.i64.wrap ((IntKind.i64.wrap ((IntKind.i64.wrap ((IntKind.i64.wrap (p.1 + (1 : Int))) + (1 : Int))) + (1 : Int))) + (1 : Int))), x5.2.2.2.2.2))[p.2.1.toNat]?).bind fun x7 => (laws_markText.f k (IntKind.i64.wrap ((IntKind.i64.wrap ((IntKind.i64.wrap ((IntKind.i64.wrap ((IntKind.i64.wrap ((IntKind.i64.wrap (p.1 + (1 : Int))) + (1 : Int))) + (1 : Int))) + (1 : Int))) + (1 : Int))) + (1 : Int)))).bind fun r8 => (bif ((decide ((0 : Int) ≤ p.2.1)) && (decide (p.2.1 < (((((((p.2.2.set p.2.1.toNat (p.1, x1.2)).set p.2.1.toNat (x2.1, (IntKind.i64.wrap (p.1 + (1 : Int))), x2.2.2)).set p.2.1.toNat (x3.1, x3.2.1, (IntKind.i64.wrap ((IntKind.i64.wrap (p.1 + (1 : Int))) + (1 : Int))), x3.2.2.2)).set p.2.1.toNat (x4.1, x4.2.1, x4.2.2.1, (IntKind.i64.wrap ((IntKind.i64.wrap ((IntKind.i64.wrap (p.1 + (1 : Int))) + (1 : Int))) + (1 : Int))), x4.2.2.2.2)).set p.2.1.toNat (x5.1, x5.2.1, x5.2.2.1, x5.2.2.2.1, (IntKind.i64.wrap ((IntKind.i64.wrap ((IntKind.i64.wrap ((IntKind.i64.wrap (p.1 + (1 : Int))) + (1 : Int))) + (1 : Int))) + (1 : Int))), x5.2.2.2.2.2)).set p.2.1.toNat (x7.1, x7.2.1, x7.2.2.1, x7.2.2.2.1, x7.2.2.2.2.1, r6, x7.2.2.2.2.2.2)).length : Int)))) then (((((((p.2.2.set p.2.1.toNat (p.1, x1.2)).set p.2.1.toNat (x2.1, (IntKind.i64.wrap (p.1 + (1 : Int))), x2.2.2)).set p.2.1.toNat (x3.1, x3.2.1, (IntKind.i64.wrap ((IntKind.i64.wrap (p.1 + (1 : Int))) + (1 : Int))), x3.2.2.2)).set p.2.1.toNat (x4.1, x4.2.1, x4.2.2.1, (IntKind.i64.wrap ((IntKind.i64.wrap ((IntKind.i64.wrap (p.1 + (1 : Int))) + (1 : Int))) + (1 : Int))), x4.2.2.2.2)).set p.2.1.toNat (x5.1, x5.2.1, x5.2.2.1, x5.2.2.2.1, (IntKind.i64.wrap ((IntKind.i64.wrap ((IntKind.i64.wrap ((IntKind.i64.wrap (p.1 + (1 : Int))) + (1 : Int))) + (1 : Int))) + (1 : Int))), x5.2.2.2.2.2)).set p.2.1.toNat (x7.1, x7.2.1, x7.2.2.1, x7.2.2.2.1, x7.2.2.2.2.1, r6, x7.2.2.2.2.2.2))[p.2.1.toNat]?).bind fun x9 => rec0 ((IntKind.i64.wrap ((IntKind.i64.wrap ((IntKind.i64.wrap ((IntKind.i64.wrap ((IntKind.i64.wrap ((IntKind.i64.wrap ((IntKind.i64.wrap (p.1 + (1 : Int))) + (1 : Int))) + (1 : Int))) + (1 : Int))) + (1 : Int))) + (1 : Int))) + (1 : Int))), (IntKind.i64.wrap (p.2.1 + (1 : Int))), (((((((p.2.2.set p.2.1.toNat (p.1, x1.2)).set p.2.1.toNat (x2.1, (IntKind.i64.wrap (p.1 + (1 : Int))), x2.2.2)).set p.2.1.toNat (x3.1, x3.2.1, (IntKind.i64.wrap ((IntKind.i64.wrap (p.1 + (1 : Int))) + (1 : Int))), x3.2.2.2)).set p.2.1.toNat (x4.1, x4.2.1, x4.2.2.1, (IntKind.i64.wrap ((IntKind.i64.wrap ((IntKind.i64.wrap (p.1 + (1 : Int))) + (1 : Int))) + (1 : Int))), x4.2.2.2.2)).set p.2.1.toNat (x5.1, x5.2.1, x5.2.2.1, x5.2.2.2.1, (IntKind.i64.wrap ((IntKind.i64.wrap ((IntKind.i64.wrap ((IntKind.i64.wrap (p.1 + (1 : Int))) + (1 : Int))) + (1 : Int))) + (1 : Int))), x5.2.2.2.2.2)).set p.2.1.toNat (x7.1, x7.2.1, x7.2.2.1, x7.2.2.2.1, x7.2.2.2.2.1, r6, x7.2.2.2.2.2.2)).set p.2.1.toNat (x9.1, x9.2.1, x9.2.2.1, x9.2.2.2.1, x9.2.2.2.2.1, x9.2.2.2.2.2.1, r8))) else none) else none) else none) else none) else none) else none) else none) else some (p.1, p.2.2))
def laws_markGreeterS.l0 (k : Nat) : Nat → (Int × Int × (List (Int × Int × Int × Int × Int × ByteArray × ByteArray))) → Option (Int × (List (Int × Int × Int × Int × Int × ByteArray × ByteArray)))
  | 0 => fun _ => none
  | j + 1 => laws_markGreeterS.s0 k (laws_markGreeterS.l0 k j)
def laws_markGreeterS.S0 (p : (Int × Int × (List (Int × Int × Int × Int × Int × ByteArray × ByteArray)))) : DS := ⟨tl [(0, .at (.whole 0)), (1, .at (.int .i64 p.1)), (5, .at (.int .i64 p.2.1))], lookO [(0, .row 32 (.two (.int .i64) (.two (.int .i64) (.two (.int .i64) (.two (.int .i64) (.two (.int .i64) (.two .str .str)))))) true p.2.2)]⟩
noncomputable def laws_markGreeterS.D0 (k : Nat) (j : Nat) (p : (Int × Int × (List (Int × Int × Int × Int × Int × ByteArray × ByteArray)))) : Option (Int × (List (Int × Int × Int × Int × Int × ByteArray × ByteArray))) := loopK (normK [0] (laws_markGreeterS.h 0)) (runK laws_markGreeterS.x k 0 [0] laws_markGreeterS.h 0 (sub laws_markGreeterS.c [1, 0, 1, 0, 0])) j (laws_markGreeterS.S0 p) (kBlk 0 (kSeq (runK laws_markGreeterS.x k 0 [0] laws_markGreeterS.h 0 (sub laws_markGreeterS.c [1, 1])) (fin tt laws_markGreeterS.ps laws_markGreeterS.rs laws_markGreeterS.vs (.two (.int .i64) (.sl 32 (.two (.int .i64) (.two (.int .i64) (.two (.int .i64) (.two (.int .i64) (.two (.int .i64) (.two .str .str)))))))))))
theorem laws_markGreeterS.D0_eq (k : Nat) : ∀ j, laws_markGreeterS.D0 k j = laws_markGreeterS.l0 k j := by
  intro j
  induction j with
  | zero => rfl
  | succ j ih =>
    show _ = laws_markGreeterS.s0 k (laws_markGreeterS.l0 k j)
    rw [← ih]
    funext p
    kernel_rfl
def laws_markGreeterS.f (k : Nat) (a0 : List (Int × Int × Int × Int × Int × ByteArray × ByteArray)) (a1 : Int) : Option (Int × (List (Int × Int × Int × Int × Int × ByteArray × ByteArray))) :=
  laws_markGreeterS.l0 k k (a1, (0 : Int), a0)
def laws_markGreeterS.K : Ctr := ⟨laws_markGreeterS.ps, laws_markGreeterS.rs, false, (.two (.sl 32 (.two (.int .i64) (.two (.int .i64) (.two (.int .i64) (.two (.int .i64) (.two (.int .i64) (.two .str .str))))))) (.int .i64)), (.two (.int .i64) (.sl 32 (.two (.int .i64) (.two (.int .i64) (.two (.int .i64) (.two (.int .i64) (.two (.int .i64) (.two .str .str)))))))), fun k x => laws_markGreeterS.f k x.1 x.2⟩
theorem laws_markGreeterS.eq (k : Nat) (x : (laws_markGreeterS.K.I).den) : func laws_markGreeterS.x laws_markGreeterS.h laws_markGreeterS.ps laws_markGreeterS.rs laws_markGreeterS.vs laws_markGreeterS.K.I laws_markGreeterS.K.O laws_markGreeterS.c k x = laws_markGreeterS.K.run k x := by
  show _ = laws_markGreeterS.f k x.1 x.2
  unfold laws_markGreeterS.f
  rw [← laws_markGreeterS.D0_eq k k]
  kernel_rfl
theorem laws_markGreeterS.ok : CtrOk Tryz.prog 19 laws_markGreeterS.K :=
  CtrOk.of (fn := Tryz.f19) (cd := laws_markGreeterS.c) (cx := laws_markGreeterS.x) (hs := laws_markGreeterS.h) (by kernel_rfl) (by kernel_rfl) (by kernel_rfl) (by kernel_rfl) tt_ok (envOk_cons laws_markText.ok (envOk_nil)) (by kernel_rfl) (by kernel_rfl) (by kernel_rfl) (by kernel_rfl) fun k x r h => (laws_markGreeterS.eq k x).trans h
/-! laws.heldGreeterS -/
noncomputable def laws_heldGreeterS.c : Code := bodyOf Tryz.f20
def laws_heldGreeterS.h : Nat → Hint := look ⟨[], [], []⟩ [(0, ⟨[0, 1, 5], [], []⟩)]
def laws_heldGreeterS.ps : List PK := [.one, .one]
def laws_heldGreeterS.rs : List RK := [.one true]
def laws_heldGreeterS.vs : List ResultVar := [.tmp 4]
def laws_heldGreeterS.x : Cx := ⟨tt, look none [(41, some laws_markText.K)]⟩
def laws_heldGreeterS.s0 (k : Nat) (rec0 : (Int × Int × (List (Int × Int × Int × Int × Int × ByteArray × ByteArray))) → Option (Int)) (p : (Int × Int × (List (Int × Int × Int × Int × Int × ByteArray × ByteArray)))) : Option (Int) :=
  (bif (decide (p.2.1 < (p.2.2.length : Int))) then (bif ((decide ((0 : Int) ≤ p.2.1)) && (decide (p.2.1 < (p.2.2.length : Int)))) then (p.2.2[p.2.1.toNat]?).bind fun x1 => (bif (x1.1 != p.1) then some (-1 : Int) else (bif ((decide ((0 : Int) ≤ p.2.1)) && (decide (p.2.1 < (p.2.2.length : Int)))) then (p.2.2[p.2.1.toNat]?).bind fun x2 => (bif (x2.2.1 != (IntKind.i64.wrap (p.1 + (1 : Int)))) then some (-1 : Int) else (bif ((decide ((0 : Int) ≤ p.2.1)) && (decide (p.2.1 < (p.2.2.length : Int)))) then (p.2.2[p.2.1.toNat]?).bind fun x3 => (bif (x3.2.2.1 != (IntKind.i64.wrap ((IntKind.i64.wrap (p.1 + (1 : Int))) + (1 : Int)))) then some (-1 : Int) else (bif ((decide ((0 : Int) ≤ p.2.1)) && (decide (p.2.1 < (p.2.2.length : Int)))) then (p.2.2[p.2.1.toNat]?).bind fun x4 => (bif (x4.2.2.2.1 != (IntKind.i64.wrap ((IntKind.i64.wrap ((IntKind.i64.wrap (p.1 + (1 : Int))) + (1 : Int))) + (1 : Int)))) then some (-1 : Int) else (bif ((decide ((0 : Int) ≤ p.2.1)) && (decide (p.2.1 < (p.2.2.length : Int)))) then (p.2.2[p.2.1.toNat]?).bind fun x5 => (bif (x5.2.2.2.2.1 != (IntKind.i64.wrap ((IntKind.i64.wrap ((IntKind.i64.wrap ((IntKind.i64.wrap (p.1 + (1 : Int))) + (1 : Int))) + (1 : Int))) + (1 : Int)))) then some (-1 : Int) else (bif ((decide ((0 : Int) ≤ p.2.1)) && (decide (p.2.1 < (p.2.2.length : Int)))) then (p.2.2[p.2.1.toNat]?).bind fun x6 => (laws_markText.f k (IntKind.i64.wrap ((IntKind.i64.wrap ((IntKind.i64.wrap ((IntKind.i64.wrap ((IntKind.i64.wrap (p.1 + (1 : Int))) + (1 : Int))) + (1 : Int))) + (1 : Int))) + (1 : Int)))).bind fun r7 => (bif (!(x6.2.2.2.2.2.1.toList == r7.toList)) then some (-1 : Int) else (bif ((decide ((0 : Int) ≤ p.2.1)) && (decide (p.2.1 < (p.2.2.length : Int)))) then (p.2.2[p.2.1.toNat]?).bind fun x8 => (laws_markText.f k (IntKind.i64.wrap ((IntKind.i64.wrap ((IntKind.i64.wrap ((IntKind.i64.wrap ((IntKind.i64.wrap ((IntKind.i64.wrap (p.1 + (1 : Int))) + (1 : Int))) + (1 : Int))) + (1 : Int))) + (1 : Int))) + (1 : Int)))).bind fun r9 => (bif (!(x8.2.2.2.2.2.2.toList == r9.toList)) then some (-1 : Int) else rec0 ((IntKind.i64.wrap ((IntKind.i64.wrap ((IntKind.i64.wrap ((IntKind.i64.wrap ((IntKind.i64.wrap ((IntKind.i64.wrap ((IntKind.i64.wrap (p.1 + (1 : Int))) + (1 : Int))) + (1 : Int))) + (1 : Int))) + (1 : Int))) + (1 : Int))) + (1 : Int))), (IntKind.i64.wrap (p.2.1 + (1 : Int))), p.2.2)) else none)) else none)) else none)) else none)) else none)) else none)) else none) else some p.1)
def laws_heldGreeterS.l0 (k : Nat) : Nat → (Int × Int × (List (Int × Int × Int × Int × Int × ByteArray × ByteArray))) → Option (Int)
  | 0 => fun _ => none
  | j + 1 => laws_heldGreeterS.s0 k (laws_heldGreeterS.l0 k j)
def laws_heldGreeterS.S0 (p : (Int × Int × (List (Int × Int × Int × Int × Int × ByteArray × ByteArray)))) : DS := ⟨tl [(0, .at (.whole 0)), (1, .at (.int .i64 p.1)), (5, .at (.int .i64 p.2.1))], lookO [(0, .row 32 (.two (.int .i64) (.two (.int .i64) (.two (.int .i64) (.two (.int .i64) (.two (.int .i64) (.two .str .str)))))) false p.2.2)]⟩
noncomputable def laws_heldGreeterS.D0 (k : Nat) (j : Nat) (p : (Int × Int × (List (Int × Int × Int × Int × Int × ByteArray × ByteArray)))) : Option (Int) := loopK (normK [0] (laws_heldGreeterS.h 0)) (runK laws_heldGreeterS.x k 0 [0] laws_heldGreeterS.h 0 (sub laws_heldGreeterS.c [1, 0, 1, 0, 0])) j (laws_heldGreeterS.S0 p) (kBlk 0 (kSeq (runK laws_heldGreeterS.x k 0 [0] laws_heldGreeterS.h 0 (sub laws_heldGreeterS.c [1, 1])) (fin tt laws_heldGreeterS.ps laws_heldGreeterS.rs laws_heldGreeterS.vs (.int .i64))))
theorem laws_heldGreeterS.D0_eq (k : Nat) : ∀ j, laws_heldGreeterS.D0 k j = laws_heldGreeterS.l0 k j := by
  intro j
  induction j with
  | zero => rfl
  | succ j ih =>
    show _ = laws_heldGreeterS.s0 k (laws_heldGreeterS.l0 k j)
    rw [← ih]
    funext p
    kernel_rfl
def laws_heldGreeterS.f (k : Nat) (a0 : List (Int × Int × Int × Int × Int × ByteArray × ByteArray)) (a1 : Int) : Option (Int) :=
  laws_heldGreeterS.l0 k k (a1, (0 : Int), a0)
def laws_heldGreeterS.K : Ctr := ⟨laws_heldGreeterS.ps, laws_heldGreeterS.rs, false, (.two (.sl 32 (.two (.int .i64) (.two (.int .i64) (.two (.int .i64) (.two (.int .i64) (.two (.int .i64) (.two .str .str))))))) (.int .i64)), (.int .i64), fun k x => laws_heldGreeterS.f k x.1 x.2⟩
theorem laws_heldGreeterS.eq (k : Nat) (x : (laws_heldGreeterS.K.I).den) : func laws_heldGreeterS.x laws_heldGreeterS.h laws_heldGreeterS.ps laws_heldGreeterS.rs laws_heldGreeterS.vs laws_heldGreeterS.K.I laws_heldGreeterS.K.O laws_heldGreeterS.c k x = laws_heldGreeterS.K.run k x := by
  show _ = laws_heldGreeterS.f k x.1 x.2
  unfold laws_heldGreeterS.f
  rw [← laws_heldGreeterS.D0_eq k k]
  kernel_rfl
theorem laws_heldGreeterS.ok : CtrOk Tryz.prog 20 laws_heldGreeterS.K :=
  CtrOk.of (fn := Tryz.f20) (cd := laws_heldGreeterS.c) (cx := laws_heldGreeterS.x) (hs := laws_heldGreeterS.h) (by kernel_rfl) (by kernel_rfl) (by kernel_rfl) (by kernel_rfl) tt_ok (envOk_cons laws_markText.ok (envOk_nil)) (by kernel_rfl) (by kernel_rfl) (by kernel_rfl) (by kernel_rfl) fun k x r h => (laws_heldGreeterS.eq k x).trans h
/-! laws.FnExactGreeting -/
noncomputable def laws_FnExactGreeting.c : Code := bodyOf Tryz.f4
def laws_FnExactGreeting.h : Nat → Hint := look ⟨[], [], []⟩ []
def laws_FnExactGreeting.ps : List PK := [.one, .one]
def laws_FnExactGreeting.rs : List RK := [.one true]
def laws_FnExactGreeting.vs : List ResultVar := [.tmp 4]
def laws_FnExactGreeting.x : Cx := ⟨tt, look none [(11, some laws_szStringS.K), (12, some laws_toStringS.K), (13, some laws_toIntS.K), (8, some spec_Greeting.K), (7, some impl_Greeting.K), (14, some laws_eqGreeterS.K), (15, some laws_eqStringS.K), (16, some laws_eqIntS.K), (17, some laws_markStringS.K), (18, some laws_markIntS.K), (19, some laws_markGreeterS.K), (20, some laws_heldGreeterS.K)]⟩
def laws_FnExactGreeting.f (k : Nat) (a0 : List (ByteArray)) (a1 : List (Int)) : Option (Bool) :=
  (bif (decide ((a1.length : Int) > (1048576 : Int))) then some true else (laws_szStringS.f k a0 (1048576 : Int)).bind fun r1 => (bif (decide (r1 < (0 : Int))) then some true else (laws_toStringS.f k a0).bind fun r2 => (laws_toIntS.f k a1).bind fun r3 => (spec_Greeting.f k r2 r3).bind fun r4 => (laws_toStringS.f k a0).bind fun r5 => (laws_toIntS.f k a1).bind fun r6 => (impl_Greeting.f k r5 r6).bind fun r7 => (laws_eqGreeterS.f k r7.1 r4.1).bind fun r8 => (bif (!r8) then some false else (bif (!(r7.2 == r4.2)) then some false else (laws_toStringS.f k a0).bind fun r9 => (laws_eqStringS.f k r5 r9).bind fun r10 => (bif (!r10) then some false else (laws_toIntS.f k a1).bind fun r11 => (laws_eqIntS.f k r6 r11).bind fun r12 => (bif (!r12) then some false else (laws_markStringS.f k r5 (1 : Int)).bind fun r13 => (laws_markIntS.f k r6 r13.1).bind fun r14 => (bif (decide (r14.1 < (0 : Int))) then some false else (laws_eqGreeterS.f k r7.1 r4.1).bind fun r15 => (bif (!r15) then some false else (bif (!(r7.2 == r4.2)) then some false else (laws_markGreeterS.f k r7.1 (1 : Int)).bind fun r16 => (laws_heldGreeterS.f k r16.2 (1 : Int)).bind fun r17 => (bif (decide (r17 < (0 : Int))) then some false else (bif (r17 != r16.1) then some false else (laws_toStringS.f k a0).bind fun r18 => (laws_toIntS.f k a1).bind fun r19 => (impl_Greeting.f k r18 r19).bind fun r20 => (laws_eqGreeterS.f k r20.1 r4.1).bind fun r21 => (bif (!r21) then some false else (bif (!(r20.2 == r4.2)) then some false else (laws_heldGreeterS.f k r16.2 (1 : Int)).bind fun r22 => (bif (decide (r22 < (0 : Int))) then some false else (bif (r22 != r16.1) then some false else some true)))))))))))))))
def laws_FnExactGreeting.K : Ctr := ⟨laws_FnExactGreeting.ps, laws_FnExactGreeting.rs, false, (.two (.sl 9 .str) (.sl 3 (.int .i64))), .bool, fun k x => laws_FnExactGreeting.f k x.1 x.2⟩
theorem laws_FnExactGreeting.eq (k : Nat) (x : (laws_FnExactGreeting.K.I).den) : func laws_FnExactGreeting.x laws_FnExactGreeting.h laws_FnExactGreeting.ps laws_FnExactGreeting.rs laws_FnExactGreeting.vs laws_FnExactGreeting.K.I laws_FnExactGreeting.K.O laws_FnExactGreeting.c k x = laws_FnExactGreeting.K.run k x := by
  show _ = laws_FnExactGreeting.f k x.1 x.2
  kernel_rfl
theorem laws_FnExactGreeting.ok : CtrOk Tryz.prog 4 laws_FnExactGreeting.K :=
  CtrOk.of (fn := Tryz.f4) (cd := laws_FnExactGreeting.c) (cx := laws_FnExactGreeting.x) (hs := laws_FnExactGreeting.h) (by kernel_rfl) (by kernel_rfl) (by kernel_rfl) (by kernel_rfl) tt_ok (envOk_cons laws_szStringS.ok (envOk_cons laws_toStringS.ok (envOk_cons laws_toIntS.ok (envOk_cons spec_Greeting.ok (envOk_cons impl_Greeting.ok (envOk_cons laws_eqGreeterS.ok (envOk_cons laws_eqStringS.ok (envOk_cons laws_eqIntS.ok (envOk_cons laws_markStringS.ok (envOk_cons laws_markIntS.ok (envOk_cons laws_markGreeterS.ok (envOk_cons laws_heldGreeterS.ok (envOk_nil))))))))))))) (by kernel_rfl) (by kernel_rfl) (by kernel_rfl) (by kernel_rfl) fun k x r h => (laws_FnExactGreeting.eq k x).trans h
end Go.Proofs.YtpinehfjimphmaaGreat.DI
