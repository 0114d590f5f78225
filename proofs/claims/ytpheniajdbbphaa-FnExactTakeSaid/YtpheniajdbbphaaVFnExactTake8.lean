/- FnExactTake: functions as plain Lean, in the machine of values. -/
import Derived.Test.YtpheniajdbbphaaVFnExactTake7
namespace Go.Proofs.Ytpheniajdbbphaa.DI
open Go
set_option linter.unusedVariables false
/-! laws.heldStringS -/
noncomputable def laws_heldStringS.c : Code := bodyOf Try.f61
def laws_heldStringS.h : Nat → Hint := look ⟨[], [], []⟩ [(0, ⟨[0, 1, 5], [], []⟩)]
def laws_heldStringS.ps : List PK := [.one, .one]
def laws_heldStringS.rs : List RK := [.one true]
def laws_heldStringS.vs : List ResultVar := [.tmp 4]
def laws_heldStringS.x : Cx := ⟨tt, look none [(80, some laws_markText.K)]⟩
def laws_heldStringS.s0 (k : Nat) (rec0 : (Int × Int × (List (ByteArray))) → Option (Int)) (p : (Int × Int × (List (ByteArray)))) : Option (Int) :=
  (bif (decide (p.2.1 < (p.2.2.length : Int))) then (bif ((decide ((0 : Int) ≤ p.2.1)) && (decide (p.2.1 < (p.2.2.length : Int)))) then (p.2.2[p.2.1.toNat]?).bind fun x1 => (laws_markText.f k p.1).bind fun r2 => (bif (!(x1.toList == r2.toList)) then some (-1 : Int) else rec0 ((IntKind.i64.wrap (p.1 + (1 : Int))), (IntKind.i64.wrap (p.2.1 + (1 : Int))), p.2.2)) else none) else some p.1)
def laws_heldStringS.l0 (k : Nat) : Nat → (Int × Int × (List (ByteArray))) → Option (Int)
  | 0 => fun _ => none
  | j + 1 => laws_heldStringS.s0 k (laws_heldStringS.l0 k j)
def laws_heldStringS.S0 (p : (Int × Int × (List (ByteArray)))) : DS := ⟨tl [(0, .at (.whole 0)), (1, .at (.int .i64 p.1)), (5, .at (.int .i64 p.2.1))], lookO [(0, .row 9 .str false p.2.2)]⟩
noncomputable def laws_heldStringS.D0 (k : Nat) (j : Nat) (p : (Int × Int × (List (ByteArray)))) : Option (Int) := loopK (norm [0] (laws_heldStringS.h 0)) (runK laws_heldStringS.x k 0 [0] laws_heldStringS.h 0 (sub laws_heldStringS.c [1, 0, 1, 0, 0])) j (laws_heldStringS.S0 p) (kBlk 0 (kSeq (runK laws_heldStringS.x k 0 [0] laws_heldStringS.h 0 (sub laws_heldStringS.c [1, 1])) (fin tt laws_heldStringS.ps laws_heldStringS.rs laws_heldStringS.vs (.int .i64))))
theorem laws_heldStringS.D0_eq (k : Nat) : ∀ j, laws_heldStringS.D0 k j = laws_heldStringS.l0 k j := by
  intro j
  induction j with
  | zero => rfl
  | succ j ih =>
    show _ = laws_heldStringS.s0 k (laws_heldStringS.l0 k j)
    rw [← ih]
    funext p
    kernel_rfl
def laws_heldStringS.f (k : Nat) (a0 : List (ByteArray)) (a1 : Int) : Option (Int) :=
  laws_heldStringS.l0 k k (a1, (0 : Int), a0)
def laws_heldStringS.K : Ctr := ⟨laws_heldStringS.ps, laws_heldStringS.rs, false, (.two (.sl 9 .str) (.int .i64)), (.int .i64), fun k x => laws_heldStringS.f k x.1 x.2⟩
theorem laws_heldStringS.eq (k : Nat) (x : (laws_heldStringS.K.I).den) : func laws_heldStringS.x laws_heldStringS.h laws_heldStringS.ps laws_heldStringS.rs laws_heldStringS.vs laws_heldStringS.K.I laws_heldStringS.K.O laws_heldStringS.c k x = laws_heldStringS.K.run k x := by
  show _ = laws_heldStringS.f k x.1 x.2
  unfold laws_heldStringS.f
  rw [← laws_heldStringS.D0_eq k k]
  kernel_rfl
theorem laws_heldStringS.ok : CtrOk Try.prog 61 laws_heldStringS.K :=
  CtrOk.of (fn := Try.f61) (cd := laws_heldStringS.c) (cx := laws_heldStringS.x) (hs := laws_heldStringS.h) (by kernel_rfl) (by kernel_rfl) (by kernel_rfl) (by kernel_rfl) tt_ok (envOk_cons laws_markText.ok (envOk_nil)) (by kernel_rfl) (by kernel_rfl) (by kernel_rfl) (by kernel_rfl) fun k x r h => (laws_heldStringS.eq k x).trans h
/-! laws.heldPendingS -/
noncomputable def laws_heldPendingS.c : Code := bodyOf Try.f62
def laws_heldPendingS.h : Nat → Hint := look ⟨[], [], []⟩ [(0, ⟨[0, 1, 5], [], []⟩)]
def laws_heldPendingS.ps : List PK := [.one, .one]
def laws_heldPendingS.rs : List RK := [.one true]
def laws_heldPendingS.vs : List ResultVar := [.tmp 4]
def laws_heldPendingS.x : Cx := ⟨tt, look none [(80, some laws_markText.K)]⟩
def laws_heldPendingS.s0 (k : Nat) (rec0 : (Int × Int × (List (Int × ByteArray × Int × Int))) → Option (Int)) (p : (Int × Int × (List (Int × ByteArray × Int × Int)))) : Option (Int) :=
  (bif (decide (p.2.1 < (p.2.2.length : Int))) then (bif ((decide ((0 : Int) ≤ p.2.1)) && (decide (p.2.1 < (p.2.2.length : Int)))) then (p.2.2[p.2.1.toNat]?).bind fun x1 => (bif (x1.1 != p.1) then some (-1 : Int) else (bif ((decide ((0 : Int) ≤ p.2.1)) && (decide (p.2.1 < (p.2.2.length : Int)))) then (p.2.2[p.2.1.toNat]?).bind fun x2 => (laws_markText.f k (IntKind.i64.wrap (p.1 + (1 : Int)))).bind fun r3 => (bif (!(x2.2.1.toList == r3.toList)) then some (-1 : Int) else (bif ((decide ((0 : Int) ≤ p.2.1)) && (decide (p.2.1 < (p.2.2.length : Int)))) then (p.2.2[p.2.1.toNat]?).bind fun x4 => (bif (x4.2.2.1 != (IntKind.i64.wrap ((IntKind.i64.wrap (p.1 + (1 : Int))) + (1 : Int)))) then some (-1 : Int) else (bif ((decide ((0 : Int) ≤ p.2.1)) && (decide (p.2.1 < (p.2.2.length : Int)))) then (p.2.2[p.2.1.toNat]?).bind fun x5 => (bif (x5.2.2.2 != (IntKind.i64.wrap ((IntKind.i64.wrap ((IntKind.i64.wrap (p.1 + (1 : Int))) + (1 : Int))) + (1 : Int)))) then some (-1 : Int) else rec0 ((IntKind.i64.wrap ((IntKind.i64.wrap ((IntKind.i64.wrap ((IntKind.i64.wrap (p.1 + (1 : Int))) + (1 : Int))) + (1 : Int))) + (1 : Int))), (IntKind.i64.wrap (p.2.1 + (1 : Int))), p.2.2)) else none)) else none)) else none)) else none) else some p.1)
def laws_heldPendingS.l0 (k : Nat) : Nat → (Int × Int × (List (Int × ByteArray × Int × Int))) → Option (Int)
  | 0 => fun _ => none
  | j + 1 => laws_heldPendingS.s0 k (laws_heldPendingS.l0 k j)
def laws_heldPendingS.S0 (p : (Int × Int × (List (Int × ByteArray × Int × Int)))) : DS := ⟨tl [(0, .at (.whole 0)), (1, .at (.int .i64 p.1)), (5, .at (.int .i64 p.2.1))], lookO [(0, .row 92 (.two (.int .i64) (.two .str (.two (.int .i64) (.int .i64)))) false p.2.2)]⟩
noncomputable def laws_heldPendingS.D0 (k : Nat) (j : Nat) (p : (Int × Int × (List (Int × ByteArray × Int × Int)))) : Option (Int) := loopK (norm [0] (laws_heldPendingS.h 0)) (runK laws_heldPendingS.x k 0 [0] laws_heldPendingS.h 0 (sub laws_heldPendingS.c [1, 0, 1, 0, 0])) j (laws_heldPendingS.S0 p) (kBlk 0 (kSeq (runK laws_heldPendingS.x k 0 [0] laws_heldPendingS.h 0 (sub laws_heldPendingS.c [1, 1])) (fin tt laws_heldPendingS.ps laws_heldPendingS.rs laws_heldPendingS.vs (.int .i64))))
theorem laws_heldPendingS.D0_eq (k : Nat) : ∀ j, laws_heldPendingS.D0 k j = laws_heldPendingS.l0 k j := by
  intro j
  induction j with
  | zero => rfl
  | succ j ih =>
    show _ = laws_heldPendingS.s0 k (laws_heldPendingS.l0 k j)
    rw [← ih]
    funext p
    kernel_rfl
def laws_heldPendingS.f (k : Nat) (a0 : List (Int × ByteArray × Int × Int)) (a1 : Int) : Option (Int) :=
  laws_heldPendingS.l0 k k (a1, (0 : Int), a0)
def laws_heldPendingS.K : Ctr := ⟨laws_heldPendingS.ps, laws_heldPendingS.rs, false, (.two (.sl 92 (.two (.int .i64) (.two .str (.two (.int .i64) (.int .i64))))) (.int .i64)), (.int .i64), fun k x => laws_heldPendingS.f k x.1 x.2⟩
theorem laws_heldPendingS.eq (k : Nat) (x : (laws_heldPendingS.K.I).den) : func laws_heldPendingS.x laws_heldPendingS.h laws_heldPendingS.ps laws_heldPendingS.rs laws_heldPendingS.vs laws_heldPendingS.K.I laws_heldPendingS.K.O laws_heldPendingS.c k x = laws_heldPendingS.K.run k x := by
  show _ = laws_heldPendingS.f k x.1 x.2
  unfold laws_heldPendingS.f
  rw [← laws_heldPendingS.D0_eq k k]
  kernel_rfl
theorem laws_heldPendingS.ok : CtrOk Try.prog 62 laws_heldPendingS.K :=
  CtrOk.of (fn := Try.f62) (cd := laws_heldPendingS.c) (cx := laws_heldPendingS.x) (hs := laws_heldPendingS.h) (by kernel_rfl) (by kernel_rfl) (by kernel_rfl) (by kernel_rfl) tt_ok (envOk_cons laws_markText.ok (envOk_nil)) (by kernel_rfl) (by kernel_rfl) (by kernel_rfl) (by kernel_rfl) fun k x r h => (laws_heldPendingS.eq k x).trans h
/-! laws.heldEarlyS -/
noncomputable def laws_heldEarlyS.c : Code := bodyOf Try.f63
def laws_heldEarlyS.h : Nat → Hint := look ⟨[], [], []⟩ [(0, ⟨[0, 1, 5], [], []⟩)]
def laws_heldEarlyS.ps : List PK := [.one, .one]
def laws_heldEarlyS.rs : List RK := [.one true]
def laws_heldEarlyS.vs : List ResultVar := [.tmp 4]
def laws_heldEarlyS.x : Cx := ⟨tt, look none [(80, some laws_markText.K)]⟩
def laws_heldEarlyS.s0 (k : Nat) (rec0 : (Int × Int × (List (Int × ByteArray))) → Option (Int)) (p : (Int × Int × (List (Int × ByteArray)))) : Option (Int) :=
  (bif (decide (p.2.1 < (p.2.2.length : Int))) then (bif ((decide ((0 : Int) ≤ p.2.1)) && (decide (p.2.1 < (p.2.2.length : Int)))) then (p.2.2[p.2.1.toNat]?).bind fun x1 => (bif (x1.1 != p.1) then some (-1 : Int) else (bif ((decide ((0 : Int) ≤ p.2.1)) && (decide (p.2.1 < (p.2.2.length : Int)))) then (p.2.2[p.2.1.toNat]?).bind fun x2 => (laws_markText.f k (IntKind.i64.wrap (p.1 + (1 : Int)))).bind fun r3 => (bif (!(x2.2.toList == r3.toList)) then some (-1 : Int) else rec0 ((IntKind.i64.wrap ((IntKind.i64.wrap (p.1 + (1 : Int))) + (1 : Int))), (IntKind.i64.wrap (p.2.1 + (1 : Int))), p.2.2)) else none)) else none) else some p.1)
def laws_heldEarlyS.l0 (k : Nat) : Nat → (Int × Int × (List (Int × ByteArray))) → Option (Int)
  | 0 => fun _ => none
  | j + 1 => laws_heldEarlyS.s0 k (laws_heldEarlyS.l0 k j)
def laws_heldEarlyS.S0 (p : (Int × Int × (List (Int × ByteArray)))) : DS := ⟨tl [(0, .at (.whole 0)), (1, .at (.int .i64 p.1)), (5, .at (.int .i64 p.2.1))], lookO [(0, .row 87 (.two (.int .i64) .str) false p.2.2)]⟩
noncomputable def laws_heldEarlyS.D0 (k : Nat) (j : Nat) (p : (Int × Int × (List (Int × ByteArray)))) : Option (Int) := loopK (norm [0] (laws_heldEarlyS.h 0)) (runK laws_heldEarlyS.x k 0 [0] laws_heldEarlyS.h 0 (sub laws_heldEarlyS.c [1, 0, 1, 0, 0])) j (laws_heldEarlyS.S0 p) (kBlk 0 (kSeq (runK laws_heldEarlyS.x k 0 [0] laws_heldEarlyS.h 0 (sub laws_heldEarlyS.c [1, 1])) (fin tt laws_heldEarlyS.ps laws_heldEarlyS.rs laws_heldEarlyS.vs (.int .i64))))
theorem laws_heldEarlyS.D0_eq (k : Nat) : ∀ j, laws_heldEarlyS.D0 k j = laws_heldEarlyS.l0 k j := by
  intro j
  induction j with
  | zero => rfl
  | succ j ih =>
    show _ = laws_heldEarlyS.s0 k (laws_heldEarlyS.l0 k j)
    rw [← ih]
    funext p
    kernel_rfl
def laws_heldEarlyS.f (k : Nat) (a0 : List (Int × ByteArray)) (a1 : Int) : Option (Int) :=
  laws_heldEarlyS.l0 k k (a1, (0 : Int), a0)
def laws_heldEarlyS.K : Ctr := ⟨laws_heldEarlyS.ps, laws_heldEarlyS.rs, false, (.two (.sl 87 (.two (.int .i64) .str)) (.int .i64)), (.int .i64), fun k x => laws_heldEarlyS.f k x.1 x.2⟩
theorem laws_heldEarlyS.eq (k : Nat) (x : (laws_heldEarlyS.K.I).den) : func laws_heldEarlyS.x laws_heldEarlyS.h laws_heldEarlyS.ps laws_heldEarlyS.rs laws_heldEarlyS.vs laws_heldEarlyS.K.I laws_heldEarlyS.K.O laws_heldEarlyS.c k x = laws_heldEarlyS.K.run k x := by
  show _ = laws_heldEarlyS.f k x.1 x.2
  unfold laws_heldEarlyS.f
  rw [← laws_heldEarlyS.D0_eq k k]
  kernel_rfl
theorem laws_heldEarlyS.ok : CtrOk Try.prog 63 laws_heldEarlyS.K :=
  CtrOk.of (fn := Try.f63) (cd := laws_heldEarlyS.c) (cx := laws_heldEarlyS.x) (hs := laws_heldEarlyS.h) (by kernel_rfl) (by kernel_rfl) (by kernel_rfl) (by kernel_rfl) tt_ok (envOk_cons laws_markText.ok (envOk_nil)) (by kernel_rfl) (by kernel_rfl) (by kernel_rfl) (by kernel_rfl) fun k x r h => (laws_heldEarlyS.eq k x).trans h
/-! laws.heldIntS -/
noncomputable def laws_heldIntS.c : Code := bodyOf Try.f64
def laws_heldIntS.h : Nat → Hint := look ⟨[], [], []⟩ [(0, ⟨[0, 1, 5], [], []⟩)]
def laws_heldIntS.ps : List PK := [.one, .one]
def laws_heldIntS.rs : List RK := [.one true]
def laws_heldIntS.vs : List ResultVar := [.tmp 4]
def laws_heldIntS.x : Cx := ⟨tt, look none []⟩
def laws_heldIntS.s0 (_k : Nat) (rec0 : (Int × Int × (List (Int))) → Option (Int)) (p : (Int × Int × (List (Int)))) : Option (Int) :=
  (bif (decide (p.2.1 < (p.2.2.length : Int))) then (bif ((decide ((0 : Int) ≤ p.2.1)) && (decide (p.2.1 < (p.2.2.length : Int)))) then (p.2.2[p.2.1.toNat]?).bind fun x1 => (bif (x1 != p.1) then some (-1 : Int) else rec0 ((IntKind.i64.wrap (p.1 + (1 : Int))), (IntKind.i64.wrap (p.2.1 + (1 : Int))), p.2.2)) else none) else some p.1)
def laws_heldIntS.l0 (k : Nat) : Nat → (Int × Int × (List (Int))) → Option (Int)
  | 0 => fun _ => none
  | j + 1 => laws_heldIntS.s0 k (laws_heldIntS.l0 k j)
def laws_heldIntS.S0 (p : (Int × Int × (List (Int)))) : DS := ⟨tl [(0, .at (.whole 0)), (1, .at (.int .i64 p.1)), (5, .at (.int .i64 p.2.1))], lookO [(0, .row 3 (.int .i64) false p.2.2)]⟩
noncomputable def laws_heldIntS.D0 (k : Nat) (j : Nat) (p : (Int × Int × (List (Int)))) : Option (Int) := loopK (norm [0] (laws_heldIntS.h 0)) (runK laws_heldIntS.x k 0 [0] laws_heldIntS.h 0 (sub laws_heldIntS.c [1, 0, 1, 0, 0])) j (laws_heldIntS.S0 p) (kBlk 0 (kSeq (runK laws_heldIntS.x k 0 [0] laws_heldIntS.h 0 (sub laws_heldIntS.c [1, 1])) (fin tt laws_heldIntS.ps laws_heldIntS.rs laws_heldIntS.vs (.int .i64))))
theorem laws_heldIntS.D0_eq (k : Nat) : ∀ j, laws_heldIntS.D0 k j = laws_heldIntS.l0 k j := by
  intro j
  induction j with
  | zero => rfl
  | succ j ih =>
    show _ = laws_heldIntS.s0 k (laws_heldIntS.l0 k j)
    rw [← ih]
    funext p
    kernel_rfl
def laws_heldIntS.f (k : Nat) (a0 : List (Int)) (a1 : Int) : Option (Int) :=
  laws_heldIntS.l0 k k (a1, (0 : Int), a0)
def laws_heldIntS.K : Ctr := ⟨laws_heldIntS.ps, laws_heldIntS.rs, false, (.two (.sl 3 (.int .i64)) (.int .i64)), (.int .i64), fun k x => laws_heldIntS.f k x.1 x.2⟩
theorem laws_heldIntS.eq (k : Nat) (x : (laws_heldIntS.K.I).den) : func laws_heldIntS.x laws_heldIntS.h laws_heldIntS.ps laws_heldIntS.rs laws_heldIntS.vs laws_heldIntS.K.I laws_heldIntS.K.O laws_heldIntS.c k x = laws_heldIntS.K.run k x := by
  show _ = laws_heldIntS.f k x.1 x.2
  unfold laws_heldIntS.f
  rw [← laws_heldIntS.D0_eq k k]
  kernel_rfl
theorem laws_heldIntS.ok : CtrOk Try.prog 64 laws_heldIntS.K :=
  CtrOk.of (fn := Try.f64) (cd := laws_heldIntS.c) (cx := laws_heldIntS.x) (hs := laws_heldIntS.h) (by kernel_rfl) (by kernel_rfl) (by kernel_rfl) (by kernel_rfl) tt_ok (envOk_nil) (by kernel_rfl) (by kernel_rfl) (by kernel_rfl) (by kernel_rfl) fun k x r h => (laws_heldIntS.eq k x).trans h
/-! laws.heldChan -/
noncomputable def laws_heldChan.c : Code := bodyOf Try.f20
def laws_heldChan.h : Nat → Hint := look ⟨[], [], []⟩ []
def laws_heldChan.ps : List PK := [.agg 9, .one]
def laws_heldChan.rs : List RK := [.one true]
def laws_heldChan.vs : List ResultVar := [.tmp 4]
def laws_heldChan.x : Cx := ⟨tt, look none [(61, some laws_heldStringS.K), (62, some laws_heldPendingS.K), (63, some laws_heldEarlyS.K), (64, some laws_heldIntS.K)]⟩
def laws_heldChan.f (k : Nat) (_a0_0 : Int) (_a0_1 : Int) (_a0_2 : Int) (a0_3 : List (ByteArray)) (a0_4 : List (Int × ByteArray × Int × Int)) (_a0_5 : Int) (a0_6 : List (Int × ByteArray)) (a0_7 : List (Int)) (a0_8 : List (ByteArray)) (a1 : Int) : Option (Int) :=
  (laws_heldStringS.f k a0_3 a1).bind fun r1 => (bif (decide (r1 < (0 : Int))) then some (-1 : Int) else (laws_heldPendingS.f k a0_4 r1).bind fun r2 => (bif (decide (r2 < (0 : Int))) then some (-1 : Int) else (laws_heldEarlyS.f k a0_6 r2).bind fun r3 => (bif (decide (r3 < (0 : Int))) then some (-1 : Int) else (laws_heldIntS.f k a0_7 r3).bind fun r4 => (bif (decide (r4 < (0 : Int))) then some (-1 : Int) else (laws_heldStringS.f k a0_8 r4).bind fun r5 => (bif (decide (r5 < (0 : Int))) then some (-1 : Int) else some r5)))))
def laws_heldChan.K : Ctr := ⟨laws_heldChan.ps, laws_heldChan.rs, false, (.two (.int .i64) (.two (.int .i64) (.two (.int .i64) (.two (.sl 9 .str) (.two (.sl 92 (.two (.int .i64) (.two .str (.two (.int .i64) (.int .i64))))) (.two (.int .i64) (.two (.sl 87 (.two (.int .i64) .str)) (.two (.sl 3 (.int .i64)) (.two (.sl 9 .str) (.int .i64)))))))))), (.int .i64), fun k x => laws_heldChan.f k x.1 x.2.1 x.2.2.1 x.2.2.2.1 x.2.2.2.2.1 x.2.2.2.2.2.1 x.2.2.2.2.2.2.1 x.2.2.2.2.2.2.2.1 x.2.2.2.2.2.2.2.2.1 x.2.2.2.2.2.2.2.2.2⟩
theorem laws_heldChan.eq (k : Nat) (x : (laws_heldChan.K.I).den) : func laws_heldChan.x laws_heldChan.h laws_heldChan.ps laws_heldChan.rs laws_heldChan.vs laws_heldChan.K.I laws_heldChan.K.O laws_heldChan.c k x = laws_heldChan.K.run k x := by
  show _ = laws_heldChan.f k x.1 x.2.1 x.2.2.1 x.2.2.2.1 x.2.2.2.2.1 x.2.2.2.2.2.1 x.2.2.2.2.2.2.1 x.2.2.2.2.2.2.2.1 x.2.2.2.2.2.2.2.2.1 x.2.2.2.2.2.2.2.2.2
  kernel_rfl
theorem laws_heldChan.ok : CtrOk Try.prog 20 laws_heldChan.K :=
  CtrOk.of (fn := Try.f20) (cd := laws_heldChan.c) (cx := laws_heldChan.x) (hs := laws_heldChan.h) (by kernel_rfl) (by kernel_rfl) (by kernel_rfl) (by kernel_rfl) tt_ok (envOk_cons laws_heldStringS.ok (envOk_cons laws_heldPendingS.ok (envOk_cons laws_heldEarlyS.ok (envOk_cons laws_heldIntS.ok (envOk_nil))))) (by kernel_rfl) (by kernel_rfl) (by kernel_rfl) (by kernel_rfl) fun k x r h => (laws_heldChan.eq k x).trans h
/-! laws.FnExactTake -/
noncomputable def laws_FnExactTake.c : Code := bodyOf Try.f8
def laws_FnExactTake.h : Nat → Hint := look ⟨[], [], []⟩ []
def laws_FnExactTake.ps : List PK := [.agg 9, .agg 7]
def laws_FnExactTake.rs : List RK := [.one true]
def laws_FnExactTake.vs : List ResultVar := [.tmp 4]
def laws_FnExactTake.x : Cx := ⟨tt, look none [(21, some laws_szChan.K), (11, some laws_szPacket.K), (23, some laws_toChan.K), (13, some laws_toPacket.K), (32, some spec_Take.K), (33, some impl_Take.K), (18, some laws_eqChan.K), (15, some laws_eqPacket.K), (19, some laws_markChan.K), (34, some laws_markPacket.K), (20, some laws_heldChan.K)]⟩
def laws_FnExactTake.f (k : Nat) (a0_0 : Int) (a0_1 : Int) (a0_2 : Int) (a0_3 : List (ByteArray)) (a0_4 : List (Int × ByteArray × Int × Int)) (a0_5 : Int) (a0_6 : List (Int × ByteArray)) (a0_7 : List (Int)) (a0_8 : List (ByteArray)) (a1_0 : Int) (a1_1 : Int) (a1_2 : Int) (a1_3 : Int) (a1_4 : Int) (a1_5 : List (Int)) (a1_6 : ByteArray) : Option (Bool) :=
  (laws_szChan.f k a0_0 a0_1 a0_2 a0_3 a0_4 a0_5 a0_6 a0_7 a0_8 (1048576 : Int)).bind fun r1 => (bif (decide (r1 < (0 : Int))) then some true else (laws_szPacket.f k a1_0 a1_1 a1_2 a1_3 a1_4 a1_5 a1_6 r1).bind fun r2 => (bif (decide (r2 < (0 : Int))) then some true else (laws_toChan.f k a0_0 a0_1 a0_2 a0_3 a0_4 a0_5 a0_6 a0_7 a0_8).bind fun r3 => (laws_toPacket.f k a1_0 a1_1 a1_2 a1_3 a1_4 a1_5 a1_6).bind fun r4 => (spec_Take.f k r3.1 r3.2.1 r3.2.2.1 r3.2.2.2.1 r3.2.2.2.2.1 r3.2.2.2.2.2.1 r3.2.2.2.2.2.2.1 r3.2.2.2.2.2.2.2.1 r3.2.2.2.2.2.2.2.2 r4.1 r4.2.1 r4.2.2.1 r4.2.2.2.1 r4.2.2.2.2.1 r4.2.2.2.2.2.1 r4.2.2.2.2.2.2).bind fun r5 => (laws_toChan.f k a0_0 a0_1 a0_2 a0_3 a0_4 a0_5 a0_6 a0_7 a0_8).bind fun r6 => (laws_toPacket.f k a1_0 a1_1 a1_2 a1_3 a1_4 a1_5 a1_6).bind fun r7 => (impl_Take.f k r6.1 r6.2.1 r6.2.2.1 r6.2.2.2.1 r6.2.2.2.2.1 r6.2.2.2.2.2.1 r6.2.2.2.2.2.2.1 r6.2.2.2.2.2.2.2.1 r6.2.2.2.2.2.2.2.2 r7.1 r7.2.1 r7.2.2.1 r7.2.2.2.1 r7.2.2.2.2.1 r7.2.2.2.2.2.1 r7.2.2.2.2.2.2).bind fun r8 => (laws_eqChan.f k r8.1 r8.2.1 r8.2.2.1 r8.2.2.2.1 r8.2.2.2.2.1 r8.2.2.2.2.2.1 r8.2.2.2.2.2.2.1 r8.2.2.2.2.2.2.2.1 r8.2.2.2.2.2.2.2.2.1 r5.1 r5.2.1 r5.2.2.1 r5.2.2.2.1 r5.2.2.2.2.1 r5.2.2.2.2.2.1 r5.2.2.2.2.2.2.1 r5.2.2.2.2.2.2.2.1 r5.2.2.2.2.2.2.2.2.1).bind fun r9 => (bif (!r9) then some false else (bif (!(r8.2.2.2.2.2.2.2.2.2 == r5.2.2.2.2.2.2.2.2.2)) then some false else (laws_toChan.f k a0_0 a0_1 a0_2 a0_3 a0_4 a0_5 a0_6 a0_7 a0_8).bind fun r10 => (laws_eqChan.f k r6.1 r6.2.1 r6.2.2.1 r6.2.2.2.1 r6.2.2.2.2.1 r6.2.2.2.2.2.1 r6.2.2.2.2.2.2.1 r6.2.2.2.2.2.2.2.1 r6.2.2.2.2.2.2.2.2 r10.1 r10.2.1 r10.2.2.1 r10.2.2.2.1 r10.2.2.2.2.1 r10.2.2.2.2.2.1 r10.2.2.2.2.2.2.1 r10.2.2.2.2.2.2.2.1 r10.2.2.2.2.2.2.2.2).bind fun r11 => (bif (!r11) then some false else (laws_toPacket.f k a1_0 a1_1 a1_2 a1_3 a1_4 a1_5 a1_6).bind fun r12 => (laws_eqPacket.f k r7.1 r7.2.1 r7.2.2.1 r7.2.2.2.1 r7.2.2.2.2.1 r7.2.2.2.2.2.1 r7.2.2.2.2.2.2 r12.1 r12.2.1 r12.2.2.1 r12.2.2.2.1 r12.2.2.2.2.1 r12.2.2.2.2.2.1 r12.2.2.2.2.2.2).bind fun r13 => (bif (!r13) then some false else (laws_markChan.f k r6.1 r6.2.1 r6.2.2.1 r6.2.2.2.1 r6.2.2.2.2.1 r6.2.2.2.2.2.1 r6.2.2.2.2.2.2.1 r6.2.2.2.2.2.2.2.1 r6.2.2.2.2.2.2.2.2 (1 : Int)).bind fun r14 => (laws_markPacket.f k r7.1 r7.2.1 r7.2.2.1 r7.2.2.2.1 r7.2.2.2.2.1 r7.2.2.2.2.2.1 r7.2.2.2.2.2.2 r14.1).bind fun r15 => (bif (decide (r15.1 < (0 : Int))) then some false else (laws_eqChan.f k r8.1 r8.2.1 r8.2.2.1 r8.2.2.2.1 r8.2.2.2.2.1 r8.2.2.2.2.2.1 r8.2.2.2.2.2.2.1 r8.2.2.2.2.2.2.2.1 r8.2.2.2.2.2.2.2.2.1 r5.1 r5.2.1 r5.2.2.1 r5.2.2.2.1 r5.2.2.2.2.1 r5.2.2.2.2.2.1 r5.2.2.2.2.2.2.1 r5.2.2.2.2.2.2.2.1 r5.2.2.2.2.2.2.2.2.1).bind fun r16 => (bif (!r16) then some false else (bif (!(r8.2.2.2.2.2.2.2.2.2 == r5.2.2.2.2.2.2.2.2.2)) then some false else (laws_markChan.f k r8.1 r8.2.1 r8.2.2.1 r8.2.2.2.1 r8.2.2.2.2.1 r8.2.2.2.2.2.1 r8.2.2.2.2.2.2.1 r8.2.2.2.2.2.2.2.1 r8.2.2.2.2.2.2.2.2.1 (1 : Int)).bind fun r17 => (laws_heldChan.f k r8.1 r8.2.1 r8.2.2.1 r17.2.1 r17.2.2.1 r8.2.2.2.2.2.1 r17.2.2.2.1 r17.2.2.2.2.1 r17.2.2.2.2.2 (1 : Int)).bind fun r18 => (bif (decide (r18 < (0 : Int))) then some false else (bif (r18 != r17.1) then some false else (laws_toChan.f k a0_0 a0_1 a0_2 a0_3 a0_4 a0_5 a0_6 a0_7 a0_8).bind fun r19 => (laws_toPacket.f k a1_0 a1_1 a1_2 a1_3 a1_4 a1_5 a1_6).bind fun r20 => (impl_Take.f k r19.1 r19.2.1 r19.2.2.1 r19.2.2.2.1 r19.2.2.2.2.1 r19.2.2.2.2.2.1 r19.2.2.2.2.2.2.1 r19.2.2.2.2.2.2.2.1 r19.2.2.2.2.2.2.2.2 r20.1 r20.2.1 r20.2.2.1 r20.2.2.2.1 r20.2.2.2.2.1 r20.2.2.2.2.2.1 r20.2.2.2.2.2.2).bind fun r21 => (laws_eqChan.f k r21.1 r21.2.1 r21.2.2.1 r21.2.2.2.1 r21.2.2.2.2.1 r21.2.2.2.2.2.1 r21.2.2.2.2.2.2.1 r21.2.2.2.2.2.2.2.1 r21.2.2.2.2.2.2.2.2.1 r5.1 r5.2.1 r5.2.2.1 r5.2.2.2.1 r5.2.2.2.2.1 r5.2.2.2.2.2.1 r5.2.2.2.2.2.2.1 r5.2.2.2.2.2.2.2.1 r5.2.2.2.2.2.2.2.2.1).bind fun r22 => (bif (!r22) then some false else (bif (!(r21.2.2.2.2.2.2.2.2.2 == r5.2.2.2.2.2.2.2.2.2)) then some false else (laws_heldChan.f k r8.1 r8.2.1 r8.2.2.1 r17.2.1 r17.2.2.1 r8.2.2.2.2.2.1 r17.2.2.2.1 r17.2.2.2.2.1 r17.2.2.2.2.2 (1 : Int)).bind fun r23 => (bif (decide (r23 < (0 : Int))) then some false else (bif (r23 != r17.1) then some false else some true)))))))))))))))
def laws_FnExactTake.K : Ctr := ⟨laws_FnExactTake.ps, laws_FnExactTake.rs, false, (.two (.int .i64) (.two (.int .i64) (.two (.int .i64) (.two (.sl 9 .str) (.two (.sl 118 (.two (.int .i64) (.two .str (.two (.int .i64) (.int .i64))))) (.two (.int .i64) (.two (.sl 120 (.two (.int .i64) .str)) (.two (.sl 3 (.int .i64)) (.two (.sl 9 .str) (.two (.int .i64) (.two (.int .i64) (.two (.int .i64) (.two (.int .i64) (.two (.int .i64) (.two (.sl 3 (.int .i64)) .str))))))))))))))), .bool, fun k x => laws_FnExactTake.f k x.1 x.2.1 x.2.2.1 x.2.2.2.1 x.2.2.2.2.1 x.2.2.2.2.2.1 x.2.2.2.2.2.2.1 x.2.2.2.2.2.2.2.1 x.2.2.2.2.2.2.2.2.1 x.2.2.2.2.2.2.2.2.2.1 x.2.2.2.2.2.2.2.2.2.2.1 x.2.2.2.2.2.2.2.2.2.2.2.1 x.2.2.2.2.2.2.2.2.2.2.2.2.1 x.2.2.2.2.2.2.2.2.2.2.2.2.2.1 x.2.2.2.2.2.2.2.2.2.2.2.2.2.2.1 x.2.2.2.2.2.2.2.2.2.2.2.2.2.2.2⟩
theorem laws_FnExactTake.eq (k : Nat) (x : (laws_FnExactTake.K.I).den) : func laws_FnExactTake.x laws_FnExactTake.h laws_FnExactTake.ps laws_FnExactTake.rs laws_FnExactTake.vs laws_FnExactTake.K.I laws_FnExactTake.K.O laws_FnExactTake.c k x = laws_FnExactTake.K.run k x := by
  show _ = laws_FnExactTake.f k x.1 x.2.1 x.2.2.1 x.2.2.2.1 x.2.2.2.2.1 x.2.2.2.2.2.1 x.2.2.2.2.2.2.1 x.2.2.2.2.2.2.2.1 x.2.2.2.2.2.2.2.2.1 x.2.2.2.2.2.2.2.2.2.1 x.2.2.2.2.2.2.2.2.2.2.1 x.2.2.2.2.2.2.2.2.2.2.2.1 x.2.2.2.2.2.2.2.2.2.2.2.2.1 x.2.2.2.2.2.2.2.2.2.2.2.2.2.1 x.2.2.2.2.2.2.2.2.2.2.2.2.2.2.1 x.2.2.2.2.2.2.2.2.2.2.2.2.2.2.2
  kernel_rfl
theorem laws_FnExactTake.ok : CtrOk Try.prog 8 laws_FnExactTake.K :=
  CtrOk.of (fn := Try.f8) (cd := laws_FnExactTake.c) (cx := laws_FnExactTake.x) (hs := laws_FnExactTake.h) (by kernel_rfl) (by kernel_rfl) (by kernel_rfl) (by kernel_rfl) tt_ok (envOk_cons laws_szChan.ok (envOk_cons laws_szPacket.ok (envOk_cons laws_toChan.ok (envOk_cons laws_toPacket.ok (envOk_cons spec_Take.ok (envOk_cons impl_Take.ok (envOk_cons laws_eqChan.ok (envOk_cons laws_eqPacket.ok (envOk_cons laws_markChan.ok (envOk_cons laws_markPacket.ok (envOk_cons laws_heldChan.ok (envOk_nil)))))))))))) (by kernel_rfl) (by kernel_rfl) (by kernel_rfl) (by kernel_rfl) fun k x r h => (laws_FnExactTake.eq k x).trans h
end Go.Proofs.Ytpheniajdbbphaa.DI
