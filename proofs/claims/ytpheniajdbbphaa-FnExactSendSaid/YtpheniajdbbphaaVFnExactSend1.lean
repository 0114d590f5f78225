/- FnExactSend: functions as plain Lean, in the machine of values. -/
import Derived.Test.YtpheniajdbbphaaVFnExactSend0
namespace Go.Proofs.Ytpheniajdbbphaa.DI
open Go
set_option linter.unusedVariables false
/-! laws.szStringS -/
noncomputable def laws_szStringS.c : Code := bodyOf Try.f65
def laws_szStringS.h : Nat → Hint := look ⟨[], [], []⟩ [(0, ⟨[0, 1, 5], [], []⟩)]
def laws_szStringS.ps : List PK := [.one, .one]
def laws_szStringS.rs : List RK := [.one true]
def laws_szStringS.vs : List ResultVar := [.tmp 4]
def laws_szStringS.x : Cx := ⟨tt, look none []⟩
def laws_szStringS.s0 (_k : Nat) (rec0 : (Int × Int × (List (ByteArray))) → Option (Int)) (p : (Int × Int × (List (ByteArray)))) : Option (Int) :=
  (bif (decide (p.2.1 < (p.2.2.length : Int))) then (bif ((decide ((0 : Int) ≤ p.2.1)) && (decide (p.2.1 < (p.2.2.length : Int)))) then (p.2.2[p.2.1.toNat]?).bind fun x1 => (bif (decide ((IntKind.i64.wrap (p.1 - (x1.size : Int))) < (0 : Int))) then some (-1 : Int) else rec0 ((IntKind.i64.wrap (p.1 - (x1.size : Int))), (IntKind.i64.wrap (p.2.1 + (1 : Int))), p.2.2)) else none) else some p.1)
def laws_szStringS.l0 (k : Nat) : Nat → (Int × Int × (List (ByteArray))) → Option (Int)
  | 0 => fun _ => none
  | j + 1 => laws_szStringS.s0 k (laws_szStringS.l0 k j)
def laws_szStringS.S0 (p : (Int × Int × (List (ByteArray)))) : DS := ⟨tl [(0, .at (.whole 0)), (1, .at (.int .i64 p.1)), (5, .at (.int .i64 p.2.1))], lookO [(0, .row 9 .str false p.2.2)]⟩
noncomputable def laws_szStringS.D0 (k : Nat) (j : Nat) (p : (Int × Int × (List (ByteArray)))) : Option (Int) := loopK (normK [0] (laws_szStringS.h 0)) (runK laws_szStringS.x k 0 [0] laws_szStringS.h 0 (sub laws_szStringS.c [1, 1, 1, 0, 1, 0, 0])) j (laws_szStringS.S0 p) (kBlk 0 (kSeq (runK laws_szStringS.x k 0 [0] laws_szStringS.h 0 (sub laws_szStringS.c [1, 1, 1, 1])) (fin tt laws_szStringS.ps laws_szStringS.rs laws_szStringS.vs (.int .i64))))
theorem laws_szStringS.D0_eq (k : Nat) : ∀ j, laws_szStringS.D0 k j = laws_szStringS.l0 k j := by
  intro j
  induction j with
  | zero => rfl
  | succ j ih =>
    show _ = laws_szStringS.s0 k (laws_szStringS.l0 k j)
    rw [← ih]
    funext p
    kernel_rfl
def laws_szStringS.f (k : Nat) (a0 : List (ByteArray)) (a1 : Int) : Option (Int) :=
  (bif (decide ((IntKind.i64.wrap (a1 - (a0.length : Int))) < (0 : Int))) then some (-1 : Int) else laws_szStringS.l0 k k ((IntKind.i64.wrap (a1 - (a0.length : Int))), (0 : Int), a0))
def laws_szStringS.K : Ctr := ⟨laws_szStringS.ps, laws_szStringS.rs, false, (.two (.sl 9 .str) (.int .i64)), (.int .i64), fun k x => laws_szStringS.f k x.1 x.2⟩
theorem laws_szStringS.eq (k : Nat) (x : (laws_szStringS.K.I).den) : func laws_szStringS.x laws_szStringS.h laws_szStringS.ps laws_szStringS.rs laws_szStringS.vs laws_szStringS.K.I laws_szStringS.K.O laws_szStringS.c k x = laws_szStringS.K.run k x := by
  show _ = laws_szStringS.f k x.1 x.2
  unfold laws_szStringS.f
  rw [← laws_szStringS.D0_eq k k]
  kernel_rfl
theorem laws_szStringS.ok : CtrOk Try.prog 65 laws_szStringS.K :=
  CtrOk.of (fn := Try.f65) (cd := laws_szStringS.c) (cx := laws_szStringS.x) (hs := laws_szStringS.h) (by kernel_rfl) (by kernel_rfl) (by kernel_rfl) (by kernel_rfl) tt_ok (envOk_nil) (by kernel_rfl) (by kernel_rfl) (by kernel_rfl) (by kernel_rfl) fun k x r h => (laws_szStringS.eq k x).trans h
/-! laws.szPending -/
noncomputable def laws_szPending.c : Code := bodyOf Try.f102
def laws_szPending.h : Nat → Hint := look ⟨[], [], []⟩ []
def laws_szPending.ps : List PK := [.agg 4, .one]
def laws_szPending.rs : List RK := [.one true]
def laws_szPending.vs : List ResultVar := [.tmp 4]
def laws_szPending.x : Cx := ⟨tt, look none []⟩
def laws_szPending.f (_k : Nat) (_a0_0 : Int) (a0_1 : ByteArray) (_a0_2 : Int) (_a0_3 : Int) (a1 : Int) : Option (Int) :=
  (bif (decide ((IntKind.i64.wrap (a1 - (a0_1.size : Int))) < (0 : Int))) then some (-1 : Int) else some (IntKind.i64.wrap (a1 - (a0_1.size : Int))))
def laws_szPending.K : Ctr := ⟨laws_szPending.ps, laws_szPending.rs, false, (.two (.int .i64) (.two .str (.two (.int .i64) (.two (.int .i64) (.int .i64))))), (.int .i64), fun k x => laws_szPending.f k x.1 x.2.1 x.2.2.1 x.2.2.2.1 x.2.2.2.2⟩
theorem laws_szPending.eq (k : Nat) (x : (laws_szPending.K.I).den) : func laws_szPending.x laws_szPending.h laws_szPending.ps laws_szPending.rs laws_szPending.vs laws_szPending.K.I laws_szPending.K.O laws_szPending.c k x = laws_szPending.K.run k x := by
  show _ = laws_szPending.f k x.1 x.2.1 x.2.2.1 x.2.2.2.1 x.2.2.2.2
  kernel_rfl
theorem laws_szPending.ok : CtrOk Try.prog 102 laws_szPending.K :=
  CtrOk.of (fn := Try.f102) (cd := laws_szPending.c) (cx := laws_szPending.x) (hs := laws_szPending.h) (by kernel_rfl) (by kernel_rfl) (by kernel_rfl) (by kernel_rfl) tt_ok (envOk_nil) (by kernel_rfl) (by kernel_rfl) (by kernel_rfl) (by kernel_rfl) fun k x r h => (laws_szPending.eq k x).trans h
/-! laws.szPendingS -/
noncomputable def laws_szPendingS.c : Code := bodyOf Try.f66
def laws_szPendingS.h : Nat → Hint := look ⟨[], [], []⟩ [(0, ⟨[0, 1, 5], [], []⟩)]
def laws_szPendingS.ps : List PK := [.one, .one]
def laws_szPendingS.rs : List RK := [.one true]
def laws_szPendingS.vs : List ResultVar := [.tmp 4]
def laws_szPendingS.x : Cx := ⟨tt, look none [(102, some laws_szPending.K)]⟩
def laws_szPendingS.s0 (k : Nat) (rec0 : (Int × Int × (List (Int × ByteArray × Int × Int))) → Option (Int)) (p : (Int × Int × (List (Int × ByteArray × Int × Int)))) : Option (Int) :=
  (bif (decide (p.2.1 < (p.2.2.length : Int))) then (bif ((decide ((0 : Int) ≤ p.2.1)) && (decide (p.2.1 < (p.2.2.length : Int)))) then (p.2.2[p.2.1.toNat]?).bind fun x1 => (laws_szPending.f k x1.1 x1.2.1 x1.2.2.1 x1.2.2.2 p.1).bind fun r2 => (bif (decide (r2 < (0 : Int))) then some (-1 : Int) else rec0 (r2, (IntKind.i64.wrap (p.2.1 + (1 : Int))), p.2.2)) else none) else some p.1)
def laws_szPendingS.l0 (k : Nat) : Nat → (Int × Int × (List (Int × ByteArray × Int × Int))) → Option (Int)
  | 0 => fun _ => none
  | j + 1 => laws_szPendingS.s0 k (laws_szPendingS.l0 k j)
def laws_szPendingS.S0 (p : (Int × Int × (List (Int × ByteArray × Int × Int)))) : DS := ⟨tl [(0, .at (.whole 0)), (1, .at (.int .i64 p.1)), (5, .at (.int .i64 p.2.1))], lookO [(0, .row 118 (.two (.int .i64) (.two .str (.two (.int .i64) (.int .i64)))) false p.2.2)]⟩
noncomputable def laws_szPendingS.D0 (k : Nat) (j : Nat) (p : (Int × Int × (List (Int × ByteArray × Int × Int)))) : Option (Int) := loopK (normK [0] (laws_szPendingS.h 0)) (runK laws_szPendingS.x k 0 [0] laws_szPendingS.h 0 (sub laws_szPendingS.c [1, 1, 1, 0, 1, 0, 0])) j (laws_szPendingS.S0 p) (kBlk 0 (kSeq (runK laws_szPendingS.x k 0 [0] laws_szPendingS.h 0 (sub laws_szPendingS.c [1, 1, 1, 1])) (fin tt laws_szPendingS.ps laws_szPendingS.rs laws_szPendingS.vs (.int .i64))))
theorem laws_szPendingS.D0_eq (k : Nat) : ∀ j, laws_szPendingS.D0 k j = laws_szPendingS.l0 k j := by
  intro j
  induction j with
  | zero => rfl
  | succ j ih =>
    show _ = laws_szPendingS.s0 k (laws_szPendingS.l0 k j)
    rw [← ih]
    funext p
    kernel_rfl
def laws_szPendingS.f (k : Nat) (a0 : List (Int × ByteArray × Int × Int)) (a1 : Int) : Option (Int) :=
  (bif (decide ((IntKind.i64.wrap (a1 - (a0.length : Int))) < (0 : Int))) then some (-1 : Int) else laws_szPendingS.l0 k k ((IntKind.i64.wrap (a1 - (a0.length : Int))), (0 : Int), a0))
def laws_szPendingS.K : Ctr := ⟨laws_szPendingS.ps, laws_szPendingS.rs, false, (.two (.sl 118 (.two (.int .i64) (.two .str (.two (.int .i64) (.int .i64))))) (.int .i64)), (.int .i64), fun k x => laws_szPendingS.f k x.1 x.2⟩
theorem laws_szPendingS.eq (k : Nat) (x : (laws_szPendingS.K.I).den) : func laws_szPendingS.x laws_szPendingS.h laws_szPendingS.ps laws_szPendingS.rs laws_szPendingS.vs laws_szPendingS.K.I laws_szPendingS.K.O laws_szPendingS.c k x = laws_szPendingS.K.run k x := by
  show _ = laws_szPendingS.f k x.1 x.2
  unfold laws_szPendingS.f
  rw [← laws_szPendingS.D0_eq k k]
  kernel_rfl
theorem laws_szPendingS.ok : CtrOk Try.prog 66 laws_szPendingS.K :=
  CtrOk.of (fn := Try.f66) (cd := laws_szPendingS.c) (cx := laws_szPendingS.x) (hs := laws_szPendingS.h) (by kernel_rfl) (by kernel_rfl) (by kernel_rfl) (by kernel_rfl) tt_ok (envOk_cons laws_szPending.ok (envOk_nil)) (by kernel_rfl) (by kernel_rfl) (by kernel_rfl) (by kernel_rfl) fun k x r h => (laws_szPendingS.eq k x).trans h
/-! laws.szEarly -/
noncomputable def laws_szEarly.c : Code := bodyOf Try.f103
def laws_szEarly.h : Nat → Hint := look ⟨[], [], []⟩ []
def laws_szEarly.ps : List PK := [.agg 2, .one]
def laws_szEarly.rs : List RK := [.one true]
def laws_szEarly.vs : List ResultVar := [.tmp 4]
def laws_szEarly.x : Cx := ⟨tt, look none []⟩
def laws_szEarly.f (_k : Nat) (_a0_0 : Int) (a0_1 : ByteArray) (a1 : Int) : Option (Int) :=
  (bif (decide ((IntKind.i64.wrap (a1 - (a0_1.size : Int))) < (0 : Int))) then some (-1 : Int) else some (IntKind.i64.wrap (a1 - (a0_1.size : Int))))
def laws_szEarly.K : Ctr := ⟨laws_szEarly.ps, laws_szEarly.rs, false, (.two (.int .i64) (.two .str (.int .i64))), (.int .i64), fun k x => laws_szEarly.f k x.1 x.2.1 x.2.2⟩
theorem laws_szEarly.eq (k : Nat) (x : (laws_szEarly.K.I).den) : func laws_szEarly.x laws_szEarly.h laws_szEarly.ps laws_szEarly.rs laws_szEarly.vs laws_szEarly.K.I laws_szEarly.K.O laws_szEarly.c k x = laws_szEarly.K.run k x := by
  show _ = laws_szEarly.f k x.1 x.2.1 x.2.2
  kernel_rfl
theorem laws_szEarly.ok : CtrOk Try.prog 103 laws_szEarly.K :=
  CtrOk.of (fn := Try.f103) (cd := laws_szEarly.c) (cx := laws_szEarly.x) (hs := laws_szEarly.h) (by kernel_rfl) (by kernel_rfl) (by kernel_rfl) (by kernel_rfl) tt_ok (envOk_nil) (by kernel_rfl) (by kernel_rfl) (by kernel_rfl) (by kernel_rfl) fun k x r h => (laws_szEarly.eq k x).trans h
/-! laws.szEarlyS -/
noncomputable def laws_szEarlyS.c : Code := bodyOf Try.f67
def laws_szEarlyS.h : Nat → Hint := look ⟨[], [], []⟩ [(0, ⟨[0, 1, 5], [], []⟩)]
def laws_szEarlyS.ps : List PK := [.one, .one]
def laws_szEarlyS.rs : List RK := [.one true]
def laws_szEarlyS.vs : List ResultVar := [.tmp 4]
def laws_szEarlyS.x : Cx := ⟨tt, look none [(103, some laws_szEarly.K)]⟩
def laws_szEarlyS.s0 (k : Nat) (rec0 : (Int × Int × (List (Int × ByteArray))) → Option (Int)) (p : (Int × Int × (List (Int × ByteArray)))) : Option (Int) :=
  (bif (decide (p.2.1 < (p.2.2.length : Int))) then (bif ((decide ((0 : Int) ≤ p.2.1)) && (decide (p.2.1 < (p.2.2.length : Int)))) then (p.2.2[p.2.1.toNat]?).bind fun x1 => (laws_szEarly.f k x1.1 x1.2 p.1).bind fun r2 => (bif (decide (r2 < (0 : Int))) then some (-1 : Int) else rec0 (r2, (IntKind.i64.wrap (p.2.1 + (1 : Int))), p.2.2)) else none) else some p.1)
def laws_szEarlyS.l0 (k : Nat) : Nat → (Int × Int × (List (Int × ByteArray))) → Option (Int)
  | 0 => fun _ => none
  | j + 1 => laws_szEarlyS.s0 k (laws_szEarlyS.l0 k j)
def laws_szEarlyS.S0 (p : (Int × Int × (List (Int × ByteArray)))) : DS := ⟨tl [(0, .at (.whole 0)), (1, .at (.int .i64 p.1)), (5, .at (.int .i64 p.2.1))], lookO [(0, .row 120 (.two (.int .i64) .str) false p.2.2)]⟩
noncomputable def laws_szEarlyS.D0 (k : Nat) (j : Nat) (p : (Int × Int × (List (Int × ByteArray)))) : Option (Int) := loopK (normK [0] (laws_szEarlyS.h 0)) (runK laws_szEarlyS.x k 0 [0] laws_szEarlyS.h 0 (sub laws_szEarlyS.c [1, 1, 1, 0, 1, 0, 0])) j (laws_szEarlyS.S0 p) (kBlk 0 (kSeq (runK laws_szEarlyS.x k 0 [0] laws_szEarlyS.h 0 (sub laws_szEarlyS.c [1, 1, 1, 1])) (fin tt laws_szEarlyS.ps laws_szEarlyS.rs laws_szEarlyS.vs (.int .i64))))
theorem laws_szEarlyS.D0_eq (k : Nat) : ∀ j, laws_szEarlyS.D0 k j = laws_szEarlyS.l0 k j := by
  intro j
  induction j with
  | zero => rfl
  | succ j ih =>
    show _ = laws_szEarlyS.s0 k (laws_szEarlyS.l0 k j)
    rw [← ih]
    funext p
    kernel_rfl
def laws_szEarlyS.f (k : Nat) (a0 : List (Int × ByteArray)) (a1 : Int) : Option (Int) :=
  (bif (decide ((IntKind.i64.wrap (a1 - (a0.length : Int))) < (0 : Int))) then some (-1 : Int) else laws_szEarlyS.l0 k k ((IntKind.i64.wrap (a1 - (a0.length : Int))), (0 : Int), a0))
def laws_szEarlyS.K : Ctr := ⟨laws_szEarlyS.ps, laws_szEarlyS.rs, false, (.two (.sl 120 (.two (.int .i64) .str)) (.int .i64)), (.int .i64), fun k x => laws_szEarlyS.f k x.1 x.2⟩
theorem laws_szEarlyS.eq (k : Nat) (x : (laws_szEarlyS.K.I).den) : func laws_szEarlyS.x laws_szEarlyS.h laws_szEarlyS.ps laws_szEarlyS.rs laws_szEarlyS.vs laws_szEarlyS.K.I laws_szEarlyS.K.O laws_szEarlyS.c k x = laws_szEarlyS.K.run k x := by
  show _ = laws_szEarlyS.f k x.1 x.2
  unfold laws_szEarlyS.f
  rw [← laws_szEarlyS.D0_eq k k]
  kernel_rfl
theorem laws_szEarlyS.ok : CtrOk Try.prog 67 laws_szEarlyS.K :=
  CtrOk.of (fn := Try.f67) (cd := laws_szEarlyS.c) (cx := laws_szEarlyS.x) (hs := laws_szEarlyS.h) (by kernel_rfl) (by kernel_rfl) (by kernel_rfl) (by kernel_rfl) tt_ok (envOk_cons laws_szEarly.ok (envOk_nil)) (by kernel_rfl) (by kernel_rfl) (by kernel_rfl) (by kernel_rfl) fun k x r h => (laws_szEarlyS.eq k x).trans h
/-! laws.szIntS -/
noncomputable def laws_szIntS.c : Code := bodyOf Try.f42
def laws_szIntS.h : Nat → Hint := look ⟨[], [], []⟩ []
def laws_szIntS.ps : List PK := [.one, .one]
def laws_szIntS.rs : List RK := [.one true]
def laws_szIntS.vs : List ResultVar := [.tmp 4]
def laws_szIntS.x : Cx := ⟨tt, look none []⟩
def laws_szIntS.f (_k : Nat) (a0 : List (Int)) (a1 : Int) : Option (Int) :=
  (bif (decide ((IntKind.i64.wrap (a1 - (a0.length : Int))) < (0 : Int))) then some (-1 : Int) else some (IntKind.i64.wrap (a1 - (a0.length : Int))))
def laws_szIntS.K : Ctr := ⟨laws_szIntS.ps, laws_szIntS.rs, false, (.two (.sl 3 (.int .i64)) (.int .i64)), (.int .i64), fun k x => laws_szIntS.f k x.1 x.2⟩
theorem laws_szIntS.eq (k : Nat) (x : (laws_szIntS.K.I).den) : func laws_szIntS.x laws_szIntS.h laws_szIntS.ps laws_szIntS.rs laws_szIntS.vs laws_szIntS.K.I laws_szIntS.K.O laws_szIntS.c k x = laws_szIntS.K.run k x := by
  show _ = laws_szIntS.f k x.1 x.2
  kernel_rfl
theorem laws_szIntS.ok : CtrOk Try.prog 42 laws_szIntS.K :=
  CtrOk.of (fn := Try.f42) (cd := laws_szIntS.c) (cx := laws_szIntS.x) (hs := laws_szIntS.h) (by kernel_rfl) (by kernel_rfl) (by kernel_rfl) (by kernel_rfl) tt_ok (envOk_nil) (by kernel_rfl) (by kernel_rfl) (by kernel_rfl) (by kernel_rfl) fun k x r h => (laws_szIntS.eq k x).trans h
/-! laws.szChan -/
noncomputable def laws_szChan.c : Code := bodyOf Try.f21
def laws_szChan.h : Nat → Hint := look ⟨[], [], []⟩ []
def laws_szChan.ps : List PK := [.agg 9, .one]
def laws_szChan.rs : List RK := [.one true]
def laws_szChan.vs : List ResultVar := [.tmp 4]
def laws_szChan.x : Cx := ⟨tt, look none [(65, some laws_szStringS.K), (66, some laws_szPendingS.K), (67, some laws_szEarlyS.K), (42, some laws_szIntS.K)]⟩
def laws_szChan.f (k : Nat) (_a0_0 : Int) (_a0_1 : Int) (_a0_2 : Int) (a0_3 : List (ByteArray)) (a0_4 : List (Int × ByteArray × Int × Int)) (_a0_5 : Int) (a0_6 : List (Int × ByteArray)) (a0_7 : List (Int)) (a0_8 : List (ByteArray)) (a1 : Int) : Option (Int) :=
  (laws_szStringS.f k a0_3 a1).bind fun r1 => (bif (decide (r1 < (0 : Int))) then some (-1 : Int) else (laws_szPendingS.f k a0_4 r1).bind fun r2 => (bif (decide (r2 < (0 : Int))) then some (-1 : Int) else (laws_szEarlyS.f k a0_6 r2).bind fun r3 => (bif (decide (r3 < (0 : Int))) then some (-1 : Int) else (laws_szIntS.f k a0_7 r3).bind fun r4 => (bif (decide (r4 < (0 : Int))) then some (-1 : Int) else (laws_szStringS.f k a0_8 r4).bind fun r5 => (bif (decide (r5 < (0 : Int))) then some (-1 : Int) else some r5)))))
def laws_szChan.K : Ctr := ⟨laws_szChan.ps, laws_szChan.rs, false, (.two (.int .i64) (.two (.int .i64) (.two (.int .i64) (.two (.sl 9 .str) (.two (.sl 118 (.two (.int .i64) (.two .str (.two (.int .i64) (.int .i64))))) (.two (.int .i64) (.two (.sl 120 (.two (.int .i64) .str)) (.two (.sl 3 (.int .i64)) (.two (.sl 9 .str) (.int .i64)))))))))), (.int .i64), fun k x => laws_szChan.f k x.1 x.2.1 x.2.2.1 x.2.2.2.1 x.2.2.2.2.1 x.2.2.2.2.2.1 x.2.2.2.2.2.2.1 x.2.2.2.2.2.2.2.1 x.2.2.2.2.2.2.2.2.1 x.2.2.2.2.2.2.2.2.2⟩
theorem laws_szChan.eq (k : Nat) (x : (laws_szChan.K.I).den) : func laws_szChan.x laws_szChan.h laws_szChan.ps laws_szChan.rs laws_szChan.vs laws_szChan.K.I laws_szChan.K.O laws_szChan.c k x = laws_szChan.K.run k x := by
  show _ = laws_szChan.f k x.1 x.2.1 x.2.2.1 x.2.2.2.1 x.2.2.2.2.1 x.2.2.2.2.2.1 x.2.2.2.2.2.2.1 x.2.2.2.2.2.2.2.1 x.2.2.2.2.2.2.2.2.1 x.2.2.2.2.2.2.2.2.2
  kernel_rfl
theorem laws_szChan.ok : CtrOk Try.prog 21 laws_szChan.K :=
  CtrOk.of (fn := Try.f21) (cd := laws_szChan.c) (cx := laws_szChan.x) (hs := laws_szChan.h) (by kernel_rfl) (by kernel_rfl) (by kernel_rfl) (by kernel_rfl) tt_ok (envOk_cons laws_szStringS.ok (envOk_cons laws_szPendingS.ok (envOk_cons laws_szEarlyS.ok (envOk_cons laws_szIntS.ok (envOk_nil))))) (by kernel_rfl) (by kernel_rfl) (by kernel_rfl) (by kernel_rfl) fun k x r h => (laws_szChan.eq k x).trans h
/-! laws.toStringS -/
noncomputable def laws_toStringS.c : Code := bodyOf Try.f70
def laws_toStringS.h : Nat → Hint := look ⟨[], [], []⟩ [(0, ⟨[0, 3, 4], [], [(.t 3, 352, 9, .str)]⟩)]
def laws_toStringS.ps : List PK := [.one]
def laws_toStringS.rs : List RK := [.one true]
def laws_toStringS.vs : List ResultVar := [.tmp 2]
def laws_toStringS.x : Cx := ⟨tt, look none []⟩
def laws_toStringS.s0 (_k : Nat) (rec0 : (Int × (List (ByteArray)) × (List (ByteArray))) → Option ((List (ByteArray)))) (p : (Int × (List (ByteArray)) × (List (ByteArray)))) : Option ((List (ByteArray))) :=
  (bif (decide (p.1 < (p.2.1.length : Int))) then (bif ((decide ((0 : Int) ≤ p.1)) && (decide (p.1 < (p.2.1.length : Int)))) then (p.2.1[p.1.toNat]?).bind fun x1 => (bif ((decide ((0 : Int) ≤ p.1)) && (decide (p.1 < (p.2.2.length : Int)))) then (p.2.2[p.1.toNat]?).bind fun x2 => rec0 ((IntKind.i64.wrap (p.1 + (1 : Int))), p.2.1, (p.2.2.set p.1.toNat x1)) else none) else none) else some p.2.2)
def laws_toStringS.l0 (k : Nat) : Nat → (Int × (List (ByteArray)) × (List (ByteArray))) → Option ((List (ByteArray)))
  | 0 => fun _ => none
  | j + 1 => laws_toStringS.s0 k (laws_toStringS.l0 k j)
def laws_toStringS.S0 (p : (Int × (List (ByteArray)) × (List (ByteArray)))) : DS := ⟨tl [(0, .at (.whole 0)), (3, .at (.whole 352)), (4, .at (.int .i64 p.1))], lookO [(0, .row 9 .str false p.2.1), (352, .row 9 .str true p.2.2)]⟩
noncomputable def laws_toStringS.D0 (k : Nat) (j : Nat) (p : (Int × (List (ByteArray)) × (List (ByteArray)))) : Option ((List (ByteArray))) := loopK (normK [0] (laws_toStringS.h 0)) (runK laws_toStringS.x k 0 [0] laws_toStringS.h 0 (sub laws_toStringS.c [1, 1, 0, 1, 0, 0])) j (laws_toStringS.S0 p) (kBlk 0 (kSeq (runK laws_toStringS.x k 0 [0] laws_toStringS.h 0 (sub laws_toStringS.c [1, 1, 1])) (fin tt laws_toStringS.ps laws_toStringS.rs laws_toStringS.vs (.sl 9 .str))))
theorem laws_toStringS.D0_eq (k : Nat) : ∀ j, laws_toStringS.D0 k j = laws_toStringS.l0 k j := by
  intro j
  induction j with
  | zero => rfl
  | succ j ih =>
    show _ = laws_toStringS.s0 k (laws_toStringS.l0 k j)
    rw [← ih]
    funext p
    kernel_rfl
def laws_toStringS.f (k : Nat) (a0 : List (ByteArray)) : Option ((List (ByteArray))) :=
  (bif ((decide ((0 : Int) ≤ (a0.length : Int))) && decide ((a0.length : Int) * 16 ≤ 140737488355328)) then laws_toStringS.l0 k k ((0 : Int), a0, (List.replicate (a0.length : Int).toNat ByteArray.empty)) else none)
def laws_toStringS.K : Ctr := ⟨laws_toStringS.ps, laws_toStringS.rs, false, (.sl 9 .str), (.sl 9 .str), fun k x => laws_toStringS.f k x⟩
theorem laws_toStringS.eq (k : Nat) (x : (laws_toStringS.K.I).den) : func laws_toStringS.x laws_toStringS.h laws_toStringS.ps laws_toStringS.rs laws_toStringS.vs laws_toStringS.K.I laws_toStringS.K.O laws_toStringS.c k x = laws_toStringS.K.run k x := by
  show _ = laws_toStringS.f k x
  unfold laws_toStringS.f
  rw [← laws_toStringS.D0_eq k k]
  kernel_rfl
theorem laws_toStringS.ok : CtrOk Try.prog 70 laws_toStringS.K :=
  CtrOk.of (fn := Try.f70) (cd := laws_toStringS.c) (cx := laws_toStringS.x) (hs := laws_toStringS.h) (by kernel_rfl) (by kernel_rfl) (by kernel_rfl) (by kernel_rfl) tt_ok (envOk_nil) (by kernel_rfl) (by kernel_rfl) (by kernel_rfl) (by kernel_rfl) fun k x r h => (laws_toStringS.eq k x).trans h
/-! laws.toPending -/
noncomputable def laws_toPending.c : Code := bodyOf Try.f104
def laws_toPending.h : Nat → Hint := look ⟨[], [], []⟩ []
def laws_toPending.ps : List PK := [.agg 4]
def laws_toPending.rs : List RK := [.agg 4 true]
def laws_toPending.vs : List ResultVar := [.cell 2 92]
def laws_toPending.x : Cx := ⟨tt, look none []⟩
def laws_toPending.f (_k : Nat) (a0_0 : Int) (a0_1 : ByteArray) (a0_2 : Int) (a0_3 : Int) : Option (Int × ByteArray × Int × Int) :=
  some (a0_0, a0_1, a0_2, a0_3)
def laws_toPending.K : Ctr := ⟨laws_toPending.ps, laws_toPending.rs, false, (.two (.int .i64) (.two .str (.two (.int .i64) (.int .i64)))), (.two (.int .i64) (.two .str (.two (.int .i64) (.int .i64)))), fun k x => laws_toPending.f k x.1 x.2.1 x.2.2.1 x.2.2.2⟩
theorem laws_toPending.eq (k : Nat) (x : (laws_toPending.K.I).den) : func laws_toPending.x laws_toPending.h laws_toPending.ps laws_toPending.rs laws_toPending.vs laws_toPending.K.I laws_toPending.K.O laws_toPending.c k x = laws_toPending.K.run k x := by
  show _ = laws_toPending.f k x.1 x.2.1 x.2.2.1 x.2.2.2
  kernel_rfl
theorem laws_toPending.ok : CtrOk Try.prog 104 laws_toPending.K :=
  CtrOk.of (fn := Try.f104) (cd := laws_toPending.c) (cx := laws_toPending.x) (hs := laws_toPending.h) (by kernel_rfl) (by kernel_rfl) (by kernel_rfl) (by kernel_rfl) tt_ok (envOk_nil) (by kernel_rfl) (by kernel_rfl) (by kernel_rfl) (by kernel_rfl) fun k x r h => (laws_toPending.eq k x).trans h
/-! laws.toPendingS -/
noncomputable def laws_toPendingS.c : Code := bodyOf Try.f71
def laws_toPendingS.h : Nat → Hint := look ⟨[], [], []⟩ [(0, ⟨[0, 3, 4], [], [(.t 3, 368, 92, (.two (.int .i64) (.two .str (.two (.int .i64) (.int .i64)))))]⟩)]
def laws_toPendingS.ps : List PK := [.one]
def laws_toPendingS.rs : List RK := [.one true]
def laws_toPendingS.vs : List ResultVar := [.tmp 2]
def laws_toPendingS.x : Cx := ⟨tt, look none [(104, some laws_toPending.K)]⟩
def laws_toPendingS.s0 (k : Nat) (rec0 : (Int × (List (Int × ByteArray × Int × Int)) × (List (Int × ByteArray × Int × Int))) → Option ((List (Int × ByteArray × Int × Int)))) (p : (Int × (List (Int × ByteArray × Int × Int)) × (List (Int × ByteArray × Int × Int)))) : Option ((List (Int × ByteArray × Int × Int))) :=
  (bif (decide (p.1 < (p.2.1.length : Int))) then (bif ((decide ((0 : Int) ≤ p.1)) && (decide (p.1 < (p.2.1.length : Int)))) then (p.2.1[p.1.toNat]?).bind fun x1 => (laws_toPending.f k x1.1 x1.2.1 x1.2.2.1 x1.2.2.2).bind fun r2 => (bif ((decide ((0 : Int) ≤ p.1)) && (decide (p.1 < (p.2.2.length : Int)))) then (p.2.2[p.1.toNat]?).bind fun x3 => rec0 ((IntKind.i64.wrap (p.1 + (1 : Int))), p.2.1, (p.2.2.set p.1.toNat (r2.1, r2.2.1, r2.2.2.1, r2.2.2.2))) else none) else none) else some p.2.2)
def laws_toPendingS.l0 (k : Nat) : Nat → (Int × (List (Int × ByteArray × Int × Int)) × (List (Int × ByteArray × Int × Int))) → Option ((List (Int × ByteArray × Int × Int)))
  | 0 => fun _ => none
  | j + 1 => laws_toPendingS.s0 k (laws_toPendingS.l0 k j)
def laws_toPendingS.S0 (p : (Int × (List (Int × ByteArray × Int × Int)) × (List (Int × ByteArray × Int × Int)))) : DS := ⟨tl [(0, .at (.whole 0)), (3, .at (.whole 368)), (4, .at (.int .i64 p.1))], lookO [(0, .row 118 (.two (.int .i64) (.two .str (.two (.int .i64) (.int .i64)))) false p.2.1), (368, .row 92 (.two (.int .i64) (.two .str (.two (.int .i64) (.int .i64)))) true p.2.2)]⟩
noncomputable def laws_toPendingS.D0 (k : Nat) (j : Nat) (p : (Int × (List (Int × ByteArray × Int × Int)) × (List (Int × ByteArray × Int × Int)))) : Option ((List (Int × ByteArray × Int × Int))) := loopK (normK [0] (laws_toPendingS.h 0)) (runK laws_toPendingS.x k 0 [0] laws_toPendingS.h 0 (sub laws_toPendingS.c [1, 1, 0, 1, 0, 0])) j (laws_toPendingS.S0 p) (kBlk 0 (kSeq (runK laws_toPendingS.x k 0 [0] laws_toPendingS.h 0 (sub laws_toPendingS.c [1, 1, 1])) (fin tt laws_toPendingS.ps laws_toPendingS.rs laws_toPendingS.vs (.sl 92 (.two (.int .i64) (.two .str (.two (.int .i64) (.int .i64))))))))
theorem laws_toPendingS.D0_eq (k : Nat) : ∀ j, laws_toPendingS.D0 k j = laws_toPendingS.l0 k j := by
  intro j
  induction j with
  | zero => rfl
  | succ j ih =>
    show _ = laws_toPendingS.s0 k (laws_toPendingS.l0 k j)
    rw [← ih]
    funext p
    kernel_rfl
def laws_toPendingS.f (k : Nat) (a0 : List (Int × ByteArray × Int × Int)) : Option ((List (Int × ByteArray × Int × Int))) :=
  (bif ((decide ((0 : Int) ≤ (a0.length : Int))) && decide ((a0.length : Int) * 40 ≤ 140737488355328)) then laws_toPendingS.l0 k k ((0 : Int), a0, (List.replicate (a0.length : Int).toNat ((0 : Int), ByteArray.empty, (0 : Int), (0 : Int)))) else none)
def laws_toPendingS.K : Ctr := ⟨laws_toPendingS.ps, laws_toPendingS.rs, false, (.sl 118 (.two (.int .i64) (.two .str (.two (.int .i64) (.int .i64))))), (.sl 92 (.two (.int .i64) (.two .str (.two (.int .i64) (.int .i64))))), fun k x => laws_toPendingS.f k x⟩
theorem laws_toPendingS.eq (k : Nat) (x : (laws_toPendingS.K.I).den) : func laws_toPendingS.x laws_toPendingS.h laws_toPendingS.ps laws_toPendingS.rs laws_toPendingS.vs laws_toPendingS.K.I laws_toPendingS.K.O laws_toPendingS.c k x = laws_toPendingS.K.run k x := by
  show _ = laws_toPendingS.f k x
  unfold laws_toPendingS.f
  rw [← laws_toPendingS.D0_eq k k]
  kernel_rfl
theorem laws_toPendingS.ok : CtrOk Try.prog 71 laws_toPendingS.K :=
  CtrOk.of (fn := Try.f71) (cd := laws_toPendingS.c) (cx := laws_toPendingS.x) (hs := laws_toPendingS.h) (by kernel_rfl) (by kernel_rfl) (by kernel_rfl) (by kernel_rfl) tt_ok (envOk_cons laws_toPending.ok (envOk_nil)) (by kernel_rfl) (by kernel_rfl) (by kernel_rfl) (by kernel_rfl) fun k x r h => (laws_toPendingS.eq k x).trans h
/-! laws.toEarly -/
noncomputable def laws_toEarly.c : Code := bodyOf Try.f105
def laws_toEarly.h : Nat → Hint := look ⟨[], [], []⟩ []
def laws_toEarly.ps : List PK := [.agg 2]
def laws_toEarly.rs : List RK := [.agg 2 true]
def laws_toEarly.vs : List ResultVar := [.cell 2 87]
def laws_toEarly.x : Cx := ⟨tt, look none []⟩
def laws_toEarly.f (_k : Nat) (a0_0 : Int) (a0_1 : ByteArray) : Option (Int × ByteArray) :=
  some (a0_0, a0_1)
def laws_toEarly.K : Ctr := ⟨laws_toEarly.ps, laws_toEarly.rs, false, (.two (.int .i64) .str), (.two (.int .i64) .str), fun k x => laws_toEarly.f k x.1 x.2⟩
theorem laws_toEarly.eq (k : Nat) (x : (laws_toEarly.K.I).den) : func laws_toEarly.x laws_toEarly.h laws_toEarly.ps laws_toEarly.rs laws_toEarly.vs laws_toEarly.K.I laws_toEarly.K.O laws_toEarly.c k x = laws_toEarly.K.run k x := by
  show _ = laws_toEarly.f k x.1 x.2
  kernel_rfl
theorem laws_toEarly.ok : CtrOk Try.prog 105 laws_toEarly.K :=
  CtrOk.of (fn := Try.f105) (cd := laws_toEarly.c) (cx := laws_toEarly.x) (hs := laws_toEarly.h) (by kernel_rfl) (by kernel_rfl) (by kernel_rfl) (by kernel_rfl) tt_ok (envOk_nil) (by kernel_rfl) (by kernel_rfl) (by kernel_rfl) (by kernel_rfl) fun k x r h => (laws_toEarly.eq k x).trans h
/-! laws.toEarlyS -/
noncomputable def laws_toEarlyS.c : Code := bodyOf Try.f72
def laws_toEarlyS.h : Nat → Hint := look ⟨[], [], []⟩ [(0, ⟨[0, 3, 4], [], [(.t 3, 368, 87, (.two (.int .i64) .str))]⟩)]
def laws_toEarlyS.ps : List PK := [.one]
def laws_toEarlyS.rs : List RK := [.one true]
def laws_toEarlyS.vs : List ResultVar := [.tmp 2]
def laws_toEarlyS.x : Cx := ⟨tt, look none [(105, some laws_toEarly.K)]⟩
def laws_toEarlyS.s0 (k : Nat) (rec0 : (Int × (List (Int × ByteArray)) × (List (Int × ByteArray))) → Option ((List (Int × ByteArray)))) (p : (Int × (List (Int × ByteArray)) × (List (Int × ByteArray)))) : Option ((List (Int × ByteArray))) :=
  (bif (decide (p.1 < (p.2.1.length : Int))) then (bif ((decide ((0 : Int) ≤ p.1)) && (decide (p.1 < (p.2.1.length : Int)))) then (p.2.1[p.1.toNat]?).bind fun x1 => (laws_toEarly.f k x1.1 x1.2).bind fun r2 => (bif ((decide ((0 : Int) ≤ p.1)) && (decide (p.1 < (p.2.2.length : Int)))) then (p.2.2[p.1.toNat]?).bind fun x3 => rec0 ((IntKind.i64.wrap (p.1 + (1 : Int))), p.2.1, (p.2.2.set p.1.toNat (r2.1, r2.2))) else none) else none) else some p.2.2)
def laws_toEarlyS.l0 (k : Nat) : Nat → (Int × (List (Int × ByteArray)) × (List (Int × ByteArray))) → Option ((List (Int × ByteArray)))
  | 0 => fun _ => none
  | j + 1 => laws_toEarlyS.s0 k (laws_toEarlyS.l0 k j)
def laws_toEarlyS.S0 (p : (Int × (List (Int × ByteArray)) × (List (Int × ByteArray)))) : DS := ⟨tl [(0, .at (.whole 0)), (3, .at (.whole 368)), (4, .at (.int .i64 p.1))], lookO [(0, .row 120 (.two (.int .i64) .str) false p.2.1), (368, .row 87 (.two (.int .i64) .str) true p.2.2)]⟩
noncomputable def laws_toEarlyS.D0 (k : Nat) (j : Nat) (p : (Int × (List (Int × ByteArray)) × (List (Int × ByteArray)))) : Option ((List (Int × ByteArray))) := loopK (normK [0] (laws_toEarlyS.h 0)) (runK laws_toEarlyS.x k 0 [0] laws_toEarlyS.h 0 (sub laws_toEarlyS.c [1, 1, 0, 1, 0, 0])) j (laws_toEarlyS.S0 p) (kBlk 0 (kSeq (runK laws_toEarlyS.x k 0 [0] laws_toEarlyS.h 0 (sub laws_toEarlyS.c [1, 1, 1])) (fin tt laws_toEarlyS.ps laws_toEarlyS.rs laws_toEarlyS.vs (.sl 87 (.two (.int .i64) .str)))))
theorem laws_toEarlyS.D0_eq (k : Nat) : ∀ j, laws_toEarlyS.D0 k j = laws_toEarlyS.l0 k j := by
  intro j
  induction j with
  | zero => rfl
  | succ j ih =>
    show _ = laws_toEarlyS.s0 k (laws_toEarlyS.l0 k j)
    rw [← ih]
    funext p
    kernel_rfl
def laws_toEarlyS.f (k : Nat) (a0 : List (Int × ByteArray)) : Option ((List (Int × ByteArray))) :=
  (bif ((decide ((0 : Int) ≤ (a0.length : Int))) && decide ((a0.length : Int) * 24 ≤ 140737488355328)) then laws_toEarlyS.l0 k k ((0 : Int), a0, (List.replicate (a0.length : Int).toNat ((0 : Int), ByteArray.empty))) else none)
def laws_toEarlyS.K : Ctr := ⟨laws_toEarlyS.ps, laws_toEarlyS.rs, false, (.sl 120 (.two (.int .i64) .str)), (.sl 87 (.two (.int .i64) .str)), fun k x => laws_toEarlyS.f k x⟩
theorem laws_toEarlyS.eq (k : Nat) (x : (laws_toEarlyS.K.I).den) : func laws_toEarlyS.x laws_toEarlyS.h laws_toEarlyS.ps laws_toEarlyS.rs laws_toEarlyS.vs laws_toEarlyS.K.I laws_toEarlyS.K.O laws_toEarlyS.c k x = laws_toEarlyS.K.run k x := by
  show _ = laws_toEarlyS.f k x
  unfold laws_toEarlyS.f
  rw [← laws_toEarlyS.D0_eq k k]
  kernel_rfl
theorem laws_toEarlyS.ok : CtrOk Try.prog 72 laws_toEarlyS.K :=
  CtrOk.of (fn := Try.f72) (cd := laws_toEarlyS.c) (cx := laws_toEarlyS.x) (hs := laws_toEarlyS.h) (by kernel_rfl) (by kernel_rfl) (by kernel_rfl) (by kernel_rfl) tt_ok (envOk_cons laws_toEarly.ok (envOk_nil)) (by kernel_rfl) (by kernel_rfl) (by kernel_rfl) (by kernel_rfl) fun k x r h => (laws_toEarlyS.eq k x).trans h
/-! laws.toIntS -/
noncomputable def laws_toIntS.c : Code := bodyOf Try.f46
def laws_toIntS.h : Nat → Hint := look ⟨[], [], []⟩ [(0, ⟨[0, 3, 4], [], [(.t 3, 352, 3, (.int .i64))]⟩)]
def laws_toIntS.ps : List PK := [.one]
def laws_toIntS.rs : List RK := [.one true]
def laws_toIntS.vs : List ResultVar := [.tmp 2]
def laws_toIntS.x : Cx := ⟨tt, look none []⟩
def laws_toIntS.s0 (_k : Nat) (rec0 : (Int × (List (Int)) × (List (Int))) → Option ((List (Int)))) (p : (Int × (List (Int)) × (List (Int)))) : Option ((List (Int))) :=
  (bif (decide (p.1 < (p.2.1.length : Int))) then (bif ((decide ((0 : Int) ≤ p.1)) && (decide (p.1 < (p.2.1.length : Int)))) then (p.2.1[p.1.toNat]?).bind fun x1 => (bif ((decide ((0 : Int) ≤ p.1)) && (decide (p.1 < (p.2.2.length : Int)))) then (p.2.2[p.1.toNat]?).bind fun x2 => rec0 ((IntKind.i64.wrap (p.1 + (1 : Int))), p.2.1, (p.2.2.set p.1.toNat x1)) else none) else none) else some p.2.2)
def laws_toIntS.l0 (k : Nat) : Nat → (Int × (List (Int)) × (List (Int))) → Option ((List (Int)))
  | 0 => fun _ => none
  | j + 1 => laws_toIntS.s0 k (laws_toIntS.l0 k j)
def laws_toIntS.S0 (p : (Int × (List (Int)) × (List (Int)))) : DS := ⟨tl [(0, .at (.whole 0)), (3, .at (.whole 352)), (4, .at (.int .i64 p.1))], lookO [(0, .row 3 (.int .i64) false p.2.1), (352, .row 3 (.int .i64) true p.2.2)]⟩
noncomputable def laws_toIntS.D0 (k : Nat) (j : Nat) (p : (Int × (List (Int)) × (List (Int)))) : Option ((List (Int))) := loopK (normK [0] (laws_toIntS.h 0)) (runK laws_toIntS.x k 0 [0] laws_toIntS.h 0 (sub laws_toIntS.c [1, 1, 0, 1, 0, 0])) j (laws_toIntS.S0 p) (kBlk 0 (kSeq (runK laws_toIntS.x k 0 [0] laws_toIntS.h 0 (sub laws_toIntS.c [1, 1, 1])) (fin tt laws_toIntS.ps laws_toIntS.rs laws_toIntS.vs (.sl 3 (.int .i64)))))
theorem laws_toIntS.D0_eq (k : Nat) : ∀ j, laws_toIntS.D0 k j = laws_toIntS.l0 k j := by
  intro j
  induction j with
  | zero => rfl
  | succ j ih =>
    show _ = laws_toIntS.s0 k (laws_toIntS.l0 k j)
    rw [← ih]
    funext p
    kernel_rfl
def laws_toIntS.f (k : Nat) (a0 : List (Int)) : Option ((List (Int))) :=
  (bif ((decide ((0 : Int) ≤ (a0.length : Int))) && decide ((a0.length : Int) * 8 ≤ 140737488355328)) then laws_toIntS.l0 k k ((0 : Int), a0, (List.replicate (a0.length : Int).toNat (0 : Int))) else none)
def laws_toIntS.K : Ctr := ⟨laws_toIntS.ps, laws_toIntS.rs, false, (.sl 3 (.int .i64)), (.sl 3 (.int .i64)), fun k x => laws_toIntS.f k x⟩
theorem laws_toIntS.eq (k : Nat) (x : (laws_toIntS.K.I).den) : func laws_toIntS.x laws_toIntS.h laws_toIntS.ps laws_toIntS.rs laws_toIntS.vs laws_toIntS.K.I laws_toIntS.K.O laws_toIntS.c k x = laws_toIntS.K.run k x := by
  show _ = laws_toIntS.f k x
  unfold laws_toIntS.f
  rw [← laws_toIntS.D0_eq k k]
  kernel_rfl
theorem laws_toIntS.ok : CtrOk Try.prog 46 laws_toIntS.K :=
  CtrOk.of (fn := Try.f46) (cd := laws_toIntS.c) (cx := laws_toIntS.x) (hs := laws_toIntS.h) (by kernel_rfl) (by kernel_rfl) (by kernel_rfl) (by kernel_rfl) tt_ok (envOk_nil) (by kernel_rfl) (by kernel_rfl) (by kernel_rfl) (by kernel_rfl) fun k x r h => (laws_toIntS.eq k x).trans h
/-! laws.toChan -/
noncomputable def laws_toChan.c : Code := bodyOf Try.f23
def laws_toChan.h : Nat → Hint := look ⟨[], [], []⟩ []
def laws_toChan.ps : List PK := [.agg 9]
def laws_toChan.rs : List RK := [.agg 9 true]
def laws_toChan.vs : List ResultVar := [.cell 2 36]
def laws_toChan.x : Cx := ⟨tt, look none [(70, some laws_toStringS.K), (71, some laws_toPendingS.K), (72, some laws_toEarlyS.K), (46, some laws_toIntS.K)]⟩
def laws_toChan.f (k : Nat) (a0_0 : Int) (a0_1 : Int) (a0_2 : Int) (a0_3 : List (ByteArray)) (a0_4 : List (Int × ByteArray × Int × Int)) (a0_5 : Int) (a0_6 : List (Int × ByteArray)) (a0_7 : List (Int)) (a0_8 : List (ByteArray)) : Option (Int × Int × Int × (List (ByteArray)) × (List (Int × ByteArray × Int × Int)) × Int × (List (Int × ByteArray)) × (List (Int)) × (List (ByteArray))) :=
  (laws_toStringS.f k a0_3).bind fun r1 => (laws_toPendingS.f k a0_4).bind fun r2 => (laws_toEarlyS.f k a0_6).bind fun r3 => (laws_toIntS.f k a0_7).bind fun r4 => (laws_toStringS.f k a0_8).bind fun r5 => some (a0_0, a0_1, a0_2, r1, r2, a0_5, r3, r4, r5)
def laws_toChan.K : Ctr := ⟨laws_toChan.ps, laws_toChan.rs, false, (.two (.int .i64) (.two (.int .i64) (.two (.int .i64) (.two (.sl 9 .str) (.two (.sl 118 (.two (.int .i64) (.two .str (.two (.int .i64) (.int .i64))))) (.two (.int .i64) (.two (.sl 120 (.two (.int .i64) .str)) (.two (.sl 3 (.int .i64)) (.sl 9 .str))))))))), (.two (.int .i64) (.two (.int .i64) (.two (.int .i64) (.two (.sl 9 .str) (.two (.sl 92 (.two (.int .i64) (.two .str (.two (.int .i64) (.int .i64))))) (.two (.int .i64) (.two (.sl 87 (.two (.int .i64) .str)) (.two (.sl 3 (.int .i64)) (.sl 9 .str))))))))), fun k x => laws_toChan.f k x.1 x.2.1 x.2.2.1 x.2.2.2.1 x.2.2.2.2.1 x.2.2.2.2.2.1 x.2.2.2.2.2.2.1 x.2.2.2.2.2.2.2.1 x.2.2.2.2.2.2.2.2⟩
theorem laws_toChan.eq (k : Nat) (x : (laws_toChan.K.I).den) : func laws_toChan.x laws_toChan.h laws_toChan.ps laws_toChan.rs laws_toChan.vs laws_toChan.K.I laws_toChan.K.O laws_toChan.c k x = laws_toChan.K.run k x := by
  show _ = laws_toChan.f k x.1 x.2.1 x.2.2.1 x.2.2.2.1 x.2.2.2.2.1 x.2.2.2.2.2.1 x.2.2.2.2.2.2.1 x.2.2.2.2.2.2.2.1 x.2.2.2.2.2.2.2.2
  kernel_rfl
theorem laws_toChan.ok : CtrOk Try.prog 23 laws_toChan.K :=
  CtrOk.of (fn := Try.f23) (cd := laws_toChan.c) (cx := laws_toChan.x) (hs := laws_toChan.h) (by kernel_rfl) (by kernel_rfl) (by kernel_rfl) (by kernel_rfl) tt_ok (envOk_cons laws_toStringS.ok (envOk_cons laws_toPendingS.ok (envOk_cons laws_toEarlyS.ok (envOk_cons laws_toIntS.ok (envOk_nil))))) (by kernel_rfl) (by kernel_rfl) (by kernel_rfl) (by kernel_rfl) fun k x r h => (laws_toChan.eq k x).trans h
/-! spec.l13Copy -/
noncomputable def spec_l13Copy.c : Code := bodyOf Try.f75
def spec_l13Copy.h : Nat → Hint := look ⟨[], [], []⟩ []
def spec_l13Copy.ps : List PK := [.agg 9]
def spec_l13Copy.rs : List RK := [.agg 9 true]
def spec_l13Copy.vs : List ResultVar := [.cell 2 36]
def spec_l13Copy.x : Cx := ⟨tt, look none []⟩
def spec_l13Copy.f (_k : Nat) (a0_0 : Int) (a0_1 : Int) (a0_2 : Int) (a0_3 : List (ByteArray)) (a0_4 : List (Int × ByteArray × Int × Int)) (a0_5 : Int) (a0_6 : List (Int × ByteArray)) (a0_7 : List (Int)) (a0_8 : List (ByteArray)) : Option (Int × Int × Int × (List (ByteArray)) × (List (Int × ByteArray × Int × Int)) × Int × (List (Int × ByteArray)) × (List (Int)) × (List (ByteArray))) :=
  (bif decide ((([] : List (ByteArray)).length + a0_3.length) * 16 ≤ 140737488355328) then (bif decide ((([] : List (Int × ByteArray × Int × Int)).length + a0_4.length) * 40 ≤ 140737488355328) then (bif decide ((([] : List (Int × ByteArray)).length + a0_6.length) * 24 ≤ 140737488355328) then (bif decide ((([] : List (Int)).length + a0_7.length) * 8 ≤ 140737488355328) then (bif decide ((([] : List (ByteArray)).length + a0_8.length) * 16 ≤ 140737488355328) then some (a0_0, a0_1, a0_2, (([] : List (ByteArray)) ++ a0_3), (([] : List (Int × ByteArray × Int × Int)) ++ a0_4), a0_5, (([] : List (Int × ByteArray)) ++ a0_6), (([] : List (Int)) ++ a0_7), (([] : List (ByteArray)) ++ a0_8)) else none) else none) else none) else none) else none)
def spec_l13Copy.K : Ctr := ⟨spec_l13Copy.ps, spec_l13Copy.rs, false, (.two (.int .i64) (.two (.int .i64) (.two (.int .i64) (.two (.sl 9 .str) (.two (.sl 92 (.two (.int .i64) (.two .str (.two (.int .i64) (.int .i64))))) (.two (.int .i64) (.two (.sl 87 (.two (.int .i64) .str)) (.two (.sl 3 (.int .i64)) (.sl 9 .str))))))))), (.two (.int .i64) (.two (.int .i64) (.two (.int .i64) (.two (.sl 9 .str) (.two (.sl 92 (.two (.int .i64) (.two .str (.two (.int .i64) (.int .i64))))) (.two (.int .i64) (.two (.sl 87 (.two (.int .i64) .str)) (.two (.sl 3 (.int .i64)) (.sl 9 .str))))))))), fun k x => spec_l13Copy.f k x.1 x.2.1 x.2.2.1 x.2.2.2.1 x.2.2.2.2.1 x.2.2.2.2.2.1 x.2.2.2.2.2.2.1 x.2.2.2.2.2.2.2.1 x.2.2.2.2.2.2.2.2⟩
theorem spec_l13Copy.eq (k : Nat) (x : (spec_l13Copy.K.I).den) : func spec_l13Copy.x spec_l13Copy.h spec_l13Copy.ps spec_l13Copy.rs spec_l13Copy.vs spec_l13Copy.K.I spec_l13Copy.K.O spec_l13Copy.c k x = spec_l13Copy.K.run k x := by
  show _ = spec_l13Copy.f k x.1 x.2.1 x.2.2.1 x.2.2.2.1 x.2.2.2.2.1 x.2.2.2.2.2.1 x.2.2.2.2.2.2.1 x.2.2.2.2.2.2.2.1 x.2.2.2.2.2.2.2.2
  kernel_rfl
theorem spec_l13Copy.ok : CtrOk Try.prog 75 spec_l13Copy.K :=
  CtrOk.of (fn := Try.f75) (cd := spec_l13Copy.c) (cx := spec_l13Copy.x) (hs := spec_l13Copy.h) (by kernel_rfl) (by kernel_rfl) (by kernel_rfl) (by kernel_rfl) tt_ok (envOk_nil) (by kernel_rfl) (by kernel_rfl) (by kernel_rfl) (by kernel_rfl) fun k x r h => (spec_l13Copy.eq k x).trans h
end Go.Proofs.Ytpheniajdbbphaa.DI
