/- FnExactTidySlots: functions as plain Lean, in the machine of values. -/
import Derived.Test.YtfaeklomiofpdaaVFnExactTidySlots1
namespace Go.Proofs.Ytfaeklomiofpdaa.DI
open Go
set_option linter.unusedVariables false
/-! laws.markSlots -/
noncomputable def laws_markSlots.c : Code := bodyOf Try.f50
def laws_markSlots.h : Nat → Hint := look ⟨[], [], []⟩ []
def laws_markSlots.ps : List PK := [.aggw 12 [4, 10], .one]
def laws_markSlots.rs : List RK := [.one true]
def laws_markSlots.vs : List ResultVar := [.tmp 4]
def laws_markSlots.x : Cx := ⟨tt, look none [(111, some laws_markSlot.K)]⟩
def laws_markSlots.f (k : Nat) (a0_0 : Int) (a0_1 : ByteArray) (a0_2 : ByteArray) (a0_3 : Int) (a0_4 : List (Int)) (a0_5 : Int) (a0_6 : Int) (a0_7 : ByteArray) (a0_8 : ByteArray) (a0_9 : Int) (a0_10 : List (Int)) (a0_11 : Int) (a1 : Int) : Option (Int × (List (Int)) × (List (Int))) :=
  (laws_markSlot.f k a0_0 a0_1 a0_2 a0_3 a0_4 a0_5 a1).bind fun r1 => (laws_markSlot.f k a0_6 a0_7 a0_8 a0_9 a0_10 a0_11 r1.1).bind fun r2 => some (r2.1, r1.2, r2.2)
def laws_markSlots.K : Ctr := ⟨laws_markSlots.ps, laws_markSlots.rs, false, (.two (.int .i64) (.two .str (.two .str (.two (.int .i64) (.two (.sl 3 (.int .i64)) (.two (.int .i64) (.two (.int .i64) (.two .str (.two .str (.two (.int .i64) (.two (.sl 3 (.int .i64)) (.two (.int .i64) (.int .i64))))))))))))), (.two (.int .i64) (.two (.sl 3 (.int .i64)) (.sl 3 (.int .i64)))), fun k x => laws_markSlots.f k x.1 x.2.1 x.2.2.1 x.2.2.2.1 x.2.2.2.2.1 x.2.2.2.2.2.1 x.2.2.2.2.2.2.1 x.2.2.2.2.2.2.2.1 x.2.2.2.2.2.2.2.2.1 x.2.2.2.2.2.2.2.2.2.1 x.2.2.2.2.2.2.2.2.2.2.1 x.2.2.2.2.2.2.2.2.2.2.2.1 x.2.2.2.2.2.2.2.2.2.2.2.2⟩
theorem laws_markSlots.eq (k : Nat) (x : (laws_markSlots.K.I).den) : func laws_markSlots.x laws_markSlots.h laws_markSlots.ps laws_markSlots.rs laws_markSlots.vs laws_markSlots.K.I laws_markSlots.K.O laws_markSlots.c k x = laws_markSlots.K.run k x := by
  show _ = laws_markSlots.f k x.1 x.2.1 x.2.2.1 x.2.2.2.1 x.2.2.2.2.1 x.2.2.2.2.2.1 x.2.2.2.2.2.2.1 x.2.2.2.2.2.2.2.1 x.2.2.2.2.2.2.2.2.1 x.2.2.2.2.2.2.2.2.2.1 x.2.2.2.2.2.2.2.2.2.2.1 x.2.2.2.2.2.2.2.2.2.2.2.1 x.2.2.2.2.2.2.2.2.2.2.2.2
  kernel_rfl
theorem laws_markSlots.ok : CtrOk Try.prog 50 laws_markSlots.K :=
  CtrOk.of (fn := Try.f50) (cd := laws_markSlots.c) (cx := laws_markSlots.x) (hs := laws_markSlots.h) (by kernel_rfl) (by kernel_rfl) (by kernel_rfl) (by kernel_rfl) tt_ok (envOk_cons laws_markSlot.ok (envOk_nil)) (by kernel_rfl) (by kernel_rfl) (by kernel_rfl) (by kernel_rfl) fun k x r h => (laws_markSlots.eq k x).trans h
/-! laws.heldIntS -/
noncomputable def laws_heldIntS.c : Code := bodyOf Try.f31
def laws_heldIntS.h : Nat → Hint := look ⟨[], [], []⟩ [(0, ⟨[0, 1, 5], [], []⟩)]
def laws_heldIntS.ps : List PK := [.one, .one]
def laws_heldIntS.rs : List RK := [.one true]
def laws_heldIntS.vs : List ResultVar := [.tmp 4]
def laws_heldIntS.x : Cx := ⟨tt, look none []⟩
def laws_heldIntS.s0 (_k : Nat) (rec0 : (Int × Int × (List (Int))) → Option (Int)) (p : (Int × Int × (List (Int)))) : Option (Int) :=
  (bif (decide (p.2.1 < (p.2.2.length : Int))) then (bif ((decide ((0 : Int) ≤ p.2.1)) && (decide (p.2.1 < (p.2.2.length : Int)))) then (p.2.2[p.2.1.toNat]?).bind fun x1 => (bif (x1 != p.1) then some (-1 : Int) else rec0 ((IntKind.i64.wrap (p.1 + (1 : Int))), (IntKind.i64.wrap (p.2.1 + (1 : Int))), p.2.2)) else none) else some p.1)
def laws_heldIntS.l0 (k : Nat) : Nat → (Int × Int × (List (Int))) → Option (Int)
  | 0 => fun _ => none
  | j + 1 => laws_heldIntS.s0 k (laws_heldIntS.l0 k j)
def laws_heldIntS.S0 (p : (Int × Int × (List (Int)))) : DS := ⟨tl [(0, .at (.whole 0)), (1, .at (.int .i64 p.1)), (5, .at (.int .i64 p.2.1))], lookO [(0, .row 3 (.int .i64) false p.2.2)]⟩
noncomputable def laws_heldIntS.D0 (k : Nat) (j : Nat) (p : (Int × Int × (List (Int)))) : Option (Int) := loopK (norm [0] (laws_heldIntS.h 0)) (runK laws_heldIntS.x k 0 [0] laws_heldIntS.h 0 (sub laws_heldIntS.c [1, 0, 1, 0, 0])) j (laws_heldIntS.S0 p) (kBlk 0 (kSeq (runK laws_heldIntS.x k 0 [0] laws_heldIntS.h 0 (sub laws_heldIntS.c [1, 1])) (fin tt laws_heldIntS.ps laws_heldIntS.rs laws_heldIntS.vs (.int .i64))))
theorem laws_heldIntS.D0_eq (k : Nat) : ∀ j, laws_heldIntS.D0 k j = laws_heldIntS.l0 k j := by
  intro j
  induction j with
  | zero => rfl
  | succ j ih =>
    show _ = laws_heldIntS.s0 k (laws_heldIntS.l0 k j)
    rw [← ih]
    funext p
    kernel_rfl
def laws_heldIntS.f (k : Nat) (a0 : List (Int)) (a1 : Int) : Option (Int) :=
  laws_heldIntS.l0 k k (a1, (0 : Int), a0)
def laws_heldIntS.K : Ctr := ⟨laws_heldIntS.ps, laws_heldIntS.rs, false, (.two (.sl 3 (.int .i64)) (.int .i64)), (.int .i64), fun k x => laws_heldIntS.f k x.1 x.2⟩
theorem laws_heldIntS.eq (k : Nat) (x : (laws_heldIntS.K.I).den) : func laws_heldIntS.x laws_heldIntS.h laws_heldIntS.ps laws_heldIntS.rs laws_heldIntS.vs laws_heldIntS.K.I laws_heldIntS.K.O laws_heldIntS.c k x = laws_heldIntS.K.run k x := by
  show _ = laws_heldIntS.f k x.1 x.2
  unfold laws_heldIntS.f
  rw [← laws_heldIntS.D0_eq k k]
  kernel_rfl
theorem laws_heldIntS.ok : CtrOk Try.prog 31 laws_heldIntS.K :=
  CtrOk.of (fn := Try.f31) (cd := laws_heldIntS.c) (cx := laws_heldIntS.x) (hs := laws_heldIntS.h) (by kernel_rfl) (by kernel_rfl) (by kernel_rfl) (by kernel_rfl) tt_ok (envOk_nil) (by kernel_rfl) (by kernel_rfl) (by kernel_rfl) (by kernel_rfl) fun k x r h => (laws_heldIntS.eq k x).trans h
/-! laws.heldSlot -/
noncomputable def laws_heldSlot.c : Code := bodyOf Try.f112
def laws_heldSlot.h : Nat → Hint := look ⟨[], [], []⟩ []
def laws_heldSlot.ps : List PK := [.agg 6, .one]
def laws_heldSlot.rs : List RK := [.one true]
def laws_heldSlot.vs : List ResultVar := [.tmp 4]
def laws_heldSlot.x : Cx := ⟨tt, look none [(31, some laws_heldIntS.K)]⟩
def laws_heldSlot.f (k : Nat) (_a0_0 : Int) (_a0_1 : ByteArray) (_a0_2 : ByteArray) (_a0_3 : Int) (a0_4 : List (Int)) (_a0_5 : Int) (a1 : Int) : Option (Int) :=
  (laws_heldIntS.f k a0_4 a1).bind fun r1 => (bif (decide (r1 < (0 : Int))) then some (-1 : Int) else some r1)
def laws_heldSlot.K : Ctr := ⟨laws_heldSlot.ps, laws_heldSlot.rs, false, (.two (.int .i64) (.two .str (.two .str (.two (.int .i64) (.two (.sl 3 (.int .i64)) (.two (.int .i64) (.int .i64))))))), (.int .i64), fun k x => laws_heldSlot.f k x.1 x.2.1 x.2.2.1 x.2.2.2.1 x.2.2.2.2.1 x.2.2.2.2.2.1 x.2.2.2.2.2.2⟩
theorem laws_heldSlot.eq (k : Nat) (x : (laws_heldSlot.K.I).den) : func laws_heldSlot.x laws_heldSlot.h laws_heldSlot.ps laws_heldSlot.rs laws_heldSlot.vs laws_heldSlot.K.I laws_heldSlot.K.O laws_heldSlot.c k x = laws_heldSlot.K.run k x := by
  show _ = laws_heldSlot.f k x.1 x.2.1 x.2.2.1 x.2.2.2.1 x.2.2.2.2.1 x.2.2.2.2.2.1 x.2.2.2.2.2.2
  kernel_rfl
theorem laws_heldSlot.ok : CtrOk Try.prog 112 laws_heldSlot.K :=
  CtrOk.of (fn := Try.f112) (cd := laws_heldSlot.c) (cx := laws_heldSlot.x) (hs := laws_heldSlot.h) (by kernel_rfl) (by kernel_rfl) (by kernel_rfl) (by kernel_rfl) tt_ok (envOk_cons laws_heldIntS.ok (envOk_nil)) (by kernel_rfl) (by kernel_rfl) (by kernel_rfl) (by kernel_rfl) fun k x r h => (laws_heldSlot.eq k x).trans h
/-! laws.heldSlots -/
noncomputable def laws_heldSlots.c : Code := bodyOf Try.f51
def laws_heldSlots.h : Nat → Hint := look ⟨[], [], []⟩ []
def laws_heldSlots.ps : List PK := [.agg 12, .one]
def laws_heldSlots.rs : List RK := [.one true]
def laws_heldSlots.vs : List ResultVar := [.tmp 4]
def laws_heldSlots.x : Cx := ⟨tt, look none [(112, some laws_heldSlot.K)]⟩
def laws_heldSlots.f (k : Nat) (a0_0 : Int) (a0_1 : ByteArray) (a0_2 : ByteArray) (a0_3 : Int) (a0_4 : List (Int)) (a0_5 : Int) (a0_6 : Int) (a0_7 : ByteArray) (a0_8 : ByteArray) (a0_9 : Int) (a0_10 : List (Int)) (a0_11 : Int) (a1 : Int) : Option (Int) :=
  (laws_heldSlot.f k a0_0 a0_1 a0_2 a0_3 a0_4 a0_5 a1).bind fun r1 => (bif (decide (r1 < (0 : Int))) then some (-1 : Int) else (laws_heldSlot.f k a0_6 a0_7 a0_8 a0_9 a0_10 a0_11 r1).bind fun r2 => (bif (decide (r2 < (0 : Int))) then some (-1 : Int) else some r2))
def laws_heldSlots.K : Ctr := ⟨laws_heldSlots.ps, laws_heldSlots.rs, false, (.two (.int .i64) (.two .str (.two .str (.two (.int .i64) (.two (.sl 3 (.int .i64)) (.two (.int .i64) (.two (.int .i64) (.two .str (.two .str (.two (.int .i64) (.two (.sl 3 (.int .i64)) (.two (.int .i64) (.int .i64))))))))))))), (.int .i64), fun k x => laws_heldSlots.f k x.1 x.2.1 x.2.2.1 x.2.2.2.1 x.2.2.2.2.1 x.2.2.2.2.2.1 x.2.2.2.2.2.2.1 x.2.2.2.2.2.2.2.1 x.2.2.2.2.2.2.2.2.1 x.2.2.2.2.2.2.2.2.2.1 x.2.2.2.2.2.2.2.2.2.2.1 x.2.2.2.2.2.2.2.2.2.2.2.1 x.2.2.2.2.2.2.2.2.2.2.2.2⟩
theorem laws_heldSlots.eq (k : Nat) (x : (laws_heldSlots.K.I).den) : func laws_heldSlots.x laws_heldSlots.h laws_heldSlots.ps laws_heldSlots.rs laws_heldSlots.vs laws_heldSlots.K.I laws_heldSlots.K.O laws_heldSlots.c k x = laws_heldSlots.K.run k x := by
  show _ = laws_heldSlots.f k x.1 x.2.1 x.2.2.1 x.2.2.2.1 x.2.2.2.2.1 x.2.2.2.2.2.1 x.2.2.2.2.2.2.1 x.2.2.2.2.2.2.2.1 x.2.2.2.2.2.2.2.2.1 x.2.2.2.2.2.2.2.2.2.1 x.2.2.2.2.2.2.2.2.2.2.1 x.2.2.2.2.2.2.2.2.2.2.2.1 x.2.2.2.2.2.2.2.2.2.2.2.2
  kernel_rfl
theorem laws_heldSlots.ok : CtrOk Try.prog 51 laws_heldSlots.K :=
  CtrOk.of (fn := Try.f51) (cd := laws_heldSlots.c) (cx := laws_heldSlots.x) (hs := laws_heldSlots.h) (by kernel_rfl) (by kernel_rfl) (by kernel_rfl) (by kernel_rfl) tt_ok (envOk_cons laws_heldSlot.ok (envOk_nil)) (by kernel_rfl) (by kernel_rfl) (by kernel_rfl) (by kernel_rfl) fun k x r h => (laws_heldSlots.eq k x).trans h
/-! laws.FnExactTidySlots -/
noncomputable def laws_FnExactTidySlots.c : Code := bodyOf Try.f10
def laws_FnExactTidySlots.h : Nat → Hint := look ⟨[], [], []⟩ []
def laws_FnExactTidySlots.ps : List PK := [.agg 12, .one]
def laws_FnExactTidySlots.rs : List RK := [.one true]
def laws_FnExactTidySlots.vs : List ResultVar := [.tmp 4]
def laws_FnExactTidySlots.x : Cx := ⟨tt, look none [(43, some laws_szSlots.K), (45, some laws_toSlots.K), (48, some spec_TidySlots.K), (49, some impl_TidySlots.K), (47, some laws_eqSlots.K), (50, some laws_markSlots.K), (51, some laws_heldSlots.K)]⟩
def laws_FnExactTidySlots.f (k : Nat) (a0_0 : Int) (a0_1 : ByteArray) (a0_2 : ByteArray) (a0_3 : Int) (a0_4 : List (Int)) (a0_5 : Int) (a0_6 : Int) (a0_7 : ByteArray) (a0_8 : ByteArray) (a0_9 : Int) (a0_10 : List (Int)) (a0_11 : Int) (a1 : Int) : Option (Bool) :=
  (laws_szSlots.f k a0_0 a0_1 a0_2 a0_3 a0_4 a0_5 a0_6 a0_7 a0_8 a0_9 a0_10 a0_11 (1048576 : Int)).bind fun r1 => (bif (decide (r1 < (0 : Int))) then some true else (laws_toSlots.f k a0_0 a0_1 a0_2 a0_3 a0_4 a0_5 a0_6 a0_7 a0_8 a0_9 a0_10 a0_11).bind fun r2 => (spec_TidySlots.f k r2.1 r2.2.1 r2.2.2.1 r2.2.2.2.1 r2.2.2.2.2.1 r2.2.2.2.2.2.1 r2.2.2.2.2.2.2.1 r2.2.2.2.2.2.2.2.1 r2.2.2.2.2.2.2.2.2.1 r2.2.2.2.2.2.2.2.2.2.1 r2.2.2.2.2.2.2.2.2.2.2.1 r2.2.2.2.2.2.2.2.2.2.2.2 a1).bind fun r3 => (laws_toSlots.f k a0_0 a0_1 a0_2 a0_3 a0_4 a0_5 a0_6 a0_7 a0_8 a0_9 a0_10 a0_11).bind fun r4 => (impl_TidySlots.f k r4.1 r4.2.1 r4.2.2.1 r4.2.2.2.1 r4.2.2.2.2.1 r4.2.2.2.2.2.1 r4.2.2.2.2.2.2.1 r4.2.2.2.2.2.2.2.1 r4.2.2.2.2.2.2.2.2.1 r4.2.2.2.2.2.2.2.2.2.1 r4.2.2.2.2.2.2.2.2.2.2.1 r4.2.2.2.2.2.2.2.2.2.2.2 a1).bind fun r5 => (laws_eqSlots.f k r5.1 r5.2.1 r5.2.2.1 r5.2.2.2.1 r5.2.2.2.2.1 r5.2.2.2.2.2.1 r5.2.2.2.2.2.2.1 r5.2.2.2.2.2.2.2.1 r5.2.2.2.2.2.2.2.2.1 r5.2.2.2.2.2.2.2.2.2.1 r5.2.2.2.2.2.2.2.2.2.2.1 r5.2.2.2.2.2.2.2.2.2.2.2 r3.1 r3.2.1 r3.2.2.1 r3.2.2.2.1 r3.2.2.2.2.1 r3.2.2.2.2.2.1 r3.2.2.2.2.2.2.1 r3.2.2.2.2.2.2.2.1 r3.2.2.2.2.2.2.2.2.1 r3.2.2.2.2.2.2.2.2.2.1 r3.2.2.2.2.2.2.2.2.2.2.1 r3.2.2.2.2.2.2.2.2.2.2.2).bind fun r6 => (bif (!r6) then some false else (laws_toSlots.f k a0_0 a0_1 a0_2 a0_3 a0_4 a0_5 a0_6 a0_7 a0_8 a0_9 a0_10 a0_11).bind fun r7 => (laws_eqSlots.f k r4.1 r4.2.1 r4.2.2.1 r4.2.2.2.1 r4.2.2.2.2.1 r4.2.2.2.2.2.1 r4.2.2.2.2.2.2.1 r4.2.2.2.2.2.2.2.1 r4.2.2.2.2.2.2.2.2.1 r4.2.2.2.2.2.2.2.2.2.1 r4.2.2.2.2.2.2.2.2.2.2.1 r4.2.2.2.2.2.2.2.2.2.2.2 r7.1 r7.2.1 r7.2.2.1 r7.2.2.2.1 r7.2.2.2.2.1 r7.2.2.2.2.2.1 r7.2.2.2.2.2.2.1 r7.2.2.2.2.2.2.2.1 r7.2.2.2.2.2.2.2.2.1 r7.2.2.2.2.2.2.2.2.2.1 r7.2.2.2.2.2.2.2.2.2.2.1 r7.2.2.2.2.2.2.2.2.2.2.2).bind fun r8 => (bif (!r8) then some false else (laws_markSlots.f k r4.1 r4.2.1 r4.2.2.1 r4.2.2.2.1 r4.2.2.2.2.1 r4.2.2.2.2.2.1 r4.2.2.2.2.2.2.1 r4.2.2.2.2.2.2.2.1 r4.2.2.2.2.2.2.2.2.1 r4.2.2.2.2.2.2.2.2.2.1 r4.2.2.2.2.2.2.2.2.2.2.1 r4.2.2.2.2.2.2.2.2.2.2.2 (1 : Int)).bind fun r9 => (bif (decide (r9.1 < (0 : Int))) then some false else (laws_eqSlots.f k r5.1 r5.2.1 r5.2.2.1 r5.2.2.2.1 r5.2.2.2.2.1 r5.2.2.2.2.2.1 r5.2.2.2.2.2.2.1 r5.2.2.2.2.2.2.2.1 r5.2.2.2.2.2.2.2.2.1 r5.2.2.2.2.2.2.2.2.2.1 r5.2.2.2.2.2.2.2.2.2.2.1 r5.2.2.2.2.2.2.2.2.2.2.2 r3.1 r3.2.1 r3.2.2.1 r3.2.2.2.1 r3.2.2.2.2.1 r3.2.2.2.2.2.1 r3.2.2.2.2.2.2.1 r3.2.2.2.2.2.2.2.1 r3.2.2.2.2.2.2.2.2.1 r3.2.2.2.2.2.2.2.2.2.1 r3.2.2.2.2.2.2.2.2.2.2.1 r3.2.2.2.2.2.2.2.2.2.2.2).bind fun r10 => (bif (!r10) then some false else (laws_markSlots.f k r5.1 r5.2.1 r5.2.2.1 r5.2.2.2.1 r5.2.2.2.2.1 r5.2.2.2.2.2.1 r5.2.2.2.2.2.2.1 r5.2.2.2.2.2.2.2.1 r5.2.2.2.2.2.2.2.2.1 r5.2.2.2.2.2.2.2.2.2.1 r5.2.2.2.2.2.2.2.2.2.2.1 r5.2.2.2.2.2.2.2.2.2.2.2 (1 : Int)).bind fun r11 => (laws_heldSlots.f k r5.1 r5.2.1 r5.2.2.1 r5.2.2.2.1 r11.2.1 r5.2.2.2.2.2.1 r5.2.2.2.2.2.2.1 r5.2.2.2.2.2.2.2.1 r5.2.2.2.2.2.2.2.2.1 r5.2.2.2.2.2.2.2.2.2.1 r11.2.2 r5.2.2.2.2.2.2.2.2.2.2.2 (1 : Int)).bind fun r12 => (bif (decide (r12 < (0 : Int))) then some false else (bif (r12 != r11.1) then some false else (laws_toSlots.f k a0_0 a0_1 a0_2 a0_3 a0_4 a0_5 a0_6 a0_7 a0_8 a0_9 a0_10 a0_11).bind fun r13 => (impl_TidySlots.f k r13.1 r13.2.1 r13.2.2.1 r13.2.2.2.1 r13.2.2.2.2.1 r13.2.2.2.2.2.1 r13.2.2.2.2.2.2.1 r13.2.2.2.2.2.2.2.1 r13.2.2.2.2.2.2.2.2.1 r13.2.2.2.2.2.2.2.2.2.1 r13.2.2.2.2.2.2.2.2.2.2.1 r13.2.2.2.2.2.2.2.2.2.2.2 a1).bind fun r14 => (laws_eqSlots.f k r14.1 r14.2.1 r14.2.2.1 r14.2.2.2.1 r14.2.2.2.2.1 r14.2.2.2.2.2.1 r14.2.2.2.2.2.2.1 r14.2.2.2.2.2.2.2.1 r14.2.2.2.2.2.2.2.2.1 r14.2.2.2.2.2.2.2.2.2.1 r14.2.2.2.2.2.2.2.2.2.2.1 r14.2.2.2.2.2.2.2.2.2.2.2 r3.1 r3.2.1 r3.2.2.1 r3.2.2.2.1 r3.2.2.2.2.1 r3.2.2.2.2.2.1 r3.2.2.2.2.2.2.1 r3.2.2.2.2.2.2.2.1 r3.2.2.2.2.2.2.2.2.1 r3.2.2.2.2.2.2.2.2.2.1 r3.2.2.2.2.2.2.2.2.2.2.1 r3.2.2.2.2.2.2.2.2.2.2.2).bind fun r15 => (bif (!r15) then some false else (laws_heldSlots.f k r5.1 r5.2.1 r5.2.2.1 r5.2.2.2.1 r11.2.1 r5.2.2.2.2.2.1 r5.2.2.2.2.2.2.1 r5.2.2.2.2.2.2.2.1 r5.2.2.2.2.2.2.2.2.1 r5.2.2.2.2.2.2.2.2.2.1 r11.2.2 r5.2.2.2.2.2.2.2.2.2.2.2 (1 : Int)).bind fun r16 => (bif (decide (r16 < (0 : Int))) then some false else (bif (r16 != r11.1) then some false else some true))))))))))
def laws_FnExactTidySlots.K : Ctr := ⟨laws_FnExactTidySlots.ps, laws_FnExactTidySlots.rs, false, (.two (.int .i64) (.two .str (.two .str (.two (.int .i64) (.two (.sl 3 (.int .i64)) (.two (.int .i64) (.two (.int .i64) (.two .str (.two .str (.two (.int .i64) (.two (.sl 3 (.int .i64)) (.two (.int .i64) (.int .i64))))))))))))), .bool, fun k x => laws_FnExactTidySlots.f k x.1 x.2.1 x.2.2.1 x.2.2.2.1 x.2.2.2.2.1 x.2.2.2.2.2.1 x.2.2.2.2.2.2.1 x.2.2.2.2.2.2.2.1 x.2.2.2.2.2.2.2.2.1 x.2.2.2.2.2.2.2.2.2.1 x.2.2.2.2.2.2.2.2.2.2.1 x.2.2.2.2.2.2.2.2.2.2.2.1 x.2.2.2.2.2.2.2.2.2.2.2.2⟩
theorem laws_FnExactTidySlots.eq (k : Nat) (x : (laws_FnExactTidySlots.K.I).den) : func laws_FnExactTidySlots.x laws_FnExactTidySlots.h laws_FnExactTidySlots.ps laws_FnExactTidySlots.rs laws_FnExactTidySlots.vs laws_FnExactTidySlots.K.I laws_FnExactTidySlots.K.O laws_FnExactTidySlots.c k x = laws_FnExactTidySlots.K.run k x := by
  show _ = laws_FnExactTidySlots.f k x.1 x.2.1 x.2.2.1 x.2.2.2.1 x.2.2.2.2.1 x.2.2.2.2.2.1 x.2.2.2.2.2.2.1 x.2.2.2.2.2.2.2.1 x.2.2.2.2.2.2.2.2.1 x.2.2.2.2.2.2.2.2.2.1 x.2.2.2.2.2.2.2.2.2.2.1 x.2.2.2.2.2.2.2.2.2.2.2.1 x.2.2.2.2.2.2.2.2.2.2.2.2
  kernel_rfl
theorem laws_FnExactTidySlots.ok : CtrOk Try.prog 10 laws_FnExactTidySlots.K :=
  CtrOk.of (fn := Try.f10) (cd := laws_FnExactTidySlots.c) (cx := laws_FnExactTidySlots.x) (hs := laws_FnExactTidySlots.h) (by kernel_rfl) (by kernel_rfl) (by kernel_rfl) (by kernel_rfl) tt_ok (envOk_cons laws_szSlots.ok (envOk_cons laws_toSlots.ok (envOk_cons spec_TidySlots.ok (envOk_cons impl_TidySlots.ok (envOk_cons laws_eqSlots.ok (envOk_cons laws_markSlots.ok (envOk_cons laws_heldSlots.ok (envOk_nil)))))))) (by kernel_rfl) (by kernel_rfl) (by kernel_rfl) (by kernel_rfl) fun k x r h => (laws_FnExactTidySlots.eq k x).trans h
end Go.Proofs.Ytfaeklomiofpdaa.DI
