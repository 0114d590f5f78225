/- FnExactTidySlots: functions as plain Lean, in the machine of values. -/
import Derived.Test.YtfaeklomiofpdaaVFnExactTidySlots0
namespace Go.Proofs.Ytfaeklomiofpdaa.DI
open Go
set_option linter.unusedVariables false
/-! laws.szIntS -/
noncomputable def laws_szIntS.c : Code := bodyOf Try.f145
def laws_szIntS.h : Nat → Hint := look ⟨[], [], []⟩ []
def laws_szIntS.ps : List PK := [.one, .one]
def laws_szIntS.rs : List RK := [.one true]
def laws_szIntS.vs : List ResultVar := [.tmp 4]
def laws_szIntS.x : Cx := ⟨tt, look none []⟩
def laws_szIntS.f (_k : Nat) (a0 : List (Int)) (a1 : Int) : Option (Int) :=
  (bif (decide ((IntKind.i64.wrap (a1 - (a0.length : Int))) < (0 : Int))) then some (-1 : Int) else some (IntKind.i64.wrap (a1 - (a0.length : Int))))
def laws_szIntS.K : Ctr := ⟨laws_szIntS.ps, laws_szIntS.rs, false, (.two (.sl 3 (.int .i64)) (.int .i64)), (.int .i64), fun k x => laws_szIntS.f k x.1 x.2⟩
theorem laws_szIntS.eq (k : Nat) (x : (laws_szIntS.K.I).den) : func laws_szIntS.x laws_szIntS.h laws_szIntS.ps laws_szIntS.rs laws_szIntS.vs laws_szIntS.K.I laws_szIntS.K.O laws_szIntS.c k x = laws_szIntS.K.run k x := by
  show _ = laws_szIntS.f k x.1 x.2
  kernel_rfl
theorem laws_szIntS.ok : CtrOk Try.prog 145 laws_szIntS.K :=
  CtrOk.of (fn := Try.f145) (cd := laws_szIntS.c) (cx := laws_szIntS.x) (hs := laws_szIntS.h) (by kernel_rfl) (by kernel_rfl) (by kernel_rfl) (by kernel_rfl) tt_ok (envOk_nil) (by kernel_rfl) (by kernel_rfl) (by kernel_rfl) (by kernel_rfl) fun k x r h => (laws_szIntS.eq k x).trans h
/-! laws.szSlot -/
noncomputable def laws_szSlot.c : Code := bodyOf Try.f103
def laws_szSlot.h : Nat → Hint := look ⟨[], [], []⟩ []
def laws_szSlot.ps : List PK := [.agg 6, .one]
def laws_szSlot.rs : List RK := [.one true]
def laws_szSlot.vs : List ResultVar := [.tmp 4]
def laws_szSlot.x : Cx := ⟨tt, look none [(145, some laws_szIntS.K)]⟩
def laws_szSlot.f (k : Nat) (_a0_0 : Int) (a0_1 : ByteArray) (a0_2 : ByteArray) (_a0_3 : Int) (a0_4 : List (Int)) (_a0_5 : Int) (a1 : Int) : Option (Int) :=
  (bif (decide ((IntKind.i64.wrap (a1 - (a0_1.size : Int))) < (0 : Int))) then some (-1 : Int) else (bif (decide ((IntKind.i64.wrap ((IntKind.i64.wrap (a1 - (a0_1.size : Int))) - (a0_2.size : Int))) < (0 : Int))) then some (-1 : Int) else (laws_szIntS.f k a0_4 (IntKind.i64.wrap ((IntKind.i64.wrap (a1 - (a0_1.size : Int))) - (a0_2.size : Int)))).bind fun r1 => (bif (decide (r1 < (0 : Int))) then some (-1 : Int) else some r1)))
def laws_szSlot.K : Ctr := ⟨laws_szSlot.ps, laws_szSlot.rs, false, (.two (.int .i64) (.two .str (.two .str (.two (.int .i64) (.two (.sl 3 (.int .i64)) (.two (.int .i64) (.int .i64))))))), (.int .i64), fun k x => laws_szSlot.f k x.1 x.2.1 x.2.2.1 x.2.2.2.1 x.2.2.2.2.1 x.2.2.2.2.2.1 x.2.2.2.2.2.2⟩
theorem laws_szSlot.eq (k : Nat) (x : (laws_szSlot.K.I).den) : func laws_szSlot.x laws_szSlot.h laws_szSlot.ps laws_szSlot.rs laws_szSlot.vs laws_szSlot.K.I laws_szSlot.K.O laws_szSlot.c k x = laws_szSlot.K.run k x := by
  show _ = laws_szSlot.f k x.1 x.2.1 x.2.2.1 x.2.2.2.1 x.2.2.2.2.1 x.2.2.2.2.2.1 x.2.2.2.2.2.2
  kernel_rfl
theorem laws_szSlot.ok : CtrOk Try.prog 103 laws_szSlot.K :=
  CtrOk.of (fn := Try.f103) (cd := laws_szSlot.c) (cx := laws_szSlot.x) (hs := laws_szSlot.h) (by kernel_rfl) (by kernel_rfl) (by kernel_rfl) (by kernel_rfl) tt_ok (envOk_cons laws_szIntS.ok (envOk_nil)) (by kernel_rfl) (by kernel_rfl) (by kernel_rfl) (by kernel_rfl) fun k x r h => (laws_szSlot.eq k x).trans h
/-! laws.szSlots -/
noncomputable def laws_szSlots.c : Code := bodyOf Try.f43
def laws_szSlots.h : Nat → Hint := look ⟨[], [], []⟩ []
def laws_szSlots.ps : List PK := [.agg 12, .one]
def laws_szSlots.rs : List RK := [.one true]
def laws_szSlots.vs : List ResultVar := [.tmp 4]
def laws_szSlots.x : Cx := ⟨tt, look none [(103, some laws_szSlot.K)]⟩
def laws_szSlots.f (k : Nat) (a0_0 : Int) (a0_1 : ByteArray) (a0_2 : ByteArray) (a0_3 : Int) (a0_4 : List (Int)) (a0_5 : Int) (a0_6 : Int) (a0_7 : ByteArray) (a0_8 : ByteArray) (a0_9 : Int) (a0_10 : List (Int)) (a0_11 : Int) (a1 : Int) : Option (Int) :=
  (laws_szSlot.f k a0_0 a0_1 a0_2 a0_3 a0_4 a0_5 a1).bind fun r1 => (bif (decide (r1 < (0 : Int))) then some (-1 : Int) else (laws_szSlot.f k a0_6 a0_7 a0_8 a0_9 a0_10 a0_11 r1).bind fun r2 => (bif (decide (r2 < (0 : Int))) then some (-1 : Int) else some r2))
def laws_szSlots.K : Ctr := ⟨laws_szSlots.ps, laws_szSlots.rs, false, (.two (.int .i64) (.two .str (.two .str (.two (.int .i64) (.two (.sl 3 (.int .i64)) (.two (.int .i64) (.two (.int .i64) (.two .str (.two .str (.two (.int .i64) (.two (.sl 3 (.int .i64)) (.two (.int .i64) (.int .i64))))))))))))), (.int .i64), fun k x => laws_szSlots.f k x.1 x.2.1 x.2.2.1 x.2.2.2.1 x.2.2.2.2.1 x.2.2.2.2.2.1 x.2.2.2.2.2.2.1 x.2.2.2.2.2.2.2.1 x.2.2.2.2.2.2.2.2.1 x.2.2.2.2.2.2.2.2.2.1 x.2.2.2.2.2.2.2.2.2.2.1 x.2.2.2.2.2.2.2.2.2.2.2.1 x.2.2.2.2.2.2.2.2.2.2.2.2⟩
theorem laws_szSlots.eq (k : Nat) (x : (laws_szSlots.K.I).den) : func laws_szSlots.x laws_szSlots.h laws_szSlots.ps laws_szSlots.rs laws_szSlots.vs laws_szSlots.K.I laws_szSlots.K.O laws_szSlots.c k x = laws_szSlots.K.run k x := by
  show _ = laws_szSlots.f k x.1 x.2.1 x.2.2.1 x.2.2.2.1 x.2.2.2.2.1 x.2.2.2.2.2.1 x.2.2.2.2.2.2.1 x.2.2.2.2.2.2.2.1 x.2.2.2.2.2.2.2.2.1 x.2.2.2.2.2.2.2.2.2.1 x.2.2.2.2.2.2.2.2.2.2.1 x.2.2.2.2.2.2.2.2.2.2.2.1 x.2.2.2.2.2.2.2.2.2.2.2.2
  kernel_rfl
theorem laws_szSlots.ok : CtrOk Try.prog 43 laws_szSlots.K :=
  CtrOk.of (fn := Try.f43) (cd := laws_szSlots.c) (cx := laws_szSlots.x) (hs := laws_szSlots.h) (by kernel_rfl) (by kernel_rfl) (by kernel_rfl) (by kernel_rfl) tt_ok (envOk_cons laws_szSlot.ok (envOk_nil)) (by kernel_rfl) (by kernel_rfl) (by kernel_rfl) (by kernel_rfl) fun k x r h => (laws_szSlots.eq k x).trans h
/-! laws.toIntS -/
noncomputable def laws_toIntS.c : Code := bodyOf Try.f147
def laws_toIntS.h : Nat → Hint := look ⟨[], [], []⟩ [(0, ⟨[0, 3, 4], [], [(.t 3, 352, 3, (.int .i64))]⟩)]
def laws_toIntS.ps : List PK := [.one]
def laws_toIntS.rs : List RK := [.one true]
def laws_toIntS.vs : List ResultVar := [.tmp 2]
def laws_toIntS.x : Cx := ⟨tt, look none []⟩
def laws_toIntS.s0 (_k : Nat) (rec0 : (Int × (List (Int)) × (List (Int))) → Option ((List (Int)))) (p : (Int × (List (Int)) × (List (Int)))) : Option ((List (Int))) :=
  (bif (decide (p.1 < (p.2.1.length : Int))) then (bif ((decide ((0 : Int) ≤ p.1)) && (decide (p.1 < (p.2.1.length : Int)))) then (p.2.1[p.1.toNat]?).bind fun x1 => (bif ((decide ((0 : Int) ≤ p.1)) && (decide (p.1 < (p.2.2.length : Int)))) then (p.2.2[p.1.toNat]?).bind fun x2 => rec0 ((IntKind.i64.wrap (p.1 + (1 : Int))), p.2.1, (p.2.2.set p.1.toNat x1)) else none) else none) else some p.2.2)
def laws_toIntS.l0 (k : Nat) : Nat → (Int × (List (Int)) × (List (Int))) → Option ((List (Int)))
  | 0 => fun _ => none
  | j + 1 => laws_toIntS.s0 k (laws_toIntS.l0 k j)
def laws_toIntS.S0 (p : (Int × (List (Int)) × (List (Int)))) : DS := ⟨tl [(0, .at (.whole 0)), (3, .at (.whole 352)), (4, .at (.int .i64 p.1))], lookO [(0, .row 3 (.int .i64) false p.2.1), (352, .row 3 (.int .i64) true p.2.2)]⟩
noncomputable def laws_toIntS.D0 (k : Nat) (j : Nat) (p : (Int × (List (Int)) × (List (Int)))) : Option ((List (Int))) := loopK (norm [0] (laws_toIntS.h 0)) (runK laws_toIntS.x k 0 [0] laws_toIntS.h 0 (sub laws_toIntS.c [1, 1, 0, 1, 0, 0])) j (laws_toIntS.S0 p) (kBlk 0 (kSeq (runK laws_toIntS.x k 0 [0] laws_toIntS.h 0 (sub laws_toIntS.c [1, 1, 1])) (fin tt laws_toIntS.ps laws_toIntS.rs laws_toIntS.vs (.sl 3 (.int .i64)))))
theorem laws_toIntS.D0_eq (k : Nat) : ∀ j, laws_toIntS.D0 k j = laws_toIntS.l0 k j := by
  intro j
  induction j with
  | zero => rfl
  | succ j ih =>
    show _ = laws_toIntS.s0 k (laws_toIntS.l0 k j)
    rw [← ih]
    funext p
    kernel_rfl
def laws_toIntS.f (k : Nat) (a0 : List (Int)) : Option ((List (Int))) :=
  (bif ((decide ((0 : Int) ≤ (a0.length : Int))) && decide ((a0.length : Int) * 8 ≤ 140737488355328)) then laws_toIntS.l0 k k ((0 : Int), a0, (List.replicate (a0.length : Int).toNat (0 : Int))) else none)
def laws_toIntS.K : Ctr := ⟨laws_toIntS.ps, laws_toIntS.rs, false, (.sl 3 (.int .i64)), (.sl 3 (.int .i64)), fun k x => laws_toIntS.f k x⟩
theorem laws_toIntS.eq (k : Nat) (x : (laws_toIntS.K.I).den) : func laws_toIntS.x laws_toIntS.h laws_toIntS.ps laws_toIntS.rs laws_toIntS.vs laws_toIntS.K.I laws_toIntS.K.O laws_toIntS.c k x = laws_toIntS.K.run k x := by
  show _ = laws_toIntS.f k x
  unfold laws_toIntS.f
  rw [← laws_toIntS.D0_eq k k]
  kernel_rfl
theorem laws_toIntS.ok : CtrOk Try.prog 147 laws_toIntS.K :=
  CtrOk.of (fn := Try.f147) (cd := laws_toIntS.c) (cx := laws_toIntS.x) (hs := laws_toIntS.h) (by kernel_rfl) (by kernel_rfl) (by kernel_rfl) (by kernel_rfl) tt_ok (envOk_nil) (by kernel_rfl) (by kernel_rfl) (by kernel_rfl) (by kernel_rfl) fun k x r h => (laws_toIntS.eq k x).trans h
/-! laws.toSlot -/
noncomputable def laws_toSlot.c : Code := bodyOf Try.f106
def laws_toSlot.h : Nat → Hint := look ⟨[], [], []⟩ []
def laws_toSlot.ps : List PK := [.agg 6]
def laws_toSlot.rs : List RK := [.agg 6 true]
def laws_toSlot.vs : List ResultVar := [.cell 2 77]
def laws_toSlot.x : Cx := ⟨tt, look none [(147, some laws_toIntS.K)]⟩
def laws_toSlot.f (k : Nat) (a0_0 : Int) (a0_1 : ByteArray) (a0_2 : ByteArray) (a0_3 : Int) (a0_4 : List (Int)) (a0_5 : Int) : Option (Int × ByteArray × ByteArray × Int × (List (Int)) × Int) :=
  (laws_toIntS.f k a0_4).bind fun r1 => some (a0_0, a0_1, a0_2, a0_3, r1, a0_5)
def laws_toSlot.K : Ctr := ⟨laws_toSlot.ps, laws_toSlot.rs, false, (.two (.int .i64) (.two .str (.two .str (.two (.int .i64) (.two (.sl 3 (.int .i64)) (.int .i64)))))), (.two (.int .i64) (.two .str (.two .str (.two (.int .i64) (.two (.sl 3 (.int .i64)) (.int .i64)))))), fun k x => laws_toSlot.f k x.1 x.2.1 x.2.2.1 x.2.2.2.1 x.2.2.2.2.1 x.2.2.2.2.2⟩
theorem laws_toSlot.eq (k : Nat) (x : (laws_toSlot.K.I).den) : func laws_toSlot.x laws_toSlot.h laws_toSlot.ps laws_toSlot.rs laws_toSlot.vs laws_toSlot.K.I laws_toSlot.K.O laws_toSlot.c k x = laws_toSlot.K.run k x := by
  show _ = laws_toSlot.f k x.1 x.2.1 x.2.2.1 x.2.2.2.1 x.2.2.2.2.1 x.2.2.2.2.2
  kernel_rfl
theorem laws_toSlot.ok : CtrOk Try.prog 106 laws_toSlot.K :=
  CtrOk.of (fn := Try.f106) (cd := laws_toSlot.c) (cx := laws_toSlot.x) (hs := laws_toSlot.h) (by kernel_rfl) (by kernel_rfl) (by kernel_rfl) (by kernel_rfl) tt_ok (envOk_cons laws_toIntS.ok (envOk_nil)) (by kernel_rfl) (by kernel_rfl) (by kernel_rfl) (by kernel_rfl) fun k x r h => (laws_toSlot.eq k x).trans h
/-! laws.toSlots -/
noncomputable def laws_toSlots.c : Code := bodyOf Try.f45
def laws_toSlots.h : Nat → Hint := look ⟨[], [], []⟩ []
def laws_toSlots.ps : List PK := [.agg 12]
def laws_toSlots.rs : List RK := [.agg 12 true]
def laws_toSlots.vs : List ResultVar := [.cell 2 79]
def laws_toSlots.x : Cx := ⟨tt, look none [(106, some laws_toSlot.K)]⟩
def laws_toSlots.f (k : Nat) (a0_0 : Int) (a0_1 : ByteArray) (a0_2 : ByteArray) (a0_3 : Int) (a0_4 : List (Int)) (a0_5 : Int) (a0_6 : Int) (a0_7 : ByteArray) (a0_8 : ByteArray) (a0_9 : Int) (a0_10 : List (Int)) (a0_11 : Int) : Option (Int × ByteArray × ByteArray × Int × (List (Int)) × Int × Int × ByteArray × ByteArray × Int × (List (Int)) × Int) :=
  (laws_toSlot.f k a0_0 a0_1 a0_2 a0_3 a0_4 a0_5).bind fun r1 => (laws_toSlot.f k a0_6 a0_7 a0_8 a0_9 a0_10 a0_11).bind fun r2 => some (r1.1, r1.2.1, r1.2.2.1, r1.2.2.2.1, r1.2.2.2.2.1, r1.2.2.2.2.2, r2.1, r2.2.1, r2.2.2.1, r2.2.2.2.1, r2.2.2.2.2.1, r2.2.2.2.2.2)
def laws_toSlots.K : Ctr := ⟨laws_toSlots.ps, laws_toSlots.rs, false, (.two (.int .i64) (.two .str (.two .str (.two (.int .i64) (.two (.sl 3 (.int .i64)) (.two (.int .i64) (.two (.int .i64) (.two .str (.two .str (.two (.int .i64) (.two (.sl 3 (.int .i64)) (.int .i64)))))))))))), (.two (.int .i64) (.two .str (.two .str (.two (.int .i64) (.two (.sl 3 (.int .i64)) (.two (.int .i64) (.two (.int .i64) (.two .str (.two .str (.two (.int .i64) (.two (.sl 3 (.int .i64)) (.int .i64)))))))))))), fun k x => laws_toSlots.f k x.1 x.2.1 x.2.2.1 x.2.2.2.1 x.2.2.2.2.1 x.2.2.2.2.2.1 x.2.2.2.2.2.2.1 x.2.2.2.2.2.2.2.1 x.2.2.2.2.2.2.2.2.1 x.2.2.2.2.2.2.2.2.2.1 x.2.2.2.2.2.2.2.2.2.2.1 x.2.2.2.2.2.2.2.2.2.2.2⟩
theorem laws_toSlots.eq (k : Nat) (x : (laws_toSlots.K.I).den) : func laws_toSlots.x laws_toSlots.h laws_toSlots.ps laws_toSlots.rs laws_toSlots.vs laws_toSlots.K.I laws_toSlots.K.O laws_toSlots.c k x = laws_toSlots.K.run k x := by
  show _ = laws_toSlots.f k x.1 x.2.1 x.2.2.1 x.2.2.2.1 x.2.2.2.2.1 x.2.2.2.2.2.1 x.2.2.2.2.2.2.1 x.2.2.2.2.2.2.2.1 x.2.2.2.2.2.2.2.2.1 x.2.2.2.2.2.2.2.2.2.1 x.2.2.2.2.2.2.2.2.2.2.1 x.2.2.2.2.2.2.2.2.2.2.2
  kernel_rfl
theorem laws_toSlots.ok : CtrOk Try.prog 45 laws_toSlots.K :=
  CtrOk.of (fn := Try.f45) (cd := laws_toSlots.c) (cx := laws_toSlots.x) (hs := laws_toSlots.h) (by kernel_rfl) (by kernel_rfl) (by kernel_rfl) (by kernel_rfl) tt_ok (envOk_cons laws_toSlot.ok (envOk_nil)) (by kernel_rfl) (by kernel_rfl) (by kernel_rfl) (by kernel_rfl) fun k x r h => (laws_toSlots.eq k x).trans h
/-! spec.l17CopySlot -/
noncomputable def spec_l17CopySlot.c : Code := bodyOf Try.f149
def spec_l17CopySlot.h : Nat → Hint := look ⟨[], [], []⟩ []
def spec_l17CopySlot.ps : List PK := [.agg 6]
def spec_l17CopySlot.rs : List RK := [.agg 6 true]
def spec_l17CopySlot.vs : List ResultVar := [.cell 2 77]
def spec_l17CopySlot.x : Cx := ⟨tt, look none []⟩
def spec_l17CopySlot.f (_k : Nat) (a0_0 : Int) (a0_1 : ByteArray) (a0_2 : ByteArray) (a0_3 : Int) (a0_4 : List (Int)) (a0_5 : Int) : Option (Int × ByteArray × ByteArray × Int × (List (Int)) × Int) :=
  (bif decide ((([] : List (Int)).length + a0_4.length) * 8 ≤ 140737488355328) then some (a0_0, a0_1, a0_2, a0_3, (([] : List (Int)) ++ a0_4), a0_5) else none)
def spec_l17CopySlot.K : Ctr := ⟨spec_l17CopySlot.ps, spec_l17CopySlot.rs, false, (.two (.int .i64) (.two .str (.two .str (.two (.int .i64) (.two (.sl 3 (.int .i64)) (.int .i64)))))), (.two (.int .i64) (.two .str (.two .str (.two (.int .i64) (.two (.sl 3 (.int .i64)) (.int .i64)))))), fun k x => spec_l17CopySlot.f k x.1 x.2.1 x.2.2.1 x.2.2.2.1 x.2.2.2.2.1 x.2.2.2.2.2⟩
theorem spec_l17CopySlot.eq (k : Nat) (x : (spec_l17CopySlot.K.I).den) : func spec_l17CopySlot.x spec_l17CopySlot.h spec_l17CopySlot.ps spec_l17CopySlot.rs spec_l17CopySlot.vs spec_l17CopySlot.K.I spec_l17CopySlot.K.O spec_l17CopySlot.c k x = spec_l17CopySlot.K.run k x := by
  show _ = spec_l17CopySlot.f k x.1 x.2.1 x.2.2.1 x.2.2.2.1 x.2.2.2.2.1 x.2.2.2.2.2
  kernel_rfl
theorem spec_l17CopySlot.ok : CtrOk Try.prog 149 spec_l17CopySlot.K :=
  CtrOk.of (fn := Try.f149) (cd := spec_l17CopySlot.c) (cx := spec_l17CopySlot.x) (hs := spec_l17CopySlot.h) (by kernel_rfl) (by kernel_rfl) (by kernel_rfl) (by kernel_rfl) tt_ok (envOk_nil) (by kernel_rfl) (by kernel_rfl) (by kernel_rfl) (by kernel_rfl) fun k x r h => (spec_l17CopySlot.eq k x).trans h
/-! spec.l17Copy -/
noncomputable def spec_l17Copy.c : Code := bodyOf Try.f109
def spec_l17Copy.h : Nat → Hint := look ⟨[], [], []⟩ []
def spec_l17Copy.ps : List PK := [.agg 12]
def spec_l17Copy.rs : List RK := [.agg 12 true]
def spec_l17Copy.vs : List ResultVar := [.cell 2 79]
def spec_l17Copy.x : Cx := ⟨tt, look none [(149, some spec_l17CopySlot.K)]⟩
def spec_l17Copy.f (k : Nat) (a0_0 : Int) (a0_1 : ByteArray) (a0_2 : ByteArray) (a0_3 : Int) (a0_4 : List (Int)) (a0_5 : Int) (a0_6 : Int) (a0_7 : ByteArray) (a0_8 : ByteArray) (a0_9 : Int) (a0_10 : List (Int)) (a0_11 : Int) : Option (Int × ByteArray × ByteArray × Int × (List (Int)) × Int × Int × ByteArray × ByteArray × Int × (List (Int)) × Int) :=
  (spec_l17CopySlot.f k a0_0 a0_1 a0_2 a0_3 a0_4 a0_5).bind fun r1 => (spec_l17CopySlot.f k a0_6 a0_7 a0_8 a0_9 a0_10 a0_11).bind fun r2 => some (r1.1, r1.2.1, r1.2.2.1, r1.2.2.2.1, r1.2.2.2.2.1, r1.2.2.2.2.2, r2.1, r2.2.1, r2.2.2.1, r2.2.2.2.1, r2.2.2.2.2.1, r2.2.2.2.2.2)
def spec_l17Copy.K : Ctr := ⟨spec_l17Copy.ps, spec_l17Copy.rs, false, (.two (.int .i64) (.two .str (.two .str (.two (.int .i64) (.two (.sl 3 (.int .i64)) (.two (.int .i64) (.two (.int .i64) (.two .str (.two .str (.two (.int .i64) (.two (.sl 3 (.int .i64)) (.int .i64)))))))))))), (.two (.int .i64) (.two .str (.two .str (.two (.int .i64) (.two (.sl 3 (.int .i64)) (.two (.int .i64) (.two (.int .i64) (.two .str (.two .str (.two (.int .i64) (.two (.sl 3 (.int .i64)) (.int .i64)))))))))))), fun k x => spec_l17Copy.f k x.1 x.2.1 x.2.2.1 x.2.2.2.1 x.2.2.2.2.1 x.2.2.2.2.2.1 x.2.2.2.2.2.2.1 x.2.2.2.2.2.2.2.1 x.2.2.2.2.2.2.2.2.1 x.2.2.2.2.2.2.2.2.2.1 x.2.2.2.2.2.2.2.2.2.2.1 x.2.2.2.2.2.2.2.2.2.2.2⟩
theorem spec_l17Copy.eq (k : Nat) (x : (spec_l17Copy.K.I).den) : func spec_l17Copy.x spec_l17Copy.h spec_l17Copy.ps spec_l17Copy.rs spec_l17Copy.vs spec_l17Copy.K.I spec_l17Copy.K.O spec_l17Copy.c k x = spec_l17Copy.K.run k x := by
  show _ = spec_l17Copy.f k x.1 x.2.1 x.2.2.1 x.2.2.2.1 x.2.2.2.2.1 x.2.2.2.2.2.1 x.2.2.2.2.2.2.1 x.2.2.2.2.2.2.2.1 x.2.2.2.2.2.2.2.2.1 x.2.2.2.2.2.2.2.2.2.1 x.2.2.2.2.2.2.2.2.2.2.1 x.2.2.2.2.2.2.2.2.2.2.2
  kernel_rfl
theorem spec_l17Copy.ok : CtrOk Try.prog 109 spec_l17Copy.K :=
  CtrOk.of (fn := Try.f109) (cd := spec_l17Copy.c) (cx := spec_l17Copy.x) (hs := spec_l17Copy.h) (by kernel_rfl) (by kernel_rfl) (by kernel_rfl) (by kernel_rfl) tt_ok (envOk_cons spec_l17CopySlot.ok (envOk_nil)) (by kernel_rfl) (by kernel_rfl) (by kernel_rfl) (by kernel_rfl) fun k x r h => (spec_l17Copy.eq k x).trans h
/-! spec.TidySlots -/
noncomputable def spec_TidySlots.c : Code := bodyOf Try.f48
def spec_TidySlots.h : Nat → Hint := look ⟨[], [], []⟩ []
def spec_TidySlots.ps : List PK := [.agg 12, .one]
def spec_TidySlots.rs : List RK := [.agg 12 true]
def spec_TidySlots.vs : List ResultVar := [.cell 4 79]
def spec_TidySlots.x : Cx := ⟨tt, look none [(109, some spec_l17Copy.K)]⟩
def spec_TidySlots.f (k : Nat) (a0_0 : Int) (a0_1 : ByteArray) (a0_2 : ByteArray) (a0_3 : Int) (a0_4 : List (Int)) (a0_5 : Int) (a0_6 : Int) (a0_7 : ByteArray) (a0_8 : ByteArray) (a0_9 : Int) (a0_10 : List (Int)) (a0_11 : Int) (a1 : Int) : Option (Int × ByteArray × ByteArray × Int × (List (Int)) × Int × Int × ByteArray × ByteArray × Int × (List (Int)) × Int) :=
  (spec_l17Copy.f k a0_0 a0_1 a0_2 a0_3 a0_4 a0_5 a0_6 a0_7 a0_8 a0_9 a0_10 a0_11).bind fun r1 => (bif (decide (a0_11 ≤ a1)) then some (r1.1, r1.2.1, r1.2.2.1, r1.2.2.2.1, r1.2.2.2.2.1, r1.2.2.2.2.2.1, (0 : Int), ByteArray.empty, ByteArray.empty, (0 : Int), ([] : List (Int)), (0 : Int)) else some (r1.1, r1.2.1, r1.2.2.1, r1.2.2.2.1, r1.2.2.2.2.1, r1.2.2.2.2.2.1, r1.2.2.2.2.2.2.1, r1.2.2.2.2.2.2.2.1, r1.2.2.2.2.2.2.2.2.1, r1.2.2.2.2.2.2.2.2.2.1, r1.2.2.2.2.2.2.2.2.2.2.1, r1.2.2.2.2.2.2.2.2.2.2.2))
def spec_TidySlots.K : Ctr := ⟨spec_TidySlots.ps, spec_TidySlots.rs, false, (.two (.int .i64) (.two .str (.two .str (.two (.int .i64) (.two (.sl 3 (.int .i64)) (.two (.int .i64) (.two (.int .i64) (.two .str (.two .str (.two (.int .i64) (.two (.sl 3 (.int .i64)) (.two (.int .i64) (.int .i64))))))))))))), (.two (.int .i64) (.two .str (.two .str (.two (.int .i64) (.two (.sl 3 (.int .i64)) (.two (.int .i64) (.two (.int .i64) (.two .str (.two .str (.two (.int .i64) (.two (.sl 3 (.int .i64)) (.int .i64)))))))))))), fun k x => spec_TidySlots.f k x.1 x.2.1 x.2.2.1 x.2.2.2.1 x.2.2.2.2.1 x.2.2.2.2.2.1 x.2.2.2.2.2.2.1 x.2.2.2.2.2.2.2.1 x.2.2.2.2.2.2.2.2.1 x.2.2.2.2.2.2.2.2.2.1 x.2.2.2.2.2.2.2.2.2.2.1 x.2.2.2.2.2.2.2.2.2.2.2.1 x.2.2.2.2.2.2.2.2.2.2.2.2⟩
theorem spec_TidySlots.eq (k : Nat) (x : (spec_TidySlots.K.I).den) : func spec_TidySlots.x spec_TidySlots.h spec_TidySlots.ps spec_TidySlots.rs spec_TidySlots.vs spec_TidySlots.K.I spec_TidySlots.K.O spec_TidySlots.c k x = spec_TidySlots.K.run k x := by
  show _ = spec_TidySlots.f k x.1 x.2.1 x.2.2.1 x.2.2.2.1 x.2.2.2.2.1 x.2.2.2.2.2.1 x.2.2.2.2.2.2.1 x.2.2.2.2.2.2.2.1 x.2.2.2.2.2.2.2.2.1 x.2.2.2.2.2.2.2.2.2.1 x.2.2.2.2.2.2.2.2.2.2.1 x.2.2.2.2.2.2.2.2.2.2.2.1 x.2.2.2.2.2.2.2.2.2.2.2.2
  kernel_rfl
theorem spec_TidySlots.ok : CtrOk Try.prog 48 spec_TidySlots.K :=
  CtrOk.of (fn := Try.f48) (cd := spec_TidySlots.c) (cx := spec_TidySlots.x) (hs := spec_TidySlots.h) (by kernel_rfl) (by kernel_rfl) (by kernel_rfl) (by kernel_rfl) tt_ok (envOk_cons spec_l17Copy.ok (envOk_nil)) (by kernel_rfl) (by kernel_rfl) (by kernel_rfl) (by kernel_rfl) fun k x r h => (spec_TidySlots.eq k x).trans h
/-! impl.copyInts -/
noncomputable def impl_copyInts.c : Code := bodyOf Try.f150
def impl_copyInts.h : Nat → Hint := look ⟨[], [], []⟩ []
def impl_copyInts.ps : List PK := [.one]
def impl_copyInts.rs : List RK := [.one true]
def impl_copyInts.vs : List ResultVar := [.tmp 2]
def impl_copyInts.x : Cx := ⟨tt, look none []⟩
def impl_copyInts.f (_k : Nat) (a0 : List (Int)) : Option ((List (Int))) :=
  (bif decide ((([] : List (Int)).length + a0.length) * 8 ≤ 140737488355328) then some (([] : List (Int)) ++ a0) else none)
def impl_copyInts.K : Ctr := ⟨impl_copyInts.ps, impl_copyInts.rs, false, (.sl 3 (.int .i64)), (.sl 3 (.int .i64)), fun k x => impl_copyInts.f k x⟩
theorem impl_copyInts.eq (k : Nat) (x : (impl_copyInts.K.I).den) : func impl_copyInts.x impl_copyInts.h impl_copyInts.ps impl_copyInts.rs impl_copyInts.vs impl_copyInts.K.I impl_copyInts.K.O impl_copyInts.c k x = impl_copyInts.K.run k x := by
  show _ = impl_copyInts.f k x
  kernel_rfl
theorem impl_copyInts.ok : CtrOk Try.prog 150 impl_copyInts.K :=
  CtrOk.of (fn := Try.f150) (cd := impl_copyInts.c) (cx := impl_copyInts.x) (hs := impl_copyInts.h) (by kernel_rfl) (by kernel_rfl) (by kernel_rfl) (by kernel_rfl) tt_ok (envOk_nil) (by kernel_rfl) (by kernel_rfl) (by kernel_rfl) (by kernel_rfl) fun k x r h => (impl_copyInts.eq k x).trans h
/-! impl.copySlots -/
noncomputable def impl_copySlots.c : Code := bodyOf Try.f110
def impl_copySlots.h : Nat → Hint := look ⟨[], [], []⟩ []
def impl_copySlots.ps : List PK := [.agg 12]
def impl_copySlots.rs : List RK := [.agg 12 true]
def impl_copySlots.vs : List ResultVar := [.cell 2 79]
def impl_copySlots.x : Cx := ⟨tt, look none [(150, some impl_copyInts.K)]⟩
def impl_copySlots.f (k : Nat) (a0_0 : Int) (a0_1 : ByteArray) (a0_2 : ByteArray) (a0_3 : Int) (a0_4 : List (Int)) (a0_5 : Int) (a0_6 : Int) (a0_7 : ByteArray) (a0_8 : ByteArray) (a0_9 : Int) (a0_10 : List (Int)) (a0_11 : Int) : Option (Int × ByteArray × ByteArray × Int × (List (Int)) × Int × Int × ByteArray × ByteArray × Int × (List (Int)) × Int) :=
  (impl_copyInts.f k a0_4).bind fun r1 => (impl_copyInts.f k a0_10).bind fun r2 => some (a0_0, a0_1, a0_2, a0_3, r1, a0_5, a0_6, a0_7, a0_8, a0_9, r2, a0_11)
def impl_copySlots.K : Ctr := ⟨impl_copySlots.ps, impl_copySlots.rs, false, (.two (.int .i64) (.two .str (.two .str (.two (.int .i64) (.two (.sl 3 (.int .i64)) (.two (.int .i64) (.two (.int .i64) (.two .str (.two .str (.two (.int .i64) (.two (.sl 3 (.int .i64)) (.int .i64)))))))))))), (.two (.int .i64) (.two .str (.two .str (.two (.int .i64) (.two (.sl 3 (.int .i64)) (.two (.int .i64) (.two (.int .i64) (.two .str (.two .str (.two (.int .i64) (.two (.sl 3 (.int .i64)) (.int .i64)))))))))))), fun k x => impl_copySlots.f k x.1 x.2.1 x.2.2.1 x.2.2.2.1 x.2.2.2.2.1 x.2.2.2.2.2.1 x.2.2.2.2.2.2.1 x.2.2.2.2.2.2.2.1 x.2.2.2.2.2.2.2.2.1 x.2.2.2.2.2.2.2.2.2.1 x.2.2.2.2.2.2.2.2.2.2.1 x.2.2.2.2.2.2.2.2.2.2.2⟩
theorem impl_copySlots.eq (k : Nat) (x : (impl_copySlots.K.I).den) : func impl_copySlots.x impl_copySlots.h impl_copySlots.ps impl_copySlots.rs impl_copySlots.vs impl_copySlots.K.I impl_copySlots.K.O impl_copySlots.c k x = impl_copySlots.K.run k x := by
  show _ = impl_copySlots.f k x.1 x.2.1 x.2.2.1 x.2.2.2.1 x.2.2.2.2.1 x.2.2.2.2.2.1 x.2.2.2.2.2.2.1 x.2.2.2.2.2.2.2.1 x.2.2.2.2.2.2.2.2.1 x.2.2.2.2.2.2.2.2.2.1 x.2.2.2.2.2.2.2.2.2.2.1 x.2.2.2.2.2.2.2.2.2.2.2
  kernel_rfl
theorem impl_copySlots.ok : CtrOk Try.prog 110 impl_copySlots.K :=
  CtrOk.of (fn := Try.f110) (cd := impl_copySlots.c) (cx := impl_copySlots.x) (hs := impl_copySlots.h) (by kernel_rfl) (by kernel_rfl) (by kernel_rfl) (by kernel_rfl) tt_ok (envOk_cons impl_copyInts.ok (envOk_nil)) (by kernel_rfl) (by kernel_rfl) (by kernel_rfl) (by kernel_rfl) fun k x r h => (impl_copySlots.eq k x).trans h
/-! impl.TidySlots -/
noncomputable def impl_TidySlots.c : Code := bodyOf Try.f49
def impl_TidySlots.h : Nat → Hint := look ⟨[], [], []⟩ []
def impl_TidySlots.ps : List PK := [.agg 12, .one]
def impl_TidySlots.rs : List RK := [.agg 12 true]
def impl_TidySlots.vs : List ResultVar := [.cell 4 79]
def impl_TidySlots.x : Cx := ⟨tt, look none [(110, some impl_copySlots.K)]⟩
def impl_TidySlots.f (k : Nat) (a0_0 : Int) (a0_1 : ByteArray) (a0_2 : ByteArray) (a0_3 : Int) (a0_4 : List (Int)) (a0_5 : Int) (a0_6 : Int) (a0_7 : ByteArray) (a0_8 : ByteArray) (a0_9 : Int) (a0_10 : List (Int)) (a0_11 : Int) (a1 : Int) : Option (Int × ByteArray × ByteArray × Int × (List (Int)) × Int × Int × ByteArray × ByteArray × Int × (List (Int)) × Int) :=
  (impl_copySlots.f k a0_0 a0_1 a0_2 a0_3 a0_4 a0_5 a0_6 a0_7 a0_8 a0_9 a0_10 a0_11).bind fun r1 => (bif (decide (a0_11 ≤ a1)) then some (r1.1, r1.2.1, r1.2.2.1, r1.2.2.2.1, r1.2.2.2.2.1, r1.2.2.2.2.2.1, (0 : Int), ByteArray.empty, ByteArray.empty, (0 : Int), ([] : List (Int)), (0 : Int)) else some (r1.1, r1.2.1, r1.2.2.1, r1.2.2.2.1, r1.2.2.2.2.1, r1.2.2.2.2.2.1, r1.2.2.2.2.2.2.1, r1.2.2.2.2.2.2.2.1, r1.2.2.2.2.2.2.2.2.1, r1.2.2.2.2.2.2.2.2.2.1, r1.2.2.2.2.2.2.2.2.2.2.1, r1.2.2.2.2.2.2.2.2.2.2.2))
def impl_TidySlots.K : Ctr := ⟨impl_TidySlots.ps, impl_TidySlots.rs, false, (.two (.int .i64) (.two .str (.two .str (.two (.int .i64) (.two (.sl 3 (.int .i64)) (.two (.int .i64) (.two (.int .i64) (.two .str (.two .str (.two (.int .i64) (.two (.sl 3 (.int .i64)) (.two (.int .i64) (.int .i64))))))))))))), (.two (.int .i64) (.two .str (.two .str (.two (.int .i64) (.two (.sl 3 (.int .i64)) (.two (.int .i64) (.two (.int .i64) (.two .str (.two .str (.two (.int .i64) (.two (.sl 3 (.int .i64)) (.int .i64)))))))))))), fun k x => impl_TidySlots.f k x.1 x.2.1 x.2.2.1 x.2.2.2.1 x.2.2.2.2.1 x.2.2.2.2.2.1 x.2.2.2.2.2.2.1 x.2.2.2.2.2.2.2.1 x.2.2.2.2.2.2.2.2.1 x.2.2.2.2.2.2.2.2.2.1 x.2.2.2.2.2.2.2.2.2.2.1 x.2.2.2.2.2.2.2.2.2.2.2.1 x.2.2.2.2.2.2.2.2.2.2.2.2⟩
theorem impl_TidySlots.eq (k : Nat) (x : (impl_TidySlots.K.I).den) : func impl_TidySlots.x impl_TidySlots.h impl_TidySlots.ps impl_TidySlots.rs impl_TidySlots.vs impl_TidySlots.K.I impl_TidySlots.K.O impl_TidySlots.c k x = impl_TidySlots.K.run k x := by
  show _ = impl_TidySlots.f k x.1 x.2.1 x.2.2.1 x.2.2.2.1 x.2.2.2.2.1 x.2.2.2.2.2.1 x.2.2.2.2.2.2.1 x.2.2.2.2.2.2.2.1 x.2.2.2.2.2.2.2.2.1 x.2.2.2.2.2.2.2.2.2.1 x.2.2.2.2.2.2.2.2.2.2.1 x.2.2.2.2.2.2.2.2.2.2.2.1 x.2.2.2.2.2.2.2.2.2.2.2.2
  kernel_rfl
theorem impl_TidySlots.ok : CtrOk Try.prog 49 impl_TidySlots.K :=
  CtrOk.of (fn := Try.f49) (cd := impl_TidySlots.c) (cx := impl_TidySlots.x) (hs := impl_TidySlots.h) (by kernel_rfl) (by kernel_rfl) (by kernel_rfl) (by kernel_rfl) tt_ok (envOk_cons impl_copySlots.ok (envOk_nil)) (by kernel_rfl) (by kernel_rfl) (by kernel_rfl) (by kernel_rfl) fun k x r h => (impl_TidySlots.eq k x).trans h
/-! laws.eqIntS -/
noncomputable def laws_eqIntS.c : Code := bodyOf Try.f27
def laws_eqIntS.h : Nat → Hint := look ⟨[], [], []⟩ [(0, ⟨[0, 1, 5], [], []⟩)]
def laws_eqIntS.ps : List PK := [.one, .one]
def laws_eqIntS.rs : List RK := [.one true]
def laws_eqIntS.vs : List ResultVar := [.tmp 4]
def laws_eqIntS.x : Cx := ⟨tt, look none []⟩
def laws_eqIntS.s0 (_k : Nat) (rec0 : (Int × (List (Int)) × (List (Int))) → Option (Bool)) (p : (Int × (List (Int)) × (List (Int)))) : Option (Bool) :=
  (bif (decide (p.1 < (p.2.1.length : Int))) then (bif ((decide ((0 : Int) ≤ p.1)) && (decide (p.1 < (p.2.1.length : Int)))) then (p.2.1[p.1.toNat]?).bind fun x1 => (bif ((decide ((0 : Int) ≤ p.1)) && (decide (p.1 < (p.2.2.length : Int)))) then (p.2.2[p.1.toNat]?).bind fun x2 => (bif (x1 != x2) then some false else rec0 ((IntKind.i64.wrap (p.1 + (1 : Int))), p.2.1, p.2.2)) else none) else none) else some true)
def laws_eqIntS.l0 (k : Nat) : Nat → (Int × (List (Int)) × (List (Int))) → Option (Bool)
  | 0 => fun _ => none
  | j + 1 => laws_eqIntS.s0 k (laws_eqIntS.l0 k j)
def laws_eqIntS.S0 (p : (Int × (List (Int)) × (List (Int)))) : DS := ⟨tl [(0, .at (.whole 0)), (1, .at (.whole 16)), (5, .at (.int .i64 p.1))], lookO [(0, .row 3 (.int .i64) false p.2.1), (16, .row 3 (.int .i64) false p.2.2)]⟩
noncomputable def laws_eqIntS.D0 (k : Nat) (j : Nat) (p : (Int × (List (Int)) × (List (Int)))) : Option (Bool) := loopK (norm [0, 16] (laws_eqIntS.h 0)) (runK laws_eqIntS.x k 0 [0, 16] laws_eqIntS.h 0 (sub laws_eqIntS.c [1, 1, 0, 1, 0, 0])) j (laws_eqIntS.S0 p) (kBlk 0 (kSeq (runK laws_eqIntS.x k 0 [0, 16] laws_eqIntS.h 0 (sub laws_eqIntS.c [1, 1, 1])) (fin tt laws_eqIntS.ps laws_eqIntS.rs laws_eqIntS.vs .bool)))
theorem laws_eqIntS.D0_eq (k : Nat) : ∀ j, laws_eqIntS.D0 k j = laws_eqIntS.l0 k j := by
  intro j
  induction j with
  | zero => rfl
  | succ j ih =>
    show _ = laws_eqIntS.s0 k (laws_eqIntS.l0 k j)
    rw [← ih]
    funext p
    kernel_rfl
def laws_eqIntS.f (k : Nat) (a0 : List (Int)) (a1 : List (Int)) : Option (Bool) :=
  (bif ((a0.length : Int) != (a1.length : Int)) then some false else laws_eqIntS.l0 k k ((0 : Int), a0, a1))
def laws_eqIntS.K : Ctr := ⟨laws_eqIntS.ps, laws_eqIntS.rs, false, (.two (.sl 3 (.int .i64)) (.sl 3 (.int .i64))), .bool, fun k x => laws_eqIntS.f k x.1 x.2⟩
theorem laws_eqIntS.eq (k : Nat) (x : (laws_eqIntS.K.I).den) : func laws_eqIntS.x laws_eqIntS.h laws_eqIntS.ps laws_eqIntS.rs laws_eqIntS.vs laws_eqIntS.K.I laws_eqIntS.K.O laws_eqIntS.c k x = laws_eqIntS.K.run k x := by
  show _ = laws_eqIntS.f k x.1 x.2
  unfold laws_eqIntS.f
  rw [← laws_eqIntS.D0_eq k k]
  kernel_rfl
theorem laws_eqIntS.ok : CtrOk Try.prog 27 laws_eqIntS.K :=
  CtrOk.of (fn := Try.f27) (cd := laws_eqIntS.c) (cx := laws_eqIntS.x) (hs := laws_eqIntS.h) (by kernel_rfl) (by kernel_rfl) (by kernel_rfl) (by kernel_rfl) tt_ok (envOk_nil) (by kernel_rfl) (by kernel_rfl) (by kernel_rfl) (by kernel_rfl) fun k x r h => (laws_eqIntS.eq k x).trans h
/-! laws.eqSlot -/
noncomputable def laws_eqSlot.c : Code := bodyOf Try.f108
def laws_eqSlot.h : Nat → Hint := look ⟨[], [], []⟩ []
def laws_eqSlot.ps : List PK := [.agg 6, .agg 6]
def laws_eqSlot.rs : List RK := [.one true]
def laws_eqSlot.vs : List ResultVar := [.tmp 4]
def laws_eqSlot.x : Cx := ⟨tt, look none [(27, some laws_eqIntS.K)]⟩
def laws_eqSlot.f (k : Nat) (a0_0 : Int) (a0_1 : ByteArray) (a0_2 : ByteArray) (a0_3 : Int) (a0_4 : List (Int)) (a0_5 : Int) (a1_0 : Int) (a1_1 : ByteArray) (a1_2 : ByteArray) (a1_3 : Int) (a1_4 : List (Int)) (a1_5 : Int) : Option (Bool) :=
  (bif (a0_0 != a1_0) then some false else (bif (!(a0_1.toList == a1_1.toList)) then some false else (bif (!(a0_2.toList == a1_2.toList)) then some false else (bif (a0_3 != a1_3) then some false else (laws_eqIntS.f k a0_4 a1_4).bind fun r1 => (bif (!r1) then some false else (bif (a0_5 != a1_5) then some false else some true))))))
def laws_eqSlot.K : Ctr := ⟨laws_eqSlot.ps, laws_eqSlot.rs, false, (.two (.int .i64) (.two .str (.two .str (.two (.int .i64) (.two (.sl 3 (.int .i64)) (.two (.int .i64) (.two (.int .i64) (.two .str (.two .str (.two (.int .i64) (.two (.sl 3 (.int .i64)) (.int .i64)))))))))))), .bool, fun k x => laws_eqSlot.f k x.1 x.2.1 x.2.2.1 x.2.2.2.1 x.2.2.2.2.1 x.2.2.2.2.2.1 x.2.2.2.2.2.2.1 x.2.2.2.2.2.2.2.1 x.2.2.2.2.2.2.2.2.1 x.2.2.2.2.2.2.2.2.2.1 x.2.2.2.2.2.2.2.2.2.2.1 x.2.2.2.2.2.2.2.2.2.2.2⟩
theorem laws_eqSlot.eq (k : Nat) (x : (laws_eqSlot.K.I).den) : func laws_eqSlot.x laws_eqSlot.h laws_eqSlot.ps laws_eqSlot.rs laws_eqSlot.vs laws_eqSlot.K.I laws_eqSlot.K.O laws_eqSlot.c k x = laws_eqSlot.K.run k x := by
  show _ = laws_eqSlot.f k x.1 x.2.1 x.2.2.1 x.2.2.2.1 x.2.2.2.2.1 x.2.2.2.2.2.1 x.2.2.2.2.2.2.1 x.2.2.2.2.2.2.2.1 x.2.2.2.2.2.2.2.2.1 x.2.2.2.2.2.2.2.2.2.1 x.2.2.2.2.2.2.2.2.2.2.1 x.2.2.2.2.2.2.2.2.2.2.2
  kernel_rfl
theorem laws_eqSlot.ok : CtrOk Try.prog 108 laws_eqSlot.K :=
  CtrOk.of (fn := Try.f108) (cd := laws_eqSlot.c) (cx := laws_eqSlot.x) (hs := laws_eqSlot.h) (by kernel_rfl) (by kernel_rfl) (by kernel_rfl) (by kernel_rfl) tt_ok (envOk_cons laws_eqIntS.ok (envOk_nil)) (by kernel_rfl) (by kernel_rfl) (by kernel_rfl) (by kernel_rfl) fun k x r h => (laws_eqSlot.eq k x).trans h
/-! laws.eqSlots -/
noncomputable def laws_eqSlots.c : Code := bodyOf Try.f47
def laws_eqSlots.h : Nat → Hint := look ⟨[], [], []⟩ []
def laws_eqSlots.ps : List PK := [.agg 12, .agg 12]
def laws_eqSlots.rs : List RK := [.one true]
def laws_eqSlots.vs : List ResultVar := [.tmp 4]
def laws_eqSlots.x : Cx := ⟨tt, look none [(108, some laws_eqSlot.K)]⟩
def laws_eqSlots.f (k : Nat) (a0_0 : Int) (a0_1 : ByteArray) (a0_2 : ByteArray) (a0_3 : Int) (a0_4 : List (Int)) (a0_5 : Int) (a0_6 : Int) (a0_7 : ByteArray) (a0_8 : ByteArray) (a0_9 : Int) (a0_10 : List (Int)) (a0_11 : Int) (a1_0 : Int) (a1_1 : ByteArray) (a1_2 : ByteArray) (a1_3 : Int) (a1_4 : List (Int)) (a1_5 : Int) (a1_6 : Int) (a1_7 : ByteArray) (a1_8 : ByteArray) (a1_9 : Int) (a1_10 : List (Int)) (a1_11 : Int) : Option (Bool) :=
  (laws_eqSlot.f k a0_0 a0_1 a0_2 a0_3 a0_4 a0_5 a1_0 a1_1 a1_2 a1_3 a1_4 a1_5).bind fun r1 => (bif (!r1) then some false else (laws_eqSlot.f k a0_6 a0_7 a0_8 a0_9 a0_10 a0_11 a1_6 a1_7 a1_8 a1_9 a1_10 a1_11).bind fun r2 => (bif (!r2) then some false else some true))
def laws_eqSlots.K : Ctr := ⟨laws_eqSlots.ps, laws_eqSlots.rs, false, (.two (.int .i64) (.two .str (.two .str (.two (.int .i64) (.two (.sl 3 (.int .i64)) (.two (.int .i64) (.two (.int .i64) (.two .str (.two .str (.two (.int .i64) (.two (.sl 3 (.int .i64)) (.two (.int .i64) (.two (.int .i64) (.two .str (.two .str (.two (.int .i64) (.two (.sl 3 (.int .i64)) (.two (.int .i64) (.two (.int .i64) (.two .str (.two .str (.two (.int .i64) (.two (.sl 3 (.int .i64)) (.int .i64)))))))))))))))))))))))), .bool, fun k x => laws_eqSlots.f k x.1 x.2.1 x.2.2.1 x.2.2.2.1 x.2.2.2.2.1 x.2.2.2.2.2.1 x.2.2.2.2.2.2.1 x.2.2.2.2.2.2.2.1 x.2.2.2.2.2.2.2.2.1 x.2.2.2.2.2.2.2.2.2.1 x.2.2.2.2.2.2.2.2.2.2.1 x.2.2.2.2.2.2.2.2.2.2.2.1 x.2.2.2.2.2.2.2.2.2.2.2.2.1 x.2.2.2.2.2.2.2.2.2.2.2.2.2.1 x.2.2.2.2.2.2.2.2.2.2.2.2.2.2.1 x.2.2.2.2.2.2.2.2.2.2.2.2.2.2.2.1 x.2.2.2.2.2.2.2.2.2.2.2.2.2.2.2.2.1 x.2.2.2.2.2.2.2.2.2.2.2.2.2.2.2.2.2.1 x.2.2.2.2.2.2.2.2.2.2.2.2.2.2.2.2.2.2.1 x.2.2.2.2.2.2.2.2.2.2.2.2.2.2.2.2.2.2.2.1 x.2.2.2.2.2.2.2.2.2.2.2.2.2.2.2.2.2.2.2.2.1 x.2.2.2.2.2.2.2.2.2.2.2.2.2.2.2.2.2.2.2.2.2.1 x.2.2.2.2.2.2.2.2.2.2.2.2.2.2.2.2.2.2.2.2.2.2.1 x.2.2.2.2.2.2.2.2.2.2.2.2.2.2.2.2.2.2.2.2.2.2.2⟩
theorem laws_eqSlots.eq (k : Nat) (x : (laws_eqSlots.K.I).den) : func laws_eqSlots.x laws_eqSlots.h laws_eqSlots.ps laws_eqSlots.rs laws_eqSlots.vs laws_eqSlots.K.I laws_eqSlots.K.O laws_eqSlots.c k x = laws_eqSlots.K.run k x := by
  show _ = laws_eqSlots.f k x.1 x.2.1 x.2.2.1 x.2.2.2.1 x.2.2.2.2.1 x.2.2.2.2.2.1 x.2.2.2.2.2.2.1 x.2.2.2.2.2.2.2.1 x.2.2.2.2.2.2.2.2.1 x.2.2.2.2.2.2.2.2.2.1 x.2.2.2.2.2.2.2.2.2.2.1 x.2.2.2.2.2.2.2.2.2.2.2.1 x.2.2.2.2.2.2.2.2.2.2.2.2.1 x.2.2.2.2.2.2.2.2.2.2.2.2.2.1 x.2.2.2.2.2.2.2.2.2.2.2.2.2.2.1 x.2.2.2.2.2.2.2.2.2.2.2.2.2.2.2.1 x.2.2.2.2.2.2.2.2.2.2.2.2.2.2.2.2.1 x.2.2.2.2.2.2.2.2.2.2.2.2.2.2.2.2.2.1 x.2.2.2.2.2.2.2.2.2.2.2.2.2.2.2.2.2.2.1 x.2.2.2.2.2.2.2.2.2.2.2.2.2.2.2.2.2.2.2.1 x.2.2.2.2.2.2.2.2.2.2.2.2.2.2.2.2.2.2.2.2.1 x.2.2.2.2.2.2.2.2.2.2.2.2.2.2.2.2.2.2.2.2.2.1 x.2.2.2.2.2.2.2.2.2.2.2.2.2.2.2.2.2.2.2.2.2.2.1 x.2.2.2.2.2.2.2.2.2.2.2.2.2.2.2.2.2.2.2.2.2.2.2
  kernel_rfl
theorem laws_eqSlots.ok : CtrOk Try.prog 47 laws_eqSlots.K :=
  CtrOk.of (fn := Try.f47) (cd := laws_eqSlots.c) (cx := laws_eqSlots.x) (hs := laws_eqSlots.h) (by kernel_rfl) (by kernel_rfl) (by kernel_rfl) (by kernel_rfl) tt_ok (envOk_cons laws_eqSlot.ok (envOk_nil)) (by kernel_rfl) (by kernel_rfl) (by kernel_rfl) (by kernel_rfl) fun k x r h => (laws_eqSlots.eq k x).trans h
/-! laws.markIntS -/
noncomputable def laws_markIntS.c : Code := bodyOf Try.f29
def laws_markIntS.h : Nat → Hint := look ⟨[], [], []⟩ [(0, ⟨[0, 1, 5], [], []⟩)]
def laws_markIntS.ps : List PK := [.row, .one]
def laws_markIntS.rs : List RK := [.one true]
def laws_markIntS.vs : List ResultVar := [.tmp 4]
def laws_markIntS.x : Cx := ⟨tt, look none []⟩
def laws_markIntS.s0 (_k : Nat) (rec0 : (Int × Int × (List (Int))) → Option (Int × (List (Int)))) (p : (Int × Int × (List (Int)))) : Option (Int × (List (Int))) :=
  (bif (decide (p.2.1 < (p.2.2.length : Int))) then (bif ((decide ((0 : Int) ≤ p.2.1)) && (decide (p.2.1 < (p.2.2.length : Int)))) then (p.2.2[p.2.1.toNat]?).bind fun x1 => rec0 ((IntKind.i64.wrap (p.1 + (1 : Int))), (IntKind.i64.wrap (p.2.1 + (1 : Int))), (p.2.2.set p.2.1.toNat p.1)) else none) else some (p.1, p.2.2))
def laws_markIntS.l0 (k : Nat) : Nat → (Int × Int × (List (Int))) → Option (Int × (List (Int)))
  | 0 => fun _ => none
  | j + 1 => laws_markIntS.s0 k (laws_markIntS.l0 k j)
def laws_markIntS.S0 (p : (Int × Int × (List (Int)))) : DS := ⟨tl [(0, .at (.whole 0)), (1, .at (.int .i64 p.1)), (5, .at (.int .i64 p.2.1))], lookO [(0, .row 3 (.int .i64) true p.2.2)]⟩
noncomputable def laws_markIntS.D0 (k : Nat) (j : Nat) (p : (Int × Int × (List (Int)))) : Option (Int × (List (Int))) := loopK (norm [0] (laws_markIntS.h 0)) (runK laws_markIntS.x k 0 [0] laws_markIntS.h 0 (sub laws_markIntS.c [1, 0, 1, 0, 0])) j (laws_markIntS.S0 p) (kBlk 0 (kSeq (runK laws_markIntS.x k 0 [0] laws_markIntS.h 0 (sub laws_markIntS.c [1, 1])) (fin tt laws_markIntS.ps laws_markIntS.rs laws_markIntS.vs (.two (.int .i64) (.sl 3 (.int .i64))))))
theorem laws_markIntS.D0_eq (k : Nat) : ∀ j, laws_markIntS.D0 k j = laws_markIntS.l0 k j := by
  intro j
  induction j with
  | zero => rfl
  | succ j ih =>
    show _ = laws_markIntS.s0 k (laws_markIntS.l0 k j)
    rw [← ih]
    funext p
    kernel_rfl
def laws_markIntS.f (k : Nat) (a0 : List (Int)) (a1 : Int) : Option (Int × (List (Int))) :=
  laws_markIntS.l0 k k (a1, (0 : Int), a0)
def laws_markIntS.K : Ctr := ⟨laws_markIntS.ps, laws_markIntS.rs, false, (.two (.sl 3 (.int .i64)) (.int .i64)), (.two (.int .i64) (.sl 3 (.int .i64))), fun k x => laws_markIntS.f k x.1 x.2⟩
theorem laws_markIntS.eq (k : Nat) (x : (laws_markIntS.K.I).den) : func laws_markIntS.x laws_markIntS.h laws_markIntS.ps laws_markIntS.rs laws_markIntS.vs laws_markIntS.K.I laws_markIntS.K.O laws_markIntS.c k x = laws_markIntS.K.run k x := by
  show _ = laws_markIntS.f k x.1 x.2
  unfold laws_markIntS.f
  rw [← laws_markIntS.D0_eq k k]
  kernel_rfl
theorem laws_markIntS.ok : CtrOk Try.prog 29 laws_markIntS.K :=
  CtrOk.of (fn := Try.f29) (cd := laws_markIntS.c) (cx := laws_markIntS.x) (hs := laws_markIntS.h) (by kernel_rfl) (by kernel_rfl) (by kernel_rfl) (by kernel_rfl) tt_ok (envOk_nil) (by kernel_rfl) (by kernel_rfl) (by kernel_rfl) (by kernel_rfl) fun k x r h => (laws_markIntS.eq k x).trans h
/-! laws.markSlot -/
noncomputable def laws_markSlot.c : Code := bodyOf Try.f111
def laws_markSlot.h : Nat → Hint := look ⟨[], [], []⟩ []
def laws_markSlot.ps : List PK := [.aggw 6 [4], .one]
def laws_markSlot.rs : List RK := [.one true]
def laws_markSlot.vs : List ResultVar := [.tmp 4]
def laws_markSlot.x : Cx := ⟨tt, look none [(29, some laws_markIntS.K)]⟩
def laws_markSlot.f (k : Nat) (_a0_0 : Int) (_a0_1 : ByteArray) (_a0_2 : ByteArray) (_a0_3 : Int) (a0_4 : List (Int)) (_a0_5 : Int) (a1 : Int) : Option (Int × (List (Int))) :=
  (laws_markIntS.f k a0_4 a1).bind fun r1 => some (r1.1, r1.2)
def laws_markSlot.K : Ctr := ⟨laws_markSlot.ps, laws_markSlot.rs, false, (.two (.int .i64) (.two .str (.two .str (.two (.int .i64) (.two (.sl 3 (.int .i64)) (.two (.int .i64) (.int .i64))))))), (.two (.int .i64) (.sl 3 (.int .i64))), fun k x => laws_markSlot.f k x.1 x.2.1 x.2.2.1 x.2.2.2.1 x.2.2.2.2.1 x.2.2.2.2.2.1 x.2.2.2.2.2.2⟩
theorem laws_markSlot.eq (k : Nat) (x : (laws_markSlot.K.I).den) : func laws_markSlot.x laws_markSlot.h laws_markSlot.ps laws_markSlot.rs laws_markSlot.vs laws_markSlot.K.I laws_markSlot.K.O laws_markSlot.c k x = laws_markSlot.K.run k x := by
  show _ = laws_markSlot.f k x.1 x.2.1 x.2.2.1 x.2.2.2.1 x.2.2.2.2.1 x.2.2.2.2.2.1 x.2.2.2.2.2.2
  kernel_rfl
theorem laws_markSlot.ok : CtrOk Try.prog 111 laws_markSlot.K :=
  CtrOk.of (fn := Try.f111) (cd := laws_markSlot.c) (cx := laws_markSlot.x) (hs := laws_markSlot.h) (by kernel_rfl) (by kernel_rfl) (by kernel_rfl) (by kernel_rfl) tt_ok (envOk_cons laws_markIntS.ok (envOk_nil)) (by kernel_rfl) (by kernel_rfl) (by kernel_rfl) (by kernel_rfl) fun k x r h => (laws_markSlot.eq k x).trans h
end Go.Proofs.Ytfaeklomiofpdaa.DI
