/- FnEnds: functions as plain Lean, in the machine of values. -/
import Derived.Test.YtpheniajdbbphaaVFnEnds6
namespace Go.Proofs.Ytpheniajdbbphaa.DI
open Go
set_option linter.unusedVariables false
/-! impl.PacketOk -/
noncomputable def impl_PacketOk.c : Code := bodyOf Try.f47
def impl_PacketOk.h : Nat → Hint := look ⟨[], [], []⟩ [(0, ⟨[1, 7, 8, 9], [16], []⟩)]
def impl_PacketOk.ps : List PK := [.agg 7]
def impl_PacketOk.rs : List RK := [.one true]
def impl_PacketOk.vs : List ResultVar := [.tmp 2]
def impl_PacketOk.x : Cx := ⟨tt, look none [(73, some impl_within.K), (53, some impl_isId.K)]⟩
def impl_PacketOk.s0 (k : Nat) (rec0 : (Int × Int × (List (Int)) × Int × Int × Int × Int × Int × ByteArray) → Option (Bool)) (p : (Int × Int × (List (Int)) × Int × Int × Int × Int × Int × ByteArray)) : Option (Bool) :=
  (bif (decide (p.2.1 < p.1)) then (bif ((decide ((0 : Int) ≤ p.2.1)) && (decide (p.2.1 < (p.2.2.1.length : Int)))) then (p.2.2.1[p.2.1.toNat]?).bind fun x1 => (impl_within.f k x1 (1 : Int) (1000000000 : Int)).bind fun r2 => (bif (!r2) then some false else rec0 (p.1, (IntKind.i64.wrap (p.2.1 + (1 : Int))), p.2.2.1, p.2.2.2.1, p.2.2.2.2.1, p.2.2.2.2.2.1, p.2.2.2.2.2.2.1, p.2.2.2.2.2.2.2.1, p.2.2.2.2.2.2.2.2)) else none) else (impl_within.f k p.2.2.2.1 (1 : Int) (3 : Int)).bind fun r3 => (bif (!r3) then some false else (impl_within.f k p.2.2.2.2.1 (0 : Int) (7 : Int)).bind fun r4 => (bif (!r4) then some false else (impl_isId.f k p.2.2.2.2.2.1).bind fun r5 => (bif (!r5) then some false else (impl_isId.f k p.2.2.2.2.2.2.1).bind fun r6 => (bif (!r6) then some false else (impl_within.f k p.2.2.2.2.2.2.2.1 (0 : Int) (1000000000 : Int)).bind fun r7 => (bif (!r7) then some false else (bif ((p.2.2.1.length : Int) == (0 : Int)) then (bif (decide ((p.2.2.2.2.2.2.2.2.size : Int) ≤ (120 : Int))) then (bif (p.2.2.2.1 != (2 : Int)) then some true else (bif (p.2.2.2.2.2.2.2.2.toList == ByteArray.empty.toList) then some (p.2.2.2.2.2.2.2.1 == (0 : Int)) else some false)) else some false) else (bif (p.2.2.2.1 != (3 : Int)) then (bif (decide ((p.2.2.1.length : Int) ≤ (4 : Int))) then (bif (decide ((p.2.2.2.2.2.2.2.2.size : Int) ≤ (120 : Int))) then (bif (p.2.2.2.1 != (2 : Int)) then some true else (bif (p.2.2.2.2.2.2.2.2.toList == ByteArray.empty.toList) then some (p.2.2.2.2.2.2.2.1 == (0 : Int)) else some false)) else some false) else some false) else some false))))))))
def impl_PacketOk.l0 (k : Nat) : Nat → (Int × Int × (List (Int)) × Int × Int × Int × Int × Int × ByteArray) → Option (Bool)
  | 0 => fun _ => none
  | j + 1 => impl_PacketOk.s0 k (impl_PacketOk.l0 k j)
def impl_PacketOk.S0 (p : (Int × Int × (List (Int)) × Int × Int × Int × Int × Int × ByteArray)) : DS := ⟨tl [(1, .at (.bptr 16 0)), (7, .at (.whole 5)), (8, .at (.int .i64 p.1)), (9, .at (.int .i64 p.2.1))], lookO [(5, .row 3 (.int .i64) false p.2.2.1), (16, .box 28 [.int .i64 p.2.2.2.1, .int .i64 p.2.2.2.2.1, .int .i64 p.2.2.2.2.2.1, .int .i64 p.2.2.2.2.2.2.1, .int .i64 p.2.2.2.2.2.2.2.1, .whole 5, .str p.2.2.2.2.2.2.2.2])]⟩
noncomputable def impl_PacketOk.D0 (k : Nat) (j : Nat) (p : (Int × Int × (List (Int)) × Int × Int × Int × Int × Int × ByteArray)) : Option (Bool) := loopK (norm [5] (impl_PacketOk.h 0)) (runK impl_PacketOk.x k 0 [5] impl_PacketOk.h 0 (sub impl_PacketOk.c [1, 0, 1, 0, 0])) j (impl_PacketOk.S0 p) (kBlk 0 (kSeq (runK impl_PacketOk.x k 0 [5] impl_PacketOk.h 0 (sub impl_PacketOk.c [1, 1])) (fin tt impl_PacketOk.ps impl_PacketOk.rs impl_PacketOk.vs .bool)))
theorem impl_PacketOk.D0_eq (k : Nat) : ∀ j, impl_PacketOk.D0 k j = impl_PacketOk.l0 k j := by
  intro j
  induction j with
  | zero => rfl
  | succ j ih =>
    show _ = impl_PacketOk.s0 k (impl_PacketOk.l0 k j)
    rw [← ih]
    funext p
    kernel_rfl
def impl_PacketOk.f (k : Nat) (a0_0 : Int) (a0_1 : Int) (a0_2 : Int) (a0_3 : Int) (a0_4 : Int) (a0_5 : List (Int)) (a0_6 : ByteArray) : Option (Bool) :=
  impl_PacketOk.l0 k k ((a0_5.length : Int), (0 : Int), a0_5, a0_0, a0_1, a0_2, a0_3, a0_4, a0_6)
def impl_PacketOk.K : Ctr := ⟨impl_PacketOk.ps, impl_PacketOk.rs, false, (.two (.int .i64) (.two (.int .i64) (.two (.int .i64) (.two (.int .i64) (.two (.int .i64) (.two (.sl 3 (.int .i64)) .str)))))), .bool, fun k x => impl_PacketOk.f k x.1 x.2.1 x.2.2.1 x.2.2.2.1 x.2.2.2.2.1 x.2.2.2.2.2.1 x.2.2.2.2.2.2⟩
theorem impl_PacketOk.eq (k : Nat) (x : (impl_PacketOk.K.I).den) : func impl_PacketOk.x impl_PacketOk.h impl_PacketOk.ps impl_PacketOk.rs impl_PacketOk.vs impl_PacketOk.K.I impl_PacketOk.K.O impl_PacketOk.c k x = impl_PacketOk.K.run k x := by
  show _ = impl_PacketOk.f k x.1 x.2.1 x.2.2.1 x.2.2.2.1 x.2.2.2.2.1 x.2.2.2.2.2.1 x.2.2.2.2.2.2
  unfold impl_PacketOk.f
  rw [← impl_PacketOk.D0_eq k k]
  kernel_rfl
theorem impl_PacketOk.ok : CtrOk Try.prog 47 impl_PacketOk.K :=
  CtrOk.of (fn := Try.f47) (cd := impl_PacketOk.c) (cx := impl_PacketOk.x) (hs := impl_PacketOk.h) (by kernel_rfl) (by kernel_rfl) (by kernel_rfl) (by kernel_rfl) tt_ok (envOk_cons impl_within.ok (envOk_cons impl_isId.ok (envOk_nil))) (by kernel_rfl) (by kernel_rfl) (by kernel_rfl) (by kernel_rfl) fun k x r h => (impl_PacketOk.eq k x).trans h
/-! slices.Index[[]int,int] -/
noncomputable def slices_Index_int_int.c : Code := bodyOf Try.f108
def slices_Index_int_int.h : Nat → Hint := look ⟨[], [], []⟩ [(0, ⟨[0, 1, 7, 8], [], []⟩)]
def slices_Index_int_int.ps : List PK := [.one, .one]
def slices_Index_int_int.rs : List RK := [.one true]
def slices_Index_int_int.vs : List ResultVar := [.tmp 4]
def slices_Index_int_int.x : Cx := ⟨tt, look none []⟩
def slices_Index_int_int.s0 (_k : Nat) (rec0 : (Int × Int × Int × (List (Int))) → Option (Int)) (p : (Int × Int × Int × (List (Int)))) : Option (Int) :=
  (bif (decide (p.2.2.1 < p.2.1)) then (bif ((decide ((0 : Int) ≤ p.2.2.1)) && (decide (p.2.2.1 < (p.2.2.2.length : Int)))) then (p.2.2.2[p.2.2.1.toNat]?).bind fun x1 => (bif (p.1 == x1) then some p.2.2.1 else rec0 (p.1, p.2.1, (IntKind.i64.wrap (p.2.2.1 + (1 : Int))), p.2.2.2)) else none) else some (-1 : Int))
def slices_Index_int_int.l0 (k : Nat) : Nat → (Int × Int × Int × (List (Int))) → Option (Int)
  | 0 => fun _ => none
  | j + 1 => slices_Index_int_int.s0 k (slices_Index_int_int.l0 k j)
def slices_Index_int_int.S0 (p : (Int × Int × Int × (List (Int)))) : DS := ⟨tl [(0, .at (.whole 0)), (1, .at (.int .i64 p.1)), (7, .at (.int .i64 p.2.1)), (8, .at (.int .i64 p.2.2.1))], lookO [(0, .row 3 (.int .i64) false p.2.2.2)]⟩
noncomputable def slices_Index_int_int.D0 (k : Nat) (j : Nat) (p : (Int × Int × Int × (List (Int)))) : Option (Int) := loopK (norm [0] (slices_Index_int_int.h 0)) (runK slices_Index_int_int.x k 0 [0] slices_Index_int_int.h 0 (sub slices_Index_int_int.c [1, 0, 1, 0, 0])) j (slices_Index_int_int.S0 p) (kBlk 0 (kSeq (runK slices_Index_int_int.x k 0 [0] slices_Index_int_int.h 0 (sub slices_Index_int_int.c [1, 1])) (fin tt slices_Index_int_int.ps slices_Index_int_int.rs slices_Index_int_int.vs (.int .i64))))
theorem slices_Index_int_int.D0_eq (k : Nat) : ∀ j, slices_Index_int_int.D0 k j = slices_Index_int_int.l0 k j := by
  intro j
  induction j with
  | zero => rfl
  | succ j ih =>
    show _ = slices_Index_int_int.s0 k (slices_Index_int_int.l0 k j)
    rw [← ih]
    funext p
    kernel_rfl
def slices_Index_int_int.f (k : Nat) (a0 : List (Int)) (a1 : Int) : Option (Int) :=
  slices_Index_int_int.l0 k k (a1, (a0.length : Int), (0 : Int), a0)
def slices_Index_int_int.K : Ctr := ⟨slices_Index_int_int.ps, slices_Index_int_int.rs, false, (.two (.sl 3 (.int .i64)) (.int .i64)), (.int .i64), fun k x => slices_Index_int_int.f k x.1 x.2⟩
theorem slices_Index_int_int.eq (k : Nat) (x : (slices_Index_int_int.K.I).den) : func slices_Index_int_int.x slices_Index_int_int.h slices_Index_int_int.ps slices_Index_int_int.rs slices_Index_int_int.vs slices_Index_int_int.K.I slices_Index_int_int.K.O slices_Index_int_int.c k x = slices_Index_int_int.K.run k x := by
  show _ = slices_Index_int_int.f k x.1 x.2
  unfold slices_Index_int_int.f
  rw [← slices_Index_int_int.D0_eq k k]
  kernel_rfl
theorem slices_Index_int_int.ok : CtrOk Try.prog 108 slices_Index_int_int.K :=
  CtrOk.of (fn := Try.f108) (cd := slices_Index_int_int.c) (cx := slices_Index_int_int.x) (hs := slices_Index_int_int.h) (by kernel_rfl) (by kernel_rfl) (by kernel_rfl) (by kernel_rfl) tt_ok (envOk_nil) (by kernel_rfl) (by kernel_rfl) (by kernel_rfl) (by kernel_rfl) fun k x r h => (slices_Index_int_int.eq k x).trans h
/-! slices.Contains[[]int,int] -/
noncomputable def slices_Contains_int_int.c : Code := bodyOf Try.f85
def slices_Contains_int_int.h : Nat → Hint := look ⟨[], [], []⟩ []
def slices_Contains_int_int.ps : List PK := [.one, .one]
def slices_Contains_int_int.rs : List RK := [.one true]
def slices_Contains_int_int.vs : List ResultVar := [.tmp 4]
def slices_Contains_int_int.x : Cx := ⟨tt, look none [(108, some slices_Index_int_int.K)]⟩
def slices_Contains_int_int.f (k : Nat) (a0 : List (Int)) (a1 : Int) : Option (Bool) :=
  (slices_Index_int_int.f k a0 a1).bind fun r1 => some (decide (r1 ≥ (0 : Int)))
def slices_Contains_int_int.K : Ctr := ⟨slices_Contains_int_int.ps, slices_Contains_int_int.rs, false, (.two (.sl 3 (.int .i64)) (.int .i64)), .bool, fun k x => slices_Contains_int_int.f k x.1 x.2⟩
theorem slices_Contains_int_int.eq (k : Nat) (x : (slices_Contains_int_int.K.I).den) : func slices_Contains_int_int.x slices_Contains_int_int.h slices_Contains_int_int.ps slices_Contains_int_int.rs slices_Contains_int_int.vs slices_Contains_int_int.K.I slices_Contains_int_int.K.O slices_Contains_int_int.c k x = slices_Contains_int_int.K.run k x := by
  show _ = slices_Contains_int_int.f k x.1 x.2
  kernel_rfl
theorem slices_Contains_int_int.ok : CtrOk Try.prog 85 slices_Contains_int_int.K :=
  CtrOk.of (fn := Try.f85) (cd := slices_Contains_int_int.c) (cx := slices_Contains_int_int.x) (hs := slices_Contains_int_int.h) (by kernel_rfl) (by kernel_rfl) (by kernel_rfl) (by kernel_rfl) tt_ok (envOk_cons slices_Index_int_int.ok (envOk_nil)) (by kernel_rfl) (by kernel_rfl) (by kernel_rfl) (by kernel_rfl) fun k x r h => (slices_Contains_int_int.eq k x).trans h
/-! impl.Take$1 -/
noncomputable def impl_Take_1.c : Code := bodyOf Try.f84
def impl_Take_1.h : Nat → Hint := look ⟨[], [], []⟩ []
def impl_Take_1.ps : List PK := [.agg 4, .box 28 7]
def impl_Take_1.rs : List RK := [.one true]
def impl_Take_1.vs : List ResultVar := [.tmp 3]
def impl_Take_1.x : Cx := ⟨tt, look none [(85, some slices_Contains_int_int.K)]⟩
def impl_Take_1.f (k : Nat) (a0_0 : Int) (_a0_1 : ByteArray) (_a0_2 : Int) (_a0_3 : Int) (a1_0 : Int) (a1_1 : Int) (a1_2 : Int) (a1_3 : Int) (a1_4 : Int) (a1_5 : List (Int)) (a1_6 : ByteArray) : Option (Bool × Int × Int × Int × Int × Int × (List (Int)) × ByteArray) :=
  (slices_Contains_int_int.f k a1_5 a0_0).bind fun r1 => some (r1, a1_0, a1_1, a1_2, a1_3, a1_4, a1_5, a1_6)
def impl_Take_1.K : Ctr := ⟨impl_Take_1.ps, impl_Take_1.rs, true, (.two (.int .i64) (.two .str (.two (.int .i64) (.two (.int .i64) (.two (.int .i64) (.two (.int .i64) (.two (.int .i64) (.two (.int .i64) (.two (.int .i64) (.two (.sl 3 (.int .i64)) .str)))))))))), (.two .bool (.two (.int .i64) (.two (.int .i64) (.two (.int .i64) (.two (.int .i64) (.two (.int .i64) (.two (.sl 3 (.int .i64)) .str))))))), fun k x => impl_Take_1.f k x.1 x.2.1 x.2.2.1 x.2.2.2.1 x.2.2.2.2.1 x.2.2.2.2.2.1 x.2.2.2.2.2.2.1 x.2.2.2.2.2.2.2.1 x.2.2.2.2.2.2.2.2.1 x.2.2.2.2.2.2.2.2.2.1 x.2.2.2.2.2.2.2.2.2.2⟩
theorem impl_Take_1.eq (k : Nat) (x : (impl_Take_1.K.I).den) : func impl_Take_1.x impl_Take_1.h impl_Take_1.ps impl_Take_1.rs impl_Take_1.vs impl_Take_1.K.I impl_Take_1.K.O impl_Take_1.c k x = impl_Take_1.K.run k x := by
  show _ = impl_Take_1.f k x.1 x.2.1 x.2.2.1 x.2.2.2.1 x.2.2.2.2.1 x.2.2.2.2.2.1 x.2.2.2.2.2.2.1 x.2.2.2.2.2.2.2.1 x.2.2.2.2.2.2.2.2.1 x.2.2.2.2.2.2.2.2.2.1 x.2.2.2.2.2.2.2.2.2.2
  kernel_rfl
theorem impl_Take_1.ok : CtrOk Try.prog 84 impl_Take_1.K :=
  CtrOk.of (fn := Try.f84) (cd := impl_Take_1.c) (cx := impl_Take_1.x) (hs := impl_Take_1.h) (by kernel_rfl) (by kernel_rfl) (by kernel_rfl) (by kernel_rfl) tt_ok (envOk_cons slices_Contains_int_int.ok (envOk_nil)) (by kernel_rfl) (by kernel_rfl) (by kernel_rfl) (by kernel_rfl) fun k x r h => (impl_Take_1.eq k x).trans h
/-! slices.IndexFunc[[]impl.Pending,impl.Pending] -/
noncomputable def slices_IndexFunc_impl_Pending_impl_Pending_f84_r.c : Code := bodyOf Try.f107
def slices_IndexFunc_impl_Pending_impl_Pending_f84_r.h : Nat → Hint := look ⟨[], [], []⟩ [(0, ⟨[0, 1, 7, 8], [], [(.b 16 5, 304, 3, (.int .i64))]⟩)]
def slices_IndexFunc_impl_Pending_impl_Pending_f84_r.ps : List PK := [.row, .fnp 84 28 7]
def slices_IndexFunc_impl_Pending_impl_Pending_f84_r.rs : List RK := [.one true]
def slices_IndexFunc_impl_Pending_impl_Pending_f84_r.vs : List ResultVar := [.tmp 4]
def slices_IndexFunc_impl_Pending_impl_Pending_f84_r.x : Cx := ⟨tt, look none [(84, some impl_Take_1.K)]⟩
def slices_IndexFunc_impl_Pending_impl_Pending_f84_r.s0 (k : Nat) (rec0 : (Int × Int × (List (Int × ByteArray × Int × Int)) × Int × Int × Int × Int × Int × ByteArray × (List (Int)) × (List (Int))) → Option (Int × (List (Int × ByteArray × Int × Int)) × Int × Int × Int × Int × Int × (List (Int)) × ByteArray)) (p : (Int × Int × (List (Int × ByteArray × Int × Int)) × Int × Int × Int × Int × Int × ByteArray × (List (Int)) × (List (Int)))) : Option (Int × (List (Int × ByteArray × Int × Int)) × Int × Int × Int × Int × Int × (List (Int)) × ByteArray) :=
  (bif (decide (p.2.1 < p.1)) then (bif ((decide ((0 : Int) ≤ p.2.1)) && (decide (p.2.1 < (p.2.2.1.length : Int)))) then (p.2.2.1[p.2.1.toNat]?).bind fun x1 => (impl_Take_1.f k x1.1 x1.2.1 x1.2.2.1 x1.2.2.2 p.2.2.2.1 p.2.2.2.2.1 p.2.2.2.2.2.1 p.2.2.2.2.2.2.1 p.2.2.2.2.2.2.2.1 p.2.2.2.2.2.2.2.2.2.2 p.2.2.2.2.2.2.2.2.1).bind fun r2 => (bif r2.1 then some (p.2.1, p.2.2.1, r2.2.1, r2.2.2.1, r2.2.2.2.1, r2.2.2.2.2.1, r2.2.2.2.2.2.1, r2.2.2.2.2.2.2.1, r2.2.2.2.2.2.2.2) else rec0 (p.1, (IntKind.i64.wrap (p.2.1 + (1 : Int))), p.2.2.1, r2.2.1, r2.2.2.1, r2.2.2.2.1, r2.2.2.2.2.1, r2.2.2.2.2.2.1, r2.2.2.2.2.2.2.2, p.2.2.2.2.2.2.2.2.2.1, r2.2.2.2.2.2.2.1)) else none) else some ((-1 : Int), p.2.2.1, p.2.2.2.1, p.2.2.2.2.1, p.2.2.2.2.2.1, p.2.2.2.2.2.2.1, p.2.2.2.2.2.2.2.1, p.2.2.2.2.2.2.2.2.2.2, p.2.2.2.2.2.2.2.2.1))
def slices_IndexFunc_impl_Pending_impl_Pending_f84_r.l0 (k : Nat) : Nat → (Int × Int × (List (Int × ByteArray × Int × Int)) × Int × Int × Int × Int × Int × ByteArray × (List (Int)) × (List (Int))) → Option (Int × (List (Int × ByteArray × Int × Int)) × Int × Int × Int × Int × Int × (List (Int)) × ByteArray)
  | 0 => fun _ => none
  | j + 1 => slices_IndexFunc_impl_Pending_impl_Pending_f84_r.s0 k (slices_IndexFunc_impl_Pending_impl_Pending_f84_r.l0 k j)
def slices_IndexFunc_impl_Pending_impl_Pending_f84_r.S0 (p : (Int × Int × (List (Int × ByteArray × Int × Int)) × Int × Int × Int × Int × Int × ByteArray × (List (Int)) × (List (Int)))) : DS := ⟨tl [(0, .at (.whole 0)), (1, .at (.fn 84 [(16, 0)])), (7, .at (.int .i64 p.1)), (8, .at (.int .i64 p.2.1))], lookO [(0, .row 92 (.two (.int .i64) (.two .str (.two (.int .i64) (.int .i64)))) true p.2.2.1), (16, .box 28 [.int .i64 p.2.2.2.1, .int .i64 p.2.2.2.2.1, .int .i64 p.2.2.2.2.2.1, .int .i64 p.2.2.2.2.2.2.1, .int .i64 p.2.2.2.2.2.2.2.1, .whole 304, .str p.2.2.2.2.2.2.2.2.1]), (22, .row 3 (.int .i64) false p.2.2.2.2.2.2.2.2.2.1), (304, .row 3 (.int .i64) false p.2.2.2.2.2.2.2.2.2.2)]⟩
noncomputable def slices_IndexFunc_impl_Pending_impl_Pending_f84_r.D0 (k : Nat) (j : Nat) (p : (Int × Int × (List (Int × ByteArray × Int × Int)) × Int × Int × Int × Int × Int × ByteArray × (List (Int)) × (List (Int)))) : Option (Int × (List (Int × ByteArray × Int × Int)) × Int × Int × Int × Int × Int × (List (Int)) × ByteArray) := loopK (norm [0, 16, 22] (slices_IndexFunc_impl_Pending_impl_Pending_f84_r.h 0)) (runK slices_IndexFunc_impl_Pending_impl_Pending_f84_r.x k 0 [0, 16, 22] slices_IndexFunc_impl_Pending_impl_Pending_f84_r.h 0 (sub slices_IndexFunc_impl_Pending_impl_Pending_f84_r.c [1, 0, 1, 0, 0])) j (slices_IndexFunc_impl_Pending_impl_Pending_f84_r.S0 p) (kBlk 0 (kSeq (runK slices_IndexFunc_impl_Pending_impl_Pending_f84_r.x k 0 [0, 16, 22] slices_IndexFunc_impl_Pending_impl_Pending_f84_r.h 0 (sub slices_IndexFunc_impl_Pending_impl_Pending_f84_r.c [1, 1])) (fin tt slices_IndexFunc_impl_Pending_impl_Pending_f84_r.ps slices_IndexFunc_impl_Pending_impl_Pending_f84_r.rs slices_IndexFunc_impl_Pending_impl_Pending_f84_r.vs (.two (.int .i64) (.two (.sl 92 (.two (.int .i64) (.two .str (.two (.int .i64) (.int .i64))))) (.two (.int .i64) (.two (.int .i64) (.two (.int .i64) (.two (.int .i64) (.two (.int .i64) (.two (.sl 3 (.int .i64)) .str)))))))))))
theorem slices_IndexFunc_impl_Pending_impl_Pending_f84_r.D0_eq (k : Nat) : ∀ j, slices_IndexFunc_impl_Pending_impl_Pending_f84_r.D0 k j = slices_IndexFunc_impl_Pending_impl_Pending_f84_r.l0 k j := by
  intro j
  induction j with
  | zero => rfl
  | succ j ih =>
    show _ = slices_IndexFunc_impl_Pending_impl_Pending_f84_r.s0 k (slices_IndexFunc_impl_Pending_impl_Pending_f84_r.l0 k j)
    rw [← ih]
    funext p
    kernel_rfl
def slices_IndexFunc_impl_Pending_impl_Pending_f84_r.f (k : Nat) (a0 : List (Int × ByteArray × Int × Int)) (a1_0 : Int) (a1_1 : Int) (a1_2 : Int) (a1_3 : Int) (a1_4 : Int) (a1_5 : List (Int)) (a1_6 : ByteArray) : Option (Int × (List (Int × ByteArray × Int × Int)) × Int × Int × Int × Int × Int × (List (Int)) × ByteArray) :=
  slices_IndexFunc_impl_Pending_impl_Pending_f84_r.l0 k k ((a0.length : Int), (0 : Int), a0, a1_0, a1_1, a1_2, a1_3, a1_4, a1_6, a1_5, a1_5)
def slices_IndexFunc_impl_Pending_impl_Pending_f84_r.K : Ctr := ⟨slices_IndexFunc_impl_Pending_impl_Pending_f84_r.ps, slices_IndexFunc_impl_Pending_impl_Pending_f84_r.rs, true, (.two (.sl 92 (.two (.int .i64) (.two .str (.two (.int .i64) (.int .i64))))) (.two (.int .i64) (.two (.int .i64) (.two (.int .i64) (.two (.int .i64) (.two (.int .i64) (.two (.sl 3 (.int .i64)) .str))))))), (.two (.int .i64) (.two (.sl 92 (.two (.int .i64) (.two .str (.two (.int .i64) (.int .i64))))) (.two (.int .i64) (.two (.int .i64) (.two (.int .i64) (.two (.int .i64) (.two (.int .i64) (.two (.sl 3 (.int .i64)) .str)))))))), fun k x => slices_IndexFunc_impl_Pending_impl_Pending_f84_r.f k x.1 x.2.1 x.2.2.1 x.2.2.2.1 x.2.2.2.2.1 x.2.2.2.2.2.1 x.2.2.2.2.2.2.1 x.2.2.2.2.2.2.2⟩
theorem slices_IndexFunc_impl_Pending_impl_Pending_f84_r.eq (k : Nat) (x : (slices_IndexFunc_impl_Pending_impl_Pending_f84_r.K.I).den) : func slices_IndexFunc_impl_Pending_impl_Pending_f84_r.x slices_IndexFunc_impl_Pending_impl_Pending_f84_r.h slices_IndexFunc_impl_Pending_impl_Pending_f84_r.ps slices_IndexFunc_impl_Pending_impl_Pending_f84_r.rs slices_IndexFunc_impl_Pending_impl_Pending_f84_r.vs slices_IndexFunc_impl_Pending_impl_Pending_f84_r.K.I slices_IndexFunc_impl_Pending_impl_Pending_f84_r.K.O slices_IndexFunc_impl_Pending_impl_Pending_f84_r.c k x = slices_IndexFunc_impl_Pending_impl_Pending_f84_r.K.run k x := by
  show _ = slices_IndexFunc_impl_Pending_impl_Pending_f84_r.f k x.1 x.2.1 x.2.2.1 x.2.2.2.1 x.2.2.2.2.1 x.2.2.2.2.2.1 x.2.2.2.2.2.2.1 x.2.2.2.2.2.2.2
  unfold slices_IndexFunc_impl_Pending_impl_Pending_f84_r.f
  rw [← slices_IndexFunc_impl_Pending_impl_Pending_f84_r.D0_eq k k]
  kernel_rfl
theorem slices_IndexFunc_impl_Pending_impl_Pending_f84_r.ok : CtrOk Try.prog 107 slices_IndexFunc_impl_Pending_impl_Pending_f84_r.K :=
  CtrOk.of (fn := Try.f107) (cd := slices_IndexFunc_impl_Pending_impl_Pending_f84_r.c) (cx := slices_IndexFunc_impl_Pending_impl_Pending_f84_r.x) (hs := slices_IndexFunc_impl_Pending_impl_Pending_f84_r.h) (by kernel_rfl) (by kernel_rfl) (by kernel_rfl) (by kernel_rfl) tt_ok (envOk_cons impl_Take_1.ok (envOk_nil)) (by kernel_rfl) (by kernel_rfl) (by kernel_rfl) (by kernel_rfl) fun k x r h => (slices_IndexFunc_impl_Pending_impl_Pending_f84_r.eq k x).trans h
/-! slices.DeleteFunc[[]impl.Pending,impl.Pending] -/
noncomputable def slices_DeleteFunc_impl_Pending_impl_Pending_f84.c : Code := bodyOf Try.f83
def slices_DeleteFunc_impl_Pending_impl_Pending_f84.h : Nat → Hint := look ⟨[], [], []⟩ [(0, ⟨[0, 1, 5, 6], [], [(.b 16 5, 672, 3, (.int .i64)), (.t 0, 673, 92, (.two (.int .i64) (.two .str (.two (.int .i64) (.int .i64)))))]⟩)]
def slices_DeleteFunc_impl_Pending_impl_Pending_f84.ps : List PK := [.give, .fnp 84 28 7]
def slices_DeleteFunc_impl_Pending_impl_Pending_f84.rs : List RK := [.one true]
def slices_DeleteFunc_impl_Pending_impl_Pending_f84.vs : List ResultVar := [.tmp 4]
def slices_DeleteFunc_impl_Pending_impl_Pending_f84.x : Cx := ⟨tt, look none [(107, some slices_IndexFunc_impl_Pending_impl_Pending_f84_r.K), (84, some impl_Take_1.K)]⟩
def slices_DeleteFunc_impl_Pending_impl_Pending_f84.s0 (k : Nat) (rec0 : (Int × Int × Int × Int × Int × Int × Int × ByteArray × (List (Int)) × (List (Int)) × (List (Int × ByteArray × Int × Int))) → Option ((List (Int × ByteArray × Int × Int)) × Int × Int × Int × Int × Int × (List (Int)) × ByteArray)) (p : (Int × Int × Int × Int × Int × Int × Int × ByteArray × (List (Int)) × (List (Int)) × (List (Int × ByteArray × Int × Int)))) : Option ((List (Int × ByteArray × Int × Int)) × Int × Int × Int × Int × Int × (List (Int)) × ByteArray) :=
  (bif (decide (p.2.1 < (p.2.2.2.2.2.2.2.2.2.2.length : Int))) then (bif ((decide ((0 : Int) ≤ p.2.1)) && (decide (p.2.1 < (p.2.2.2.2.2.2.2.2.2.2.length : Int)))) then (p.2.2.2.2.2.2.2.2.2.2[p.2.1.toNat]?).bind fun x2 => (impl_Take_1.f k x2.1 x2.2.1 x2.2.2.1 x2.2.2.2 p.2.2.1 p.2.2.2.1 p.2.2.2.2.1 p.2.2.2.2.2.1 p.2.2.2.2.2.2.1 p.2.2.2.2.2.2.2.2.2.1 p.2.2.2.2.2.2.2.1).bind fun r3 => (bif (!r3.1) then (bif ((decide ((0 : Int) ≤ p.1)) && (decide (p.1 < (p.2.2.2.2.2.2.2.2.2.2.length : Int)))) then (p.2.2.2.2.2.2.2.2.2.2[p.1.toNat]?).bind fun x4 => rec0 ((IntKind.i64.wrap (p.1 + (1 : Int))), (IntKind.i64.wrap (p.2.1 + (1 : Int))), r3.2.1, r3.2.2.1, r3.2.2.2.1, r3.2.2.2.2.1, r3.2.2.2.2.2.1, r3.2.2.2.2.2.2.2, p.2.2.2.2.2.2.2.2.1, r3.2.2.2.2.2.2.1, (p.2.2.2.2.2.2.2.2.2.2.set p.1.toNat (x2.1, x2.2.1, x2.2.2.1, x2.2.2.2))) else none) else rec0 (p.1, (IntKind.i64.wrap (p.2.1 + (1 : Int))), r3.2.1, r3.2.2.1, r3.2.2.2.1, r3.2.2.2.2.1, r3.2.2.2.2.2.1, r3.2.2.2.2.2.2.2, p.2.2.2.2.2.2.2.2.1, r3.2.2.2.2.2.2.1, p.2.2.2.2.2.2.2.2.2.2)) else none) else (bif ((decide ((0 : Int) ≤ p.1)) && (decide (p.1 ≤ (p.2.2.2.2.2.2.2.2.2.2.length : Int)))) then (bif ((decide ((0 : Int) ≤ p.1)) && (decide (p.1 ≤ ((p.2.2.2.2.2.2.2.2.2.2.take p.1.toNat ++ (List.replicate (p.2.2.2.2.2.2.2.2.2.2.length - p.1.toNat) ((0 : Int), ByteArray.empty, (0 : Int), (0 : Int)) ++ p.2.2.2.2.2.2.2.2.2.2.drop (p.1.toNat + (p.2.2.2.2.2.2.2.2.2.2.length - p.1.toNat)))).length : Int)))) then some (((p.2.2.2.2.2.2.2.2.2.2.take p.1.toNat ++ (List.replicate (p.2.2.2.2.2.2.2.2.2.2.length - p.1.toNat) ((0 : Int), ByteArray.empty, (0 : Int), (0 : Int)) ++ p.2.2.2.2.2.2.2.2.2.2.drop (p.1.toNat + (p.2.2.2.2.2.2.2.2.2.2.length - p.1.toNat)))).take p.1.toNat), p.2.2.1, p.2.2.2.1, p.2.2.2.2.1, p.2.2.2.2.2.1, p.2.2.2.2.2.2.1, p.2.2.2.2.2.2.2.2.2.1, p.2.2.2.2.2.2.2.1) else none) else none))
def slices_DeleteFunc_impl_Pending_impl_Pending_f84.l0 (k : Nat) : Nat → (Int × Int × Int × Int × Int × Int × Int × ByteArray × (List (Int)) × (List (Int)) × (List (Int × ByteArray × Int × Int))) → Option ((List (Int × ByteArray × Int × Int)) × Int × Int × Int × Int × Int × (List (Int)) × ByteArray)
  | 0 => fun _ => none
  | j + 1 => slices_DeleteFunc_impl_Pending_impl_Pending_f84.s0 k (slices_DeleteFunc_impl_Pending_impl_Pending_f84.l0 k j)
def slices_DeleteFunc_impl_Pending_impl_Pending_f84.S0 (p : (Int × Int × Int × Int × Int × Int × Int × ByteArray × (List (Int)) × (List (Int)) × (List (Int × ByteArray × Int × Int)))) : DS := ⟨tl [(0, .at (.whole 673)), (1, .at (.fn 84 [(16, 0)])), (5, .at (.int .i64 p.1)), (6, .at (.int .i64 p.2.1))], lookO [(16, .box 28 [.int .i64 p.2.2.1, .int .i64 p.2.2.2.1, .int .i64 p.2.2.2.2.1, .int .i64 p.2.2.2.2.2.1, .int .i64 p.2.2.2.2.2.2.1, .whole 672, .str p.2.2.2.2.2.2.2.1]), (22, .row 3 (.int .i64) false p.2.2.2.2.2.2.2.2.1), (672, .row 3 (.int .i64) false p.2.2.2.2.2.2.2.2.2.1), (673, .row 92 (.two (.int .i64) (.two .str (.two (.int .i64) (.int .i64)))) true p.2.2.2.2.2.2.2.2.2.2)]⟩
noncomputable def slices_DeleteFunc_impl_Pending_impl_Pending_f84.D0 (k : Nat) (j : Nat) (p : (Int × Int × Int × Int × Int × Int × Int × ByteArray × (List (Int)) × (List (Int)) × (List (Int × ByteArray × Int × Int)))) : Option ((List (Int × ByteArray × Int × Int)) × Int × Int × Int × Int × Int × (List (Int)) × ByteArray) := loopK (norm [16, 22] (slices_DeleteFunc_impl_Pending_impl_Pending_f84.h 0)) (runK slices_DeleteFunc_impl_Pending_impl_Pending_f84.x k 0 [16, 22] slices_DeleteFunc_impl_Pending_impl_Pending_f84.h 0 (sub slices_DeleteFunc_impl_Pending_impl_Pending_f84.c [1, 1, 1, 0, 1, 0, 0])) j (slices_DeleteFunc_impl_Pending_impl_Pending_f84.S0 p) (kBlk 0 (kSeq (runK slices_DeleteFunc_impl_Pending_impl_Pending_f84.x k 0 [16, 22] slices_DeleteFunc_impl_Pending_impl_Pending_f84.h 0 (sub slices_DeleteFunc_impl_Pending_impl_Pending_f84.c [1, 1, 1, 1])) (fin tt slices_DeleteFunc_impl_Pending_impl_Pending_f84.ps slices_DeleteFunc_impl_Pending_impl_Pending_f84.rs slices_DeleteFunc_impl_Pending_impl_Pending_f84.vs (.two (.sl 92 (.two (.int .i64) (.two .str (.two (.int .i64) (.int .i64))))) (.two (.int .i64) (.two (.int .i64) (.two (.int .i64) (.two (.int .i64) (.two (.int .i64) (.two (.sl 3 (.int .i64)) .str))))))))))
theorem slices_DeleteFunc_impl_Pending_impl_Pending_f84.D0_eq (k : Nat) : ∀ j, slices_DeleteFunc_impl_Pending_impl_Pending_f84.D0 k j = slices_DeleteFunc_impl_Pending_impl_Pending_f84.l0 k j := by
  intro j
  induction j with
  | zero => rfl
  | succ j ih =>
    show _ = slices_DeleteFunc_impl_Pending_impl_Pending_f84.s0 k (slices_DeleteFunc_impl_Pending_impl_Pending_f84.l0 k j)
    rw [← ih]
    funext p
    kernel_rfl
def slices_DeleteFunc_impl_Pending_impl_Pending_f84.f (k : Nat) (a0 : List (Int × ByteArray × Int × Int)) (a1_0 : Int) (a1_1 : Int) (a1_2 : Int) (a1_3 : Int) (a1_4 : Int) (a1_5 : List (Int)) (a1_6 : ByteArray) : Option ((List (Int × ByteArray × Int × Int)) × Int × Int × Int × Int × Int × (List (Int)) × ByteArray) :=
  (slices_IndexFunc_impl_Pending_impl_Pending_f84_r.f k a0 a1_0 a1_1 a1_2 a1_3 a1_4 a1_5 a1_6).bind fun r1 => (bif (r1.1 == (-1 : Int)) then some (r1.2.1, r1.2.2.1, r1.2.2.2.1, r1.2.2.2.2.1, r1.2.2.2.2.2.1, r1.2.2.2.2.2.2.1, r1.2.2.2.2.2.2.2.1, r1.2.2.2.2.2.2.2.2) else slices_DeleteFunc_impl_Pending_impl_Pending_f84.l0 k k (r1.1, (IntKind.i64.wrap (r1.1 + (1 : Int))), r1.2.2.1, r1.2.2.2.1, r1.2.2.2.2.1, r1.2.2.2.2.2.1, r1.2.2.2.2.2.2.1, r1.2.2.2.2.2.2.2.2, a1_5, r1.2.2.2.2.2.2.2.1, r1.2.1))
def slices_DeleteFunc_impl_Pending_impl_Pending_f84.K : Ctr := ⟨slices_DeleteFunc_impl_Pending_impl_Pending_f84.ps, slices_DeleteFunc_impl_Pending_impl_Pending_f84.rs, true, (.two (.sl 92 (.two (.int .i64) (.two .str (.two (.int .i64) (.int .i64))))) (.two (.int .i64) (.two (.int .i64) (.two (.int .i64) (.two (.int .i64) (.two (.int .i64) (.two (.sl 3 (.int .i64)) .str))))))), (.two (.sl 92 (.two (.int .i64) (.two .str (.two (.int .i64) (.int .i64))))) (.two (.int .i64) (.two (.int .i64) (.two (.int .i64) (.two (.int .i64) (.two (.int .i64) (.two (.sl 3 (.int .i64)) .str))))))), fun k x => slices_DeleteFunc_impl_Pending_impl_Pending_f84.f k x.1 x.2.1 x.2.2.1 x.2.2.2.1 x.2.2.2.2.1 x.2.2.2.2.2.1 x.2.2.2.2.2.2.1 x.2.2.2.2.2.2.2⟩
theorem slices_DeleteFunc_impl_Pending_impl_Pending_f84.eq (k : Nat) (x : (slices_DeleteFunc_impl_Pending_impl_Pending_f84.K.I).den) : func slices_DeleteFunc_impl_Pending_impl_Pending_f84.x slices_DeleteFunc_impl_Pending_impl_Pending_f84.h slices_DeleteFunc_impl_Pending_impl_Pending_f84.ps slices_DeleteFunc_impl_Pending_impl_Pending_f84.rs slices_DeleteFunc_impl_Pending_impl_Pending_f84.vs slices_DeleteFunc_impl_Pending_impl_Pending_f84.K.I slices_DeleteFunc_impl_Pending_impl_Pending_f84.K.O slices_DeleteFunc_impl_Pending_impl_Pending_f84.c k x = slices_DeleteFunc_impl_Pending_impl_Pending_f84.K.run k x := by
  show _ = slices_DeleteFunc_impl_Pending_impl_Pending_f84.f k x.1 x.2.1 x.2.2.1 x.2.2.2.1 x.2.2.2.2.1 x.2.2.2.2.2.1 x.2.2.2.2.2.2.1 x.2.2.2.2.2.2.2
  unfold slices_DeleteFunc_impl_Pending_impl_Pending_f84.f
  rw [← slices_DeleteFunc_impl_Pending_impl_Pending_f84.D0_eq k k]
  kernel_rfl
theorem slices_DeleteFunc_impl_Pending_impl_Pending_f84.ok : CtrOk Try.prog 83 slices_DeleteFunc_impl_Pending_impl_Pending_f84.K :=
  CtrOk.of (fn := Try.f83) (cd := slices_DeleteFunc_impl_Pending_impl_Pending_f84.c) (cx := slices_DeleteFunc_impl_Pending_impl_Pending_f84.x) (hs := slices_DeleteFunc_impl_Pending_impl_Pending_f84.h) (by kernel_rfl) (by kernel_rfl) (by kernel_rfl) (by kernel_rfl) tt_ok (envOk_cons slices_IndexFunc_impl_Pending_impl_Pending_f84_r.ok (envOk_cons impl_Take_1.ok (envOk_nil))) (by kernel_rfl) (by kernel_rfl) (by kernel_rfl) (by kernel_rfl) fun k x r h => (slices_DeleteFunc_impl_Pending_impl_Pending_f84.eq k x).trans h
/-! slices.Insert[[]impl.Early,impl.Early] -/
def slices_Insert_impl_Early_impl_Early.f (_k : Nat) (a0 : List (Int × ByteArray)) (a1 : Int) (a2 : List (Int × ByteArray)) : Option (List (Int × ByteArray)) :=
  if (0 ≤ a1 ∧ a1 ≤ (List.length a0 : Int)) ∧ (0 < List.length a2 ∧ (List.length a0 + List.length a2) * 24 ≤ 140737488355328) then some (List.take a1.toNat a0 ++ a2 ++ List.drop a1.toNat a0) else none
def slices_Insert_impl_Early_impl_Early.K : Ctr := ⟨[.give, .one, .give], [.one true], true, (.two (.sl 87 (.two (.int .i64) .str)) (.two (.int .i64) (.sl 87 (.two (.int .i64) .str)))), (.sl 87 (.two (.int .i64) .str)), fun k x => slices_Insert_impl_Early_impl_Early.f k x.1 x.2.1 x.2.2⟩
theorem slices_Insert_impl_Early_impl_Early.ok : CtrOk Try.prog 109 slices_Insert_impl_Early_impl_Early.K := CtrOk.ins ins109.roads ti34 rfl ti87 (by decide)
end Go.Proofs.Ytpheniajdbbphaa.DI
