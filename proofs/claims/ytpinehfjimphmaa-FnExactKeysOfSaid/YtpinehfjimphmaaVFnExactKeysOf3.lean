/- FnExactKeysOf: functions as plain Lean, in the machine of values. -/
import Derived.Test.YtpinehfjimphmaaVFnExactKeysOf2
namespace Go.Proofs.Ytpinehfjimphmaa.DI
open Go
set_option linter.unusedVariables false
/-! spec.Expand -/
noncomputable def spec_Expand.c : Code := bodyOf Try.f45
def spec_Expand.h : Nat → Hint := look ⟨[], [], []⟩ [(0, ⟨[0, 1, 2, 8, 9, 10], [], [(.t 8, 592, 5, (.int .u8))]⟩)]
def spec_Expand.ps : List PK := [.one, .one, .one]
def spec_Expand.rs : List RK := [.one true, .one true]
def spec_Expand.vs : List ResultVar := [.tmp 6, .tmp 7]
def spec_Expand.x : Cx := ⟨tt, look none [(31, some spec_l01In.K), (26, some spec_l05Byte.K), (67, some spec_MacOf.K)]⟩
def spec_Expand.s0 (k : Nat) (rec0 : (ByteArray × ByteArray × Int × ByteArray × Int × (List (Int))) → Option (ByteArray × Bool)) (p : (ByteArray × ByteArray × Int × ByteArray × Int × (List (Int)))) : Option (ByteArray × Bool) :=
  (bif (decide ((p.2.2.2.2.2.length : Int) < p.2.2.1)) then (bif decide (p.2.2.2.1.size + p.2.1.size ≤ 140737488351232) then (spec_l05Byte.f k p.2.2.2.2.1).bind fun r2 => (bif decide ((p.2.2.2.1 ++ p.2.1).size + r2.size ≤ 140737488351232) then (spec_MacOf.f k p.1 ((p.2.2.2.1 ++ p.2.1) ++ r2)).bind fun r3 => (bif decide ((p.2.2.2.2.2.length + (numsOf r3).length) * 1 ≤ 140737488355328) then rec0 (p.1, p.2.1, p.2.2.1, r3, (IntKind.i64.wrap (p.2.2.2.2.1 + (1 : Int))), (p.2.2.2.2.2 ++ (numsOf r3))) else none) else none) else none) else (bif ((decide ((0 : Int) ≤ p.2.2.1)) && (decide (p.2.2.1 ≤ (p.2.2.2.2.2.length : Int)))) then some ((strOfNums (p.2.2.2.2.2.take p.2.2.1.toNat)), true) else none))
def spec_Expand.l0 (k : Nat) : Nat → (ByteArray × ByteArray × Int × ByteArray × Int × (List (Int))) → Option (ByteArray × Bool)
  | 0 => fun _ => none
  | j + 1 => spec_Expand.s0 k (spec_Expand.l0 k j)
def spec_Expand.S0 (p : (ByteArray × ByteArray × Int × ByteArray × Int × (List (Int)))) : DS := ⟨tl [(0, .at (.str p.1)), (1, .at (.str p.2.1)), (2, .at (.int .i64 p.2.2.1)), (8, .at (.whole 592)), (9, .at (.str p.2.2.2.1)), (10, .at (.int .i64 p.2.2.2.2.1))], lookO [(592, .row 5 (.int .u8) true p.2.2.2.2.2)]⟩
noncomputable def spec_Expand.D0 (k : Nat) (j : Nat) (p : (ByteArray × ByteArray × Int × ByteArray × Int × (List (Int)))) : Option (ByteArray × Bool) := loopK (norm [] (spec_Expand.h 0)) (runK spec_Expand.x k 0 [] spec_Expand.h 0 (sub spec_Expand.c [1, 1, 1, 1, 0, 1, 0, 0])) j (spec_Expand.S0 p) (kBlk 0 (kSeq (runK spec_Expand.x k 0 [] spec_Expand.h 0 (sub spec_Expand.c [1, 1, 1, 1, 1])) (fin tt spec_Expand.ps spec_Expand.rs spec_Expand.vs (.two .str .bool))))
theorem spec_Expand.D0_eq (k : Nat) : ∀ j, spec_Expand.D0 k j = spec_Expand.l0 k j := by
  intro j
  induction j with
  | zero => rfl
  | succ j ih =>
    show _ = spec_Expand.s0 k (spec_Expand.l0 k j)
    rw [← ih]
    funext p
    kernel_rfl
def spec_Expand.f (k : Nat) (a0 : ByteArray) (a1 : ByteArray) (a2 : Int) : Option (ByteArray × Bool) :=
  (spec_l01In.f k a2 (0 : Int) (8160 : Int)).bind fun r1 => (bif (!r1) then some (ByteArray.empty, false) else spec_Expand.l0 k k (a0, a1, a2, ByteArray.empty, (1 : Int), ([] : List (Int))))
def spec_Expand.K : Ctr := ⟨spec_Expand.ps, spec_Expand.rs, false, (.two .str (.two .str (.int .i64))), (.two .str .bool), fun k x => spec_Expand.f k x.1 x.2.1 x.2.2⟩
theorem spec_Expand.eq (k : Nat) (x : (spec_Expand.K.I).den) : func spec_Expand.x spec_Expand.h spec_Expand.ps spec_Expand.rs spec_Expand.vs spec_Expand.K.I spec_Expand.K.O spec_Expand.c k x = spec_Expand.K.run k x := by
  show _ = spec_Expand.f k x.1 x.2.1 x.2.2
  unfold spec_Expand.f
  rw [← spec_Expand.D0_eq k k]
  kernel_rfl
theorem spec_Expand.ok : CtrOk Try.prog 45 spec_Expand.K :=
  CtrOk.of (fn := Try.f45) (cd := spec_Expand.c) (cx := spec_Expand.x) (hs := spec_Expand.h) (by kernel_rfl) (by kernel_rfl) (by kernel_rfl) (by kernel_rfl) tt_ok (envOk_cons spec_l01In.ok (envOk_cons spec_l05Byte.ok (envOk_cons spec_MacOf.ok (envOk_nil)))) (by kernel_rfl) (by kernel_rfl) (by kernel_rfl) (by kernel_rfl) fun k x r h => (spec_Expand.eq k x).trans h
/-! spec.KeysOf -/
noncomputable def spec_KeysOf.c : Code := bodyOf Try.f18
def spec_KeysOf.h : Nat → Hint := look ⟨[], [], []⟩ []
def spec_KeysOf.ps : List PK := [.agg 7]
def spec_KeysOf.rs : List RK := [.one true, .one true, .one true]
def spec_KeysOf.vs : List ResultVar := [.tmp 2, .tmp 3, .tmp 4]
def spec_KeysOf.x : Cx := ⟨tt, look none [(43, some spec_l16Other.K), (44, some spec_SharedOf.K), (27, some spec_NumberText.K), (38, some spec_Transcript.K), (45, some spec_Expand.K)]⟩
def spec_KeysOf.f (k : Nat) (a0_0 : Int) (a0_1 : Int) (a0_2 : Int) (a0_3 : Int) (a0_4 : Int) (a0_5 : ByteArray) (a0_6 : ByteArray) : Option (ByteArray × ByteArray × Bool) :=
  (spec_l16Other.f k a0_0 a0_1 a0_2 a0_3 a0_4 a0_5 a0_6 a0_6).bind fun r1 => (spec_SharedOf.f k a0_3 r1.1).bind fun r2 => (bif (a0_4 != (3 : Int)) then some (ByteArray.empty, ByteArray.empty, false) else (bif (!r1.2) then some (ByteArray.empty, ByteArray.empty, false) else (bif (!r2.2) then some (ByteArray.empty, ByteArray.empty, false) else (spec_NumberText.f k r2.1).bind fun r3 => (spec_Transcript.f k a0_0 a0_1 a0_2 a0_3 a0_4 a0_5 a0_6).bind fun r4 => (spec_Expand.f k r3 r4 (64 : Int)).bind fun r5 => (bif (a0_0 == (1 : Int)) then (bif (true && (decide ((32 : Int) ≤ (r5.1.size : Int)))) then (bif (true && (decide ((32 : Int) ≤ (r5.1.size : Int)))) then some ((r5.1.extract 0 32), (r5.1.extract 32 r5.1.size), true) else none) else none) else (bif (true && (decide ((32 : Int) ≤ (r5.1.size : Int)))) then (bif (true && (decide ((32 : Int) ≤ (r5.1.size : Int)))) then some ((r5.1.extract 32 r5.1.size), (r5.1.extract 0 32), true) else none) else none)))))
def spec_KeysOf.K : Ctr := ⟨spec_KeysOf.ps, spec_KeysOf.rs, false, (.two (.int .i64) (.two (.int .i64) (.two (.int .i64) (.two (.int .i64) (.two (.int .i64) (.two .str .str)))))), (.two .str (.two .str .bool)), fun k x => spec_KeysOf.f k x.1 x.2.1 x.2.2.1 x.2.2.2.1 x.2.2.2.2.1 x.2.2.2.2.2.1 x.2.2.2.2.2.2⟩
theorem spec_KeysOf.eq (k : Nat) (x : (spec_KeysOf.K.I).den) : func spec_KeysOf.x spec_KeysOf.h spec_KeysOf.ps spec_KeysOf.rs spec_KeysOf.vs spec_KeysOf.K.I spec_KeysOf.K.O spec_KeysOf.c k x = spec_KeysOf.K.run k x := by
  show _ = spec_KeysOf.f k x.1 x.2.1 x.2.2.1 x.2.2.2.1 x.2.2.2.2.1 x.2.2.2.2.2.1 x.2.2.2.2.2.2
  kernel_rfl
theorem spec_KeysOf.ok : CtrOk Try.prog 18 spec_KeysOf.K :=
  CtrOk.of (fn := Try.f18) (cd := spec_KeysOf.c) (cx := spec_KeysOf.x) (hs := spec_KeysOf.h) (by kernel_rfl) (by kernel_rfl) (by kernel_rfl) (by kernel_rfl) tt_ok (envOk_cons spec_l16Other.ok (envOk_cons spec_SharedOf.ok (envOk_cons spec_NumberText.ok (envOk_cons spec_Transcript.ok (envOk_cons spec_Expand.ok (envOk_nil)))))) (by kernel_rfl) (by kernel_rfl) (by kernel_rfl) (by kernel_rfl) fun k x r h => (spec_KeysOf.eq k x).trans h
/-! impl.otherRole -/
noncomputable def impl_otherRole.c : Code := bodyOf Try.f47
def impl_otherRole.h : Nat → Hint := look ⟨[], [], []⟩ []
def impl_otherRole.ps : List PK := [.agg 7]
def impl_otherRole.rs : List RK := [.one true]
def impl_otherRole.vs : List ResultVar := [.tmp 2]
def impl_otherRole.x : Cx := ⟨tt, look none []⟩
def impl_otherRole.f (_k : Nat) (a0_0 : Int) (_a0_1 : Int) (_a0_2 : Int) (_a0_3 : Int) (_a0_4 : Int) (_a0_5 : ByteArray) (_a0_6 : ByteArray) : Option (Int) :=
  some (IntKind.i64.wrap ((3 : Int) - a0_0))
def impl_otherRole.K : Ctr := ⟨impl_otherRole.ps, impl_otherRole.rs, false, (.two (.int .i64) (.two (.int .i64) (.two (.int .i64) (.two (.int .i64) (.two (.int .i64) (.two .str .str)))))), (.int .i64), fun k x => impl_otherRole.f k x.1 x.2.1 x.2.2.1 x.2.2.2.1 x.2.2.2.2.1 x.2.2.2.2.2.1 x.2.2.2.2.2.2⟩
theorem impl_otherRole.eq (k : Nat) (x : (impl_otherRole.K.I).den) : func impl_otherRole.x impl_otherRole.h impl_otherRole.ps impl_otherRole.rs impl_otherRole.vs impl_otherRole.K.I impl_otherRole.K.O impl_otherRole.c k x = impl_otherRole.K.run k x := by
  show _ = impl_otherRole.f k x.1 x.2.1 x.2.2.1 x.2.2.2.1 x.2.2.2.2.1 x.2.2.2.2.2.1 x.2.2.2.2.2.2
  kernel_rfl
theorem impl_otherRole.ok : CtrOk Try.prog 47 impl_otherRole.K :=
  CtrOk.of (fn := Try.f47) (cd := impl_otherRole.c) (cx := impl_otherRole.x) (hs := impl_otherRole.h) (by kernel_rfl) (by kernel_rfl) (by kernel_rfl) (by kernel_rfl) tt_ok (envOk_nil) (by kernel_rfl) (by kernel_rfl) (by kernel_rfl) (by kernel_rfl) fun k x r h => (impl_otherRole.eq k x).trans h
/-! impl.byteText -/
noncomputable def impl_byteText.c : Code := bodyOf Try.f28
def impl_byteText.h : Nat → Hint := look ⟨[], [], []⟩ []
def impl_byteText.ps : List PK := [.one]
def impl_byteText.rs : List RK := [.one true]
def impl_byteText.vs : List ResultVar := [.tmp 2]
def impl_byteText.x : Cx := ⟨tt, look none []⟩
def impl_byteText.f (_k : Nat) (a0 : Int) : Option (ByteArray) :=
  some (strOfNums [(IntKind.u8.wrap a0)])
def impl_byteText.K : Ctr := ⟨impl_byteText.ps, impl_byteText.rs, false, (.int .i64), .str, fun k x => impl_byteText.f k x⟩
theorem impl_byteText.eq (k : Nat) (x : (impl_byteText.K.I).den) : func impl_byteText.x impl_byteText.h impl_byteText.ps impl_byteText.rs impl_byteText.vs impl_byteText.K.I impl_byteText.K.O impl_byteText.c k x = impl_byteText.K.run k x := by
  show _ = impl_byteText.f k x
  kernel_rfl
theorem impl_byteText.ok : CtrOk Try.prog 28 impl_byteText.K :=
  CtrOk.of (fn := Try.f28) (cd := impl_byteText.c) (cx := impl_byteText.x) (hs := impl_byteText.h) (by kernel_rfl) (by kernel_rfl) (by kernel_rfl) (by kernel_rfl) tt_ok (envOk_nil) (by kernel_rfl) (by kernel_rfl) (by kernel_rfl) (by kernel_rfl) fun k x r h => (impl_byteText.eq k x).trans h
/-! impl.ReadNumber -/
noncomputable def impl_ReadNumber.c : Code := bodyOf Try.f68
def impl_ReadNumber.h : Nat → Hint := look ⟨[], [], []⟩ []
def impl_ReadNumber.ps : List PK := [.one]
def impl_ReadNumber.rs : List RK := [.one true, .one true]
def impl_ReadNumber.vs : List ResultVar := [.tmp 2, .tmp 3]
def impl_ReadNumber.x : Cx := ⟨tt, look none []⟩
def impl_ReadNumber.f (_k : Nat) (a0 : ByteArray) : Option (Int × Bool) :=
  (bif ((a0.size : Int) != (4 : Int)) then some ((0 : Int), false) else (a0[0]?).bind fun c1 => (a0[1]?).bind fun c2 => (a0[2]?).bind fun c3 => (a0[3]?).bind fun c4 => some ((IntKind.i64.wrap (((BitVec.ofInt IntKind.i64.bits (IntKind.i64.wrap (((BitVec.ofInt IntKind.i64.bits (IntKind.i64.wrap (((BitVec.ofInt IntKind.i64.bits (IntKind.i64.wrap ((IntKind.i64.wrap (c1.toNat : Int)) * 2 ^ 24))) ||| (BitVec.ofInt IntKind.i64.bits (IntKind.i64.wrap ((IntKind.i64.wrap (c2.toNat : Int)) * 2 ^ 16)))).toNat : Int))) ||| (BitVec.ofInt IntKind.i64.bits (IntKind.i64.wrap ((IntKind.i64.wrap (c3.toNat : Int)) * 2 ^ 8)))).toNat : Int))) ||| (BitVec.ofInt IntKind.i64.bits (IntKind.i64.wrap (c4.toNat : Int)))).toNat : Int)), true))
def impl_ReadNumber.K : Ctr := ⟨impl_ReadNumber.ps, impl_ReadNumber.rs, false, .str, (.two (.int .i64) .bool), fun k x => impl_ReadNumber.f k x⟩
theorem impl_ReadNumber.eq (k : Nat) (x : (impl_ReadNumber.K.I).den) : func impl_ReadNumber.x impl_ReadNumber.h impl_ReadNumber.ps impl_ReadNumber.rs impl_ReadNumber.vs impl_ReadNumber.K.I impl_ReadNumber.K.O impl_ReadNumber.c k x = impl_ReadNumber.K.run k x := by
  show _ = impl_ReadNumber.f k x
  kernel_rfl
theorem impl_ReadNumber.ok : CtrOk Try.prog 68 impl_ReadNumber.K :=
  CtrOk.of (fn := Try.f68) (cd := impl_ReadNumber.c) (cx := impl_ReadNumber.x) (hs := impl_ReadNumber.h) (by kernel_rfl) (by kernel_rfl) (by kernel_rfl) (by kernel_rfl) tt_ok (envOk_nil) (by kernel_rfl) (by kernel_rfl) (by kernel_rfl) (by kernel_rfl) fun k x r h => (impl_ReadNumber.eq k x).trans h
/-! impl.within -/
noncomputable def impl_within.c : Code := bodyOf Try.f34
def impl_within.h : Nat → Hint := look ⟨[], [], []⟩ []
def impl_within.ps : List PK := [.one, .one, .one]
def impl_within.rs : List RK := [.one true]
def impl_within.vs : List ResultVar := [.tmp 6]
def impl_within.x : Cx := ⟨tt, look none []⟩
def impl_within.f (_k : Nat) (a0 : Int) (a1 : Int) (a2 : Int) : Option (Bool) :=
  (bif (decide (a0 ≥ a1)) then some (decide (a0 ≤ a2)) else some false)
def impl_within.K : Ctr := ⟨impl_within.ps, impl_within.rs, false, (.two (.int .i64) (.two (.int .i64) (.int .i64))), .bool, fun k x => impl_within.f k x.1 x.2.1 x.2.2⟩
theorem impl_within.eq (k : Nat) (x : (impl_within.K.I).den) : func impl_within.x impl_within.h impl_within.ps impl_within.rs impl_within.vs impl_within.K.I impl_within.K.O impl_within.c k x = impl_within.K.run k x := by
  show _ = impl_within.f k x.1 x.2.1 x.2.2
  kernel_rfl
theorem impl_within.ok : CtrOk Try.prog 34 impl_within.K :=
  CtrOk.of (fn := Try.f34) (cd := impl_within.c) (cx := impl_within.x) (hs := impl_within.h) (by kernel_rfl) (by kernel_rfl) (by kernel_rfl) (by kernel_rfl) tt_ok (envOk_nil) (by kernel_rfl) (by kernel_rfl) (by kernel_rfl) (by kernel_rfl) fun k x r h => (impl_within.eq k x).trans h
/-! impl.inPrime -/
noncomputable def impl_inPrime.c : Code := bodyOf Try.f76
def impl_inPrime.h : Nat → Hint := look ⟨[], [], []⟩ []
def impl_inPrime.ps : List PK := [.one]
def impl_inPrime.rs : List RK := [.one true]
def impl_inPrime.vs : List ResultVar := [.tmp 2]
def impl_inPrime.x : Cx := ⟨tt, look none []⟩
def impl_inPrime.f (_k : Nat) (a0 : Int) : Option (Int) :=
  some ((IntKind.i64.wrap ((a0.tmod (2147483579 : Int)) + (2147483579 : Int))).tmod (2147483579 : Int))
def impl_inPrime.K : Ctr := ⟨impl_inPrime.ps, impl_inPrime.rs, false, (.int .i64), (.int .i64), fun k x => impl_inPrime.f k x⟩
theorem impl_inPrime.eq (k : Nat) (x : (impl_inPrime.K.I).den) : func impl_inPrime.x impl_inPrime.h impl_inPrime.ps impl_inPrime.rs impl_inPrime.vs impl_inPrime.K.I impl_inPrime.K.O impl_inPrime.c k x = impl_inPrime.K.run k x := by
  show _ = impl_inPrime.f k x
  kernel_rfl
theorem impl_inPrime.ok : CtrOk Try.prog 76 impl_inPrime.K :=
  CtrOk.of (fn := Try.f76) (cd := impl_inPrime.c) (cx := impl_inPrime.x) (hs := impl_inPrime.h) (by kernel_rfl) (by kernel_rfl) (by kernel_rfl) (by kernel_rfl) tt_ok (envOk_nil) (by kernel_rfl) (by kernel_rfl) (by kernel_rfl) (by kernel_rfl) fun k x r h => (impl_inPrime.eq k x).trans h
/-! impl.PowP -/
noncomputable def impl_PowP.c : Code := bodyOf Try.f59
def impl_PowP.h : Nat → Hint := look ⟨[], [], []⟩ [(0, ⟨[1, 5, 6], [], []⟩)]
def impl_PowP.ps : List PK := [.one, .one]
def impl_PowP.rs : List RK := [.one true]
def impl_PowP.vs : List ResultVar := [.tmp 4]
def impl_PowP.x : Cx := ⟨tt, look none [(34, some impl_within.K), (76, some impl_inPrime.K)]⟩
def impl_PowP.s0 (_k : Nat) (rec0 : (Int × Int × Int) → Option (Int)) (p : (Int × Int × Int)) : Option (Int) :=
  (bif (decide (p.1 > (0 : Int))) then (bif ((p.1.tmod (2 : Int)) == (1 : Int)) then rec0 ((IntKind.i64.wrap (p.1.tdiv (2 : Int))), ((IntKind.i64.wrap (p.2.1 * p.2.2)).tmod (2147483579 : Int)), ((IntKind.i64.wrap (p.2.2 * p.2.2)).tmod (2147483579 : Int))) else rec0 ((IntKind.i64.wrap (p.1.tdiv (2 : Int))), p.2.1, ((IntKind.i64.wrap (p.2.2 * p.2.2)).tmod (2147483579 : Int)))) else some p.2.1)
def impl_PowP.l0 (k : Nat) : Nat → (Int × Int × Int) → Option (Int)
  | 0 => fun _ => none
  | j + 1 => impl_PowP.s0 k (impl_PowP.l0 k j)
def impl_PowP.S0 (p : (Int × Int × Int)) : DS := ⟨tl [(1, .at (.int .i64 p.1)), (5, .at (.int .i64 p.2.1)), (6, .at (.int .i64 p.2.2))], lookO []⟩
noncomputable def impl_PowP.D0 (k : Nat) (j : Nat) (p : (Int × Int × Int)) : Option (Int) := loopK (norm [] (impl_PowP.h 0)) (runK impl_PowP.x k 0 [] impl_PowP.h 0 (sub impl_PowP.c [1, 1, 1, 0, 0, 0])) j (impl_PowP.S0 p) (kBlk 0 (kSeq (runK impl_PowP.x k 0 [] impl_PowP.h 0 (sub impl_PowP.c [1, 1, 1, 1])) (fin tt impl_PowP.ps impl_PowP.rs impl_PowP.vs (.int .i64))))
theorem impl_PowP.D0_eq (k : Nat) : ∀ j, impl_PowP.D0 k j = impl_PowP.l0 k j := by
  intro j
  induction j with
  | zero => rfl
  | succ j ih =>
    show _ = impl_PowP.s0 k (impl_PowP.l0 k j)
    rw [← ih]
    funext p
    kernel_rfl
def impl_PowP.f (k : Nat) (a0 : Int) (a1 : Int) : Option (Int) :=
  (impl_within.f k a1 (0 : Int) (2147483579 : Int)).bind fun r1 => (bif (!r1) then some (0 : Int) else (impl_inPrime.f k a0).bind fun r2 => impl_PowP.l0 k k (a1, (1 : Int), r2))
def impl_PowP.K : Ctr := ⟨impl_PowP.ps, impl_PowP.rs, false, (.two (.int .i64) (.int .i64)), (.int .i64), fun k x => impl_PowP.f k x.1 x.2⟩
theorem impl_PowP.eq (k : Nat) (x : (impl_PowP.K.I).den) : func impl_PowP.x impl_PowP.h impl_PowP.ps impl_PowP.rs impl_PowP.vs impl_PowP.K.I impl_PowP.K.O impl_PowP.c k x = impl_PowP.K.run k x := by
  show _ = impl_PowP.f k x.1 x.2
  unfold impl_PowP.f
  rw [← impl_PowP.D0_eq k k]
  kernel_rfl
theorem impl_PowP.ok : CtrOk Try.prog 59 impl_PowP.K :=
  CtrOk.of (fn := Try.f59) (cd := impl_PowP.c) (cx := impl_PowP.x) (hs := impl_PowP.h) (by kernel_rfl) (by kernel_rfl) (by kernel_rfl) (by kernel_rfl) tt_ok (envOk_cons impl_within.ok (envOk_cons impl_inPrime.ok (envOk_nil))) (by kernel_rfl) (by kernel_rfl) (by kernel_rfl) (by kernel_rfl) fun k x r h => (impl_PowP.eq k x).trans h
/-! impl.InGroup -/
noncomputable def impl_InGroup.c : Code := bodyOf Try.f35
def impl_InGroup.h : Nat → Hint := look ⟨[], [], []⟩ []
def impl_InGroup.ps : List PK := [.one]
def impl_InGroup.rs : List RK := [.one true]
def impl_InGroup.vs : List ResultVar := [.tmp 2]
def impl_InGroup.x : Cx := ⟨tt, look none [(34, some impl_within.K), (59, some impl_PowP.K)]⟩
def impl_InGroup.f (k : Nat) (a0 : Int) : Option (Bool) :=
  (impl_within.f k a0 (2 : Int) (2147483578 : Int)).bind fun r1 => (bif r1 then (impl_PowP.f k a0 (1073741789 : Int)).bind fun r2 => some (r2 == (1 : Int)) else some false)
def impl_InGroup.K : Ctr := ⟨impl_InGroup.ps, impl_InGroup.rs, false, (.int .i64), .bool, fun k x => impl_InGroup.f k x⟩
theorem impl_InGroup.eq (k : Nat) (x : (impl_InGroup.K.I).den) : func impl_InGroup.x impl_InGroup.h impl_InGroup.ps impl_InGroup.rs impl_InGroup.vs impl_InGroup.K.I impl_InGroup.K.O impl_InGroup.c k x = impl_InGroup.K.run k x := by
  show _ = impl_InGroup.f k x
  kernel_rfl
theorem impl_InGroup.ok : CtrOk Try.prog 35 impl_InGroup.K :=
  CtrOk.of (fn := Try.f35) (cd := impl_InGroup.c) (cx := impl_InGroup.x) (hs := impl_InGroup.h) (by kernel_rfl) (by kernel_rfl) (by kernel_rfl) (by kernel_rfl) tt_ok (envOk_cons impl_within.ok (envOk_cons impl_PowP.ok (envOk_nil))) (by kernel_rfl) (by kernel_rfl) (by kernel_rfl) (by kernel_rfl) fun k x r h => (impl_InGroup.eq k x).trans h
/-! impl.greeted -/
noncomputable def impl_greeted.c : Code := bodyOf Try.f46
def impl_greeted.h : Nat → Hint := look ⟨[], [], []⟩ []
def impl_greeted.ps : List PK := [.one, .one]
def impl_greeted.rs : List RK := [.one true, .one true]
def impl_greeted.vs : List ResultVar := [.tmp 4, .tmp 5]
def impl_greeted.x : Cx := ⟨tt, look none [(28, some impl_byteText.K), (68, some impl_ReadNumber.K), (35, some impl_InGroup.K)]⟩
def impl_greeted.f (k : Nat) (a0 : ByteArray) (a1 : Int) : Option (Int × Bool) :=
  (bif ((a0.size : Int) != (6 : Int)) then some ((0 : Int), false) else (bif (true && (decide ((2 : Int) ≤ (a0.size : Int)))) then (impl_byteText.f k a1).bind fun r1 => (bif decide ((⟨#[104]⟩ : ByteArray).size + r1.size ≤ 140737488351232) then (bif (!((a0.extract 0 2).toList == ((⟨#[104]⟩ : ByteArray) ++ r1).toList)) then some ((0 : Int), false) else (bif (true && (decide ((2 : Int) ≤ (a0.size : Int)))) then (impl_ReadNumber.f k (a0.extract 2 a0.size)).bind fun r2 => (impl_InGroup.f k r2.1).bind fun r3 => some (r2.1, r3) else none)) else none) else none))
def impl_greeted.K : Ctr := ⟨impl_greeted.ps, impl_greeted.rs, false, (.two .str (.int .i64)), (.two (.int .i64) .bool), fun k x => impl_greeted.f k x.1 x.2⟩
theorem impl_greeted.eq (k : Nat) (x : (impl_greeted.K.I).den) : func impl_greeted.x impl_greeted.h impl_greeted.ps impl_greeted.rs impl_greeted.vs impl_greeted.K.I impl_greeted.K.O impl_greeted.c k x = impl_greeted.K.run k x := by
  show _ = impl_greeted.f k x.1 x.2
  kernel_rfl
theorem impl_greeted.ok : CtrOk Try.prog 46 impl_greeted.K :=
  CtrOk.of (fn := Try.f46) (cd := impl_greeted.c) (cx := impl_greeted.x) (hs := impl_greeted.h) (by kernel_rfl) (by kernel_rfl) (by kernel_rfl) (by kernel_rfl) tt_ok (envOk_cons impl_byteText.ok (envOk_cons impl_ReadNumber.ok (envOk_cons impl_InGroup.ok (envOk_nil)))) (by kernel_rfl) (by kernel_rfl) (by kernel_rfl) (by kernel_rfl) fun k x r h => (impl_greeted.eq k x).trans h
/-! impl.secretOk -/
noncomputable def impl_secretOk.c : Code := bodyOf Try.f58
def impl_secretOk.h : Nat → Hint := look ⟨[], [], []⟩ []
def impl_secretOk.ps : List PK := [.one]
def impl_secretOk.rs : List RK := [.one true]
def impl_secretOk.vs : List ResultVar := [.tmp 2]
def impl_secretOk.x : Cx := ⟨tt, look none [(34, some impl_within.K)]⟩
def impl_secretOk.f (k : Nat) (a0 : Int) : Option (Bool) :=
  (impl_within.f k a0 (1 : Int) (1073741788 : Int)).bind fun r1 => some r1
def impl_secretOk.K : Ctr := ⟨impl_secretOk.ps, impl_secretOk.rs, false, (.int .i64), .bool, fun k x => impl_secretOk.f k x⟩
theorem impl_secretOk.eq (k : Nat) (x : (impl_secretOk.K.I).den) : func impl_secretOk.x impl_secretOk.h impl_secretOk.ps impl_secretOk.rs impl_secretOk.vs impl_secretOk.K.I impl_secretOk.K.O impl_secretOk.c k x = impl_secretOk.K.run k x := by
  show _ = impl_secretOk.f k x
  kernel_rfl
theorem impl_secretOk.ok : CtrOk Try.prog 58 impl_secretOk.K :=
  CtrOk.of (fn := Try.f58) (cd := impl_secretOk.c) (cx := impl_secretOk.x) (hs := impl_secretOk.h) (by kernel_rfl) (by kernel_rfl) (by kernel_rfl) (by kernel_rfl) tt_ok (envOk_cons impl_within.ok (envOk_nil)) (by kernel_rfl) (by kernel_rfl) (by kernel_rfl) (by kernel_rfl) fun k x r h => (impl_secretOk.eq k x).trans h
/-! impl.SharedOf -/
noncomputable def impl_SharedOf.c : Code := bodyOf Try.f48
def impl_SharedOf.h : Nat → Hint := look ⟨[], [], []⟩ []
def impl_SharedOf.ps : List PK := [.one, .one]
def impl_SharedOf.rs : List RK := [.one true, .one true]
def impl_SharedOf.vs : List ResultVar := [.tmp 4, .tmp 5]
def impl_SharedOf.x : Cx := ⟨tt, look none [(35, some impl_InGroup.K), (58, some impl_secretOk.K), (59, some impl_PowP.K)]⟩
def impl_SharedOf.f (k : Nat) (a0 : Int) (a1 : Int) : Option (Int × Bool) :=
  (impl_InGroup.f k a1).bind fun r1 => (bif (!r1) then some ((0 : Int), false) else (impl_secretOk.f k a0).bind fun r2 => (bif (!r2) then some ((0 : Int), false) else (impl_PowP.f k a1 a0).bind fun r3 => some (r3, true)))
def impl_SharedOf.K : Ctr := ⟨impl_SharedOf.ps, impl_SharedOf.rs, false, (.two (.int .i64) (.int .i64)), (.two (.int .i64) .bool), fun k x => impl_SharedOf.f k x.1 x.2⟩
theorem impl_SharedOf.eq (k : Nat) (x : (impl_SharedOf.K.I).den) : func impl_SharedOf.x impl_SharedOf.h impl_SharedOf.ps impl_SharedOf.rs impl_SharedOf.vs impl_SharedOf.K.I impl_SharedOf.K.O impl_SharedOf.c k x = impl_SharedOf.K.run k x := by
  show _ = impl_SharedOf.f k x.1 x.2
  kernel_rfl
theorem impl_SharedOf.ok : CtrOk Try.prog 48 impl_SharedOf.K :=
  CtrOk.of (fn := Try.f48) (cd := impl_SharedOf.c) (cx := impl_SharedOf.x) (hs := impl_SharedOf.h) (by kernel_rfl) (by kernel_rfl) (by kernel_rfl) (by kernel_rfl) tt_ok (envOk_cons impl_InGroup.ok (envOk_cons impl_secretOk.ok (envOk_cons impl_PowP.ok (envOk_nil)))) (by kernel_rfl) (by kernel_rfl) (by kernel_rfl) (by kernel_rfl) fun k x r h => (impl_SharedOf.eq k x).trans h
/-! impl.NumberText -/
noncomputable def impl_NumberText.c : Code := bodyOf Try.f29
def impl_NumberText.h : Nat → Hint := look ⟨[], [], []⟩ []
def impl_NumberText.ps : List PK := [.one]
def impl_NumberText.rs : List RK := [.one true]
def impl_NumberText.vs : List ResultVar := [.tmp 2]
def impl_NumberText.x : Cx := ⟨tt, look none [(34, some impl_within.K)]⟩
def impl_NumberText.f (k : Nat) (a0 : Int) : Option (ByteArray) :=
  (impl_within.f k a0 (0 : Int) (4294967295 : Int)).bind fun r1 => (bif (!r1) then some ByteArray.empty else some (strOfNums [(IntKind.u8.wrap (IntKind.i64.wrap (((BitVec.ofInt IntKind.i64.bits (a0.fdiv (2 ^ 24))) &&& (BitVec.ofInt IntKind.i64.bits (255 : Int))).toNat : Int))), (IntKind.u8.wrap (IntKind.i64.wrap (((BitVec.ofInt IntKind.i64.bits (a0.fdiv (2 ^ 16))) &&& (BitVec.ofInt IntKind.i64.bits (255 : Int))).toNat : Int))), (IntKind.u8.wrap (IntKind.i64.wrap (((BitVec.ofInt IntKind.i64.bits (a0.fdiv (2 ^ 8))) &&& (BitVec.ofInt IntKind.i64.bits (255 : Int))).toNat : Int))), (IntKind.u8.wrap (IntKind.i64.wrap (((BitVec.ofInt IntKind.i64.bits a0) &&& (BitVec.ofInt IntKind.i64.bits (255 : Int))).toNat : Int)))]))
def impl_NumberText.K : Ctr := ⟨impl_NumberText.ps, impl_NumberText.rs, false, (.int .i64), .str, fun k x => impl_NumberText.f k x⟩
theorem impl_NumberText.eq (k : Nat) (x : (impl_NumberText.K.I).den) : func impl_NumberText.x impl_NumberText.h impl_NumberText.ps impl_NumberText.rs impl_NumberText.vs impl_NumberText.K.I impl_NumberText.K.O impl_NumberText.c k x = impl_NumberText.K.run k x := by
  show _ = impl_NumberText.f k x
  kernel_rfl
theorem impl_NumberText.ok : CtrOk Try.prog 29 impl_NumberText.K :=
  CtrOk.of (fn := Try.f29) (cd := impl_NumberText.c) (cx := impl_NumberText.x) (hs := impl_NumberText.h) (by kernel_rfl) (by kernel_rfl) (by kernel_rfl) (by kernel_rfl) tt_ok (envOk_cons impl_within.ok (envOk_nil)) (by kernel_rfl) (by kernel_rfl) (by kernel_rfl) (by kernel_rfl) fun k x r h => (impl_NumberText.eq k x).trans h
/-! impl.Transcript -/
noncomputable def impl_Transcript.c : Code := bodyOf Try.f41
def impl_Transcript.h : Nat → Hint := look ⟨[], [], []⟩ []
def impl_Transcript.ps : List PK := [.agg 7]
def impl_Transcript.rs : List RK := [.one true]
def impl_Transcript.vs : List ResultVar := [.tmp 2]
def impl_Transcript.x : Cx := ⟨tt, look none []⟩
def impl_Transcript.f (_k : Nat) (a0_0 : Int) (_a0_1 : Int) (_a0_2 : Int) (_a0_3 : Int) (_a0_4 : Int) (a0_5 : ByteArray) (a0_6 : ByteArray) : Option (ByteArray) :=
  (bif (a0_0 == (1 : Int)) then (bif decide (a0_5.size + a0_6.size ≤ 140737488351232) then some (a0_5 ++ a0_6) else none) else (bif decide (a0_6.size + a0_5.size ≤ 140737488351232) then some (a0_6 ++ a0_5) else none))
def impl_Transcript.K : Ctr := ⟨impl_Transcript.ps, impl_Transcript.rs, false, (.two (.int .i64) (.two (.int .i64) (.two (.int .i64) (.two (.int .i64) (.two (.int .i64) (.two .str .str)))))), .str, fun k x => impl_Transcript.f k x.1 x.2.1 x.2.2.1 x.2.2.2.1 x.2.2.2.2.1 x.2.2.2.2.2.1 x.2.2.2.2.2.2⟩
theorem impl_Transcript.eq (k : Nat) (x : (impl_Transcript.K.I).den) : func impl_Transcript.x impl_Transcript.h impl_Transcript.ps impl_Transcript.rs impl_Transcript.vs impl_Transcript.K.I impl_Transcript.K.O impl_Transcript.c k x = impl_Transcript.K.run k x := by
  show _ = impl_Transcript.f k x.1 x.2.1 x.2.2.1 x.2.2.2.1 x.2.2.2.2.1 x.2.2.2.2.2.1 x.2.2.2.2.2.2
  kernel_rfl
theorem impl_Transcript.ok : CtrOk Try.prog 41 impl_Transcript.K :=
  CtrOk.of (fn := Try.f41) (cd := impl_Transcript.c) (cx := impl_Transcript.x) (hs := impl_Transcript.h) (by kernel_rfl) (by kernel_rfl) (by kernel_rfl) (by kernel_rfl) tt_ok (envOk_nil) (by kernel_rfl) (by kernel_rfl) (by kernel_rfl) (by kernel_rfl) fun k x r h => (impl_Transcript.eq k x).trans h
/-! impl.wordsText -/
noncomputable def impl_wordsText.c : Code := bodyOf Try.f103
def impl_wordsText.h : Nat → Hint := look ⟨[], [], []⟩ [(0, ⟨[3, 6, 7, 8], [], []⟩)]
def impl_wordsText.ps : List PK := [.one]
def impl_wordsText.rs : List RK := [.one true]
def impl_wordsText.vs : List ResultVar := [.tmp 2]
def impl_wordsText.x : Cx := ⟨tt, look none [(29, some impl_NumberText.K)]⟩
def impl_wordsText.s0 (k : Nat) (rec0 : (ByteArray × Int × Int × (List (Int))) → Option (ByteArray)) (p : (ByteArray × Int × Int × (List (Int)))) : Option (ByteArray) :=
  (bif (decide (p.2.2.1 < p.2.1)) then (bif ((decide ((0 : Int) ≤ p.2.2.1)) && (decide (p.2.2.1 < (p.2.2.2.length : Int)))) then (p.2.2.2[p.2.2.1.toNat]?).bind fun x1 => (impl_NumberText.f k x1).bind fun r2 => (bif decide (p.1.size + r2.size ≤ 140737488351232) then rec0 ((p.1 ++ r2), p.2.1, (IntKind.i64.wrap (p.2.2.1 + (1 : Int))), p.2.2.2) else none) else none) else some p.1)
def impl_wordsText.l0 (k : Nat) : Nat → (ByteArray × Int × Int × (List (Int))) → Option (ByteArray)
  | 0 => fun _ => none
  | j + 1 => impl_wordsText.s0 k (impl_wordsText.l0 k j)
def impl_wordsText.S0 (p : (ByteArray × Int × Int × (List (Int)))) : DS := ⟨tl [(3, .at (.str p.1)), (6, .at (.whole 0)), (7, .at (.int .i64 p.2.1)), (8, .at (.int .i64 p.2.2.1))], lookO [(0, .row 3 (.int .i64) false p.2.2.2)]⟩
noncomputable def impl_wordsText.D0 (k : Nat) (j : Nat) (p : (ByteArray × Int × Int × (List (Int)))) : Option (ByteArray) := loopK (norm [0] (impl_wordsText.h 0)) (runK impl_wordsText.x k 0 [0] impl_wordsText.h 0 (sub impl_wordsText.c [1, 1, 0, 1, 0, 0])) j (impl_wordsText.S0 p) (kBlk 0 (kSeq (runK impl_wordsText.x k 0 [0] impl_wordsText.h 0 (sub impl_wordsText.c [1, 1, 1])) (fin tt impl_wordsText.ps impl_wordsText.rs impl_wordsText.vs .str)))
theorem impl_wordsText.D0_eq (k : Nat) : ∀ j, impl_wordsText.D0 k j = impl_wordsText.l0 k j := by
  intro j
  induction j with
  | zero => rfl
  | succ j ih =>
    show _ = impl_wordsText.s0 k (impl_wordsText.l0 k j)
    rw [← ih]
    funext p
    kernel_rfl
def impl_wordsText.f (k : Nat) (a0 : List (Int)) : Option (ByteArray) :=
  impl_wordsText.l0 k k (ByteArray.empty, (a0.length : Int), (0 : Int), a0)
def impl_wordsText.K : Ctr := ⟨impl_wordsText.ps, impl_wordsText.rs, false, (.sl 3 (.int .i64)), .str, fun k x => impl_wordsText.f k x⟩
theorem impl_wordsText.eq (k : Nat) (x : (impl_wordsText.K.I).den) : func impl_wordsText.x impl_wordsText.h impl_wordsText.ps impl_wordsText.rs impl_wordsText.vs impl_wordsText.K.I impl_wordsText.K.O impl_wordsText.c k x = impl_wordsText.K.run k x := by
  show _ = impl_wordsText.f k x
  unfold impl_wordsText.f
  rw [← impl_wordsText.D0_eq k k]
  kernel_rfl
theorem impl_wordsText.ok : CtrOk Try.prog 103 impl_wordsText.K :=
  CtrOk.of (fn := Try.f103) (cd := impl_wordsText.c) (cx := impl_wordsText.x) (hs := impl_wordsText.h) (by kernel_rfl) (by kernel_rfl) (by kernel_rfl) (by kernel_rfl) tt_ok (envOk_cons impl_NumberText.ok (envOk_nil)) (by kernel_rfl) (by kernel_rfl) (by kernel_rfl) (by kernel_rfl) fun k x r h => (impl_wordsText.eq k x).trans h
/-! impl.firstState -/
noncomputable def impl_firstState.c : Code := bodyOf Try.f92
def impl_firstState.h : Nat → Hint := look ⟨[], [], []⟩ []
def impl_firstState.ps : List PK := []
def impl_firstState.rs : List RK := [.one true]
def impl_firstState.vs : List ResultVar := [.tmp 0]
def impl_firstState.x : Cx := ⟨tt, look none [(103, some impl_wordsText.K)]⟩
def impl_firstState.f (k : Nat) : Option (ByteArray) :=
  (impl_wordsText.f k [(1779033703 : Int), (3144134277 : Int), (1013904242 : Int), (2773480762 : Int), (1359893119 : Int), (2600822924 : Int), (528734635 : Int), (1541459225 : Int)]).bind fun r1 => some r1
def impl_firstState.K : Ctr := ⟨impl_firstState.ps, impl_firstState.rs, false, .unit, .str, fun k _ => impl_firstState.f k⟩
theorem impl_firstState.eq (k : Nat) (x : (impl_firstState.K.I).den) : func impl_firstState.x impl_firstState.h impl_firstState.ps impl_firstState.rs impl_firstState.vs impl_firstState.K.I impl_firstState.K.O impl_firstState.c k x = impl_firstState.K.run k x := by
  show _ = impl_firstState.f k
  kernel_rfl
theorem impl_firstState.ok : CtrOk Try.prog 92 impl_firstState.K :=
  CtrOk.of (fn := Try.f92) (cd := impl_firstState.c) (cx := impl_firstState.x) (hs := impl_firstState.h) (by kernel_rfl) (by kernel_rfl) (by kernel_rfl) (by kernel_rfl) tt_ok (envOk_cons impl_wordsText.ok (envOk_nil)) (by kernel_rfl) (by kernel_rfl) (by kernel_rfl) (by kernel_rfl) fun k x r h => (impl_firstState.eq k x).trans h
/-! strings.Repeat -/
def strings_Repeat.f (_k : Nat) (a0 : ByteArray) (a1 : Int) : Option ByteArray := repRun a0 a1
def strings_Repeat.K : Ctr := repCtr
theorem strings_Repeat.ok : CtrOk Try.prog 82 strings_Repeat.K := rep82
/-! impl.padding -/
noncomputable def impl_padding.c : Code := bodyOf Try.f93
def impl_padding.h : Nat → Hint := look ⟨[], [], []⟩ []
def impl_padding.ps : List PK := [.one]
def impl_padding.rs : List RK := [.one true]
def impl_padding.vs : List ResultVar := [.tmp 2]
def impl_padding.x : Cx := ⟨tt, look none [(82, some strings_Repeat.K), (29, some impl_NumberText.K)]⟩
def impl_padding.f (k : Nat) (a0 : Int) : Option (ByteArray) :=
  (strings_Repeat.f k (⟨#[0]⟩ : ByteArray) ((IntKind.i64.wrap ((119 : Int) - (a0.tmod (64 : Int)))).tmod (64 : Int))).bind fun r1 => (bif decide ((⟨#[128]⟩ : ByteArray).size + r1.size ≤ 140737488351232) then (impl_NumberText.f k ((IntKind.i64.wrap ((8 : Int) * a0)).fdiv (2 ^ 32))).bind fun r2 => (bif decide (((⟨#[128]⟩ : ByteArray) ++ r1).size + r2.size ≤ 140737488351232) then (impl_NumberText.f k (IntKind.i64.wrap (((BitVec.ofInt IntKind.i64.bits (IntKind.i64.wrap ((8 : Int) * a0))) &&& (BitVec.ofInt IntKind.i64.bits (4294967295 : Int))).toNat : Int))).bind fun r3 => (bif decide ((((⟨#[128]⟩ : ByteArray) ++ r1) ++ r2).size + r3.size ≤ 140737488351232) then some ((((⟨#[128]⟩ : ByteArray) ++ r1) ++ r2) ++ r3) else none) else none) else none)
def impl_padding.K : Ctr := ⟨impl_padding.ps, impl_padding.rs, false, (.int .i64), .str, fun k x => impl_padding.f k x⟩
theorem impl_padding.eq (k : Nat) (x : (impl_padding.K.I).den) : func impl_padding.x impl_padding.h impl_padding.ps impl_padding.rs impl_padding.vs impl_padding.K.I impl_padding.K.O impl_padding.c k x = impl_padding.K.run k x := by
  show _ = impl_padding.f k x
  kernel_rfl
theorem impl_padding.ok : CtrOk Try.prog 93 impl_padding.K :=
  CtrOk.of (fn := Try.f93) (cd := impl_padding.c) (cx := impl_padding.x) (hs := impl_padding.h) (by kernel_rfl) (by kernel_rfl) (by kernel_rfl) (by kernel_rfl) tt_ok (envOk_cons strings_Repeat.ok (envOk_cons impl_NumberText.ok (envOk_nil))) (by kernel_rfl) (by kernel_rfl) (by kernel_rfl) (by kernel_rfl) fun k x r h => (impl_padding.eq k x).trans h
/-! impl.constants -/
noncomputable def impl_constants.c : Code := bodyOf Try.f110
def impl_constants.h : Nat → Hint := look ⟨[], [], []⟩ []
def impl_constants.ps : List PK := []
def impl_constants.rs : List RK := [.agg 64 true]
def impl_constants.vs : List ResultVar := [.cell 0 124]
def impl_constants.x : Cx := ⟨tt, look none []⟩
def impl_constants.f (_k : Nat) : Option (Int × Int × Int × Int × Int × Int × Int × Int × Int × Int × Int × Int × Int × Int × Int × Int × Int × Int × Int × Int × Int × Int × Int × Int × Int × Int × Int × Int × Int × Int × Int × Int × Int × Int × Int × Int × Int × Int × Int × Int × Int × Int × Int × Int × Int × Int × Int × Int × Int × Int × Int × Int × Int × Int × Int × Int × Int × Int × Int × Int × Int × Int × Int × Int) :=
  some ((1116352408 : Int), (1899447441 : Int), (3049323471 : Int), (3921009573 : Int), (961987163 : Int), (1508970993 : Int), (2453635748 : Int), (2870763221 : Int), (3624381080 : Int), (310598401 : Int), (607225278 : Int), (1426881987 : Int), (1925078388 : Int), (2162078206 : Int), (2614888103 : Int), (3248222580 : Int), (3835390401 : Int), (4022224774 : Int), (264347078 : Int), (604807628 : Int), (770255983 : Int), (1249150122 : Int), (1555081692 : Int), (1996064986 : Int), (2554220882 : Int), (2821834349 : Int), (2952996808 : Int), (3210313671 : Int), (3336571891 : Int), (3584528711 : Int), (113926993 : Int), (338241895 : Int), (666307205 : Int), (773529912 : Int), (1294757372 : Int), (1396182291 : Int), (1695183700 : Int), (1986661051 : Int), (2177026350 : Int), (2456956037 : Int), (2730485921 : Int), (2820302411 : Int), (3259730800 : Int), (3345764771 : Int), (3516065817 : Int), (3600352804 : Int), (4094571909 : Int), (275423344 : Int), (430227734 : Int), (506948616 : Int), (659060556 : Int), (883997877 : Int), (958139571 : Int), (1322822218 : Int), (1537002063 : Int), (1747873779 : Int), (1955562222 : Int), (2024104815 : Int), (2227730452 : Int), (2361852424 : Int), (2428436474 : Int), (2756734187 : Int), (3204031479 : Int), (3329325298 : Int))
def impl_constants.K : Ctr := ⟨impl_constants.ps, impl_constants.rs, false, .unit, (.two (.int .i64) (.two (.int .i64) (.two (.int .i64) (.two (.int .i64) (.two (.int .i64) (.two (.int .i64) (.two (.int .i64) (.two (.int .i64) (.two (.int .i64) (.two (.int .i64) (.two (.int .i64) (.two (.int .i64) (.two (.int .i64) (.two (.int .i64) (.two (.int .i64) (.two (.int .i64) (.two (.int .i64) (.two (.int .i64) (.two (.int .i64) (.two (.int .i64) (.two (.int .i64) (.two (.int .i64) (.two (.int .i64) (.two (.int .i64) (.two (.int .i64) (.two (.int .i64) (.two (.int .i64) (.two (.int .i64) (.two (.int .i64) (.two (.int .i64) (.two (.int .i64) (.two (.int .i64) (.two (.int .i64) (.two (.int .i64) (.two (.int .i64) (.two (.int .i64) (.two (.int .i64) (.two (.int .i64) (.two (.int .i64) (.two (.int .i64) (.two (.int .i64) (.two (.int .i64) (.two (.int .i64) (.two (.int .i64) (.two (.int .i64) (.two (.int .i64) (.two (.int .i64) (.two (.int .i64) (.two (.int .i64) (.two (.int .i64) (.two (.int .i64) (.two (.int .i64) (.two (.int .i64) (.two (.int .i64) (.two (.int .i64) (.two (.int .i64) (.two (.int .i64) (.two (.int .i64) (.two (.int .i64) (.two (.int .i64) (.two (.int .i64) (.two (.int .i64) (.two (.int .i64) (.int .i64)))))))))))))))))))))))))))))))))))))))))))))))))))))))))))))))), fun k _ => impl_constants.f k⟩
theorem impl_constants.eq (k : Nat) (x : (impl_constants.K.I).den) : func impl_constants.x impl_constants.h impl_constants.ps impl_constants.rs impl_constants.vs impl_constants.K.I impl_constants.K.O impl_constants.c k x = impl_constants.K.run k x := by
  show _ = impl_constants.f k
  kernel_rfl
theorem impl_constants.ok : CtrOk Try.prog 110 impl_constants.K :=
  CtrOk.of (fn := Try.f110) (cd := impl_constants.c) (cx := impl_constants.x) (hs := impl_constants.h) (by kernel_rfl) (by kernel_rfl) (by kernel_rfl) (by kernel_rfl) tt_ok (envOk_nil) (by kernel_rfl) (by kernel_rfl) (by kernel_rfl) (by kernel_rfl) fun k x r h => (impl_constants.eq k x).trans h
end Go.Proofs.Ytpinehfjimphmaa.DI
