/- FnExactGreeterNew: functions as plain Lean, in the machine of values. -/
import Derived.Test.YtpinehfjimphmaaVFnExactGreeterNew2
namespace Go.Proofs.Ytpinehfjimphmaa.DI
open Go
set_option linter.unusedVariables false
/-! spec.GreeterNew -/
noncomputable def spec_GreeterNew.c : Code := bodyOf Try.f14
def spec_GreeterNew.h : Nat → Hint := look ⟨[], [], []⟩ []
def spec_GreeterNew.ps : List PK := [.one, .one, .one, .one]
def spec_GreeterNew.rs : List RK := [.agg 7 true, .one true]
def spec_GreeterNew.vs : List ResultVar := [.cell 8 25, .tmp 9]
def spec_GreeterNew.x : Cx := ⟨tt, look none [(31, some spec_l01In.K), (32, some spec_InGroup.K), (33, some spec_SecretOf.K)]⟩
def spec_GreeterNew.f (k : Nat) (a0 : Int) (a1 : ByteArray) (a2 : ByteArray) (a3 : Int) : Option (Int × Int × Int × Int × Int × ByteArray × ByteArray × Bool) :=
  (spec_l01In.f k a0 (1 : Int) (2 : Int)).bind fun r1 => (bif (!r1) then some ((0 : Int), (0 : Int), (0 : Int), (0 : Int), (0 : Int), ByteArray.empty, ByteArray.empty, false) else (spec_InGroup.f k a3).bind fun r2 => (bif (!r2) then some ((0 : Int), (0 : Int), (0 : Int), (0 : Int), (0 : Int), ByteArray.empty, ByteArray.empty, false) else (spec_SecretOf.f k a1).bind fun r3 => (spec_SecretOf.f k a2).bind fun r4 => some (a0, r3, a3, r4, (0 : Int), ByteArray.empty, ByteArray.empty, true)))
def spec_GreeterNew.K : Ctr := ⟨spec_GreeterNew.ps, spec_GreeterNew.rs, false, (.two (.int .i64) (.two .str (.two .str (.int .i64)))), (.two (.int .i64) (.two (.int .i64) (.two (.int .i64) (.two (.int .i64) (.two (.int .i64) (.two .str (.two .str .bool))))))), fun k x => spec_GreeterNew.f k x.1 x.2.1 x.2.2.1 x.2.2.2⟩
theorem spec_GreeterNew.eq (k : Nat) (x : (spec_GreeterNew.K.I).den) : func spec_GreeterNew.x spec_GreeterNew.h spec_GreeterNew.ps spec_GreeterNew.rs spec_GreeterNew.vs spec_GreeterNew.K.I spec_GreeterNew.K.O spec_GreeterNew.c k x = spec_GreeterNew.K.run k x := by
  show _ = spec_GreeterNew.f k x.1 x.2.1 x.2.2.1 x.2.2.2
  kernel_rfl
theorem spec_GreeterNew.ok : CtrOk Try.prog 14 spec_GreeterNew.K :=
  CtrOk.of (fn := Try.f14) (cd := spec_GreeterNew.c) (cx := spec_GreeterNew.x) (hs := spec_GreeterNew.h) (by kernel_rfl) (by kernel_rfl) (by kernel_rfl) (by kernel_rfl) tt_ok (envOk_cons spec_l01In.ok (envOk_cons spec_InGroup.ok (envOk_cons spec_SecretOf.ok (envOk_nil)))) (by kernel_rfl) (by kernel_rfl) (by kernel_rfl) (by kernel_rfl) fun k x r h => (spec_GreeterNew.eq k x).trans h
/-! impl.within -/
noncomputable def impl_within.c : Code := bodyOf Try.f34
def impl_within.h : Nat → Hint := look ⟨[], [], []⟩ []
def impl_within.ps : List PK := [.one, .one, .one]
def impl_within.rs : List RK := [.one true]
def impl_within.vs : List ResultVar := [.tmp 6]
def impl_within.x : Cx := ⟨tt, look none []⟩
def impl_within.f (_k : Nat) (a0 : Int) (a1 : Int) (a2 : Int) : Option (Bool) :=
  (bif (decide (a0 ≥ a1)) then some (decide (a0 ≤ a2)) else some false)
def impl_within.K : Ctr := ⟨impl_within.ps, impl_within.rs, false, (.two (.int .i64) (.two (.int .i64) (.int .i64))), .bool, fun k x => impl_within.f k x.1 x.2.1 x.2.2⟩
theorem impl_within.eq (k : Nat) (x : (impl_within.K.I).den) : func impl_within.x impl_within.h impl_within.ps impl_within.rs impl_within.vs impl_within.K.I impl_within.K.O impl_within.c k x = impl_within.K.run k x := by
  show _ = impl_within.f k x.1 x.2.1 x.2.2
  kernel_rfl
theorem impl_within.ok : CtrOk Try.prog 34 impl_within.K :=
  CtrOk.of (fn := Try.f34) (cd := impl_within.c) (cx := impl_within.x) (hs := impl_within.h) (by kernel_rfl) (by kernel_rfl) (by kernel_rfl) (by kernel_rfl) tt_ok (envOk_nil) (by kernel_rfl) (by kernel_rfl) (by kernel_rfl) (by kernel_rfl) fun k x r h => (impl_within.eq k x).trans h
/-! impl.inPrime -/
noncomputable def impl_inPrime.c : Code := bodyOf Try.f76
def impl_inPrime.h : Nat → Hint := look ⟨[], [], []⟩ []
def impl_inPrime.ps : List PK := [.one]
def impl_inPrime.rs : List RK := [.one true]
def impl_inPrime.vs : List ResultVar := [.tmp 2]
def impl_inPrime.x : Cx := ⟨tt, look none []⟩
def impl_inPrime.f (_k : Nat) (a0 : Int) : Option (Int) :=
  some ((IntKind.i64.wrap ((a0.tmod (2147483579 : Int)) + (2147483579 : Int))).tmod (2147483579 : Int))
def impl_inPrime.K : Ctr := ⟨impl_inPrime.ps, impl_inPrime.rs, false, (.int .i64), (.int .i64), fun k x => impl_inPrime.f k x⟩
theorem impl_inPrime.eq (k : Nat) (x : (impl_inPrime.K.I).den) : func impl_inPrime.x impl_inPrime.h impl_inPrime.ps impl_inPrime.rs impl_inPrime.vs impl_inPrime.K.I impl_inPrime.K.O impl_inPrime.c k x = impl_inPrime.K.run k x := by
  show _ = impl_inPrime.f k x
  kernel_rfl
theorem impl_inPrime.ok : CtrOk Try.prog 76 impl_inPrime.K :=
  CtrOk.of (fn := Try.f76) (cd := impl_inPrime.c) (cx := impl_inPrime.x) (hs := impl_inPrime.h) (by kernel_rfl) (by kernel_rfl) (by kernel_rfl) (by kernel_rfl) tt_ok (envOk_nil) (by kernel_rfl) (by kernel_rfl) (by kernel_rfl) (by kernel_rfl) fun k x r h => (impl_inPrime.eq k x).trans h
/-! impl.PowP -/
noncomputable def impl_PowP.c : Code := bodyOf Try.f59
def impl_PowP.h : Nat → Hint := look ⟨[], [], []⟩ [(0, ⟨[1, 5, 6], [], []⟩)]
def impl_PowP.ps : List PK := [.one, .one]
def impl_PowP.rs : List RK := [.one true]
def impl_PowP.vs : List ResultVar := [.tmp 4]
def impl_PowP.x : Cx := ⟨tt, look none [(34, some impl_within.K), (76, some impl_inPrime.K)]⟩
def impl_PowP.s0 (_k : Nat) (rec0 : (Int × Int × Int) → Option (Int)) (p : (Int × Int × Int)) : Option (Int) :=
  (bif (decide (p.1 > (0 : Int))) then (bif ((p.1.tmod (2 : Int)) == (1 : Int)) then rec0 ((IntKind.i64.wrap (p.1.tdiv (2 : Int))), ((IntKind.i64.wrap (p.2.1 * p.2.2)).tmod (2147483579 : Int)), ((IntKind.i64.wrap (p.2.2 * p.2.2)).tmod (2147483579 : Int))) else rec0 ((IntKind.i64.wrap (p.1.tdiv (2 : Int))), p.2.1, ((IntKind.i64.wrap (p.2.2 * p.2.2)).tmod (2147483579 : Int)))) else some p.2.1)
def impl_PowP.l0 (k : Nat) : Nat → (Int × Int × Int) → Option (Int)
  | 0 => fun _ => none
  | j + 1 => impl_PowP.s0 k (impl_PowP.l0 k j)
def impl_PowP.S0 (p : (Int × Int × Int)) : DS := ⟨tl [(1, .at (.int .i64 p.1)), (5, .at (.int .i64 p.2.1)), (6, .at (.int .i64 p.2.2))], lookO []⟩
noncomputable def impl_PowP.D0 (k : Nat) (j : Nat) (p : (Int × Int × Int)) : Option (Int) := loopK (norm [] (impl_PowP.h 0)) (runK impl_PowP.x k 0 [] impl_PowP.h 0 (sub impl_PowP.c [1, 1, 1, 0, 0, 0])) j (impl_PowP.S0 p) (kBlk 0 (kSeq (runK impl_PowP.x k 0 [] impl_PowP.h 0 (sub impl_PowP.c [1, 1, 1, 1])) (fin tt impl_PowP.ps impl_PowP.rs impl_PowP.vs (.int .i64))))
theorem impl_PowP.D0_eq (k : Nat) : ∀ j, impl_PowP.D0 k j = impl_PowP.l0 k j := by
  intro j
  induction j with
  | zero => rfl
  | succ j ih =>
    show _ = impl_PowP.s0 k (impl_PowP.l0 k j)
    rw [← ih]
    funext p
    kernel_rfl
def impl_PowP.f (k : Nat) (a0 : Int) (a1 : Int) : Option (Int) :=
  (impl_within.f k a1 (0 : Int) (2147483579 : Int)).bind fun r1 => (bif (!r1) then some (0 : Int) else (impl_inPrime.f k a0).bind fun r2 => impl_PowP.l0 k k (a1, (1 : Int), r2))
def impl_PowP.K : Ctr := ⟨impl_PowP.ps, impl_PowP.rs, false, (.two (.int .i64) (.int .i64)), (.int .i64), fun k x => impl_PowP.f k x.1 x.2⟩
theorem impl_PowP.eq (k : Nat) (x : (impl_PowP.K.I).den) : func impl_PowP.x impl_PowP.h impl_PowP.ps impl_PowP.rs impl_PowP.vs impl_PowP.K.I impl_PowP.K.O impl_PowP.c k x = impl_PowP.K.run k x := by
  show _ = impl_PowP.f k x.1 x.2
  unfold impl_PowP.f
  rw [← impl_PowP.D0_eq k k]
  kernel_rfl
theorem impl_PowP.ok : CtrOk Try.prog 59 impl_PowP.K :=
  CtrOk.of (fn := Try.f59) (cd := impl_PowP.c) (cx := impl_PowP.x) (hs := impl_PowP.h) (by kernel_rfl) (by kernel_rfl) (by kernel_rfl) (by kernel_rfl) tt_ok (envOk_cons impl_within.ok (envOk_cons impl_inPrime.ok (envOk_nil))) (by kernel_rfl) (by kernel_rfl) (by kernel_rfl) (by kernel_rfl) fun k x r h => (impl_PowP.eq k x).trans h
/-! impl.InGroup -/
noncomputable def impl_InGroup.c : Code := bodyOf Try.f35
def impl_InGroup.h : Nat → Hint := look ⟨[], [], []⟩ []
def impl_InGroup.ps : List PK := [.one]
def impl_InGroup.rs : List RK := [.one true]
def impl_InGroup.vs : List ResultVar := [.tmp 2]
def impl_InGroup.x : Cx := ⟨tt, look none [(34, some impl_within.K), (59, some impl_PowP.K)]⟩
def impl_InGroup.f (k : Nat) (a0 : Int) : Option (Bool) :=
  (impl_within.f k a0 (2 : Int) (2147483578 : Int)).bind fun r1 => (bif r1 then (impl_PowP.f k a0 (1073741789 : Int)).bind fun r2 => some (r2 == (1 : Int)) else some false)
def impl_InGroup.K : Ctr := ⟨impl_InGroup.ps, impl_InGroup.rs, false, (.int .i64), .bool, fun k x => impl_InGroup.f k x⟩
theorem impl_InGroup.eq (k : Nat) (x : (impl_InGroup.K.I).den) : func impl_InGroup.x impl_InGroup.h impl_InGroup.ps impl_InGroup.rs impl_InGroup.vs impl_InGroup.K.I impl_InGroup.K.O impl_InGroup.c k x = impl_InGroup.K.run k x := by
  show _ = impl_InGroup.f k x
  kernel_rfl
theorem impl_InGroup.ok : CtrOk Try.prog 35 impl_InGroup.K :=
  CtrOk.of (fn := Try.f35) (cd := impl_InGroup.c) (cx := impl_InGroup.x) (hs := impl_InGroup.h) (by kernel_rfl) (by kernel_rfl) (by kernel_rfl) (by kernel_rfl) tt_ok (envOk_cons impl_within.ok (envOk_cons impl_PowP.ok (envOk_nil))) (by kernel_rfl) (by kernel_rfl) (by kernel_rfl) (by kernel_rfl) fun k x r h => (impl_InGroup.eq k x).trans h
/-! impl.NumberText -/
noncomputable def impl_NumberText.c : Code := bodyOf Try.f29
def impl_NumberText.h : Nat → Hint := look ⟨[], [], []⟩ []
def impl_NumberText.ps : List PK := [.one]
def impl_NumberText.rs : List RK := [.one true]
def impl_NumberText.vs : List ResultVar := [.tmp 2]
def impl_NumberText.x : Cx := ⟨tt, look none [(34, some impl_within.K)]⟩
def impl_NumberText.f (k : Nat) (a0 : Int) : Option (ByteArray) :=
  (impl_within.f k a0 (0 : Int) (4294967295 : Int)).bind fun r1 => (bif (!r1) then some ByteArray.empty else some (strOfNums [(IntKind.u8.wrap (IntKind.i64.wrap (((BitVec.ofInt IntKind.i64.bits (a0.fdiv (2 ^ 24))) &&& (BitVec.ofInt IntKind.i64.bits (255 : Int))).toNat : Int))), (IntKind.u8.wrap (IntKind.i64.wrap (((BitVec.ofInt IntKind.i64.bits (a0.fdiv (2 ^ 16))) &&& (BitVec.ofInt IntKind.i64.bits (255 : Int))).toNat : Int))), (IntKind.u8.wrap (IntKind.i64.wrap (((BitVec.ofInt IntKind.i64.bits (a0.fdiv (2 ^ 8))) &&& (BitVec.ofInt IntKind.i64.bits (255 : Int))).toNat : Int))), (IntKind.u8.wrap (IntKind.i64.wrap (((BitVec.ofInt IntKind.i64.bits a0) &&& (BitVec.ofInt IntKind.i64.bits (255 : Int))).toNat : Int)))]))
def impl_NumberText.K : Ctr := ⟨impl_NumberText.ps, impl_NumberText.rs, false, (.int .i64), .str, fun k x => impl_NumberText.f k x⟩
theorem impl_NumberText.eq (k : Nat) (x : (impl_NumberText.K.I).den) : func impl_NumberText.x impl_NumberText.h impl_NumberText.ps impl_NumberText.rs impl_NumberText.vs impl_NumberText.K.I impl_NumberText.K.O impl_NumberText.c k x = impl_NumberText.K.run k x := by
  show _ = impl_NumberText.f k x
  kernel_rfl
theorem impl_NumberText.ok : CtrOk Try.prog 29 impl_NumberText.K :=
  CtrOk.of (fn := Try.f29) (cd := impl_NumberText.c) (cx := impl_NumberText.x) (hs := impl_NumberText.h) (by kernel_rfl) (by kernel_rfl) (by kernel_rfl) (by kernel_rfl) tt_ok (envOk_cons impl_within.ok (envOk_nil)) (by kernel_rfl) (by kernel_rfl) (by kernel_rfl) (by kernel_rfl) fun k x r h => (impl_NumberText.eq k x).trans h
/-! impl.wordsText -/
noncomputable def impl_wordsText.c : Code := bodyOf Try.f103
def impl_wordsText.h : Nat → Hint := look ⟨[], [], []⟩ [(0, ⟨[3, 6, 7, 8], [], []⟩)]
def impl_wordsText.ps : List PK := [.one]
def impl_wordsText.rs : List RK := [.one true]
def impl_wordsText.vs : List ResultVar := [.tmp 2]
def impl_wordsText.x : Cx := ⟨tt, look none [(29, some impl_NumberText.K)]⟩
def impl_wordsText.s0 (k : Nat) (rec0 : (ByteArray × Int × Int × (List (Int))) → Option (ByteArray)) (p : (ByteArray × Int × Int × (List (Int)))) : Option (ByteArray) :=
  (bif (decide (p.2.2.1 < p.2.1)) then (bif ((decide ((0 : Int) ≤ p.2.2.1)) && (decide (p.2.2.1 < (p.2.2.2.length : Int)))) then (p.2.2.2[p.2.2.1.toNat]?).bind fun x1 => (impl_NumberText.f k x1).bind fun r2 => (bif decide (p.1.size + r2.size ≤ 140737488351232) then rec0 ((p.1 ++ r2), p.2.1, (IntKind.i64.wrap (p.2.2.1 + (1 : Int))), p.2.2.2) else none) else none) else some p.1)
def impl_wordsText.l0 (k : Nat) : Nat → (ByteArray × Int × Int × (List (Int))) → Option (ByteArray)
  | 0 => fun _ => none
  | j + 1 => impl_wordsText.s0 k (impl_wordsText.l0 k j)
def impl_wordsText.S0 (p : (ByteArray × Int × Int × (List (Int)))) : DS := ⟨tl [(3, .at (.str p.1)), (6, .at (.whole 0)), (7, .at (.int .i64 p.2.1)), (8, .at (.int .i64 p.2.2.1))], lookO [(0, .row 3 (.int .i64) false p.2.2.2)]⟩
noncomputable def impl_wordsText.D0 (k : Nat) (j : Nat) (p : (ByteArray × Int × Int × (List (Int)))) : Option (ByteArray) := loopK (norm [0] (impl_wordsText.h 0)) (runK impl_wordsText.x k 0 [0] impl_wordsText.h 0 (sub impl_wordsText.c [1, 1, 0, 1, 0, 0])) j (impl_wordsText.S0 p) (kBlk 0 (kSeq (runK impl_wordsText.x k 0 [0] impl_wordsText.h 0 (sub impl_wordsText.c [1, 1, 1])) (fin tt impl_wordsText.ps impl_wordsText.rs impl_wordsText.vs .str)))
theorem impl_wordsText.D0_eq (k : Nat) : ∀ j, impl_wordsText.D0 k j = impl_wordsText.l0 k j := by
  intro j
  induction j with
  | zero => rfl
  | succ j ih =>
    show _ = impl_wordsText.s0 k (impl_wordsText.l0 k j)
    rw [← ih]
    funext p
    kernel_rfl
def impl_wordsText.f (k : Nat) (a0 : List (Int)) : Option (ByteArray) :=
  impl_wordsText.l0 k k (ByteArray.empty, (a0.length : Int), (0 : Int), a0)
def impl_wordsText.K : Ctr := ⟨impl_wordsText.ps, impl_wordsText.rs, false, (.sl 3 (.int .i64)), .str, fun k x => impl_wordsText.f k x⟩
theorem impl_wordsText.eq (k : Nat) (x : (impl_wordsText.K.I).den) : func impl_wordsText.x impl_wordsText.h impl_wordsText.ps impl_wordsText.rs impl_wordsText.vs impl_wordsText.K.I impl_wordsText.K.O impl_wordsText.c k x = impl_wordsText.K.run k x := by
  show _ = impl_wordsText.f k x
  unfold impl_wordsText.f
  rw [← impl_wordsText.D0_eq k k]
  kernel_rfl
theorem impl_wordsText.ok : CtrOk Try.prog 103 impl_wordsText.K :=
  CtrOk.of (fn := Try.f103) (cd := impl_wordsText.c) (cx := impl_wordsText.x) (hs := impl_wordsText.h) (by kernel_rfl) (by kernel_rfl) (by kernel_rfl) (by kernel_rfl) tt_ok (envOk_cons impl_NumberText.ok (envOk_nil)) (by kernel_rfl) (by kernel_rfl) (by kernel_rfl) (by kernel_rfl) fun k x r h => (impl_wordsText.eq k x).trans h
/-! impl.firstState -/
noncomputable def impl_firstState.c : Code := bodyOf Try.f92
def impl_firstState.h : Nat → Hint := look ⟨[], [], []⟩ []
def impl_firstState.ps : List PK := []
def impl_firstState.rs : List RK := [.one true]
def impl_firstState.vs : List ResultVar := [.tmp 0]
def impl_firstState.x : Cx := ⟨tt, look none [(103, some impl_wordsText.K)]⟩
def impl_firstState.f (k : Nat) : Option (ByteArray) :=
  (impl_wordsText.f k [(1779033703 : Int), (3144134277 : Int), (1013904242 : Int), (2773480762 : Int), (1359893119 : Int), (2600822924 : Int), (528734635 : Int), (1541459225 : Int)]).bind fun r1 => some r1
def impl_firstState.K : Ctr := ⟨impl_firstState.ps, impl_firstState.rs, false, .unit, .str, fun k _ => impl_firstState.f k⟩
theorem impl_firstState.eq (k : Nat) (x : (impl_firstState.K.I).den) : func impl_firstState.x impl_firstState.h impl_firstState.ps impl_firstState.rs impl_firstState.vs impl_firstState.K.I impl_firstState.K.O impl_firstState.c k x = impl_firstState.K.run k x := by
  show _ = impl_firstState.f k
  kernel_rfl
theorem impl_firstState.ok : CtrOk Try.prog 92 impl_firstState.K :=
  CtrOk.of (fn := Try.f92) (cd := impl_firstState.c) (cx := impl_firstState.x) (hs := impl_firstState.h) (by kernel_rfl) (by kernel_rfl) (by kernel_rfl) (by kernel_rfl) tt_ok (envOk_cons impl_wordsText.ok (envOk_nil)) (by kernel_rfl) (by kernel_rfl) (by kernel_rfl) (by kernel_rfl) fun k x r h => (impl_firstState.eq k x).trans h
/-! strings.Repeat -/
def strings_Repeat.f (_k : Nat) (a0 : ByteArray) (a1 : Int) : Option ByteArray := repRun a0 a1
def strings_Repeat.K : Ctr := repCtr
theorem strings_Repeat.ok : CtrOk Try.prog 82 strings_Repeat.K := rep82
/-! impl.padding -/
noncomputable def impl_padding.c : Code := bodyOf Try.f93
def impl_padding.h : Nat → Hint := look ⟨[], [], []⟩ []
def impl_padding.ps : List PK := [.one]
def impl_padding.rs : List RK := [.one true]
def impl_padding.vs : List ResultVar := [.tmp 2]
def impl_padding.x : Cx := ⟨tt, look none [(82, some strings_Repeat.K), (29, some impl_NumberText.K)]⟩
def impl_padding.f (k : Nat) (a0 : Int) : Option (ByteArray) :=
  (strings_Repeat.f k (⟨#[0]⟩ : ByteArray) ((IntKind.i64.wrap ((119 : Int) - (a0.tmod (64 : Int)))).tmod (64 : Int))).bind fun r1 => (bif decide ((⟨#[128]⟩ : ByteArray).size + r1.size ≤ 140737488351232) then (impl_NumberText.f k ((IntKind.i64.wrap ((8 : Int) * a0)).fdiv (2 ^ 32))).bind fun r2 => (bif decide (((⟨#[128]⟩ : ByteArray) ++ r1).size + r2.size ≤ 140737488351232) then (impl_NumberText.f k (IntKind.i64.wrap (((BitVec.ofInt IntKind.i64.bits (IntKind.i64.wrap ((8 : Int) * a0))) &&& (BitVec.ofInt IntKind.i64.bits (4294967295 : Int))).toNat : Int))).bind fun r3 => (bif decide ((((⟨#[128]⟩ : ByteArray) ++ r1) ++ r2).size + r3.size ≤ 140737488351232) then some ((((⟨#[128]⟩ : ByteArray) ++ r1) ++ r2) ++ r3) else none) else none) else none)
def impl_padding.K : Ctr := ⟨impl_padding.ps, impl_padding.rs, false, (.int .i64), .str, fun k x => impl_padding.f k x⟩
theorem impl_padding.eq (k : Nat) (x : (impl_padding.K.I).den) : func impl_padding.x impl_padding.h impl_padding.ps impl_padding.rs impl_padding.vs impl_padding.K.I impl_padding.K.O impl_padding.c k x = impl_padding.K.run k x := by
  show _ = impl_padding.f k x
  kernel_rfl
theorem impl_padding.ok : CtrOk Try.prog 93 impl_padding.K :=
  CtrOk.of (fn := Try.f93) (cd := impl_padding.c) (cx := impl_padding.x) (hs := impl_padding.h) (by kernel_rfl) (by kernel_rfl) (by kernel_rfl) (by kernel_rfl) tt_ok (envOk_cons strings_Repeat.ok (envOk_cons impl_NumberText.ok (envOk_nil))) (by kernel_rfl) (by kernel_rfl) (by kernel_rfl) (by kernel_rfl) fun k x r h => (impl_padding.eq k x).trans h
/-! impl.constants -/
noncomputable def impl_constants.c : Code := bodyOf Try.f110
def impl_constants.h : Nat → Hint := look ⟨[], [], []⟩ []
def impl_constants.ps : List PK := []
def impl_constants.rs : List RK := [.agg 64 true]
def impl_constants.vs : List ResultVar := [.cell 0 124]
def impl_constants.x : Cx := ⟨tt, look none []⟩
def impl_constants.f (_k : Nat) : Option (Int × Int × Int × Int × Int × Int × Int × Int × Int × Int × Int × Int × Int × Int × Int × Int × Int × Int × Int × Int × Int × Int × Int × Int × Int × Int × Int × Int × Int × Int × Int × Int × Int × Int × Int × Int × Int × Int × Int × Int × Int × Int × Int × Int × Int × Int × Int × Int × Int × Int × Int × Int × Int × Int × Int × Int × Int × Int × Int × Int × Int × Int × Int × Int) :=
  some ((1116352408 : Int), (1899447441 : Int), (3049323471 : Int), (3921009573 : Int), (961987163 : Int), (1508970993 : Int), (2453635748 : Int), (2870763221 : Int), (3624381080 : Int), (310598401 : Int), (607225278 : Int), (1426881987 : Int), (1925078388 : Int), (2162078206 : Int), (2614888103 : Int), (3248222580 : Int), (3835390401 : Int), (4022224774 : Int), (264347078 : Int), (604807628 : Int), (770255983 : Int), (1249150122 : Int), (1555081692 : Int), (1996064986 : Int), (2554220882 : Int), (2821834349 : Int), (2952996808 : Int), (3210313671 : Int), (3336571891 : Int), (3584528711 : Int), (113926993 : Int), (338241895 : Int), (666307205 : Int), (773529912 : Int), (1294757372 : Int), (1396182291 : Int), (1695183700 : Int), (1986661051 : Int), (2177026350 : Int), (2456956037 : Int), (2730485921 : Int), (2820302411 : Int), (3259730800 : Int), (3345764771 : Int), (3516065817 : Int), (3600352804 : Int), (4094571909 : Int), (275423344 : Int), (430227734 : Int), (506948616 : Int), (659060556 : Int), (883997877 : Int), (958139571 : Int), (1322822218 : Int), (1537002063 : Int), (1747873779 : Int), (1955562222 : Int), (2024104815 : Int), (2227730452 : Int), (2361852424 : Int), (2428436474 : Int), (2756734187 : Int), (3204031479 : Int), (3329325298 : Int))
def impl_constants.K : Ctr := ⟨impl_constants.ps, impl_constants.rs, false, .unit, (.two (.int .i64) (.two (.int .i64) (.two (.int .i64) (.two (.int .i64) (.two (.int .i64) (.two (.int .i64) (.two (.int .i64) (.two (.int .i64) (.two (.int .i64) (.two (.int .i64) (.two (.int .i64) (.two (.int .i64) (.two (.int .i64) (.two (.int .i64) (.two (.int .i64) (.two (.int .i64) (.two (.int .i64) (.two (.int .i64) (.two (.int .i64) (.two (.int .i64) (.two (.int .i64) (.two (.int .i64) (.two (.int .i64) (.two (.int .i64) (.two (.int .i64) (.two (.int .i64) (.two (.int .i64) (.two (.int .i64) (.two (.int .i64) (.two (.int .i64) (.two (.int .i64) (.two (.int .i64) (.two (.int .i64) (.two (.int .i64) (.two (.int .i64) (.two (.int .i64) (.two (.int .i64) (.two (.int .i64) (.two (.int .i64) (.two (.int .i64) (.two (.int .i64) (.two (.int .i64) (.two (.int .i64) (.two (.int .i64) (.two (.int .i64) (.two (.int .i64) (.two (.int .i64) (.two (.int .i64) (.two (.int .i64) (.two (.int .i64) (.two (.int .i64) (.two (.int .i64) (.two (.int .i64) (.two (.int .i64) (.two (.int .i64) (.two (.int .i64) (.two (.int .i64) (.two (.int .i64) (.two (.int .i64) (.two (.int .i64) (.two (.int .i64) (.two (.int .i64) (.two (.int .i64) (.int .i64)))))))))))))))))))))))))))))))))))))))))))))))))))))))))))))))), fun k _ => impl_constants.f k⟩
theorem impl_constants.eq (k : Nat) (x : (impl_constants.K.I).den) : func impl_constants.x impl_constants.h impl_constants.ps impl_constants.rs impl_constants.vs impl_constants.K.I impl_constants.K.O impl_constants.c k x = impl_constants.K.run k x := by
  show _ = impl_constants.f k
  kernel_rfl
theorem impl_constants.ok : CtrOk Try.prog 110 impl_constants.K :=
  CtrOk.of (fn := Try.f110) (cd := impl_constants.c) (cx := impl_constants.x) (hs := impl_constants.h) (by kernel_rfl) (by kernel_rfl) (by kernel_rfl) (by kernel_rfl) tt_ok (envOk_nil) (by kernel_rfl) (by kernel_rfl) (by kernel_rfl) (by kernel_rfl) fun k x r h => (impl_constants.eq k x).trans h
/-! impl.ReadNumber -/
noncomputable def impl_ReadNumber.c : Code := bodyOf Try.f68
def impl_ReadNumber.h : Nat → Hint := look ⟨[], [], []⟩ []
def impl_ReadNumber.ps : List PK := [.one]
def impl_ReadNumber.rs : List RK := [.one true, .one true]
def impl_ReadNumber.vs : List ResultVar := [.tmp 2, .tmp 3]
def impl_ReadNumber.x : Cx := ⟨tt, look none []⟩
def impl_ReadNumber.f (_k : Nat) (a0 : ByteArray) : Option (Int × Bool) :=
  (bif ((a0.size : Int) != (4 : Int)) then some ((0 : Int), false) else (a0[0]?).bind fun c1 => (a0[1]?).bind fun c2 => (a0[2]?).bind fun c3 => (a0[3]?).bind fun c4 => some ((IntKind.i64.wrap (((BitVec.ofInt IntKind.i64.bits (IntKind.i64.wrap (((BitVec.ofInt IntKind.i64.bits (IntKind.i64.wrap (((BitVec.ofInt IntKind.i64.bits (IntKind.i64.wrap ((IntKind.i64.wrap (c1.toNat : Int)) * 2 ^ 24))) ||| (BitVec.ofInt IntKind.i64.bits (IntKind.i64.wrap ((IntKind.i64.wrap (c2.toNat : Int)) * 2 ^ 16)))).toNat : Int))) ||| (BitVec.ofInt IntKind.i64.bits (IntKind.i64.wrap ((IntKind.i64.wrap (c3.toNat : Int)) * 2 ^ 8)))).toNat : Int))) ||| (BitVec.ofInt IntKind.i64.bits (IntKind.i64.wrap (c4.toNat : Int)))).toNat : Int)), true))
def impl_ReadNumber.K : Ctr := ⟨impl_ReadNumber.ps, impl_ReadNumber.rs, false, .str, (.two (.int .i64) .bool), fun k x => impl_ReadNumber.f k x⟩
theorem impl_ReadNumber.eq (k : Nat) (x : (impl_ReadNumber.K.I).den) : func impl_ReadNumber.x impl_ReadNumber.h impl_ReadNumber.ps impl_ReadNumber.rs impl_ReadNumber.vs impl_ReadNumber.K.I impl_ReadNumber.K.O impl_ReadNumber.c k x = impl_ReadNumber.K.run k x := by
  show _ = impl_ReadNumber.f k x
  kernel_rfl
theorem impl_ReadNumber.ok : CtrOk Try.prog 68 impl_ReadNumber.K :=
  CtrOk.of (fn := Try.f68) (cd := impl_ReadNumber.c) (cx := impl_ReadNumber.x) (hs := impl_ReadNumber.h) (by kernel_rfl) (by kernel_rfl) (by kernel_rfl) (by kernel_rfl) tt_ok (envOk_nil) (by kernel_rfl) (by kernel_rfl) (by kernel_rfl) (by kernel_rfl) fun k x r h => (impl_ReadNumber.eq k x).trans h
/-! impl.wordsOf -/
noncomputable def impl_wordsOf.c : Code := bodyOf Try.f112
def impl_wordsOf.h : Nat → Hint := look ⟨[], [], []⟩ [(0, ⟨[0, 3, 4], [], [(.t 3, 464, 3, (.int .i64))]⟩)]
def impl_wordsOf.ps : List PK := [.one]
def impl_wordsOf.rs : List RK := [.one true]
def impl_wordsOf.vs : List ResultVar := [.tmp 2]
def impl_wordsOf.x : Cx := ⟨tt, look none [(68, some impl_ReadNumber.K)]⟩
def impl_wordsOf.s0 (k : Nat) (rec0 : (ByteArray × Int × (List (Int))) → Option ((List (Int)))) (p : (ByteArray × Int × (List (Int)))) : Option ((List (Int))) :=
  (bif (decide ((IntKind.i64.wrap (p.2.1 + (4 : Int))) ≤ (p.1.size : Int))) then (bif ((decide ((0 : Int) ≤ p.2.1)) && ((decide (p.2.1 ≤ (IntKind.i64.wrap (p.2.1 + (4 : Int))))) && (decide ((IntKind.i64.wrap (p.2.1 + (4 : Int))) ≤ (p.1.size : Int))))) then (impl_ReadNumber.f k (p.1.extract p.2.1.toNat (IntKind.i64.wrap (p.2.1 + (4 : Int))).toNat)).bind fun r1 => (bif decide ((p.2.2.length + [r1.1].length) * 8 ≤ 140737488355328) then rec0 (p.1, (IntKind.i64.wrap (p.2.1 + (4 : Int))), (p.2.2 ++ [r1.1])) else none) else none) else some p.2.2)
def impl_wordsOf.l0 (k : Nat) : Nat → (ByteArray × Int × (List (Int))) → Option ((List (Int)))
  | 0 => fun _ => none
  | j + 1 => impl_wordsOf.s0 k (impl_wordsOf.l0 k j)
def impl_wordsOf.S0 (p : (ByteArray × Int × (List (Int)))) : DS := ⟨tl [(0, .at (.str p.1)), (3, .at (.whole 464)), (4, .at (.int .i64 p.2.1))], lookO [(464, .row 3 (.int .i64) true p.2.2)]⟩
noncomputable def impl_wordsOf.D0 (k : Nat) (j : Nat) (p : (ByteArray × Int × (List (Int)))) : Option ((List (Int))) := loopK (norm [] (impl_wordsOf.h 0)) (runK impl_wordsOf.x k 0 [] impl_wordsOf.h 0 (sub impl_wordsOf.c [1, 1, 0, 1, 0, 0])) j (impl_wordsOf.S0 p) (kBlk 0 (kSeq (runK impl_wordsOf.x k 0 [] impl_wordsOf.h 0 (sub impl_wordsOf.c [1, 1, 1])) (fin tt impl_wordsOf.ps impl_wordsOf.rs impl_wordsOf.vs (.sl 3 (.int .i64)))))
theorem impl_wordsOf.D0_eq (k : Nat) : ∀ j, impl_wordsOf.D0 k j = impl_wordsOf.l0 k j := by
  intro j
  induction j with
  | zero => rfl
  | succ j ih =>
    show _ = impl_wordsOf.s0 k (impl_wordsOf.l0 k j)
    rw [← ih]
    funext p
    kernel_rfl
def impl_wordsOf.f (k : Nat) (a0 : ByteArray) : Option ((List (Int))) :=
  impl_wordsOf.l0 k k (a0, (0 : Int), ([] : List (Int)))
def impl_wordsOf.K : Ctr := ⟨impl_wordsOf.ps, impl_wordsOf.rs, false, .str, (.sl 3 (.int .i64)), fun k x => impl_wordsOf.f k x⟩
theorem impl_wordsOf.eq (k : Nat) (x : (impl_wordsOf.K.I).den) : func impl_wordsOf.x impl_wordsOf.h impl_wordsOf.ps impl_wordsOf.rs impl_wordsOf.vs impl_wordsOf.K.I impl_wordsOf.K.O impl_wordsOf.c k x = impl_wordsOf.K.run k x := by
  show _ = impl_wordsOf.f k x
  unfold impl_wordsOf.f
  rw [← impl_wordsOf.D0_eq k k]
  kernel_rfl
theorem impl_wordsOf.ok : CtrOk Try.prog 112 impl_wordsOf.K :=
  CtrOk.of (fn := Try.f112) (cd := impl_wordsOf.c) (cx := impl_wordsOf.x) (hs := impl_wordsOf.h) (by kernel_rfl) (by kernel_rfl) (by kernel_rfl) (by kernel_rfl) tt_ok (envOk_cons impl_ReadNumber.ok (envOk_nil)) (by kernel_rfl) (by kernel_rfl) (by kernel_rfl) (by kernel_rfl) fun k x r h => (impl_wordsOf.eq k x).trans h
/-! impl.turnRight -/
noncomputable def impl_turnRight.c : Code := bodyOf Try.f113
def impl_turnRight.h : Nat → Hint := look ⟨[], [], []⟩ []
def impl_turnRight.ps : List PK := [.one, .one]
def impl_turnRight.rs : List RK := [.one true]
def impl_turnRight.vs : List ResultVar := [.tmp 4]
def impl_turnRight.x : Cx := ⟨tt, look none []⟩
def impl_turnRight.f (_k : Nat) (a0 : Int) (a1 : Int) : Option (Int) :=
  (bif (decide (a1 < (0 : Int))) then none else (bif (decide ((IntKind.i64.wrap ((32 : Int) - a1)) < (0 : Int))) then none else some (IntKind.i64.wrap (((BitVec.ofInt IntKind.i64.bits (IntKind.i64.wrap (((BitVec.ofInt IntKind.i64.bits (a0.fdiv (2 ^ (min a1.toNat IntKind.i64.bits)))) ||| (BitVec.ofInt IntKind.i64.bits (IntKind.i64.wrap (a0 * 2 ^ (min (IntKind.i64.wrap ((32 : Int) - a1)).toNat IntKind.i64.bits))))).toNat : Int))) &&& (BitVec.ofInt IntKind.i64.bits (4294967295 : Int))).toNat : Int))))
def impl_turnRight.K : Ctr := ⟨impl_turnRight.ps, impl_turnRight.rs, false, (.two (.int .i64) (.int .i64)), (.int .i64), fun k x => impl_turnRight.f k x.1 x.2⟩
theorem impl_turnRight.eq (k : Nat) (x : (impl_turnRight.K.I).den) : func impl_turnRight.x impl_turnRight.h impl_turnRight.ps impl_turnRight.rs impl_turnRight.vs impl_turnRight.K.I impl_turnRight.K.O impl_turnRight.c k x = impl_turnRight.K.run k x := by
  show _ = impl_turnRight.f k x.1 x.2
  kernel_rfl
theorem impl_turnRight.ok : CtrOk Try.prog 113 impl_turnRight.K :=
  CtrOk.of (fn := Try.f113) (cd := impl_turnRight.c) (cx := impl_turnRight.x) (hs := impl_turnRight.h) (by kernel_rfl) (by kernel_rfl) (by kernel_rfl) (by kernel_rfl) tt_ok (envOk_nil) (by kernel_rfl) (by kernel_rfl) (by kernel_rfl) (by kernel_rfl) fun k x r h => (impl_turnRight.eq k x).trans h
/-! impl.expanded -/
noncomputable def impl_expanded.c : Code := bodyOf Try.f111
def impl_expanded.h : Nat → Hint := look ⟨[], [], []⟩ [(0, ⟨[3, 4], [], [(.t 3, 976, 3, (.int .i64))]⟩)]
def impl_expanded.ps : List PK := [.one]
def impl_expanded.rs : List RK := [.one true]
def impl_expanded.vs : List ResultVar := [.tmp 2]
def impl_expanded.x : Cx := ⟨tt, look none [(112, some impl_wordsOf.K), (113, some impl_turnRight.K)]⟩
def impl_expanded.s0 (k : Nat) (rec0 : (Int × (List (Int))) → Option ((List (Int)))) (p : (Int × (List (Int)))) : Option ((List (Int))) :=
  (bif (decide (p.1 < (64 : Int))) then (bif ((decide ((0 : Int) ≤ (IntKind.i64.wrap (p.1 - (15 : Int))))) && (decide ((IntKind.i64.wrap (p.1 - (15 : Int))) < (p.2.length : Int)))) then (p.2[(IntKind.i64.wrap (p.1 - (15 : Int))).toNat]?).bind fun x2 => (bif ((decide ((0 : Int) ≤ (IntKind.i64.wrap (p.1 - (2 : Int))))) && (decide ((IntKind.i64.wrap (p.1 - (2 : Int))) < (p.2.length : Int)))) then (p.2[(IntKind.i64.wrap (p.1 - (2 : Int))).toNat]?).bind fun x3 => (impl_turnRight.f k x2 (7 : Int)).bind fun r4 => (impl_turnRight.f k x2 (18 : Int)).bind fun r5 => (impl_turnRight.f k x3 (17 : Int)).bind fun r6 => (impl_turnRight.f k x3 (19 : Int)).bind fun r7 => (bif ((decide ((0 : Int) ≤ (IntKind.i64.wrap (p.1 - (7 : Int))))) && (decide ((IntKind.i64.wrap (p.1 - (7 : Int))) < (p.2.length : Int)))) then (p.2[(IntKind.i64.wrap (p.1 - (7 : Int))).toNat]?).bind fun x8 => (bif ((decide ((0 : Int) ≤ (IntKind.i64.wrap (p.1 - (16 : Int))))) && (decide ((IntKind.i64.wrap (p.1 - (16 : Int))) < (p.2.length : Int)))) then (p.2[(IntKind.i64.wrap (p.1 - (16 : Int))).toNat]?).bind fun x9 => (bif decide ((p.2.length + [(IntKind.i64.wrap (((BitVec.ofInt IntKind.i64.bits (IntKind.i64.wrap ((IntKind.i64.wrap ((IntKind.i64.wrap ((IntKind.i64.wrap (((BitVec.ofInt IntKind.i64.bits (IntKind.i64.wrap (((BitVec.ofInt IntKind.i64.bits r6) ^^^ (BitVec.ofInt IntKind.i64.bits r7)).toNat : Int))) ^^^ (BitVec.ofInt IntKind.i64.bits (x3.fdiv (2 ^ 10)))).toNat : Int)) + x8)) + (IntKind.i64.wrap (((BitVec.ofInt IntKind.i64.bits (IntKind.i64.wrap (((BitVec.ofInt IntKind.i64.bits r4) ^^^ (BitVec.ofInt IntKind.i64.bits r5)).toNat : Int))) ^^^ (BitVec.ofInt IntKind.i64.bits (x2.fdiv (2 ^ 3)))).toNat : Int)))) + x9))) &&& (BitVec.ofInt IntKind.i64.bits (4294967295 : Int))).toNat : Int))].length) * 8 ≤ 140737488355328) then rec0 ((IntKind.i64.wrap (p.1 + (1 : Int))), (p.2 ++ [(IntKind.i64.wrap (((BitVec.ofInt IntKind.i64.bits (IntKind.i64.wrap ((IntKind.i64.wrap ((IntKind.i64.wrap ((IntKind.i64.wrap (((BitVec.ofInt IntKind.i64.bits (IntKind.i64.wrap (((BitVec.ofInt IntKind.i64.bits r6) ^^^ (BitVec.ofInt IntKind.i64.bits r7)).toNat : Int))) ^^^ (BitVec.ofInt IntKind.i64.bits (x3.fdiv (2 ^ 10)))).toNat : Int)) + x8)) + (IntKind.i64.wrap (((BitVec.ofInt IntKind.i64.bits (IntKind.i64.wrap (((BitVec.ofInt IntKind.i64.bits r4) ^^^ (BitVec.ofInt IntKind.i64.bits r5)).toNat : Int))) ^^^ (BitVec.ofInt IntKind.i64.bits (x2.fdiv (2 ^ 3)))).toNat : Int)))) + x9))) &&& (BitVec.ofInt IntKind.i64.bits (4294967295 : Int))).toNat : Int))])) else none) else none) else none) else none) else none) else some p.2)
def impl_expanded.l0 (k : Nat) : Nat → (Int × (List (Int))) → Option ((List (Int)))
  | 0 => fun _ => none
  | j + 1 => impl_expanded.s0 k (impl_expanded.l0 k j)
def impl_expanded.S0 (p : (Int × (List (Int)))) : DS := ⟨tl [(3, .at (.whole 976)), (4, .at (.int .i64 p.1))], lookO [(976, .row 3 (.int .i64) true p.2)]⟩
noncomputable def impl_expanded.D0 (k : Nat) (j : Nat) (p : (Int × (List (Int)))) : Option ((List (Int))) := loopK (norm [] (impl_expanded.h 0)) (runK impl_expanded.x k 0 [] impl_expanded.h 0 (sub impl_expanded.c [1, 1, 0, 1, 0, 0])) j (impl_expanded.S0 p) (kBlk 0 (kSeq (runK impl_expanded.x k 0 [] impl_expanded.h 0 (sub impl_expanded.c [1, 1, 1])) (fin tt impl_expanded.ps impl_expanded.rs impl_expanded.vs (.sl 3 (.int .i64)))))
theorem impl_expanded.D0_eq (k : Nat) : ∀ j, impl_expanded.D0 k j = impl_expanded.l0 k j := by
  intro j
  induction j with
  | zero => rfl
  | succ j ih =>
    show _ = impl_expanded.s0 k (impl_expanded.l0 k j)
    rw [← ih]
    funext p
    kernel_rfl
def impl_expanded.f (k : Nat) (a0 : ByteArray) : Option ((List (Int))) :=
  (impl_wordsOf.f k a0).bind fun r1 => impl_expanded.l0 k k ((16 : Int), r1)
def impl_expanded.K : Ctr := ⟨impl_expanded.ps, impl_expanded.rs, false, .str, (.sl 3 (.int .i64)), fun k x => impl_expanded.f k x⟩
theorem impl_expanded.eq (k : Nat) (x : (impl_expanded.K.I).den) : func impl_expanded.x impl_expanded.h impl_expanded.ps impl_expanded.rs impl_expanded.vs impl_expanded.K.I impl_expanded.K.O impl_expanded.c k x = impl_expanded.K.run k x := by
  show _ = impl_expanded.f k x
  unfold impl_expanded.f
  rw [← impl_expanded.D0_eq k k]
  kernel_rfl
theorem impl_expanded.ok : CtrOk Try.prog 111 impl_expanded.K :=
  CtrOk.of (fn := Try.f111) (cd := impl_expanded.c) (cx := impl_expanded.x) (hs := impl_expanded.h) (by kernel_rfl) (by kernel_rfl) (by kernel_rfl) (by kernel_rfl) tt_ok (envOk_cons impl_wordsOf.ok (envOk_cons impl_turnRight.ok (envOk_nil))) (by kernel_rfl) (by kernel_rfl) (by kernel_rfl) (by kernel_rfl) fun k x r h => (impl_expanded.eq k x).trans h
end Go.Proofs.Ytpinehfjimphmaa.DI
