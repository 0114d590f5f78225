/- FnEnds: functions as plain Lean, in the machine of values. -/
import Derived.Test.YtpheniajdbbphaaVFnEnds1
namespace Go.Proofs.Ytpheniajdbbphaa.DI
open Go
set_option linter.unusedVariables false
/-! spec.Push -/
noncomputable def spec_Push.c : Code := bodyOf Try.f25
def spec_Push.h : Nat → Hint := look ⟨[], [], []⟩ []
def spec_Push.ps : List PK := [.agg 9, .one]
def spec_Push.rs : List RK := [.agg 9 true, .one true]
def spec_Push.vs : List ResultVar := [.cell 4 36, .tmp 5]
def spec_Push.x : Cx := ⟨tt, look none [(75, some spec_l13Copy.K), (22, some spec_ChanOk.K)]⟩
def spec_Push.f (k : Nat) (a0_0 : Int) (a0_1 : Int) (a0_2 : Int) (a0_3 : List (ByteArray)) (a0_4 : List (Int × ByteArray × Int × Int)) (a0_5 : Int) (a0_6 : List (Int × ByteArray)) (a0_7 : List (Int)) (a0_8 : List (ByteArray)) (a1 : ByteArray) : Option (Int × Int × Int × (List (ByteArray)) × (List (Int × ByteArray × Int × Int)) × Int × (List (Int × ByteArray)) × (List (Int)) × (List (ByteArray)) × Bool) :=
  (spec_l13Copy.f k a0_0 a0_1 a0_2 a0_3 a0_4 a0_5 a0_6 a0_7 a0_8).bind fun r1 => (spec_ChanOk.f k a0_0 a0_1 a0_2 a0_3 a0_4 a0_5 a0_6 a0_7 a0_8).bind fun r2 => (bif (!r2) then some (r1.1, r1.2.1, r1.2.2.1, r1.2.2.2.1, r1.2.2.2.2.1, r1.2.2.2.2.2.1, r1.2.2.2.2.2.2.1, r1.2.2.2.2.2.2.2.1, r1.2.2.2.2.2.2.2.2, false) else (bif (decide ((a1.size : Int) > (120 : Int))) then some (r1.1, r1.2.1, r1.2.2.1, r1.2.2.2.1, r1.2.2.2.2.1, r1.2.2.2.2.2.1, r1.2.2.2.2.2.2.1, r1.2.2.2.2.2.2.2.1, r1.2.2.2.2.2.2.2.2, false) else (bif (decide ((a0_3.length : Int) ≥ (30 : Int))) then some (r1.1, r1.2.1, r1.2.2.1, r1.2.2.2.1, r1.2.2.2.2.1, r1.2.2.2.2.2.1, r1.2.2.2.2.2.2.1, r1.2.2.2.2.2.2.2.1, r1.2.2.2.2.2.2.2.2, false) else (bif (decide ((IntKind.i64.wrap (a0_2 + (a0_3.length : Int))) ≥ (1000 : Int))) then some (r1.1, r1.2.1, r1.2.2.1, r1.2.2.2.1, r1.2.2.2.2.1, r1.2.2.2.2.2.1, r1.2.2.2.2.2.2.1, r1.2.2.2.2.2.2.2.1, r1.2.2.2.2.2.2.2.2, false) else (bif decide ((r1.2.2.2.1.length + [a1].length) * 16 ≤ 140737488355328) then some (r1.1, r1.2.1, r1.2.2.1, (r1.2.2.2.1 ++ [a1]), r1.2.2.2.2.1, r1.2.2.2.2.2.1, r1.2.2.2.2.2.2.1, r1.2.2.2.2.2.2.2.1, r1.2.2.2.2.2.2.2.2, true) else none)))))
def spec_Push.K : Ctr := ⟨spec_Push.ps, spec_Push.rs, false, (.two (.int .i64) (.two (.int .i64) (.two (.int .i64) (.two (.sl 9 .str) (.two (.sl 92 (.two (.int .i64) (.two .str (.two (.int .i64) (.int .i64))))) (.two (.int .i64) (.two (.sl 87 (.two (.int .i64) .str)) (.two (.sl 3 (.int .i64)) (.two (.sl 9 .str) .str))))))))), (.two (.int .i64) (.two (.int .i64) (.two (.int .i64) (.two (.sl 9 .str) (.two (.sl 92 (.two (.int .i64) (.two .str (.two (.int .i64) (.int .i64))))) (.two (.int .i64) (.two (.sl 87 (.two (.int .i64) .str)) (.two (.sl 3 (.int .i64)) (.two (.sl 9 .str) .bool))))))))), fun k x => spec_Push.f k x.1 x.2.1 x.2.2.1 x.2.2.2.1 x.2.2.2.2.1 x.2.2.2.2.2.1 x.2.2.2.2.2.2.1 x.2.2.2.2.2.2.2.1 x.2.2.2.2.2.2.2.2.1 x.2.2.2.2.2.2.2.2.2⟩
theorem spec_Push.eq (k : Nat) (x : (spec_Push.K.I).den) : func spec_Push.x spec_Push.h spec_Push.ps spec_Push.rs spec_Push.vs spec_Push.K.I spec_Push.K.O spec_Push.c k x = spec_Push.K.run k x := by
  show _ = spec_Push.f k x.1 x.2.1 x.2.2.1 x.2.2.2.1 x.2.2.2.2.1 x.2.2.2.2.2.1 x.2.2.2.2.2.2.1 x.2.2.2.2.2.2.2.1 x.2.2.2.2.2.2.2.2.1 x.2.2.2.2.2.2.2.2.2
  kernel_rfl
theorem spec_Push.ok : CtrOk Try.prog 25 spec_Push.K :=
  CtrOk.of (fn := Try.f25) (cd := spec_Push.c) (cx := spec_Push.x) (hs := spec_Push.h) (by kernel_rfl) (by kernel_rfl) (by kernel_rfl) (by kernel_rfl) tt_ok (envOk_cons spec_l13Copy.ok (envOk_cons spec_ChanOk.ok (envOk_nil))) (by kernel_rfl) (by kernel_rfl) (by kernel_rfl) (by kernel_rfl) fun k x r h => (spec_Push.eq k x).trans h
/-! spec.l13Power -/
noncomputable def spec_l13Power.c : Code := bodyOf Try.f77
def spec_l13Power.h : Nat → Hint := look ⟨[], [], []⟩ [(0, ⟨[0, 3, 4], [], []⟩)]
def spec_l13Power.ps : List PK := [.one]
def spec_l13Power.rs : List RK := [.one true]
def spec_l13Power.vs : List ResultVar := [.tmp 2]
def spec_l13Power.x : Cx := ⟨tt, look none []⟩
def spec_l13Power.s0 (_k : Nat) (rec0 : (Int × Int × Int) → Option (Int)) (p : (Int × Int × Int)) : Option (Int) :=
  (bif (decide (p.2.2 < p.1)) then rec0 (p.1, (IntKind.i64.wrap ((2 : Int) * p.2.1)), (IntKind.i64.wrap (p.2.2 + (1 : Int)))) else some p.2.1)
def spec_l13Power.l0 (k : Nat) : Nat → (Int × Int × Int) → Option (Int)
  | 0 => fun _ => none
  | j + 1 => spec_l13Power.s0 k (spec_l13Power.l0 k j)
def spec_l13Power.S0 (p : (Int × Int × Int)) : DS := ⟨tl [(0, .at (.int .i64 p.1)), (3, .at (.int .i64 p.2.1)), (4, .at (.int .i64 p.2.2))], lookO []⟩
noncomputable def spec_l13Power.D0 (k : Nat) (j : Nat) (p : (Int × Int × Int)) : Option (Int) := loopK (norm [] (spec_l13Power.h 0)) (runK spec_l13Power.x k 0 [] spec_l13Power.h 0 (sub spec_l13Power.c [1, 1, 0, 1, 0, 0])) j (spec_l13Power.S0 p) (kBlk 0 (kSeq (runK spec_l13Power.x k 0 [] spec_l13Power.h 0 (sub spec_l13Power.c [1, 1, 1])) (fin tt spec_l13Power.ps spec_l13Power.rs spec_l13Power.vs (.int .i64))))
theorem spec_l13Power.D0_eq (k : Nat) : ∀ j, spec_l13Power.D0 k j = spec_l13Power.l0 k j := by
  intro j
  induction j with
  | zero => rfl
  | succ j ih =>
    show _ = spec_l13Power.s0 k (spec_l13Power.l0 k j)
    rw [← ih]
    funext p
    kernel_rfl
def spec_l13Power.f (k : Nat) (a0 : Int) : Option (Int) :=
  spec_l13Power.l0 k k (a0, (1 : Int), (0 : Int))
def spec_l13Power.K : Ctr := ⟨spec_l13Power.ps, spec_l13Power.rs, false, (.int .i64), (.int .i64), fun k x => spec_l13Power.f k x⟩
theorem spec_l13Power.eq (k : Nat) (x : (spec_l13Power.K.I).den) : func spec_l13Power.x spec_l13Power.h spec_l13Power.ps spec_l13Power.rs spec_l13Power.vs spec_l13Power.K.I spec_l13Power.K.O spec_l13Power.c k x = spec_l13Power.K.run k x := by
  show _ = spec_l13Power.f k x
  unfold spec_l13Power.f
  rw [← spec_l13Power.D0_eq k k]
  kernel_rfl
theorem spec_l13Power.ok : CtrOk Try.prog 77 spec_l13Power.K :=
  CtrOk.of (fn := Try.f77) (cd := spec_l13Power.c) (cx := spec_l13Power.x) (hs := spec_l13Power.h) (by kernel_rfl) (by kernel_rfl) (by kernel_rfl) (by kernel_rfl) tt_ok (envOk_nil) (by kernel_rfl) (by kernel_rfl) (by kernel_rfl) (by kernel_rfl) fun k x r h => (spec_l13Power.eq k x).trans h
end Go.Proofs.Ytpheniajdbbphaa.DI
