/- FnGrants: functions as plain Lean, in the machine of values. -/
import Derived.Test.YtfaeklomiofpdaaVFnGrants3
namespace Go.Proofs.Ytfaeklomiofpdaa.DI
open Go
set_option linter.unusedVariables false
/-! impl.copyPool -/
noncomputable def impl_copyPool.c : Code := bodyOf Try.f79
def impl_copyPool.h : Nat → Hint := look ⟨[], [], []⟩ []
def impl_copyPool.ps : List PK := [.agg 4]
def impl_copyPool.rs : List RK := [.agg 4 true]
def impl_copyPool.vs : List ResultVar := [.cell 2 50]
def impl_copyPool.x : Cx := ⟨tt, look none []⟩
def impl_copyPool.f (_k : Nat) (a0_0 : Int) (a0_1 : Int) (a0_2 : List (Int × Int × Int)) (a0_3 : List (Int × Int)) : Option (Int × Int × (List (Int × Int × Int)) × (List (Int × Int))) :=
  (bif decide ((([] : List (Int × Int × Int)).length + a0_2.length) * 24 ≤ 140737488355328) then (bif decide ((([] : List (Int × Int)).length + a0_3.length) * 16 ≤ 140737488355328) then some (a0_0, a0_1, (([] : List (Int × Int × Int)) ++ a0_2), (([] : List (Int × Int)) ++ a0_3)) else none) else none)
def impl_copyPool.K : Ctr := ⟨impl_copyPool.ps, impl_copyPool.rs, false, (.two (.int .i64) (.two (.int .i64) (.two (.sl 63 (.two (.int .i64) (.two (.int .i64) (.int .i64)))) (.sl 150 (.two (.int .i64) (.int .i64)))))), (.two (.int .i64) (.two (.int .i64) (.two (.sl 63 (.two (.int .i64) (.two (.int .i64) (.int .i64)))) (.sl 150 (.two (.int .i64) (.int .i64)))))), fun k x => impl_copyPool.f k x.1 x.2.1 x.2.2.1 x.2.2.2⟩
theorem impl_copyPool.eq (k : Nat) (x : (impl_copyPool.K.I).den) : func impl_copyPool.x impl_copyPool.h impl_copyPool.ps impl_copyPool.rs impl_copyPool.vs impl_copyPool.K.I impl_copyPool.K.O impl_copyPool.c k x = impl_copyPool.K.run k x := by
  show _ = impl_copyPool.f k x.1 x.2.1 x.2.2.1 x.2.2.2
  kernel_rfl
theorem impl_copyPool.ok : CtrOk Try.prog 79 impl_copyPool.K :=
  CtrOk.of (fn := Try.f79) (cd := impl_copyPool.c) (cx := impl_copyPool.x) (hs := impl_copyPool.h) (by kernel_rfl) (by kernel_rfl) (by kernel_rfl) (by kernel_rfl) tt_ok (envOk_nil) (by kernel_rfl) (by kernel_rfl) (by kernel_rfl) (by kernel_rfl) fun k x r h => (impl_copyPool.eq k x).trans h
/-! impl.within -/
noncomputable def impl_within.c : Code := bodyOf Try.f89
def impl_within.h : Nat → Hint := look ⟨[], [], []⟩ []
def impl_within.ps : List PK := [.one, .one, .one]
def impl_within.rs : List RK := [.one true]
def impl_within.vs : List ResultVar := [.tmp 6]
def impl_within.x : Cx := ⟨tt, look none []⟩
def impl_within.f (_k : Nat) (a0 : Int) (a1 : Int) (a2 : Int) : Option (Bool) :=
  (bif (decide (a0 ≥ a1)) then some (decide (a0 ≤ a2)) else some false)
def impl_within.K : Ctr := ⟨impl_within.ps, impl_within.rs, false, (.two (.int .i64) (.two (.int .i64) (.int .i64))), .bool, fun k x => impl_within.f k x.1 x.2.1 x.2.2⟩
theorem impl_within.eq (k : Nat) (x : (impl_within.K.I).den) : func impl_within.x impl_within.h impl_within.ps impl_within.rs impl_within.vs impl_within.K.I impl_within.K.O impl_within.c k x = impl_within.K.run k x := by
  show _ = impl_within.f k x.1 x.2.1 x.2.2
  kernel_rfl
theorem impl_within.ok : CtrOk Try.prog 89 impl_within.K :=
  CtrOk.of (fn := Try.f89) (cd := impl_within.c) (cx := impl_within.x) (hs := impl_within.h) (by kernel_rfl) (by kernel_rfl) (by kernel_rfl) (by kernel_rfl) tt_ok (envOk_nil) (by kernel_rfl) (by kernel_rfl) (by kernel_rfl) (by kernel_rfl) fun k x r h => (impl_within.eq k x).trans h
/-! impl.AddrOk -/
noncomputable def impl_AddrOk.c : Code := bodyOf Try.f129
def impl_AddrOk.h : Nat → Hint := look ⟨[], [], []⟩ []
def impl_AddrOk.ps : List PK := [.one]
def impl_AddrOk.rs : List RK := [.one true]
def impl_AddrOk.vs : List ResultVar := [.tmp 2]
def impl_AddrOk.x : Cx := ⟨tt, look none [(89, some impl_within.K)]⟩
def impl_AddrOk.f (k : Nat) (a0 : Int) : Option (Bool) :=
  (impl_within.f k a0 (0 : Int) (4294967295 : Int)).bind fun r1 => some r1
def impl_AddrOk.K : Ctr := ⟨impl_AddrOk.ps, impl_AddrOk.rs, false, (.int .i64), .bool, fun k x => impl_AddrOk.f k x⟩
theorem impl_AddrOk.eq (k : Nat) (x : (impl_AddrOk.K.I).den) : func impl_AddrOk.x impl_AddrOk.h impl_AddrOk.ps impl_AddrOk.rs impl_AddrOk.vs impl_AddrOk.K.I impl_AddrOk.K.O impl_AddrOk.c k x = impl_AddrOk.K.run k x := by
  show _ = impl_AddrOk.f k x
  kernel_rfl
theorem impl_AddrOk.ok : CtrOk Try.prog 129 impl_AddrOk.K :=
  CtrOk.of (fn := Try.f129) (cd := impl_AddrOk.c) (cx := impl_AddrOk.x) (hs := impl_AddrOk.h) (by kernel_rfl) (by kernel_rfl) (by kernel_rfl) (by kernel_rfl) tt_ok (envOk_cons impl_within.ok (envOk_nil)) (by kernel_rfl) (by kernel_rfl) (by kernel_rfl) (by kernel_rfl) fun k x r h => (impl_AddrOk.eq k x).trans h
/-! impl.lastBits -/
noncomputable def impl_lastBits.c : Code := bodyOf Try.f130
def impl_lastBits.h : Nat → Hint := look ⟨[], [], []⟩ []
def impl_lastBits.ps : List PK := [.one]
def impl_lastBits.rs : List RK := [.one true]
def impl_lastBits.vs : List ResultVar := [.tmp 2]
def impl_lastBits.x : Cx := ⟨tt, look none []⟩
def impl_lastBits.f (_k : Nat) (a0 : Int) : Option (Int) :=
  (bif (decide ((IntKind.i64.wrap ((32 : Int) - a0)) < (0 : Int))) then none else some (IntKind.i64.wrap ((IntKind.i64.wrap ((1 : Int) * 2 ^ (min (IntKind.i64.wrap ((32 : Int) - a0)).toNat IntKind.i64.bits))) - (1 : Int))))
def impl_lastBits.K : Ctr := ⟨impl_lastBits.ps, impl_lastBits.rs, false, (.int .i64), (.int .i64), fun k x => impl_lastBits.f k x⟩
theorem impl_lastBits.eq (k : Nat) (x : (impl_lastBits.K.I).den) : func impl_lastBits.x impl_lastBits.h impl_lastBits.ps impl_lastBits.rs impl_lastBits.vs impl_lastBits.K.I impl_lastBits.K.O impl_lastBits.c k x = impl_lastBits.K.run k x := by
  show _ = impl_lastBits.f k x
  kernel_rfl
theorem impl_lastBits.ok : CtrOk Try.prog 130 impl_lastBits.K :=
  CtrOk.of (fn := Try.f130) (cd := impl_lastBits.c) (cx := impl_lastBits.x) (hs := impl_lastBits.h) (by kernel_rfl) (by kernel_rfl) (by kernel_rfl) (by kernel_rfl) tt_ok (envOk_nil) (by kernel_rfl) (by kernel_rfl) (by kernel_rfl) (by kernel_rfl) fun k x r h => (impl_lastBits.eq k x).trans h
/-! impl.PrefixOk -/
noncomputable def impl_PrefixOk.c : Code := bodyOf Try.f69
def impl_PrefixOk.h : Nat → Hint := look ⟨[], [], []⟩ []
def impl_PrefixOk.ps : List PK := [.agg 2]
def impl_PrefixOk.rs : List RK := [.one true]
def impl_PrefixOk.vs : List ResultVar := [.tmp 2]
def impl_PrefixOk.x : Cx := ⟨tt, look none [(129, some impl_AddrOk.K), (89, some impl_within.K), (130, some impl_lastBits.K)]⟩
def impl_PrefixOk.f (k : Nat) (a0_0 : Int) (a0_1 : Int) : Option (Bool) :=
  (impl_AddrOk.f k a0_0).bind fun r1 => (bif r1 then (impl_within.f k a0_1 (0 : Int) (32 : Int)).bind fun r2 => (bif r2 then (impl_lastBits.f k a0_1).bind fun r3 => some ((IntKind.i64.wrap (((BitVec.ofInt IntKind.i64.bits a0_0) &&& (BitVec.ofInt IntKind.i64.bits r3)).toNat : Int)) == (0 : Int)) else some false) else some false)
def impl_PrefixOk.K : Ctr := ⟨impl_PrefixOk.ps, impl_PrefixOk.rs, false, (.two (.int .i64) (.int .i64)), .bool, fun k x => impl_PrefixOk.f k x.1 x.2⟩
theorem impl_PrefixOk.eq (k : Nat) (x : (impl_PrefixOk.K.I).den) : func impl_PrefixOk.x impl_PrefixOk.h impl_PrefixOk.ps impl_PrefixOk.rs impl_PrefixOk.vs impl_PrefixOk.K.I impl_PrefixOk.K.O impl_PrefixOk.c k x = impl_PrefixOk.K.run k x := by
  show _ = impl_PrefixOk.f k x.1 x.2
  kernel_rfl
theorem impl_PrefixOk.ok : CtrOk Try.prog 69 impl_PrefixOk.K :=
  CtrOk.of (fn := Try.f69) (cd := impl_PrefixOk.c) (cx := impl_PrefixOk.x) (hs := impl_PrefixOk.h) (by kernel_rfl) (by kernel_rfl) (by kernel_rfl) (by kernel_rfl) tt_ok (envOk_cons impl_AddrOk.ok (envOk_cons impl_within.ok (envOk_cons impl_lastBits.ok (envOk_nil)))) (by kernel_rfl) (by kernel_rfl) (by kernel_rfl) (by kernel_rfl) fun k x r h => (impl_PrefixOk.eq k x).trans h
/-! impl.isId -/
noncomputable def impl_isId.c : Code := bodyOf Try.f70
def impl_isId.h : Nat → Hint := look ⟨[], [], []⟩ []
def impl_isId.ps : List PK := [.one]
def impl_isId.rs : List RK := [.one true]
def impl_isId.vs : List ResultVar := [.tmp 2]
def impl_isId.x : Cx := ⟨tt, look none [(89, some impl_within.K)]⟩
def impl_isId.f (k : Nat) (a0 : Int) : Option (Bool) :=
  (impl_within.f k a0 (1 : Int) (99 : Int)).bind fun r1 => some r1
def impl_isId.K : Ctr := ⟨impl_isId.ps, impl_isId.rs, false, (.int .i64), .bool, fun k x => impl_isId.f k x⟩
theorem impl_isId.eq (k : Nat) (x : (impl_isId.K.I).den) : func impl_isId.x impl_isId.h impl_isId.ps impl_isId.rs impl_isId.vs impl_isId.K.I impl_isId.K.O impl_isId.c k x = impl_isId.K.run k x := by
  show _ = impl_isId.f k x
  kernel_rfl
theorem impl_isId.ok : CtrOk Try.prog 70 impl_isId.K :=
  CtrOk.of (fn := Try.f70) (cd := impl_isId.c) (cx := impl_isId.x) (hs := impl_isId.h) (by kernel_rfl) (by kernel_rfl) (by kernel_rfl) (by kernel_rfl) tt_ok (envOk_cons impl_within.ok (envOk_nil)) (by kernel_rfl) (by kernel_rfl) (by kernel_rfl) (by kernel_rfl) fun k x r h => (impl_isId.eq k x).trans h
/-! impl.InPrefix -/
noncomputable def impl_InPrefix.c : Code := bodyOf Try.f139
def impl_InPrefix.h : Nat → Hint := look ⟨[], [], []⟩ []
def impl_InPrefix.ps : List PK := [.agg 2, .one]
def impl_InPrefix.rs : List RK := [.one true]
def impl_InPrefix.vs : List ResultVar := [.tmp 4]
def impl_InPrefix.x : Cx := ⟨tt, look none [(69, some impl_PrefixOk.K), (129, some impl_AddrOk.K), (130, some impl_lastBits.K)]⟩
def impl_InPrefix.f (k : Nat) (a0_0 : Int) (a0_1 : Int) (a1 : Int) : Option (Bool) :=
  (impl_PrefixOk.f k a0_0 a0_1).bind fun r1 => (bif r1 then (impl_AddrOk.f k a1).bind fun r2 => (bif r2 then (impl_lastBits.f k a0_1).bind fun r3 => some ((IntKind.i64.wrap (((BitVec.ofInt IntKind.i64.bits a1) &&& ~~~(BitVec.ofInt IntKind.i64.bits r3)).toNat : Int)) == a0_0) else some false) else some false)
def impl_InPrefix.K : Ctr := ⟨impl_InPrefix.ps, impl_InPrefix.rs, false, (.two (.int .i64) (.two (.int .i64) (.int .i64))), .bool, fun k x => impl_InPrefix.f k x.1 x.2.1 x.2.2⟩
theorem impl_InPrefix.eq (k : Nat) (x : (impl_InPrefix.K.I).den) : func impl_InPrefix.x impl_InPrefix.h impl_InPrefix.ps impl_InPrefix.rs impl_InPrefix.vs impl_InPrefix.K.I impl_InPrefix.K.O impl_InPrefix.c k x = impl_InPrefix.K.run k x := by
  show _ = impl_InPrefix.f k x.1 x.2.1 x.2.2
  kernel_rfl
theorem impl_InPrefix.ok : CtrOk Try.prog 139 impl_InPrefix.K :=
  CtrOk.of (fn := Try.f139) (cd := impl_InPrefix.c) (cx := impl_InPrefix.x) (hs := impl_InPrefix.h) (by kernel_rfl) (by kernel_rfl) (by kernel_rfl) (by kernel_rfl) tt_ok (envOk_cons impl_PrefixOk.ok (envOk_cons impl_AddrOk.ok (envOk_cons impl_lastBits.ok (envOk_nil)))) (by kernel_rfl) (by kernel_rfl) (by kernel_rfl) (by kernel_rfl) fun k x r h => (impl_InPrefix.eq k x).trans h
/-! impl.isHost -/
noncomputable def impl_isHost.c : Code := bodyOf Try.f91
def impl_isHost.h : Nat → Hint := look ⟨[], [], []⟩ []
def impl_isHost.ps : List PK := [.agg 2, .one]
def impl_isHost.rs : List RK := [.one true]
def impl_isHost.vs : List ResultVar := [.tmp 4]
def impl_isHost.x : Cx := ⟨tt, look none [(139, some impl_InPrefix.K), (130, some impl_lastBits.K)]⟩
def impl_isHost.f (k : Nat) (a0_0 : Int) (a0_1 : Int) (a1 : Int) : Option (Bool) :=
  (impl_InPrefix.f k a0_0 a0_1 a1).bind fun r1 => (bif r1 then (bif (a1 != a0_0) then (impl_lastBits.f k a0_1).bind fun r2 => some (a1 != (IntKind.i64.wrap (((BitVec.ofInt IntKind.i64.bits a0_0) ||| (BitVec.ofInt IntKind.i64.bits r2)).toNat : Int))) else some false) else some false)
def impl_isHost.K : Ctr := ⟨impl_isHost.ps, impl_isHost.rs, false, (.two (.int .i64) (.two (.int .i64) (.int .i64))), .bool, fun k x => impl_isHost.f k x.1 x.2.1 x.2.2⟩
theorem impl_isHost.eq (k : Nat) (x : (impl_isHost.K.I).den) : func impl_isHost.x impl_isHost.h impl_isHost.ps impl_isHost.rs impl_isHost.vs impl_isHost.K.I impl_isHost.K.O impl_isHost.c k x = impl_isHost.K.run k x := by
  show _ = impl_isHost.f k x.1 x.2.1 x.2.2
  kernel_rfl
theorem impl_isHost.ok : CtrOk Try.prog 91 impl_isHost.K :=
  CtrOk.of (fn := Try.f91) (cd := impl_isHost.c) (cx := impl_isHost.x) (hs := impl_isHost.h) (by kernel_rfl) (by kernel_rfl) (by kernel_rfl) (by kernel_rfl) tt_ok (envOk_cons impl_InPrefix.ok (envOk_cons impl_lastBits.ok (envOk_nil))) (by kernel_rfl) (by kernel_rfl) (by kernel_rfl) (by kernel_rfl) fun k x r h => (impl_isHost.eq k x).trans h
/-! impl.fixedFor -/
noncomputable def impl_fixedFor.c : Code := bodyOf Try.f92
def impl_fixedFor.h : Nat → Hint := look ⟨[], [], []⟩ [(0, ⟨[1, 8, 9, 10], [], []⟩)]
def impl_fixedFor.ps : List PK := [.agg 4, .one]
def impl_fixedFor.rs : List RK := [.one true]
def impl_fixedFor.vs : List ResultVar := [.tmp 4]
def impl_fixedFor.x : Cx := ⟨tt, look none []⟩
def impl_fixedFor.s0 (_k : Nat) (rec0 : (Int × Int × Int × (List (Int × Int × Int)) × (List (Int × Int))) → Option (Int)) (p : (Int × Int × Int × (List (Int × Int × Int)) × (List (Int × Int)))) : Option (Int) :=
  (bif (decide (p.2.2.1 < p.2.1)) then (bif ((decide ((0 : Int) ≤ p.2.2.1)) && (decide (p.2.2.1 < (p.2.2.2.2.length : Int)))) then (p.2.2.2.2[p.2.2.1.toNat]?).bind fun x1 => (bif (x1.2 == p.1) then some x1.1 else rec0 (p.1, p.2.1, (IntKind.i64.wrap (p.2.2.1 + (1 : Int))), p.2.2.2.1, p.2.2.2.2)) else none) else some (0 : Int))
def impl_fixedFor.l0 (k : Nat) : Nat → (Int × Int × Int × (List (Int × Int × Int)) × (List (Int × Int))) → Option (Int)
  | 0 => fun _ => none
  | j + 1 => impl_fixedFor.s0 k (impl_fixedFor.l0 k j)
def impl_fixedFor.S0 (p : (Int × Int × Int × (List (Int × Int × Int)) × (List (Int × Int)))) : DS := ⟨tl [(1, .at (.int .i64 p.1)), (8, .at (.whole 3)), (9, .at (.int .i64 p.2.1)), (10, .at (.int .i64 p.2.2.1))], lookO [(2, .row 63 (.two (.int .i64) (.two (.int .i64) (.int .i64))) false p.2.2.2.1), (3, .row 150 (.two (.int .i64) (.int .i64)) false p.2.2.2.2)]⟩
noncomputable def impl_fixedFor.D0 (k : Nat) (j : Nat) (p : (Int × Int × Int × (List (Int × Int × Int)) × (List (Int × Int)))) : Option (Int) := loopK (norm [2, 3] (impl_fixedFor.h 0)) (runK impl_fixedFor.x k 0 [2, 3] impl_fixedFor.h 0 (sub impl_fixedFor.c [1, 0, 1, 0, 0])) j (impl_fixedFor.S0 p) (kBlk 0 (kSeq (runK impl_fixedFor.x k 0 [2, 3] impl_fixedFor.h 0 (sub impl_fixedFor.c [1, 1])) (fin tt impl_fixedFor.ps impl_fixedFor.rs impl_fixedFor.vs (.int .i64))))
theorem impl_fixedFor.D0_eq (k : Nat) : ∀ j, impl_fixedFor.D0 k j = impl_fixedFor.l0 k j := by
  intro j
  induction j with
  | zero => rfl
  | succ j ih =>
    show _ = impl_fixedFor.s0 k (impl_fixedFor.l0 k j)
    rw [← ih]
    funext p
    kernel_rfl
def impl_fixedFor.f (k : Nat) (_a0_0 : Int) (_a0_1 : Int) (a0_2 : List (Int × Int × Int)) (a0_3 : List (Int × Int)) (a1 : Int) : Option (Int) :=
  impl_fixedFor.l0 k k (a1, (a0_3.length : Int), (0 : Int), a0_2, a0_3)
def impl_fixedFor.K : Ctr := ⟨impl_fixedFor.ps, impl_fixedFor.rs, false, (.two (.int .i64) (.two (.int .i64) (.two (.sl 63 (.two (.int .i64) (.two (.int .i64) (.int .i64)))) (.two (.sl 150 (.two (.int .i64) (.int .i64))) (.int .i64))))), (.int .i64), fun k x => impl_fixedFor.f k x.1 x.2.1 x.2.2.1 x.2.2.2.1 x.2.2.2.2⟩
theorem impl_fixedFor.eq (k : Nat) (x : (impl_fixedFor.K.I).den) : func impl_fixedFor.x impl_fixedFor.h impl_fixedFor.ps impl_fixedFor.rs impl_fixedFor.vs impl_fixedFor.K.I impl_fixedFor.K.O impl_fixedFor.c k x = impl_fixedFor.K.run k x := by
  show _ = impl_fixedFor.f k x.1 x.2.1 x.2.2.1 x.2.2.2.1 x.2.2.2.2
  unfold impl_fixedFor.f
  rw [← impl_fixedFor.D0_eq k k]
  kernel_rfl
theorem impl_fixedFor.ok : CtrOk Try.prog 92 impl_fixedFor.K :=
  CtrOk.of (fn := Try.f92) (cd := impl_fixedFor.c) (cx := impl_fixedFor.x) (hs := impl_fixedFor.h) (by kernel_rfl) (by kernel_rfl) (by kernel_rfl) (by kernel_rfl) tt_ok (envOk_nil) (by kernel_rfl) (by kernel_rfl) (by kernel_rfl) (by kernel_rfl) fun k x r h => (impl_fixedFor.eq k x).trans h
/-! impl.fixesOk -/
noncomputable def impl_fixesOk.c : Code := bodyOf Try.f90
def impl_fixesOk.h : Nat → Hint := look ⟨[], [], []⟩ [(0, ⟨[1, 6, 7, 8], [16], []⟩)]
def impl_fixesOk.ps : List PK := [.agg 4]
def impl_fixesOk.rs : List RK := [.one true]
def impl_fixesOk.vs : List ResultVar := [.tmp 2]
def impl_fixesOk.x : Cx := ⟨tt, look none [(70, some impl_isId.K), (91, some impl_isHost.K), (92, some impl_fixedFor.K)]⟩
def impl_fixesOk.s0 (k : Nat) (rec0 : (Int × Int × (List (Int × Int × Int)) × (List (Int × Int)) × Int × Int) → Option (Bool)) (p : (Int × Int × (List (Int × Int × Int)) × (List (Int × Int)) × Int × Int)) : Option (Bool) :=
  (bif (decide (p.2.1 < p.1)) then (bif ((decide ((0 : Int) ≤ p.2.1)) && (decide (p.2.1 < (p.2.2.2.1.length : Int)))) then (p.2.2.2.1[p.2.1.toNat]?).bind fun x1 => (impl_isId.f k x1.1).bind fun r2 => (bif (!r2) then some false else (impl_isHost.f k p.2.2.2.2.1 p.2.2.2.2.2 x1.2).bind fun r3 => (bif (!r3) then some false else (bif (decide (p.2.1 > (0 : Int))) then (bif ((decide ((0 : Int) ≤ (IntKind.i64.wrap (p.2.1 - (1 : Int))))) && (decide ((IntKind.i64.wrap (p.2.1 - (1 : Int))) < (p.2.2.2.1.length : Int)))) then (p.2.2.2.1[(IntKind.i64.wrap (p.2.1 - (1 : Int))).toNat]?).bind fun x4 => (bif (decide (x4.1 ≥ x1.1)) then some false else (impl_fixedFor.f k p.2.2.2.2.1 p.2.2.2.2.2 p.2.2.1 p.2.2.2.1 x1.2).bind fun r5 => (bif (r5 != x1.1) then some false else rec0 (p.1, (IntKind.i64.wrap (p.2.1 + (1 : Int))), p.2.2.1, p.2.2.2.1, p.2.2.2.2.1, p.2.2.2.2.2))) else none) else (impl_fixedFor.f k p.2.2.2.2.1 p.2.2.2.2.2 p.2.2.1 p.2.2.2.1 x1.2).bind fun r6 => (bif (r6 != x1.1) then some false else rec0 (p.1, (IntKind.i64.wrap (p.2.1 + (1 : Int))), p.2.2.1, p.2.2.2.1, p.2.2.2.2.1, p.2.2.2.2.2))))) else none) else some (decide ((p.2.2.2.1.length : Int) ≤ (4 : Int))))
def impl_fixesOk.l0 (k : Nat) : Nat → (Int × Int × (List (Int × Int × Int)) × (List (Int × Int)) × Int × Int) → Option (Bool)
  | 0 => fun _ => none
  | j + 1 => impl_fixesOk.s0 k (impl_fixesOk.l0 k j)
def impl_fixesOk.S0 (p : (Int × Int × (List (Int × Int × Int)) × (List (Int × Int)) × Int × Int)) : DS := ⟨tl [(1, .at (.bptr 16 0)), (6, .at (.whole 3)), (7, .at (.int .i64 p.1)), (8, .at (.int .i64 p.2.1))], lookO [(2, .row 63 (.two (.int .i64) (.two (.int .i64) (.int .i64))) false p.2.2.1), (3, .row 150 (.two (.int .i64) (.int .i64)) false p.2.2.2.1), (16, .box 50 [.int .i64 p.2.2.2.2.1, .int .i64 p.2.2.2.2.2, .whole 2, .whole 3])]⟩
noncomputable def impl_fixesOk.D0 (k : Nat) (j : Nat) (p : (Int × Int × (List (Int × Int × Int)) × (List (Int × Int)) × Int × Int)) : Option (Bool) := loopK (norm [2, 3] (impl_fixesOk.h 0)) (runK impl_fixesOk.x k 0 [2, 3] impl_fixesOk.h 0 (sub impl_fixesOk.c [1, 0, 1, 0, 0])) j (impl_fixesOk.S0 p) (kBlk 0 (kSeq (runK impl_fixesOk.x k 0 [2, 3] impl_fixesOk.h 0 (sub impl_fixesOk.c [1, 1])) (fin tt impl_fixesOk.ps impl_fixesOk.rs impl_fixesOk.vs .bool)))
theorem impl_fixesOk.D0_eq (k : Nat) : ∀ j, impl_fixesOk.D0 k j = impl_fixesOk.l0 k j := by
  intro j
  induction j with
  | zero => rfl
  | succ j ih =>
    show _ = impl_fixesOk.s0 k (impl_fixesOk.l0 k j)
    rw [← ih]
    funext p
    kernel_rfl
def impl_fixesOk.f (k : Nat) (a0_0 : Int) (a0_1 : Int) (a0_2 : List (Int × Int × Int)) (a0_3 : List (Int × Int)) : Option (Bool) :=
  impl_fixesOk.l0 k k ((a0_3.length : Int), (0 : Int), a0_2, a0_3, a0_0, a0_1)
def impl_fixesOk.K : Ctr := ⟨impl_fixesOk.ps, impl_fixesOk.rs, false, (.two (.int .i64) (.two (.int .i64) (.two (.sl 63 (.two (.int .i64) (.two (.int .i64) (.int .i64)))) (.sl 150 (.two (.int .i64) (.int .i64)))))), .bool, fun k x => impl_fixesOk.f k x.1 x.2.1 x.2.2.1 x.2.2.2⟩
theorem impl_fixesOk.eq (k : Nat) (x : (impl_fixesOk.K.I).den) : func impl_fixesOk.x impl_fixesOk.h impl_fixesOk.ps impl_fixesOk.rs impl_fixesOk.vs impl_fixesOk.K.I impl_fixesOk.K.O impl_fixesOk.c k x = impl_fixesOk.K.run k x := by
  show _ = impl_fixesOk.f k x.1 x.2.1 x.2.2.1 x.2.2.2
  unfold impl_fixesOk.f
  rw [← impl_fixesOk.D0_eq k k]
  kernel_rfl
theorem impl_fixesOk.ok : CtrOk Try.prog 90 impl_fixesOk.K :=
  CtrOk.of (fn := Try.f90) (cd := impl_fixesOk.c) (cx := impl_fixesOk.x) (hs := impl_fixesOk.h) (by kernel_rfl) (by kernel_rfl) (by kernel_rfl) (by kernel_rfl) tt_ok (envOk_cons impl_isId.ok (envOk_cons impl_isHost.ok (envOk_cons impl_fixedFor.ok (envOk_nil)))) (by kernel_rfl) (by kernel_rfl) (by kernel_rfl) (by kernel_rfl) fun k x r h => (impl_fixesOk.eq k x).trans h
/-! impl.leaseOf$1 -/
noncomputable def impl_leaseOf_1.c : Code := bodyOf Try.f141
def impl_leaseOf_1.h : Nat → Hint := look ⟨[], [], []⟩ []
def impl_leaseOf_1.ps : List PK := [.agg 3, .box 3 1]
def impl_leaseOf_1.rs : List RK := [.one true]
def impl_leaseOf_1.vs : List ResultVar := [.tmp 3]
def impl_leaseOf_1.x : Cx := ⟨tt, look none []⟩
def impl_leaseOf_1.f (_k : Nat) (_a0_0 : Int) (a0_1 : Int) (_a0_2 : Int) (a1 : Int) : Option (Bool × Int) :=
  some ((a0_1 == a1), a1)
def impl_leaseOf_1.K : Ctr := ⟨impl_leaseOf_1.ps, impl_leaseOf_1.rs, true, (.two (.int .i64) (.two (.int .i64) (.two (.int .i64) (.int .i64)))), (.two .bool (.int .i64)), fun k x => impl_leaseOf_1.f k x.1 x.2.1 x.2.2.1 x.2.2.2⟩
theorem impl_leaseOf_1.eq (k : Nat) (x : (impl_leaseOf_1.K.I).den) : func impl_leaseOf_1.x impl_leaseOf_1.h impl_leaseOf_1.ps impl_leaseOf_1.rs impl_leaseOf_1.vs impl_leaseOf_1.K.I impl_leaseOf_1.K.O impl_leaseOf_1.c k x = impl_leaseOf_1.K.run k x := by
  show _ = impl_leaseOf_1.f k x.1 x.2.1 x.2.2.1 x.2.2.2
  kernel_rfl
theorem impl_leaseOf_1.ok : CtrOk Try.prog 141 impl_leaseOf_1.K :=
  CtrOk.of (fn := Try.f141) (cd := impl_leaseOf_1.c) (cx := impl_leaseOf_1.x) (hs := impl_leaseOf_1.h) (by kernel_rfl) (by kernel_rfl) (by kernel_rfl) (by kernel_rfl) tt_ok (envOk_nil) (by kernel_rfl) (by kernel_rfl) (by kernel_rfl) (by kernel_rfl) fun k x r h => (impl_leaseOf_1.eq k x).trans h
/-! slices.IndexFunc[[]impl.Lease,impl.Lease] -/
noncomputable def slices_IndexFunc_impl_Lease_impl_Lease_f141.c : Code := bodyOf Try.f140
def slices_IndexFunc_impl_Lease_impl_Lease_f141.h : Nat → Hint := look ⟨[], [], []⟩ [(0, ⟨[0, 1, 7, 8], [], []⟩)]
def slices_IndexFunc_impl_Lease_impl_Lease_f141.ps : List PK := [.one, .fnp 141 3 1]
def slices_IndexFunc_impl_Lease_impl_Lease_f141.rs : List RK := [.one true]
def slices_IndexFunc_impl_Lease_impl_Lease_f141.vs : List ResultVar := [.tmp 4]
def slices_IndexFunc_impl_Lease_impl_Lease_f141.x : Cx := ⟨tt, look none [(141, some impl_leaseOf_1.K)]⟩
def slices_IndexFunc_impl_Lease_impl_Lease_f141.s0 (k : Nat) (rec0 : (Int × Int × (List (Int × Int × Int)) × Int) → Option (Int × Int)) (p : (Int × Int × (List (Int × Int × Int)) × Int)) : Option (Int × Int) :=
  (bif (decide (p.2.1 < p.1)) then (bif ((decide ((0 : Int) ≤ p.2.1)) && (decide (p.2.1 < (p.2.2.1.length : Int)))) then (p.2.2.1[p.2.1.toNat]?).bind fun x1 => (impl_leaseOf_1.f k x1.1 x1.2.1 x1.2.2 p.2.2.2).bind fun r2 => (bif r2.1 then some (p.2.1, r2.2) else rec0 (p.1, (IntKind.i64.wrap (p.2.1 + (1 : Int))), p.2.2.1, r2.2)) else none) else some ((-1 : Int), p.2.2.2))
def slices_IndexFunc_impl_Lease_impl_Lease_f141.l0 (k : Nat) : Nat → (Int × Int × (List (Int × Int × Int)) × Int) → Option (Int × Int)
  | 0 => fun _ => none
  | j + 1 => slices_IndexFunc_impl_Lease_impl_Lease_f141.s0 k (slices_IndexFunc_impl_Lease_impl_Lease_f141.l0 k j)
def slices_IndexFunc_impl_Lease_impl_Lease_f141.S0 (p : (Int × Int × (List (Int × Int × Int)) × Int)) : DS := ⟨tl [(0, .at (.whole 0)), (1, .at (.fn 141 [(16, 0)])), (7, .at (.int .i64 p.1)), (8, .at (.int .i64 p.2.1))], lookO [(0, .row 63 (.two (.int .i64) (.two (.int .i64) (.int .i64))) false p.2.2.1), (16, .box 3 [.int .i64 p.2.2.2])]⟩
noncomputable def slices_IndexFunc_impl_Lease_impl_Lease_f141.D0 (k : Nat) (j : Nat) (p : (Int × Int × (List (Int × Int × Int)) × Int)) : Option (Int × Int) := loopK (norm [0, 16] (slices_IndexFunc_impl_Lease_impl_Lease_f141.h 0)) (runK slices_IndexFunc_impl_Lease_impl_Lease_f141.x k 0 [0, 16] slices_IndexFunc_impl_Lease_impl_Lease_f141.h 0 (sub slices_IndexFunc_impl_Lease_impl_Lease_f141.c [1, 0, 1, 0, 0])) j (slices_IndexFunc_impl_Lease_impl_Lease_f141.S0 p) (kBlk 0 (kSeq (runK slices_IndexFunc_impl_Lease_impl_Lease_f141.x k 0 [0, 16] slices_IndexFunc_impl_Lease_impl_Lease_f141.h 0 (sub slices_IndexFunc_impl_Lease_impl_Lease_f141.c [1, 1])) (fin tt slices_IndexFunc_impl_Lease_impl_Lease_f141.ps slices_IndexFunc_impl_Lease_impl_Lease_f141.rs slices_IndexFunc_impl_Lease_impl_Lease_f141.vs (.two (.int .i64) (.int .i64)))))
theorem slices_IndexFunc_impl_Lease_impl_Lease_f141.D0_eq (k : Nat) : ∀ j, slices_IndexFunc_impl_Lease_impl_Lease_f141.D0 k j = slices_IndexFunc_impl_Lease_impl_Lease_f141.l0 k j := by
  intro j
  induction j with
  | zero => rfl
  | succ j ih =>
    show _ = slices_IndexFunc_impl_Lease_impl_Lease_f141.s0 k (slices_IndexFunc_impl_Lease_impl_Lease_f141.l0 k j)
    rw [← ih]
    funext p
    kernel_rfl
def slices_IndexFunc_impl_Lease_impl_Lease_f141.f (k : Nat) (a0 : List (Int × Int × Int)) (a1 : Int) : Option (Int × Int) :=
  slices_IndexFunc_impl_Lease_impl_Lease_f141.l0 k k ((a0.length : Int), (0 : Int), a0, a1)
def slices_IndexFunc_impl_Lease_impl_Lease_f141.K : Ctr := ⟨slices_IndexFunc_impl_Lease_impl_Lease_f141.ps, slices_IndexFunc_impl_Lease_impl_Lease_f141.rs, true, (.two (.sl 63 (.two (.int .i64) (.two (.int .i64) (.int .i64)))) (.int .i64)), (.two (.int .i64) (.int .i64)), fun k x => slices_IndexFunc_impl_Lease_impl_Lease_f141.f k x.1 x.2⟩
theorem slices_IndexFunc_impl_Lease_impl_Lease_f141.eq (k : Nat) (x : (slices_IndexFunc_impl_Lease_impl_Lease_f141.K.I).den) : func slices_IndexFunc_impl_Lease_impl_Lease_f141.x slices_IndexFunc_impl_Lease_impl_Lease_f141.h slices_IndexFunc_impl_Lease_impl_Lease_f141.ps slices_IndexFunc_impl_Lease_impl_Lease_f141.rs slices_IndexFunc_impl_Lease_impl_Lease_f141.vs slices_IndexFunc_impl_Lease_impl_Lease_f141.K.I slices_IndexFunc_impl_Lease_impl_Lease_f141.K.O slices_IndexFunc_impl_Lease_impl_Lease_f141.c k x = slices_IndexFunc_impl_Lease_impl_Lease_f141.K.run k x := by
  show _ = slices_IndexFunc_impl_Lease_impl_Lease_f141.f k x.1 x.2
  unfold slices_IndexFunc_impl_Lease_impl_Lease_f141.f
  rw [← slices_IndexFunc_impl_Lease_impl_Lease_f141.D0_eq k k]
  kernel_rfl
theorem slices_IndexFunc_impl_Lease_impl_Lease_f141.ok : CtrOk Try.prog 140 slices_IndexFunc_impl_Lease_impl_Lease_f141.K :=
  CtrOk.of (fn := Try.f140) (cd := slices_IndexFunc_impl_Lease_impl_Lease_f141.c) (cx := slices_IndexFunc_impl_Lease_impl_Lease_f141.x) (hs := slices_IndexFunc_impl_Lease_impl_Lease_f141.h) (by kernel_rfl) (by kernel_rfl) (by kernel_rfl) (by kernel_rfl) tt_ok (envOk_cons impl_leaseOf_1.ok (envOk_nil)) (by kernel_rfl) (by kernel_rfl) (by kernel_rfl) (by kernel_rfl) fun k x r h => (slices_IndexFunc_impl_Lease_impl_Lease_f141.eq k x).trans h
/-! impl.leaseOf -/
noncomputable def impl_leaseOf.c : Code := bodyOf Try.f93
def impl_leaseOf.h : Nat → Hint := look ⟨[], [], []⟩ []
def impl_leaseOf.ps : List PK := [.agg 4, .one]
def impl_leaseOf.rs : List RK := [.one true]
def impl_leaseOf.vs : List ResultVar := [.tmp 4]
def impl_leaseOf.x : Cx := ⟨tt, look none [(140, some slices_IndexFunc_impl_Lease_impl_Lease_f141.K)]⟩
def impl_leaseOf.f (k : Nat) (_a0_0 : Int) (_a0_1 : Int) (a0_2 : List (Int × Int × Int)) (_a0_3 : List (Int × Int)) (a1 : Int) : Option (Int) :=
  (slices_IndexFunc_impl_Lease_impl_Lease_f141.f k a0_2 a1).bind fun r1 => some r1.1
def impl_leaseOf.K : Ctr := ⟨impl_leaseOf.ps, impl_leaseOf.rs, false, (.two (.int .i64) (.two (.int .i64) (.two (.sl 63 (.two (.int .i64) (.two (.int .i64) (.int .i64)))) (.two (.sl 150 (.two (.int .i64) (.int .i64))) (.int .i64))))), (.int .i64), fun k x => impl_leaseOf.f k x.1 x.2.1 x.2.2.1 x.2.2.2.1 x.2.2.2.2⟩
theorem impl_leaseOf.eq (k : Nat) (x : (impl_leaseOf.K.I).den) : func impl_leaseOf.x impl_leaseOf.h impl_leaseOf.ps impl_leaseOf.rs impl_leaseOf.vs impl_leaseOf.K.I impl_leaseOf.K.O impl_leaseOf.c k x = impl_leaseOf.K.run k x := by
  show _ = impl_leaseOf.f k x.1 x.2.1 x.2.2.1 x.2.2.2.1 x.2.2.2.2
  kernel_rfl
theorem impl_leaseOf.ok : CtrOk Try.prog 93 impl_leaseOf.K :=
  CtrOk.of (fn := Try.f93) (cd := impl_leaseOf.c) (cx := impl_leaseOf.x) (hs := impl_leaseOf.h) (by kernel_rfl) (by kernel_rfl) (by kernel_rfl) (by kernel_rfl) tt_ok (envOk_cons slices_IndexFunc_impl_Lease_impl_Lease_f141.ok (envOk_nil)) (by kernel_rfl) (by kernel_rfl) (by kernel_rfl) (by kernel_rfl) fun k x r h => (impl_leaseOf.eq k x).trans h
/-! impl.PoolOk -/
noncomputable def impl_PoolOk.c : Code := bodyOf Try.f34
def impl_PoolOk.h : Nat → Hint := look ⟨[], [], []⟩ [(0, ⟨[1, 29, 30, 31], [16], []⟩)]
def impl_PoolOk.ps : List PK := [.agg 4]
def impl_PoolOk.rs : List RK := [.one true]
def impl_PoolOk.vs : List ResultVar := [.tmp 2]
def impl_PoolOk.x : Cx := ⟨tt, look none [(69, some impl_PrefixOk.K), (89, some impl_within.K), (90, some impl_fixesOk.K), (91, some impl_isHost.K), (70, some impl_isId.K), (92, some impl_fixedFor.K), (93, some impl_leaseOf.K)]⟩
def impl_PoolOk.s0 (k : Nat) (rec0 : (Int × Int × (List (Int × Int × Int)) × (List (Int × Int)) × Int × Int) → Option (Bool)) (p : (Int × Int × (List (Int × Int × Int)) × (List (Int × Int)) × Int × Int)) : Option (Bool) :=
  (bif (decide (p.2.1 < p.1)) then (bif ((decide ((0 : Int) ≤ p.2.1)) && (decide (p.2.1 < (p.2.2.1.length : Int)))) then (p.2.2.1[p.2.1.toNat]?).bind fun x4 => (bif (decide (p.2.1 > (0 : Int))) then (bif ((decide ((0 : Int) ≤ (IntKind.i64.wrap (p.2.1 - (1 : Int))))) && (decide ((IntKind.i64.wrap (p.2.1 - (1 : Int))) < (p.2.2.1.length : Int)))) then (p.2.2.1[(IntKind.i64.wrap (p.2.1 - (1 : Int))).toNat]?).bind fun x5 => (bif (decide (x5.1 ≥ x4.1)) then some false else (impl_isHost.f k p.2.2.2.2.1 p.2.2.2.2.2 x4.1).bind fun r6 => (bif (!r6) then some false else (impl_isId.f k x4.2.1).bind fun r7 => (bif (!r7) then some false else (impl_within.f k x4.2.2 (0 : Int) (1000000000 : Int)).bind fun r8 => (bif (!r8) then some false else (impl_fixedFor.f k p.2.2.2.2.1 p.2.2.2.2.2 p.2.2.1 p.2.2.2.1 x4.1).bind fun r9 => (impl_leaseOf.f k p.2.2.2.2.1 p.2.2.2.2.2 p.2.2.1 p.2.2.2.1 x4.2.1).bind fun r10 => (bif (r10 != p.2.1) then some false else (bif (r9 != (0 : Int)) then (bif (r9 != x4.2.1) then some false else rec0 (p.1, (IntKind.i64.wrap (p.2.1 + (1 : Int))), p.2.2.1, p.2.2.2.1, p.2.2.2.2.1, p.2.2.2.2.2)) else rec0 (p.1, (IntKind.i64.wrap (p.2.1 + (1 : Int))), p.2.2.1, p.2.2.2.1, p.2.2.2.2.1, p.2.2.2.2.2))))))) else none) else (impl_isHost.f k p.2.2.2.2.1 p.2.2.2.2.2 x4.1).bind fun r11 => (bif (!r11) then some false else (impl_isId.f k x4.2.1).bind fun r12 => (bif (!r12) then some false else (impl_within.f k x4.2.2 (0 : Int) (1000000000 : Int)).bind fun r13 => (bif (!r13) then some false else (impl_fixedFor.f k p.2.2.2.2.1 p.2.2.2.2.2 p.2.2.1 p.2.2.2.1 x4.1).bind fun r14 => (impl_leaseOf.f k p.2.2.2.2.1 p.2.2.2.2.2 p.2.2.1 p.2.2.2.1 x4.2.1).bind fun r15 => (bif (r15 != p.2.1) then some false else (bif (r14 != (0 : Int)) then (bif (r14 != x4.2.1) then some false else rec0 (p.1, (IntKind.i64.wrap (p.2.1 + (1 : Int))), p.2.2.1, p.2.2.2.1, p.2.2.2.2.1, p.2.2.2.2.2)) else rec0 (p.1, (IntKind.i64.wrap (p.2.1 + (1 : Int))), p.2.2.1, p.2.2.2.1, p.2.2.2.2.1, p.2.2.2.2.2))))))) else none) else some true)
def impl_PoolOk.l0 (k : Nat) : Nat → (Int × Int × (List (Int × Int × Int)) × (List (Int × Int)) × Int × Int) → Option (Bool)
  | 0 => fun _ => none
  | j + 1 => impl_PoolOk.s0 k (impl_PoolOk.l0 k j)
def impl_PoolOk.S0 (p : (Int × Int × (List (Int × Int × Int)) × (List (Int × Int)) × Int × Int)) : DS := ⟨tl [(1, .at (.bptr 16 0)), (29, .at (.whole 2)), (30, .at (.int .i64 p.1)), (31, .at (.int .i64 p.2.1))], lookO [(2, .row 63 (.two (.int .i64) (.two (.int .i64) (.int .i64))) false p.2.2.1), (3, .row 150 (.two (.int .i64) (.int .i64)) false p.2.2.2.1), (16, .box 50 [.int .i64 p.2.2.2.2.1, .int .i64 p.2.2.2.2.2, .whole 2, .whole 3])]⟩
noncomputable def impl_PoolOk.D0 (k : Nat) (j : Nat) (p : (Int × Int × (List (Int × Int × Int)) × (List (Int × Int)) × Int × Int)) : Option (Bool) := loopK (norm [2, 3] (impl_PoolOk.h 0)) (runK impl_PoolOk.x k 0 [2, 3] impl_PoolOk.h 0 (sub impl_PoolOk.c [1, 1, 0, 1, 0, 0])) j (impl_PoolOk.S0 p) (kBlk 0 (kSeq (runK impl_PoolOk.x k 0 [2, 3] impl_PoolOk.h 0 (sub impl_PoolOk.c [1, 1, 1])) (fin tt impl_PoolOk.ps impl_PoolOk.rs impl_PoolOk.vs .bool)))
theorem impl_PoolOk.D0_eq (k : Nat) : ∀ j, impl_PoolOk.D0 k j = impl_PoolOk.l0 k j := by
  intro j
  induction j with
  | zero => rfl
  | succ j ih =>
    show _ = impl_PoolOk.s0 k (impl_PoolOk.l0 k j)
    rw [← ih]
    funext p
    kernel_rfl
def impl_PoolOk.f (k : Nat) (a0_0 : Int) (a0_1 : Int) (a0_2 : List (Int × Int × Int)) (a0_3 : List (Int × Int)) : Option (Bool) :=
  (impl_PrefixOk.f k a0_0 a0_1).bind fun r1 => (bif (!r1) then some false else (impl_within.f k a0_1 (24 : Int) (30 : Int)).bind fun r2 => (bif (!r2) then some false else (impl_fixesOk.f k a0_0 a0_1 a0_2 a0_3).bind fun r3 => (bif (!r3) then some false else (bif (decide ((a0_2.length : Int) > (6 : Int))) then some false else impl_PoolOk.l0 k k ((a0_2.length : Int), (0 : Int), a0_2, a0_3, a0_0, a0_1)))))
def impl_PoolOk.K : Ctr := ⟨impl_PoolOk.ps, impl_PoolOk.rs, false, (.two (.int .i64) (.two (.int .i64) (.two (.sl 63 (.two (.int .i64) (.two (.int .i64) (.int .i64)))) (.sl 150 (.two (.int .i64) (.int .i64)))))), .bool, fun k x => impl_PoolOk.f k x.1 x.2.1 x.2.2.1 x.2.2.2⟩
theorem impl_PoolOk.eq (k : Nat) (x : (impl_PoolOk.K.I).den) : func impl_PoolOk.x impl_PoolOk.h impl_PoolOk.ps impl_PoolOk.rs impl_PoolOk.vs impl_PoolOk.K.I impl_PoolOk.K.O impl_PoolOk.c k x = impl_PoolOk.K.run k x := by
  show _ = impl_PoolOk.f k x.1 x.2.1 x.2.2.1 x.2.2.2
  unfold impl_PoolOk.f
  rw [← impl_PoolOk.D0_eq k k]
  kernel_rfl
theorem impl_PoolOk.ok : CtrOk Try.prog 34 impl_PoolOk.K :=
  CtrOk.of (fn := Try.f34) (cd := impl_PoolOk.c) (cx := impl_PoolOk.x) (hs := impl_PoolOk.h) (by kernel_rfl) (by kernel_rfl) (by kernel_rfl) (by kernel_rfl) tt_ok (envOk_cons impl_PrefixOk.ok (envOk_cons impl_within.ok (envOk_cons impl_fixesOk.ok (envOk_cons impl_isHost.ok (envOk_cons impl_isId.ok (envOk_cons impl_fixedFor.ok (envOk_cons impl_leaseOf.ok (envOk_nil)))))))) (by kernel_rfl) (by kernel_rfl) (by kernel_rfl) (by kernel_rfl) fun k x r h => (impl_PoolOk.eq k x).trans h
/-! impl.HolderOf -/
noncomputable def impl_HolderOf.c : Code := bodyOf Try.f36
def impl_HolderOf.h : Nat → Hint := look ⟨[], [], []⟩ [(0, ⟨[1, 8, 9, 10], [], []⟩)]
def impl_HolderOf.ps : List PK := [.agg 4, .one]
def impl_HolderOf.rs : List RK := [.one true]
def impl_HolderOf.vs : List ResultVar := [.tmp 4]
def impl_HolderOf.x : Cx := ⟨tt, look none []⟩
def impl_HolderOf.s0 (_k : Nat) (rec0 : (Int × Int × Int × (List (Int × Int × Int)) × (List (Int × Int))) → Option (Int)) (p : (Int × Int × Int × (List (Int × Int × Int)) × (List (Int × Int)))) : Option (Int) :=
  (bif (decide (p.2.2.1 < p.2.1)) then (bif ((decide ((0 : Int) ≤ p.2.2.1)) && (decide (p.2.2.1 < (p.2.2.2.1.length : Int)))) then (p.2.2.2.1[p.2.2.1.toNat]?).bind fun x1 => (bif (x1.1 == p.1) then some x1.2.1 else rec0 (p.1, p.2.1, (IntKind.i64.wrap (p.2.2.1 + (1 : Int))), p.2.2.2.1, p.2.2.2.2)) else none) else some (0 : Int))
def impl_HolderOf.l0 (k : Nat) : Nat → (Int × Int × Int × (List (Int × Int × Int)) × (List (Int × Int))) → Option (Int)
  | 0 => fun _ => none
  | j + 1 => impl_HolderOf.s0 k (impl_HolderOf.l0 k j)
def impl_HolderOf.S0 (p : (Int × Int × Int × (List (Int × Int × Int)) × (List (Int × Int)))) : DS := ⟨tl [(1, .at (.int .i64 p.1)), (8, .at (.whole 2)), (9, .at (.int .i64 p.2.1)), (10, .at (.int .i64 p.2.2.1))], lookO [(2, .row 63 (.two (.int .i64) (.two (.int .i64) (.int .i64))) false p.2.2.2.1), (3, .row 150 (.two (.int .i64) (.int .i64)) false p.2.2.2.2)]⟩
noncomputable def impl_HolderOf.D0 (k : Nat) (j : Nat) (p : (Int × Int × Int × (List (Int × Int × Int)) × (List (Int × Int)))) : Option (Int) := loopK (norm [2, 3] (impl_HolderOf.h 0)) (runK impl_HolderOf.x k 0 [2, 3] impl_HolderOf.h 0 (sub impl_HolderOf.c [1, 0, 1, 0, 0])) j (impl_HolderOf.S0 p) (kBlk 0 (kSeq (runK impl_HolderOf.x k 0 [2, 3] impl_HolderOf.h 0 (sub impl_HolderOf.c [1, 1])) (fin tt impl_HolderOf.ps impl_HolderOf.rs impl_HolderOf.vs (.int .i64))))
theorem impl_HolderOf.D0_eq (k : Nat) : ∀ j, impl_HolderOf.D0 k j = impl_HolderOf.l0 k j := by
  intro j
  induction j with
  | zero => rfl
  | succ j ih =>
    show _ = impl_HolderOf.s0 k (impl_HolderOf.l0 k j)
    rw [← ih]
    funext p
    kernel_rfl
def impl_HolderOf.f (k : Nat) (_a0_0 : Int) (_a0_1 : Int) (a0_2 : List (Int × Int × Int)) (a0_3 : List (Int × Int)) (a1 : Int) : Option (Int) :=
  impl_HolderOf.l0 k k (a1, (a0_2.length : Int), (0 : Int), a0_2, a0_3)
def impl_HolderOf.K : Ctr := ⟨impl_HolderOf.ps, impl_HolderOf.rs, false, (.two (.int .i64) (.two (.int .i64) (.two (.sl 63 (.two (.int .i64) (.two (.int .i64) (.int .i64)))) (.two (.sl 150 (.two (.int .i64) (.int .i64))) (.int .i64))))), (.int .i64), fun k x => impl_HolderOf.f k x.1 x.2.1 x.2.2.1 x.2.2.2.1 x.2.2.2.2⟩
theorem impl_HolderOf.eq (k : Nat) (x : (impl_HolderOf.K.I).den) : func impl_HolderOf.x impl_HolderOf.h impl_HolderOf.ps impl_HolderOf.rs impl_HolderOf.vs impl_HolderOf.K.I impl_HolderOf.K.O impl_HolderOf.c k x = impl_HolderOf.K.run k x := by
  show _ = impl_HolderOf.f k x.1 x.2.1 x.2.2.1 x.2.2.2.1 x.2.2.2.2
  unfold impl_HolderOf.f
  rw [← impl_HolderOf.D0_eq k k]
  kernel_rfl
theorem impl_HolderOf.ok : CtrOk Try.prog 36 impl_HolderOf.K :=
  CtrOk.of (fn := Try.f36) (cd := impl_HolderOf.c) (cx := impl_HolderOf.x) (hs := impl_HolderOf.h) (by kernel_rfl) (by kernel_rfl) (by kernel_rfl) (by kernel_rfl) tt_ok (envOk_nil) (by kernel_rfl) (by kernel_rfl) (by kernel_rfl) (by kernel_rfl) fun k x r h => (impl_HolderOf.eq k x).trans h
end Go.Proofs.Ytfaeklomiofpdaa.DI
