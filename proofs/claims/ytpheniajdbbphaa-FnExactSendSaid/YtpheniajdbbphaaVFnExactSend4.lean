/- FnExactSend: functions as plain Lean, in the machine of values. -/
import Derived.Test.YtpheniajdbbphaaVFnExactSend3
namespace Go.Proofs.Ytpheniajdbbphaa.DI
open Go
set_option linter.unusedVariables false
/-! impl.copyTexts -/
noncomputable def impl_copyTexts.c : Code := bodyOf Try.f106
def impl_copyTexts.h : Nat → Hint := look ⟨[], [], []⟩ []
def impl_copyTexts.ps : List PK := [.one]
def impl_copyTexts.rs : List RK := [.one true]
def impl_copyTexts.vs : List ResultVar := [.tmp 2]
def impl_copyTexts.x : Cx := ⟨tt, look none []⟩
def impl_copyTexts.f (_k : Nat) (a0 : List (ByteArray)) : Option ((List (ByteArray))) :=
  (bif decide ((([] : List (ByteArray)).length + a0.length) * 16 ≤ 140737488355328) then some (([] : List (ByteArray)) ++ a0) else none)
def impl_copyTexts.K : Ctr := ⟨impl_copyTexts.ps, impl_copyTexts.rs, false, (.sl 9 .str), (.sl 9 .str), fun k x => impl_copyTexts.f k x⟩
theorem impl_copyTexts.eq (k : Nat) (x : (impl_copyTexts.K.I).den) : func impl_copyTexts.x impl_copyTexts.h impl_copyTexts.ps impl_copyTexts.rs impl_copyTexts.vs impl_copyTexts.K.I impl_copyTexts.K.O impl_copyTexts.c k x = impl_copyTexts.K.run k x := by
  show _ = impl_copyTexts.f k x
  kernel_rfl
theorem impl_copyTexts.ok : CtrOk Try.prog 106 impl_copyTexts.K :=
  CtrOk.of (fn := Try.f106) (cd := impl_copyTexts.c) (cx := impl_copyTexts.x) (hs := impl_copyTexts.h) (by kernel_rfl) (by kernel_rfl) (by kernel_rfl) (by kernel_rfl) tt_ok (envOk_nil) (by kernel_rfl) (by kernel_rfl) (by kernel_rfl) (by kernel_rfl) fun k x r h => (impl_copyTexts.eq k x).trans h
/-! impl.copyInts -/
noncomputable def impl_copyInts.c : Code := bodyOf Try.f79
def impl_copyInts.h : Nat → Hint := look ⟨[], [], []⟩ []
def impl_copyInts.ps : List PK := [.one]
def impl_copyInts.rs : List RK := [.one true]
def impl_copyInts.vs : List ResultVar := [.tmp 2]
def impl_copyInts.x : Cx := ⟨tt, look none []⟩
def impl_copyInts.f (_k : Nat) (a0 : List (Int)) : Option ((List (Int))) :=
  (bif decide ((([] : List (Int)).length + a0.length) * 8 ≤ 140737488355328) then some (([] : List (Int)) ++ a0) else none)
def impl_copyInts.K : Ctr := ⟨impl_copyInts.ps, impl_copyInts.rs, false, (.sl 3 (.int .i64)), (.sl 3 (.int .i64)), fun k x => impl_copyInts.f k x⟩
theorem impl_copyInts.eq (k : Nat) (x : (impl_copyInts.K.I).den) : func impl_copyInts.x impl_copyInts.h impl_copyInts.ps impl_copyInts.rs impl_copyInts.vs impl_copyInts.K.I impl_copyInts.K.O impl_copyInts.c k x = impl_copyInts.K.run k x := by
  show _ = impl_copyInts.f k x
  kernel_rfl
theorem impl_copyInts.ok : CtrOk Try.prog 79 impl_copyInts.K :=
  CtrOk.of (fn := Try.f79) (cd := impl_copyInts.c) (cx := impl_copyInts.x) (hs := impl_copyInts.h) (by kernel_rfl) (by kernel_rfl) (by kernel_rfl) (by kernel_rfl) tt_ok (envOk_nil) (by kernel_rfl) (by kernel_rfl) (by kernel_rfl) (by kernel_rfl) fun k x r h => (impl_copyInts.eq k x).trans h
/-! impl.copyChan -/
noncomputable def impl_copyChan.c : Code := bodyOf Try.f76
def impl_copyChan.h : Nat → Hint := look ⟨[], [], []⟩ []
def impl_copyChan.ps : List PK := [.agg 9]
def impl_copyChan.rs : List RK := [.agg 9 true]
def impl_copyChan.vs : List ResultVar := [.cell 2 36]
def impl_copyChan.x : Cx := ⟨tt, look none [(106, some impl_copyTexts.K), (79, some impl_copyInts.K)]⟩
def impl_copyChan.f (k : Nat) (a0_0 : Int) (a0_1 : Int) (a0_2 : Int) (a0_3 : List (ByteArray)) (a0_4 : List (Int × ByteArray × Int × Int)) (a0_5 : Int) (a0_6 : List (Int × ByteArray)) (a0_7 : List (Int)) (a0_8 : List (ByteArray)) : Option (Int × Int × Int × (List (ByteArray)) × (List (Int × ByteArray × Int × Int)) × Int × (List (Int × ByteArray)) × (List (Int)) × (List (ByteArray))) :=
  (impl_copyTexts.f k a0_3).bind fun r1 => (impl_copyTexts.f k a0_8).bind fun r2 => (impl_copyInts.f k a0_7).bind fun r3 => (bif decide ((([] : List (Int × ByteArray × Int × Int)).length + a0_4.length) * 40 ≤ 140737488355328) then (bif decide ((([] : List (Int × ByteArray)).length + a0_6.length) * 24 ≤ 140737488355328) then some (a0_0, a0_1, a0_2, r1, (([] : List (Int × ByteArray × Int × Int)) ++ a0_4), a0_5, (([] : List (Int × ByteArray)) ++ a0_6), r3, r2) else none) else none)
def impl_copyChan.K : Ctr := ⟨impl_copyChan.ps, impl_copyChan.rs, false, (.two (.int .i64) (.two (.int .i64) (.two (.int .i64) (.two (.sl 9 .str) (.two (.sl 92 (.two (.int .i64) (.two .str (.two (.int .i64) (.int .i64))))) (.two (.int .i64) (.two (.sl 87 (.two (.int .i64) .str)) (.two (.sl 3 (.int .i64)) (.sl 9 .str))))))))), (.two (.int .i64) (.two (.int .i64) (.two (.int .i64) (.two (.sl 9 .str) (.two (.sl 92 (.two (.int .i64) (.two .str (.two (.int .i64) (.int .i64))))) (.two (.int .i64) (.two (.sl 87 (.two (.int .i64) .str)) (.two (.sl 3 (.int .i64)) (.sl 9 .str))))))))), fun k x => impl_copyChan.f k x.1 x.2.1 x.2.2.1 x.2.2.2.1 x.2.2.2.2.1 x.2.2.2.2.2.1 x.2.2.2.2.2.2.1 x.2.2.2.2.2.2.2.1 x.2.2.2.2.2.2.2.2⟩
theorem impl_copyChan.eq (k : Nat) (x : (impl_copyChan.K.I).den) : func impl_copyChan.x impl_copyChan.h impl_copyChan.ps impl_copyChan.rs impl_copyChan.vs impl_copyChan.K.I impl_copyChan.K.O impl_copyChan.c k x = impl_copyChan.K.run k x := by
  show _ = impl_copyChan.f k x.1 x.2.1 x.2.2.1 x.2.2.2.1 x.2.2.2.2.1 x.2.2.2.2.2.1 x.2.2.2.2.2.2.1 x.2.2.2.2.2.2.2.1 x.2.2.2.2.2.2.2.2
  kernel_rfl
theorem impl_copyChan.ok : CtrOk Try.prog 76 impl_copyChan.K :=
  CtrOk.of (fn := Try.f76) (cd := impl_copyChan.c) (cx := impl_copyChan.x) (hs := impl_copyChan.h) (by kernel_rfl) (by kernel_rfl) (by kernel_rfl) (by kernel_rfl) tt_ok (envOk_cons impl_copyTexts.ok (envOk_cons impl_copyInts.ok (envOk_nil))) (by kernel_rfl) (by kernel_rfl) (by kernel_rfl) (by kernel_rfl) fun k x r h => (impl_copyChan.eq k x).trans h
/-! impl.within -/
noncomputable def impl_within.c : Code := bodyOf Try.f73
def impl_within.h : Nat → Hint := look ⟨[], [], []⟩ []
def impl_within.ps : List PK := [.one, .one, .one]
def impl_within.rs : List RK := [.one true]
def impl_within.vs : List ResultVar := [.tmp 6]
def impl_within.x : Cx := ⟨tt, look none []⟩
def impl_within.f (_k : Nat) (a0 : Int) (a1 : Int) (a2 : Int) : Option (Bool) :=
  (bif (decide (a0 ≥ a1)) then some (decide (a0 ≤ a2)) else some false)
def impl_within.K : Ctr := ⟨impl_within.ps, impl_within.rs, false, (.two (.int .i64) (.two (.int .i64) (.int .i64))), .bool, fun k x => impl_within.f k x.1 x.2.1 x.2.2⟩
theorem impl_within.eq (k : Nat) (x : (impl_within.K.I).den) : func impl_within.x impl_within.h impl_within.ps impl_within.rs impl_within.vs impl_within.K.I impl_within.K.O impl_within.c k x = impl_within.K.run k x := by
  show _ = impl_within.f k x.1 x.2.1 x.2.2
  kernel_rfl
theorem impl_within.ok : CtrOk Try.prog 73 impl_within.K :=
  CtrOk.of (fn := Try.f73) (cd := impl_within.c) (cx := impl_within.x) (hs := impl_within.h) (by kernel_rfl) (by kernel_rfl) (by kernel_rfl) (by kernel_rfl) tt_ok (envOk_nil) (by kernel_rfl) (by kernel_rfl) (by kernel_rfl) (by kernel_rfl) fun k x r h => (impl_within.eq k x).trans h
/-! impl.isId -/
noncomputable def impl_isId.c : Code := bodyOf Try.f53
def impl_isId.h : Nat → Hint := look ⟨[], [], []⟩ []
def impl_isId.ps : List PK := [.one]
def impl_isId.rs : List RK := [.one true]
def impl_isId.vs : List ResultVar := [.tmp 2]
def impl_isId.x : Cx := ⟨tt, look none [(73, some impl_within.K)]⟩
def impl_isId.f (k : Nat) (a0 : Int) : Option (Bool) :=
  (impl_within.f k a0 (1 : Int) (99 : Int)).bind fun r1 => some r1
def impl_isId.K : Ctr := ⟨impl_isId.ps, impl_isId.rs, false, (.int .i64), .bool, fun k x => impl_isId.f k x⟩
theorem impl_isId.eq (k : Nat) (x : (impl_isId.K.I).den) : func impl_isId.x impl_isId.h impl_isId.ps impl_isId.rs impl_isId.vs impl_isId.K.I impl_isId.K.O impl_isId.c k x = impl_isId.K.run k x := by
  show _ = impl_isId.f k x
  kernel_rfl
theorem impl_isId.ok : CtrOk Try.prog 53 impl_isId.K :=
  CtrOk.of (fn := Try.f53) (cd := impl_isId.c) (cx := impl_isId.x) (hs := impl_isId.h) (by kernel_rfl) (by kernel_rfl) (by kernel_rfl) (by kernel_rfl) tt_ok (envOk_cons impl_within.ok (envOk_nil)) (by kernel_rfl) (by kernel_rfl) (by kernel_rfl) (by kernel_rfl) fun k x r h => (impl_isId.eq k x).trans h
/-! impl.textsOk -/
noncomputable def impl_textsOk.c : Code := bodyOf Try.f74
def impl_textsOk.h : Nat → Hint := look ⟨[], [], []⟩ [(0, ⟨[7, 8, 9], [], []⟩), (2, ⟨[7, 8, 9, 13, 14, 15], [], [(.t 13, 384, 9, .str)]⟩)]
def impl_textsOk.ps : List PK := [.one]
def impl_textsOk.rs : List RK := [.one true]
def impl_textsOk.vs : List ResultVar := [.tmp 2]
def impl_textsOk.x : Cx := ⟨tt, look none []⟩
def impl_textsOk.s2 (_k : Nat) (rec0 : (Int × Int × (List ((List (ByteArray))))) → Option (Bool)) (rec2 : (Int × Int × Int × Int × (List ((List (ByteArray)))) × (List (ByteArray))) → Option (Bool)) (p : (Int × Int × Int × Int × (List ((List (ByteArray)))) × (List (ByteArray)))) : Option (Bool) :=
  (bif (decide (p.2.2.2.1 < p.2.2.1)) then (bif ((decide ((0 : Int) ≤ p.2.2.2.1)) && (decide (p.2.2.2.1 < (p.2.2.2.2.2.length : Int)))) then (p.2.2.2.2.2[p.2.2.2.1.toNat]?).bind fun x2 => (bif (decide ((x2.size : Int) > (120 : Int))) then some false else rec2 (p.1, p.2.1, p.2.2.1, (IntKind.i64.wrap (p.2.2.2.1 + (1 : Int))), p.2.2.2.2.1, p.2.2.2.2.2)) else none) else rec0 (p.1, (IntKind.i64.wrap (p.2.1 + (1 : Int))), p.2.2.2.2.1))
def impl_textsOk.l2 (k : Nat) (rec0 : (Int × Int × (List ((List (ByteArray))))) → Option (Bool)) : Nat → (Int × Int × Int × Int × (List ((List (ByteArray)))) × (List (ByteArray))) → Option (Bool)
  | 0 => fun _ => none
  | j + 1 => impl_textsOk.s2 k rec0 (impl_textsOk.l2 k rec0 j)
def impl_textsOk.s0 (_k : Nat) (_rec0 : (Int × Int × (List ((List (ByteArray))))) → Option (Bool)) (i2 : (Int × Int × Int × Int × (List ((List (ByteArray)))) × (List (ByteArray))) → Option (Bool)) (p : (Int × Int × (List ((List (ByteArray)))))) : Option (Bool) :=
  (bif (decide (p.2.1 < p.1)) then (bif ((decide ((0 : Int) ≤ p.2.1)) && (decide (p.2.1 < (p.2.2.length : Int)))) then (p.2.2[p.2.1.toNat]?).bind fun x1 => i2 (p.1, p.2.1, (x1.length : Int), (0 : Int), p.2.2, x1) else none) else some true)
def impl_textsOk.l0 (k : Nat) : Nat → (Int × Int × (List ((List (ByteArray))))) → Option (Bool)
  | 0 => fun _ => none
  | j + 1 => impl_textsOk.s0 k (impl_textsOk.l0 k j) (impl_textsOk.l2 k (impl_textsOk.l0 k j) k)
def impl_textsOk.S2 (p : (Int × Int × Int × Int × (List ((List (ByteArray)))) × (List (ByteArray)))) : DS := ⟨tl [(7, .at (.whole 0)), (8, .at (.int .i64 p.1)), (9, .at (.int .i64 p.2.1)), (13, .at (.whole 384)), (14, .at (.int .i64 p.2.2.1)), (15, .at (.int .i64 p.2.2.2.1))], lookO [(0, .row 32 (.sl 9 .str) false p.2.2.2.2.1), (384, .row 9 .str false p.2.2.2.2.2)]⟩
def impl_textsOk.S0 (p : (Int × Int × (List ((List (ByteArray)))))) : DS := ⟨tl [(7, .at (.whole 0)), (8, .at (.int .i64 p.1)), (9, .at (.int .i64 p.2.1))], lookO [(0, .row 32 (.sl 9 .str) false p.2.2)]⟩
noncomputable def impl_textsOk.D2 (k : Nat) (j0 : Nat) (j : Nat) (p : (Int × Int × Int × Int × (List ((List (ByteArray)))) × (List (ByteArray)))) : Option (Bool) := loopK (normK [0] (impl_textsOk.h 2)) (runK impl_textsOk.x k 0 [0] impl_textsOk.h 2 (sub impl_textsOk.c [1, 0, 1, 0, 0, 1, 1, 0, 0, 1, 1, 0, 0])) j (impl_textsOk.S2 p) (kBlk 2 (kBlk 1 (kSeq (runK impl_textsOk.x k 0 [0] impl_textsOk.h 0 (sub impl_textsOk.c [1, 0, 1, 0, 0, 1, 1, 1])) (kSeq (fun s' K => normK [0] (impl_textsOk.h 0) s' fun s => loopK (normK [0] (impl_textsOk.h 0)) (runK impl_textsOk.x k 0 [0] impl_textsOk.h 0 (sub impl_textsOk.c [1, 0, 1, 0, 0])) j0 s K) (kBlk 0 (kSeq (runK impl_textsOk.x k 0 [0] impl_textsOk.h 0 (sub impl_textsOk.c [1, 1])) (fin tt impl_textsOk.ps impl_textsOk.rs impl_textsOk.vs .bool)))))))
noncomputable def impl_textsOk.D0 (k : Nat) (j : Nat) (p : (Int × Int × (List ((List (ByteArray)))))) : Option (Bool) := loopK (normK [0] (impl_textsOk.h 0)) (runK impl_textsOk.x k 0 [0] impl_textsOk.h 0 (sub impl_textsOk.c [1, 0, 1, 0, 0])) j (impl_textsOk.S0 p) (kBlk 0 (kSeq (runK impl_textsOk.x k 0 [0] impl_textsOk.h 0 (sub impl_textsOk.c [1, 1])) (fin tt impl_textsOk.ps impl_textsOk.rs impl_textsOk.vs .bool)))
theorem impl_textsOk.D2_eq (k : Nat) (j0 : Nat) : ∀ j, impl_textsOk.D2 k j0 j = impl_textsOk.l2 k (impl_textsOk.D0 k j0) j := by
  intro j
  induction j with
  | zero => rfl
  | succ j ih =>
    show _ = impl_textsOk.s2 k (impl_textsOk.D0 k j0) (impl_textsOk.l2 k (impl_textsOk.D0 k j0) j)
    rw [← ih]
    funext p
    kernel_rfl
theorem impl_textsOk.D0_eq (k : Nat) : ∀ j, impl_textsOk.D0 k j = impl_textsOk.l0 k j := by
  intro j
  induction j with
  | zero => rfl
  | succ j ih =>
    show _ = impl_textsOk.s0 k (impl_textsOk.l0 k j) (impl_textsOk.l2 k (impl_textsOk.l0 k j) k)
    rw [← ih, ← impl_textsOk.D2_eq k j k]
    funext p
    kernel_rfl
def impl_textsOk.f (k : Nat) (a0 : List ((List (ByteArray)))) : Option (Bool) :=
  impl_textsOk.l0 k k ((a0.length : Int), (0 : Int), a0)
def impl_textsOk.K : Ctr := ⟨impl_textsOk.ps, impl_textsOk.rs, false, (.sl 32 (.sl 9 .str)), .bool, fun k x => impl_textsOk.f k x⟩
theorem impl_textsOk.eq (k : Nat) (x : (impl_textsOk.K.I).den) : func impl_textsOk.x impl_textsOk.h impl_textsOk.ps impl_textsOk.rs impl_textsOk.vs impl_textsOk.K.I impl_textsOk.K.O impl_textsOk.c k x = impl_textsOk.K.run k x := by
  show _ = impl_textsOk.f k x
  unfold impl_textsOk.f
  rw [← impl_textsOk.D0_eq k k]
  kernel_rfl
theorem impl_textsOk.ok : CtrOk Try.prog 74 impl_textsOk.K :=
  CtrOk.of (fn := Try.f74) (cd := impl_textsOk.c) (cx := impl_textsOk.x) (hs := impl_textsOk.h) (by kernel_rfl) (by kernel_rfl) (by kernel_rfl) (by kernel_rfl) tt_ok (envOk_nil) (by kernel_rfl) (by kernel_rfl) (by kernel_rfl) (by kernel_rfl) fun k x r h => (impl_textsOk.eq k x).trans h
/-! impl.ChanOk -/
noncomputable def impl_ChanOk.c : Code := bodyOf Try.f24
def impl_ChanOk.h : Nat → Hint := look ⟨[], [], []⟩ [(0, ⟨[1, 11, 12, 13], [16], []⟩), (2, ⟨[1, 60, 61, 62], [16], []⟩), (4, ⟨[1, 101, 102, 103], [16], []⟩)]
def impl_ChanOk.ps : List PK := [.agg 9]
def impl_ChanOk.rs : List RK := [.one true]
def impl_ChanOk.vs : List ResultVar := [.tmp 2]
def impl_ChanOk.x : Cx := ⟨tt, look none [(73, some impl_within.K), (53, some impl_isId.K), (74, some impl_textsOk.K)]⟩
def impl_ChanOk.s4 (k : Nat) (rec4 : (Int × Int × (List (ByteArray)) × (List (Int × ByteArray × Int × Int)) × (List (Int × ByteArray)) × (List (Int)) × (List (ByteArray)) × Int × Int × Int × Int) → Option (Bool)) (p : (Int × Int × (List (ByteArray)) × (List (Int × ByteArray × Int × Int)) × (List (Int × ByteArray)) × (List (Int)) × (List (ByteArray)) × Int × Int × Int × Int)) : Option (Bool) :=
  (bif (decide (p.2.1 < p.1)) then (bif ((decide ((0 : Int) ≤ p.2.1)) && (decide (p.2.1 < (p.2.2.2.2.2.1.length : Int)))) then (p.2.2.2.2.2.1[p.2.1.toNat]?).bind fun x13 => (impl_within.f k x13 (1 : Int) (IntKind.i64.wrap (p.2.2.2.2.2.2.2.2.2.2 + (4 : Int)))).bind fun r14 => (bif (!r14) then some false else rec4 (p.1, (IntKind.i64.wrap (p.2.1 + (1 : Int))), p.2.2.1, p.2.2.2.1, p.2.2.2.2.1, p.2.2.2.2.2.1, p.2.2.2.2.2.2.1, p.2.2.2.2.2.2.2.1, p.2.2.2.2.2.2.2.2.1, p.2.2.2.2.2.2.2.2.2.1, p.2.2.2.2.2.2.2.2.2.2)) else none) else (impl_isId.f k p.2.2.2.2.2.2.2.1).bind fun r15 => (bif r15 then (impl_isId.f k p.2.2.2.2.2.2.2.2.1).bind fun r16 => (bif r16 then (impl_within.f k p.2.2.2.2.2.2.2.2.2.1 (0 : Int) (1000 : Int)).bind fun r17 => (bif r17 then (impl_within.f k p.2.2.2.2.2.2.2.2.2.2 (0 : Int) (1000 : Int)).bind fun r18 => (bif r18 then (bif ((p.2.2.2.2.2.2.1.length : Int) == p.2.2.2.2.2.2.2.2.2.2) then (bif (decide ((p.2.2.1.length : Int) ≤ (30 : Int))) then (impl_textsOk.f k [p.2.2.1, p.2.2.2.2.2.2.1]).bind fun r19 => (bif r19 then (bif (decide ((p.2.2.2.1.length : Int) ≤ (4 : Int))) then some (decide ((p.2.2.2.2.2.1.length : Int) ≤ (4 : Int))) else some false) else some false) else some false) else some false) else some false) else some false) else some false) else some false))
def impl_ChanOk.l4 (k : Nat) : Nat → (Int × Int × (List (ByteArray)) × (List (Int × ByteArray × Int × Int)) × (List (Int × ByteArray)) × (List (Int)) × (List (ByteArray)) × Int × Int × Int × Int) → Option (Bool)
  | 0 => fun _ => none
  | j + 1 => impl_ChanOk.s4 k (impl_ChanOk.l4 k j)
def impl_ChanOk.s2 (k : Nat) (rec2 : (Int × Int × (List (ByteArray)) × (List (Int × ByteArray × Int × Int)) × (List (Int × ByteArray)) × (List (Int)) × (List (ByteArray)) × Int × Int × Int × Int) → Option (Bool)) (i4 : (Int × Int × (List (ByteArray)) × (List (Int × ByteArray × Int × Int)) × (List (Int × ByteArray)) × (List (Int)) × (List (ByteArray)) × Int × Int × Int × Int) → Option (Bool)) (p : (Int × Int × (List (ByteArray)) × (List (Int × ByteArray × Int × Int)) × (List (Int × ByteArray)) × (List (Int)) × (List (ByteArray)) × Int × Int × Int × Int)) : Option (Bool) :=
  (bif (decide (p.2.1 < p.1)) then (bif ((decide ((0 : Int) ≤ p.2.1)) && (decide (p.2.1 < (p.2.2.2.2.1.length : Int)))) then (p.2.2.2.2.1[p.2.1.toNat]?).bind fun x9 => (bif (decide (p.2.1 > (0 : Int))) then (bif ((decide ((0 : Int) ≤ (IntKind.i64.wrap (p.2.1 - (1 : Int))))) && (decide ((IntKind.i64.wrap (p.2.1 - (1 : Int))) < (p.2.2.2.2.1.length : Int)))) then (p.2.2.2.2.1[(IntKind.i64.wrap (p.2.1 - (1 : Int))).toNat]?).bind fun x10 => (bif (decide (x10.1 ≥ x9.1)) then some false else (impl_within.f k x9.1 (IntKind.i64.wrap (p.2.2.2.2.2.2.2.2.2.2 + (2 : Int))) (IntKind.i64.wrap (p.2.2.2.2.2.2.2.2.2.2 + (4 : Int)))).bind fun r11 => (bif (!r11) then some false else (bif (decide ((x9.2.size : Int) > (120 : Int))) then some false else rec2 (p.1, (IntKind.i64.wrap (p.2.1 + (1 : Int))), p.2.2.1, p.2.2.2.1, p.2.2.2.2.1, p.2.2.2.2.2.1, p.2.2.2.2.2.2.1, p.2.2.2.2.2.2.2.1, p.2.2.2.2.2.2.2.2.1, p.2.2.2.2.2.2.2.2.2.1, p.2.2.2.2.2.2.2.2.2.2)))) else none) else (impl_within.f k x9.1 (IntKind.i64.wrap (p.2.2.2.2.2.2.2.2.2.2 + (2 : Int))) (IntKind.i64.wrap (p.2.2.2.2.2.2.2.2.2.2 + (4 : Int)))).bind fun r12 => (bif (!r12) then some false else (bif (decide ((x9.2.size : Int) > (120 : Int))) then some false else rec2 (p.1, (IntKind.i64.wrap (p.2.1 + (1 : Int))), p.2.2.1, p.2.2.2.1, p.2.2.2.2.1, p.2.2.2.2.2.1, p.2.2.2.2.2.2.1, p.2.2.2.2.2.2.2.1, p.2.2.2.2.2.2.2.2.1, p.2.2.2.2.2.2.2.2.2.1, p.2.2.2.2.2.2.2.2.2.2)))) else none) else i4 ((p.2.2.2.2.2.1.length : Int), (0 : Int), p.2.2.1, p.2.2.2.1, p.2.2.2.2.1, p.2.2.2.2.2.1, p.2.2.2.2.2.2.1, p.2.2.2.2.2.2.2.1, p.2.2.2.2.2.2.2.2.1, p.2.2.2.2.2.2.2.2.2.1, p.2.2.2.2.2.2.2.2.2.2))
def impl_ChanOk.l2 (k : Nat) : Nat → (Int × Int × (List (ByteArray)) × (List (Int × ByteArray × Int × Int)) × (List (Int × ByteArray)) × (List (Int)) × (List (ByteArray)) × Int × Int × Int × Int) → Option (Bool)
  | 0 => fun _ => none
  | j + 1 => impl_ChanOk.s2 k (impl_ChanOk.l2 k j) (impl_ChanOk.l4 k k)
def impl_ChanOk.s0 (k : Nat) (rec0 : (Int × Int × (List (ByteArray)) × (List (Int × ByteArray × Int × Int)) × (List (Int × ByteArray)) × (List (Int)) × (List (ByteArray)) × Int × Int × Int × Int) → Option (Bool)) (i2 : (Int × Int × (List (ByteArray)) × (List (Int × ByteArray × Int × Int)) × (List (Int × ByteArray)) × (List (Int)) × (List (ByteArray)) × Int × Int × Int × Int) → Option (Bool)) (p : (Int × Int × (List (ByteArray)) × (List (Int × ByteArray × Int × Int)) × (List (Int × ByteArray)) × (List (Int)) × (List (ByteArray)) × Int × Int × Int × Int)) : Option (Bool) :=
  (bif (decide (p.2.1 < p.1)) then (bif ((decide ((0 : Int) ≤ p.2.1)) && (decide (p.2.1 < (p.2.2.2.1.length : Int)))) then (p.2.2.2.1[p.2.1.toNat]?).bind fun x1 => (bif (decide (p.2.1 > (0 : Int))) then (bif ((decide ((0 : Int) ≤ (IntKind.i64.wrap (p.2.1 - (1 : Int))))) && (decide ((IntKind.i64.wrap (p.2.1 - (1 : Int))) < (p.2.2.2.1.length : Int)))) then (p.2.2.2.1[(IntKind.i64.wrap (p.2.1 - (1 : Int))).toNat]?).bind fun x2 => (bif (decide (x2.1 ≥ x1.1)) then some false else (impl_within.f k x1.1 (1 : Int) p.2.2.2.2.2.2.2.2.2.1).bind fun r3 => (bif (!r3) then some false else (impl_within.f k x1.2.2.1 (0 : Int) (1000000000 : Int)).bind fun r4 => (bif (!r4) then some false else (impl_within.f k x1.2.2.2 (1 : Int) (8 : Int)).bind fun r5 => (bif (!r5) then some false else (bif (decide ((x1.2.1.size : Int) > (120 : Int))) then some false else rec0 (p.1, (IntKind.i64.wrap (p.2.1 + (1 : Int))), p.2.2.1, p.2.2.2.1, p.2.2.2.2.1, p.2.2.2.2.2.1, p.2.2.2.2.2.2.1, p.2.2.2.2.2.2.2.1, p.2.2.2.2.2.2.2.2.1, p.2.2.2.2.2.2.2.2.2.1, p.2.2.2.2.2.2.2.2.2.2)))))) else none) else (impl_within.f k x1.1 (1 : Int) p.2.2.2.2.2.2.2.2.2.1).bind fun r6 => (bif (!r6) then some false else (impl_within.f k x1.2.2.1 (0 : Int) (1000000000 : Int)).bind fun r7 => (bif (!r7) then some false else (impl_within.f k x1.2.2.2 (1 : Int) (8 : Int)).bind fun r8 => (bif (!r8) then some false else (bif (decide ((x1.2.1.size : Int) > (120 : Int))) then some false else rec0 (p.1, (IntKind.i64.wrap (p.2.1 + (1 : Int))), p.2.2.1, p.2.2.2.1, p.2.2.2.2.1, p.2.2.2.2.2.1, p.2.2.2.2.2.2.1, p.2.2.2.2.2.2.2.1, p.2.2.2.2.2.2.2.2.1, p.2.2.2.2.2.2.2.2.2.1, p.2.2.2.2.2.2.2.2.2.2)))))) else none) else i2 ((p.2.2.2.2.1.length : Int), (0 : Int), p.2.2.1, p.2.2.2.1, p.2.2.2.2.1, p.2.2.2.2.2.1, p.2.2.2.2.2.2.1, p.2.2.2.2.2.2.2.1, p.2.2.2.2.2.2.2.2.1, p.2.2.2.2.2.2.2.2.2.1, p.2.2.2.2.2.2.2.2.2.2))
def impl_ChanOk.l0 (k : Nat) : Nat → (Int × Int × (List (ByteArray)) × (List (Int × ByteArray × Int × Int)) × (List (Int × ByteArray)) × (List (Int)) × (List (ByteArray)) × Int × Int × Int × Int) → Option (Bool)
  | 0 => fun _ => none
  | j + 1 => impl_ChanOk.s0 k (impl_ChanOk.l0 k j) (impl_ChanOk.l2 k k)
def impl_ChanOk.S4 (p : (Int × Int × (List (ByteArray)) × (List (Int × ByteArray × Int × Int)) × (List (Int × ByteArray)) × (List (Int)) × (List (ByteArray)) × Int × Int × Int × Int)) : DS := ⟨tl [(1, .at (.bptr 16 0)), (101, .at (.whole 7)), (102, .at (.int .i64 p.1)), (103, .at (.int .i64 p.2.1))], lookO [(3, .row 9 .str false p.2.2.1), (4, .row 92 (.two (.int .i64) (.two .str (.two (.int .i64) (.int .i64)))) false p.2.2.2.1), (6, .row 87 (.two (.int .i64) .str) false p.2.2.2.2.1), (7, .row 3 (.int .i64) false p.2.2.2.2.2.1), (8, .row 9 .str false p.2.2.2.2.2.2.1), (16, .box 36 [.int .i64 p.2.2.2.2.2.2.2.1, .int .i64 p.2.2.2.2.2.2.2.2.1, .int .i64 p.2.2.2.2.2.2.2.2.2.1, .whole 3, .whole 4, .int .i64 p.2.2.2.2.2.2.2.2.2.2, .whole 6, .whole 7, .whole 8])]⟩
def impl_ChanOk.S2 (p : (Int × Int × (List (ByteArray)) × (List (Int × ByteArray × Int × Int)) × (List (Int × ByteArray)) × (List (Int)) × (List (ByteArray)) × Int × Int × Int × Int)) : DS := ⟨tl [(1, .at (.bptr 16 0)), (60, .at (.whole 6)), (61, .at (.int .i64 p.1)), (62, .at (.int .i64 p.2.1))], lookO [(3, .row 9 .str false p.2.2.1), (4, .row 92 (.two (.int .i64) (.two .str (.two (.int .i64) (.int .i64)))) false p.2.2.2.1), (6, .row 87 (.two (.int .i64) .str) false p.2.2.2.2.1), (7, .row 3 (.int .i64) false p.2.2.2.2.2.1), (8, .row 9 .str false p.2.2.2.2.2.2.1), (16, .box 36 [.int .i64 p.2.2.2.2.2.2.2.1, .int .i64 p.2.2.2.2.2.2.2.2.1, .int .i64 p.2.2.2.2.2.2.2.2.2.1, .whole 3, .whole 4, .int .i64 p.2.2.2.2.2.2.2.2.2.2, .whole 6, .whole 7, .whole 8])]⟩
def impl_ChanOk.S0 (p : (Int × Int × (List (ByteArray)) × (List (Int × ByteArray × Int × Int)) × (List (Int × ByteArray)) × (List (Int)) × (List (ByteArray)) × Int × Int × Int × Int)) : DS := ⟨tl [(1, .at (.bptr 16 0)), (11, .at (.whole 4)), (12, .at (.int .i64 p.1)), (13, .at (.int .i64 p.2.1))], lookO [(3, .row 9 .str false p.2.2.1), (4, .row 92 (.two (.int .i64) (.two .str (.two (.int .i64) (.int .i64)))) false p.2.2.2.1), (6, .row 87 (.two (.int .i64) .str) false p.2.2.2.2.1), (7, .row 3 (.int .i64) false p.2.2.2.2.2.1), (8, .row 9 .str false p.2.2.2.2.2.2.1), (16, .box 36 [.int .i64 p.2.2.2.2.2.2.2.1, .int .i64 p.2.2.2.2.2.2.2.2.1, .int .i64 p.2.2.2.2.2.2.2.2.2.1, .whole 3, .whole 4, .int .i64 p.2.2.2.2.2.2.2.2.2.2, .whole 6, .whole 7, .whole 8])]⟩
noncomputable def impl_ChanOk.D4 (k : Nat) (j : Nat) (p : (Int × Int × (List (ByteArray)) × (List (Int × ByteArray × Int × Int)) × (List (Int × ByteArray)) × (List (Int)) × (List (ByteArray)) × Int × Int × Int × Int)) : Option (Bool) := loopK (normK [3, 4, 6, 7, 8] (impl_ChanOk.h 4)) (runK impl_ChanOk.x k 0 [3, 4, 6, 7, 8] impl_ChanOk.h 4 (sub impl_ChanOk.c [1, 1, 1, 0, 1, 0, 0])) j (impl_ChanOk.S4 p) (kBlk 4 (kSeq (runK impl_ChanOk.x k 0 [3, 4, 6, 7, 8] impl_ChanOk.h 0 (sub impl_ChanOk.c [1, 1, 1, 1])) (fin tt impl_ChanOk.ps impl_ChanOk.rs impl_ChanOk.vs .bool)))
noncomputable def impl_ChanOk.D2 (k : Nat) (j : Nat) (p : (Int × Int × (List (ByteArray)) × (List (Int × ByteArray × Int × Int)) × (List (Int × ByteArray)) × (List (Int)) × (List (ByteArray)) × Int × Int × Int × Int)) : Option (Bool) := loopK (normK [3, 4, 6, 7, 8] (impl_ChanOk.h 2)) (runK impl_ChanOk.x k 0 [3, 4, 6, 7, 8] impl_ChanOk.h 2 (sub impl_ChanOk.c [1, 1, 0, 1, 0, 0])) j (impl_ChanOk.S2 p) (kBlk 2 (kSeq (runK impl_ChanOk.x k 0 [3, 4, 6, 7, 8] impl_ChanOk.h 0 (sub impl_ChanOk.c [1, 1, 1])) (fin tt impl_ChanOk.ps impl_ChanOk.rs impl_ChanOk.vs .bool)))
noncomputable def impl_ChanOk.D0 (k : Nat) (j : Nat) (p : (Int × Int × (List (ByteArray)) × (List (Int × ByteArray × Int × Int)) × (List (Int × ByteArray)) × (List (Int)) × (List (ByteArray)) × Int × Int × Int × Int)) : Option (Bool) := loopK (normK [3, 4, 6, 7, 8] (impl_ChanOk.h 0)) (runK impl_ChanOk.x k 0 [3, 4, 6, 7, 8] impl_ChanOk.h 0 (sub impl_ChanOk.c [1, 0, 1, 0, 0])) j (impl_ChanOk.S0 p) (kBlk 0 (kSeq (runK impl_ChanOk.x k 0 [3, 4, 6, 7, 8] impl_ChanOk.h 0 (sub impl_ChanOk.c [1, 1])) (fin tt impl_ChanOk.ps impl_ChanOk.rs impl_ChanOk.vs .bool)))
theorem impl_ChanOk.D4_eq (k : Nat) : ∀ j, impl_ChanOk.D4 k j = impl_ChanOk.l4 k j := by
  intro j
  induction j with
  | zero => rfl
  | succ j ih =>
    show _ = impl_ChanOk.s4 k (impl_ChanOk.l4 k j)
    rw [← ih]
    funext p
    kernel_rfl
theorem impl_ChanOk.D2_eq (k : Nat) : ∀ j, impl_ChanOk.D2 k j = impl_ChanOk.l2 k j := by
  intro j
  induction j with
  | zero => rfl
  | succ j ih =>
    show _ = impl_ChanOk.s2 k (impl_ChanOk.l2 k j) (impl_ChanOk.l4 k k)
    rw [← ih, ← impl_ChanOk.D4_eq k k]
    funext p
    kernel_rfl
theorem impl_ChanOk.D0_eq (k : Nat) : ∀ j, impl_ChanOk.D0 k j = impl_ChanOk.l0 k j := by
  intro j
  induction j with
  | zero => rfl
  | succ j ih =>
    show _ = impl_ChanOk.s0 k (impl_ChanOk.l0 k j) (impl_ChanOk.l2 k k)
    rw [← ih, ← impl_ChanOk.D2_eq k k]
    funext p
    kernel_rfl
def impl_ChanOk.f (k : Nat) (a0_0 : Int) (a0_1 : Int) (a0_2 : Int) (a0_3 : List (ByteArray)) (a0_4 : List (Int × ByteArray × Int × Int)) (a0_5 : Int) (a0_6 : List (Int × ByteArray)) (a0_7 : List (Int)) (a0_8 : List (ByteArray)) : Option (Bool) :=
  impl_ChanOk.l0 k k ((a0_4.length : Int), (0 : Int), a0_3, a0_4, a0_6, a0_7, a0_8, a0_0, a0_1, a0_2, a0_5)
def impl_ChanOk.K : Ctr := ⟨impl_ChanOk.ps, impl_ChanOk.rs, false, (.two (.int .i64) (.two (.int .i64) (.two (.int .i64) (.two (.sl 9 .str) (.two (.sl 92 (.two (.int .i64) (.two .str (.two (.int .i64) (.int .i64))))) (.two (.int .i64) (.two (.sl 87 (.two (.int .i64) .str)) (.two (.sl 3 (.int .i64)) (.sl 9 .str))))))))), .bool, fun k x => impl_ChanOk.f k x.1 x.2.1 x.2.2.1 x.2.2.2.1 x.2.2.2.2.1 x.2.2.2.2.2.1 x.2.2.2.2.2.2.1 x.2.2.2.2.2.2.2.1 x.2.2.2.2.2.2.2.2⟩
theorem impl_ChanOk.eq (k : Nat) (x : (impl_ChanOk.K.I).den) : func impl_ChanOk.x impl_ChanOk.h impl_ChanOk.ps impl_ChanOk.rs impl_ChanOk.vs impl_ChanOk.K.I impl_ChanOk.K.O impl_ChanOk.c k x = impl_ChanOk.K.run k x := by
  show _ = impl_ChanOk.f k x.1 x.2.1 x.2.2.1 x.2.2.2.1 x.2.2.2.2.1 x.2.2.2.2.2.1 x.2.2.2.2.2.2.1 x.2.2.2.2.2.2.2.1 x.2.2.2.2.2.2.2.2
  unfold impl_ChanOk.f
  rw [← impl_ChanOk.D0_eq k k]
  kernel_rfl
theorem impl_ChanOk.ok : CtrOk Try.prog 24 impl_ChanOk.K :=
  CtrOk.of (fn := Try.f24) (cd := impl_ChanOk.c) (cx := impl_ChanOk.x) (hs := impl_ChanOk.h) (by kernel_rfl) (by kernel_rfl) (by kernel_rfl) (by kernel_rfl) tt_ok (envOk_cons impl_within.ok (envOk_cons impl_isId.ok (envOk_cons impl_textsOk.ok (envOk_nil)))) (by kernel_rfl) (by kernel_rfl) (by kernel_rfl) (by kernel_rfl) fun k x r h => (impl_ChanOk.eq k x).trans h
/-! (*impl.Chan).fill -/
noncomputable def impl_Chan_fill.c : Code := bodyOf Try.f78
def impl_Chan_fill.h : Nat → Hint := look ⟨[], [], []⟩ [(0, ⟨[0, 1], [], [(.b 0 3, 1248, 9, .str), (.b 0 4, 1249, 92, (.two (.int .i64) (.two .str (.two (.int .i64) (.int .i64))))), (.b 0 6, 1250, 87, (.two (.int .i64) .str)), (.b 0 7, 1251, 3, (.int .i64)), (.b 0 8, 1252, 9, .str)]⟩)]
def impl_Chan_fill.ps : List PK := [.boxg 36 9, .one]
def impl_Chan_fill.rs : List RK := []
def impl_Chan_fill.vs : List ResultVar := []
def impl_Chan_fill.x : Cx := ⟨tt, look none []⟩
def impl_Chan_fill.s0 (_k : Nat) (rec0 : (Int × Int × Int × Int × Int × (List (ByteArray)) × (List (Int × ByteArray × Int × Int)) × (List (Int × ByteArray)) × (List (Int)) × (List (ByteArray))) → Option (Int × Int × Int × (List (ByteArray)) × (List (Int × ByteArray × Int × Int)) × Int × (List (Int × ByteArray)) × (List (Int)) × (List (ByteArray)))) (p : (Int × Int × Int × Int × Int × (List (ByteArray)) × (List (Int × ByteArray × Int × Int)) × (List (Int × ByteArray)) × (List (Int)) × (List (ByteArray)))) : Option (Int × Int × Int × (List (ByteArray)) × (List (Int × ByteArray × Int × Int)) × Int × (List (Int × ByteArray)) × (List (Int)) × (List (ByteArray))) :=
  (bif (decide ((p.2.2.2.2.2.1.length : Int) > (0 : Int))) then (bif (decide ((p.2.2.2.2.2.2.1.length : Int) < (4 : Int))) then (bif ((p.2.2.2.2.2.2.1.length : Int) == (0 : Int)) then (bif (true && (decide ((0 : Int) < (p.2.2.2.2.2.1.length : Int)))) then (p.2.2.2.2.2.1[0]?).bind fun x1 => (bif decide ((p.2.2.2.2.2.2.1.length + [((IntKind.i64.wrap (p.2.2.2.1 + (1 : Int))), x1, p.1, (0 : Int))].length) * 40 ≤ 140737488355328) then (bif (true && (decide ((1 : Int) ≤ (p.2.2.2.2.2.1.length : Int)))) then rec0 (p.1, p.2.1, p.2.2.1, (IntKind.i64.wrap (p.2.2.2.1 + (1 : Int))), p.2.2.2.2.1, ((p.2.2.2.2.2.1.drop 1).take (p.2.2.2.2.2.1.length - 1)), (p.2.2.2.2.2.2.1 ++ [((IntKind.i64.wrap (p.2.2.2.1 + (1 : Int))), x1, p.1, (0 : Int))]), p.2.2.2.2.2.2.2.1, p.2.2.2.2.2.2.2.2.1, p.2.2.2.2.2.2.2.2.2) else none) else none) else none) else (bif (true && (decide ((0 : Int) < (p.2.2.2.2.2.2.1.length : Int)))) then (p.2.2.2.2.2.2.1[0]?).bind fun x2 => (bif (decide (x2.1 > (IntKind.i64.wrap ((IntKind.i64.wrap (p.2.2.2.1 + (1 : Int))) - (4 : Int))))) then (bif (true && (decide ((0 : Int) < (p.2.2.2.2.2.1.length : Int)))) then (p.2.2.2.2.2.1[0]?).bind fun x3 => (bif decide ((p.2.2.2.2.2.2.1.length + [((IntKind.i64.wrap (p.2.2.2.1 + (1 : Int))), x3, p.1, (0 : Int))].length) * 40 ≤ 140737488355328) then (bif (true && (decide ((1 : Int) ≤ (p.2.2.2.2.2.1.length : Int)))) then rec0 (p.1, p.2.1, p.2.2.1, (IntKind.i64.wrap (p.2.2.2.1 + (1 : Int))), p.2.2.2.2.1, ((p.2.2.2.2.2.1.drop 1).take (p.2.2.2.2.2.1.length - 1)), (p.2.2.2.2.2.2.1 ++ [((IntKind.i64.wrap (p.2.2.2.1 + (1 : Int))), x3, p.1, (0 : Int))]), p.2.2.2.2.2.2.2.1, p.2.2.2.2.2.2.2.2.1, p.2.2.2.2.2.2.2.2.2) else none) else none) else none) else some (p.2.1, p.2.2.1, p.2.2.2.1, p.2.2.2.2.2.1, p.2.2.2.2.2.2.1, p.2.2.2.2.1, p.2.2.2.2.2.2.2.1, p.2.2.2.2.2.2.2.2.1, p.2.2.2.2.2.2.2.2.2)) else none)) else some (p.2.1, p.2.2.1, p.2.2.2.1, p.2.2.2.2.2.1, p.2.2.2.2.2.2.1, p.2.2.2.2.1, p.2.2.2.2.2.2.2.1, p.2.2.2.2.2.2.2.2.1, p.2.2.2.2.2.2.2.2.2)) else some (p.2.1, p.2.2.1, p.2.2.2.1, p.2.2.2.2.2.1, p.2.2.2.2.2.2.1, p.2.2.2.2.1, p.2.2.2.2.2.2.2.1, p.2.2.2.2.2.2.2.2.1, p.2.2.2.2.2.2.2.2.2))
def impl_Chan_fill.l0 (k : Nat) : Nat → (Int × Int × Int × Int × Int × (List (ByteArray)) × (List (Int × ByteArray × Int × Int)) × (List (Int × ByteArray)) × (List (Int)) × (List (ByteArray))) → Option (Int × Int × Int × (List (ByteArray)) × (List (Int × ByteArray × Int × Int)) × Int × (List (Int × ByteArray)) × (List (Int)) × (List (ByteArray)))
  | 0 => fun _ => none
  | j + 1 => impl_Chan_fill.s0 k (impl_Chan_fill.l0 k j)
def impl_Chan_fill.S0 (p : (Int × Int × Int × Int × Int × (List (ByteArray)) × (List (Int × ByteArray × Int × Int)) × (List (Int × ByteArray)) × (List (Int)) × (List (ByteArray)))) : DS := ⟨tl [(0, .at (.bptr 0 0)), (1, .at (.int .i64 p.1))], lookO [(0, .box 36 [.int .i64 p.2.1, .int .i64 p.2.2.1, .int .i64 p.2.2.2.1, .whole 1248, .whole 1249, .int .i64 p.2.2.2.2.1, .whole 1250, .whole 1251, .whole 1252]), (1248, .row 9 .str true p.2.2.2.2.2.1), (1249, .row 92 (.two (.int .i64) (.two .str (.two (.int .i64) (.int .i64)))) true p.2.2.2.2.2.2.1), (1250, .row 87 (.two (.int .i64) .str) true p.2.2.2.2.2.2.2.1), (1251, .row 3 (.int .i64) true p.2.2.2.2.2.2.2.2.1), (1252, .row 9 .str true p.2.2.2.2.2.2.2.2.2)]⟩
noncomputable def impl_Chan_fill.D0 (k : Nat) (j : Nat) (p : (Int × Int × Int × Int × Int × (List (ByteArray)) × (List (Int × ByteArray × Int × Int)) × (List (Int × ByteArray)) × (List (Int)) × (List (ByteArray)))) : Option (Int × Int × Int × (List (ByteArray)) × (List (Int × ByteArray × Int × Int)) × Int × (List (Int × ByteArray)) × (List (Int)) × (List (ByteArray))) := loopK (normK [0] (impl_Chan_fill.h 0)) (runK impl_Chan_fill.x k 0 [0] impl_Chan_fill.h 0 (sub impl_Chan_fill.c [0, 0])) j (impl_Chan_fill.S0 p) (kBlk 0 (fin tt impl_Chan_fill.ps impl_Chan_fill.rs impl_Chan_fill.vs (.two (.int .i64) (.two (.int .i64) (.two (.int .i64) (.two (.sl 9 .str) (.two (.sl 92 (.two (.int .i64) (.two .str (.two (.int .i64) (.int .i64))))) (.two (.int .i64) (.two (.sl 87 (.two (.int .i64) .str)) (.two (.sl 3 (.int .i64)) (.sl 9 .str)))))))))))
theorem impl_Chan_fill.D0_eq (k : Nat) : ∀ j, impl_Chan_fill.D0 k j = impl_Chan_fill.l0 k j := by
  intro j
  induction j with
  | zero => rfl
  | succ j ih =>
    show _ = impl_Chan_fill.s0 k (impl_Chan_fill.l0 k j)
    rw [← ih]
    funext p
    kernel_rfl
def impl_Chan_fill.f (k : Nat) (a0_0 : Int) (a0_1 : Int) (a0_2 : Int) (a0_3 : List (ByteArray)) (a0_4 : List (Int × ByteArray × Int × Int)) (a0_5 : Int) (a0_6 : List (Int × ByteArray)) (a0_7 : List (Int)) (a0_8 : List (ByteArray)) (a1 : Int) : Option (Int × Int × Int × (List (ByteArray)) × (List (Int × ByteArray × Int × Int)) × Int × (List (Int × ByteArray)) × (List (Int)) × (List (ByteArray))) :=
  impl_Chan_fill.l0 k k (a1, a0_0, a0_1, a0_2, a0_5, a0_3, a0_4, a0_6, a0_7, a0_8)
def impl_Chan_fill.K : Ctr := ⟨impl_Chan_fill.ps, impl_Chan_fill.rs, false, (.two (.int .i64) (.two (.int .i64) (.two (.int .i64) (.two (.sl 9 .str) (.two (.sl 92 (.two (.int .i64) (.two .str (.two (.int .i64) (.int .i64))))) (.two (.int .i64) (.two (.sl 87 (.two (.int .i64) .str)) (.two (.sl 3 (.int .i64)) (.two (.sl 9 .str) (.int .i64)))))))))), (.two (.int .i64) (.two (.int .i64) (.two (.int .i64) (.two (.sl 9 .str) (.two (.sl 92 (.two (.int .i64) (.two .str (.two (.int .i64) (.int .i64))))) (.two (.int .i64) (.two (.sl 87 (.two (.int .i64) .str)) (.two (.sl 3 (.int .i64)) (.sl 9 .str))))))))), fun k x => impl_Chan_fill.f k x.1 x.2.1 x.2.2.1 x.2.2.2.1 x.2.2.2.2.1 x.2.2.2.2.2.1 x.2.2.2.2.2.2.1 x.2.2.2.2.2.2.2.1 x.2.2.2.2.2.2.2.2.1 x.2.2.2.2.2.2.2.2.2⟩
theorem impl_Chan_fill.eq (k : Nat) (x : (impl_Chan_fill.K.I).den) : func impl_Chan_fill.x impl_Chan_fill.h impl_Chan_fill.ps impl_Chan_fill.rs impl_Chan_fill.vs impl_Chan_fill.K.I impl_Chan_fill.K.O impl_Chan_fill.c k x = impl_Chan_fill.K.run k x := by
  show _ = impl_Chan_fill.f k x.1 x.2.1 x.2.2.1 x.2.2.2.1 x.2.2.2.2.1 x.2.2.2.2.2.1 x.2.2.2.2.2.2.1 x.2.2.2.2.2.2.2.1 x.2.2.2.2.2.2.2.2.1 x.2.2.2.2.2.2.2.2.2
  unfold impl_Chan_fill.f
  rw [← impl_Chan_fill.D0_eq k k]
  kernel_rfl
theorem impl_Chan_fill.ok : CtrOk Try.prog 78 impl_Chan_fill.K :=
  CtrOk.of (fn := Try.f78) (cd := impl_Chan_fill.c) (cx := impl_Chan_fill.x) (hs := impl_Chan_fill.h) (by kernel_rfl) (by kernel_rfl) (by kernel_rfl) (by kernel_rfl) tt_ok (envOk_nil) (by kernel_rfl) (by kernel_rfl) (by kernel_rfl) (by kernel_rfl) fun k x r h => (impl_Chan_fill.eq k x).trans h
end Go.Proofs.Ytpheniajdbbphaa.DI
