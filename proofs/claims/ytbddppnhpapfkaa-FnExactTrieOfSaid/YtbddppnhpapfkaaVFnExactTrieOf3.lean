/- FnExactTrieOf: functions as plain Lean, in the machine of values. -/
import Derived.Test.YtbddppnhpapfkaaVFnExactTrieOf2
namespace Go.Proofs.Ytbddppnhpapfkaa.DI
open Go
set_option linter.unusedVariables false
/-! impl.TriePut -/
noncomputable def impl_TriePut.c : Code := bodyOf Try.f45
def impl_TriePut.h : Nat → Hint := look ⟨[], [], []⟩ [(0, ⟨[2, 3, 4, 6, 8, 9, 31, 32], [48, 64, 96, 128], [(.b 96 0, 1376, 104, (.two (.int .i64) (.two (.int .i64) (.int .i64)))), (.b 128 0, 1377, 104, (.two (.int .i64) (.two (.int .i64) (.int .i64))))]⟩)]
def impl_TriePut.ps : List PK := [.agg 1, .agg 2, .one]
def impl_TriePut.rs : List RK := [.agg 1 true, .one true]
def impl_TriePut.vs : List ResultVar := [.cell 6 55, .tmp 7]
def impl_TriePut.x : Cx := ⟨tt, look none [(51, some impl_TrieOk.K), (94, some impl_copyTrie.K), (62, some impl_PrefixOk.K), (89, some impl_within.K), (80, some impl_bitOf.K), (79, some impl_along.K)]⟩
def impl_TriePut.s0 (k : Nat) (rec0 : (Int × Int × Int × Int × (List (Int × Int × Int)) × Int × Int × (List (Int × Int × Int)) × (List (Int × Int × Int))) → Option ((List (Int × Int × Int)) × Bool)) (p : (Int × Int × Int × Int × (List (Int × Int × Int)) × Int × Int × (List (Int × Int × Int)) × (List (Int × Int × Int)))) : Option ((List (Int × Int × Int)) × Bool) :=
  (bif (decide (p.2.2.2.1 < p.2.2.1)) then (impl_bitOf.f k p.2.2.2.2.2.1 p.2.2.2.1).bind fun r8 => (bif ((decide ((0 : Int) ≤ p.2.1)) && (decide (p.2.1 < (p.2.2.2.2.2.2.2.2.length : Int)))) then (p.2.2.2.2.2.2.2.2[p.2.1.toNat]?).bind fun x9 => (impl_along.f k x9.1 x9.2.1 x9.2.2 r8).bind fun r10 => (bif (r10 == (0 : Int)) then (bif decide ((p.2.2.2.2.2.2.2.2.length + [((0 : Int), (0 : Int), (0 : Int))].length) * 24 ≤ 140737488355328) then (bif (r8 == (0 : Int)) then (bif ((decide ((0 : Int) ≤ p.2.1)) && (decide (p.2.1 < ((p.2.2.2.2.2.2.2.2 ++ [((0 : Int), (0 : Int), (0 : Int))]).length : Int)))) then ((p.2.2.2.2.2.2.2.2 ++ [((0 : Int), (0 : Int), (0 : Int))])[p.2.1.toNat]?).bind fun x11 => rec0 (p.1, (p.2.2.2.2.2.2.2.2.length : Int), p.2.2.1, (IntKind.i64.wrap (p.2.2.2.1 + (1 : Int))), p.2.2.2.2.1, p.2.2.2.2.2.1, p.2.2.2.2.2.2.1, p.2.2.2.2.2.2.2.1, ((p.2.2.2.2.2.2.2.2 ++ [((0 : Int), (0 : Int), (0 : Int))]).set p.2.1.toNat ((p.2.2.2.2.2.2.2.2.length : Int), x11.2))) else none) else (bif ((decide ((0 : Int) ≤ p.2.1)) && (decide (p.2.1 < ((p.2.2.2.2.2.2.2.2 ++ [((0 : Int), (0 : Int), (0 : Int))]).length : Int)))) then ((p.2.2.2.2.2.2.2.2 ++ [((0 : Int), (0 : Int), (0 : Int))])[p.2.1.toNat]?).bind fun x12 => rec0 (p.1, (p.2.2.2.2.2.2.2.2.length : Int), p.2.2.1, (IntKind.i64.wrap (p.2.2.2.1 + (1 : Int))), p.2.2.2.2.1, p.2.2.2.2.2.1, p.2.2.2.2.2.2.1, p.2.2.2.2.2.2.2.1, ((p.2.2.2.2.2.2.2.2 ++ [((0 : Int), (0 : Int), (0 : Int))]).set p.2.1.toNat (x12.1, (p.2.2.2.2.2.2.2.2.length : Int), x12.2.2))) else none)) else none) else rec0 (p.1, r10, p.2.2.1, (IntKind.i64.wrap (p.2.2.2.1 + (1 : Int))), p.2.2.2.2.1, p.2.2.2.2.2.1, p.2.2.2.2.2.2.1, p.2.2.2.2.2.2.2.1, p.2.2.2.2.2.2.2.2)) else none) else (bif ((decide ((0 : Int) ≤ p.2.1)) && (decide (p.2.1 < (p.2.2.2.2.2.2.2.2.length : Int)))) then (p.2.2.2.2.2.2.2.2[p.2.1.toNat]?).bind fun x13 => (bif (decide (((p.2.2.2.2.2.2.2.2.set p.2.1.toNat (x13.1, x13.2.1, p.1)).length : Int) > (400 : Int))) then (impl_copyTrie.f k p.2.2.2.2.1).bind fun r14 => some (r14, false) else some ((p.2.2.2.2.2.2.2.2.set p.2.1.toNat (x13.1, x13.2.1, p.1)), true)) else none))
def impl_TriePut.l0 (k : Nat) : Nat → (Int × Int × Int × Int × (List (Int × Int × Int)) × Int × Int × (List (Int × Int × Int)) × (List (Int × Int × Int))) → Option ((List (Int × Int × Int)) × Bool)
  | 0 => fun _ => none
  | j + 1 => impl_TriePut.s0 k (impl_TriePut.l0 k j)
def impl_TriePut.S0 (p : (Int × Int × Int × Int × (List (Int × Int × Int)) × Int × Int × (List (Int × Int × Int)) × (List (Int × Int × Int)))) : DS := ⟨tl [(2, .at (.int .i64 p.1)), (3, .at (.bptr 48 0)), (4, .at (.bptr 64 0)), (6, .at (.bptr 96 0)), (8, .at (.bptr 128 0)), (9, .at (.int .i64 p.2.1)), (31, .at (.int .i64 p.2.2.1)), (32, .at (.int .i64 p.2.2.2.1))], lookO [(0, .row 104 (.two (.int .i64) (.two (.int .i64) (.int .i64))) false p.2.2.2.2.1), (48, .box 55 [.whole 0]), (64, .box 40 [.int .i64 p.2.2.2.2.2.1, .int .i64 p.2.2.2.2.2.2.1]), (96, .box 55 [.whole 1376]), (128, .box 55 [.whole 1377]), (1376, .row 104 (.two (.int .i64) (.two (.int .i64) (.int .i64))) true p.2.2.2.2.2.2.2.1), (1377, .row 104 (.two (.int .i64) (.two (.int .i64) (.int .i64))) true p.2.2.2.2.2.2.2.2)]⟩
noncomputable def impl_TriePut.D0 (k : Nat) (j : Nat) (p : (Int × Int × Int × Int × (List (Int × Int × Int)) × Int × Int × (List (Int × Int × Int)) × (List (Int × Int × Int)))) : Option ((List (Int × Int × Int)) × Bool) := loopK (norm [0] (impl_TriePut.h 0)) (runK impl_TriePut.x k 0 [0] impl_TriePut.h 0 (sub impl_TriePut.c [1, 1, 1, 1, 0, 1, 0, 0])) j (impl_TriePut.S0 p) (kBlk 0 (kSeq (runK impl_TriePut.x k 0 [0] impl_TriePut.h 0 (sub impl_TriePut.c [1, 1, 1, 1, 1])) (fin tt impl_TriePut.ps impl_TriePut.rs impl_TriePut.vs (.two (.sl 104 (.two (.int .i64) (.two (.int .i64) (.int .i64)))) .bool))))
theorem impl_TriePut.D0_eq (k : Nat) : ∀ j, impl_TriePut.D0 k j = impl_TriePut.l0 k j := by
  intro j
  induction j with
  | zero => rfl
  | succ j ih =>
    show _ = impl_TriePut.s0 k (impl_TriePut.l0 k j)
    rw [← ih]
    funext p
    kernel_rfl
def impl_TriePut.f (k : Nat) (a0 : List (Int × Int × Int)) (a1_0 : Int) (a1_1 : Int) (a2 : Int) : Option ((List (Int × Int × Int)) × Bool) :=
  (impl_TrieOk.f k a0).bind fun r1 => (bif (!r1) then (impl_copyTrie.f k a0).bind fun r2 => some (r2, false) else (impl_PrefixOk.f k a1_0 a1_1).bind fun r3 => (bif (!r3) then (impl_copyTrie.f k a0).bind fun r4 => some (r4, false) else (impl_within.f k a2 (0 : Int) (99 : Int)).bind fun r5 => (bif (!r5) then (impl_copyTrie.f k a0).bind fun r6 => some (r6, false) else (impl_copyTrie.f k a0).bind fun r7 => impl_TriePut.l0 k k (a2, (0 : Int), a1_1, (0 : Int), a0, a1_0, a1_1, ([] : List (Int × Int × Int)), r7))))
def impl_TriePut.K : Ctr := ⟨impl_TriePut.ps, impl_TriePut.rs, false, (.two (.sl 104 (.two (.int .i64) (.two (.int .i64) (.int .i64)))) (.two (.int .i64) (.two (.int .i64) (.int .i64)))), (.two (.sl 104 (.two (.int .i64) (.two (.int .i64) (.int .i64)))) .bool), fun k x => impl_TriePut.f k x.1 x.2.1 x.2.2.1 x.2.2.2⟩
theorem impl_TriePut.eq (k : Nat) (x : (impl_TriePut.K.I).den) : func impl_TriePut.x impl_TriePut.h impl_TriePut.ps impl_TriePut.rs impl_TriePut.vs impl_TriePut.K.I impl_TriePut.K.O impl_TriePut.c k x = impl_TriePut.K.run k x := by
  show _ = impl_TriePut.f k x.1 x.2.1 x.2.2.1 x.2.2.2
  unfold impl_TriePut.f
  rw [← impl_TriePut.D0_eq k k]
  kernel_rfl
theorem impl_TriePut.ok : CtrOk Try.prog 45 impl_TriePut.K :=
  CtrOk.of (fn := Try.f45) (cd := impl_TriePut.c) (cx := impl_TriePut.x) (hs := impl_TriePut.h) (by kernel_rfl) (by kernel_rfl) (by kernel_rfl) (by kernel_rfl) tt_ok (envOk_cons impl_TrieOk.ok (envOk_cons impl_copyTrie.ok (envOk_cons impl_PrefixOk.ok (envOk_cons impl_within.ok (envOk_cons impl_bitOf.ok (envOk_cons impl_along.ok (envOk_nil))))))) (by kernel_rfl) (by kernel_rfl) (by kernel_rfl) (by kernel_rfl) fun k x r h => (impl_TriePut.eq k x).trans h
/-! impl.TrieOf -/
noncomputable def impl_TrieOf.c : Code := bodyOf Try.f49
def impl_TrieOf.h : Nat → Hint := look ⟨[], [], []⟩ [(0, ⟨[2, 3, 11, 12, 13], [32, 48], [(.b 32 0, 448, 104, (.two (.int .i64) (.two (.int .i64) (.int .i64)))), (.b 48 0, 449, 104, (.two (.int .i64) (.two (.int .i64) (.int .i64))))]⟩)]
def impl_TrieOf.ps : List PK := [.one]
def impl_TrieOf.rs : List RK := [.agg 1 true]
def impl_TrieOf.vs : List ResultVar := [.cell 2 55]
def impl_TrieOf.x : Cx := ⟨tt, look none [(98, some impl_TrieNew.K), (23, some impl_RoutesOk.K), (45, some impl_TriePut.K)]⟩
def impl_TrieOf.s0 (k : Nat) (rec0 : (Int × Int × (List (Int × Int × Int)) × (List (Int × Int × Int)) × (List (Int × Int × Int))) → Option ((List (Int × Int × Int)))) (p : (Int × Int × (List (Int × Int × Int)) × (List (Int × Int × Int)) × (List (Int × Int × Int)))) : Option ((List (Int × Int × Int))) :=
  (bif (decide (p.2.1 < p.1)) then (bif ((decide ((0 : Int) ≤ p.2.1)) && (decide (p.2.1 < (p.2.2.1.length : Int)))) then (p.2.2.1[p.2.1.toNat]?).bind fun x3 => (impl_TriePut.f k p.2.2.2.2 x3.1 x3.2.1 x3.2.2).bind fun r4 => rec0 (p.1, (IntKind.i64.wrap (p.2.1 + (1 : Int))), p.2.2.1, p.2.2.2.1, r4.1) else none) else some p.2.2.2.2)
def impl_TrieOf.l0 (k : Nat) : Nat → (Int × Int × (List (Int × Int × Int)) × (List (Int × Int × Int)) × (List (Int × Int × Int))) → Option ((List (Int × Int × Int)))
  | 0 => fun _ => none
  | j + 1 => impl_TrieOf.s0 k (impl_TrieOf.l0 k j)
def impl_TrieOf.S0 (p : (Int × Int × (List (Int × Int × Int)) × (List (Int × Int × Int)) × (List (Int × Int × Int)))) : DS := ⟨tl [(2, .at (.bptr 32 0)), (3, .at (.bptr 48 0)), (11, .at (.whole 0)), (12, .at (.int .i64 p.1)), (13, .at (.int .i64 p.2.1))], lookO [(0, .row 65 (.two (.int .i64) (.two (.int .i64) (.int .i64))) false p.2.2.1), (32, .box 55 [.whole 448]), (48, .box 55 [.whole 449]), (448, .row 104 (.two (.int .i64) (.two (.int .i64) (.int .i64))) true p.2.2.2.1), (449, .row 104 (.two (.int .i64) (.two (.int .i64) (.int .i64))) true p.2.2.2.2)]⟩
noncomputable def impl_TrieOf.D0 (k : Nat) (j : Nat) (p : (Int × Int × (List (Int × Int × Int)) × (List (Int × Int × Int)) × (List (Int × Int × Int)))) : Option ((List (Int × Int × Int))) := loopK (norm [0] (impl_TrieOf.h 0)) (runK impl_TrieOf.x k 0 [0] impl_TrieOf.h 0 (sub impl_TrieOf.c [1, 1, 1, 0, 1, 0, 0])) j (impl_TrieOf.S0 p) (kBlk 0 (kSeq (runK impl_TrieOf.x k 0 [0] impl_TrieOf.h 0 (sub impl_TrieOf.c [1, 1, 1, 1])) (fin tt impl_TrieOf.ps impl_TrieOf.rs impl_TrieOf.vs (.sl 104 (.two (.int .i64) (.two (.int .i64) (.int .i64)))))))
theorem impl_TrieOf.D0_eq (k : Nat) : ∀ j, impl_TrieOf.D0 k j = impl_TrieOf.l0 k j := by
  intro j
  induction j with
  | zero => rfl
  | succ j ih =>
    show _ = impl_TrieOf.s0 k (impl_TrieOf.l0 k j)
    rw [← ih]
    funext p
    kernel_rfl
def impl_TrieOf.f (k : Nat) (a0 : List (Int × Int × Int)) : Option ((List (Int × Int × Int))) :=
  (impl_TrieNew.f k).bind fun r1 => (impl_RoutesOk.f k a0).bind fun r2 => (bif (!r2) then some r1 else impl_TrieOf.l0 k k ((a0.length : Int), (0 : Int), a0, ([] : List (Int × Int × Int)), r1))
def impl_TrieOf.K : Ctr := ⟨impl_TrieOf.ps, impl_TrieOf.rs, false, (.sl 65 (.two (.int .i64) (.two (.int .i64) (.int .i64)))), (.sl 104 (.two (.int .i64) (.two (.int .i64) (.int .i64)))), fun k x => impl_TrieOf.f k x⟩
theorem impl_TrieOf.eq (k : Nat) (x : (impl_TrieOf.K.I).den) : func impl_TrieOf.x impl_TrieOf.h impl_TrieOf.ps impl_TrieOf.rs impl_TrieOf.vs impl_TrieOf.K.I impl_TrieOf.K.O impl_TrieOf.c k x = impl_TrieOf.K.run k x := by
  show _ = impl_TrieOf.f k x
  unfold impl_TrieOf.f
  rw [← impl_TrieOf.D0_eq k k]
  kernel_rfl
theorem impl_TrieOf.ok : CtrOk Try.prog 49 impl_TrieOf.K :=
  CtrOk.of (fn := Try.f49) (cd := impl_TrieOf.c) (cx := impl_TrieOf.x) (hs := impl_TrieOf.h) (by kernel_rfl) (by kernel_rfl) (by kernel_rfl) (by kernel_rfl) tt_ok (envOk_cons impl_TrieNew.ok (envOk_cons impl_RoutesOk.ok (envOk_cons impl_TriePut.ok (envOk_nil)))) (by kernel_rfl) (by kernel_rfl) (by kernel_rfl) (by kernel_rfl) fun k x r h => (impl_TrieOf.eq k x).trans h
/-! laws.eqTwig -/
noncomputable def laws_eqTwig.c : Code := bodyOf Try.f110
def laws_eqTwig.h : Nat → Hint := look ⟨[], [], []⟩ []
def laws_eqTwig.ps : List PK := [.agg 3, .agg 3]
def laws_eqTwig.rs : List RK := [.one true]
def laws_eqTwig.vs : List ResultVar := [.tmp 4]
def laws_eqTwig.x : Cx := ⟨tt, look none []⟩
def laws_eqTwig.f (_k : Nat) (a0_0 : Int) (a0_1 : Int) (a0_2 : Int) (a1_0 : Int) (a1_1 : Int) (a1_2 : Int) : Option (Bool) :=
  (bif (a0_0 != a1_0) then some false else (bif (a0_1 != a1_1) then some false else (bif (a0_2 != a1_2) then some false else some true)))
def laws_eqTwig.K : Ctr := ⟨laws_eqTwig.ps, laws_eqTwig.rs, false, (.two (.int .i64) (.two (.int .i64) (.two (.int .i64) (.two (.int .i64) (.two (.int .i64) (.int .i64)))))), .bool, fun k x => laws_eqTwig.f k x.1 x.2.1 x.2.2.1 x.2.2.2.1 x.2.2.2.2.1 x.2.2.2.2.2⟩
theorem laws_eqTwig.eq (k : Nat) (x : (laws_eqTwig.K.I).den) : func laws_eqTwig.x laws_eqTwig.h laws_eqTwig.ps laws_eqTwig.rs laws_eqTwig.vs laws_eqTwig.K.I laws_eqTwig.K.O laws_eqTwig.c k x = laws_eqTwig.K.run k x := by
  show _ = laws_eqTwig.f k x.1 x.2.1 x.2.2.1 x.2.2.2.1 x.2.2.2.2.1 x.2.2.2.2.2
  kernel_rfl
theorem laws_eqTwig.ok : CtrOk Try.prog 110 laws_eqTwig.K :=
  CtrOk.of (fn := Try.f110) (cd := laws_eqTwig.c) (cx := laws_eqTwig.x) (hs := laws_eqTwig.h) (by kernel_rfl) (by kernel_rfl) (by kernel_rfl) (by kernel_rfl) tt_ok (envOk_nil) (by kernel_rfl) (by kernel_rfl) (by kernel_rfl) (by kernel_rfl) fun k x r h => (laws_eqTwig.eq k x).trans h
/-! laws.eqTwigS -/
noncomputable def laws_eqTwigS.c : Code := bodyOf Try.f81
def laws_eqTwigS.h : Nat → Hint := look ⟨[], [], []⟩ [(0, ⟨[0, 1, 5], [], []⟩)]
def laws_eqTwigS.ps : List PK := [.one, .one]
def laws_eqTwigS.rs : List RK := [.one true]
def laws_eqTwigS.vs : List ResultVar := [.tmp 4]
def laws_eqTwigS.x : Cx := ⟨tt, look none [(110, some laws_eqTwig.K)]⟩
def laws_eqTwigS.s0 (k : Nat) (rec0 : (Int × (List (Int × Int × Int)) × (List (Int × Int × Int))) → Option (Bool)) (p : (Int × (List (Int × Int × Int)) × (List (Int × Int × Int)))) : Option (Bool) :=
  (bif (decide (p.1 < (p.2.1.length : Int))) then (bif ((decide ((0 : Int) ≤ p.1)) && (decide (p.1 < (p.2.1.length : Int)))) then (p.2.1[p.1.toNat]?).bind fun x1 => (bif ((decide ((0 : Int) ≤ p.1)) && (decide (p.1 < (p.2.2.length : Int)))) then (p.2.2[p.1.toNat]?).bind fun x2 => (laws_eqTwig.f k x1.1 x1.2.1 x1.2.2 x2.1 x2.2.1 x2.2.2).bind fun r3 => (bif (!r3) then some false else rec0 ((IntKind.i64.wrap (p.1 + (1 : Int))), p.2.1, p.2.2)) else none) else none) else some true)
def laws_eqTwigS.l0 (k : Nat) : Nat → (Int × (List (Int × Int × Int)) × (List (Int × Int × Int))) → Option (Bool)
  | 0 => fun _ => none
  | j + 1 => laws_eqTwigS.s0 k (laws_eqTwigS.l0 k j)
def laws_eqTwigS.S0 (p : (Int × (List (Int × Int × Int)) × (List (Int × Int × Int)))) : DS := ⟨tl [(0, .at (.whole 0)), (1, .at (.whole 16)), (5, .at (.int .i64 p.1))], lookO [(0, .row 104 (.two (.int .i64) (.two (.int .i64) (.int .i64))) false p.2.1), (16, .row 104 (.two (.int .i64) (.two (.int .i64) (.int .i64))) false p.2.2)]⟩
noncomputable def laws_eqTwigS.D0 (k : Nat) (j : Nat) (p : (Int × (List (Int × Int × Int)) × (List (Int × Int × Int)))) : Option (Bool) := loopK (norm [0, 16] (laws_eqTwigS.h 0)) (runK laws_eqTwigS.x k 0 [0, 16] laws_eqTwigS.h 0 (sub laws_eqTwigS.c [1, 1, 0, 1, 0, 0])) j (laws_eqTwigS.S0 p) (kBlk 0 (kSeq (runK laws_eqTwigS.x k 0 [0, 16] laws_eqTwigS.h 0 (sub laws_eqTwigS.c [1, 1, 1])) (fin tt laws_eqTwigS.ps laws_eqTwigS.rs laws_eqTwigS.vs .bool)))
theorem laws_eqTwigS.D0_eq (k : Nat) : ∀ j, laws_eqTwigS.D0 k j = laws_eqTwigS.l0 k j := by
  intro j
  induction j with
  | zero => rfl
  | succ j ih =>
    show _ = laws_eqTwigS.s0 k (laws_eqTwigS.l0 k j)
    rw [← ih]
    funext p
    kernel_rfl
def laws_eqTwigS.f (k : Nat) (a0 : List (Int × Int × Int)) (a1 : List (Int × Int × Int)) : Option (Bool) :=
  (bif ((a0.length : Int) != (a1.length : Int)) then some false else laws_eqTwigS.l0 k k ((0 : Int), a0, a1))
def laws_eqTwigS.K : Ctr := ⟨laws_eqTwigS.ps, laws_eqTwigS.rs, false, (.two (.sl 104 (.two (.int .i64) (.two (.int .i64) (.int .i64)))) (.sl 104 (.two (.int .i64) (.two (.int .i64) (.int .i64))))), .bool, fun k x => laws_eqTwigS.f k x.1 x.2⟩
theorem laws_eqTwigS.eq (k : Nat) (x : (laws_eqTwigS.K.I).den) : func laws_eqTwigS.x laws_eqTwigS.h laws_eqTwigS.ps laws_eqTwigS.rs laws_eqTwigS.vs laws_eqTwigS.K.I laws_eqTwigS.K.O laws_eqTwigS.c k x = laws_eqTwigS.K.run k x := by
  show _ = laws_eqTwigS.f k x.1 x.2
  unfold laws_eqTwigS.f
  rw [← laws_eqTwigS.D0_eq k k]
  kernel_rfl
theorem laws_eqTwigS.ok : CtrOk Try.prog 81 laws_eqTwigS.K :=
  CtrOk.of (fn := Try.f81) (cd := laws_eqTwigS.c) (cx := laws_eqTwigS.x) (hs := laws_eqTwigS.h) (by kernel_rfl) (by kernel_rfl) (by kernel_rfl) (by kernel_rfl) tt_ok (envOk_cons laws_eqTwig.ok (envOk_nil)) (by kernel_rfl) (by kernel_rfl) (by kernel_rfl) (by kernel_rfl) fun k x r h => (laws_eqTwigS.eq k x).trans h
/-! laws.eqTrie -/
noncomputable def laws_eqTrie.c : Code := bodyOf Try.f35
def laws_eqTrie.h : Nat → Hint := look ⟨[], [], []⟩ []
def laws_eqTrie.ps : List PK := [.agg 1, .agg 1]
def laws_eqTrie.rs : List RK := [.one true]
def laws_eqTrie.vs : List ResultVar := [.tmp 4]
def laws_eqTrie.x : Cx := ⟨tt, look none [(81, some laws_eqTwigS.K)]⟩
def laws_eqTrie.f (k : Nat) (a0 : List (Int × Int × Int)) (a1 : List (Int × Int × Int)) : Option (Bool) :=
  (laws_eqTwigS.f k a0 a1).bind fun r1 => (bif (!r1) then some false else some true)
def laws_eqTrie.K : Ctr := ⟨laws_eqTrie.ps, laws_eqTrie.rs, false, (.two (.sl 104 (.two (.int .i64) (.two (.int .i64) (.int .i64)))) (.sl 104 (.two (.int .i64) (.two (.int .i64) (.int .i64))))), .bool, fun k x => laws_eqTrie.f k x.1 x.2⟩
theorem laws_eqTrie.eq (k : Nat) (x : (laws_eqTrie.K.I).den) : func laws_eqTrie.x laws_eqTrie.h laws_eqTrie.ps laws_eqTrie.rs laws_eqTrie.vs laws_eqTrie.K.I laws_eqTrie.K.O laws_eqTrie.c k x = laws_eqTrie.K.run k x := by
  show _ = laws_eqTrie.f k x.1 x.2
  kernel_rfl
theorem laws_eqTrie.ok : CtrOk Try.prog 35 laws_eqTrie.K :=
  CtrOk.of (fn := Try.f35) (cd := laws_eqTrie.c) (cx := laws_eqTrie.x) (hs := laws_eqTrie.h) (by kernel_rfl) (by kernel_rfl) (by kernel_rfl) (by kernel_rfl) tt_ok (envOk_cons laws_eqTwigS.ok (envOk_nil)) (by kernel_rfl) (by kernel_rfl) (by kernel_rfl) (by kernel_rfl) fun k x r h => (laws_eqTrie.eq k x).trans h
/-! laws.eqPrefix -/
noncomputable def laws_eqPrefix.c : Code := bodyOf Try.f69
def laws_eqPrefix.h : Nat → Hint := look ⟨[], [], []⟩ []
def laws_eqPrefix.ps : List PK := [.agg 2, .agg 2]
def laws_eqPrefix.rs : List RK := [.one true]
def laws_eqPrefix.vs : List ResultVar := [.tmp 4]
def laws_eqPrefix.x : Cx := ⟨tt, look none []⟩
def laws_eqPrefix.f (_k : Nat) (a0_0 : Int) (a0_1 : Int) (a1_0 : Int) (a1_1 : Int) : Option (Bool) :=
  (bif (a0_0 != a1_0) then some false else (bif (a0_1 != a1_1) then some false else some true))
def laws_eqPrefix.K : Ctr := ⟨laws_eqPrefix.ps, laws_eqPrefix.rs, false, (.two (.int .i64) (.two (.int .i64) (.two (.int .i64) (.int .i64)))), .bool, fun k x => laws_eqPrefix.f k x.1 x.2.1 x.2.2.1 x.2.2.2⟩
theorem laws_eqPrefix.eq (k : Nat) (x : (laws_eqPrefix.K.I).den) : func laws_eqPrefix.x laws_eqPrefix.h laws_eqPrefix.ps laws_eqPrefix.rs laws_eqPrefix.vs laws_eqPrefix.K.I laws_eqPrefix.K.O laws_eqPrefix.c k x = laws_eqPrefix.K.run k x := by
  show _ = laws_eqPrefix.f k x.1 x.2.1 x.2.2.1 x.2.2.2
  kernel_rfl
theorem laws_eqPrefix.ok : CtrOk Try.prog 69 laws_eqPrefix.K :=
  CtrOk.of (fn := Try.f69) (cd := laws_eqPrefix.c) (cx := laws_eqPrefix.x) (hs := laws_eqPrefix.h) (by kernel_rfl) (by kernel_rfl) (by kernel_rfl) (by kernel_rfl) tt_ok (envOk_nil) (by kernel_rfl) (by kernel_rfl) (by kernel_rfl) (by kernel_rfl) fun k x r h => (laws_eqPrefix.eq k x).trans h
/-! laws.eqRoute -/
noncomputable def laws_eqRoute.c : Code := bodyOf Try.f58
def laws_eqRoute.h : Nat → Hint := look ⟨[], [], []⟩ []
def laws_eqRoute.ps : List PK := [.agg 3, .agg 3]
def laws_eqRoute.rs : List RK := [.one true]
def laws_eqRoute.vs : List ResultVar := [.tmp 4]
def laws_eqRoute.x : Cx := ⟨tt, look none [(69, some laws_eqPrefix.K)]⟩
def laws_eqRoute.f (k : Nat) (a0_0 : Int) (a0_1 : Int) (a0_2 : Int) (a1_0 : Int) (a1_1 : Int) (a1_2 : Int) : Option (Bool) :=
  (laws_eqPrefix.f k a0_0 a0_1 a1_0 a1_1).bind fun r1 => (bif (!r1) then some false else (bif (a0_2 != a1_2) then some false else some true))
def laws_eqRoute.K : Ctr := ⟨laws_eqRoute.ps, laws_eqRoute.rs, false, (.two (.int .i64) (.two (.int .i64) (.two (.int .i64) (.two (.int .i64) (.two (.int .i64) (.int .i64)))))), .bool, fun k x => laws_eqRoute.f k x.1 x.2.1 x.2.2.1 x.2.2.2.1 x.2.2.2.2.1 x.2.2.2.2.2⟩
theorem laws_eqRoute.eq (k : Nat) (x : (laws_eqRoute.K.I).den) : func laws_eqRoute.x laws_eqRoute.h laws_eqRoute.ps laws_eqRoute.rs laws_eqRoute.vs laws_eqRoute.K.I laws_eqRoute.K.O laws_eqRoute.c k x = laws_eqRoute.K.run k x := by
  show _ = laws_eqRoute.f k x.1 x.2.1 x.2.2.1 x.2.2.2.1 x.2.2.2.2.1 x.2.2.2.2.2
  kernel_rfl
theorem laws_eqRoute.ok : CtrOk Try.prog 58 laws_eqRoute.K :=
  CtrOk.of (fn := Try.f58) (cd := laws_eqRoute.c) (cx := laws_eqRoute.x) (hs := laws_eqRoute.h) (by kernel_rfl) (by kernel_rfl) (by kernel_rfl) (by kernel_rfl) tt_ok (envOk_cons laws_eqPrefix.ok (envOk_nil)) (by kernel_rfl) (by kernel_rfl) (by kernel_rfl) (by kernel_rfl) fun k x r h => (laws_eqRoute.eq k x).trans h
/-! laws.eqRouteS -/
noncomputable def laws_eqRouteS.c : Code := bodyOf Try.f19
def laws_eqRouteS.h : Nat → Hint := look ⟨[], [], []⟩ [(0, ⟨[0, 1, 5], [], []⟩)]
def laws_eqRouteS.ps : List PK := [.one, .one]
def laws_eqRouteS.rs : List RK := [.one true]
def laws_eqRouteS.vs : List ResultVar := [.tmp 4]
def laws_eqRouteS.x : Cx := ⟨tt, look none [(58, some laws_eqRoute.K)]⟩
def laws_eqRouteS.s0 (k : Nat) (rec0 : (Int × (List (Int × Int × Int)) × (List (Int × Int × Int))) → Option (Bool)) (p : (Int × (List (Int × Int × Int)) × (List (Int × Int × Int)))) : Option (Bool) :=
  (bif (decide (p.1 < (p.2.1.length : Int))) then (bif ((decide ((0 : Int) ≤ p.1)) && (decide (p.1 < (p.2.1.length : Int)))) then (p.2.1[p.1.toNat]?).bind fun x1 => (bif ((decide ((0 : Int) ≤ p.1)) && (decide (p.1 < (p.2.2.length : Int)))) then (p.2.2[p.1.toNat]?).bind fun x2 => (laws_eqRoute.f k x1.1 x1.2.1 x1.2.2 x2.1 x2.2.1 x2.2.2).bind fun r3 => (bif (!r3) then some false else rec0 ((IntKind.i64.wrap (p.1 + (1 : Int))), p.2.1, p.2.2)) else none) else none) else some true)
def laws_eqRouteS.l0 (k : Nat) : Nat → (Int × (List (Int × Int × Int)) × (List (Int × Int × Int))) → Option (Bool)
  | 0 => fun _ => none
  | j + 1 => laws_eqRouteS.s0 k (laws_eqRouteS.l0 k j)
def laws_eqRouteS.S0 (p : (Int × (List (Int × Int × Int)) × (List (Int × Int × Int)))) : DS := ⟨tl [(0, .at (.whole 0)), (1, .at (.whole 16)), (5, .at (.int .i64 p.1))], lookO [(0, .row 65 (.two (.int .i64) (.two (.int .i64) (.int .i64))) false p.2.1), (16, .row 65 (.two (.int .i64) (.two (.int .i64) (.int .i64))) false p.2.2)]⟩
noncomputable def laws_eqRouteS.D0 (k : Nat) (j : Nat) (p : (Int × (List (Int × Int × Int)) × (List (Int × Int × Int)))) : Option (Bool) := loopK (norm [0, 16] (laws_eqRouteS.h 0)) (runK laws_eqRouteS.x k 0 [0, 16] laws_eqRouteS.h 0 (sub laws_eqRouteS.c [1, 1, 0, 1, 0, 0])) j (laws_eqRouteS.S0 p) (kBlk 0 (kSeq (runK laws_eqRouteS.x k 0 [0, 16] laws_eqRouteS.h 0 (sub laws_eqRouteS.c [1, 1, 1])) (fin tt laws_eqRouteS.ps laws_eqRouteS.rs laws_eqRouteS.vs .bool)))
theorem laws_eqRouteS.D0_eq (k : Nat) : ∀ j, laws_eqRouteS.D0 k j = laws_eqRouteS.l0 k j := by
  intro j
  induction j with
  | zero => rfl
  | succ j ih =>
    show _ = laws_eqRouteS.s0 k (laws_eqRouteS.l0 k j)
    rw [← ih]
    funext p
    kernel_rfl
def laws_eqRouteS.f (k : Nat) (a0 : List (Int × Int × Int)) (a1 : List (Int × Int × Int)) : Option (Bool) :=
  (bif ((a0.length : Int) != (a1.length : Int)) then some false else laws_eqRouteS.l0 k k ((0 : Int), a0, a1))
def laws_eqRouteS.K : Ctr := ⟨laws_eqRouteS.ps, laws_eqRouteS.rs, false, (.two (.sl 65 (.two (.int .i64) (.two (.int .i64) (.int .i64)))) (.sl 65 (.two (.int .i64) (.two (.int .i64) (.int .i64))))), .bool, fun k x => laws_eqRouteS.f k x.1 x.2⟩
theorem laws_eqRouteS.eq (k : Nat) (x : (laws_eqRouteS.K.I).den) : func laws_eqRouteS.x laws_eqRouteS.h laws_eqRouteS.ps laws_eqRouteS.rs laws_eqRouteS.vs laws_eqRouteS.K.I laws_eqRouteS.K.O laws_eqRouteS.c k x = laws_eqRouteS.K.run k x := by
  show _ = laws_eqRouteS.f k x.1 x.2
  unfold laws_eqRouteS.f
  rw [← laws_eqRouteS.D0_eq k k]
  kernel_rfl
theorem laws_eqRouteS.ok : CtrOk Try.prog 19 laws_eqRouteS.K :=
  CtrOk.of (fn := Try.f19) (cd := laws_eqRouteS.c) (cx := laws_eqRouteS.x) (hs := laws_eqRouteS.h) (by kernel_rfl) (by kernel_rfl) (by kernel_rfl) (by kernel_rfl) tt_ok (envOk_cons laws_eqRoute.ok (envOk_nil)) (by kernel_rfl) (by kernel_rfl) (by kernel_rfl) (by kernel_rfl) fun k x r h => (laws_eqRouteS.eq k x).trans h
/-! laws.markRouteS -/
noncomputable def laws_markRouteS.c : Code := bodyOf Try.f20
def laws_markRouteS.h : Nat → Hint := look ⟨[], [], []⟩ [(0, ⟨[0, 1, 5], [], []⟩)]
def laws_markRouteS.ps : List PK := [.row, .one]
def laws_markRouteS.rs : List RK := [.one true]
def laws_markRouteS.vs : List ResultVar := [.tmp 4]
def laws_markRouteS.x : Cx := ⟨tt, look none []⟩
def laws_markRouteS.s0 (_k : Nat) (rec0 : (Int × Int × (List (Int × Int × Int))) → Option (Int × (List (Int × Int × Int)))) (p : (Int × Int × (List (Int × Int × Int)))) : Option (Int × (List (Int × Int × Int))) :=
  (bif (decide (p.2.1 < (p.2.2.length : Int))) then (bif ((decide ((0 : Int) ≤ p.2.1)) && (decide (p.2.1 < (p.2.2.length : Int)))) then (p.2.2[p.2.1.toNat]?).bind fun x1 => (bif ((decide ((0 : Int) ≤ p.2.1)) && (decide (p.2.1 < ((p.2.2.set p.2.1.toNat (p.1, x1.2)).length : Int)))) then ((p.2.2.set p.2.1.toNat (p.1, x1.2))[p.2.1.toNat]?).bind fun x2 => (bif ((decide ((0 : Int) ≤ p.2.1)) && (decide (p.2.1 < (((p.2.2.set p.2.1.toNat (p.1, x1.2)).set p.2.1.toNat (x2.1, (IntKind.i64.wrap (p.1 + (1 : Int))), x2.2.2)).length : Int)))) then (((p.2.2.set p.2.1.toNat (p.1, x1.2)).set p.2.1.toNat (x2.1, (IntKind.i64.wrap (p.1 + (1 : Int))), x2.2.2))[p.2.1.toNat]?).bind fun x3 => rec0 ((IntKind.i64.wrap ((IntKind.i64.wrap ((IntKind.i64.wrap (p.1 + (1 : Int))) + (1 : Int))) + (1 : Int))), (IntKind.i64.wrap (p.2.1 + (1 : Int))), (((p.2.2.set p.2.1.toNat (p.1, x1.2)).set p.2.1.toNat (x2.1, (IntKind.i64.wrap (p.1 + (1 : Int))), x2.2.2)).set p.2.1.toNat (x3.1, x3.2.1, (IntKind.i64.wrap ((IntKind.i64.wrap (p.1 + (1 : Int))) + (1 : Int)))))) else none) else none) else none) else some (p.1, p.2.2))
def laws_markRouteS.l0 (k : Nat) : Nat → (Int × Int × (List (Int × Int × Int))) → Option (Int × (List (Int × Int × Int)))
  | 0 => fun _ => none
  | j + 1 => laws_markRouteS.s0 k (laws_markRouteS.l0 k j)
def laws_markRouteS.S0 (p : (Int × Int × (List (Int × Int × Int)))) : DS := ⟨tl [(0, .at (.whole 0)), (1, .at (.int .i64 p.1)), (5, .at (.int .i64 p.2.1))], lookO [(0, .row 65 (.two (.int .i64) (.two (.int .i64) (.int .i64))) true p.2.2)]⟩
noncomputable def laws_markRouteS.D0 (k : Nat) (j : Nat) (p : (Int × Int × (List (Int × Int × Int)))) : Option (Int × (List (Int × Int × Int))) := loopK (norm [0] (laws_markRouteS.h 0)) (runK laws_markRouteS.x k 0 [0] laws_markRouteS.h 0 (sub laws_markRouteS.c [1, 0, 1, 0, 0])) j (laws_markRouteS.S0 p) (kBlk 0 (kSeq (runK laws_markRouteS.x k 0 [0] laws_markRouteS.h 0 (sub laws_markRouteS.c [1, 1])) (fin tt laws_markRouteS.ps laws_markRouteS.rs laws_markRouteS.vs (.two (.int .i64) (.sl 65 (.two (.int .i64) (.two (.int .i64) (.int .i64))))))))
theorem laws_markRouteS.D0_eq (k : Nat) : ∀ j, laws_markRouteS.D0 k j = laws_markRouteS.l0 k j := by
  intro j
  induction j with
  | zero => rfl
  | succ j ih =>
    show _ = laws_markRouteS.s0 k (laws_markRouteS.l0 k j)
    rw [← ih]
    funext p
    kernel_rfl
def laws_markRouteS.f (k : Nat) (a0 : List (Int × Int × Int)) (a1 : Int) : Option (Int × (List (Int × Int × Int))) :=
  laws_markRouteS.l0 k k (a1, (0 : Int), a0)
def laws_markRouteS.K : Ctr := ⟨laws_markRouteS.ps, laws_markRouteS.rs, false, (.two (.sl 65 (.two (.int .i64) (.two (.int .i64) (.int .i64)))) (.int .i64)), (.two (.int .i64) (.sl 65 (.two (.int .i64) (.two (.int .i64) (.int .i64))))), fun k x => laws_markRouteS.f k x.1 x.2⟩
theorem laws_markRouteS.eq (k : Nat) (x : (laws_markRouteS.K.I).den) : func laws_markRouteS.x laws_markRouteS.h laws_markRouteS.ps laws_markRouteS.rs laws_markRouteS.vs laws_markRouteS.K.I laws_markRouteS.K.O laws_markRouteS.c k x = laws_markRouteS.K.run k x := by
  show _ = laws_markRouteS.f k x.1 x.2
  unfold laws_markRouteS.f
  rw [← laws_markRouteS.D0_eq k k]
  kernel_rfl
theorem laws_markRouteS.ok : CtrOk Try.prog 20 laws_markRouteS.K :=
  CtrOk.of (fn := Try.f20) (cd := laws_markRouteS.c) (cx := laws_markRouteS.x) (hs := laws_markRouteS.h) (by kernel_rfl) (by kernel_rfl) (by kernel_rfl) (by kernel_rfl) tt_ok (envOk_nil) (by kernel_rfl) (by kernel_rfl) (by kernel_rfl) (by kernel_rfl) fun k x r h => (laws_markRouteS.eq k x).trans h
/-! laws.markTwigS -/
noncomputable def laws_markTwigS.c : Code := bodyOf Try.f95
def laws_markTwigS.h : Nat → Hint := look ⟨[], [], []⟩ [(0, ⟨[0, 1, 5], [], []⟩)]
def laws_markTwigS.ps : List PK := [.row, .one]
def laws_markTwigS.rs : List RK := [.one true]
def laws_markTwigS.vs : List ResultVar := [.tmp 4]
def laws_markTwigS.x : Cx := ⟨tt, look none []⟩
def laws_markTwigS.s0 (_k : Nat) (rec0 : (Int × Int × (List (Int × Int × Int))) → Option (Int × (List (Int × Int × Int)))) (p : (Int × Int × (List (Int × Int × Int)))) : Option (Int × (List (Int × Int × Int))) :=
  (bif (decide (p.2.1 < (p.2.2.length : Int))) then (bif ((decide ((0 : Int) ≤ p.2.1)) && (decide (p.2.1 < (p.2.2.length : Int)))) then (p.2.2[p.2.1.toNat]?).bind fun x1 => (bif ((decide ((0 : Int) ≤ p.2.1)) && (decide (p.2.1 < ((p.2.2.set p.2.1.toNat (p.1, x1.2)).length : Int)))) then ((p.2.2.set p.2.1.toNat (p.1, x1.2))[p.2.1.toNat]?).bind fun x2 => (bif ((decide ((0 : Int) ≤ p.2.1)) && (decide (p.2.1 < (((p.2.2.set p.2.1.toNat (p.1, x1.2)).set p.2.1.toNat (x2.1, (IntKind.i64.wrap (p.1 + (1 : Int))), x2.2.2)).length : Int)))) then (((p.2.2.set p.2.1.toNat (p.1, x1.2)).set p.2.1.toNat (x2.1, (IntKind.i64.wrap (p.1 + (1 : Int))), x2.2.2))[p.2.1.toNat]?).bind fun x3 => rec0 ((IntKind.i64.wrap ((IntKind.i64.wrap ((IntKind.i64.wrap (p.1 + (1 : Int))) + (1 : Int))) + (1 : Int))), (IntKind.i64.wrap (p.2.1 + (1 : Int))), (((p.2.2.set p.2.1.toNat (p.1, x1.2)).set p.2.1.toNat (x2.1, (IntKind.i64.wrap (p.1 + (1 : Int))), x2.2.2)).set p.2.1.toNat (x3.1, x3.2.1, (IntKind.i64.wrap ((IntKind.i64.wrap (p.1 + (1 : Int))) + (1 : Int)))))) else none) else none) else none) else some (p.1, p.2.2))
def laws_markTwigS.l0 (k : Nat) : Nat → (Int × Int × (List (Int × Int × Int))) → Option (Int × (List (Int × Int × Int)))
  | 0 => fun _ => none
  | j + 1 => laws_markTwigS.s0 k (laws_markTwigS.l0 k j)
def laws_markTwigS.S0 (p : (Int × Int × (List (Int × Int × Int)))) : DS := ⟨tl [(0, .at (.whole 0)), (1, .at (.int .i64 p.1)), (5, .at (.int .i64 p.2.1))], lookO [(0, .row 104 (.two (.int .i64) (.two (.int .i64) (.int .i64))) true p.2.2)]⟩
noncomputable def laws_markTwigS.D0 (k : Nat) (j : Nat) (p : (Int × Int × (List (Int × Int × Int)))) : Option (Int × (List (Int × Int × Int))) := loopK (norm [0] (laws_markTwigS.h 0)) (runK laws_markTwigS.x k 0 [0] laws_markTwigS.h 0 (sub laws_markTwigS.c [1, 0, 1, 0, 0])) j (laws_markTwigS.S0 p) (kBlk 0 (kSeq (runK laws_markTwigS.x k 0 [0] laws_markTwigS.h 0 (sub laws_markTwigS.c [1, 1])) (fin tt laws_markTwigS.ps laws_markTwigS.rs laws_markTwigS.vs (.two (.int .i64) (.sl 104 (.two (.int .i64) (.two (.int .i64) (.int .i64))))))))
theorem laws_markTwigS.D0_eq (k : Nat) : ∀ j, laws_markTwigS.D0 k j = laws_markTwigS.l0 k j := by
  intro j
  induction j with
  | zero => rfl
  | succ j ih =>
    show _ = laws_markTwigS.s0 k (laws_markTwigS.l0 k j)
    rw [← ih]
    funext p
    kernel_rfl
def laws_markTwigS.f (k : Nat) (a0 : List (Int × Int × Int)) (a1 : Int) : Option (Int × (List (Int × Int × Int))) :=
  laws_markTwigS.l0 k k (a1, (0 : Int), a0)
def laws_markTwigS.K : Ctr := ⟨laws_markTwigS.ps, laws_markTwigS.rs, false, (.two (.sl 104 (.two (.int .i64) (.two (.int .i64) (.int .i64)))) (.int .i64)), (.two (.int .i64) (.sl 104 (.two (.int .i64) (.two (.int .i64) (.int .i64))))), fun k x => laws_markTwigS.f k x.1 x.2⟩
theorem laws_markTwigS.eq (k : Nat) (x : (laws_markTwigS.K.I).den) : func laws_markTwigS.x laws_markTwigS.h laws_markTwigS.ps laws_markTwigS.rs laws_markTwigS.vs laws_markTwigS.K.I laws_markTwigS.K.O laws_markTwigS.c k x = laws_markTwigS.K.run k x := by
  show _ = laws_markTwigS.f k x.1 x.2
  unfold laws_markTwigS.f
  rw [← laws_markTwigS.D0_eq k k]
  kernel_rfl
theorem laws_markTwigS.ok : CtrOk Try.prog 95 laws_markTwigS.K :=
  CtrOk.of (fn := Try.f95) (cd := laws_markTwigS.c) (cx := laws_markTwigS.x) (hs := laws_markTwigS.h) (by kernel_rfl) (by kernel_rfl) (by kernel_rfl) (by kernel_rfl) tt_ok (envOk_nil) (by kernel_rfl) (by kernel_rfl) (by kernel_rfl) (by kernel_rfl) fun k x r h => (laws_markTwigS.eq k x).trans h
/-! laws.markTrie -/
noncomputable def laws_markTrie.c : Code := bodyOf Try.f46
def laws_markTrie.h : Nat → Hint := look ⟨[], [], []⟩ []
def laws_markTrie.ps : List PK := [.aggw 1 [0], .one]
def laws_markTrie.rs : List RK := [.one true]
def laws_markTrie.vs : List ResultVar := [.tmp 4]
def laws_markTrie.x : Cx := ⟨tt, look none [(95, some laws_markTwigS.K)]⟩
def laws_markTrie.f (k : Nat) (a0 : List (Int × Int × Int)) (a1 : Int) : Option (Int × (List (Int × Int × Int))) :=
  (laws_markTwigS.f k a0 a1).bind fun r1 => some (r1.1, r1.2)
def laws_markTrie.K : Ctr := ⟨laws_markTrie.ps, laws_markTrie.rs, false, (.two (.sl 104 (.two (.int .i64) (.two (.int .i64) (.int .i64)))) (.int .i64)), (.two (.int .i64) (.sl 104 (.two (.int .i64) (.two (.int .i64) (.int .i64))))), fun k x => laws_markTrie.f k x.1 x.2⟩
theorem laws_markTrie.eq (k : Nat) (x : (laws_markTrie.K.I).den) : func laws_markTrie.x laws_markTrie.h laws_markTrie.ps laws_markTrie.rs laws_markTrie.vs laws_markTrie.K.I laws_markTrie.K.O laws_markTrie.c k x = laws_markTrie.K.run k x := by
  show _ = laws_markTrie.f k x.1 x.2
  kernel_rfl
theorem laws_markTrie.ok : CtrOk Try.prog 46 laws_markTrie.K :=
  CtrOk.of (fn := Try.f46) (cd := laws_markTrie.c) (cx := laws_markTrie.x) (hs := laws_markTrie.h) (by kernel_rfl) (by kernel_rfl) (by kernel_rfl) (by kernel_rfl) tt_ok (envOk_cons laws_markTwigS.ok (envOk_nil)) (by kernel_rfl) (by kernel_rfl) (by kernel_rfl) (by kernel_rfl) fun k x r h => (laws_markTrie.eq k x).trans h
/-! laws.heldTwigS -/
noncomputable def laws_heldTwigS.c : Code := bodyOf Try.f96
def laws_heldTwigS.h : Nat → Hint := look ⟨[], [], []⟩ [(0, ⟨[0, 1, 5], [], []⟩)]
def laws_heldTwigS.ps : List PK := [.one, .one]
def laws_heldTwigS.rs : List RK := [.one true]
def laws_heldTwigS.vs : List ResultVar := [.tmp 4]
def laws_heldTwigS.x : Cx := ⟨tt, look none []⟩
def laws_heldTwigS.s0 (_k : Nat) (rec0 : (Int × Int × (List (Int × Int × Int))) → Option (Int)) (p : (Int × Int × (List (Int × Int × Int)))) : Option (Int) :=
  (bif (decide (p.2.1 < (p.2.2.length : Int))) then (bif ((decide ((0 : Int) ≤ p.2.1)) && (decide (p.2.1 < (p.2.2.length : Int)))) then (p.2.2[p.2.1.toNat]?).bind fun x1 => (bif (x1.1 != p.1) then some (-1 : Int) else (bif ((decide ((0 : Int) ≤ p.2.1)) && (decide (p.2.1 < (p.2.2.length : Int)))) then (p.2.2[p.2.1.toNat]?).bind fun x2 => (bif (x2.2.1 != (IntKind.i64.wrap (p.1 + (1 : Int)))) then some (-1 : Int) else (bif ((decide ((0 : Int) ≤ p.2.1)) && (decide (p.2.1 < (p.2.2.length : Int)))) then (p.2.2[p.2.1.toNat]?).bind fun x3 => (bif (x3.2.2 != (IntKind.i64.wrap ((IntKind.i64.wrap (p.1 + (1 : Int))) + (1 : Int)))) then some (-1 : Int) else rec0 ((IntKind.i64.wrap ((IntKind.i64.wrap ((IntKind.i64.wrap (p.1 + (1 : Int))) + (1 : Int))) + (1 : Int))), (IntKind.i64.wrap (p.2.1 + (1 : Int))), p.2.2)) else none)) else none)) else none) else some p.1)
def laws_heldTwigS.l0 (k : Nat) : Nat → (Int × Int × (List (Int × Int × Int))) → Option (Int)
  | 0 => fun _ => none
  | j + 1 => laws_heldTwigS.s0 k (laws_heldTwigS.l0 k j)
def laws_heldTwigS.S0 (p : (Int × Int × (List (Int × Int × Int)))) : DS := ⟨tl [(0, .at (.whole 0)), (1, .at (.int .i64 p.1)), (5, .at (.int .i64 p.2.1))], lookO [(0, .row 104 (.two (.int .i64) (.two (.int .i64) (.int .i64))) false p.2.2)]⟩
noncomputable def laws_heldTwigS.D0 (k : Nat) (j : Nat) (p : (Int × Int × (List (Int × Int × Int)))) : Option (Int) := loopK (norm [0] (laws_heldTwigS.h 0)) (runK laws_heldTwigS.x k 0 [0] laws_heldTwigS.h 0 (sub laws_heldTwigS.c [1, 0, 1, 0, 0])) j (laws_heldTwigS.S0 p) (kBlk 0 (kSeq (runK laws_heldTwigS.x k 0 [0] laws_heldTwigS.h 0 (sub laws_heldTwigS.c [1, 1])) (fin tt laws_heldTwigS.ps laws_heldTwigS.rs laws_heldTwigS.vs (.int .i64))))
theorem laws_heldTwigS.D0_eq (k : Nat) : ∀ j, laws_heldTwigS.D0 k j = laws_heldTwigS.l0 k j := by
  intro j
  induction j with
  | zero => rfl
  | succ j ih =>
    show _ = laws_heldTwigS.s0 k (laws_heldTwigS.l0 k j)
    rw [← ih]
    funext p
    kernel_rfl
def laws_heldTwigS.f (k : Nat) (a0 : List (Int × Int × Int)) (a1 : Int) : Option (Int) :=
  laws_heldTwigS.l0 k k (a1, (0 : Int), a0)
def laws_heldTwigS.K : Ctr := ⟨laws_heldTwigS.ps, laws_heldTwigS.rs, false, (.two (.sl 104 (.two (.int .i64) (.two (.int .i64) (.int .i64)))) (.int .i64)), (.int .i64), fun k x => laws_heldTwigS.f k x.1 x.2⟩
theorem laws_heldTwigS.eq (k : Nat) (x : (laws_heldTwigS.K.I).den) : func laws_heldTwigS.x laws_heldTwigS.h laws_heldTwigS.ps laws_heldTwigS.rs laws_heldTwigS.vs laws_heldTwigS.K.I laws_heldTwigS.K.O laws_heldTwigS.c k x = laws_heldTwigS.K.run k x := by
  show _ = laws_heldTwigS.f k x.1 x.2
  unfold laws_heldTwigS.f
  rw [← laws_heldTwigS.D0_eq k k]
  kernel_rfl
theorem laws_heldTwigS.ok : CtrOk Try.prog 96 laws_heldTwigS.K :=
  CtrOk.of (fn := Try.f96) (cd := laws_heldTwigS.c) (cx := laws_heldTwigS.x) (hs := laws_heldTwigS.h) (by kernel_rfl) (by kernel_rfl) (by kernel_rfl) (by kernel_rfl) tt_ok (envOk_nil) (by kernel_rfl) (by kernel_rfl) (by kernel_rfl) (by kernel_rfl) fun k x r h => (laws_heldTwigS.eq k x).trans h
/-! laws.heldTrie -/
noncomputable def laws_heldTrie.c : Code := bodyOf Try.f47
def laws_heldTrie.h : Nat → Hint := look ⟨[], [], []⟩ []
def laws_heldTrie.ps : List PK := [.agg 1, .one]
def laws_heldTrie.rs : List RK := [.one true]
def laws_heldTrie.vs : List ResultVar := [.tmp 4]
def laws_heldTrie.x : Cx := ⟨tt, look none [(96, some laws_heldTwigS.K)]⟩
def laws_heldTrie.f (k : Nat) (a0 : List (Int × Int × Int)) (a1 : Int) : Option (Int) :=
  (laws_heldTwigS.f k a0 a1).bind fun r1 => (bif (decide (r1 < (0 : Int))) then some (-1 : Int) else some r1)
def laws_heldTrie.K : Ctr := ⟨laws_heldTrie.ps, laws_heldTrie.rs, false, (.two (.sl 104 (.two (.int .i64) (.two (.int .i64) (.int .i64)))) (.int .i64)), (.int .i64), fun k x => laws_heldTrie.f k x.1 x.2⟩
theorem laws_heldTrie.eq (k : Nat) (x : (laws_heldTrie.K.I).den) : func laws_heldTrie.x laws_heldTrie.h laws_heldTrie.ps laws_heldTrie.rs laws_heldTrie.vs laws_heldTrie.K.I laws_heldTrie.K.O laws_heldTrie.c k x = laws_heldTrie.K.run k x := by
  show _ = laws_heldTrie.f k x.1 x.2
  kernel_rfl
theorem laws_heldTrie.ok : CtrOk Try.prog 47 laws_heldTrie.K :=
  CtrOk.of (fn := Try.f47) (cd := laws_heldTrie.c) (cx := laws_heldTrie.x) (hs := laws_heldTrie.h) (by kernel_rfl) (by kernel_rfl) (by kernel_rfl) (by kernel_rfl) tt_ok (envOk_cons laws_heldTwigS.ok (envOk_nil)) (by kernel_rfl) (by kernel_rfl) (by kernel_rfl) (by kernel_rfl) fun k x r h => (laws_heldTrie.eq k x).trans h
end Go.Proofs.Ytbddppnhpapfkaa.DI
