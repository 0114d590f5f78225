/- FnExactTrieOf: functions as plain Lean, in the machine of values. -/
import Derived.Test.YtbddppnhpapfkaaVFnExactTrieOf1
namespace Go.Proofs.Ytbddppnhpapfkaa.DI
open Go
set_option linter.unusedVariables false
/-! spec.TrieOf -/
noncomputable def spec_TrieOf.c : Code := bodyOf Try.f48
def spec_TrieOf.h : Nat → Hint := look ⟨[], [], []⟩ [(0, ⟨[0, 2, 3, 4], [32, 48], [(.b 32 0, 512, 104, (.two (.int .i64) (.two (.int .i64) (.int .i64)))), (.b 48 0, 513, 104, (.two (.int .i64) (.two (.int .i64) (.int .i64))))]⟩)]
def spec_TrieOf.ps : List PK := [.one]
def spec_TrieOf.rs : List RK := [.agg 1 true]
def spec_TrieOf.vs : List ResultVar := [.cell 2 55]
def spec_TrieOf.x : Cx := ⟨tt, look none [(97, some spec_TrieNew.K), (22, some spec_RoutesOk.K), (44, some spec_TriePut.K)]⟩
def spec_TrieOf.s0 (k : Nat) (rec0 : (Int × (List (Int × Int × Int)) × (List (Int × Int × Int)) × (List (Int × Int × Int))) → Option ((List (Int × Int × Int)))) (p : (Int × (List (Int × Int × Int)) × (List (Int × Int × Int)) × (List (Int × Int × Int)))) : Option ((List (Int × Int × Int))) :=
  (bif (decide (p.1 < (p.2.1.length : Int))) then (spec_RoutesOk.f k p.2.1).bind fun r2 => (bif r2 then (bif ((decide ((0 : Int) ≤ p.1)) && (decide (p.1 < (p.2.1.length : Int)))) then (p.2.1[p.1.toNat]?).bind fun x3 => (bif ((decide ((0 : Int) ≤ p.1)) && (decide (p.1 < (p.2.1.length : Int)))) then (p.2.1[p.1.toNat]?).bind fun x4 => (spec_TriePut.f k p.2.2.2 x3.1 x3.2.1 x4.2.2).bind fun r5 => rec0 ((IntKind.i64.wrap (p.1 + (1 : Int))), p.2.1, p.2.2.1, r5.1) else none) else none) else some p.2.2.2) else some p.2.2.2)
def spec_TrieOf.l0 (k : Nat) : Nat → (Int × (List (Int × Int × Int)) × (List (Int × Int × Int)) × (List (Int × Int × Int))) → Option ((List (Int × Int × Int)))
  | 0 => fun _ => none
  | j + 1 => spec_TrieOf.s0 k (spec_TrieOf.l0 k j)
def spec_TrieOf.S0 (p : (Int × (List (Int × Int × Int)) × (List (Int × Int × Int)) × (List (Int × Int × Int)))) : DS := ⟨tl [(0, .at (.whole 0)), (2, .at (.bptr 32 0)), (3, .at (.bptr 48 0)), (4, .at (.int .i64 p.1))], lookO [(0, .row 65 (.two (.int .i64) (.two (.int .i64) (.int .i64))) false p.2.1), (32, .box 55 [.whole 512]), (48, .box 55 [.whole 513]), (512, .row 104 (.two (.int .i64) (.two (.int .i64) (.int .i64))) true p.2.2.1), (513, .row 104 (.two (.int .i64) (.two (.int .i64) (.int .i64))) true p.2.2.2)]⟩
noncomputable def spec_TrieOf.D0 (k : Nat) (j : Nat) (p : (Int × (List (Int × Int × Int)) × (List (Int × Int × Int)) × (List (Int × Int × Int)))) : Option ((List (Int × Int × Int))) := loopK (norm [0] (spec_TrieOf.h 0)) (runK spec_TrieOf.x k 0 [0] spec_TrieOf.h 0 (sub spec_TrieOf.c [1, 1, 0, 1, 0, 0])) j (spec_TrieOf.S0 p) (kBlk 0 (kSeq (runK spec_TrieOf.x k 0 [0] spec_TrieOf.h 0 (sub spec_TrieOf.c [1, 1, 1])) (fin tt spec_TrieOf.ps spec_TrieOf.rs spec_TrieOf.vs (.sl 104 (.two (.int .i64) (.two (.int .i64) (.int .i64)))))))
theorem spec_TrieOf.D0_eq (k : Nat) : ∀ j, spec_TrieOf.D0 k j = spec_TrieOf.l0 k j := by
  intro j
  induction j with
  | zero => rfl
  | succ j ih =>
    show _ = spec_TrieOf.s0 k (spec_TrieOf.l0 k j)
    rw [← ih]
    funext p
    kernel_rfl
def spec_TrieOf.f (k : Nat) (a0 : List (Int × Int × Int)) : Option ((List (Int × Int × Int))) :=
  (spec_TrieNew.f k).bind fun r1 => spec_TrieOf.l0 k k ((0 : Int), a0, ([] : List (Int × Int × Int)), r1)
def spec_TrieOf.K : Ctr := ⟨spec_TrieOf.ps, spec_TrieOf.rs, false, (.sl 65 (.two (.int .i64) (.two (.int .i64) (.int .i64)))), (.sl 104 (.two (.int .i64) (.two (.int .i64) (.int .i64)))), fun k x => spec_TrieOf.f k x⟩
theorem spec_TrieOf.eq (k : Nat) (x : (spec_TrieOf.K.I).den) : func spec_TrieOf.x spec_TrieOf.h spec_TrieOf.ps spec_TrieOf.rs spec_TrieOf.vs spec_TrieOf.K.I spec_TrieOf.K.O spec_TrieOf.c k x = spec_TrieOf.K.run k x := by
  show _ = spec_TrieOf.f k x
  unfold spec_TrieOf.f
  rw [← spec_TrieOf.D0_eq k k]
  kernel_rfl
theorem spec_TrieOf.ok : CtrOk Try.prog 48 spec_TrieOf.K :=
  CtrOk.of (fn := Try.f48) (cd := spec_TrieOf.c) (cx := spec_TrieOf.x) (hs := spec_TrieOf.h) (by kernel_rfl) (by kernel_rfl) (by kernel_rfl) (by kernel_rfl) tt_ok (envOk_cons spec_TrieNew.ok (envOk_cons spec_RoutesOk.ok (envOk_cons spec_TriePut.ok (envOk_nil)))) (by kernel_rfl) (by kernel_rfl) (by kernel_rfl) (by kernel_rfl) fun k x r h => (spec_TrieOf.eq k x).trans h
/-! impl.TrieNew -/
noncomputable def impl_TrieNew.c : Code := bodyOf Try.f98
def impl_TrieNew.h : Nat → Hint := look ⟨[], [], []⟩ []
def impl_TrieNew.ps : List PK := []
def impl_TrieNew.rs : List RK := [.agg 1 true]
def impl_TrieNew.vs : List ResultVar := [.cell 0 55]
def impl_TrieNew.x : Cx := ⟨tt, look none []⟩
def impl_TrieNew.f (_k : Nat) : Option ((List (Int × Int × Int))) :=
  some [((0 : Int), (0 : Int), (0 : Int))]
def impl_TrieNew.K : Ctr := ⟨impl_TrieNew.ps, impl_TrieNew.rs, false, .unit, (.sl 104 (.two (.int .i64) (.two (.int .i64) (.int .i64)))), fun k _ => impl_TrieNew.f k⟩
theorem impl_TrieNew.eq (k : Nat) (x : (impl_TrieNew.K.I).den) : func impl_TrieNew.x impl_TrieNew.h impl_TrieNew.ps impl_TrieNew.rs impl_TrieNew.vs impl_TrieNew.K.I impl_TrieNew.K.O impl_TrieNew.c k x = impl_TrieNew.K.run k x := by
  show _ = impl_TrieNew.f k
  kernel_rfl
theorem impl_TrieNew.ok : CtrOk Try.prog 98 impl_TrieNew.K :=
  CtrOk.of (fn := Try.f98) (cd := impl_TrieNew.c) (cx := impl_TrieNew.x) (hs := impl_TrieNew.h) (by kernel_rfl) (by kernel_rfl) (by kernel_rfl) (by kernel_rfl) tt_ok (envOk_nil) (by kernel_rfl) (by kernel_rfl) (by kernel_rfl) (by kernel_rfl) fun k x r h => (impl_TrieNew.eq k x).trans h
/-! impl.within -/
noncomputable def impl_within.c : Code := bodyOf Try.f89
def impl_within.h : Nat → Hint := look ⟨[], [], []⟩ []
def impl_within.ps : List PK := [.one, .one, .one]
def impl_within.rs : List RK := [.one true]
def impl_within.vs : List ResultVar := [.tmp 6]
def impl_within.x : Cx := ⟨tt, look none []⟩
def impl_within.f (_k : Nat) (a0 : Int) (a1 : Int) (a2 : Int) : Option (Bool) :=
  (bif (decide (a0 ≥ a1)) then some (decide (a0 ≤ a2)) else some false)
def impl_within.K : Ctr := ⟨impl_within.ps, impl_within.rs, false, (.two (.int .i64) (.two (.int .i64) (.int .i64))), .bool, fun k x => impl_within.f k x.1 x.2.1 x.2.2⟩
theorem impl_within.eq (k : Nat) (x : (impl_within.K.I).den) : func impl_within.x impl_within.h impl_within.ps impl_within.rs impl_within.vs impl_within.K.I impl_within.K.O impl_within.c k x = impl_within.K.run k x := by
  show _ = impl_within.f k x.1 x.2.1 x.2.2
  kernel_rfl
theorem impl_within.ok : CtrOk Try.prog 89 impl_within.K :=
  CtrOk.of (fn := Try.f89) (cd := impl_within.c) (cx := impl_within.x) (hs := impl_within.h) (by kernel_rfl) (by kernel_rfl) (by kernel_rfl) (by kernel_rfl) tt_ok (envOk_nil) (by kernel_rfl) (by kernel_rfl) (by kernel_rfl) (by kernel_rfl) fun k x r h => (impl_within.eq k x).trans h
/-! impl.AddrOk -/
noncomputable def impl_AddrOk.c : Code := bodyOf Try.f78
def impl_AddrOk.h : Nat → Hint := look ⟨[], [], []⟩ []
def impl_AddrOk.ps : List PK := [.one]
def impl_AddrOk.rs : List RK := [.one true]
def impl_AddrOk.vs : List ResultVar := [.tmp 2]
def impl_AddrOk.x : Cx := ⟨tt, look none [(89, some impl_within.K)]⟩
def impl_AddrOk.f (k : Nat) (a0 : Int) : Option (Bool) :=
  (impl_within.f k a0 (0 : Int) (4294967295 : Int)).bind fun r1 => some r1
def impl_AddrOk.K : Ctr := ⟨impl_AddrOk.ps, impl_AddrOk.rs, false, (.int .i64), .bool, fun k x => impl_AddrOk.f k x⟩
theorem impl_AddrOk.eq (k : Nat) (x : (impl_AddrOk.K.I).den) : func impl_AddrOk.x impl_AddrOk.h impl_AddrOk.ps impl_AddrOk.rs impl_AddrOk.vs impl_AddrOk.K.I impl_AddrOk.K.O impl_AddrOk.c k x = impl_AddrOk.K.run k x := by
  show _ = impl_AddrOk.f k x
  kernel_rfl
theorem impl_AddrOk.ok : CtrOk Try.prog 78 impl_AddrOk.K :=
  CtrOk.of (fn := Try.f78) (cd := impl_AddrOk.c) (cx := impl_AddrOk.x) (hs := impl_AddrOk.h) (by kernel_rfl) (by kernel_rfl) (by kernel_rfl) (by kernel_rfl) tt_ok (envOk_cons impl_within.ok (envOk_nil)) (by kernel_rfl) (by kernel_rfl) (by kernel_rfl) (by kernel_rfl) fun k x r h => (impl_AddrOk.eq k x).trans h
/-! impl.lastBits -/
noncomputable def impl_lastBits.c : Code := bodyOf Try.f102
def impl_lastBits.h : Nat → Hint := look ⟨[], [], []⟩ []
def impl_lastBits.ps : List PK := [.one]
def impl_lastBits.rs : List RK := [.one true]
def impl_lastBits.vs : List ResultVar := [.tmp 2]
def impl_lastBits.x : Cx := ⟨tt, look none []⟩
def impl_lastBits.f (_k : Nat) (a0 : Int) : Option (Int) :=
  (bif (decide ((IntKind.i64.wrap ((32 : Int) - a0)) < (0 : Int))) then none else some (IntKind.i64.wrap ((IntKind.i64.wrap ((1 : Int) * 2 ^ (min (IntKind.i64.wrap ((32 : Int) - a0)).toNat IntKind.i64.bits))) - (1 : Int))))
def impl_lastBits.K : Ctr := ⟨impl_lastBits.ps, impl_lastBits.rs, false, (.int .i64), (.int .i64), fun k x => impl_lastBits.f k x⟩
theorem impl_lastBits.eq (k : Nat) (x : (impl_lastBits.K.I).den) : func impl_lastBits.x impl_lastBits.h impl_lastBits.ps impl_lastBits.rs impl_lastBits.vs impl_lastBits.K.I impl_lastBits.K.O impl_lastBits.c k x = impl_lastBits.K.run k x := by
  show _ = impl_lastBits.f k x
  kernel_rfl
theorem impl_lastBits.ok : CtrOk Try.prog 102 impl_lastBits.K :=
  CtrOk.of (fn := Try.f102) (cd := impl_lastBits.c) (cx := impl_lastBits.x) (hs := impl_lastBits.h) (by kernel_rfl) (by kernel_rfl) (by kernel_rfl) (by kernel_rfl) tt_ok (envOk_nil) (by kernel_rfl) (by kernel_rfl) (by kernel_rfl) (by kernel_rfl) fun k x r h => (impl_lastBits.eq k x).trans h
/-! impl.PrefixOk -/
noncomputable def impl_PrefixOk.c : Code := bodyOf Try.f62
def impl_PrefixOk.h : Nat → Hint := look ⟨[], [], []⟩ []
def impl_PrefixOk.ps : List PK := [.agg 2]
def impl_PrefixOk.rs : List RK := [.one true]
def impl_PrefixOk.vs : List ResultVar := [.tmp 2]
def impl_PrefixOk.x : Cx := ⟨tt, look none [(78, some impl_AddrOk.K), (89, some impl_within.K), (102, some impl_lastBits.K)]⟩
def impl_PrefixOk.f (k : Nat) (a0_0 : Int) (a0_1 : Int) : Option (Bool) :=
  (impl_AddrOk.f k a0_0).bind fun r1 => (bif r1 then (impl_within.f k a0_1 (0 : Int) (32 : Int)).bind fun r2 => (bif r2 then (impl_lastBits.f k a0_1).bind fun r3 => some ((IntKind.i64.wrap (((BitVec.ofInt IntKind.i64.bits a0_0) &&& (BitVec.ofInt IntKind.i64.bits r3)).toNat : Int)) == (0 : Int)) else some false) else some false)
def impl_PrefixOk.K : Ctr := ⟨impl_PrefixOk.ps, impl_PrefixOk.rs, false, (.two (.int .i64) (.int .i64)), .bool, fun k x => impl_PrefixOk.f k x.1 x.2⟩
theorem impl_PrefixOk.eq (k : Nat) (x : (impl_PrefixOk.K.I).den) : func impl_PrefixOk.x impl_PrefixOk.h impl_PrefixOk.ps impl_PrefixOk.rs impl_PrefixOk.vs impl_PrefixOk.K.I impl_PrefixOk.K.O impl_PrefixOk.c k x = impl_PrefixOk.K.run k x := by
  show _ = impl_PrefixOk.f k x.1 x.2
  kernel_rfl
theorem impl_PrefixOk.ok : CtrOk Try.prog 62 impl_PrefixOk.K :=
  CtrOk.of (fn := Try.f62) (cd := impl_PrefixOk.c) (cx := impl_PrefixOk.x) (hs := impl_PrefixOk.h) (by kernel_rfl) (by kernel_rfl) (by kernel_rfl) (by kernel_rfl) tt_ok (envOk_cons impl_AddrOk.ok (envOk_cons impl_within.ok (envOk_cons impl_lastBits.ok (envOk_nil)))) (by kernel_rfl) (by kernel_rfl) (by kernel_rfl) (by kernel_rfl) fun k x r h => (impl_PrefixOk.eq k x).trans h
/-! impl.isId -/
noncomputable def impl_isId.c : Code := bodyOf Try.f63
def impl_isId.h : Nat → Hint := look ⟨[], [], []⟩ []
def impl_isId.ps : List PK := [.one]
def impl_isId.rs : List RK := [.one true]
def impl_isId.vs : List ResultVar := [.tmp 2]
def impl_isId.x : Cx := ⟨tt, look none [(89, some impl_within.K)]⟩
def impl_isId.f (k : Nat) (a0 : Int) : Option (Bool) :=
  (impl_within.f k a0 (1 : Int) (99 : Int)).bind fun r1 => some r1
def impl_isId.K : Ctr := ⟨impl_isId.ps, impl_isId.rs, false, (.int .i64), .bool, fun k x => impl_isId.f k x⟩
theorem impl_isId.eq (k : Nat) (x : (impl_isId.K.I).den) : func impl_isId.x impl_isId.h impl_isId.ps impl_isId.rs impl_isId.vs impl_isId.K.I impl_isId.K.O impl_isId.c k x = impl_isId.K.run k x := by
  show _ = impl_isId.f k x
  kernel_rfl
theorem impl_isId.ok : CtrOk Try.prog 63 impl_isId.K :=
  CtrOk.of (fn := Try.f63) (cd := impl_isId.c) (cx := impl_isId.x) (hs := impl_isId.h) (by kernel_rfl) (by kernel_rfl) (by kernel_rfl) (by kernel_rfl) tt_ok (envOk_cons impl_within.ok (envOk_nil)) (by kernel_rfl) (by kernel_rfl) (by kernel_rfl) (by kernel_rfl) fun k x r h => (impl_isId.eq k x).trans h
/-! cmp.isNaN[int] -/
noncomputable def cmp_isNaN_int.c : Code := bodyOf Try.f119
def cmp_isNaN_int.h : Nat → Hint := look ⟨[], [], []⟩ []
def cmp_isNaN_int.ps : List PK := [.one]
def cmp_isNaN_int.rs : List RK := [.one true]
def cmp_isNaN_int.vs : List ResultVar := [.tmp 2]
def cmp_isNaN_int.x : Cx := ⟨tt, look none []⟩
def cmp_isNaN_int.f (_k : Nat) (a0 : Int) : Option (Bool) :=
  some (a0 != a0)
def cmp_isNaN_int.K : Ctr := ⟨cmp_isNaN_int.ps, cmp_isNaN_int.rs, false, (.int .i64), .bool, fun k x => cmp_isNaN_int.f k x⟩
theorem cmp_isNaN_int.eq (k : Nat) (x : (cmp_isNaN_int.K.I).den) : func cmp_isNaN_int.x cmp_isNaN_int.h cmp_isNaN_int.ps cmp_isNaN_int.rs cmp_isNaN_int.vs cmp_isNaN_int.K.I cmp_isNaN_int.K.O cmp_isNaN_int.c k x = cmp_isNaN_int.K.run k x := by
  show _ = cmp_isNaN_int.f k x
  kernel_rfl
theorem cmp_isNaN_int.ok : CtrOk Try.prog 119 cmp_isNaN_int.K :=
  CtrOk.of (fn := Try.f119) (cd := cmp_isNaN_int.c) (cx := cmp_isNaN_int.x) (hs := cmp_isNaN_int.h) (by kernel_rfl) (by kernel_rfl) (by kernel_rfl) (by kernel_rfl) tt_ok (envOk_nil) (by kernel_rfl) (by kernel_rfl) (by kernel_rfl) (by kernel_rfl) fun k x r h => (cmp_isNaN_int.eq k x).trans h
/-! cmp.Compare[int] -/
noncomputable def cmp_Compare_int.c : Code := bodyOf Try.f104
def cmp_Compare_int.h : Nat → Hint := look ⟨[], [], []⟩ []
def cmp_Compare_int.ps : List PK := [.one, .one]
def cmp_Compare_int.rs : List RK := [.one true]
def cmp_Compare_int.vs : List ResultVar := [.tmp 4]
def cmp_Compare_int.x : Cx := ⟨tt, look none [(119, some cmp_isNaN_int.K)]⟩
def cmp_Compare_int.f (k : Nat) (a0 : Int) (a1 : Int) : Option (Int) :=
  (cmp_isNaN_int.f k a0).bind fun r1 => (cmp_isNaN_int.f k a1).bind fun r2 => (bif r1 then (bif r2 then some (0 : Int) else some (-1 : Int)) else (bif r2 then some (1 : Int) else (bif (decide (a0 < a1)) then some (-1 : Int) else (bif (decide (a0 > a1)) then some (1 : Int) else some (0 : Int)))))
def cmp_Compare_int.K : Ctr := ⟨cmp_Compare_int.ps, cmp_Compare_int.rs, false, (.two (.int .i64) (.int .i64)), (.int .i64), fun k x => cmp_Compare_int.f k x.1 x.2⟩
theorem cmp_Compare_int.eq (k : Nat) (x : (cmp_Compare_int.K.I).den) : func cmp_Compare_int.x cmp_Compare_int.h cmp_Compare_int.ps cmp_Compare_int.rs cmp_Compare_int.vs cmp_Compare_int.K.I cmp_Compare_int.K.O cmp_Compare_int.c k x = cmp_Compare_int.K.run k x := by
  show _ = cmp_Compare_int.f k x.1 x.2
  kernel_rfl
theorem cmp_Compare_int.ok : CtrOk Try.prog 104 cmp_Compare_int.K :=
  CtrOk.of (fn := Try.f104) (cd := cmp_Compare_int.c) (cx := cmp_Compare_int.x) (hs := cmp_Compare_int.h) (by kernel_rfl) (by kernel_rfl) (by kernel_rfl) (by kernel_rfl) tt_ok (envOk_cons cmp_isNaN_int.ok (envOk_nil)) (by kernel_rfl) (by kernel_rfl) (by kernel_rfl) (by kernel_rfl) fun k x r h => (cmp_Compare_int.eq k x).trans h
/-! cmp.Or[int] -/
noncomputable def cmp_Or_int.c : Code := bodyOf Try.f103
def cmp_Or_int.h : Nat → Hint := look ⟨[], [], []⟩ [(0, ⟨[3, 6, 7, 8], [], []⟩)]
def cmp_Or_int.ps : List PK := [.one]
def cmp_Or_int.rs : List RK := [.one true]
def cmp_Or_int.vs : List ResultVar := [.tmp 2]
def cmp_Or_int.x : Cx := ⟨tt, look none []⟩
def cmp_Or_int.s0 (_k : Nat) (rec0 : (Int × Int × Int × (List (Int))) → Option (Int)) (p : (Int × Int × Int × (List (Int)))) : Option (Int) :=
  (bif (decide (p.2.2.1 < p.2.1)) then (bif ((decide ((0 : Int) ≤ p.2.2.1)) && (decide (p.2.2.1 < (p.2.2.2.length : Int)))) then (p.2.2.2[p.2.2.1.toNat]?).bind fun x1 => (bif (x1 != p.1) then some x1 else rec0 (p.1, p.2.1, (IntKind.i64.wrap (p.2.2.1 + (1 : Int))), p.2.2.2)) else none) else some p.1)
def cmp_Or_int.l0 (k : Nat) : Nat → (Int × Int × Int × (List (Int))) → Option (Int)
  | 0 => fun _ => none
  | j + 1 => cmp_Or_int.s0 k (cmp_Or_int.l0 k j)
def cmp_Or_int.S0 (p : (Int × Int × Int × (List (Int)))) : DS := ⟨tl [(3, .at (.int .i64 p.1)), (6, .at (.whole 0)), (7, .at (.int .i64 p.2.1)), (8, .at (.int .i64 p.2.2.1))], lookO [(0, .row 3 (.int .i64) false p.2.2.2)]⟩
noncomputable def cmp_Or_int.D0 (k : Nat) (j : Nat) (p : (Int × Int × Int × (List (Int)))) : Option (Int) := loopK (norm [0] (cmp_Or_int.h 0)) (runK cmp_Or_int.x k 0 [0] cmp_Or_int.h 0 (sub cmp_Or_int.c [1, 1, 0, 1, 0, 0])) j (cmp_Or_int.S0 p) (kBlk 0 (kSeq (runK cmp_Or_int.x k 0 [0] cmp_Or_int.h 0 (sub cmp_Or_int.c [1, 1, 1])) (fin tt cmp_Or_int.ps cmp_Or_int.rs cmp_Or_int.vs (.int .i64))))
theorem cmp_Or_int.D0_eq (k : Nat) : ∀ j, cmp_Or_int.D0 k j = cmp_Or_int.l0 k j := by
  intro j
  induction j with
  | zero => rfl
  | succ j ih =>
    show _ = cmp_Or_int.s0 k (cmp_Or_int.l0 k j)
    rw [← ih]
    funext p
    kernel_rfl
def cmp_Or_int.f (k : Nat) (a0 : List (Int)) : Option (Int) :=
  cmp_Or_int.l0 k k ((0 : Int), (a0.length : Int), (0 : Int), a0)
def cmp_Or_int.K : Ctr := ⟨cmp_Or_int.ps, cmp_Or_int.rs, false, (.sl 3 (.int .i64)), (.int .i64), fun k x => cmp_Or_int.f k x⟩
theorem cmp_Or_int.eq (k : Nat) (x : (cmp_Or_int.K.I).den) : func cmp_Or_int.x cmp_Or_int.h cmp_Or_int.ps cmp_Or_int.rs cmp_Or_int.vs cmp_Or_int.K.I cmp_Or_int.K.O cmp_Or_int.c k x = cmp_Or_int.K.run k x := by
  show _ = cmp_Or_int.f k x
  unfold cmp_Or_int.f
  rw [← cmp_Or_int.D0_eq k k]
  kernel_rfl
theorem cmp_Or_int.ok : CtrOk Try.prog 103 cmp_Or_int.K :=
  CtrOk.of (fn := Try.f103) (cd := cmp_Or_int.c) (cx := cmp_Or_int.x) (hs := cmp_Or_int.h) (by kernel_rfl) (by kernel_rfl) (by kernel_rfl) (by kernel_rfl) tt_ok (envOk_nil) (by kernel_rfl) (by kernel_rfl) (by kernel_rfl) (by kernel_rfl) fun k x r h => (cmp_Or_int.eq k x).trans h
/-! impl.comparePrefixes -/
noncomputable def impl_comparePrefixes.c : Code := bodyOf Try.f64
def impl_comparePrefixes.h : Nat → Hint := look ⟨[], [], []⟩ []
def impl_comparePrefixes.ps : List PK := [.agg 2, .agg 2]
def impl_comparePrefixes.rs : List RK := [.one true]
def impl_comparePrefixes.vs : List ResultVar := [.tmp 4]
def impl_comparePrefixes.x : Cx := ⟨tt, look none [(104, some cmp_Compare_int.K), (103, some cmp_Or_int.K)]⟩
def impl_comparePrefixes.f (k : Nat) (a0_0 : Int) (a0_1 : Int) (a1_0 : Int) (a1_1 : Int) : Option (Int) :=
  (cmp_Compare_int.f k a0_0 a1_0).bind fun r1 => (cmp_Compare_int.f k a0_1 a1_1).bind fun r2 => (cmp_Or_int.f k [r1, r2]).bind fun r3 => some r3
def impl_comparePrefixes.K : Ctr := ⟨impl_comparePrefixes.ps, impl_comparePrefixes.rs, false, (.two (.int .i64) (.two (.int .i64) (.two (.int .i64) (.int .i64)))), (.int .i64), fun k x => impl_comparePrefixes.f k x.1 x.2.1 x.2.2.1 x.2.2.2⟩
theorem impl_comparePrefixes.eq (k : Nat) (x : (impl_comparePrefixes.K.I).den) : func impl_comparePrefixes.x impl_comparePrefixes.h impl_comparePrefixes.ps impl_comparePrefixes.rs impl_comparePrefixes.vs impl_comparePrefixes.K.I impl_comparePrefixes.K.O impl_comparePrefixes.c k x = impl_comparePrefixes.K.run k x := by
  show _ = impl_comparePrefixes.f k x.1 x.2.1 x.2.2.1 x.2.2.2
  kernel_rfl
theorem impl_comparePrefixes.ok : CtrOk Try.prog 64 impl_comparePrefixes.K :=
  CtrOk.of (fn := Try.f64) (cd := impl_comparePrefixes.c) (cx := impl_comparePrefixes.x) (hs := impl_comparePrefixes.h) (by kernel_rfl) (by kernel_rfl) (by kernel_rfl) (by kernel_rfl) tt_ok (envOk_cons cmp_Compare_int.ok (envOk_cons cmp_Or_int.ok (envOk_nil))) (by kernel_rfl) (by kernel_rfl) (by kernel_rfl) (by kernel_rfl) fun k x r h => (impl_comparePrefixes.eq k x).trans h
/-! impl.RoutesOk -/
noncomputable def impl_RoutesOk.c : Code := bodyOf Try.f23
def impl_RoutesOk.h : Nat → Hint := look ⟨[], [], []⟩ [(0, ⟨[0, 5, 6, 7], [], []⟩)]
def impl_RoutesOk.ps : List PK := [.one]
def impl_RoutesOk.rs : List RK := [.one true]
def impl_RoutesOk.vs : List ResultVar := [.tmp 2]
def impl_RoutesOk.x : Cx := ⟨tt, look none [(62, some impl_PrefixOk.K), (63, some impl_isId.K), (64, some impl_comparePrefixes.K)]⟩
def impl_RoutesOk.s0 (k : Nat) (rec0 : (Int × Int × (List (Int × Int × Int))) → Option (Bool)) (p : (Int × Int × (List (Int × Int × Int)))) : Option (Bool) :=
  (bif (decide (p.2.1 < p.1)) then (bif ((decide ((0 : Int) ≤ p.2.1)) && (decide (p.2.1 < (p.2.2.length : Int)))) then (p.2.2[p.2.1.toNat]?).bind fun x1 => (impl_PrefixOk.f k x1.1 x1.2.1).bind fun r2 => (bif (!r2) then some false else (impl_isId.f k x1.2.2).bind fun r3 => (bif (!r3) then some false else (bif (decide (p.2.1 > (0 : Int))) then (bif ((decide ((0 : Int) ≤ (IntKind.i64.wrap (p.2.1 - (1 : Int))))) && (decide ((IntKind.i64.wrap (p.2.1 - (1 : Int))) < (p.2.2.length : Int)))) then (p.2.2[(IntKind.i64.wrap (p.2.1 - (1 : Int))).toNat]?).bind fun x4 => (impl_comparePrefixes.f k x4.1 x4.2.1 x1.1 x1.2.1).bind fun r5 => (bif (decide (r5 ≥ (0 : Int))) then some false else rec0 (p.1, (IntKind.i64.wrap (p.2.1 + (1 : Int))), p.2.2)) else none) else rec0 (p.1, (IntKind.i64.wrap (p.2.1 + (1 : Int))), p.2.2)))) else none) else some (decide ((p.2.2.length : Int) ≤ (12 : Int))))
def impl_RoutesOk.l0 (k : Nat) : Nat → (Int × Int × (List (Int × Int × Int))) → Option (Bool)
  | 0 => fun _ => none
  | j + 1 => impl_RoutesOk.s0 k (impl_RoutesOk.l0 k j)
def impl_RoutesOk.S0 (p : (Int × Int × (List (Int × Int × Int)))) : DS := ⟨tl [(0, .at (.whole 0)), (5, .at (.whole 0)), (6, .at (.int .i64 p.1)), (7, .at (.int .i64 p.2.1))], lookO [(0, .row 65 (.two (.int .i64) (.two (.int .i64) (.int .i64))) false p.2.2)]⟩
noncomputable def impl_RoutesOk.D0 (k : Nat) (j : Nat) (p : (Int × Int × (List (Int × Int × Int)))) : Option (Bool) := loopK (norm [0] (impl_RoutesOk.h 0)) (runK impl_RoutesOk.x k 0 [0] impl_RoutesOk.h 0 (sub impl_RoutesOk.c [1, 0, 1, 0, 0])) j (impl_RoutesOk.S0 p) (kBlk 0 (kSeq (runK impl_RoutesOk.x k 0 [0] impl_RoutesOk.h 0 (sub impl_RoutesOk.c [1, 1])) (fin tt impl_RoutesOk.ps impl_RoutesOk.rs impl_RoutesOk.vs .bool)))
theorem impl_RoutesOk.D0_eq (k : Nat) : ∀ j, impl_RoutesOk.D0 k j = impl_RoutesOk.l0 k j := by
  intro j
  induction j with
  | zero => rfl
  | succ j ih =>
    show _ = impl_RoutesOk.s0 k (impl_RoutesOk.l0 k j)
    rw [← ih]
    funext p
    kernel_rfl
def impl_RoutesOk.f (k : Nat) (a0 : List (Int × Int × Int)) : Option (Bool) :=
  impl_RoutesOk.l0 k k ((a0.length : Int), (0 : Int), a0)
def impl_RoutesOk.K : Ctr := ⟨impl_RoutesOk.ps, impl_RoutesOk.rs, false, (.sl 65 (.two (.int .i64) (.two (.int .i64) (.int .i64)))), .bool, fun k x => impl_RoutesOk.f k x⟩
theorem impl_RoutesOk.eq (k : Nat) (x : (impl_RoutesOk.K.I).den) : func impl_RoutesOk.x impl_RoutesOk.h impl_RoutesOk.ps impl_RoutesOk.rs impl_RoutesOk.vs impl_RoutesOk.K.I impl_RoutesOk.K.O impl_RoutesOk.c k x = impl_RoutesOk.K.run k x := by
  show _ = impl_RoutesOk.f k x
  unfold impl_RoutesOk.f
  rw [← impl_RoutesOk.D0_eq k k]
  kernel_rfl
theorem impl_RoutesOk.ok : CtrOk Try.prog 23 impl_RoutesOk.K :=
  CtrOk.of (fn := Try.f23) (cd := impl_RoutesOk.c) (cx := impl_RoutesOk.x) (hs := impl_RoutesOk.h) (by kernel_rfl) (by kernel_rfl) (by kernel_rfl) (by kernel_rfl) tt_ok (envOk_cons impl_PrefixOk.ok (envOk_cons impl_isId.ok (envOk_cons impl_comparePrefixes.ok (envOk_nil)))) (by kernel_rfl) (by kernel_rfl) (by kernel_rfl) (by kernel_rfl) fun k x r h => (impl_RoutesOk.eq k x).trans h
/-! impl.TrieOk -/
noncomputable def impl_TrieOk.c : Code := bodyOf Try.f51
def impl_TrieOk.h : Nat → Hint := look ⟨[], [], []⟩ [(0, ⟨[3, 4, 18, 19, 20], [], [(.t 4, 1136, 3, (.int .i64))]⟩), (2, ⟨[3, 4, 5, 6, 18, 19, 20, 29, 30, 31], [96], [(.t 4, 1136, 3, (.int .i64)), (.t 29, 1137, 3, (.int .i64))]⟩)]
def impl_TrieOk.ps : List PK := [.agg 1]
def impl_TrieOk.rs : List RK := [.one true]
def impl_TrieOk.vs : List ResultVar := [.tmp 2]
def impl_TrieOk.x : Cx := ⟨tt, look none [(89, some impl_within.K)]⟩
def impl_TrieOk.s2 (k : Nat) (rec0 : (Int × Int × Int × (List (Int × Int × Int)) × (List (Int))) → Option (Bool)) (rec2 : (Int × Int × Int × Int × Int × Int × (List (Int × Int × Int)) × Int × Int × Int × (List (Int)) × (List (Int))) → Option (Bool)) (p : (Int × Int × Int × Int × Int × Int × (List (Int × Int × Int)) × Int × Int × Int × (List (Int)) × (List (Int)))) : Option (Bool) :=
  (bif (decide (p.2.2.2.2.2.1 < p.2.2.2.2.1)) then (bif ((decide ((0 : Int) ≤ p.2.2.2.2.2.1)) && (decide (p.2.2.2.2.2.1 < (p.2.2.2.2.2.2.2.2.2.2.2.length : Int)))) then (p.2.2.2.2.2.2.2.2.2.2.2[p.2.2.2.2.2.1.toNat]?).bind fun x3 => (bif (x3 != (0 : Int)) then (impl_within.f k x3 (IntKind.i64.wrap (p.2.1 + (1 : Int))) (IntKind.i64.wrap (p.1 - (1 : Int)))).bind fun r4 => (bif (!r4) then some false else (bif (x3 != (0 : Int)) then (bif ((decide ((0 : Int) ≤ x3)) && (decide (x3 < (p.2.2.2.2.2.2.2.2.2.2.1.length : Int)))) then (p.2.2.2.2.2.2.2.2.2.2.1[x3.toNat]?).bind fun x5 => (bif ((decide ((0 : Int) ≤ x3)) && (decide (x3 < (p.2.2.2.2.2.2.2.2.2.2.1.length : Int)))) then (p.2.2.2.2.2.2.2.2.2.2.1[x3.toNat]?).bind fun x6 => rec2 (p.1, p.2.1, p.2.2.1, p.2.2.2.1, p.2.2.2.2.1, (IntKind.i64.wrap (p.2.2.2.2.2.1 + (1 : Int))), p.2.2.2.2.2.2.1, p.2.2.2.2.2.2.2.1, p.2.2.2.2.2.2.2.2.1, p.2.2.2.2.2.2.2.2.2.1, (p.2.2.2.2.2.2.2.2.2.2.1.set x3.toNat (IntKind.i64.wrap (x5 + (1 : Int)))), p.2.2.2.2.2.2.2.2.2.2.2) else none) else none) else rec2 (p.1, p.2.1, p.2.2.1, p.2.2.2.1, p.2.2.2.2.1, (IntKind.i64.wrap (p.2.2.2.2.2.1 + (1 : Int))), p.2.2.2.2.2.2.1, p.2.2.2.2.2.2.2.1, p.2.2.2.2.2.2.2.2.1, p.2.2.2.2.2.2.2.2.2.1, p.2.2.2.2.2.2.2.2.2.2.1, p.2.2.2.2.2.2.2.2.2.2.2))) else (bif (x3 != (0 : Int)) then (bif ((decide ((0 : Int) ≤ x3)) && (decide (x3 < (p.2.2.2.2.2.2.2.2.2.2.1.length : Int)))) then (p.2.2.2.2.2.2.2.2.2.2.1[x3.toNat]?).bind fun x7 => (bif ((decide ((0 : Int) ≤ x3)) && (decide (x3 < (p.2.2.2.2.2.2.2.2.2.2.1.length : Int)))) then (p.2.2.2.2.2.2.2.2.2.2.1[x3.toNat]?).bind fun x8 => rec2 (p.1, p.2.1, p.2.2.1, p.2.2.2.1, p.2.2.2.2.1, (IntKind.i64.wrap (p.2.2.2.2.2.1 + (1 : Int))), p.2.2.2.2.2.2.1, p.2.2.2.2.2.2.2.1, p.2.2.2.2.2.2.2.2.1, p.2.2.2.2.2.2.2.2.2.1, (p.2.2.2.2.2.2.2.2.2.2.1.set x3.toNat (IntKind.i64.wrap (x7 + (1 : Int)))), p.2.2.2.2.2.2.2.2.2.2.2) else none) else none) else rec2 (p.1, p.2.1, p.2.2.1, p.2.2.2.1, p.2.2.2.2.1, (IntKind.i64.wrap (p.2.2.2.2.2.1 + (1 : Int))), p.2.2.2.2.2.2.1, p.2.2.2.2.2.2.2.1, p.2.2.2.2.2.2.2.2.1, p.2.2.2.2.2.2.2.2.2.1, p.2.2.2.2.2.2.2.2.2.2.1, p.2.2.2.2.2.2.2.2.2.2.2))) else none) else (impl_within.f k p.2.2.2.2.2.2.2.2.2.1 (0 : Int) (99 : Int)).bind fun r9 => (bif (!r9) then some false else (bif (decide (p.2.1 > (0 : Int))) then (bif ((decide ((0 : Int) ≤ p.2.1)) && (decide (p.2.1 < (p.2.2.2.2.2.2.2.2.2.2.1.length : Int)))) then (p.2.2.2.2.2.2.2.2.2.2.1[p.2.1.toNat]?).bind fun x10 => (bif (x10 != (1 : Int)) then some false else rec0 (p.1, p.2.2.1, (IntKind.i64.wrap (p.2.2.2.1 + (1 : Int))), p.2.2.2.2.2.2.1, p.2.2.2.2.2.2.2.2.2.2.1)) else none) else rec0 (p.1, p.2.2.1, (IntKind.i64.wrap (p.2.2.2.1 + (1 : Int))), p.2.2.2.2.2.2.1, p.2.2.2.2.2.2.2.2.2.2.1))))
def impl_TrieOk.l2 (k : Nat) (rec0 : (Int × Int × Int × (List (Int × Int × Int)) × (List (Int))) → Option (Bool)) : Nat → (Int × Int × Int × Int × Int × Int × (List (Int × Int × Int)) × Int × Int × Int × (List (Int)) × (List (Int))) → Option (Bool)
  | 0 => fun _ => none
  | j + 1 => impl_TrieOk.s2 k rec0 (impl_TrieOk.l2 k rec0 j)
def impl_TrieOk.s0 (_k : Nat) (_rec0 : (Int × Int × Int × (List (Int × Int × Int)) × (List (Int))) → Option (Bool)) (i2 : (Int × Int × Int × Int × Int × Int × (List (Int × Int × Int)) × Int × Int × Int × (List (Int)) × (List (Int))) → Option (Bool)) (p : (Int × Int × Int × (List (Int × Int × Int)) × (List (Int)))) : Option (Bool) :=
  (bif (decide (p.2.2.1 < p.2.1)) then (bif ((decide ((0 : Int) ≤ p.2.2.1)) && (decide (p.2.2.1 < (p.2.2.2.1.length : Int)))) then (p.2.2.2.1[p.2.2.1.toNat]?).bind fun x2 => i2 (p.1, p.2.2.1, p.2.1, p.2.2.1, ([x2.1, x2.2.1].length : Int), (0 : Int), p.2.2.2.1, x2.1, x2.2.1, x2.2.2, p.2.2.2.2, [x2.1, x2.2.1]) else none) else some true)
def impl_TrieOk.l0 (k : Nat) : Nat → (Int × Int × Int × (List (Int × Int × Int)) × (List (Int))) → Option (Bool)
  | 0 => fun _ => none
  | j + 1 => impl_TrieOk.s0 k (impl_TrieOk.l0 k j) (impl_TrieOk.l2 k (impl_TrieOk.l0 k j) k)
def impl_TrieOk.S2 (p : (Int × Int × Int × Int × Int × Int × (List (Int × Int × Int)) × Int × Int × Int × (List (Int)) × (List (Int)))) : DS := ⟨tl [(3, .at (.int .i64 p.1)), (4, .at (.whole 1136)), (5, .at (.int .i64 p.2.1)), (6, .at (.bptr 96 0)), (18, .at (.whole 0)), (19, .at (.int .i64 p.2.2.1)), (20, .at (.int .i64 p.2.2.2.1)), (29, .at (.whole 1137)), (30, .at (.int .i64 p.2.2.2.2.1)), (31, .at (.int .i64 p.2.2.2.2.2.1))], lookO [(0, .row 104 (.two (.int .i64) (.two (.int .i64) (.int .i64))) false p.2.2.2.2.2.2.1), (96, .box 104 [.int .i64 p.2.2.2.2.2.2.2.1, .int .i64 p.2.2.2.2.2.2.2.2.1, .int .i64 p.2.2.2.2.2.2.2.2.2.1]), (1136, .row 3 (.int .i64) true p.2.2.2.2.2.2.2.2.2.2.1), (1137, .row 3 (.int .i64) true p.2.2.2.2.2.2.2.2.2.2.2)]⟩
def impl_TrieOk.S0 (p : (Int × Int × Int × (List (Int × Int × Int)) × (List (Int)))) : DS := ⟨tl [(3, .at (.int .i64 p.1)), (4, .at (.whole 1136)), (18, .at (.whole 0)), (19, .at (.int .i64 p.2.1)), (20, .at (.int .i64 p.2.2.1))], lookO [(0, .row 104 (.two (.int .i64) (.two (.int .i64) (.int .i64))) false p.2.2.2.1), (1136, .row 3 (.int .i64) true p.2.2.2.2)]⟩
noncomputable def impl_TrieOk.D2 (k : Nat) (j0 : Nat) (j : Nat) (p : (Int × Int × Int × Int × Int × Int × (List (Int × Int × Int)) × Int × Int × Int × (List (Int)) × (List (Int)))) : Option (Bool) := loopK (norm [0] (impl_TrieOk.h 2)) (runK impl_TrieOk.x k 0 [0] impl_TrieOk.h 2 (sub impl_TrieOk.c [1, 1, 1, 1, 0, 1, 0, 0, 1, 1, 0, 0, 1, 0, 1, 0, 0])) j (impl_TrieOk.S2 p) (kBlk 2 (kSeq (runK impl_TrieOk.x k 0 [0] impl_TrieOk.h 1 (sub impl_TrieOk.c [1, 1, 1, 1, 0, 1, 0, 0, 1, 1, 0, 0, 1, 1])) (kBlk 1 (kSeq (runK impl_TrieOk.x k 0 [0] impl_TrieOk.h 0 (sub impl_TrieOk.c [1, 1, 1, 1, 0, 1, 0, 0, 1, 1, 1])) (kSeq (fun s' K => (norm [0] (impl_TrieOk.h 0) s').bind fun s => loopK (norm [0] (impl_TrieOk.h 0)) (runK impl_TrieOk.x k 0 [0] impl_TrieOk.h 0 (sub impl_TrieOk.c [1, 1, 1, 1, 0, 1, 0, 0])) j0 s K) (kBlk 0 (kSeq (runK impl_TrieOk.x k 0 [0] impl_TrieOk.h 0 (sub impl_TrieOk.c [1, 1, 1, 1, 1])) (fin tt impl_TrieOk.ps impl_TrieOk.rs impl_TrieOk.vs .bool))))))))
noncomputable def impl_TrieOk.D0 (k : Nat) (j : Nat) (p : (Int × Int × Int × (List (Int × Int × Int)) × (List (Int)))) : Option (Bool) := loopK (norm [0] (impl_TrieOk.h 0)) (runK impl_TrieOk.x k 0 [0] impl_TrieOk.h 0 (sub impl_TrieOk.c [1, 1, 1, 1, 0, 1, 0, 0])) j (impl_TrieOk.S0 p) (kBlk 0 (kSeq (runK impl_TrieOk.x k 0 [0] impl_TrieOk.h 0 (sub impl_TrieOk.c [1, 1, 1, 1, 1])) (fin tt impl_TrieOk.ps impl_TrieOk.rs impl_TrieOk.vs .bool)))
theorem impl_TrieOk.D2_eq (k : Nat) (j0 : Nat) : ∀ j, impl_TrieOk.D2 k j0 j = impl_TrieOk.l2 k (impl_TrieOk.D0 k j0) j := by
  intro j
  induction j with
  | zero => rfl
  | succ j ih =>
    show _ = impl_TrieOk.s2 k (impl_TrieOk.D0 k j0) (impl_TrieOk.l2 k (impl_TrieOk.D0 k j0) j)
    rw [← ih]
    funext p
    kernel_rfl
theorem impl_TrieOk.D0_eq (k : Nat) : ∀ j, impl_TrieOk.D0 k j = impl_TrieOk.l0 k j := by
  intro j
  induction j with
  | zero => rfl
  | succ j ih =>
    show _ = impl_TrieOk.s0 k (impl_TrieOk.l0 k j) (impl_TrieOk.l2 k (impl_TrieOk.l0 k j) k)
    rw [← ih, ← impl_TrieOk.D2_eq k j k]
    funext p
    kernel_rfl
def impl_TrieOk.f (k : Nat) (a0 : List (Int × Int × Int)) : Option (Bool) :=
  (impl_within.f k (a0.length : Int) (1 : Int) (400 : Int)).bind fun r1 => (bif (!r1) then some false else (bif ((decide ((0 : Int) ≤ (a0.length : Int))) && decide ((a0.length : Int) * 8 ≤ 140737488355328)) then impl_TrieOk.l0 k k ((a0.length : Int), (a0.length : Int), (0 : Int), a0, (List.replicate (a0.length : Int).toNat (0 : Int))) else none))
def impl_TrieOk.K : Ctr := ⟨impl_TrieOk.ps, impl_TrieOk.rs, false, (.sl 104 (.two (.int .i64) (.two (.int .i64) (.int .i64)))), .bool, fun k x => impl_TrieOk.f k x⟩
theorem impl_TrieOk.eq (k : Nat) (x : (impl_TrieOk.K.I).den) : func impl_TrieOk.x impl_TrieOk.h impl_TrieOk.ps impl_TrieOk.rs impl_TrieOk.vs impl_TrieOk.K.I impl_TrieOk.K.O impl_TrieOk.c k x = impl_TrieOk.K.run k x := by
  show _ = impl_TrieOk.f k x
  unfold impl_TrieOk.f
  rw [← impl_TrieOk.D0_eq k k]
  kernel_rfl
theorem impl_TrieOk.ok : CtrOk Try.prog 51 impl_TrieOk.K :=
  CtrOk.of (fn := Try.f51) (cd := impl_TrieOk.c) (cx := impl_TrieOk.x) (hs := impl_TrieOk.h) (by kernel_rfl) (by kernel_rfl) (by kernel_rfl) (by kernel_rfl) tt_ok (envOk_cons impl_within.ok (envOk_nil)) (by kernel_rfl) (by kernel_rfl) (by kernel_rfl) (by kernel_rfl) fun k x r h => (impl_TrieOk.eq k x).trans h
/-! impl.copyTrie -/
noncomputable def impl_copyTrie.c : Code := bodyOf Try.f94
def impl_copyTrie.h : Nat → Hint := look ⟨[], [], []⟩ []
def impl_copyTrie.ps : List PK := [.agg 1]
def impl_copyTrie.rs : List RK := [.agg 1 true]
def impl_copyTrie.vs : List ResultVar := [.cell 2 55]
def impl_copyTrie.x : Cx := ⟨tt, look none []⟩
def impl_copyTrie.f (_k : Nat) (a0 : List (Int × Int × Int)) : Option ((List (Int × Int × Int))) :=
  (bif decide ((([] : List (Int × Int × Int)).length + a0.length) * 24 ≤ 140737488355328) then some (([] : List (Int × Int × Int)) ++ a0) else none)
def impl_copyTrie.K : Ctr := ⟨impl_copyTrie.ps, impl_copyTrie.rs, false, (.sl 104 (.two (.int .i64) (.two (.int .i64) (.int .i64)))), (.sl 104 (.two (.int .i64) (.two (.int .i64) (.int .i64)))), fun k x => impl_copyTrie.f k x⟩
theorem impl_copyTrie.eq (k : Nat) (x : (impl_copyTrie.K.I).den) : func impl_copyTrie.x impl_copyTrie.h impl_copyTrie.ps impl_copyTrie.rs impl_copyTrie.vs impl_copyTrie.K.I impl_copyTrie.K.O impl_copyTrie.c k x = impl_copyTrie.K.run k x := by
  show _ = impl_copyTrie.f k x
  kernel_rfl
theorem impl_copyTrie.ok : CtrOk Try.prog 94 impl_copyTrie.K :=
  CtrOk.of (fn := Try.f94) (cd := impl_copyTrie.c) (cx := impl_copyTrie.x) (hs := impl_copyTrie.h) (by kernel_rfl) (by kernel_rfl) (by kernel_rfl) (by kernel_rfl) tt_ok (envOk_nil) (by kernel_rfl) (by kernel_rfl) (by kernel_rfl) (by kernel_rfl) fun k x r h => (impl_copyTrie.eq k x).trans h
/-! impl.bitOf -/
noncomputable def impl_bitOf.c : Code := bodyOf Try.f80
def impl_bitOf.h : Nat → Hint := look ⟨[], [], []⟩ []
def impl_bitOf.ps : List PK := [.one, .one]
def impl_bitOf.rs : List RK := [.one true]
def impl_bitOf.vs : List ResultVar := [.tmp 4]
def impl_bitOf.x : Cx := ⟨tt, look none []⟩
def impl_bitOf.f (_k : Nat) (a0 : Int) (a1 : Int) : Option (Int) :=
  (bif (decide ((IntKind.i64.wrap ((31 : Int) - a1)) < (0 : Int))) then none else some (IntKind.i64.wrap (((BitVec.ofInt IntKind.i64.bits (a0.fdiv (2 ^ (min (IntKind.i64.wrap ((31 : Int) - a1)).toNat IntKind.i64.bits)))) &&& (BitVec.ofInt IntKind.i64.bits (1 : Int))).toNat : Int)))
def impl_bitOf.K : Ctr := ⟨impl_bitOf.ps, impl_bitOf.rs, false, (.two (.int .i64) (.int .i64)), (.int .i64), fun k x => impl_bitOf.f k x.1 x.2⟩
theorem impl_bitOf.eq (k : Nat) (x : (impl_bitOf.K.I).den) : func impl_bitOf.x impl_bitOf.h impl_bitOf.ps impl_bitOf.rs impl_bitOf.vs impl_bitOf.K.I impl_bitOf.K.O impl_bitOf.c k x = impl_bitOf.K.run k x := by
  show _ = impl_bitOf.f k x.1 x.2
  kernel_rfl
theorem impl_bitOf.ok : CtrOk Try.prog 80 impl_bitOf.K :=
  CtrOk.of (fn := Try.f80) (cd := impl_bitOf.c) (cx := impl_bitOf.x) (hs := impl_bitOf.h) (by kernel_rfl) (by kernel_rfl) (by kernel_rfl) (by kernel_rfl) tt_ok (envOk_nil) (by kernel_rfl) (by kernel_rfl) (by kernel_rfl) (by kernel_rfl) fun k x r h => (impl_bitOf.eq k x).trans h
/-! impl.along -/
noncomputable def impl_along.c : Code := bodyOf Try.f79
def impl_along.h : Nat → Hint := look ⟨[], [], []⟩ []
def impl_along.ps : List PK := [.agg 3, .one]
def impl_along.rs : List RK := [.one true]
def impl_along.vs : List ResultVar := [.tmp 4]
def impl_along.x : Cx := ⟨tt, look none []⟩
def impl_along.f (_k : Nat) (a0_0 : Int) (a0_1 : Int) (_a0_2 : Int) (a1 : Int) : Option (Int) :=
  (bif (a1 == (0 : Int)) then some a0_0 else some a0_1)
def impl_along.K : Ctr := ⟨impl_along.ps, impl_along.rs, false, (.two (.int .i64) (.two (.int .i64) (.two (.int .i64) (.int .i64)))), (.int .i64), fun k x => impl_along.f k x.1 x.2.1 x.2.2.1 x.2.2.2⟩
theorem impl_along.eq (k : Nat) (x : (impl_along.K.I).den) : func impl_along.x impl_along.h impl_along.ps impl_along.rs impl_along.vs impl_along.K.I impl_along.K.O impl_along.c k x = impl_along.K.run k x := by
  show _ = impl_along.f k x.1 x.2.1 x.2.2.1 x.2.2.2
  kernel_rfl
theorem impl_along.ok : CtrOk Try.prog 79 impl_along.K :=
  CtrOk.of (fn := Try.f79) (cd := impl_along.c) (cx := impl_along.x) (hs := impl_along.h) (by kernel_rfl) (by kernel_rfl) (by kernel_rfl) (by kernel_rfl) tt_ok (envOk_nil) (by kernel_rfl) (by kernel_rfl) (by kernel_rfl) (by kernel_rfl) fun k x r h => (impl_along.eq k x).trans h
end Go.Proofs.Ytbddppnhpapfkaa.DI
