/- FnExactAgree: functions as plain Lean, in the machine of values. -/
import Derived.Test.YtfaeklomiofpdaaVFnExactAgree1
namespace Go.Proofs.Ytfaeklomiofpdaa.DI
open Go
set_option linter.unusedVariables false
/-! impl.Agree -/
noncomputable def impl_Agree.c : Code := bodyOf Try.f55
def impl_Agree.h : Nat → Hint := look ⟨[], [], []⟩ [(0, ⟨[2, 3, 4, 18, 19, 20], [32, 48, 64], [(.b 64 1, 704, 9, .str)]⟩)]
def impl_Agree.ps : List PK := [.agg 3, .agg 3]
def impl_Agree.rs : List RK := [.agg 3 true, .one true]
def impl_Agree.vs : List ResultVar := [.cell 4 90, .tmp 5]
def impl_Agree.x : Cx := ⟨tt, look none [(117, some impl_OptionsOk.K), (118, some slices_Contains_string_string.K)]⟩
def impl_Agree.s0 (k : Nat) (rec0 : (Int × Int × (List (ByteArray)) × (List (ByteArray)) × Int × Bool × Int × Bool × Int × Bool × (List (ByteArray))) → Option (Int × (List (ByteArray)) × Bool × Bool)) (p : (Int × Int × (List (ByteArray)) × (List (ByteArray)) × Int × Bool × Int × Bool × Int × Bool × (List (ByteArray)))) : Option (Int × (List (ByteArray)) × Bool × Bool) :=
  (bif (decide (p.2.1 < p.1)) then (bif ((decide ((0 : Int) ≤ p.2.1)) && (decide (p.2.1 < (p.2.2.1.length : Int)))) then (p.2.2.1[p.2.1.toNat]?).bind fun x3 => (slices_Contains_string_string.f k p.2.2.2.1 x3).bind fun r4 => (bif r4 then (bif p.2.2.2.2.2.1 then some ((bif (decide (p.2.2.2.2.2.2.1 < p.2.2.2.2.1)) then p.2.2.2.2.2.2.1 else p.2.2.2.2.1), [x3], p.2.2.2.2.2.2.2.1, true) else some ((bif (decide (p.2.2.2.2.2.2.1 < p.2.2.2.2.1)) then p.2.2.2.2.2.2.1 else p.2.2.2.2.1), [x3], false, true)) else rec0 (p.1, (IntKind.i64.wrap (p.2.1 + (1 : Int))), p.2.2.1, p.2.2.2.1, p.2.2.2.2.1, p.2.2.2.2.2.1, p.2.2.2.2.2.2.1, p.2.2.2.2.2.2.2.1, p.2.2.2.2.2.2.2.2.1, p.2.2.2.2.2.2.2.2.2.1, p.2.2.2.2.2.2.2.2.2.2)) else none) else some ((0 : Int), ([] : List (ByteArray)), false, false))
def impl_Agree.l0 (k : Nat) : Nat → (Int × Int × (List (ByteArray)) × (List (ByteArray)) × Int × Bool × Int × Bool × Int × Bool × (List (ByteArray))) → Option (Int × (List (ByteArray)) × Bool × Bool)
  | 0 => fun _ => none
  | j + 1 => impl_Agree.s0 k (impl_Agree.l0 k j)
def impl_Agree.S0 (p : (Int × Int × (List (ByteArray)) × (List (ByteArray)) × Int × Bool × Int × Bool × Int × Bool × (List (ByteArray)))) : DS := ⟨tl [(2, .at (.bptr 32 0)), (3, .at (.bptr 48 0)), (4, .at (.bptr 64 0)), (18, .at (.whole 1)), (19, .at (.int .i64 p.1)), (20, .at (.int .i64 p.2.1))], lookO [(1, .row 9 .str false p.2.2.1), (17, .row 9 .str false p.2.2.2.1), (32, .box 90 [.int .i64 p.2.2.2.2.1, .whole 1, .bool p.2.2.2.2.2.1]), (48, .box 90 [.int .i64 p.2.2.2.2.2.2.1, .whole 17, .bool p.2.2.2.2.2.2.2.1]), (64, .box 90 [.int .i64 p.2.2.2.2.2.2.2.2.1, .whole 704, .bool p.2.2.2.2.2.2.2.2.2.1]), (704, .row 9 .str true p.2.2.2.2.2.2.2.2.2.2)]⟩
noncomputable def impl_Agree.D0 (k : Nat) (j : Nat) (p : (Int × Int × (List (ByteArray)) × (List (ByteArray)) × Int × Bool × Int × Bool × Int × Bool × (List (ByteArray)))) : Option (Int × (List (ByteArray)) × Bool × Bool) := loopK (norm [1, 17] (impl_Agree.h 0)) (runK impl_Agree.x k 0 [1, 17] impl_Agree.h 0 (sub impl_Agree.c [1, 1, 0, 1, 0, 0])) j (impl_Agree.S0 p) (kBlk 0 (kSeq (runK impl_Agree.x k 0 [1, 17] impl_Agree.h 0 (sub impl_Agree.c [1, 1, 1])) (fin tt impl_Agree.ps impl_Agree.rs impl_Agree.vs (.two (.int .i64) (.two (.sl 9 .str) (.two .bool .bool))))))
theorem impl_Agree.D0_eq (k : Nat) : ∀ j, impl_Agree.D0 k j = impl_Agree.l0 k j := by
  intro j
  induction j with
  | zero => rfl
  | succ j ih =>
    show _ = impl_Agree.s0 k (impl_Agree.l0 k j)
    rw [← ih]
    funext p
    kernel_rfl
def impl_Agree.f (k : Nat) (a0_0 : Int) (a0_1 : List (ByteArray)) (a0_2 : Bool) (a1_0 : Int) (a1_1 : List (ByteArray)) (a1_2 : Bool) : Option (Int × (List (ByteArray)) × Bool × Bool) :=
  (impl_OptionsOk.f k a0_0 a0_1 a0_2).bind fun r1 => (bif (!r1) then some ((0 : Int), ([] : List (ByteArray)), false, false) else (impl_OptionsOk.f k a1_0 a1_1 a1_2).bind fun r2 => (bif (!r2) then some ((0 : Int), ([] : List (ByteArray)), false, false) else impl_Agree.l0 k k ((a0_1.length : Int), (0 : Int), a0_1, a1_1, a0_0, a0_2, a1_0, a1_2, (0 : Int), false, ([] : List (ByteArray)))))
def impl_Agree.K : Ctr := ⟨impl_Agree.ps, impl_Agree.rs, false, (.two (.int .i64) (.two (.sl 9 .str) (.two .bool (.two (.int .i64) (.two (.sl 9 .str) .bool))))), (.two (.int .i64) (.two (.sl 9 .str) (.two .bool .bool))), fun k x => impl_Agree.f k x.1 x.2.1 x.2.2.1 x.2.2.2.1 x.2.2.2.2.1 x.2.2.2.2.2⟩
theorem impl_Agree.eq (k : Nat) (x : (impl_Agree.K.I).den) : func impl_Agree.x impl_Agree.h impl_Agree.ps impl_Agree.rs impl_Agree.vs impl_Agree.K.I impl_Agree.K.O impl_Agree.c k x = impl_Agree.K.run k x := by
  show _ = impl_Agree.f k x.1 x.2.1 x.2.2.1 x.2.2.2.1 x.2.2.2.2.1 x.2.2.2.2.2
  unfold impl_Agree.f
  rw [← impl_Agree.D0_eq k k]
  kernel_rfl
theorem impl_Agree.ok : CtrOk Try.prog 55 impl_Agree.K :=
  CtrOk.of (fn := Try.f55) (cd := impl_Agree.c) (cx := impl_Agree.x) (hs := impl_Agree.h) (by kernel_rfl) (by kernel_rfl) (by kernel_rfl) (by kernel_rfl) tt_ok (envOk_cons impl_OptionsOk.ok (envOk_cons slices_Contains_string_string.ok (envOk_nil))) (by kernel_rfl) (by kernel_rfl) (by kernel_rfl) (by kernel_rfl) fun k x r h => (impl_Agree.eq k x).trans h
/-! laws.eqStringS -/
noncomputable def laws_eqStringS.c : Code := bodyOf Try.f119
def laws_eqStringS.h : Nat → Hint := look ⟨[], [], []⟩ [(0, ⟨[0, 1, 5], [], []⟩)]
def laws_eqStringS.ps : List PK := [.one, .one]
def laws_eqStringS.rs : List RK := [.one true]
def laws_eqStringS.vs : List ResultVar := [.tmp 4]
def laws_eqStringS.x : Cx := ⟨tt, look none []⟩
def laws_eqStringS.s0 (_k : Nat) (rec0 : (Int × (List (ByteArray)) × (List (ByteArray))) → Option (Bool)) (p : (Int × (List (ByteArray)) × (List (ByteArray)))) : Option (Bool) :=
  (bif (decide (p.1 < (p.2.1.length : Int))) then (bif ((decide ((0 : Int) ≤ p.1)) && (decide (p.1 < (p.2.1.length : Int)))) then (p.2.1[p.1.toNat]?).bind fun x1 => (bif ((decide ((0 : Int) ≤ p.1)) && (decide (p.1 < (p.2.2.length : Int)))) then (p.2.2[p.1.toNat]?).bind fun x2 => (bif (!(x1.toList == x2.toList)) then some false else rec0 ((IntKind.i64.wrap (p.1 + (1 : Int))), p.2.1, p.2.2)) else none) else none) else some true)
def laws_eqStringS.l0 (k : Nat) : Nat → (Int × (List (ByteArray)) × (List (ByteArray))) → Option (Bool)
  | 0 => fun _ => none
  | j + 1 => laws_eqStringS.s0 k (laws_eqStringS.l0 k j)
def laws_eqStringS.S0 (p : (Int × (List (ByteArray)) × (List (ByteArray)))) : DS := ⟨tl [(0, .at (.whole 0)), (1, .at (.whole 16)), (5, .at (.int .i64 p.1))], lookO [(0, .row 9 .str false p.2.1), (16, .row 9 .str false p.2.2)]⟩
noncomputable def laws_eqStringS.D0 (k : Nat) (j : Nat) (p : (Int × (List (ByteArray)) × (List (ByteArray)))) : Option (Bool) := loopK (norm [0, 16] (laws_eqStringS.h 0)) (runK laws_eqStringS.x k 0 [0, 16] laws_eqStringS.h 0 (sub laws_eqStringS.c [1, 1, 0, 1, 0, 0])) j (laws_eqStringS.S0 p) (kBlk 0 (kSeq (runK laws_eqStringS.x k 0 [0, 16] laws_eqStringS.h 0 (sub laws_eqStringS.c [1, 1, 1])) (fin tt laws_eqStringS.ps laws_eqStringS.rs laws_eqStringS.vs .bool)))
theorem laws_eqStringS.D0_eq (k : Nat) : ∀ j, laws_eqStringS.D0 k j = laws_eqStringS.l0 k j := by
  intro j
  induction j with
  | zero => rfl
  | succ j ih =>
    show _ = laws_eqStringS.s0 k (laws_eqStringS.l0 k j)
    rw [← ih]
    funext p
    kernel_rfl
def laws_eqStringS.f (k : Nat) (a0 : List (ByteArray)) (a1 : List (ByteArray)) : Option (Bool) :=
  (bif ((a0.length : Int) != (a1.length : Int)) then some false else laws_eqStringS.l0 k k ((0 : Int), a0, a1))
def laws_eqStringS.K : Ctr := ⟨laws_eqStringS.ps, laws_eqStringS.rs, false, (.two (.sl 9 .str) (.sl 9 .str)), .bool, fun k x => laws_eqStringS.f k x.1 x.2⟩
theorem laws_eqStringS.eq (k : Nat) (x : (laws_eqStringS.K.I).den) : func laws_eqStringS.x laws_eqStringS.h laws_eqStringS.ps laws_eqStringS.rs laws_eqStringS.vs laws_eqStringS.K.I laws_eqStringS.K.O laws_eqStringS.c k x = laws_eqStringS.K.run k x := by
  show _ = laws_eqStringS.f k x.1 x.2
  unfold laws_eqStringS.f
  rw [← laws_eqStringS.D0_eq k k]
  kernel_rfl
theorem laws_eqStringS.ok : CtrOk Try.prog 119 laws_eqStringS.K :=
  CtrOk.of (fn := Try.f119) (cd := laws_eqStringS.c) (cx := laws_eqStringS.x) (hs := laws_eqStringS.h) (by kernel_rfl) (by kernel_rfl) (by kernel_rfl) (by kernel_rfl) tt_ok (envOk_nil) (by kernel_rfl) (by kernel_rfl) (by kernel_rfl) (by kernel_rfl) fun k x r h => (laws_eqStringS.eq k x).trans h
/-! laws.eqOptions -/
noncomputable def laws_eqOptions.c : Code := bodyOf Try.f56
def laws_eqOptions.h : Nat → Hint := look ⟨[], [], []⟩ []
def laws_eqOptions.ps : List PK := [.agg 3, .agg 3]
def laws_eqOptions.rs : List RK := [.one true]
def laws_eqOptions.vs : List ResultVar := [.tmp 4]
def laws_eqOptions.x : Cx := ⟨tt, look none [(119, some laws_eqStringS.K)]⟩
def laws_eqOptions.f (k : Nat) (a0_0 : Int) (a0_1 : List (ByteArray)) (a0_2 : Bool) (a1_0 : Int) (a1_1 : List (ByteArray)) (a1_2 : Bool) : Option (Bool) :=
  (bif (a0_0 != a1_0) then some false else (laws_eqStringS.f k a0_1 a1_1).bind fun r1 => (bif (!r1) then some false else (bif (!(a0_2 == a1_2)) then some false else some true)))
def laws_eqOptions.K : Ctr := ⟨laws_eqOptions.ps, laws_eqOptions.rs, false, (.two (.int .i64) (.two (.sl 9 .str) (.two .bool (.two (.int .i64) (.two (.sl 9 .str) .bool))))), .bool, fun k x => laws_eqOptions.f k x.1 x.2.1 x.2.2.1 x.2.2.2.1 x.2.2.2.2.1 x.2.2.2.2.2⟩
theorem laws_eqOptions.eq (k : Nat) (x : (laws_eqOptions.K.I).den) : func laws_eqOptions.x laws_eqOptions.h laws_eqOptions.ps laws_eqOptions.rs laws_eqOptions.vs laws_eqOptions.K.I laws_eqOptions.K.O laws_eqOptions.c k x = laws_eqOptions.K.run k x := by
  show _ = laws_eqOptions.f k x.1 x.2.1 x.2.2.1 x.2.2.2.1 x.2.2.2.2.1 x.2.2.2.2.2
  kernel_rfl
theorem laws_eqOptions.ok : CtrOk Try.prog 56 laws_eqOptions.K :=
  CtrOk.of (fn := Try.f56) (cd := laws_eqOptions.c) (cx := laws_eqOptions.x) (hs := laws_eqOptions.h) (by kernel_rfl) (by kernel_rfl) (by kernel_rfl) (by kernel_rfl) tt_ok (envOk_cons laws_eqStringS.ok (envOk_nil)) (by kernel_rfl) (by kernel_rfl) (by kernel_rfl) (by kernel_rfl) fun k x r h => (laws_eqOptions.eq k x).trans h
/-! laws.markText -/
noncomputable def laws_markText.c : Code := bodyOf Try.f154
def laws_markText.h : Nat → Hint := look ⟨[], [], []⟩ [(0, ⟨[0, 3], [], []⟩)]
def laws_markText.ps : List PK := [.one]
def laws_markText.rs : List RK := [.one true]
def laws_markText.vs : List ResultVar := [.tmp 2]
def laws_markText.x : Cx := ⟨tt, look none []⟩
def laws_markText.s0 (_k : Nat) (rec0 : (Int × ByteArray) → Option (ByteArray)) (p : (Int × ByteArray)) : Option (ByteArray) :=
  (bif (decide (p.1 > (0 : Int))) then (bif decide ((strOfNums [(IntKind.u8.wrap (IntKind.i64.wrap ((48 : Int) + (p.1.tmod (10 : Int)))))]).size + p.2.size ≤ 140737488351232) then rec0 ((IntKind.i64.wrap (p.1.tdiv (10 : Int))), ((strOfNums [(IntKind.u8.wrap (IntKind.i64.wrap ((48 : Int) + (p.1.tmod (10 : Int)))))]) ++ p.2)) else none) else (bif decide ((⟨#[109]⟩ : ByteArray).size + p.2.size ≤ 140737488351232) then some ((⟨#[109]⟩ : ByteArray) ++ p.2) else none))
def laws_markText.l0 (k : Nat) : Nat → (Int × ByteArray) → Option (ByteArray)
  | 0 => fun _ => none
  | j + 1 => laws_markText.s0 k (laws_markText.l0 k j)
def laws_markText.S0 (p : (Int × ByteArray)) : DS := ⟨tl [(0, .at (.int .i64 p.1)), (3, .at (.str p.2))], lookO []⟩
noncomputable def laws_markText.D0 (k : Nat) (j : Nat) (p : (Int × ByteArray)) : Option (ByteArray) := loopK (norm [] (laws_markText.h 0)) (runK laws_markText.x k 0 [] laws_markText.h 0 (sub laws_markText.c [1, 1, 1, 0, 0, 0])) j (laws_markText.S0 p) (kBlk 0 (kSeq (runK laws_markText.x k 0 [] laws_markText.h 0 (sub laws_markText.c [1, 1, 1, 1])) (fin tt laws_markText.ps laws_markText.rs laws_markText.vs .str)))
theorem laws_markText.D0_eq (k : Nat) : ∀ j, laws_markText.D0 k j = laws_markText.l0 k j := by
  intro j
  induction j with
  | zero => rfl
  | succ j ih =>
    show _ = laws_markText.s0 k (laws_markText.l0 k j)
    rw [← ih]
    funext p
    kernel_rfl
def laws_markText.f (k : Nat) (a0 : Int) : Option (ByteArray) :=
  (bif (decide (a0 ≤ (0 : Int))) then some (⟨#[109, 48]⟩ : ByteArray) else laws_markText.l0 k k (a0, ByteArray.empty))
def laws_markText.K : Ctr := ⟨laws_markText.ps, laws_markText.rs, false, (.int .i64), .str, fun k x => laws_markText.f k x⟩
theorem laws_markText.eq (k : Nat) (x : (laws_markText.K.I).den) : func laws_markText.x laws_markText.h laws_markText.ps laws_markText.rs laws_markText.vs laws_markText.K.I laws_markText.K.O laws_markText.c k x = laws_markText.K.run k x := by
  show _ = laws_markText.f k x
  unfold laws_markText.f
  rw [← laws_markText.D0_eq k k]
  kernel_rfl
theorem laws_markText.ok : CtrOk Try.prog 154 laws_markText.K :=
  CtrOk.of (fn := Try.f154) (cd := laws_markText.c) (cx := laws_markText.x) (hs := laws_markText.h) (by kernel_rfl) (by kernel_rfl) (by kernel_rfl) (by kernel_rfl) tt_ok (envOk_nil) (by kernel_rfl) (by kernel_rfl) (by kernel_rfl) (by kernel_rfl) fun k x r h => (laws_markText.eq k x).trans h
/-! laws.markStringS -/
noncomputable def laws_markStringS.c : Code := bodyOf Try.f120
def laws_markStringS.h : Nat → Hint := look ⟨[], [], []⟩ [(0, ⟨[0, 1, 5], [], []⟩)]
def laws_markStringS.ps : List PK := [.row, .one]
def laws_markStringS.rs : List RK := [.one true]
def laws_markStringS.vs : List ResultVar := [.tmp 4]
def laws_markStringS.x : Cx := ⟨tt, look none [(154, some laws_markText.K)]⟩
def laws_markStringS.s0 (k : Nat) (rec0 : (Int × Int × (List (ByteArray))) → Option (Int × (List (ByteArray)))) (p : (Int × Int × (List (ByteArray)))) : Option (Int × (List (ByteArray))) :=
  (bif (decide (p.2.1 < (p.2.2.length : Int))) then (laws_markText.f k p.1).bind fun r1 => (bif ((decide ((0 : Int) ≤ p.2.1)) && (decide (p.2.1 < (p.2.2.length : Int)))) then (p.2.2[p.2.1.toNat]?).bind fun x2 => rec0 ((IntKind.i64.wrap (p.1 + (1 : Int))), (IntKind.i64.wrap (p.2.1 + (1 : Int))), (p.2.2.set p.2.1.toNat r1)) else none) else some (p.1, p.2.2))
def laws_markStringS.l0 (k : Nat) : Nat → (Int × Int × (List (ByteArray))) → Option (Int × (List (ByteArray)))
  | 0 => fun _ => none
  | j + 1 => laws_markStringS.s0 k (laws_markStringS.l0 k j)
def laws_markStringS.S0 (p : (Int × Int × (List (ByteArray)))) : DS := ⟨tl [(0, .at (.whole 0)), (1, .at (.int .i64 p.1)), (5, .at (.int .i64 p.2.1))], lookO [(0, .row 9 .str true p.2.2)]⟩
noncomputable def laws_markStringS.D0 (k : Nat) (j : Nat) (p : (Int × Int × (List (ByteArray)))) : Option (Int × (List (ByteArray))) := loopK (norm [0] (laws_markStringS.h 0)) (runK laws_markStringS.x k 0 [0] laws_markStringS.h 0 (sub laws_markStringS.c [1, 0, 1, 0, 0])) j (laws_markStringS.S0 p) (kBlk 0 (kSeq (runK laws_markStringS.x k 0 [0] laws_markStringS.h 0 (sub laws_markStringS.c [1, 1])) (fin tt laws_markStringS.ps laws_markStringS.rs laws_markStringS.vs (.two (.int .i64) (.sl 9 .str)))))
theorem laws_markStringS.D0_eq (k : Nat) : ∀ j, laws_markStringS.D0 k j = laws_markStringS.l0 k j := by
  intro j
  induction j with
  | zero => rfl
  | succ j ih =>
    show _ = laws_markStringS.s0 k (laws_markStringS.l0 k j)
    rw [← ih]
    funext p
    kernel_rfl
def laws_markStringS.f (k : Nat) (a0 : List (ByteArray)) (a1 : Int) : Option (Int × (List (ByteArray))) :=
  laws_markStringS.l0 k k (a1, (0 : Int), a0)
def laws_markStringS.K : Ctr := ⟨laws_markStringS.ps, laws_markStringS.rs, false, (.two (.sl 9 .str) (.int .i64)), (.two (.int .i64) (.sl 9 .str)), fun k x => laws_markStringS.f k x.1 x.2⟩
theorem laws_markStringS.eq (k : Nat) (x : (laws_markStringS.K.I).den) : func laws_markStringS.x laws_markStringS.h laws_markStringS.ps laws_markStringS.rs laws_markStringS.vs laws_markStringS.K.I laws_markStringS.K.O laws_markStringS.c k x = laws_markStringS.K.run k x := by
  show _ = laws_markStringS.f k x.1 x.2
  unfold laws_markStringS.f
  rw [← laws_markStringS.D0_eq k k]
  kernel_rfl
theorem laws_markStringS.ok : CtrOk Try.prog 120 laws_markStringS.K :=
  CtrOk.of (fn := Try.f120) (cd := laws_markStringS.c) (cx := laws_markStringS.x) (hs := laws_markStringS.h) (by kernel_rfl) (by kernel_rfl) (by kernel_rfl) (by kernel_rfl) tt_ok (envOk_cons laws_markText.ok (envOk_nil)) (by kernel_rfl) (by kernel_rfl) (by kernel_rfl) (by kernel_rfl) fun k x r h => (laws_markStringS.eq k x).trans h
/-! laws.markOptions -/
noncomputable def laws_markOptions.c : Code := bodyOf Try.f57
def laws_markOptions.h : Nat → Hint := look ⟨[], [], []⟩ []
def laws_markOptions.ps : List PK := [.aggw 3 [1], .one]
def laws_markOptions.rs : List RK := [.one true]
def laws_markOptions.vs : List ResultVar := [.tmp 4]
def laws_markOptions.x : Cx := ⟨tt, look none [(120, some laws_markStringS.K)]⟩
def laws_markOptions.f (k : Nat) (_a0_0 : Int) (a0_1 : List (ByteArray)) (_a0_2 : Bool) (a1 : Int) : Option (Int × (List (ByteArray))) :=
  (laws_markStringS.f k a0_1 a1).bind fun r1 => some (r1.1, r1.2)
def laws_markOptions.K : Ctr := ⟨laws_markOptions.ps, laws_markOptions.rs, false, (.two (.int .i64) (.two (.sl 9 .str) (.two .bool (.int .i64)))), (.two (.int .i64) (.sl 9 .str)), fun k x => laws_markOptions.f k x.1 x.2.1 x.2.2.1 x.2.2.2⟩
theorem laws_markOptions.eq (k : Nat) (x : (laws_markOptions.K.I).den) : func laws_markOptions.x laws_markOptions.h laws_markOptions.ps laws_markOptions.rs laws_markOptions.vs laws_markOptions.K.I laws_markOptions.K.O laws_markOptions.c k x = laws_markOptions.K.run k x := by
  show _ = laws_markOptions.f k x.1 x.2.1 x.2.2.1 x.2.2.2
  kernel_rfl
theorem laws_markOptions.ok : CtrOk Try.prog 57 laws_markOptions.K :=
  CtrOk.of (fn := Try.f57) (cd := laws_markOptions.c) (cx := laws_markOptions.x) (hs := laws_markOptions.h) (by kernel_rfl) (by kernel_rfl) (by kernel_rfl) (by kernel_rfl) tt_ok (envOk_cons laws_markStringS.ok (envOk_nil)) (by kernel_rfl) (by kernel_rfl) (by kernel_rfl) (by kernel_rfl) fun k x r h => (laws_markOptions.eq k x).trans h
/-! laws.heldStringS -/
noncomputable def laws_heldStringS.c : Code := bodyOf Try.f121
def laws_heldStringS.h : Nat → Hint := look ⟨[], [], []⟩ [(0, ⟨[0, 1, 5], [], []⟩)]
def laws_heldStringS.ps : List PK := [.one, .one]
def laws_heldStringS.rs : List RK := [.one true]
def laws_heldStringS.vs : List ResultVar := [.tmp 4]
def laws_heldStringS.x : Cx := ⟨tt, look none [(154, some laws_markText.K)]⟩
def laws_heldStringS.s0 (k : Nat) (rec0 : (Int × Int × (List (ByteArray))) → Option (Int)) (p : (Int × Int × (List (ByteArray)))) : Option (Int) :=
  (bif (decide (p.2.1 < (p.2.2.length : Int))) then (bif ((decide ((0 : Int) ≤ p.2.1)) && (decide (p.2.1 < (p.2.2.length : Int)))) then (p.2.2[p.2.1.toNat]?).bind fun x1 => (laws_markText.f k p.1).bind fun r2 => (bif (!(x1.toList == r2.toList)) then some (-1 : Int) else rec0 ((IntKind.i64.wrap (p.1 + (1 : Int))), (IntKind.i64.wrap (p.2.1 + (1 : Int))), p.2.2)) else none) else some p.1)
def laws_heldStringS.l0 (k : Nat) : Nat → (Int × Int × (List (ByteArray))) → Option (Int)
  | 0 => fun _ => none
  | j + 1 => laws_heldStringS.s0 k (laws_heldStringS.l0 k j)
def laws_heldStringS.S0 (p : (Int × Int × (List (ByteArray)))) : DS := ⟨tl [(0, .at (.whole 0)), (1, .at (.int .i64 p.1)), (5, .at (.int .i64 p.2.1))], lookO [(0, .row 9 .str false p.2.2)]⟩
noncomputable def laws_heldStringS.D0 (k : Nat) (j : Nat) (p : (Int × Int × (List (ByteArray)))) : Option (Int) := loopK (norm [0] (laws_heldStringS.h 0)) (runK laws_heldStringS.x k 0 [0] laws_heldStringS.h 0 (sub laws_heldStringS.c [1, 0, 1, 0, 0])) j (laws_heldStringS.S0 p) (kBlk 0 (kSeq (runK laws_heldStringS.x k 0 [0] laws_heldStringS.h 0 (sub laws_heldStringS.c [1, 1])) (fin tt laws_heldStringS.ps laws_heldStringS.rs laws_heldStringS.vs (.int .i64))))
theorem laws_heldStringS.D0_eq (k : Nat) : ∀ j, laws_heldStringS.D0 k j = laws_heldStringS.l0 k j := by
  intro j
  induction j with
  | zero => rfl
  | succ j ih =>
    show _ = laws_heldStringS.s0 k (laws_heldStringS.l0 k j)
    rw [← ih]
    funext p
    kernel_rfl
def laws_heldStringS.f (k : Nat) (a0 : List (ByteArray)) (a1 : Int) : Option (Int) :=
  laws_heldStringS.l0 k k (a1, (0 : Int), a0)
def laws_heldStringS.K : Ctr := ⟨laws_heldStringS.ps, laws_heldStringS.rs, false, (.two (.sl 9 .str) (.int .i64)), (.int .i64), fun k x => laws_heldStringS.f k x.1 x.2⟩
theorem laws_heldStringS.eq (k : Nat) (x : (laws_heldStringS.K.I).den) : func laws_heldStringS.x laws_heldStringS.h laws_heldStringS.ps laws_heldStringS.rs laws_heldStringS.vs laws_heldStringS.K.I laws_heldStringS.K.O laws_heldStringS.c k x = laws_heldStringS.K.run k x := by
  show _ = laws_heldStringS.f k x.1 x.2
  unfold laws_heldStringS.f
  rw [← laws_heldStringS.D0_eq k k]
  kernel_rfl
theorem laws_heldStringS.ok : CtrOk Try.prog 121 laws_heldStringS.K :=
  CtrOk.of (fn := Try.f121) (cd := laws_heldStringS.c) (cx := laws_heldStringS.x) (hs := laws_heldStringS.h) (by kernel_rfl) (by kernel_rfl) (by kernel_rfl) (by kernel_rfl) tt_ok (envOk_cons laws_markText.ok (envOk_nil)) (by kernel_rfl) (by kernel_rfl) (by kernel_rfl) (by kernel_rfl) fun k x r h => (laws_heldStringS.eq k x).trans h
/-! laws.heldOptions -/
noncomputable def laws_heldOptions.c : Code := bodyOf Try.f58
def laws_heldOptions.h : Nat → Hint := look ⟨[], [], []⟩ []
def laws_heldOptions.ps : List PK := [.agg 3, .one]
def laws_heldOptions.rs : List RK := [.one true]
def laws_heldOptions.vs : List ResultVar := [.tmp 4]
def laws_heldOptions.x : Cx := ⟨tt, look none [(121, some laws_heldStringS.K)]⟩
def laws_heldOptions.f (k : Nat) (_a0_0 : Int) (a0_1 : List (ByteArray)) (_a0_2 : Bool) (a1 : Int) : Option (Int) :=
  (laws_heldStringS.f k a0_1 a1).bind fun r1 => (bif (decide (r1 < (0 : Int))) then some (-1 : Int) else some r1)
def laws_heldOptions.K : Ctr := ⟨laws_heldOptions.ps, laws_heldOptions.rs, false, (.two (.int .i64) (.two (.sl 9 .str) (.two .bool (.int .i64)))), (.int .i64), fun k x => laws_heldOptions.f k x.1 x.2.1 x.2.2.1 x.2.2.2⟩
theorem laws_heldOptions.eq (k : Nat) (x : (laws_heldOptions.K.I).den) : func laws_heldOptions.x laws_heldOptions.h laws_heldOptions.ps laws_heldOptions.rs laws_heldOptions.vs laws_heldOptions.K.I laws_heldOptions.K.O laws_heldOptions.c k x = laws_heldOptions.K.run k x := by
  show _ = laws_heldOptions.f k x.1 x.2.1 x.2.2.1 x.2.2.2
  kernel_rfl
theorem laws_heldOptions.ok : CtrOk Try.prog 58 laws_heldOptions.K :=
  CtrOk.of (fn := Try.f58) (cd := laws_heldOptions.c) (cx := laws_heldOptions.x) (hs := laws_heldOptions.h) (by kernel_rfl) (by kernel_rfl) (by kernel_rfl) (by kernel_rfl) tt_ok (envOk_cons laws_heldStringS.ok (envOk_nil)) (by kernel_rfl) (by kernel_rfl) (by kernel_rfl) (by kernel_rfl) fun k x r h => (laws_heldOptions.eq k x).trans h
/-! laws.FnExactAgree -/
noncomputable def laws_FnExactAgree.c : Code := bodyOf Try.f11
def laws_FnExactAgree.h : Nat → Hint := look ⟨[], [], []⟩ []
def laws_FnExactAgree.ps : List PK := [.agg 3, .agg 3]
def laws_FnExactAgree.rs : List RK := [.one true]
def laws_FnExactAgree.vs : List ResultVar := [.tmp 4]
def laws_FnExactAgree.x : Cx := ⟨tt, look none [(52, some laws_szOptions.K), (54, some laws_toOptions.K), (53, some spec_Agree.K), (55, some impl_Agree.K), (56, some laws_eqOptions.K), (57, some laws_markOptions.K), (58, some laws_heldOptions.K)]⟩
def laws_FnExactAgree.f (k : Nat) (a0_0 : Int) (a0_1 : List (ByteArray)) (a0_2 : Bool) (a1_0 : Int) (a1_1 : List (ByteArray)) (a1_2 : Bool) : Option (Bool) :=
  (laws_szOptions.f k a0_0 a0_1 a0_2 (1048576 : Int)).bind fun r1 => (bif (decide (r1 < (0 : Int))) then some true else (laws_szOptions.f k a1_0 a1_1 a1_2 r1).bind fun r2 => (bif (decide (r2 < (0 : Int))) then some true else (laws_toOptions.f k a0_0 a0_1 a0_2).bind fun r3 => (laws_toOptions.f k a1_0 a1_1 a1_2).bind fun r4 => (spec_Agree.f k r3.1 r3.2.1 r3.2.2 r4.1 r4.2.1 r4.2.2).bind fun r5 => (laws_toOptions.f k a0_0 a0_1 a0_2).bind fun r6 => (laws_toOptions.f k a1_0 a1_1 a1_2).bind fun r7 => (impl_Agree.f k r6.1 r6.2.1 r6.2.2 r7.1 r7.2.1 r7.2.2).bind fun r8 => (laws_eqOptions.f k r8.1 r8.2.1 r8.2.2.1 r5.1 r5.2.1 r5.2.2.1).bind fun r9 => (bif (!r9) then some false else (bif (!(r8.2.2.2 == r5.2.2.2)) then some false else (laws_toOptions.f k a0_0 a0_1 a0_2).bind fun r10 => (laws_eqOptions.f k r6.1 r6.2.1 r6.2.2 r10.1 r10.2.1 r10.2.2).bind fun r11 => (bif (!r11) then some false else (laws_toOptions.f k a1_0 a1_1 a1_2).bind fun r12 => (laws_eqOptions.f k r7.1 r7.2.1 r7.2.2 r12.1 r12.2.1 r12.2.2).bind fun r13 => (bif (!r13) then some false else (laws_markOptions.f k r6.1 r6.2.1 r6.2.2 (1 : Int)).bind fun r14 => (laws_markOptions.f k r7.1 r7.2.1 r7.2.2 r14.1).bind fun r15 => (bif (decide (r15.1 < (0 : Int))) then some false else (laws_eqOptions.f k r8.1 r8.2.1 r8.2.2.1 r5.1 r5.2.1 r5.2.2.1).bind fun r16 => (bif (!r16) then some false else (bif (!(r8.2.2.2 == r5.2.2.2)) then some false else (laws_markOptions.f k r8.1 r8.2.1 r8.2.2.1 (1 : Int)).bind fun r17 => (laws_heldOptions.f k r8.1 r17.2 r8.2.2.1 (1 : Int)).bind fun r18 => (bif (decide (r18 < (0 : Int))) then some false else (bif (r18 != r17.1) then some false else (laws_toOptions.f k a0_0 a0_1 a0_2).bind fun r19 => (laws_toOptions.f k a1_0 a1_1 a1_2).bind fun r20 => (impl_Agree.f k r19.1 r19.2.1 r19.2.2 r20.1 r20.2.1 r20.2.2).bind fun r21 => (laws_eqOptions.f k r21.1 r21.2.1 r21.2.2.1 r5.1 r5.2.1 r5.2.2.1).bind fun r22 => (bif (!r22) then some false else (bif (!(r21.2.2.2 == r5.2.2.2)) then some false else (laws_heldOptions.f k r8.1 r17.2 r8.2.2.1 (1 : Int)).bind fun r23 => (bif (decide (r23 < (0 : Int))) then some false else (bif (r23 != r17.1) then some false else some true)))))))))))))))
def laws_FnExactAgree.K : Ctr := ⟨laws_FnExactAgree.ps, laws_FnExactAgree.rs, false, (.two (.int .i64) (.two (.sl 9 .str) (.two .bool (.two (.int .i64) (.two (.sl 9 .str) .bool))))), .bool, fun k x => laws_FnExactAgree.f k x.1 x.2.1 x.2.2.1 x.2.2.2.1 x.2.2.2.2.1 x.2.2.2.2.2⟩
theorem laws_FnExactAgree.eq (k : Nat) (x : (laws_FnExactAgree.K.I).den) : func laws_FnExactAgree.x laws_FnExactAgree.h laws_FnExactAgree.ps laws_FnExactAgree.rs laws_FnExactAgree.vs laws_FnExactAgree.K.I laws_FnExactAgree.K.O laws_FnExactAgree.c k x = laws_FnExactAgree.K.run k x := by
  show _ = laws_FnExactAgree.f k x.1 x.2.1 x.2.2.1 x.2.2.2.1 x.2.2.2.2.1 x.2.2.2.2.2
  kernel_rfl
theorem laws_FnExactAgree.ok : CtrOk Try.prog 11 laws_FnExactAgree.K :=
  CtrOk.of (fn := Try.f11) (cd := laws_FnExactAgree.c) (cx := laws_FnExactAgree.x) (hs := laws_FnExactAgree.h) (by kernel_rfl) (by kernel_rfl) (by kernel_rfl) (by kernel_rfl) tt_ok (envOk_cons laws_szOptions.ok (envOk_cons laws_toOptions.ok (envOk_cons spec_Agree.ok (envOk_cons impl_Agree.ok (envOk_cons laws_eqOptions.ok (envOk_cons laws_markOptions.ok (envOk_cons laws_heldOptions.ok (envOk_nil)))))))) (by kernel_rfl) (by kernel_rfl) (by kernel_rfl) (by kernel_rfl) fun k x r h => (laws_FnExactAgree.eq k x).trans h
end Go.Proofs.Ytfaeklomiofpdaa.DI
