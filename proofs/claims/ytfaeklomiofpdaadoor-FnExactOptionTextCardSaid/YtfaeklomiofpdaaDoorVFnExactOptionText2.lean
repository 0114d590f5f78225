/- FnExactOptionText: functions as plain Lean, in the machine of values. -/
import Derived.Test.YtfaeklomiofpdaaDoorVFnExactOptionText1
namespace Go.Proofs.YtfaeklomiofpdaaDoor.DI
open Go
set_option linter.unusedVariables false
/-! impl.OptionsOk -/
noncomputable def impl_OptionsOk.c : Code := bodyOf Tryd.f21
def impl_OptionsOk.h : Nat → Hint := look ⟨[], [], []⟩ [(0, ⟨[1, 6, 7, 8], [16], []⟩)]
def impl_OptionsOk.ps : List PK := [.agg 3]
def impl_OptionsOk.rs : List RK := [.one true]
def impl_OptionsOk.vs : List ResultVar := [.tmp 2]
def impl_OptionsOk.x : Cx := ⟨tt, look none [(46, some impl_wayOk.K), (40, some slices_Contains_string_string.K), (47, some impl_within.K)]⟩
def impl_OptionsOk.s0 (k : Nat) (rec0 : (Int × Int × (List (ByteArray)) × Int × Bool) → Option (Bool)) (p : (Int × Int × (List (ByteArray)) × Int × Bool)) : Option (Bool) :=
  (bif (decide (p.2.1 < p.1)) then (bif ((decide ((0 : Int) ≤ p.2.1)) && (decide (p.2.1 < (p.2.2.1.length : Int)))) then (p.2.2.1[p.2.1.toNat]?).bind fun x1 => (impl_wayOk.f k x1).bind fun r2 => (bif (!r2) then some false else (bif ((decide ((0 : Int) ≤ p.2.1)) && (decide (p.2.1 ≤ (p.2.2.1.length : Int)))) then (slices_Contains_string_string.f k (p.2.2.1.take p.2.1.toNat) x1).bind fun r3 => (bif r3 then some false else rec0 (p.1, (IntKind.i64.wrap (p.2.1 + (1 : Int))), p.2.2.1, p.2.2.2.1, p.2.2.2.2)) else none)) else none) else (impl_within.f k p.2.2.2.1 (20 : Int) (60 : Int)).bind fun r4 => (bif r4 then (impl_within.f k (p.2.2.1.length : Int) (1 : Int) (4 : Int)).bind fun r5 => some r5 else some false))
def impl_OptionsOk.l0 (k : Nat) : Nat → (Int × Int × (List (ByteArray)) × Int × Bool) → Option (Bool)
  | 0 => fun _ => none
  | j + 1 => impl_OptionsOk.s0 k (impl_OptionsOk.l0 k j)
def impl_OptionsOk.S0 (p : (Int × Int × (List (ByteArray)) × Int × Bool)) : DS := ⟨tl [(1, .at (.bptr 16 0)), (6, .at (.whole 1)), (7, .at (.int .i64 p.1)), (8, .at (.int .i64 p.2.1))], lookO [(1, .row 9 .str false p.2.2.1), (16, .box 28 [.int .i64 p.2.2.2.1, .whole 1, .bool p.2.2.2.2])]⟩
noncomputable def impl_OptionsOk.D0 (k : Nat) (j : Nat) (p : (Int × Int × (List (ByteArray)) × Int × Bool)) : Option (Bool) := loopK (norm [1] (impl_OptionsOk.h 0)) (runK impl_OptionsOk.x k 0 [1] impl_OptionsOk.h 0 (sub impl_OptionsOk.c [1, 0, 1, 0, 0])) j (impl_OptionsOk.S0 p) (kBlk 0 (kSeq (runK impl_OptionsOk.x k 0 [1] impl_OptionsOk.h 0 (sub impl_OptionsOk.c [1, 1])) (fin tt impl_OptionsOk.ps impl_OptionsOk.rs impl_OptionsOk.vs .bool)))
theorem impl_OptionsOk.D0_eq (k : Nat) : ∀ j, impl_OptionsOk.D0 k j = impl_OptionsOk.l0 k j := by
  intro j
  induction j with
  | zero => rfl
  | succ j ih =>
    show _ = impl_OptionsOk.s0 k (impl_OptionsOk.l0 k j)
    rw [← ih]
    funext p
    kernel_rfl
def impl_OptionsOk.f (k : Nat) (a0_0 : Int) (a0_1 : List (ByteArray)) (a0_2 : Bool) : Option (Bool) :=
  impl_OptionsOk.l0 k k ((a0_1.length : Int), (0 : Int), a0_1, a0_0, a0_2)
def impl_OptionsOk.K : Ctr := ⟨impl_OptionsOk.ps, impl_OptionsOk.rs, false, (.two (.int .i64) (.two (.sl 9 .str) .bool)), .bool, fun k x => impl_OptionsOk.f k x.1 x.2.1 x.2.2⟩
theorem impl_OptionsOk.eq (k : Nat) (x : (impl_OptionsOk.K.I).den) : func impl_OptionsOk.x impl_OptionsOk.h impl_OptionsOk.ps impl_OptionsOk.rs impl_OptionsOk.vs impl_OptionsOk.K.I impl_OptionsOk.K.O impl_OptionsOk.c k x = impl_OptionsOk.K.run k x := by
  show _ = impl_OptionsOk.f k x.1 x.2.1 x.2.2
  unfold impl_OptionsOk.f
  rw [← impl_OptionsOk.D0_eq k k]
  kernel_rfl
theorem impl_OptionsOk.ok : CtrOk Tryd.prog 21 impl_OptionsOk.K :=
  CtrOk.of (fn := Tryd.f21) (cd := impl_OptionsOk.c) (cx := impl_OptionsOk.x) (hs := impl_OptionsOk.h) (by kernel_rfl) (by kernel_rfl) (by kernel_rfl) (by kernel_rfl) tt_ok (envOk_cons impl_wayOk.ok (envOk_cons slices_Contains_string_string.ok (envOk_cons impl_within.ok (envOk_nil)))) (by kernel_rfl) (by kernel_rfl) (by kernel_rfl) (by kernel_rfl) fun k x r h => (impl_OptionsOk.eq k x).trans h
/-! strconv.Itoa -/
def strconv_Itoa.f (_k : Nat) (a0 : Int) : Option (ByteArray) := itoaRun a0
def strconv_Itoa.K : Ctr := itoaCtr
theorem strconv_Itoa.ok : CtrOk Tryd.prog 51 strconv_Itoa.K := lib51
/-! impl.Decimal -/
noncomputable def impl_Decimal.c : Code := bodyOf Tryd.f26
def impl_Decimal.h : Nat → Hint := look ⟨[], [], []⟩ []
def impl_Decimal.ps : List PK := [.one]
def impl_Decimal.rs : List RK := [.one true]
def impl_Decimal.vs : List ResultVar := [.tmp 2]
def impl_Decimal.x : Cx := ⟨tt, look none [(51, some strconv_Itoa.K)]⟩
def impl_Decimal.f (k : Nat) (a0 : Int) : Option (ByteArray) :=
  (strconv_Itoa.f k a0).bind fun r1 => some r1
def impl_Decimal.K : Ctr := ⟨impl_Decimal.ps, impl_Decimal.rs, false, (.int .i64), .str, fun k x => impl_Decimal.f k x⟩
theorem impl_Decimal.eq (k : Nat) (x : (impl_Decimal.K.I).den) : func impl_Decimal.x impl_Decimal.h impl_Decimal.ps impl_Decimal.rs impl_Decimal.vs impl_Decimal.K.I impl_Decimal.K.O impl_Decimal.c k x = impl_Decimal.K.run k x := by
  show _ = impl_Decimal.f k x
  kernel_rfl
theorem impl_Decimal.ok : CtrOk Tryd.prog 26 impl_Decimal.K :=
  CtrOk.of (fn := Tryd.f26) (cd := impl_Decimal.c) (cx := impl_Decimal.x) (hs := impl_Decimal.h) (by kernel_rfl) (by kernel_rfl) (by kernel_rfl) (by kernel_rfl) tt_ok (envOk_cons strconv_Itoa.ok (envOk_nil)) (by kernel_rfl) (by kernel_rfl) (by kernel_rfl) (by kernel_rfl) fun k x r h => (impl_Decimal.eq k x).trans h
/-! strings.Join -/
def strings_Join.f (_k : Nat) (a0 : List (ByteArray)) (a1 : ByteArray) : Option (ByteArray) := joinRun a0 a1
def strings_Join.K : Ctr := joinCtr 9
theorem strings_Join.ok : CtrOk Tryd.prog 27 strings_Join.K := lib27
/-! impl.OptionText -/
noncomputable def impl_OptionText.c : Code := bodyOf Tryd.f9
def impl_OptionText.h : Nat → Hint := look ⟨[], [], []⟩ []
def impl_OptionText.ps : List PK := [.agg 3]
def impl_OptionText.rs : List RK := [.one true, .one true]
def impl_OptionText.vs : List ResultVar := [.tmp 2, .tmp 3]
def impl_OptionText.x : Cx := ⟨tt, look none [(21, some impl_OptionsOk.K), (26, some impl_Decimal.K), (27, some strings_Join.K)]⟩
def impl_OptionText.f (k : Nat) (a0_0 : Int) (a0_1 : List (ByteArray)) (a0_2 : Bool) : Option (ByteArray × Bool) :=
  (impl_OptionsOk.f k a0_0 a0_1 a0_2).bind fun r1 => (bif (!r1) then some (ByteArray.empty, false) else (impl_Decimal.f k a0_0).bind fun r2 => (bif decide ((⟨#[115, 105, 122, 101, 32]⟩ : ByteArray).size + r2.size ≤ 140737488351232) then (bif decide (((⟨#[115, 105, 122, 101, 32]⟩ : ByteArray) ++ r2).size + (⟨#[59, 119, 97, 121, 115, 32]⟩ : ByteArray).size ≤ 140737488351232) then (strings_Join.f k a0_1 (⟨#[44]⟩ : ByteArray)).bind fun r3 => (bif decide ((((⟨#[115, 105, 122, 101, 32]⟩ : ByteArray) ++ r2) ++ (⟨#[59, 119, 97, 121, 115, 32]⟩ : ByteArray)).size + r3.size ≤ 140737488351232) then (bif a0_2 then (bif decide (((((⟨#[115, 105, 122, 101, 32]⟩ : ByteArray) ++ r2) ++ (⟨#[59, 119, 97, 121, 115, 32]⟩ : ByteArray)) ++ r3).size + (⟨#[59, 112, 105, 101, 99, 101, 115]⟩ : ByteArray).size ≤ 140737488351232) then some ((((((⟨#[115, 105, 122, 101, 32]⟩ : ByteArray) ++ r2) ++ (⟨#[59, 119, 97, 121, 115, 32]⟩ : ByteArray)) ++ r3) ++ (⟨#[59, 112, 105, 101, 99, 101, 115]⟩ : ByteArray)), true) else none) else some (((((⟨#[115, 105, 122, 101, 32]⟩ : ByteArray) ++ r2) ++ (⟨#[59, 119, 97, 121, 115, 32]⟩ : ByteArray)) ++ r3), true)) else none) else none) else none))
def impl_OptionText.K : Ctr := ⟨impl_OptionText.ps, impl_OptionText.rs, false, (.two (.int .i64) (.two (.sl 9 .str) .bool)), (.two .str .bool), fun k x => impl_OptionText.f k x.1 x.2.1 x.2.2⟩
theorem impl_OptionText.eq (k : Nat) (x : (impl_OptionText.K.I).den) : func impl_OptionText.x impl_OptionText.h impl_OptionText.ps impl_OptionText.rs impl_OptionText.vs impl_OptionText.K.I impl_OptionText.K.O impl_OptionText.c k x = impl_OptionText.K.run k x := by
  show _ = impl_OptionText.f k x.1 x.2.1 x.2.2
  kernel_rfl
theorem impl_OptionText.ok : CtrOk Tryd.prog 9 impl_OptionText.K :=
  CtrOk.of (fn := Tryd.f9) (cd := impl_OptionText.c) (cx := impl_OptionText.x) (hs := impl_OptionText.h) (by kernel_rfl) (by kernel_rfl) (by kernel_rfl) (by kernel_rfl) tt_ok (envOk_cons impl_OptionsOk.ok (envOk_cons impl_Decimal.ok (envOk_cons strings_Join.ok (envOk_nil)))) (by kernel_rfl) (by kernel_rfl) (by kernel_rfl) (by kernel_rfl) fun k x r h => (impl_OptionText.eq k x).trans h
/-! laws.eqStringS -/
noncomputable def laws_eqStringS.c : Code := bodyOf Tryd.f28
def laws_eqStringS.h : Nat → Hint := look ⟨[], [], []⟩ [(0, ⟨[0, 1, 5], [], []⟩)]
def laws_eqStringS.ps : List PK := [.one, .one]
def laws_eqStringS.rs : List RK := [.one true]
def laws_eqStringS.vs : List ResultVar := [.tmp 4]
def laws_eqStringS.x : Cx := ⟨tt, look none []⟩
def laws_eqStringS.s0 (_k : Nat) (rec0 : (Int × (List (ByteArray)) × (List (ByteArray))) → Option (Bool)) (p : (Int × (List (ByteArray)) × (List (ByteArray)))) : Option (Bool) :=
  (bif (decide (p.1 < (p.2.1.length : Int))) then (bif ((decide ((0 : Int) ≤ p.1)) && (decide (p.1 < (p.2.1.length : Int)))) then (p.2.1[p.1.toNat]?).bind fun x1 => (bif ((decide ((0 : Int) ≤ p.1)) && (decide (p.1 < (p.2.2.length : Int)))) then (p.2.2[p.1.toNat]?).bind fun x2 => (bif (!(x1.toList == x2.toList)) then some false else rec0 ((IntKind.i64.wrap (p.1 + (1 : Int))), p.2.1, p.2.2)) else none) else none) else some true)
def laws_eqStringS.l0 (k : Nat) : Nat → (Int × (List (ByteArray)) × (List (ByteArray))) → Option (Bool)
  | 0 => fun _ => none
  | j + 1 => laws_eqStringS.s0 k (laws_eqStringS.l0 k j)
def laws_eqStringS.S0 (p : (Int × (List (ByteArray)) × (List (ByteArray)))) : DS := ⟨tl [(0, .at (.whole 0)), (1, .at (.whole 16)), (5, .at (.int .i64 p.1))], lookO [(0, .row 9 .str false p.2.1), (16, .row 9 .str false p.2.2)]⟩
noncomputable def laws_eqStringS.D0 (k : Nat) (j : Nat) (p : (Int × (List (ByteArray)) × (List (ByteArray)))) : Option (Bool) := loopK (norm [0, 16] (laws_eqStringS.h 0)) (runK laws_eqStringS.x k 0 [0, 16] laws_eqStringS.h 0 (sub laws_eqStringS.c [1, 1, 0, 1, 0, 0])) j (laws_eqStringS.S0 p) (kBlk 0 (kSeq (runK laws_eqStringS.x k 0 [0, 16] laws_eqStringS.h 0 (sub laws_eqStringS.c [1, 1, 1])) (fin tt laws_eqStringS.ps laws_eqStringS.rs laws_eqStringS.vs .bool)))
theorem laws_eqStringS.D0_eq (k : Nat) : ∀ j, laws_eqStringS.D0 k j = laws_eqStringS.l0 k j := by
  intro j
  induction j with
  | zero => rfl
  | succ j ih =>
    show _ = laws_eqStringS.s0 k (laws_eqStringS.l0 k j)
    rw [← ih]
    funext p
    kernel_rfl
def laws_eqStringS.f (k : Nat) (a0 : List (ByteArray)) (a1 : List (ByteArray)) : Option (Bool) :=
  (bif ((a0.length : Int) != (a1.length : Int)) then some false else laws_eqStringS.l0 k k ((0 : Int), a0, a1))
def laws_eqStringS.K : Ctr := ⟨laws_eqStringS.ps, laws_eqStringS.rs, false, (.two (.sl 9 .str) (.sl 9 .str)), .bool, fun k x => laws_eqStringS.f k x.1 x.2⟩
theorem laws_eqStringS.eq (k : Nat) (x : (laws_eqStringS.K.I).den) : func laws_eqStringS.x laws_eqStringS.h laws_eqStringS.ps laws_eqStringS.rs laws_eqStringS.vs laws_eqStringS.K.I laws_eqStringS.K.O laws_eqStringS.c k x = laws_eqStringS.K.run k x := by
  show _ = laws_eqStringS.f k x.1 x.2
  unfold laws_eqStringS.f
  rw [← laws_eqStringS.D0_eq k k]
  kernel_rfl
theorem laws_eqStringS.ok : CtrOk Tryd.prog 28 laws_eqStringS.K :=
  CtrOk.of (fn := Tryd.f28) (cd := laws_eqStringS.c) (cx := laws_eqStringS.x) (hs := laws_eqStringS.h) (by kernel_rfl) (by kernel_rfl) (by kernel_rfl) (by kernel_rfl) tt_ok (envOk_nil) (by kernel_rfl) (by kernel_rfl) (by kernel_rfl) (by kernel_rfl) fun k x r h => (laws_eqStringS.eq k x).trans h
/-! laws.eqOptions -/
noncomputable def laws_eqOptions.c : Code := bodyOf Tryd.f10
def laws_eqOptions.h : Nat → Hint := look ⟨[], [], []⟩ []
def laws_eqOptions.ps : List PK := [.agg 3, .agg 3]
def laws_eqOptions.rs : List RK := [.one true]
def laws_eqOptions.vs : List ResultVar := [.tmp 4]
def laws_eqOptions.x : Cx := ⟨tt, look none [(28, some laws_eqStringS.K)]⟩
def laws_eqOptions.f (k : Nat) (a0_0 : Int) (a0_1 : List (ByteArray)) (a0_2 : Bool) (a1_0 : Int) (a1_1 : List (ByteArray)) (a1_2 : Bool) : Option (Bool) :=
  (bif (a0_0 != a1_0) then some false else (laws_eqStringS.f k a0_1 a1_1).bind fun r1 => (bif (!r1) then some false else (bif (!(a0_2 == a1_2)) then some false else some true)))
def laws_eqOptions.K : Ctr := ⟨laws_eqOptions.ps, laws_eqOptions.rs, false, (.two (.int .i64) (.two (.sl 9 .str) (.two .bool (.two (.int .i64) (.two (.sl 9 .str) .bool))))), .bool, fun k x => laws_eqOptions.f k x.1 x.2.1 x.2.2.1 x.2.2.2.1 x.2.2.2.2.1 x.2.2.2.2.2⟩
theorem laws_eqOptions.eq (k : Nat) (x : (laws_eqOptions.K.I).den) : func laws_eqOptions.x laws_eqOptions.h laws_eqOptions.ps laws_eqOptions.rs laws_eqOptions.vs laws_eqOptions.K.I laws_eqOptions.K.O laws_eqOptions.c k x = laws_eqOptions.K.run k x := by
  show _ = laws_eqOptions.f k x.1 x.2.1 x.2.2.1 x.2.2.2.1 x.2.2.2.2.1 x.2.2.2.2.2
  kernel_rfl
theorem laws_eqOptions.ok : CtrOk Tryd.prog 10 laws_eqOptions.K :=
  CtrOk.of (fn := Tryd.f10) (cd := laws_eqOptions.c) (cx := laws_eqOptions.x) (hs := laws_eqOptions.h) (by kernel_rfl) (by kernel_rfl) (by kernel_rfl) (by kernel_rfl) tt_ok (envOk_cons laws_eqStringS.ok (envOk_nil)) (by kernel_rfl) (by kernel_rfl) (by kernel_rfl) (by kernel_rfl) fun k x r h => (laws_eqOptions.eq k x).trans h
/-! laws.FnExactOptionText -/
noncomputable def laws_FnExactOptionText.c : Code := bodyOf Tryd.f3
def laws_FnExactOptionText.h : Nat → Hint := look ⟨[], [], []⟩ []
def laws_FnExactOptionText.ps : List PK := [.agg 3]
def laws_FnExactOptionText.rs : List RK := [.one true]
def laws_FnExactOptionText.vs : List ResultVar := [.tmp 2]
def laws_FnExactOptionText.x : Cx := ⟨tt, look none [(6, some laws_szOptions.K), (8, some laws_toOptions.K), (7, some spec_OptionText.K), (9, some impl_OptionText.K), (10, some laws_eqOptions.K)]⟩
def laws_FnExactOptionText.f (k : Nat) (a0_0 : Int) (a0_1 : List (ByteArray)) (a0_2 : Bool) : Option (Bool) :=
  (laws_szOptions.f k a0_0 a0_1 a0_2 (1048576 : Int)).bind fun r1 => (bif (decide (r1 < (0 : Int))) then some true else (laws_toOptions.f k a0_0 a0_1 a0_2).bind fun r2 => (spec_OptionText.f k r2.1 r2.2.1 r2.2.2).bind fun r3 => (laws_toOptions.f k a0_0 a0_1 a0_2).bind fun r4 => (impl_OptionText.f k r4.1 r4.2.1 r4.2.2).bind fun r5 => (bif (!(r5.1.toList == r3.1.toList)) then some false else (bif (!(r5.2 == r3.2)) then some false else (laws_toOptions.f k a0_0 a0_1 a0_2).bind fun r6 => (laws_eqOptions.f k r4.1 r4.2.1 r4.2.2 r6.1 r6.2.1 r6.2.2).bind fun r7 => (bif (!r7) then some false else some true))))
def laws_FnExactOptionText.K : Ctr := ⟨laws_FnExactOptionText.ps, laws_FnExactOptionText.rs, false, (.two (.int .i64) (.two (.sl 9 .str) .bool)), .bool, fun k x => laws_FnExactOptionText.f k x.1 x.2.1 x.2.2⟩
theorem laws_FnExactOptionText.eq (k : Nat) (x : (laws_FnExactOptionText.K.I).den) : func laws_FnExactOptionText.x laws_FnExactOptionText.h laws_FnExactOptionText.ps laws_FnExactOptionText.rs laws_FnExactOptionText.vs laws_FnExactOptionText.K.I laws_FnExactOptionText.K.O laws_FnExactOptionText.c k x = laws_FnExactOptionText.K.run k x := by
  show _ = laws_FnExactOptionText.f k x.1 x.2.1 x.2.2
  kernel_rfl
theorem laws_FnExactOptionText.ok : CtrOk Tryd.prog 3 laws_FnExactOptionText.K :=
  CtrOk.of (fn := Tryd.f3) (cd := laws_FnExactOptionText.c) (cx := laws_FnExactOptionText.x) (hs := laws_FnExactOptionText.h) (by kernel_rfl) (by kernel_rfl) (by kernel_rfl) (by kernel_rfl) tt_ok (envOk_cons laws_szOptions.ok (envOk_cons laws_toOptions.ok (envOk_cons spec_OptionText.ok (envOk_cons impl_OptionText.ok (envOk_cons laws_eqOptions.ok (envOk_nil)))))) (by kernel_rfl) (by kernel_rfl) (by kernel_rfl) (by kernel_rfl) fun k x r h => (laws_FnExactOptionText.eq k x).trans h
end Go.Proofs.YtfaeklomiofpdaaDoor.DI
