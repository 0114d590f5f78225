/- FnExactReadOption: functions as plain Lean, in the machine of values. -/
import Derived.Test.YtfaeklomiofpdaaDoorVFnExactReadOption1
namespace Go.Proofs.YtfaeklomiofpdaaDoor.DI
open Go
set_option linter.unusedVariables false
/-! slices.Index[[]string,string] -/
noncomputable def slices_Index_string_string.c : Code := bodyOf Tryd.f62
def slices_Index_string_string.h : Nat → Hint := look ⟨[], [], []⟩ [(0, ⟨[0, 1, 7, 8], [], []⟩)]
def slices_Index_string_string.ps : List PK := [.one, .one]
def slices_Index_string_string.rs : List RK := [.one true]
def slices_Index_string_string.vs : List ResultVar := [.tmp 4]
def slices_Index_string_string.x : Cx := ⟨tt, look none []⟩
def slices_Index_string_string.s0 (_k : Nat) (rec0 : (ByteArray × Int × Int × (List (ByteArray))) → Option (Int)) (p : (ByteArray × Int × Int × (List (ByteArray)))) : Option (Int) :=
  (bif (decide (p.2.2.1 < p.2.1)) then (bif ((decide ((0 : Int) ≤ p.2.2.1)) && (decide (p.2.2.1 < (p.2.2.2.length : Int)))) then (p.2.2.2[p.2.2.1.toNat]?).bind fun x1 => (bif (p.1.toList == x1.toList) then some p.2.2.1 else rec0 (p.1, p.2.1, (IntKind.i64.wrap (p.2.2.1 + (1 : Int))), p.2.2.2)) else none) else some (-1 : Int))
def slices_Index_string_string.l0 (k : Nat) : Nat → (ByteArray × Int × Int × (List (ByteArray))) → Option (Int)
  | 0 => fun _ => none
  | j + 1 => slices_Index_string_string.s0 k (slices_Index_string_string.l0 k j)
def slices_Index_string_string.S0 (p : (ByteArray × Int × Int × (List (ByteArray)))) : DS := ⟨tl [(0, .at (.whole 0)), (1, .at (.str p.1)), (7, .at (.int .i64 p.2.1)), (8, .at (.int .i64 p.2.2.1))], lookO [(0, .row 9 .str false p.2.2.2)]⟩
noncomputable def slices_Index_string_string.D0 (k : Nat) (j : Nat) (p : (ByteArray × Int × Int × (List (ByteArray)))) : Option (Int) := loopK (norm [0] (slices_Index_string_string.h 0)) (runK slices_Index_string_string.x k 0 [0] slices_Index_string_string.h 0 (sub slices_Index_string_string.c [1, 0, 1, 0, 0])) j (slices_Index_string_string.S0 p) (kBlk 0 (kSeq (runK slices_Index_string_string.x k 0 [0] slices_Index_string_string.h 0 (sub slices_Index_string_string.c [1, 1])) (fin tt slices_Index_string_string.ps slices_Index_string_string.rs slices_Index_string_string.vs (.int .i64))))
theorem slices_Index_string_string.D0_eq (k : Nat) : ∀ j, slices_Index_string_string.D0 k j = slices_Index_string_string.l0 k j := by
  intro j
  induction j with
  | zero => rfl
  | succ j ih =>
    show _ = slices_Index_string_string.s0 k (slices_Index_string_string.l0 k j)
    rw [← ih]
    funext p
    kernel_rfl
def slices_Index_string_string.f (k : Nat) (a0 : List (ByteArray)) (a1 : ByteArray) : Option (Int) :=
  slices_Index_string_string.l0 k k (a1, (a0.length : Int), (0 : Int), a0)
def slices_Index_string_string.K : Ctr := ⟨slices_Index_string_string.ps, slices_Index_string_string.rs, false, (.two (.sl 9 .str) .str), (.int .i64), fun k x => slices_Index_string_string.f k x.1 x.2⟩
theorem slices_Index_string_string.eq (k : Nat) (x : (slices_Index_string_string.K.I).den) : func slices_Index_string_string.x slices_Index_string_string.h slices_Index_string_string.ps slices_Index_string_string.rs slices_Index_string_string.vs slices_Index_string_string.K.I slices_Index_string_string.K.O slices_Index_string_string.c k x = slices_Index_string_string.K.run k x := by
  show _ = slices_Index_string_string.f k x.1 x.2
  unfold slices_Index_string_string.f
  rw [← slices_Index_string_string.D0_eq k k]
  kernel_rfl
theorem slices_Index_string_string.ok : CtrOk Tryd.prog 62 slices_Index_string_string.K :=
  CtrOk.of (fn := Tryd.f62) (cd := slices_Index_string_string.c) (cx := slices_Index_string_string.x) (hs := slices_Index_string_string.h) (by kernel_rfl) (by kernel_rfl) (by kernel_rfl) (by kernel_rfl) tt_ok (envOk_nil) (by kernel_rfl) (by kernel_rfl) (by kernel_rfl) (by kernel_rfl) fun k x r h => (slices_Index_string_string.eq k x).trans h
/-! slices.Contains[[]string,string] -/
noncomputable def slices_Contains_string_string.c : Code := bodyOf Tryd.f40
def slices_Contains_string_string.h : Nat → Hint := look ⟨[], [], []⟩ []
def slices_Contains_string_string.ps : List PK := [.one, .one]
def slices_Contains_string_string.rs : List RK := [.one true]
def slices_Contains_string_string.vs : List ResultVar := [.tmp 4]
def slices_Contains_string_string.x : Cx := ⟨tt, look none [(62, some slices_Index_string_string.K)]⟩
def slices_Contains_string_string.f (k : Nat) (a0 : List (ByteArray)) (a1 : ByteArray) : Option (Bool) :=
  (slices_Index_string_string.f k a0 a1).bind fun r1 => some (decide (r1 ≥ (0 : Int)))
def slices_Contains_string_string.K : Ctr := ⟨slices_Contains_string_string.ps, slices_Contains_string_string.rs, false, (.two (.sl 9 .str) .str), .bool, fun k x => slices_Contains_string_string.f k x.1 x.2⟩
theorem slices_Contains_string_string.eq (k : Nat) (x : (slices_Contains_string_string.K.I).den) : func slices_Contains_string_string.x slices_Contains_string_string.h slices_Contains_string_string.ps slices_Contains_string_string.rs slices_Contains_string_string.vs slices_Contains_string_string.K.I slices_Contains_string_string.K.O slices_Contains_string_string.c k x = slices_Contains_string_string.K.run k x := by
  show _ = slices_Contains_string_string.f k x.1 x.2
  kernel_rfl
theorem slices_Contains_string_string.ok : CtrOk Tryd.prog 40 slices_Contains_string_string.K :=
  CtrOk.of (fn := Tryd.f40) (cd := slices_Contains_string_string.c) (cx := slices_Contains_string_string.x) (hs := slices_Contains_string_string.h) (by kernel_rfl) (by kernel_rfl) (by kernel_rfl) (by kernel_rfl) tt_ok (envOk_cons slices_Index_string_string.ok (envOk_nil)) (by kernel_rfl) (by kernel_rfl) (by kernel_rfl) (by kernel_rfl) fun k x r h => (slices_Contains_string_string.eq k x).trans h
/-! impl.OptionsOk -/
noncomputable def impl_OptionsOk.c : Code := bodyOf Tryd.f21
def impl_OptionsOk.h : Nat → Hint := look ⟨[], [], []⟩ [(0, ⟨[1, 6, 7, 8], [16], []⟩)]
def impl_OptionsOk.ps : List PK := [.agg 3]
def impl_OptionsOk.rs : List RK := [.one true]
def impl_OptionsOk.vs : List ResultVar := [.tmp 2]
def impl_OptionsOk.x : Cx := ⟨tt, look none [(46, some impl_wayOk.K), (40, some slices_Contains_string_string.K), (47, some impl_within.K)]⟩
def impl_OptionsOk.s0 (k : Nat) (rec0 : (Int × Int × (List (ByteArray)) × Int × Bool) → Option (Bool)) (p : (Int × Int × (List (ByteArray)) × Int × Bool)) : Option (Bool) :=
  (bif (decide (p.2.1 < p.1)) then (bif ((decide ((0 : Int) ≤ p.2.1)) && (decide (p.2.1 < (p.2.2.1.length : Int)))) then (p.2.2.1[p.2.1.toNat]?).bind fun x1 => (impl_wayOk.f k x1).bind fun r2 => (bif (!r2) then some false else (bif ((decide ((0 : Int) ≤ p.2.1)) && (decide (p.2.1 ≤ (p.2.2.1.length : Int)))) then (slices_Contains_string_string.f k (p.2.2.1.take p.2.1.toNat) x1).bind fun r3 => (bif r3 then some false else rec0 (p.1, (IntKind.i64.wrap (p.2.1 + (1 : Int))), p.2.2.1, p.2.2.2.1, p.2.2.2.2)) else none)) else none) else (impl_within.f k p.2.2.2.1 (20 : Int) (60 : Int)).bind fun r4 => (bif r4 then (impl_within.f k (p.2.2.1.length : Int) (1 : Int) (4 : Int)).bind fun r5 => some r5 else some false))
def impl_OptionsOk.l0 (k : Nat) : Nat → (Int × Int × (List (ByteArray)) × Int × Bool) → Option (Bool)
  | 0 => fun _ => none
  | j + 1 => impl_OptionsOk.s0 k (impl_OptionsOk.l0 k j)
def impl_OptionsOk.S0 (p : (Int × Int × (List (ByteArray)) × Int × Bool)) : DS := ⟨tl [(1, .at (.bptr 16 0)), (6, .at (.whole 1)), (7, .at (.int .i64 p.1)), (8, .at (.int .i64 p.2.1))], lookO [(1, .row 9 .str false p.2.2.1), (16, .box 28 [.int .i64 p.2.2.2.1, .whole 1, .bool p.2.2.2.2])]⟩
noncomputable def impl_OptionsOk.D0 (k : Nat) (j : Nat) (p : (Int × Int × (List (ByteArray)) × Int × Bool)) : Option (Bool) := loopK (norm [1] (impl_OptionsOk.h 0)) (runK impl_OptionsOk.x k 0 [1] impl_OptionsOk.h 0 (sub impl_OptionsOk.c [1, 0, 1, 0, 0])) j (impl_OptionsOk.S0 p) (kBlk 0 (kSeq (runK impl_OptionsOk.x k 0 [1] impl_OptionsOk.h 0 (sub impl_OptionsOk.c [1, 1])) (fin tt impl_OptionsOk.ps impl_OptionsOk.rs impl_OptionsOk.vs .bool)))
theorem impl_OptionsOk.D0_eq (k : Nat) : ∀ j, impl_OptionsOk.D0 k j = impl_OptionsOk.l0 k j := by
  intro j
  induction j with
  | zero => rfl
  | succ j ih =>
    show _ = impl_OptionsOk.s0 k (impl_OptionsOk.l0 k j)
    rw [← ih]
    funext p
    kernel_rfl
def impl_OptionsOk.f (k : Nat) (a0_0 : Int) (a0_1 : List (ByteArray)) (a0_2 : Bool) : Option (Bool) :=
  impl_OptionsOk.l0 k k ((a0_1.length : Int), (0 : Int), a0_1, a0_0, a0_2)
def impl_OptionsOk.K : Ctr := ⟨impl_OptionsOk.ps, impl_OptionsOk.rs, false, (.two (.int .i64) (.two (.sl 9 .str) .bool)), .bool, fun k x => impl_OptionsOk.f k x.1 x.2.1 x.2.2⟩
theorem impl_OptionsOk.eq (k : Nat) (x : (impl_OptionsOk.K.I).den) : func impl_OptionsOk.x impl_OptionsOk.h impl_OptionsOk.ps impl_OptionsOk.rs impl_OptionsOk.vs impl_OptionsOk.K.I impl_OptionsOk.K.O impl_OptionsOk.c k x = impl_OptionsOk.K.run k x := by
  show _ = impl_OptionsOk.f k x.1 x.2.1 x.2.2
  unfold impl_OptionsOk.f
  rw [← impl_OptionsOk.D0_eq k k]
  kernel_rfl
theorem impl_OptionsOk.ok : CtrOk Tryd.prog 21 impl_OptionsOk.K :=
  CtrOk.of (fn := Tryd.f21) (cd := impl_OptionsOk.c) (cx := impl_OptionsOk.x) (hs := impl_OptionsOk.h) (by kernel_rfl) (by kernel_rfl) (by kernel_rfl) (by kernel_rfl) tt_ok (envOk_cons impl_wayOk.ok (envOk_cons slices_Contains_string_string.ok (envOk_cons impl_within.ok (envOk_nil)))) (by kernel_rfl) (by kernel_rfl) (by kernel_rfl) (by kernel_rfl) fun k x r h => (impl_OptionsOk.eq k x).trans h
/-! strconv.Itoa -/
def strconv_Itoa.f (_k : Nat) (a0 : Int) : Option (ByteArray) := itoaRun a0
def strconv_Itoa.K : Ctr := itoaCtr
theorem strconv_Itoa.ok : CtrOk Tryd.prog 51 strconv_Itoa.K := lib51
/-! impl.Decimal -/
noncomputable def impl_Decimal.c : Code := bodyOf Tryd.f26
def impl_Decimal.h : Nat → Hint := look ⟨[], [], []⟩ []
def impl_Decimal.ps : List PK := [.one]
def impl_Decimal.rs : List RK := [.one true]
def impl_Decimal.vs : List ResultVar := [.tmp 2]
def impl_Decimal.x : Cx := ⟨tt, look none [(51, some strconv_Itoa.K)]⟩
def impl_Decimal.f (k : Nat) (a0 : Int) : Option (ByteArray) :=
  (strconv_Itoa.f k a0).bind fun r1 => some r1
def impl_Decimal.K : Ctr := ⟨impl_Decimal.ps, impl_Decimal.rs, false, (.int .i64), .str, fun k x => impl_Decimal.f k x⟩
theorem impl_Decimal.eq (k : Nat) (x : (impl_Decimal.K.I).den) : func impl_Decimal.x impl_Decimal.h impl_Decimal.ps impl_Decimal.rs impl_Decimal.vs impl_Decimal.K.I impl_Decimal.K.O impl_Decimal.c k x = impl_Decimal.K.run k x := by
  show _ = impl_Decimal.f k x
  kernel_rfl
theorem impl_Decimal.ok : CtrOk Tryd.prog 26 impl_Decimal.K :=
  CtrOk.of (fn := Tryd.f26) (cd := impl_Decimal.c) (cx := impl_Decimal.x) (hs := impl_Decimal.h) (by kernel_rfl) (by kernel_rfl) (by kernel_rfl) (by kernel_rfl) tt_ok (envOk_cons strconv_Itoa.ok (envOk_nil)) (by kernel_rfl) (by kernel_rfl) (by kernel_rfl) (by kernel_rfl) fun k x r h => (impl_Decimal.eq k x).trans h
/-! strings.Join -/
def strings_Join.f (_k : Nat) (a0 : List (ByteArray)) (a1 : ByteArray) : Option (ByteArray) := joinRun a0 a1
def strings_Join.K : Ctr := joinCtr 9
theorem strings_Join.ok : CtrOk Tryd.prog 27 strings_Join.K := lib27
/-! impl.OptionText -/
noncomputable def impl_OptionText.c : Code := bodyOf Tryd.f9
def impl_OptionText.h : Nat → Hint := look ⟨[], [], []⟩ []
def impl_OptionText.ps : List PK := [.agg 3]
def impl_OptionText.rs : List RK := [.one true, .one true]
def impl_OptionText.vs : List ResultVar := [.tmp 2, .tmp 3]
def impl_OptionText.x : Cx := ⟨tt, look none [(21, some impl_OptionsOk.K), (26, some impl_Decimal.K), (27, some strings_Join.K)]⟩
def impl_OptionText.f (k : Nat) (a0_0 : Int) (a0_1 : List (ByteArray)) (a0_2 : Bool) : Option (ByteArray × Bool) :=
  (impl_OptionsOk.f k a0_0 a0_1 a0_2).bind fun r1 => (bif (!r1) then some (ByteArray.empty, false) else (impl_Decimal.f k a0_0).bind fun r2 => (bif decide ((⟨#[115, 105, 122, 101, 32]⟩ : ByteArray).size + r2.size ≤ 140737488351232) then (bif decide (((⟨#[115, 105, 122, 101, 32]⟩ : ByteArray) ++ r2).size + (⟨#[59, 119, 97, 121, 115, 32]⟩ : ByteArray).size ≤ 140737488351232) then (strings_Join.f k a0_1 (⟨#[44]⟩ : ByteArray)).bind fun r3 => (bif decide ((((⟨#[115, 105, 122, 101, 32]⟩ : ByteArray) ++ r2) ++ (⟨#[59, 119, 97, 121, 115, 32]⟩ : ByteArray)).size + r3.size ≤ 140737488351232) then (bif a0_2 then (bif decide (((((⟨#[115, 105, 122, 101, 32]⟩ : ByteArray) ++ r2) ++ (⟨#[59, 119, 97, 121, 115, 32]⟩ : ByteArray)) ++ r3).size + (⟨#[59, 112, 105, 101, 99, 101, 115]⟩ : ByteArray).size ≤ 140737488351232) then some ((((((⟨#[115, 105, 122, 101, 32]⟩ : ByteArray) ++ r2) ++ (⟨#[59, 119, 97, 121, 115, 32]⟩ : ByteArray)) ++ r3) ++ (⟨#[59, 112, 105, 101, 99, 101, 115]⟩ : ByteArray)), true) else none) else some (((((⟨#[115, 105, 122, 101, 32]⟩ : ByteArray) ++ r2) ++ (⟨#[59, 119, 97, 121, 115, 32]⟩ : ByteArray)) ++ r3), true)) else none) else none) else none))
def impl_OptionText.K : Ctr := ⟨impl_OptionText.ps, impl_OptionText.rs, false, (.two (.int .i64) (.two (.sl 9 .str) .bool)), (.two .str .bool), fun k x => impl_OptionText.f k x.1 x.2.1 x.2.2⟩
theorem impl_OptionText.eq (k : Nat) (x : (impl_OptionText.K.I).den) : func impl_OptionText.x impl_OptionText.h impl_OptionText.ps impl_OptionText.rs impl_OptionText.vs impl_OptionText.K.I impl_OptionText.K.O impl_OptionText.c k x = impl_OptionText.K.run k x := by
  show _ = impl_OptionText.f k x.1 x.2.1 x.2.2
  kernel_rfl
theorem impl_OptionText.ok : CtrOk Tryd.prog 9 impl_OptionText.K :=
  CtrOk.of (fn := Tryd.f9) (cd := impl_OptionText.c) (cx := impl_OptionText.x) (hs := impl_OptionText.h) (by kernel_rfl) (by kernel_rfl) (by kernel_rfl) (by kernel_rfl) tt_ok (envOk_cons impl_OptionsOk.ok (envOk_cons impl_Decimal.ok (envOk_cons strings_Join.ok (envOk_nil)))) (by kernel_rfl) (by kernel_rfl) (by kernel_rfl) (by kernel_rfl) fun k x r h => (impl_OptionText.eq k x).trans h
/-! impl.ReadOption -/
noncomputable def impl_ReadOption.c : Code := bodyOf Tryd.f12
def impl_ReadOption.h : Nat → Hint := look ⟨[], [], []⟩ []
def impl_ReadOption.ps : List PK := [.one]
def impl_ReadOption.rs : List RK := [.agg 3 true, .one true]
def impl_ReadOption.vs : List ResultVar := [.cell 2 28, .tmp 3]
def impl_ReadOption.x : Cx := ⟨tt, look none [(31, some strings_CutSuffix.K), (32, some strings_Cut.K), (34, some strings_TrimPrefix.K), (33, some impl_ReadDecimal.K), (35, some strings_Split.K), (9, some impl_OptionText.K)]⟩
def impl_ReadOption.f (k : Nat) (a0 : ByteArray) : Option (Int × (List (ByteArray)) × Bool × Bool) :=
  (strings_CutSuffix.f k a0 (⟨#[59, 112, 105, 101, 99, 101, 115]⟩ : ByteArray)).bind fun r1 => (strings_Cut.f k r1.1 (⟨#[59, 119, 97, 121, 115, 32]⟩ : ByteArray)).bind fun r2 => (strings_TrimPrefix.f k r2.1 (⟨#[115, 105, 122, 101, 32]⟩ : ByteArray)).bind fun r3 => (impl_ReadDecimal.f k r3).bind fun r4 => (strings_Split.f k r2.2.1 (⟨#[44]⟩ : ByteArray)).bind fun r5 => (impl_OptionText.f k r4.1 r5 r1.2).bind fun r6 => (bif (!r6.2) then some ((0 : Int), ([] : List (ByteArray)), false, false) else (bif (!(r6.1.toList == a0.toList)) then some ((0 : Int), ([] : List (ByteArray)), false, false) else some (r4.1, r5, r1.2, true)))
def impl_ReadOption.K : Ctr := ⟨impl_ReadOption.ps, impl_ReadOption.rs, false, .str, (.two (.int .i64) (.two (.sl 9 .str) (.two .bool .bool))), fun k x => impl_ReadOption.f k x⟩
theorem impl_ReadOption.eq (k : Nat) (x : (impl_ReadOption.K.I).den) : func impl_ReadOption.x impl_ReadOption.h impl_ReadOption.ps impl_ReadOption.rs impl_ReadOption.vs impl_ReadOption.K.I impl_ReadOption.K.O impl_ReadOption.c k x = impl_ReadOption.K.run k x := by
  show _ = impl_ReadOption.f k x
  kernel_rfl
theorem impl_ReadOption.ok : CtrOk Tryd.prog 12 impl_ReadOption.K :=
  CtrOk.of (fn := Tryd.f12) (cd := impl_ReadOption.c) (cx := impl_ReadOption.x) (hs := impl_ReadOption.h) (by kernel_rfl) (by kernel_rfl) (by kernel_rfl) (by kernel_rfl) tt_ok (envOk_cons strings_CutSuffix.ok (envOk_cons strings_Cut.ok (envOk_cons strings_TrimPrefix.ok (envOk_cons impl_ReadDecimal.ok (envOk_cons strings_Split.ok (envOk_cons impl_OptionText.ok (envOk_nil))))))) (by kernel_rfl) (by kernel_rfl) (by kernel_rfl) (by kernel_rfl) fun k x r h => (impl_ReadOption.eq k x).trans h
/-! laws.eqStringS -/
noncomputable def laws_eqStringS.c : Code := bodyOf Tryd.f28
def laws_eqStringS.h : Nat → Hint := look ⟨[], [], []⟩ [(0, ⟨[0, 1, 5], [], []⟩)]
def laws_eqStringS.ps : List PK := [.one, .one]
def laws_eqStringS.rs : List RK := [.one true]
def laws_eqStringS.vs : List ResultVar := [.tmp 4]
def laws_eqStringS.x : Cx := ⟨tt, look none []⟩
def laws_eqStringS.s0 (_k : Nat) (rec0 : (Int × (List (ByteArray)) × (List (ByteArray))) → Option (Bool)) (p : (Int × (List (ByteArray)) × (List (ByteArray)))) : Option (Bool) :=
  (bif (decide (p.1 < (p.2.1.length : Int))) then (bif ((decide ((0 : Int) ≤ p.1)) && (decide (p.1 < (p.2.1.length : Int)))) then (p.2.1[p.1.toNat]?).bind fun x1 => (bif ((decide ((0 : Int) ≤ p.1)) && (decide (p.1 < (p.2.2.length : Int)))) then (p.2.2[p.1.toNat]?).bind fun x2 => (bif (!(x1.toList == x2.toList)) then some false else rec0 ((IntKind.i64.wrap (p.1 + (1 : Int))), p.2.1, p.2.2)) else none) else none) else some true)
def laws_eqStringS.l0 (k : Nat) : Nat → (Int × (List (ByteArray)) × (List (ByteArray))) → Option (Bool)
  | 0 => fun _ => none
  | j + 1 => laws_eqStringS.s0 k (laws_eqStringS.l0 k j)
def laws_eqStringS.S0 (p : (Int × (List (ByteArray)) × (List (ByteArray)))) : DS := ⟨tl [(0, .at (.whole 0)), (1, .at (.whole 16)), (5, .at (.int .i64 p.1))], lookO [(0, .row 9 .str false p.2.1), (16, .row 9 .str false p.2.2)]⟩
noncomputable def laws_eqStringS.D0 (k : Nat) (j : Nat) (p : (Int × (List (ByteArray)) × (List (ByteArray)))) : Option (Bool) := loopK (norm [0, 16] (laws_eqStringS.h 0)) (runK laws_eqStringS.x k 0 [0, 16] laws_eqStringS.h 0 (sub laws_eqStringS.c [1, 1, 0, 1, 0, 0])) j (laws_eqStringS.S0 p) (kBlk 0 (kSeq (runK laws_eqStringS.x k 0 [0, 16] laws_eqStringS.h 0 (sub laws_eqStringS.c [1, 1, 1])) (fin tt laws_eqStringS.ps laws_eqStringS.rs laws_eqStringS.vs .bool)))
theorem laws_eqStringS.D0_eq (k : Nat) : ∀ j, laws_eqStringS.D0 k j = laws_eqStringS.l0 k j := by
  intro j
  induction j with
  | zero => rfl
  | succ j ih =>
    show _ = laws_eqStringS.s0 k (laws_eqStringS.l0 k j)
    rw [← ih]
    funext p
    kernel_rfl
def laws_eqStringS.f (k : Nat) (a0 : List (ByteArray)) (a1 : List (ByteArray)) : Option (Bool) :=
  (bif ((a0.length : Int) != (a1.length : Int)) then some false else laws_eqStringS.l0 k k ((0 : Int), a0, a1))
def laws_eqStringS.K : Ctr := ⟨laws_eqStringS.ps, laws_eqStringS.rs, false, (.two (.sl 9 .str) (.sl 9 .str)), .bool, fun k x => laws_eqStringS.f k x.1 x.2⟩
theorem laws_eqStringS.eq (k : Nat) (x : (laws_eqStringS.K.I).den) : func laws_eqStringS.x laws_eqStringS.h laws_eqStringS.ps laws_eqStringS.rs laws_eqStringS.vs laws_eqStringS.K.I laws_eqStringS.K.O laws_eqStringS.c k x = laws_eqStringS.K.run k x := by
  show _ = laws_eqStringS.f k x.1 x.2
  unfold laws_eqStringS.f
  rw [← laws_eqStringS.D0_eq k k]
  kernel_rfl
theorem laws_eqStringS.ok : CtrOk Tryd.prog 28 laws_eqStringS.K :=
  CtrOk.of (fn := Tryd.f28) (cd := laws_eqStringS.c) (cx := laws_eqStringS.x) (hs := laws_eqStringS.h) (by kernel_rfl) (by kernel_rfl) (by kernel_rfl) (by kernel_rfl) tt_ok (envOk_nil) (by kernel_rfl) (by kernel_rfl) (by kernel_rfl) (by kernel_rfl) fun k x r h => (laws_eqStringS.eq k x).trans h
/-! laws.eqOptions -/
noncomputable def laws_eqOptions.c : Code := bodyOf Tryd.f10
def laws_eqOptions.h : Nat → Hint := look ⟨[], [], []⟩ []
def laws_eqOptions.ps : List PK := [.agg 3, .agg 3]
def laws_eqOptions.rs : List RK := [.one true]
def laws_eqOptions.vs : List ResultVar := [.tmp 4]
def laws_eqOptions.x : Cx := ⟨tt, look none [(28, some laws_eqStringS.K)]⟩
def laws_eqOptions.f (k : Nat) (a0_0 : Int) (a0_1 : List (ByteArray)) (a0_2 : Bool) (a1_0 : Int) (a1_1 : List (ByteArray)) (a1_2 : Bool) : Option (Bool) :=
  (bif (a0_0 != a1_0) then some false else (laws_eqStringS.f k a0_1 a1_1).bind fun r1 => (bif (!r1) then some false else (bif (!(a0_2 == a1_2)) then some false else some true)))
def laws_eqOptions.K : Ctr := ⟨laws_eqOptions.ps, laws_eqOptions.rs, false, (.two (.int .i64) (.two (.sl 9 .str) (.two .bool (.two (.int .i64) (.two (.sl 9 .str) .bool))))), .bool, fun k x => laws_eqOptions.f k x.1 x.2.1 x.2.2.1 x.2.2.2.1 x.2.2.2.2.1 x.2.2.2.2.2⟩
theorem laws_eqOptions.eq (k : Nat) (x : (laws_eqOptions.K.I).den) : func laws_eqOptions.x laws_eqOptions.h laws_eqOptions.ps laws_eqOptions.rs laws_eqOptions.vs laws_eqOptions.K.I laws_eqOptions.K.O laws_eqOptions.c k x = laws_eqOptions.K.run k x := by
  show _ = laws_eqOptions.f k x.1 x.2.1 x.2.2.1 x.2.2.2.1 x.2.2.2.2.1 x.2.2.2.2.2
  kernel_rfl
theorem laws_eqOptions.ok : CtrOk Tryd.prog 10 laws_eqOptions.K :=
  CtrOk.of (fn := Tryd.f10) (cd := laws_eqOptions.c) (cx := laws_eqOptions.x) (hs := laws_eqOptions.h) (by kernel_rfl) (by kernel_rfl) (by kernel_rfl) (by kernel_rfl) tt_ok (envOk_cons laws_eqStringS.ok (envOk_nil)) (by kernel_rfl) (by kernel_rfl) (by kernel_rfl) (by kernel_rfl) fun k x r h => (laws_eqOptions.eq k x).trans h
/-! laws.markText -/
noncomputable def laws_markText.c : Code := bodyOf Tryd.f60
def laws_markText.h : Nat → Hint := look ⟨[], [], []⟩ [(0, ⟨[0, 3], [], []⟩)]
def laws_markText.ps : List PK := [.one]
def laws_markText.rs : List RK := [.one true]
def laws_markText.vs : List ResultVar := [.tmp 2]
def laws_markText.x : Cx := ⟨tt, look none []⟩
def laws_markText.s0 (_k : Nat) (rec0 : (Int × ByteArray) → Option (ByteArray)) (p : (Int × ByteArray)) : Option (ByteArray) :=
  (bif (decide (p.1 > (0 : Int))) then (bif decide ((strOfNums [(IntKind.u8.wrap (IntKind.i64.wrap ((48 : Int) + (p.1.tmod (10 : Int)))))]).size + p.2.size ≤ 140737488351232) then rec0 ((IntKind.i64.wrap (p.1.tdiv (10 : Int))), ((strOfNums [(IntKind.u8.wrap (IntKind.i64.wrap ((48 : Int) + (p.1.tmod (10 : Int)))))]) ++ p.2)) else none) else (bif decide ((⟨#[109]⟩ : ByteArray).size + p.2.size ≤ 140737488351232) then some ((⟨#[109]⟩ : ByteArray) ++ p.2) else none))
def laws_markText.l0 (k : Nat) : Nat → (Int × ByteArray) → Option (ByteArray)
  | 0 => fun _ => none
  | j + 1 => laws_markText.s0 k (laws_markText.l0 k j)
def laws_markText.S0 (p : (Int × ByteArray)) : DS := ⟨tl [(0, .at (.int .i64 p.1)), (3, .at (.str p.2))], lookO []⟩
noncomputable def laws_markText.D0 (k : Nat) (j : Nat) (p : (Int × ByteArray)) : Option (ByteArray) := loopK (norm [] (laws_markText.h 0)) (runK laws_markText.x k 0 [] laws_markText.h 0 (sub laws_markText.c [1, 1, 1, 0, 0, 0])) j (laws_markText.S0 p) (kBlk 0 (kSeq (runK laws_markText.x k 0 [] laws_markText.h 0 (sub laws_markText.c [1, 1, 1, 1])) (fin tt laws_markText.ps laws_markText.rs laws_markText.vs .str)))
theorem laws_markText.D0_eq (k : Nat) : ∀ j, laws_markText.D0 k j = laws_markText.l0 k j := by
  intro j
  induction j with
  | zero => rfl
  | succ j ih =>
    show _ = laws_markText.s0 k (laws_markText.l0 k j)
    rw [← ih]
    funext p
    kernel_rfl
def laws_markText.f (k : Nat) (a0 : Int) : Option (ByteArray) :=
  (bif (decide (a0 ≤ (0 : Int))) then some (⟨#[109, 48]⟩ : ByteArray) else laws_markText.l0 k k (a0, ByteArray.empty))
def laws_markText.K : Ctr := ⟨laws_markText.ps, laws_markText.rs, false, (.int .i64), .str, fun k x => laws_markText.f k x⟩
theorem laws_markText.eq (k : Nat) (x : (laws_markText.K.I).den) : func laws_markText.x laws_markText.h laws_markText.ps laws_markText.rs laws_markText.vs laws_markText.K.I laws_markText.K.O laws_markText.c k x = laws_markText.K.run k x := by
  show _ = laws_markText.f k x
  unfold laws_markText.f
  rw [← laws_markText.D0_eq k k]
  kernel_rfl
theorem laws_markText.ok : CtrOk Tryd.prog 60 laws_markText.K :=
  CtrOk.of (fn := Tryd.f60) (cd := laws_markText.c) (cx := laws_markText.x) (hs := laws_markText.h) (by kernel_rfl) (by kernel_rfl) (by kernel_rfl) (by kernel_rfl) tt_ok (envOk_nil) (by kernel_rfl) (by kernel_rfl) (by kernel_rfl) (by kernel_rfl) fun k x r h => (laws_markText.eq k x).trans h
/-! laws.markStringS -/
noncomputable def laws_markStringS.c : Code := bodyOf Tryd.f36
def laws_markStringS.h : Nat → Hint := look ⟨[], [], []⟩ [(0, ⟨[0, 1, 5], [], []⟩)]
def laws_markStringS.ps : List PK := [.row, .one]
def laws_markStringS.rs : List RK := [.one true]
def laws_markStringS.vs : List ResultVar := [.tmp 4]
def laws_markStringS.x : Cx := ⟨tt, look none [(60, some laws_markText.K)]⟩
def laws_markStringS.s0 (k : Nat) (rec0 : (Int × Int × (List (ByteArray))) → Option (Int × (List (ByteArray)))) (p : (Int × Int × (List (ByteArray)))) : Option (Int × (List (ByteArray))) :=
  (bif (decide (p.2.1 < (p.2.2.length : Int))) then (laws_markText.f k p.1).bind fun r1 => (bif ((decide ((0 : Int) ≤ p.2.1)) && (decide (p.2.1 < (p.2.2.length : Int)))) then (p.2.2[p.2.1.toNat]?).bind fun x2 => rec0 ((IntKind.i64.wrap (p.1 + (1 : Int))), (IntKind.i64.wrap (p.2.1 + (1 : Int))), (p.2.2.set p.2.1.toNat r1)) else none) else some (p.1, p.2.2))
def laws_markStringS.l0 (k : Nat) : Nat → (Int × Int × (List (ByteArray))) → Option (Int × (List (ByteArray)))
  | 0 => fun _ => none
  | j + 1 => laws_markStringS.s0 k (laws_markStringS.l0 k j)
def laws_markStringS.S0 (p : (Int × Int × (List (ByteArray)))) : DS := ⟨tl [(0, .at (.whole 0)), (1, .at (.int .i64 p.1)), (5, .at (.int .i64 p.2.1))], lookO [(0, .row 9 .str true p.2.2)]⟩
noncomputable def laws_markStringS.D0 (k : Nat) (j : Nat) (p : (Int × Int × (List (ByteArray)))) : Option (Int × (List (ByteArray))) := loopK (norm [0] (laws_markStringS.h 0)) (runK laws_markStringS.x k 0 [0] laws_markStringS.h 0 (sub laws_markStringS.c [1, 0, 1, 0, 0])) j (laws_markStringS.S0 p) (kBlk 0 (kSeq (runK laws_markStringS.x k 0 [0] laws_markStringS.h 0 (sub laws_markStringS.c [1, 1])) (fin tt laws_markStringS.ps laws_markStringS.rs laws_markStringS.vs (.two (.int .i64) (.sl 9 .str)))))
theorem laws_markStringS.D0_eq (k : Nat) : ∀ j, laws_markStringS.D0 k j = laws_markStringS.l0 k j := by
  intro j
  induction j with
  | zero => rfl
  | succ j ih =>
    show _ = laws_markStringS.s0 k (laws_markStringS.l0 k j)
    rw [← ih]
    funext p
    kernel_rfl
def laws_markStringS.f (k : Nat) (a0 : List (ByteArray)) (a1 : Int) : Option (Int × (List (ByteArray))) :=
  laws_markStringS.l0 k k (a1, (0 : Int), a0)
def laws_markStringS.K : Ctr := ⟨laws_markStringS.ps, laws_markStringS.rs, false, (.two (.sl 9 .str) (.int .i64)), (.two (.int .i64) (.sl 9 .str)), fun k x => laws_markStringS.f k x.1 x.2⟩
theorem laws_markStringS.eq (k : Nat) (x : (laws_markStringS.K.I).den) : func laws_markStringS.x laws_markStringS.h laws_markStringS.ps laws_markStringS.rs laws_markStringS.vs laws_markStringS.K.I laws_markStringS.K.O laws_markStringS.c k x = laws_markStringS.K.run k x := by
  show _ = laws_markStringS.f k x.1 x.2
  unfold laws_markStringS.f
  rw [← laws_markStringS.D0_eq k k]
  kernel_rfl
theorem laws_markStringS.ok : CtrOk Tryd.prog 36 laws_markStringS.K :=
  CtrOk.of (fn := Tryd.f36) (cd := laws_markStringS.c) (cx := laws_markStringS.x) (hs := laws_markStringS.h) (by kernel_rfl) (by kernel_rfl) (by kernel_rfl) (by kernel_rfl) tt_ok (envOk_cons laws_markText.ok (envOk_nil)) (by kernel_rfl) (by kernel_rfl) (by kernel_rfl) (by kernel_rfl) fun k x r h => (laws_markStringS.eq k x).trans h
/-! laws.markOptions -/
noncomputable def laws_markOptions.c : Code := bodyOf Tryd.f13
def laws_markOptions.h : Nat → Hint := look ⟨[], [], []⟩ []
def laws_markOptions.ps : List PK := [.aggw 3 [1], .one]
def laws_markOptions.rs : List RK := [.one true]
def laws_markOptions.vs : List ResultVar := [.tmp 4]
def laws_markOptions.x : Cx := ⟨tt, look none [(36, some laws_markStringS.K)]⟩
def laws_markOptions.f (k : Nat) (_a0_0 : Int) (a0_1 : List (ByteArray)) (_a0_2 : Bool) (a1 : Int) : Option (Int × (List (ByteArray))) :=
  (laws_markStringS.f k a0_1 a1).bind fun r1 => some (r1.1, r1.2)
def laws_markOptions.K : Ctr := ⟨laws_markOptions.ps, laws_markOptions.rs, false, (.two (.int .i64) (.two (.sl 9 .str) (.two .bool (.int .i64)))), (.two (.int .i64) (.sl 9 .str)), fun k x => laws_markOptions.f k x.1 x.2.1 x.2.2.1 x.2.2.2⟩
theorem laws_markOptions.eq (k : Nat) (x : (laws_markOptions.K.I).den) : func laws_markOptions.x laws_markOptions.h laws_markOptions.ps laws_markOptions.rs laws_markOptions.vs laws_markOptions.K.I laws_markOptions.K.O laws_markOptions.c k x = laws_markOptions.K.run k x := by
  show _ = laws_markOptions.f k x.1 x.2.1 x.2.2.1 x.2.2.2
  kernel_rfl
theorem laws_markOptions.ok : CtrOk Tryd.prog 13 laws_markOptions.K :=
  CtrOk.of (fn := Tryd.f13) (cd := laws_markOptions.c) (cx := laws_markOptions.x) (hs := laws_markOptions.h) (by kernel_rfl) (by kernel_rfl) (by kernel_rfl) (by kernel_rfl) tt_ok (envOk_cons laws_markStringS.ok (envOk_nil)) (by kernel_rfl) (by kernel_rfl) (by kernel_rfl) (by kernel_rfl) fun k x r h => (laws_markOptions.eq k x).trans h
/-! laws.heldStringS -/
noncomputable def laws_heldStringS.c : Code := bodyOf Tryd.f37
def laws_heldStringS.h : Nat → Hint := look ⟨[], [], []⟩ [(0, ⟨[0, 1, 5], [], []⟩)]
def laws_heldStringS.ps : List PK := [.one, .one]
def laws_heldStringS.rs : List RK := [.one true]
def laws_heldStringS.vs : List ResultVar := [.tmp 4]
def laws_heldStringS.x : Cx := ⟨tt, look none [(60, some laws_markText.K)]⟩
def laws_heldStringS.s0 (k : Nat) (rec0 : (Int × Int × (List (ByteArray))) → Option (Int)) (p : (Int × Int × (List (ByteArray)))) : Option (Int) :=
  (bif (decide (p.2.1 < (p.2.2.length : Int))) then (bif ((decide ((0 : Int) ≤ p.2.1)) && (decide (p.2.1 < (p.2.2.length : Int)))) then (p.2.2[p.2.1.toNat]?).bind fun x1 => (laws_markText.f k p.1).bind fun r2 => (bif (!(x1.toList == r2.toList)) then some (-1 : Int) else rec0 ((IntKind.i64.wrap (p.1 + (1 : Int))), (IntKind.i64.wrap (p.2.1 + (1 : Int))), p.2.2)) else none) else some p.1)
def laws_heldStringS.l0 (k : Nat) : Nat → (Int × Int × (List (ByteArray))) → Option (Int)
  | 0 => fun _ => none
  | j + 1 => laws_heldStringS.s0 k (laws_heldStringS.l0 k j)
def laws_heldStringS.S0 (p : (Int × Int × (List (ByteArray)))) : DS := ⟨tl [(0, .at (.whole 0)), (1, .at (.int .i64 p.1)), (5, .at (.int .i64 p.2.1))], lookO [(0, .row 9 .str false p.2.2)]⟩
noncomputable def laws_heldStringS.D0 (k : Nat) (j : Nat) (p : (Int × Int × (List (ByteArray)))) : Option (Int) := loopK (norm [0] (laws_heldStringS.h 0)) (runK laws_heldStringS.x k 0 [0] laws_heldStringS.h 0 (sub laws_heldStringS.c [1, 0, 1, 0, 0])) j (laws_heldStringS.S0 p) (kBlk 0 (kSeq (runK laws_heldStringS.x k 0 [0] laws_heldStringS.h 0 (sub laws_heldStringS.c [1, 1])) (fin tt laws_heldStringS.ps laws_heldStringS.rs laws_heldStringS.vs (.int .i64))))
theorem laws_heldStringS.D0_eq (k : Nat) : ∀ j, laws_heldStringS.D0 k j = laws_heldStringS.l0 k j := by
  intro j
  induction j with
  | zero => rfl
  | succ j ih =>
    show _ = laws_heldStringS.s0 k (laws_heldStringS.l0 k j)
    rw [← ih]
    funext p
    kernel_rfl
def laws_heldStringS.f (k : Nat) (a0 : List (ByteArray)) (a1 : Int) : Option (Int) :=
  laws_heldStringS.l0 k k (a1, (0 : Int), a0)
def laws_heldStringS.K : Ctr := ⟨laws_heldStringS.ps, laws_heldStringS.rs, false, (.two (.sl 9 .str) (.int .i64)), (.int .i64), fun k x => laws_heldStringS.f k x.1 x.2⟩
theorem laws_heldStringS.eq (k : Nat) (x : (laws_heldStringS.K.I).den) : func laws_heldStringS.x laws_heldStringS.h laws_heldStringS.ps laws_heldStringS.rs laws_heldStringS.vs laws_heldStringS.K.I laws_heldStringS.K.O laws_heldStringS.c k x = laws_heldStringS.K.run k x := by
  show _ = laws_heldStringS.f k x.1 x.2
  unfold laws_heldStringS.f
  rw [← laws_heldStringS.D0_eq k k]
  kernel_rfl
theorem laws_heldStringS.ok : CtrOk Tryd.prog 37 laws_heldStringS.K :=
  CtrOk.of (fn := Tryd.f37) (cd := laws_heldStringS.c) (cx := laws_heldStringS.x) (hs := laws_heldStringS.h) (by kernel_rfl) (by kernel_rfl) (by kernel_rfl) (by kernel_rfl) tt_ok (envOk_cons laws_markText.ok (envOk_nil)) (by kernel_rfl) (by kernel_rfl) (by kernel_rfl) (by kernel_rfl) fun k x r h => (laws_heldStringS.eq k x).trans h
/-! laws.heldOptions -/
noncomputable def laws_heldOptions.c : Code := bodyOf Tryd.f14
def laws_heldOptions.h : Nat → Hint := look ⟨[], [], []⟩ []
def laws_heldOptions.ps : List PK := [.agg 3, .one]
def laws_heldOptions.rs : List RK := [.one true]
def laws_heldOptions.vs : List ResultVar := [.tmp 4]
def laws_heldOptions.x : Cx := ⟨tt, look none [(37, some laws_heldStringS.K)]⟩
def laws_heldOptions.f (k : Nat) (_a0_0 : Int) (a0_1 : List (ByteArray)) (_a0_2 : Bool) (a1 : Int) : Option (Int) :=
  (laws_heldStringS.f k a0_1 a1).bind fun r1 => (bif (decide (r1 < (0 : Int))) then some (-1 : Int) else some r1)
def laws_heldOptions.K : Ctr := ⟨laws_heldOptions.ps, laws_heldOptions.rs, false, (.two (.int .i64) (.two (.sl 9 .str) (.two .bool (.int .i64)))), (.int .i64), fun k x => laws_heldOptions.f k x.1 x.2.1 x.2.2.1 x.2.2.2⟩
theorem laws_heldOptions.eq (k : Nat) (x : (laws_heldOptions.K.I).den) : func laws_heldOptions.x laws_heldOptions.h laws_heldOptions.ps laws_heldOptions.rs laws_heldOptions.vs laws_heldOptions.K.I laws_heldOptions.K.O laws_heldOptions.c k x = laws_heldOptions.K.run k x := by
  show _ = laws_heldOptions.f k x.1 x.2.1 x.2.2.1 x.2.2.2
  kernel_rfl
theorem laws_heldOptions.ok : CtrOk Tryd.prog 14 laws_heldOptions.K :=
  CtrOk.of (fn := Tryd.f14) (cd := laws_heldOptions.c) (cx := laws_heldOptions.x) (hs := laws_heldOptions.h) (by kernel_rfl) (by kernel_rfl) (by kernel_rfl) (by kernel_rfl) tt_ok (envOk_cons laws_heldStringS.ok (envOk_nil)) (by kernel_rfl) (by kernel_rfl) (by kernel_rfl) (by kernel_rfl) fun k x r h => (laws_heldOptions.eq k x).trans h
/-! laws.FnExactReadOption -/
noncomputable def laws_FnExactReadOption.c : Code := bodyOf Tryd.f4
def laws_FnExactReadOption.h : Nat → Hint := look ⟨[], [], []⟩ []
def laws_FnExactReadOption.ps : List PK := [.one]
def laws_FnExactReadOption.rs : List RK := [.one true]
def laws_FnExactReadOption.vs : List ResultVar := [.tmp 2]
def laws_FnExactReadOption.x : Cx := ⟨tt, look none [(11, some spec_ReadOption.K), (12, some impl_ReadOption.K), (10, some laws_eqOptions.K), (13, some laws_markOptions.K), (14, some laws_heldOptions.K)]⟩
def laws_FnExactReadOption.f (k : Nat) (a0 : ByteArray) : Option (Bool) :=
  (bif (decide ((a0.size : Int) > (1048576 : Int))) then some true else (spec_ReadOption.f k a0).bind fun r1 => (impl_ReadOption.f k a0).bind fun r2 => (laws_eqOptions.f k r2.1 r2.2.1 r2.2.2.1 r1.1 r1.2.1 r1.2.2.1).bind fun r3 => (bif (!r3) then some false else (bif (!(r2.2.2.2 == r1.2.2.2)) then some false else (laws_markOptions.f k r2.1 r2.2.1 r2.2.2.1 (1 : Int)).bind fun r4 => (laws_heldOptions.f k r2.1 r4.2 r2.2.2.1 (1 : Int)).bind fun r5 => (bif (decide (r5 < (0 : Int))) then some false else (bif (r5 != r4.1) then some false else (impl_ReadOption.f k a0).bind fun r6 => (laws_eqOptions.f k r6.1 r6.2.1 r6.2.2.1 r1.1 r1.2.1 r1.2.2.1).bind fun r7 => (bif (!r7) then some false else (bif (!(r6.2.2.2 == r1.2.2.2)) then some false else (laws_heldOptions.f k r2.1 r4.2 r2.2.2.1 (1 : Int)).bind fun r8 => (bif (decide (r8 < (0 : Int))) then some false else (bif (r8 != r4.1) then some false else some true)))))))))
def laws_FnExactReadOption.K : Ctr := ⟨laws_FnExactReadOption.ps, laws_FnExactReadOption.rs, false, .str, .bool, fun k x => laws_FnExactReadOption.f k x⟩
theorem laws_FnExactReadOption.eq (k : Nat) (x : (laws_FnExactReadOption.K.I).den) : func laws_FnExactReadOption.x laws_FnExactReadOption.h laws_FnExactReadOption.ps laws_FnExactReadOption.rs laws_FnExactReadOption.vs laws_FnExactReadOption.K.I laws_FnExactReadOption.K.O laws_FnExactReadOption.c k x = laws_FnExactReadOption.K.run k x := by
  show _ = laws_FnExactReadOption.f k x
  kernel_rfl
theorem laws_FnExactReadOption.ok : CtrOk Tryd.prog 4 laws_FnExactReadOption.K :=
  CtrOk.of (fn := Tryd.f4) (cd := laws_FnExactReadOption.c) (cx := laws_FnExactReadOption.x) (hs := laws_FnExactReadOption.h) (by kernel_rfl) (by kernel_rfl) (by kernel_rfl) (by kernel_rfl) tt_ok (envOk_cons spec_ReadOption.ok (envOk_cons impl_ReadOption.ok (envOk_cons laws_eqOptions.ok (envOk_cons laws_markOptions.ok (envOk_cons laws_heldOptions.ok (envOk_nil)))))) (by kernel_rfl) (by kernel_rfl) (by kernel_rfl) (by kernel_rfl) fun k x r h => (laws_FnExactReadOption.eq k x).trans h
end Go.Proofs.YtfaeklomiofpdaaDoor.DI
