/- FnOptions: functions as plain Lean, in the machine of values. -/
import Derived.Test.YtfaeklomiofpdaaDoorVFnOptions1
namespace Go.Proofs.YtfaeklomiofpdaaDoor.DI
open Go
set_option linter.unusedVariables false
/-! impl.OptionText -/
noncomputable def impl_OptionText.c : Code := bodyOf Tryd.f9
def impl_OptionText.h : Nat → Hint := look ⟨[], [], []⟩ []
def impl_OptionText.ps : List PK := [.agg 3]
def impl_OptionText.rs : List RK := [.one true, .one true]
def impl_OptionText.vs : List ResultVar := [.tmp 2, .tmp 3]
def impl_OptionText.x : Cx := ⟨tt, look none [(21, some impl_OptionsOk.K), (26, some impl_Decimal.K), (27, some strings_Join.K)]⟩
def impl_OptionText.f (k : Nat) (a0_0 : Int) (a0_1 : List (ByteArray)) (a0_2 : Bool) : Option (ByteArray × Bool) :=
  (impl_OptionsOk.f k a0_0 a0_1 a0_2).bind fun r1 => (bif (!r1) then some (ByteArray.empty, false) else (impl_Decimal.f k a0_0).bind fun r2 => (bif decide ((⟨#[115, 105, 122, 101, 32]⟩ : ByteArray).size + r2.size ≤ 140737488351232) then (bif decide (((⟨#[115, 105, 122, 101, 32]⟩ : ByteArray) ++ r2).size + (⟨#[59, 119, 97, 121, 115, 32]⟩ : ByteArray).size ≤ 140737488351232) then (strings_Join.f k a0_1 (⟨#[44]⟩ : ByteArray)).bind fun r3 => (bif decide ((((⟨#[115, 105, 122, 101, 32]⟩ : ByteArray) ++ r2) ++ (⟨#[59, 119, 97, 121, 115, 32]⟩ : ByteArray)).size + r3.size ≤ 140737488351232) then (bif a0_2 then (bif decide (((((⟨#[115, 105, 122, 101, 32]⟩ : ByteArray) ++ r2) ++ (⟨#[59, 119, 97, 121, 115, 32]⟩ : ByteArray)) ++ r3).size + (⟨#[59, 112, 105, 101, 99, 101, 115]⟩ : ByteArray).size ≤ 140737488351232) then some ((((((⟨#[115, 105, 122, 101, 32]⟩ : ByteArray) ++ r2) ++ (⟨#[59, 119, 97, 121, 115, 32]⟩ : ByteArray)) ++ r3) ++ (⟨#[59, 112, 105, 101, 99, 101, 115]⟩ : ByteArray)), true) else none) else some (((((⟨#[115, 105, 122, 101, 32]⟩ : ByteArray) ++ r2) ++ (⟨#[59, 119, 97, 121, 115, 32]⟩ : ByteArray)) ++ r3), true)) else none) else none) else none))
def impl_OptionText.K : Ctr := ⟨impl_OptionText.ps, impl_OptionText.rs, false, (.two (.int .i64) (.two (.sl 9 .str) .bool)), (.two .str .bool), fun k x => impl_OptionText.f k x.1 x.2.1 x.2.2⟩
theorem impl_OptionText.eq (k : Nat) (x : (impl_OptionText.K.I).den) : func impl_OptionText.x impl_OptionText.h impl_OptionText.ps impl_OptionText.rs impl_OptionText.vs impl_OptionText.K.I impl_OptionText.K.O impl_OptionText.c k x = impl_OptionText.K.run k x := by
  show _ = impl_OptionText.f k x.1 x.2.1 x.2.2
  kernel_rfl
theorem impl_OptionText.ok : CtrOk Tryd.prog 9 impl_OptionText.K :=
  CtrOk.of (fn := Tryd.f9) (cd := impl_OptionText.c) (cx := impl_OptionText.x) (hs := impl_OptionText.h) (by kernel_rfl) (by kernel_rfl) (by kernel_rfl) (by kernel_rfl) tt_ok (envOk_cons impl_OptionsOk.ok (envOk_cons impl_Decimal.ok (envOk_cons strings_Join.ok (envOk_nil)))) (by kernel_rfl) (by kernel_rfl) (by kernel_rfl) (by kernel_rfl) fun k x r h => (impl_OptionText.eq k x).trans h
/-! strings.CutSuffix -/
def strings_CutSuffix.f (_k : Nat) (a0 : ByteArray) (a1 : ByteArray) : Option (ByteArray × Bool) := cutSRun a0 a1
def strings_CutSuffix.K : Ctr := cutSCtr
theorem strings_CutSuffix.ok : CtrOk Tryd.prog 31 strings_CutSuffix.K := lib31
/-! strings.Cut -/
def strings_Cut.f (_k : Nat) (a0 : ByteArray) (a1 : ByteArray) : Option (ByteArray × ByteArray × Bool) := cutRun a0 a1
def strings_Cut.K : Ctr := cutCtr
theorem strings_Cut.ok : CtrOk Tryd.prog 32 strings_Cut.K := lib32
/-! strings.TrimPrefix -/
def strings_TrimPrefix.f (_k : Nat) (a0 : ByteArray) (a1 : ByteArray) : Option (ByteArray) := trimPRun a0 a1
def strings_TrimPrefix.K : Ctr := trimPCtr
theorem strings_TrimPrefix.ok : CtrOk Tryd.prog 34 strings_TrimPrefix.K := lib34
/-! impl.ReadDecimal -/
def impl_ReadDecimal.f (_k : Nat) (a0 : ByteArray) : Option (Int × Bool) := readDRun a0
def impl_ReadDecimal.K : Ctr := readDCtr
theorem impl_ReadDecimal.ok : CtrOk Tryd.prog 33 impl_ReadDecimal.K := lib33
/-! strings.Split -/
def strings_Split.f (_k : Nat) (a0 : ByteArray) (a1 : ByteArray) : Option ((List (ByteArray))) := splitRun a0 a1
def strings_Split.K : Ctr := splitCtr 9
theorem strings_Split.ok : CtrOk Tryd.prog 35 strings_Split.K := lib35
/-! impl.ReadOption -/
noncomputable def impl_ReadOption.c : Code := bodyOf Tryd.f12
def impl_ReadOption.h : Nat → Hint := look ⟨[], [], []⟩ []
def impl_ReadOption.ps : List PK := [.one]
def impl_ReadOption.rs : List RK := [.agg 3 true, .one true]
def impl_ReadOption.vs : List ResultVar := [.cell 2 28, .tmp 3]
def impl_ReadOption.x : Cx := ⟨tt, look none [(31, some strings_CutSuffix.K), (32, some strings_Cut.K), (34, some strings_TrimPrefix.K), (33, some impl_ReadDecimal.K), (35, some strings_Split.K), (9, some impl_OptionText.K)]⟩
def impl_ReadOption.f (k : Nat) (a0 : ByteArray) : Option (Int × (List (ByteArray)) × Bool × Bool) :=
  (strings_CutSuffix.f k a0 (⟨#[59, 112, 105, 101, 99, 101, 115]⟩ : ByteArray)).bind fun r1 => (strings_Cut.f k r1.1 (⟨#[59, 119, 97, 121, 115, 32]⟩ : ByteArray)).bind fun r2 => (strings_TrimPrefix.f k r2.1 (⟨#[115, 105, 122, 101, 32]⟩ : ByteArray)).bind fun r3 => (impl_ReadDecimal.f k r3).bind fun r4 => (strings_Split.f k r2.2.1 (⟨#[44]⟩ : ByteArray)).bind fun r5 => (impl_OptionText.f k r4.1 r5 r1.2).bind fun r6 => (bif (!r6.2) then some ((0 : Int), ([] : List (ByteArray)), false, false) else (bif (!(r6.1.toList == a0.toList)) then some ((0 : Int), ([] : List (ByteArray)), false, false) else some (r4.1, r5, r1.2, true)))
def impl_ReadOption.K : Ctr := ⟨impl_ReadOption.ps, impl_ReadOption.rs, false, .str, (.two (.int .i64) (.two (.sl 9 .str) (.two .bool .bool))), fun k x => impl_ReadOption.f k x⟩
theorem impl_ReadOption.eq (k : Nat) (x : (impl_ReadOption.K.I).den) : func impl_ReadOption.x impl_ReadOption.h impl_ReadOption.ps impl_ReadOption.rs impl_ReadOption.vs impl_ReadOption.K.I impl_ReadOption.K.O impl_ReadOption.c k x = impl_ReadOption.K.run k x := by
  show _ = impl_ReadOption.f k x
  kernel_rfl
theorem impl_ReadOption.ok : CtrOk Tryd.prog 12 impl_ReadOption.K :=
  CtrOk.of (fn := Tryd.f12) (cd := impl_ReadOption.c) (cx := impl_ReadOption.x) (hs := impl_ReadOption.h) (by kernel_rfl) (by kernel_rfl) (by kernel_rfl) (by kernel_rfl) tt_ok (envOk_cons strings_CutSuffix.ok (envOk_cons strings_Cut.ok (envOk_cons strings_TrimPrefix.ok (envOk_cons impl_ReadDecimal.ok (envOk_cons strings_Split.ok (envOk_cons impl_OptionText.ok (envOk_nil))))))) (by kernel_rfl) (by kernel_rfl) (by kernel_rfl) (by kernel_rfl) fun k x r h => (impl_ReadOption.eq k x).trans h
/-! impl.Agree -/
noncomputable def impl_Agree.c : Code := bodyOf Tryd.f17
def impl_Agree.h : Nat → Hint := look ⟨[], [], []⟩ [(0, ⟨[2, 3, 4, 18, 19, 20], [32, 48, 64], [(.b 64 1, 704, 9, .str)]⟩)]
def impl_Agree.ps : List PK := [.agg 3, .agg 3]
def impl_Agree.rs : List RK := [.agg 3 true, .one true]
def impl_Agree.vs : List ResultVar := [.cell 4 28, .tmp 5]
def impl_Agree.x : Cx := ⟨tt, look none [(21, some impl_OptionsOk.K), (40, some slices_Contains_string_string.K)]⟩
def impl_Agree.s0 (k : Nat) (rec0 : (Int × Int × (List (ByteArray)) × (List (ByteArray)) × Int × Bool × Int × Bool × Int × Bool × (List (ByteArray))) → Option (Int × (List (ByteArray)) × Bool × Bool)) (p : (Int × Int × (List (ByteArray)) × (List (ByteArray)) × Int × Bool × Int × Bool × Int × Bool × (List (ByteArray)))) : Option (Int × (List (ByteArray)) × Bool × Bool) :=
  (bif (decide (p.2.1 < p.1)) then (bif ((decide ((0 : Int) ≤ p.2.1)) && (decide (p.2.1 < (p.2.2.1.length : Int)))) then (p.2.2.1[p.2.1.toNat]?).bind fun x3 => (slices_Contains_string_string.f k p.2.2.2.1 x3).bind fun r4 => (bif r4 then (bif p.2.2.2.2.2.1 then some ((bif (decide (p.2.2.2.2.2.2.1 < p.2.2.2.2.1)) then p.2.2.2.2.2.2.1 else p.2.2.2.2.1), [x3], p.2.2.2.2.2.2.2.1, true) else some ((bif (decide (p.2.2.2.2.2.2.1 < p.2.2.2.2.1)) then p.2.2.2.2.2.2.1 else p.2.2.2.2.1), [x3], false, true)) else rec0 (p.1, (IntKind.i64.wrap (p.2.1 + (1 : Int))), p.2.2.1, p.2.2.2.1, p.2.2.2.2.1, p.2.2.2.2.2.1, p.2.2.2.2.2.2.1, p.2.2.2.2.2.2.2.1, p.2.2.2.2.2.2.2.2.1, p.2.2.2.2.2.2.2.2.2.1, p.2.2.2.2.2.2.2.2.2.2)) else none) else some ((0 : Int), ([] : List (ByteArray)), false, false))
def impl_Agree.l0 (k : Nat) : Nat → (Int × Int × (List (ByteArray)) × (List (ByteArray)) × Int × Bool × Int × Bool × Int × Bool × (List (ByteArray))) → Option (Int × (List (ByteArray)) × Bool × Bool)
  | 0 => fun _ => none
  | j + 1 => impl_Agree.s0 k (impl_Agree.l0 k j)
def impl_Agree.S0 (p : (Int × Int × (List (ByteArray)) × (List (ByteArray)) × Int × Bool × Int × Bool × Int × Bool × (List (ByteArray)))) : DS := ⟨tl [(2, .at (.bptr 32 0)), (3, .at (.bptr 48 0)), (4, .at (.bptr 64 0)), (18, .at (.whole 1)), (19, .at (.int .i64 p.1)), (20, .at (.int .i64 p.2.1))], lookO [(1, .row 9 .str false p.2.2.1), (17, .row 9 .str false p.2.2.2.1), (32, .box 28 [.int .i64 p.2.2.2.2.1, .whole 1, .bool p.2.2.2.2.2.1]), (48, .box 28 [.int .i64 p.2.2.2.2.2.2.1, .whole 17, .bool p.2.2.2.2.2.2.2.1]), (64, .box 28 [.int .i64 p.2.2.2.2.2.2.2.2.1, .whole 704, .bool p.2.2.2.2.2.2.2.2.2.1]), (704, .row 9 .str true p.2.2.2.2.2.2.2.2.2.2)]⟩
noncomputable def impl_Agree.D0 (k : Nat) (j : Nat) (p : (Int × Int × (List (ByteArray)) × (List (ByteArray)) × Int × Bool × Int × Bool × Int × Bool × (List (ByteArray)))) : Option (Int × (List (ByteArray)) × Bool × Bool) := loopK (norm [1, 17] (impl_Agree.h 0)) (runK impl_Agree.x k 0 [1, 17] impl_Agree.h 0 (sub impl_Agree.c [1, 1, 0, 1, 0, 0])) j (impl_Agree.S0 p) (kBlk 0 (kSeq (runK impl_Agree.x k 0 [1, 17] impl_Agree.h 0 (sub impl_Agree.c [1, 1, 1])) (fin tt impl_Agree.ps impl_Agree.rs impl_Agree.vs (.two (.int .i64) (.two (.sl 9 .str) (.two .bool .bool))))))
theorem impl_Agree.D0_eq (k : Nat) : ∀ j, impl_Agree.D0 k j = impl_Agree.l0 k j := by
  intro j
  induction j with
  | zero => rfl
  | succ j ih =>
    show _ = impl_Agree.s0 k (impl_Agree.l0 k j)
    rw [← ih]
    funext p
    kernel_rfl
def impl_Agree.f (k : Nat) (a0_0 : Int) (a0_1 : List (ByteArray)) (a0_2 : Bool) (a1_0 : Int) (a1_1 : List (ByteArray)) (a1_2 : Bool) : Option (Int × (List (ByteArray)) × Bool × Bool) :=
  (impl_OptionsOk.f k a0_0 a0_1 a0_2).bind fun r1 => (bif (!r1) then some ((0 : Int), ([] : List (ByteArray)), false, false) else (impl_OptionsOk.f k a1_0 a1_1 a1_2).bind fun r2 => (bif (!r2) then some ((0 : Int), ([] : List (ByteArray)), false, false) else impl_Agree.l0 k k ((a0_1.length : Int), (0 : Int), a0_1, a1_1, a0_0, a0_2, a1_0, a1_2, (0 : Int), false, ([] : List (ByteArray)))))
def impl_Agree.K : Ctr := ⟨impl_Agree.ps, impl_Agree.rs, false, (.two (.int .i64) (.two (.sl 9 .str) (.two .bool (.two (.int .i64) (.two (.sl 9 .str) .bool))))), (.two (.int .i64) (.two (.sl 9 .str) (.two .bool .bool))), fun k x => impl_Agree.f k x.1 x.2.1 x.2.2.1 x.2.2.2.1 x.2.2.2.2.1 x.2.2.2.2.2⟩
theorem impl_Agree.eq (k : Nat) (x : (impl_Agree.K.I).den) : func impl_Agree.x impl_Agree.h impl_Agree.ps impl_Agree.rs impl_Agree.vs impl_Agree.K.I impl_Agree.K.O impl_Agree.c k x = impl_Agree.K.run k x := by
  show _ = impl_Agree.f k x.1 x.2.1 x.2.2.1 x.2.2.2.1 x.2.2.2.2.1 x.2.2.2.2.2
  unfold impl_Agree.f
  rw [← impl_Agree.D0_eq k k]
  kernel_rfl
theorem impl_Agree.ok : CtrOk Tryd.prog 17 impl_Agree.K :=
  CtrOk.of (fn := Tryd.f17) (cd := impl_Agree.c) (cx := impl_Agree.x) (hs := impl_Agree.h) (by kernel_rfl) (by kernel_rfl) (by kernel_rfl) (by kernel_rfl) tt_ok (envOk_cons impl_OptionsOk.ok (envOk_cons slices_Contains_string_string.ok (envOk_nil))) (by kernel_rfl) (by kernel_rfl) (by kernel_rfl) (by kernel_rfl) fun k x r h => (impl_Agree.eq k x).trans h
/-! spec.l01In -/
noncomputable def spec_l01In.c : Code := bodyOf Tryd.f49
def spec_l01In.h : Nat → Hint := look ⟨[], [], []⟩ []
def spec_l01In.ps : List PK := [.one, .one, .one]
def spec_l01In.rs : List RK := [.one true]
def spec_l01In.vs : List ResultVar := [.tmp 6]
def spec_l01In.x : Cx := ⟨tt, look none []⟩
def spec_l01In.f (_k : Nat) (a0 : Int) (a1 : Int) (a2 : Int) : Option (Bool) :=
  (bif (decide (a0 ≥ a1)) then some (decide (a0 ≤ a2)) else some false)
def spec_l01In.K : Ctr := ⟨spec_l01In.ps, spec_l01In.rs, false, (.two (.int .i64) (.two (.int .i64) (.int .i64))), .bool, fun k x => spec_l01In.f k x.1 x.2.1 x.2.2⟩
theorem spec_l01In.eq (k : Nat) (x : (spec_l01In.K.I).den) : func spec_l01In.x spec_l01In.h spec_l01In.ps spec_l01In.rs spec_l01In.vs spec_l01In.K.I spec_l01In.K.O spec_l01In.c k x = spec_l01In.K.run k x := by
  show _ = spec_l01In.f k x.1 x.2.1 x.2.2
  kernel_rfl
theorem spec_l01In.ok : CtrOk Tryd.prog 49 spec_l01In.K :=
  CtrOk.of (fn := Tryd.f49) (cd := spec_l01In.c) (cx := spec_l01In.x) (hs := spec_l01In.h) (by kernel_rfl) (by kernel_rfl) (by kernel_rfl) (by kernel_rfl) tt_ok (envOk_nil) (by kernel_rfl) (by kernel_rfl) (by kernel_rfl) (by kernel_rfl) fun k x r h => (spec_l01In.eq k x).trans h
/-! spec.l15Way -/
noncomputable def spec_l15Way.c : Code := bodyOf Tryd.f48
def spec_l15Way.h : Nat → Hint := look ⟨[], [], []⟩ [(0, ⟨[0, 3], [], []⟩)]
def spec_l15Way.ps : List PK := [.one]
def spec_l15Way.rs : List RK := [.one true]
def spec_l15Way.vs : List ResultVar := [.tmp 2]
def spec_l15Way.x : Cx := ⟨tt, look none [(49, some spec_l01In.K)]⟩
def spec_l15Way.s0 (k : Nat) (rec0 : (ByteArray × Int) → Option (Bool)) (p : (ByteArray × Int)) : Option (Bool) :=
  (bif (decide (p.2 < (p.1.size : Int))) then (bif (decide ((0 : Int) ≤ p.2)) then (p.1[p.2.toNat]?).bind fun c1 => (bif (decide ((c1.toNat : Int) < (97 : Int))) then (bif (decide ((0 : Int) ≤ p.2)) then (p.1[p.2.toNat]?).bind fun c2 => (bif (decide ((c2.toNat : Int) < (48 : Int))) then some false else (bif (decide ((0 : Int) ≤ p.2)) then (p.1[p.2.toNat]?).bind fun c3 => (bif (decide ((c3.toNat : Int) > (57 : Int))) then some false else rec0 (p.1, (IntKind.i64.wrap (p.2 + (1 : Int))))) else none)) else none) else (bif (decide ((0 : Int) ≤ p.2)) then (p.1[p.2.toNat]?).bind fun c4 => (bif (decide ((c4.toNat : Int) > (122 : Int))) then (bif (decide ((0 : Int) ≤ p.2)) then (p.1[p.2.toNat]?).bind fun c5 => (bif (decide ((c5.toNat : Int) < (48 : Int))) then some false else (bif (decide ((0 : Int) ≤ p.2)) then (p.1[p.2.toNat]?).bind fun c6 => (bif (decide ((c6.toNat : Int) > (57 : Int))) then some false else rec0 (p.1, (IntKind.i64.wrap (p.2 + (1 : Int))))) else none)) else none) else rec0 (p.1, (IntKind.i64.wrap (p.2 + (1 : Int))))) else none)) else none) else (spec_l01In.f k (p.1.size : Int) (1 : Int) (8 : Int)).bind fun r7 => some r7)
def spec_l15Way.l0 (k : Nat) : Nat → (ByteArray × Int) → Option (Bool)
  | 0 => fun _ => none
  | j + 1 => spec_l15Way.s0 k (spec_l15Way.l0 k j)
def spec_l15Way.S0 (p : (ByteArray × Int)) : DS := ⟨tl [(0, .at (.str p.1)), (3, .at (.int .i64 p.2))], lookO []⟩
noncomputable def spec_l15Way.D0 (k : Nat) (j : Nat) (p : (ByteArray × Int)) : Option (Bool) := loopK (norm [] (spec_l15Way.h 0)) (runK spec_l15Way.x k 0 [] spec_l15Way.h 0 (sub spec_l15Way.c [1, 0, 1, 0, 0])) j (spec_l15Way.S0 p) (kBlk 0 (kSeq (runK spec_l15Way.x k 0 [] spec_l15Way.h 0 (sub spec_l15Way.c [1, 1])) (fin tt spec_l15Way.ps spec_l15Way.rs spec_l15Way.vs .bool)))
theorem spec_l15Way.D0_eq (k : Nat) : ∀ j, spec_l15Way.D0 k j = spec_l15Way.l0 k j := by
  intro j
  induction j with
  | zero => rfl
  | succ j ih =>
    show _ = spec_l15Way.s0 k (spec_l15Way.l0 k j)
    rw [← ih]
    funext p
    kernel_rfl
def spec_l15Way.f (k : Nat) (a0 : ByteArray) : Option (Bool) :=
  spec_l15Way.l0 k k (a0, (0 : Int))
def spec_l15Way.K : Ctr := ⟨spec_l15Way.ps, spec_l15Way.rs, false, .str, .bool, fun k x => spec_l15Way.f k x⟩
theorem spec_l15Way.eq (k : Nat) (x : (spec_l15Way.K.I).den) : func spec_l15Way.x spec_l15Way.h spec_l15Way.ps spec_l15Way.rs spec_l15Way.vs spec_l15Way.K.I spec_l15Way.K.O spec_l15Way.c k x = spec_l15Way.K.run k x := by
  show _ = spec_l15Way.f k x
  unfold spec_l15Way.f
  rw [← spec_l15Way.D0_eq k k]
  kernel_rfl
theorem spec_l15Way.ok : CtrOk Tryd.prog 48 spec_l15Way.K :=
  CtrOk.of (fn := Tryd.f48) (cd := spec_l15Way.c) (cx := spec_l15Way.x) (hs := spec_l15Way.h) (by kernel_rfl) (by kernel_rfl) (by kernel_rfl) (by kernel_rfl) tt_ok (envOk_cons spec_l01In.ok (envOk_nil)) (by kernel_rfl) (by kernel_rfl) (by kernel_rfl) (by kernel_rfl) fun k x r h => (spec_l15Way.eq k x).trans h
/-! spec.OptionsOk -/
noncomputable def spec_OptionsOk.c : Code := bodyOf Tryd.f23
def spec_OptionsOk.h : Nat → Hint := look ⟨[], [], []⟩ [(0, ⟨[1, 3], [16], []⟩)]
def spec_OptionsOk.ps : List PK := [.agg 3]
def spec_OptionsOk.rs : List RK := [.one true]
def spec_OptionsOk.vs : List ResultVar := [.tmp 2]
def spec_OptionsOk.x : Cx := ⟨tt, look none [(48, some spec_l15Way.K), (41, some spec_l15Has.K), (49, some spec_l01In.K)]⟩
def spec_OptionsOk.s0 (k : Nat) (rec0 : (Int × (List (ByteArray)) × Int × Bool) → Option (Bool)) (p : (Int × (List (ByteArray)) × Int × Bool)) : Option (Bool) :=
  (bif (decide (p.1 < (p.2.1.length : Int))) then (bif ((decide ((0 : Int) ≤ p.1)) && (decide (p.1 < (p.2.1.length : Int)))) then (p.2.1[p.1.toNat]?).bind fun x1 => (spec_l15Way.f k x1).bind fun r2 => (bif (!r2) then some false else (bif ((decide ((0 : Int) ≤ p.1)) && (decide (p.1 ≤ (p.2.1.length : Int)))) then (bif ((decide ((0 : Int) ≤ p.1)) && (decide (p.1 < (p.2.1.length : Int)))) then (p.2.1[p.1.toNat]?).bind fun x3 => (spec_l15Has.f k (p.2.1.take p.1.toNat) x3).bind fun r4 => (bif r4 then some false else rec0 ((IntKind.i64.wrap (p.1 + (1 : Int))), p.2.1, p.2.2.1, p.2.2.2)) else none) else none)) else none) else (spec_l01In.f k p.2.2.1 (20 : Int) (60 : Int)).bind fun r5 => (bif r5 then (spec_l01In.f k (p.2.1.length : Int) (1 : Int) (4 : Int)).bind fun r6 => some r6 else some false))
def spec_OptionsOk.l0 (k : Nat) : Nat → (Int × (List (ByteArray)) × Int × Bool) → Option (Bool)
  | 0 => fun _ => none
  | j + 1 => spec_OptionsOk.s0 k (spec_OptionsOk.l0 k j)
def spec_OptionsOk.S0 (p : (Int × (List (ByteArray)) × Int × Bool)) : DS := ⟨tl [(1, .at (.bptr 16 0)), (3, .at (.int .i64 p.1))], lookO [(1, .row 9 .str false p.2.1), (16, .box 28 [.int .i64 p.2.2.1, .whole 1, .bool p.2.2.2])]⟩
noncomputable def spec_OptionsOk.D0 (k : Nat) (j : Nat) (p : (Int × (List (ByteArray)) × Int × Bool)) : Option (Bool) := loopK (norm [1] (spec_OptionsOk.h 0)) (runK spec_OptionsOk.x k 0 [1] spec_OptionsOk.h 0 (sub spec_OptionsOk.c [1, 0, 1, 0, 0])) j (spec_OptionsOk.S0 p) (kBlk 0 (kSeq (runK spec_OptionsOk.x k 0 [1] spec_OptionsOk.h 0 (sub spec_OptionsOk.c [1, 1])) (fin tt spec_OptionsOk.ps spec_OptionsOk.rs spec_OptionsOk.vs .bool)))
theorem spec_OptionsOk.D0_eq (k : Nat) : ∀ j, spec_OptionsOk.D0 k j = spec_OptionsOk.l0 k j := by
  intro j
  induction j with
  | zero => rfl
  | succ j ih =>
    show _ = spec_OptionsOk.s0 k (spec_OptionsOk.l0 k j)
    rw [← ih]
    funext p
    kernel_rfl
def spec_OptionsOk.f (k : Nat) (a0_0 : Int) (a0_1 : List (ByteArray)) (a0_2 : Bool) : Option (Bool) :=
  spec_OptionsOk.l0 k k ((0 : Int), a0_1, a0_0, a0_2)
def spec_OptionsOk.K : Ctr := ⟨spec_OptionsOk.ps, spec_OptionsOk.rs, false, (.two (.int .i64) (.two (.sl 9 .str) .bool)), .bool, fun k x => spec_OptionsOk.f k x.1 x.2.1 x.2.2⟩
theorem spec_OptionsOk.eq (k : Nat) (x : (spec_OptionsOk.K.I).den) : func spec_OptionsOk.x spec_OptionsOk.h spec_OptionsOk.ps spec_OptionsOk.rs spec_OptionsOk.vs spec_OptionsOk.K.I spec_OptionsOk.K.O spec_OptionsOk.c k x = spec_OptionsOk.K.run k x := by
  show _ = spec_OptionsOk.f k x.1 x.2.1 x.2.2
  unfold spec_OptionsOk.f
  rw [← spec_OptionsOk.D0_eq k k]
  kernel_rfl
theorem spec_OptionsOk.ok : CtrOk Tryd.prog 23 spec_OptionsOk.K :=
  CtrOk.of (fn := Tryd.f23) (cd := spec_OptionsOk.c) (cx := spec_OptionsOk.x) (hs := spec_OptionsOk.h) (by kernel_rfl) (by kernel_rfl) (by kernel_rfl) (by kernel_rfl) tt_ok (envOk_cons spec_l15Way.ok (envOk_cons spec_l15Has.ok (envOk_cons spec_l01In.ok (envOk_nil)))) (by kernel_rfl) (by kernel_rfl) (by kernel_rfl) (by kernel_rfl) fun k x r h => (spec_OptionsOk.eq k x).trans h
/-! spec.Agree -/
noncomputable def spec_Agree.c : Code := bodyOf Tryd.f18
def spec_Agree.h : Nat → Hint := look ⟨[], [], []⟩ [(0, ⟨[2, 3, 4, 6, 7], [32, 48, 64, 96], [(.b 64 1, 928, 9, .str), (.b 96 1, 929, 9, .str)]⟩)]
def spec_Agree.ps : List PK := [.agg 3, .agg 3]
def spec_Agree.rs : List RK := [.agg 3 true, .one true]
def spec_Agree.vs : List ResultVar := [.cell 4 28, .tmp 5]
def spec_Agree.x : Cx := ⟨tt, look none [(23, some spec_OptionsOk.K), (41, some spec_l15Has.K)]⟩
def spec_Agree.s0 (k : Nat) (rec0 : (Int × (List (ByteArray)) × (List (ByteArray)) × Int × Bool × Int × Bool × Int × Bool × Int × Bool × (List (ByteArray)) × (List (ByteArray))) → Option (Int × (List (ByteArray)) × Bool × Bool)) (p : (Int × (List (ByteArray)) × (List (ByteArray)) × Int × Bool × Int × Bool × Int × Bool × Int × Bool × (List (ByteArray)) × (List (ByteArray)))) : Option (Int × (List (ByteArray)) × Bool × Bool) :=
  (bif (decide (p.1 < (p.2.1.length : Int))) then (bif ((decide ((0 : Int) ≤ p.1)) && (decide (p.1 < (p.2.1.length : Int)))) then (p.2.1[p.1.toNat]?).bind fun x3 => (spec_l15Has.f k p.2.2.1 x3).bind fun r4 => (bif r4 then (bif ((decide ((0 : Int) ≤ p.1)) && (decide (p.1 < (p.2.1.length : Int)))) then (p.2.1[p.1.toNat]?).bind fun x5 => some (p.2.2.2.2.2.2.2.2.2.1, [x5], p.2.2.2.2.2.2.2.2.2.2.1, true) else none) else rec0 ((IntKind.i64.wrap (p.1 + (1 : Int))), p.2.1, p.2.2.1, p.2.2.2.1, p.2.2.2.2.1, p.2.2.2.2.2.1, p.2.2.2.2.2.2.1, p.2.2.2.2.2.2.2.1, p.2.2.2.2.2.2.2.2.1, p.2.2.2.2.2.2.2.2.2.1, p.2.2.2.2.2.2.2.2.2.2.1, p.2.2.2.2.2.2.2.2.2.2.2.1, p.2.2.2.2.2.2.2.2.2.2.2.2)) else none) else some ((0 : Int), ([] : List (ByteArray)), false, false))
def spec_Agree.l0 (k : Nat) : Nat → (Int × (List (ByteArray)) × (List (ByteArray)) × Int × Bool × Int × Bool × Int × Bool × Int × Bool × (List (ByteArray)) × (List (ByteArray))) → Option (Int × (List (ByteArray)) × Bool × Bool)
  | 0 => fun _ => none
  | j + 1 => spec_Agree.s0 k (spec_Agree.l0 k j)
def spec_Agree.S0 (p : (Int × (List (ByteArray)) × (List (ByteArray)) × Int × Bool × Int × Bool × Int × Bool × Int × Bool × (List (ByteArray)) × (List (ByteArray)))) : DS := ⟨tl [(2, .at (.bptr 32 0)), (3, .at (.bptr 48 0)), (4, .at (.bptr 64 0)), (6, .at (.bptr 96 0)), (7, .at (.int .i64 p.1))], lookO [(1, .row 9 .str false p.2.1), (17, .row 9 .str false p.2.2.1), (32, .box 28 [.int .i64 p.2.2.2.1, .whole 1, .bool p.2.2.2.2.1]), (48, .box 28 [.int .i64 p.2.2.2.2.2.1, .whole 17, .bool p.2.2.2.2.2.2.1]), (64, .box 28 [.int .i64 p.2.2.2.2.2.2.2.1, .whole 928, .bool p.2.2.2.2.2.2.2.2.1]), (96, .box 28 [.int .i64 p.2.2.2.2.2.2.2.2.2.1, .whole 929, .bool p.2.2.2.2.2.2.2.2.2.2.1]), (928, .row 9 .str true p.2.2.2.2.2.2.2.2.2.2.2.1), (929, .row 9 .str true p.2.2.2.2.2.2.2.2.2.2.2.2)]⟩
noncomputable def spec_Agree.D0 (k : Nat) (j : Nat) (p : (Int × (List (ByteArray)) × (List (ByteArray)) × Int × Bool × Int × Bool × Int × Bool × Int × Bool × (List (ByteArray)) × (List (ByteArray)))) : Option (Int × (List (ByteArray)) × Bool × Bool) := loopK (norm [1, 17] (spec_Agree.h 0)) (runK spec_Agree.x k 0 [1, 17] spec_Agree.h 0 (sub spec_Agree.c [1, 1, 1, 1, 0, 1, 0, 0])) j (spec_Agree.S0 p) (kBlk 0 (kSeq (runK spec_Agree.x k 0 [1, 17] spec_Agree.h 0 (sub spec_Agree.c [1, 1, 1, 1, 1])) (fin tt spec_Agree.ps spec_Agree.rs spec_Agree.vs (.two (.int .i64) (.two (.sl 9 .str) (.two .bool .bool))))))
theorem spec_Agree.D0_eq (k : Nat) : ∀ j, spec_Agree.D0 k j = spec_Agree.l0 k j := by
  intro j
  induction j with
  | zero => rfl
  | succ j ih =>
    show _ = spec_Agree.s0 k (spec_Agree.l0 k j)
    rw [← ih]
    funext p
    kernel_rfl
def spec_Agree.f (k : Nat) (a0_0 : Int) (a0_1 : List (ByteArray)) (a0_2 : Bool) (a1_0 : Int) (a1_1 : List (ByteArray)) (a1_2 : Bool) : Option (Int × (List (ByteArray)) × Bool × Bool) :=
  (spec_OptionsOk.f k a0_0 a0_1 a0_2).bind fun r1 => (bif (!r1) then some ((0 : Int), ([] : List (ByteArray)), false, false) else (spec_OptionsOk.f k a1_0 a1_1 a1_2).bind fun r2 => (bif (!r2) then some ((0 : Int), ([] : List (ByteArray)), false, false) else (bif a0_2 then (bif (decide (a1_0 < a0_0)) then spec_Agree.l0 k k ((0 : Int), a0_1, a1_1, a0_0, a0_2, a1_0, a1_2, (0 : Int), false, a1_0, a1_2, ([] : List (ByteArray)), ([] : List (ByteArray))) else spec_Agree.l0 k k ((0 : Int), a0_1, a1_1, a0_0, a0_2, a1_0, a1_2, (0 : Int), false, a0_0, a1_2, ([] : List (ByteArray)), ([] : List (ByteArray)))) else (bif (decide (a1_0 < a0_0)) then spec_Agree.l0 k k ((0 : Int), a0_1, a1_1, a0_0, a0_2, a1_0, a1_2, (0 : Int), false, a1_0, false, ([] : List (ByteArray)), ([] : List (ByteArray))) else spec_Agree.l0 k k ((0 : Int), a0_1, a1_1, a0_0, a0_2, a1_0, a1_2, (0 : Int), false, a0_0, false, ([] : List (ByteArray)), ([] : List (ByteArray)))))))
def spec_Agree.K : Ctr := ⟨spec_Agree.ps, spec_Agree.rs, false, (.two (.int .i64) (.two (.sl 9 .str) (.two .bool (.two (.int .i64) (.two (.sl 9 .str) .bool))))), (.two (.int .i64) (.two (.sl 9 .str) (.two .bool .bool))), fun k x => spec_Agree.f k x.1 x.2.1 x.2.2.1 x.2.2.2.1 x.2.2.2.2.1 x.2.2.2.2.2⟩
theorem spec_Agree.eq (k : Nat) (x : (spec_Agree.K.I).den) : func spec_Agree.x spec_Agree.h spec_Agree.ps spec_Agree.rs spec_Agree.vs spec_Agree.K.I spec_Agree.K.O spec_Agree.c k x = spec_Agree.K.run k x := by
  show _ = spec_Agree.f k x.1 x.2.1 x.2.2.1 x.2.2.2.1 x.2.2.2.2.1 x.2.2.2.2.2
  unfold spec_Agree.f
  rw [← spec_Agree.D0_eq k k]
  kernel_rfl
theorem spec_Agree.ok : CtrOk Tryd.prog 18 spec_Agree.K :=
  CtrOk.of (fn := Tryd.f18) (cd := spec_Agree.c) (cx := spec_Agree.x) (hs := spec_Agree.h) (by kernel_rfl) (by kernel_rfl) (by kernel_rfl) (by kernel_rfl) tt_ok (envOk_cons spec_OptionsOk.ok (envOk_cons spec_l15Has.ok (envOk_nil))) (by kernel_rfl) (by kernel_rfl) (by kernel_rfl) (by kernel_rfl) fun k x r h => (spec_Agree.eq k x).trans h
/-! laws.sameTexts -/
noncomputable def laws_sameTexts.c : Code := bodyOf Tryd.f19
def laws_sameTexts.h : Nat → Hint := look ⟨[], [], []⟩ [(0, ⟨[0, 1, 5], [], []⟩)]
def laws_sameTexts.ps : List PK := [.one, .one]
def laws_sameTexts.rs : List RK := [.one true]
def laws_sameTexts.vs : List ResultVar := [.tmp 4]
def laws_sameTexts.x : Cx := ⟨tt, look none []⟩
def laws_sameTexts.s0 (_k : Nat) (rec0 : (Int × (List (ByteArray)) × (List (ByteArray))) → Option (Bool)) (p : (Int × (List (ByteArray)) × (List (ByteArray)))) : Option (Bool) :=
  (bif (decide (p.1 < (p.2.1.length : Int))) then (bif ((decide ((0 : Int) ≤ p.1)) && (decide (p.1 < (p.2.1.length : Int)))) then (p.2.1[p.1.toNat]?).bind fun x1 => (bif ((decide ((0 : Int) ≤ p.1)) && (decide (p.1 < (p.2.2.length : Int)))) then (p.2.2[p.1.toNat]?).bind fun x2 => (bif (!(x1.toList == x2.toList)) then some false else rec0 ((IntKind.i64.wrap (p.1 + (1 : Int))), p.2.1, p.2.2)) else none) else none) else some true)
def laws_sameTexts.l0 (k : Nat) : Nat → (Int × (List (ByteArray)) × (List (ByteArray))) → Option (Bool)
  | 0 => fun _ => none
  | j + 1 => laws_sameTexts.s0 k (laws_sameTexts.l0 k j)
def laws_sameTexts.S0 (p : (Int × (List (ByteArray)) × (List (ByteArray)))) : DS := ⟨tl [(0, .at (.whole 0)), (1, .at (.whole 16)), (5, .at (.int .i64 p.1))], lookO [(0, .row 9 .str false p.2.1), (16, .row 9 .str false p.2.2)]⟩
noncomputable def laws_sameTexts.D0 (k : Nat) (j : Nat) (p : (Int × (List (ByteArray)) × (List (ByteArray)))) : Option (Bool) := loopK (norm [0, 16] (laws_sameTexts.h 0)) (runK laws_sameTexts.x k 0 [0, 16] laws_sameTexts.h 0 (sub laws_sameTexts.c [1, 1, 0, 1, 0, 0])) j (laws_sameTexts.S0 p) (kBlk 0 (kSeq (runK laws_sameTexts.x k 0 [0, 16] laws_sameTexts.h 0 (sub laws_sameTexts.c [1, 1, 1])) (fin tt laws_sameTexts.ps laws_sameTexts.rs laws_sameTexts.vs .bool)))
theorem laws_sameTexts.D0_eq (k : Nat) : ∀ j, laws_sameTexts.D0 k j = laws_sameTexts.l0 k j := by
  intro j
  induction j with
  | zero => rfl
  | succ j ih =>
    show _ = laws_sameTexts.s0 k (laws_sameTexts.l0 k j)
    rw [← ih]
    funext p
    kernel_rfl
def laws_sameTexts.f (k : Nat) (a0 : List (ByteArray)) (a1 : List (ByteArray)) : Option (Bool) :=
  (bif ((a0.length : Int) != (a1.length : Int)) then some false else laws_sameTexts.l0 k k ((0 : Int), a0, a1))
def laws_sameTexts.K : Ctr := ⟨laws_sameTexts.ps, laws_sameTexts.rs, false, (.two (.sl 9 .str) (.sl 9 .str)), .bool, fun k x => laws_sameTexts.f k x.1 x.2⟩
theorem laws_sameTexts.eq (k : Nat) (x : (laws_sameTexts.K.I).den) : func laws_sameTexts.x laws_sameTexts.h laws_sameTexts.ps laws_sameTexts.rs laws_sameTexts.vs laws_sameTexts.K.I laws_sameTexts.K.O laws_sameTexts.c k x = laws_sameTexts.K.run k x := by
  show _ = laws_sameTexts.f k x.1 x.2
  unfold laws_sameTexts.f
  rw [← laws_sameTexts.D0_eq k k]
  kernel_rfl
theorem laws_sameTexts.ok : CtrOk Tryd.prog 19 laws_sameTexts.K :=
  CtrOk.of (fn := Tryd.f19) (cd := laws_sameTexts.c) (cx := laws_sameTexts.x) (hs := laws_sameTexts.h) (by kernel_rfl) (by kernel_rfl) (by kernel_rfl) (by kernel_rfl) tt_ok (envOk_nil) (by kernel_rfl) (by kernel_rfl) (by kernel_rfl) (by kernel_rfl) fun k x r h => (laws_sameTexts.eq k x).trans h
/-! spec.l01PickInt -/
noncomputable def spec_l01PickInt.c : Code := bodyOf Tryd.f63
def spec_l01PickInt.h : Nat → Hint := look ⟨[], [], []⟩ []
def spec_l01PickInt.ps : List PK := [.box 76 3, .one]
def spec_l01PickInt.rs : List RK := [.one true]
def spec_l01PickInt.vs : List ResultVar := [.tmp 4]
def spec_l01PickInt.x : Cx := ⟨tt, look none [(43, some spec_l01Below.K)]⟩
def spec_l01PickInt.f (k : Nat) (a0_0 : List (Int)) (a0_1 : Int) (a0_2 : Int) (a1 : List (Int)) : Option (Int × (List (Int)) × Int × Int) :=
  (spec_l01Below.f k a0_0 a0_1 a0_2 (a1.length : Int)).bind fun r1 => (bif ((decide ((0 : Int) ≤ r1.1)) && (decide (r1.1 < (a1.length : Int)))) then (a1[r1.1.toNat]?).bind fun x2 => some (x2, r1.2.1, r1.2.2.1, r1.2.2.2) else none)
def spec_l01PickInt.K : Ctr := ⟨spec_l01PickInt.ps, spec_l01PickInt.rs, true, (.two (.sl 5 (.int .u8)) (.two (.int .i64) (.two (.int .i64) (.sl 3 (.int .i64))))), (.two (.int .i64) (.two (.sl 5 (.int .u8)) (.two (.int .i64) (.int .i64)))), fun k x => spec_l01PickInt.f k x.1 x.2.1 x.2.2.1 x.2.2.2⟩
theorem spec_l01PickInt.eq (k : Nat) (x : (spec_l01PickInt.K.I).den) : func spec_l01PickInt.x spec_l01PickInt.h spec_l01PickInt.ps spec_l01PickInt.rs spec_l01PickInt.vs spec_l01PickInt.K.I spec_l01PickInt.K.O spec_l01PickInt.c k x = spec_l01PickInt.K.run k x := by
  show _ = spec_l01PickInt.f k x.1 x.2.1 x.2.2.1 x.2.2.2
  kernel_rfl
theorem spec_l01PickInt.ok : CtrOk Tryd.prog 63 spec_l01PickInt.K :=
  CtrOk.of (fn := Tryd.f63) (cd := spec_l01PickInt.c) (cx := spec_l01PickInt.x) (hs := spec_l01PickInt.h) (by kernel_rfl) (by kernel_rfl) (by kernel_rfl) (by kernel_rfl) tt_ok (envOk_cons spec_l01Below.ok (envOk_nil)) (by kernel_rfl) (by kernel_rfl) (by kernel_rfl) (by kernel_rfl) fun k x r h => (spec_l01PickInt.eq k x).trans h
/-! spec.l15Any -/
noncomputable def spec_l15Any.c : Code := bodyOf Tryd.f42
def spec_l15Any.h : Nat → Hint := look ⟨[], [], []⟩ []
def spec_l15Any.ps : List PK := [.box 76 3]
def spec_l15Any.rs : List RK := [.agg 3 true]
def spec_l15Any.vs : List ResultVar := [.cell 2 28]
def spec_l15Any.x : Cx := ⟨tt, look none [(39, some spec_l15Options.K), (43, some spec_l01Below.K), (63, some spec_l01PickInt.K), (44, some spec_l01Pick.K)]⟩
def spec_l15Any.f (k : Nat) (a0_0 : List (Int)) (a0_1 : Int) (a0_2 : Int) : Option (Int × (List (ByteArray)) × Bool × (List (Int)) × Int × Int) :=
  (spec_l15Options.f k a0_0 a0_1 a0_2).bind fun r1 => (spec_l01Below.f k r1.2.2.2.1 r1.2.2.2.2.1 r1.2.2.2.2.2 (12 : Int)).bind fun r2 => (bif (r2.1 == (0 : Int)) then (spec_l01PickInt.f k r2.2.1 r2.2.2.1 r2.2.2.2 [(19 : Int), (20 : Int), (60 : Int), (61 : Int)]).bind fun r3 => some (r3.1, r1.2.1, r1.2.2.1, r3.2.1, r3.2.2.1, r3.2.2.2) else (bif (r2.1 == (1 : Int)) then (spec_l01Pick.f k r2.2.1 r2.2.2.1 r2.2.2.2 [ByteArray.empty, (⟨#[65]⟩ : ByteArray), (⟨#[97, 49]⟩ : ByteArray), (⟨#[97, 98, 99, 100, 101, 102, 103, 104, 105]⟩ : ByteArray)]).bind fun r4 => (bif decide ((r1.2.1.length + [r4.1].length) * 16 ≤ 140737488355328) then some (r1.1, (r1.2.1 ++ [r4.1]), r1.2.2.1, r4.2.1, r4.2.2.1, r4.2.2.2) else none) else (bif (r2.1 == (2 : Int)) then some (r1.1, ([] : List (ByteArray)), r1.2.2.1, r2.2.1, r2.2.2.1, r2.2.2.2) else some (r1.1, r1.2.1, r1.2.2.1, r2.2.1, r2.2.2.1, r2.2.2.2))))
def spec_l15Any.K : Ctr := ⟨spec_l15Any.ps, spec_l15Any.rs, true, (.two (.sl 5 (.int .u8)) (.two (.int .i64) (.int .i64))), (.two (.int .i64) (.two (.sl 9 .str) (.two .bool (.two (.sl 5 (.int .u8)) (.two (.int .i64) (.int .i64)))))), fun k x => spec_l15Any.f k x.1 x.2.1 x.2.2⟩
theorem spec_l15Any.eq (k : Nat) (x : (spec_l15Any.K.I).den) : func spec_l15Any.x spec_l15Any.h spec_l15Any.ps spec_l15Any.rs spec_l15Any.vs spec_l15Any.K.I spec_l15Any.K.O spec_l15Any.c k x = spec_l15Any.K.run k x := by
  show _ = spec_l15Any.f k x.1 x.2.1 x.2.2
  kernel_rfl
theorem spec_l15Any.ok : CtrOk Tryd.prog 42 spec_l15Any.K :=
  CtrOk.of (fn := Tryd.f42) (cd := spec_l15Any.c) (cx := spec_l15Any.x) (hs := spec_l15Any.h) (by kernel_rfl) (by kernel_rfl) (by kernel_rfl) (by kernel_rfl) tt_ok (envOk_cons spec_l15Options.ok (envOk_cons spec_l01Below.ok (envOk_cons spec_l01PickInt.ok (envOk_cons spec_l01Pick.ok (envOk_nil))))) (by kernel_rfl) (by kernel_rfl) (by kernel_rfl) (by kernel_rfl) fun k x r h => (spec_l15Any.eq k x).trans h
/-! spec.l01Figure -/
noncomputable def spec_l01Figure.c : Code := bodyOf Tryd.f50
def spec_l01Figure.h : Nat → Hint := look ⟨[], [], []⟩ []
def spec_l01Figure.ps : List PK := [.one]
def spec_l01Figure.rs : List RK := [.one true]
def spec_l01Figure.vs : List ResultVar := [.tmp 2]
def spec_l01Figure.x : Cx := ⟨tt, look none []⟩
def spec_l01Figure.f (_k : Nat) (a0 : Int) : Option (Int) :=
  (bif (decide (a0 < (10 : Int))) then some (IntKind.u8.wrap (IntKind.i64.wrap ((48 : Int) + a0))) else some (IntKind.u8.wrap (IntKind.i64.wrap ((IntKind.i64.wrap ((97 : Int) + a0)) - (10 : Int)))))
def spec_l01Figure.K : Ctr := ⟨spec_l01Figure.ps, spec_l01Figure.rs, false, (.int .i64), (.int .u8), fun k x => spec_l01Figure.f k x⟩
theorem spec_l01Figure.eq (k : Nat) (x : (spec_l01Figure.K.I).den) : func spec_l01Figure.x spec_l01Figure.h spec_l01Figure.ps spec_l01Figure.rs spec_l01Figure.vs spec_l01Figure.K.I spec_l01Figure.K.O spec_l01Figure.c k x = spec_l01Figure.K.run k x := by
  show _ = spec_l01Figure.f k x
  kernel_rfl
theorem spec_l01Figure.ok : CtrOk Tryd.prog 50 spec_l01Figure.K :=
  CtrOk.of (fn := Tryd.f50) (cd := spec_l01Figure.c) (cx := spec_l01Figure.x) (hs := spec_l01Figure.h) (by kernel_rfl) (by kernel_rfl) (by kernel_rfl) (by kernel_rfl) tt_ok (envOk_nil) (by kernel_rfl) (by kernel_rfl) (by kernel_rfl) (by kernel_rfl) fun k x r h => (spec_l01Figure.eq k x).trans h
/-! spec.Decimal -/
noncomputable def spec_Decimal.c : Code := bodyOf Tryd.f24
def spec_Decimal.h : Nat → Hint := look ⟨[], [], []⟩ [(0, ⟨[0, 3, 4], [], []⟩)]
def spec_Decimal.ps : List PK := [.one]
def spec_Decimal.rs : List RK := [.one true]
def spec_Decimal.vs : List ResultVar := [.tmp 2]
def spec_Decimal.x : Cx := ⟨tt, look none [(50, some spec_l01Figure.K)]⟩
def spec_Decimal.s0 (k : Nat) (rec0 : (Int × Bool × ByteArray) → Option (ByteArray)) (p : (Int × Bool × ByteArray)) : Option (ByteArray) :=
  (bif (p.1 != (0 : Int)) then (bif (decide ((p.1.tmod (10 : Int)) < (0 : Int))) then (spec_l01Figure.f k (IntKind.i64.wrap (0 - (p.1.tmod (10 : Int))))).bind fun r1 => (bif decide ((strOfNums [r1]).size + p.2.2.size ≤ 140737488351232) then rec0 ((IntKind.i64.wrap (p.1.tdiv (10 : Int))), p.2.1, ((strOfNums [r1]) ++ p.2.2)) else none) else (spec_l01Figure.f k (p.1.tmod (10 : Int))).bind fun r2 => (bif decide ((strOfNums [r2]).size + p.2.2.size ≤ 140737488351232) then rec0 ((IntKind.i64.wrap (p.1.tdiv (10 : Int))), p.2.1, ((strOfNums [r2]) ++ p.2.2)) else none)) else (bif p.2.1 then (bif decide ((⟨#[45]⟩ : ByteArray).size + p.2.2.size ≤ 140737488351232) then some ((⟨#[45]⟩ : ByteArray) ++ p.2.2) else none) else some p.2.2))
def spec_Decimal.l0 (k : Nat) : Nat → (Int × Bool × ByteArray) → Option (ByteArray)
  | 0 => fun _ => none
  | j + 1 => spec_Decimal.s0 k (spec_Decimal.l0 k j)
def spec_Decimal.S0 (p : (Int × Bool × ByteArray)) : DS := ⟨tl [(0, .at (.int .i64 p.1)), (3, .at (.bool p.2.1)), (4, .at (.str p.2.2))], lookO []⟩
noncomputable def spec_Decimal.D0 (k : Nat) (j : Nat) (p : (Int × Bool × ByteArray)) : Option (ByteArray) := loopK (norm [] (spec_Decimal.h 0)) (runK spec_Decimal.x k 0 [] spec_Decimal.h 0 (sub spec_Decimal.c [1, 1, 1, 1, 0, 0, 0])) j (spec_Decimal.S0 p) (kBlk 0 (kSeq (runK spec_Decimal.x k 0 [] spec_Decimal.h 0 (sub spec_Decimal.c [1, 1, 1, 1, 1])) (fin tt spec_Decimal.ps spec_Decimal.rs spec_Decimal.vs .str)))
theorem spec_Decimal.D0_eq (k : Nat) : ∀ j, spec_Decimal.D0 k j = spec_Decimal.l0 k j := by
  intro j
  induction j with
  | zero => rfl
  | succ j ih =>
    show _ = spec_Decimal.s0 k (spec_Decimal.l0 k j)
    rw [← ih]
    funext p
    kernel_rfl
def spec_Decimal.f (k : Nat) (a0 : Int) : Option (ByteArray) :=
  (bif (a0 == (0 : Int)) then some (⟨#[48]⟩ : ByteArray) else spec_Decimal.l0 k k (a0, (decide (a0 < (0 : Int))), ByteArray.empty))
def spec_Decimal.K : Ctr := ⟨spec_Decimal.ps, spec_Decimal.rs, false, (.int .i64), .str, fun k x => spec_Decimal.f k x⟩
theorem spec_Decimal.eq (k : Nat) (x : (spec_Decimal.K.I).den) : func spec_Decimal.x spec_Decimal.h spec_Decimal.ps spec_Decimal.rs spec_Decimal.vs spec_Decimal.K.I spec_Decimal.K.O spec_Decimal.c k x = spec_Decimal.K.run k x := by
  show _ = spec_Decimal.f k x
  unfold spec_Decimal.f
  rw [← spec_Decimal.D0_eq k k]
  kernel_rfl
theorem spec_Decimal.ok : CtrOk Tryd.prog 24 spec_Decimal.K :=
  CtrOk.of (fn := Tryd.f24) (cd := spec_Decimal.c) (cx := spec_Decimal.x) (hs := spec_Decimal.h) (by kernel_rfl) (by kernel_rfl) (by kernel_rfl) (by kernel_rfl) tt_ok (envOk_cons spec_l01Figure.ok (envOk_nil)) (by kernel_rfl) (by kernel_rfl) (by kernel_rfl) (by kernel_rfl) fun k x r h => (spec_Decimal.eq k x).trans h
end Go.Proofs.YtfaeklomiofpdaaDoor.DI
