/- FnAddrs: functions as plain Lean, in the machine of values. -/
import Derived.Test.YtpheniajdbbphaaDoorVFnAddrs1
namespace Go.Proofs.YtpheniajdbbphaaDoor.DI
open Go
set_option linter.unusedVariables false
/-! impl.ReadPrefix -/
noncomputable def impl_ReadPrefix.c : Code := bodyOf Tryd.f9
def impl_ReadPrefix.h : Nat → Hint := look ⟨[], [], []⟩ []
def impl_ReadPrefix.ps : List PK := [.one]
def impl_ReadPrefix.rs : List RK := [.agg 2 true, .one true]
def impl_ReadPrefix.vs : List ResultVar := [.cell 2 26, .tmp 3]
def impl_ReadPrefix.x : Cx := ⟨tt, look none [(27, some strings_Cut.K), (11, some impl_ReadAddr.K), (28, some impl_ReadDecimal.K), (10, some impl_PrefixOk.K)]⟩
def impl_ReadPrefix.f (k : Nat) (a0 : ByteArray) : Option (Int × Int × Bool) :=
  (strings_Cut.f k a0 (⟨#[47]⟩ : ByteArray)).bind fun r1 => (impl_ReadAddr.f k r1.1).bind fun r2 => (impl_ReadDecimal.f k r1.2.1).bind fun r3 => (bif (!r2.2) then some ((0 : Int), (0 : Int), false) else (bif (!r3.2) then some ((0 : Int), (0 : Int), false) else (impl_PrefixOk.f k r2.1 r3.1).bind fun r4 => (bif (!r4) then some ((0 : Int), (0 : Int), false) else some (r2.1, r3.1, true))))
def impl_ReadPrefix.K : Ctr := ⟨impl_ReadPrefix.ps, impl_ReadPrefix.rs, false, .str, (.two (.int .i64) (.two (.int .i64) .bool)), fun k x => impl_ReadPrefix.f k x⟩
theorem impl_ReadPrefix.eq (k : Nat) (x : (impl_ReadPrefix.K.I).den) : func impl_ReadPrefix.x impl_ReadPrefix.h impl_ReadPrefix.ps impl_ReadPrefix.rs impl_ReadPrefix.vs impl_ReadPrefix.K.I impl_ReadPrefix.K.O impl_ReadPrefix.c k x = impl_ReadPrefix.K.run k x := by
  show _ = impl_ReadPrefix.f k x
  kernel_rfl
theorem impl_ReadPrefix.ok : CtrOk Tryd.prog 9 impl_ReadPrefix.K :=
  CtrOk.of (fn := Tryd.f9) (cd := impl_ReadPrefix.c) (cx := impl_ReadPrefix.x) (hs := impl_ReadPrefix.h) (by kernel_rfl) (by kernel_rfl) (by kernel_rfl) (by kernel_rfl) tt_ok (envOk_cons strings_Cut.ok (envOk_cons impl_ReadAddr.ok (envOk_cons impl_ReadDecimal.ok (envOk_cons impl_PrefixOk.ok (envOk_nil))))) (by kernel_rfl) (by kernel_rfl) (by kernel_rfl) (by kernel_rfl) fun k x r h => (impl_ReadPrefix.eq k x).trans h
/-! impl.PrefixOf -/
noncomputable def impl_PrefixOf.c : Code := bodyOf Tryd.f13
def impl_PrefixOf.h : Nat → Hint := look ⟨[], [], []⟩ []
def impl_PrefixOf.ps : List PK := [.one, .one]
def impl_PrefixOf.rs : List RK := [.agg 2 true, .one true]
def impl_PrefixOf.vs : List ResultVar := [.cell 4 26, .tmp 5]
def impl_PrefixOf.x : Cx := ⟨tt, look none [(16, some impl_AddrOk.K), (29, some impl_within.K), (30, some impl_lastBits.K)]⟩
def impl_PrefixOf.f (k : Nat) (a0 : Int) (a1 : Int) : Option (Int × Int × Bool) :=
  (impl_AddrOk.f k a0).bind fun r1 => (bif (!r1) then some ((0 : Int), (0 : Int), false) else (impl_within.f k a1 (0 : Int) (32 : Int)).bind fun r2 => (bif (!r2) then some ((0 : Int), (0 : Int), false) else (impl_lastBits.f k a1).bind fun r3 => some ((IntKind.i64.wrap (((BitVec.ofInt IntKind.i64.bits a0) &&& ~~~(BitVec.ofInt IntKind.i64.bits r3)).toNat : Int)), a1, true)))
def impl_PrefixOf.K : Ctr := ⟨impl_PrefixOf.ps, impl_PrefixOf.rs, false, (.two (.int .i64) (.int .i64)), (.two (.int .i64) (.two (.int .i64) .bool)), fun k x => impl_PrefixOf.f k x.1 x.2⟩
theorem impl_PrefixOf.eq (k : Nat) (x : (impl_PrefixOf.K.I).den) : func impl_PrefixOf.x impl_PrefixOf.h impl_PrefixOf.ps impl_PrefixOf.rs impl_PrefixOf.vs impl_PrefixOf.K.I impl_PrefixOf.K.O impl_PrefixOf.c k x = impl_PrefixOf.K.run k x := by
  show _ = impl_PrefixOf.f k x.1 x.2
  kernel_rfl
theorem impl_PrefixOf.ok : CtrOk Tryd.prog 13 impl_PrefixOf.K :=
  CtrOk.of (fn := Tryd.f13) (cd := impl_PrefixOf.c) (cx := impl_PrefixOf.x) (hs := impl_PrefixOf.h) (by kernel_rfl) (by kernel_rfl) (by kernel_rfl) (by kernel_rfl) tt_ok (envOk_cons impl_AddrOk.ok (envOk_cons impl_within.ok (envOk_cons impl_lastBits.ok (envOk_nil)))) (by kernel_rfl) (by kernel_rfl) (by kernel_rfl) (by kernel_rfl) fun k x r h => (impl_PrefixOf.eq k x).trans h
/-! impl.InPrefix -/
noncomputable def impl_InPrefix.c : Code := bodyOf Tryd.f14
def impl_InPrefix.h : Nat → Hint := look ⟨[], [], []⟩ []
def impl_InPrefix.ps : List PK := [.agg 2, .one]
def impl_InPrefix.rs : List RK := [.one true]
def impl_InPrefix.vs : List ResultVar := [.tmp 4]
def impl_InPrefix.x : Cx := ⟨tt, look none [(10, some impl_PrefixOk.K), (16, some impl_AddrOk.K), (30, some impl_lastBits.K)]⟩
def impl_InPrefix.f (k : Nat) (a0_0 : Int) (a0_1 : Int) (a1 : Int) : Option (Bool) :=
  (impl_PrefixOk.f k a0_0 a0_1).bind fun r1 => (bif r1 then (impl_AddrOk.f k a1).bind fun r2 => (bif r2 then (impl_lastBits.f k a0_1).bind fun r3 => some ((IntKind.i64.wrap (((BitVec.ofInt IntKind.i64.bits a1) &&& ~~~(BitVec.ofInt IntKind.i64.bits r3)).toNat : Int)) == a0_0) else some false) else some false)
def impl_InPrefix.K : Ctr := ⟨impl_InPrefix.ps, impl_InPrefix.rs, false, (.two (.int .i64) (.two (.int .i64) (.int .i64))), .bool, fun k x => impl_InPrefix.f k x.1 x.2.1 x.2.2⟩
theorem impl_InPrefix.eq (k : Nat) (x : (impl_InPrefix.K.I).den) : func impl_InPrefix.x impl_InPrefix.h impl_InPrefix.ps impl_InPrefix.rs impl_InPrefix.vs impl_InPrefix.K.I impl_InPrefix.K.O impl_InPrefix.c k x = impl_InPrefix.K.run k x := by
  show _ = impl_InPrefix.f k x.1 x.2.1 x.2.2
  kernel_rfl
theorem impl_InPrefix.ok : CtrOk Tryd.prog 14 impl_InPrefix.K :=
  CtrOk.of (fn := Tryd.f14) (cd := impl_InPrefix.c) (cx := impl_InPrefix.x) (hs := impl_InPrefix.h) (by kernel_rfl) (by kernel_rfl) (by kernel_rfl) (by kernel_rfl) tt_ok (envOk_cons impl_PrefixOk.ok (envOk_cons impl_AddrOk.ok (envOk_cons impl_lastBits.ok (envOk_nil)))) (by kernel_rfl) (by kernel_rfl) (by kernel_rfl) (by kernel_rfl) fun k x r h => (impl_InPrefix.eq k x).trans h
/-! spec.PrefixOk -/
noncomputable def spec_PrefixOk.c : Code := bodyOf Tryd.f22
def spec_PrefixOk.h : Nat → Hint := look ⟨[], [], []⟩ []
def spec_PrefixOk.ps : List PK := [.agg 2]
def spec_PrefixOk.rs : List RK := [.one true]
def spec_PrefixOk.vs : List ResultVar := [.tmp 2]
def spec_PrefixOk.x : Cx := ⟨tt, look none [(32, some spec_AddrOk.K), (42, some spec_l01In.K), (33, some spec_l08Size.K)]⟩
def spec_PrefixOk.f (k : Nat) (a0_0 : Int) (a0_1 : Int) : Option (Bool) :=
  (spec_AddrOk.f k a0_0).bind fun r1 => (bif r1 then (spec_l01In.f k a0_1 (0 : Int) (32 : Int)).bind fun r2 => (bif r2 then (spec_l08Size.f k a0_1).bind fun r3 => (bif (r3 == 0) then none else some ((a0_0.tmod r3) == (0 : Int))) else some false) else some false)
def spec_PrefixOk.K : Ctr := ⟨spec_PrefixOk.ps, spec_PrefixOk.rs, false, (.two (.int .i64) (.int .i64)), .bool, fun k x => spec_PrefixOk.f k x.1 x.2⟩
theorem spec_PrefixOk.eq (k : Nat) (x : (spec_PrefixOk.K.I).den) : func spec_PrefixOk.x spec_PrefixOk.h spec_PrefixOk.ps spec_PrefixOk.rs spec_PrefixOk.vs spec_PrefixOk.K.I spec_PrefixOk.K.O spec_PrefixOk.c k x = spec_PrefixOk.K.run k x := by
  show _ = spec_PrefixOk.f k x.1 x.2
  kernel_rfl
theorem spec_PrefixOk.ok : CtrOk Tryd.prog 22 spec_PrefixOk.K :=
  CtrOk.of (fn := Tryd.f22) (cd := spec_PrefixOk.c) (cx := spec_PrefixOk.x) (hs := spec_PrefixOk.h) (by kernel_rfl) (by kernel_rfl) (by kernel_rfl) (by kernel_rfl) tt_ok (envOk_cons spec_AddrOk.ok (envOk_cons spec_l01In.ok (envOk_cons spec_l08Size.ok (envOk_nil)))) (by kernel_rfl) (by kernel_rfl) (by kernel_rfl) (by kernel_rfl) fun k x r h => (spec_PrefixOk.eq k x).trans h
/-! spec.InPrefix -/
noncomputable def spec_InPrefix.c : Code := bodyOf Tryd.f15
def spec_InPrefix.h : Nat → Hint := look ⟨[], [], []⟩ []
def spec_InPrefix.ps : List PK := [.agg 2, .one]
def spec_InPrefix.rs : List RK := [.one true]
def spec_InPrefix.vs : List ResultVar := [.tmp 4]
def spec_InPrefix.x : Cx := ⟨tt, look none [(22, some spec_PrefixOk.K), (32, some spec_AddrOk.K), (33, some spec_l08Size.K)]⟩
def spec_InPrefix.f (k : Nat) (a0_0 : Int) (a0_1 : Int) (a1 : Int) : Option (Bool) :=
  (spec_PrefixOk.f k a0_0 a0_1).bind fun r1 => (bif r1 then (spec_AddrOk.f k a1).bind fun r2 => (bif r2 then (spec_l08Size.f k a0_1).bind fun r3 => (bif (r3 == 0) then none else some ((IntKind.i64.wrap (a1 - (a1.tmod r3))) == a0_0)) else some false) else some false)
def spec_InPrefix.K : Ctr := ⟨spec_InPrefix.ps, spec_InPrefix.rs, false, (.two (.int .i64) (.two (.int .i64) (.int .i64))), .bool, fun k x => spec_InPrefix.f k x.1 x.2.1 x.2.2⟩
theorem spec_InPrefix.eq (k : Nat) (x : (spec_InPrefix.K.I).den) : func spec_InPrefix.x spec_InPrefix.h spec_InPrefix.ps spec_InPrefix.rs spec_InPrefix.vs spec_InPrefix.K.I spec_InPrefix.K.O spec_InPrefix.c k x = spec_InPrefix.K.run k x := by
  show _ = spec_InPrefix.f k x.1 x.2.1 x.2.2
  kernel_rfl
theorem spec_InPrefix.ok : CtrOk Tryd.prog 15 spec_InPrefix.K :=
  CtrOk.of (fn := Tryd.f15) (cd := spec_InPrefix.c) (cx := spec_InPrefix.x) (hs := spec_InPrefix.h) (by kernel_rfl) (by kernel_rfl) (by kernel_rfl) (by kernel_rfl) tt_ok (envOk_cons spec_PrefixOk.ok (envOk_cons spec_AddrOk.ok (envOk_cons spec_l08Size.ok (envOk_nil)))) (by kernel_rfl) (by kernel_rfl) (by kernel_rfl) (by kernel_rfl) fun k x r h => (spec_InPrefix.eq k x).trans h
/-! laws.FnAddrs -/
noncomputable def laws_FnAddrs.c : Code := bodyOf Tryd.f3
def laws_FnAddrs.h : Nat → Hint := look ⟨[], [], []⟩ [(0, ⟨[3, 4, 9], [64], [(.t 3, 1936, 3, (.int .i64))]⟩)]
def laws_FnAddrs.ps : List PK := [.one]
def laws_FnAddrs.rs : List RK := [.one true]
def laws_FnAddrs.vs : List ResultVar := [.tmp 2]
def laws_FnAddrs.x : Cx := ⟨tt, look none [(6, some laws_big.K), (7, some spec_DrawAddrs.K), (8, some impl_PrefixText.K), (9, some impl_ReadPrefix.K), (10, some impl_PrefixOk.K), (12, some impl_AddrText.K), (11, some impl_ReadAddr.K), (13, some impl_PrefixOf.K), (14, some impl_InPrefix.K), (15, some spec_InPrefix.K), (16, some impl_AddrOk.K)]⟩
def laws_FnAddrs.s0 (k : Nat) (rec0 : (Int × (List (Int)) × Int × Int × (List (Int))) → Option (Bool)) (p : (Int × (List (Int)) × Int × Int × (List (Int)))) : Option (Bool) :=
  (bif (decide (p.1 < (p.2.2.2.2.length : Int))) then (bif ((decide ((0 : Int) ≤ p.1)) && (decide (p.1 < (p.2.2.2.2.length : Int)))) then (p.2.2.2.2[p.1.toNat]?).bind fun x6 => (impl_AddrText.f k x6).bind fun r7 => (impl_ReadAddr.f k r7).bind fun r8 => (bif ((decide ((0 : Int) ≤ p.1)) && (decide (p.1 < (p.2.2.2.2.length : Int)))) then (p.2.2.2.2[p.1.toNat]?).bind fun x9 => (impl_PrefixOf.f k x9 p.2.2.2.1).bind fun r10 => (bif (!r8.2) then some false else (bif ((decide ((0 : Int) ≤ p.1)) && (decide (p.1 < (p.2.2.2.2.length : Int)))) then (p.2.2.2.2[p.1.toNat]?).bind fun x11 => (bif (r8.1 != x11) then some false else (bif (!r10.2.2) then some false else (impl_InPrefix.f k p.2.2.1 p.2.2.2.1 r8.1).bind fun r12 => (bif (!(r12 == ((r10.1 == p.2.2.1) && (r10.2.1 == p.2.2.2.1)))) then some false else (impl_InPrefix.f k r10.1 r10.2.1 r8.1).bind fun r13 => (bif (!r13) then some false else (impl_InPrefix.f k p.2.2.1 p.2.2.2.1 r8.1).bind fun r14 => (spec_InPrefix.f k p.2.2.1 p.2.2.2.1 r8.1).bind fun r15 => (bif (!(r14 == r15)) then some false else (impl_AddrOk.f k r8.1).bind fun r16 => (bif (!r16) then some false else rec0 ((IntKind.i64.wrap (p.1 + (1 : Int))), p.2.1, p.2.2.1, p.2.2.2.1, p.2.2.2.2))))))) else none)) else none) else none) else (impl_AddrText.f k (4294967295 : Int)).bind fun r17 => (bif (r17.toList == (⟨#[50, 53, 53, 46, 50, 53, 53, 46, 50, 53, 53, 46, 50, 53, 53]⟩ : ByteArray).toList) then (impl_AddrText.f k (-1 : Int)).bind fun r18 => some (r18.toList == ByteArray.empty.toList) else some false))
def laws_FnAddrs.l0 (k : Nat) : Nat → (Int × (List (Int)) × Int × Int × (List (Int))) → Option (Bool)
  | 0 => fun _ => none
  | j + 1 => laws_FnAddrs.s0 k (laws_FnAddrs.l0 k j)
def laws_FnAddrs.S0 (p : (Int × (List (Int)) × Int × Int × (List (Int)))) : DS := ⟨tl [(3, .at (.whole 1936)), (4, .at (.bptr 64 0)), (9, .at (.int .i64 p.1))], lookO [(0, .row 5 (.int .u8) false p.2.1), (64, .box 26 [.int .i64 p.2.2.1, .int .i64 p.2.2.2.1]), (1936, .row 3 (.int .i64) true p.2.2.2.2)]⟩
noncomputable def laws_FnAddrs.D0 (k : Nat) (j : Nat) (p : (Int × (List (Int)) × Int × Int × (List (Int)))) : Option (Bool) := loopK (norm [0] (laws_FnAddrs.h 0)) (runK laws_FnAddrs.x k 0 [0] laws_FnAddrs.h 0 (sub laws_FnAddrs.c [1, 1, 1, 1, 1, 1, 0, 1, 0, 0])) j (laws_FnAddrs.S0 p) (kBlk 0 (kSeq (runK laws_FnAddrs.x k 0 [0] laws_FnAddrs.h 0 (sub laws_FnAddrs.c [1, 1, 1, 1, 1, 1, 1])) (fin tt laws_FnAddrs.ps laws_FnAddrs.rs laws_FnAddrs.vs .bool)))
theorem laws_FnAddrs.D0_eq (k : Nat) : ∀ j, laws_FnAddrs.D0 k j = laws_FnAddrs.l0 k j := by
  intro j
  induction j with
  | zero => rfl
  | succ j ih =>
    show _ = laws_FnAddrs.s0 k (laws_FnAddrs.l0 k j)
    rw [← ih]
    funext p
    kernel_rfl
def laws_FnAddrs.f (k : Nat) (a0 : List (Int)) : Option (Bool) :=
  (laws_big.f k a0).bind fun r1 => (bif r1 then some true else (spec_DrawAddrs.f k a0).bind fun r2 => (impl_PrefixText.f k r2.2.1 r2.2.2).bind fun r3 => (impl_ReadPrefix.f k r3.1).bind fun r4 => (bif (!r3.2) then some false else (bif (!r4.2.2) then some false else (bif (!((r4.1 == r2.2.1) && (r4.2.1 == r2.2.2))) then some false else (impl_PrefixOk.f k r2.2.1 r2.2.2).bind fun r5 => (bif (!r5) then some false else laws_FnAddrs.l0 k k ((0 : Int), a0, r2.2.1, r2.2.2, r2.1))))))
def laws_FnAddrs.K : Ctr := ⟨laws_FnAddrs.ps, laws_FnAddrs.rs, false, (.sl 5 (.int .u8)), .bool, fun k x => laws_FnAddrs.f k x⟩
theorem laws_FnAddrs.eq (k : Nat) (x : (laws_FnAddrs.K.I).den) : func laws_FnAddrs.x laws_FnAddrs.h laws_FnAddrs.ps laws_FnAddrs.rs laws_FnAddrs.vs laws_FnAddrs.K.I laws_FnAddrs.K.O laws_FnAddrs.c k x = laws_FnAddrs.K.run k x := by
  show _ = laws_FnAddrs.f k x
  unfold laws_FnAddrs.f
  rw [← laws_FnAddrs.D0_eq k k]
  kernel_rfl
theorem laws_FnAddrs.ok : CtrOk Tryd.prog 3 laws_FnAddrs.K :=
  CtrOk.of (fn := Tryd.f3) (cd := laws_FnAddrs.c) (cx := laws_FnAddrs.x) (hs := laws_FnAddrs.h) (by kernel_rfl) (by kernel_rfl) (by kernel_rfl) (by kernel_rfl) tt_ok (envOk_cons laws_big.ok (envOk_cons spec_DrawAddrs.ok (envOk_cons impl_PrefixText.ok (envOk_cons impl_ReadPrefix.ok (envOk_cons impl_PrefixOk.ok (envOk_cons impl_AddrText.ok (envOk_cons impl_ReadAddr.ok (envOk_cons impl_PrefixOf.ok (envOk_cons impl_InPrefix.ok (envOk_cons spec_InPrefix.ok (envOk_cons impl_AddrOk.ok (envOk_nil)))))))))))) (by kernel_rfl) (by kernel_rfl) (by kernel_rfl) (by kernel_rfl) fun k x r h => (laws_FnAddrs.eq k x).trans h
end Go.Proofs.YtpheniajdbbphaaDoor.DI
