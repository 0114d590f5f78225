/- FnExactProof: functions as plain Lean, in the machine of values. -/
import Derived.Test.YtpinehfjimphmaaVFnExactProof2
namespace Go.Proofs.Ytpinehfjimphmaa.DI
open Go
set_option linter.unusedVariables false
/-! spec.PowP -/
noncomputable def spec_PowP.c : Code := bodyOf Try.f57
def spec_PowP.h : Nat → Hint := look ⟨[], [], []⟩ [(0, ⟨[0, 1, 5], [], []⟩)]
def spec_PowP.ps : List PK := [.one, .one]
def spec_PowP.rs : List RK := [.one true]
def spec_PowP.vs : List ResultVar := [.tmp 4]
def spec_PowP.x : Cx := ⟨tt, look none [(31, some spec_l01In.K), (75, some spec_l03Mod.K)]⟩
def spec_PowP.s0 (_k : Nat) (rec0 : (Int × Int × Int) → Option (Int)) (p : (Int × Int × Int)) : Option (Int) :=
  (bif (decide (p.2.1 > (0 : Int))) then (bif ((p.2.1.tmod (2 : Int)) == (1 : Int)) then rec0 (((IntKind.i64.wrap (p.1 * p.1)).tmod (2147483579 : Int)), (IntKind.i64.wrap (p.2.1.tdiv (2 : Int))), ((IntKind.i64.wrap (p.2.2 * p.1)).tmod (2147483579 : Int))) else rec0 (((IntKind.i64.wrap (p.1 * p.1)).tmod (2147483579 : Int)), (IntKind.i64.wrap (p.2.1.tdiv (2 : Int))), p.2.2)) else some p.2.2)
def spec_PowP.l0 (k : Nat) : Nat → (Int × Int × Int) → Option (Int)
  | 0 => fun _ => none
  | j + 1 => spec_PowP.s0 k (spec_PowP.l0 k j)
def spec_PowP.S0 (p : (Int × Int × Int)) : DS := ⟨tl [(0, .at (.int .i64 p.1)), (1, .at (.int .i64 p.2.1)), (5, .at (.int .i64 p.2.2))], lookO []⟩
noncomputable def spec_PowP.D0 (k : Nat) (j : Nat) (p : (Int × Int × Int)) : Option (Int) := loopK (norm [] (spec_PowP.h 0)) (runK spec_PowP.x k 0 [] spec_PowP.h 0 (sub spec_PowP.c [1, 1, 1, 1, 0, 0, 0])) j (spec_PowP.S0 p) (kBlk 0 (kSeq (runK spec_PowP.x k 0 [] spec_PowP.h 0 (sub spec_PowP.c [1, 1, 1, 1, 1])) (fin tt spec_PowP.ps spec_PowP.rs spec_PowP.vs (.int .i64))))
theorem spec_PowP.D0_eq (k : Nat) : ∀ j, spec_PowP.D0 k j = spec_PowP.l0 k j := by
  intro j
  induction j with
  | zero => rfl
  | succ j ih =>
    show _ = spec_PowP.s0 k (spec_PowP.l0 k j)
    rw [← ih]
    funext p
    kernel_rfl
def spec_PowP.f (k : Nat) (a0 : Int) (a1 : Int) : Option (Int) :=
  (spec_l01In.f k a1 (0 : Int) (2147483579 : Int)).bind fun r1 => (bif (!r1) then some (0 : Int) else (spec_l03Mod.f k a0).bind fun r2 => spec_PowP.l0 k k (r2, a1, (1 : Int)))
def spec_PowP.K : Ctr := ⟨spec_PowP.ps, spec_PowP.rs, false, (.two (.int .i64) (.int .i64)), (.int .i64), fun k x => spec_PowP.f k x.1 x.2⟩
theorem spec_PowP.eq (k : Nat) (x : (spec_PowP.K.I).den) : func spec_PowP.x spec_PowP.h spec_PowP.ps spec_PowP.rs spec_PowP.vs spec_PowP.K.I spec_PowP.K.O spec_PowP.c k x = spec_PowP.K.run k x := by
  show _ = spec_PowP.f k x.1 x.2
  unfold spec_PowP.f
  rw [← spec_PowP.D0_eq k k]
  kernel_rfl
theorem spec_PowP.ok : CtrOk Try.prog 57 spec_PowP.K :=
  CtrOk.of (fn := Try.f57) (cd := spec_PowP.c) (cx := spec_PowP.x) (hs := spec_PowP.h) (by kernel_rfl) (by kernel_rfl) (by kernel_rfl) (by kernel_rfl) tt_ok (envOk_cons spec_l01In.ok (envOk_cons spec_l03Mod.ok (envOk_nil))) (by kernel_rfl) (by kernel_rfl) (by kernel_rfl) (by kernel_rfl) fun k x r h => (spec_PowP.eq k x).trans h
/-! spec.PublicOf -/
noncomputable def spec_PublicOf.c : Code := bodyOf Try.f25
def spec_PublicOf.h : Nat → Hint := look ⟨[], [], []⟩ []
def spec_PublicOf.ps : List PK := [.one]
def spec_PublicOf.rs : List RK := [.one true]
def spec_PublicOf.vs : List ResultVar := [.tmp 2]
def spec_PublicOf.x : Cx := ⟨tt, look none [(31, some spec_l01In.K), (57, some spec_PowP.K)]⟩
def spec_PublicOf.f (k : Nat) (a0 : Int) : Option (Int) :=
  (spec_l01In.f k a0 (1 : Int) (1073741788 : Int)).bind fun r1 => (bif (!r1) then some (0 : Int) else (spec_PowP.f k (4 : Int) a0).bind fun r2 => some r2)
def spec_PublicOf.K : Ctr := ⟨spec_PublicOf.ps, spec_PublicOf.rs, false, (.int .i64), (.int .i64), fun k x => spec_PublicOf.f k x⟩
theorem spec_PublicOf.eq (k : Nat) (x : (spec_PublicOf.K.I).den) : func spec_PublicOf.x spec_PublicOf.h spec_PublicOf.ps spec_PublicOf.rs spec_PublicOf.vs spec_PublicOf.K.I spec_PublicOf.K.O spec_PublicOf.c k x = spec_PublicOf.K.run k x := by
  show _ = spec_PublicOf.f k x
  kernel_rfl
theorem spec_PublicOf.ok : CtrOk Try.prog 25 spec_PublicOf.K :=
  CtrOk.of (fn := Try.f25) (cd := spec_PublicOf.c) (cx := spec_PublicOf.x) (hs := spec_PublicOf.h) (by kernel_rfl) (by kernel_rfl) (by kernel_rfl) (by kernel_rfl) tt_ok (envOk_cons spec_l01In.ok (envOk_cons spec_PowP.ok (envOk_nil))) (by kernel_rfl) (by kernel_rfl) (by kernel_rfl) (by kernel_rfl) fun k x r h => (spec_PublicOf.eq k x).trans h
/-! spec.Challenge -/
noncomputable def spec_Challenge.c : Code := bodyOf Try.f63
def spec_Challenge.h : Nat → Hint := look ⟨[], [], []⟩ []
def spec_Challenge.ps : List PK := [.one, .one, .one]
def spec_Challenge.rs : List RK := [.one true]
def spec_Challenge.vs : List ResultVar := [.tmp 6]
def spec_Challenge.x : Cx := ⟨tt, look none [(31, some spec_l01In.K), (27, some spec_NumberText.K), (61, some spec_DigestOf.K), (60, some spec_l07First.K)]⟩
def spec_Challenge.f (k : Nat) (a0 : Int) (a1 : Int) (a2 : ByteArray) : Option (Int) :=
  (spec_l01In.f k a0 (0 : Int) (4294967295 : Int)).bind fun r1 => (bif (!r1) then some (0 : Int) else (spec_l01In.f k a1 (0 : Int) (4294967295 : Int)).bind fun r2 => (bif (!r2) then some (0 : Int) else (spec_NumberText.f k a0).bind fun r3 => (spec_NumberText.f k a1).bind fun r4 => (bif decide (r3.size + r4.size ≤ 140737488351232) then (bif decide ((r3 ++ r4).size + a2.size ≤ 140737488351232) then (spec_DigestOf.f k ((r3 ++ r4) ++ a2)).bind fun r5 => (spec_l07First.f k r5).bind fun r6 => some (r6.tmod (1073741789 : Int)) else none) else none)))
def spec_Challenge.K : Ctr := ⟨spec_Challenge.ps, spec_Challenge.rs, false, (.two (.int .i64) (.two (.int .i64) .str)), (.int .i64), fun k x => spec_Challenge.f k x.1 x.2.1 x.2.2⟩
theorem spec_Challenge.eq (k : Nat) (x : (spec_Challenge.K.I).den) : func spec_Challenge.x spec_Challenge.h spec_Challenge.ps spec_Challenge.rs spec_Challenge.vs spec_Challenge.K.I spec_Challenge.K.O spec_Challenge.c k x = spec_Challenge.K.run k x := by
  show _ = spec_Challenge.f k x.1 x.2.1 x.2.2
  kernel_rfl
theorem spec_Challenge.ok : CtrOk Try.prog 63 spec_Challenge.K :=
  CtrOk.of (fn := Try.f63) (cd := spec_Challenge.c) (cx := spec_Challenge.x) (hs := spec_Challenge.h) (by kernel_rfl) (by kernel_rfl) (by kernel_rfl) (by kernel_rfl) tt_ok (envOk_cons spec_l01In.ok (envOk_cons spec_NumberText.ok (envOk_cons spec_DigestOf.ok (envOk_cons spec_l07First.ok (envOk_nil))))) (by kernel_rfl) (by kernel_rfl) (by kernel_rfl) (by kernel_rfl) fun k x r h => (spec_Challenge.eq k x).trans h
/-! spec.SignText -/
noncomputable def spec_SignText.c : Code := bodyOf Try.f37
def spec_SignText.h : Nat → Hint := look ⟨[], [], []⟩ []
def spec_SignText.ps : List PK := [.one, .one]
def spec_SignText.rs : List RK := [.agg 2 true, .one true]
def spec_SignText.vs : List ResultVar := [.cell 4 54, .tmp 5]
def spec_SignText.x : Cx := ⟨tt, look none [(31, some spec_l01In.K), (27, some spec_NumberText.K), (33, some spec_SecretOf.K), (57, some spec_PowP.K), (25, some spec_PublicOf.K), (63, some spec_Challenge.K)]⟩
def spec_SignText.f (k : Nat) (a0 : Int) (a1 : ByteArray) : Option (Int × Int × Bool) :=
  (spec_l01In.f k a0 (1 : Int) (1073741788 : Int)).bind fun r1 => (bif (!r1) then some ((0 : Int), (0 : Int), false) else (spec_NumberText.f k a0).bind fun r2 => (bif decide (r2.size + a1.size ≤ 140737488351232) then (spec_SecretOf.f k (r2 ++ a1)).bind fun r3 => (spec_PowP.f k (4 : Int) r3).bind fun r4 => (spec_PublicOf.f k a0).bind fun r5 => (spec_Challenge.f k r4 r5 a1).bind fun r6 => some (r6, ((IntKind.i64.wrap (r3 + ((IntKind.i64.wrap (r6 * a0)).tmod (1073741789 : Int)))).tmod (1073741789 : Int)), true) else none))
def spec_SignText.K : Ctr := ⟨spec_SignText.ps, spec_SignText.rs, false, (.two (.int .i64) .str), (.two (.int .i64) (.two (.int .i64) .bool)), fun k x => spec_SignText.f k x.1 x.2⟩
theorem spec_SignText.eq (k : Nat) (x : (spec_SignText.K.I).den) : func spec_SignText.x spec_SignText.h spec_SignText.ps spec_SignText.rs spec_SignText.vs spec_SignText.K.I spec_SignText.K.O spec_SignText.c k x = spec_SignText.K.run k x := by
  show _ = spec_SignText.f k x.1 x.2
  kernel_rfl
theorem spec_SignText.ok : CtrOk Try.prog 37 spec_SignText.K :=
  CtrOk.of (fn := Try.f37) (cd := spec_SignText.c) (cx := spec_SignText.x) (hs := spec_SignText.h) (by kernel_rfl) (by kernel_rfl) (by kernel_rfl) (by kernel_rfl) tt_ok (envOk_cons spec_l01In.ok (envOk_cons spec_NumberText.ok (envOk_cons spec_SecretOf.ok (envOk_cons spec_PowP.ok (envOk_cons spec_PublicOf.ok (envOk_cons spec_Challenge.ok (envOk_nil))))))) (by kernel_rfl) (by kernel_rfl) (by kernel_rfl) (by kernel_rfl) fun k x r h => (spec_SignText.eq k x).trans h
/-! spec.SigText -/
noncomputable def spec_SigText.c : Code := bodyOf Try.f39
def spec_SigText.h : Nat → Hint := look ⟨[], [], []⟩ []
def spec_SigText.ps : List PK := [.agg 2]
def spec_SigText.rs : List RK := [.one true, .one true]
def spec_SigText.vs : List ResultVar := [.tmp 2, .tmp 3]
def spec_SigText.x : Cx := ⟨tt, look none [(31, some spec_l01In.K), (27, some spec_NumberText.K)]⟩
def spec_SigText.f (k : Nat) (a0_0 : Int) (a0_1 : Int) : Option (ByteArray × Bool) :=
  (spec_l01In.f k a0_0 (0 : Int) (1073741788 : Int)).bind fun r1 => (bif (!r1) then some (ByteArray.empty, false) else (spec_l01In.f k a0_1 (0 : Int) (1073741788 : Int)).bind fun r2 => (bif (!r2) then some (ByteArray.empty, false) else (spec_NumberText.f k a0_0).bind fun r3 => (spec_NumberText.f k a0_1).bind fun r4 => (bif decide (r3.size + r4.size ≤ 140737488351232) then some ((r3 ++ r4), true) else none)))
def spec_SigText.K : Ctr := ⟨spec_SigText.ps, spec_SigText.rs, false, (.two (.int .i64) (.int .i64)), (.two .str .bool), fun k x => spec_SigText.f k x.1 x.2⟩
theorem spec_SigText.eq (k : Nat) (x : (spec_SigText.K.I).den) : func spec_SigText.x spec_SigText.h spec_SigText.ps spec_SigText.rs spec_SigText.vs spec_SigText.K.I spec_SigText.K.O spec_SigText.c k x = spec_SigText.K.run k x := by
  show _ = spec_SigText.f k x.1 x.2
  kernel_rfl
theorem spec_SigText.ok : CtrOk Try.prog 39 spec_SigText.K :=
  CtrOk.of (fn := Try.f39) (cd := spec_SigText.c) (cx := spec_SigText.x) (hs := spec_SigText.h) (by kernel_rfl) (by kernel_rfl) (by kernel_rfl) (by kernel_rfl) tt_ok (envOk_cons spec_l01In.ok (envOk_cons spec_NumberText.ok (envOk_nil))) (by kernel_rfl) (by kernel_rfl) (by kernel_rfl) (by kernel_rfl) fun k x r h => (spec_SigText.eq k x).trans h
/-! spec.Proof -/
noncomputable def spec_Proof.c : Code := bodyOf Try.f16
def spec_Proof.h : Nat → Hint := look ⟨[], [], []⟩ []
def spec_Proof.ps : List PK := [.agg 7]
def spec_Proof.rs : List RK := [.one true]
def spec_Proof.vs : List ResultVar := [.tmp 2]
def spec_Proof.x : Cx := ⟨tt, look none [(38, some spec_Transcript.K), (26, some spec_l05Byte.K), (37, some spec_SignText.K), (39, some spec_SigText.K)]⟩
def spec_Proof.f (k : Nat) (a0_0 : Int) (a0_1 : Int) (a0_2 : Int) (a0_3 : Int) (a0_4 : Int) (a0_5 : ByteArray) (a0_6 : ByteArray) : Option (ByteArray) :=
  (bif (a0_4 != (2 : Int)) then (bif (a0_4 != (3 : Int)) then some ByteArray.empty else (spec_Transcript.f k a0_0 a0_1 a0_2 a0_3 a0_4 a0_5 a0_6).bind fun r1 => (spec_l05Byte.f k a0_0).bind fun r2 => (bif decide (r1.size + r2.size ≤ 140737488351232) then (spec_SignText.f k a0_1 (r1 ++ r2)).bind fun r3 => (spec_SigText.f k r3.1 r3.2.1).bind fun r4 => (bif decide ((⟨#[112]⟩ : ByteArray).size + r4.1.size ≤ 140737488351232) then some ((⟨#[112]⟩ : ByteArray) ++ r4.1) else none) else none)) else (spec_Transcript.f k a0_0 a0_1 a0_2 a0_3 a0_4 a0_5 a0_6).bind fun r5 => (spec_l05Byte.f k a0_0).bind fun r6 => (bif decide (r5.size + r6.size ≤ 140737488351232) then (spec_SignText.f k a0_1 (r5 ++ r6)).bind fun r7 => (spec_SigText.f k r7.1 r7.2.1).bind fun r8 => (bif decide ((⟨#[112]⟩ : ByteArray).size + r8.1.size ≤ 140737488351232) then some ((⟨#[112]⟩ : ByteArray) ++ r8.1) else none) else none))
def spec_Proof.K : Ctr := ⟨spec_Proof.ps, spec_Proof.rs, false, (.two (.int .i64) (.two (.int .i64) (.two (.int .i64) (.two (.int .i64) (.two (.int .i64) (.two .str .str)))))), .str, fun k x => spec_Proof.f k x.1 x.2.1 x.2.2.1 x.2.2.2.1 x.2.2.2.2.1 x.2.2.2.2.2.1 x.2.2.2.2.2.2⟩
theorem spec_Proof.eq (k : Nat) (x : (spec_Proof.K.I).den) : func spec_Proof.x spec_Proof.h spec_Proof.ps spec_Proof.rs spec_Proof.vs spec_Proof.K.I spec_Proof.K.O spec_Proof.c k x = spec_Proof.K.run k x := by
  show _ = spec_Proof.f k x.1 x.2.1 x.2.2.1 x.2.2.2.1 x.2.2.2.2.1 x.2.2.2.2.2.1 x.2.2.2.2.2.2
  kernel_rfl
theorem spec_Proof.ok : CtrOk Try.prog 16 spec_Proof.K :=
  CtrOk.of (fn := Try.f16) (cd := spec_Proof.c) (cx := spec_Proof.x) (hs := spec_Proof.h) (by kernel_rfl) (by kernel_rfl) (by kernel_rfl) (by kernel_rfl) tt_ok (envOk_cons spec_Transcript.ok (envOk_cons spec_l05Byte.ok (envOk_cons spec_SignText.ok (envOk_cons spec_SigText.ok (envOk_nil))))) (by kernel_rfl) (by kernel_rfl) (by kernel_rfl) (by kernel_rfl) fun k x r h => (spec_Proof.eq k x).trans h
/-! impl.Transcript -/
noncomputable def impl_Transcript.c : Code := bodyOf Try.f41
def impl_Transcript.h : Nat → Hint := look ⟨[], [], []⟩ []
def impl_Transcript.ps : List PK := [.agg 7]
def impl_Transcript.rs : List RK := [.one true]
def impl_Transcript.vs : List ResultVar := [.tmp 2]
def impl_Transcript.x : Cx := ⟨tt, look none []⟩
def impl_Transcript.f (_k : Nat) (a0_0 : Int) (_a0_1 : Int) (_a0_2 : Int) (_a0_3 : Int) (_a0_4 : Int) (a0_5 : ByteArray) (a0_6 : ByteArray) : Option (ByteArray) :=
  (bif (a0_0 == (1 : Int)) then (bif decide (a0_5.size + a0_6.size ≤ 140737488351232) then some (a0_5 ++ a0_6) else none) else (bif decide (a0_6.size + a0_5.size ≤ 140737488351232) then some (a0_6 ++ a0_5) else none))
def impl_Transcript.K : Ctr := ⟨impl_Transcript.ps, impl_Transcript.rs, false, (.two (.int .i64) (.two (.int .i64) (.two (.int .i64) (.two (.int .i64) (.two (.int .i64) (.two .str .str)))))), .str, fun k x => impl_Transcript.f k x.1 x.2.1 x.2.2.1 x.2.2.2.1 x.2.2.2.2.1 x.2.2.2.2.2.1 x.2.2.2.2.2.2⟩
theorem impl_Transcript.eq (k : Nat) (x : (impl_Transcript.K.I).den) : func impl_Transcript.x impl_Transcript.h impl_Transcript.ps impl_Transcript.rs impl_Transcript.vs impl_Transcript.K.I impl_Transcript.K.O impl_Transcript.c k x = impl_Transcript.K.run k x := by
  show _ = impl_Transcript.f k x.1 x.2.1 x.2.2.1 x.2.2.2.1 x.2.2.2.2.1 x.2.2.2.2.2.1 x.2.2.2.2.2.2
  kernel_rfl
theorem impl_Transcript.ok : CtrOk Try.prog 41 impl_Transcript.K :=
  CtrOk.of (fn := Try.f41) (cd := impl_Transcript.c) (cx := impl_Transcript.x) (hs := impl_Transcript.h) (by kernel_rfl) (by kernel_rfl) (by kernel_rfl) (by kernel_rfl) tt_ok (envOk_nil) (by kernel_rfl) (by kernel_rfl) (by kernel_rfl) (by kernel_rfl) fun k x r h => (impl_Transcript.eq k x).trans h
/-! impl.byteText -/
noncomputable def impl_byteText.c : Code := bodyOf Try.f28
def impl_byteText.h : Nat → Hint := look ⟨[], [], []⟩ []
def impl_byteText.ps : List PK := [.one]
def impl_byteText.rs : List RK := [.one true]
def impl_byteText.vs : List ResultVar := [.tmp 2]
def impl_byteText.x : Cx := ⟨tt, look none []⟩
def impl_byteText.f (_k : Nat) (a0 : Int) : Option (ByteArray) :=
  some (strOfNums [(IntKind.u8.wrap a0)])
def impl_byteText.K : Ctr := ⟨impl_byteText.ps, impl_byteText.rs, false, (.int .i64), .str, fun k x => impl_byteText.f k x⟩
theorem impl_byteText.eq (k : Nat) (x : (impl_byteText.K.I).den) : func impl_byteText.x impl_byteText.h impl_byteText.ps impl_byteText.rs impl_byteText.vs impl_byteText.K.I impl_byteText.K.O impl_byteText.c k x = impl_byteText.K.run k x := by
  show _ = impl_byteText.f k x
  kernel_rfl
theorem impl_byteText.ok : CtrOk Try.prog 28 impl_byteText.K :=
  CtrOk.of (fn := Try.f28) (cd := impl_byteText.c) (cx := impl_byteText.x) (hs := impl_byteText.h) (by kernel_rfl) (by kernel_rfl) (by kernel_rfl) (by kernel_rfl) tt_ok (envOk_nil) (by kernel_rfl) (by kernel_rfl) (by kernel_rfl) (by kernel_rfl) fun k x r h => (impl_byteText.eq k x).trans h
/-! impl.within -/
noncomputable def impl_within.c : Code := bodyOf Try.f34
def impl_within.h : Nat → Hint := look ⟨[], [], []⟩ []
def impl_within.ps : List PK := [.one, .one, .one]
def impl_within.rs : List RK := [.one true]
def impl_within.vs : List ResultVar := [.tmp 6]
def impl_within.x : Cx := ⟨tt, look none []⟩
def impl_within.f (_k : Nat) (a0 : Int) (a1 : Int) (a2 : Int) : Option (Bool) :=
  (bif (decide (a0 ≥ a1)) then some (decide (a0 ≤ a2)) else some false)
def impl_within.K : Ctr := ⟨impl_within.ps, impl_within.rs, false, (.two (.int .i64) (.two (.int .i64) (.int .i64))), .bool, fun k x => impl_within.f k x.1 x.2.1 x.2.2⟩
theorem impl_within.eq (k : Nat) (x : (impl_within.K.I).den) : func impl_within.x impl_within.h impl_within.ps impl_within.rs impl_within.vs impl_within.K.I impl_within.K.O impl_within.c k x = impl_within.K.run k x := by
  show _ = impl_within.f k x.1 x.2.1 x.2.2
  kernel_rfl
theorem impl_within.ok : CtrOk Try.prog 34 impl_within.K :=
  CtrOk.of (fn := Try.f34) (cd := impl_within.c) (cx := impl_within.x) (hs := impl_within.h) (by kernel_rfl) (by kernel_rfl) (by kernel_rfl) (by kernel_rfl) tt_ok (envOk_nil) (by kernel_rfl) (by kernel_rfl) (by kernel_rfl) (by kernel_rfl) fun k x r h => (impl_within.eq k x).trans h
/-! impl.secretOk -/
noncomputable def impl_secretOk.c : Code := bodyOf Try.f58
def impl_secretOk.h : Nat → Hint := look ⟨[], [], []⟩ []
def impl_secretOk.ps : List PK := [.one]
def impl_secretOk.rs : List RK := [.one true]
def impl_secretOk.vs : List ResultVar := [.tmp 2]
def impl_secretOk.x : Cx := ⟨tt, look none [(34, some impl_within.K)]⟩
def impl_secretOk.f (k : Nat) (a0 : Int) : Option (Bool) :=
  (impl_within.f k a0 (1 : Int) (1073741788 : Int)).bind fun r1 => some r1
def impl_secretOk.K : Ctr := ⟨impl_secretOk.ps, impl_secretOk.rs, false, (.int .i64), .bool, fun k x => impl_secretOk.f k x⟩
theorem impl_secretOk.eq (k : Nat) (x : (impl_secretOk.K.I).den) : func impl_secretOk.x impl_secretOk.h impl_secretOk.ps impl_secretOk.rs impl_secretOk.vs impl_secretOk.K.I impl_secretOk.K.O impl_secretOk.c k x = impl_secretOk.K.run k x := by
  show _ = impl_secretOk.f k x
  kernel_rfl
theorem impl_secretOk.ok : CtrOk Try.prog 58 impl_secretOk.K :=
  CtrOk.of (fn := Try.f58) (cd := impl_secretOk.c) (cx := impl_secretOk.x) (hs := impl_secretOk.h) (by kernel_rfl) (by kernel_rfl) (by kernel_rfl) (by kernel_rfl) tt_ok (envOk_cons impl_within.ok (envOk_nil)) (by kernel_rfl) (by kernel_rfl) (by kernel_rfl) (by kernel_rfl) fun k x r h => (impl_secretOk.eq k x).trans h
/-! impl.NumberText -/
noncomputable def impl_NumberText.c : Code := bodyOf Try.f29
def impl_NumberText.h : Nat → Hint := look ⟨[], [], []⟩ []
def impl_NumberText.ps : List PK := [.one]
def impl_NumberText.rs : List RK := [.one true]
def impl_NumberText.vs : List ResultVar := [.tmp 2]
def impl_NumberText.x : Cx := ⟨tt, look none [(34, some impl_within.K)]⟩
def impl_NumberText.f (k : Nat) (a0 : Int) : Option (ByteArray) :=
  (impl_within.f k a0 (0 : Int) (4294967295 : Int)).bind fun r1 => (bif (!r1) then some ByteArray.empty else some (strOfNums [(IntKind.u8.wrap (IntKind.i64.wrap (((BitVec.ofInt IntKind.i64.bits (a0.fdiv (2 ^ 24))) &&& (BitVec.ofInt IntKind.i64.bits (255 : Int))).toNat : Int))), (IntKind.u8.wrap (IntKind.i64.wrap (((BitVec.ofInt IntKind.i64.bits (a0.fdiv (2 ^ 16))) &&& (BitVec.ofInt IntKind.i64.bits (255 : Int))).toNat : Int))), (IntKind.u8.wrap (IntKind.i64.wrap (((BitVec.ofInt IntKind.i64.bits (a0.fdiv (2 ^ 8))) &&& (BitVec.ofInt IntKind.i64.bits (255 : Int))).toNat : Int))), (IntKind.u8.wrap (IntKind.i64.wrap (((BitVec.ofInt IntKind.i64.bits a0) &&& (BitVec.ofInt IntKind.i64.bits (255 : Int))).toNat : Int)))]))
def impl_NumberText.K : Ctr := ⟨impl_NumberText.ps, impl_NumberText.rs, false, (.int .i64), .str, fun k x => impl_NumberText.f k x⟩
theorem impl_NumberText.eq (k : Nat) (x : (impl_NumberText.K.I).den) : func impl_NumberText.x impl_NumberText.h impl_NumberText.ps impl_NumberText.rs impl_NumberText.vs impl_NumberText.K.I impl_NumberText.K.O impl_NumberText.c k x = impl_NumberText.K.run k x := by
  show _ = impl_NumberText.f k x
  kernel_rfl
theorem impl_NumberText.ok : CtrOk Try.prog 29 impl_NumberText.K :=
  CtrOk.of (fn := Try.f29) (cd := impl_NumberText.c) (cx := impl_NumberText.x) (hs := impl_NumberText.h) (by kernel_rfl) (by kernel_rfl) (by kernel_rfl) (by kernel_rfl) tt_ok (envOk_cons impl_within.ok (envOk_nil)) (by kernel_rfl) (by kernel_rfl) (by kernel_rfl) (by kernel_rfl) fun k x r h => (impl_NumberText.eq k x).trans h
/-! impl.wordsText -/
noncomputable def impl_wordsText.c : Code := bodyOf Try.f103
def impl_wordsText.h : Nat → Hint := look ⟨[], [], []⟩ [(0, ⟨[3, 6, 7, 8], [], []⟩)]
def impl_wordsText.ps : List PK := [.one]
def impl_wordsText.rs : List RK := [.one true]
def impl_wordsText.vs : List ResultVar := [.tmp 2]
def impl_wordsText.x : Cx := ⟨tt, look none [(29, some impl_NumberText.K)]⟩
def impl_wordsText.s0 (k : Nat) (rec0 : (ByteArray × Int × Int × (List (Int))) → Option (ByteArray)) (p : (ByteArray × Int × Int × (List (Int)))) : Option (ByteArray) :=
  (bif (decide (p.2.2.1 < p.2.1)) then (bif ((decide ((0 : Int) ≤ p.2.2.1)) && (decide (p.2.2.1 < (p.2.2.2.length : Int)))) then (p.2.2.2[p.2.2.1.toNat]?).bind fun x1 => (impl_NumberText.f k x1).bind fun r2 => (bif decide (p.1.size + r2.size ≤ 140737488351232) then rec0 ((p.1 ++ r2), p.2.1, (IntKind.i64.wrap (p.2.2.1 + (1 : Int))), p.2.2.2) else none) else none) else some p.1)
def impl_wordsText.l0 (k : Nat) : Nat → (ByteArray × Int × Int × (List (Int))) → Option (ByteArray)
  | 0 => fun _ => none
  | j + 1 => impl_wordsText.s0 k (impl_wordsText.l0 k j)
def impl_wordsText.S0 (p : (ByteArray × Int × Int × (List (Int)))) : DS := ⟨tl [(3, .at (.str p.1)), (6, .at (.whole 0)), (7, .at (.int .i64 p.2.1)), (8, .at (.int .i64 p.2.2.1))], lookO [(0, .row 3 (.int .i64) false p.2.2.2)]⟩
noncomputable def impl_wordsText.D0 (k : Nat) (j : Nat) (p : (ByteArray × Int × Int × (List (Int)))) : Option (ByteArray) := loopK (norm [0] (impl_wordsText.h 0)) (runK impl_wordsText.x k 0 [0] impl_wordsText.h 0 (sub impl_wordsText.c [1, 1, 0, 1, 0, 0])) j (impl_wordsText.S0 p) (kBlk 0 (kSeq (runK impl_wordsText.x k 0 [0] impl_wordsText.h 0 (sub impl_wordsText.c [1, 1, 1])) (fin tt impl_wordsText.ps impl_wordsText.rs impl_wordsText.vs .str)))
theorem impl_wordsText.D0_eq (k : Nat) : ∀ j, impl_wordsText.D0 k j = impl_wordsText.l0 k j := by
  intro j
  induction j with
  | zero => rfl
  | succ j ih =>
    show _ = impl_wordsText.s0 k (impl_wordsText.l0 k j)
    rw [← ih]
    funext p
    kernel_rfl
def impl_wordsText.f (k : Nat) (a0 : List (Int)) : Option (ByteArray) :=
  impl_wordsText.l0 k k (ByteArray.empty, (a0.length : Int), (0 : Int), a0)
def impl_wordsText.K : Ctr := ⟨impl_wordsText.ps, impl_wordsText.rs, false, (.sl 3 (.int .i64)), .str, fun k x => impl_wordsText.f k x⟩
theorem impl_wordsText.eq (k : Nat) (x : (impl_wordsText.K.I).den) : func impl_wordsText.x impl_wordsText.h impl_wordsText.ps impl_wordsText.rs impl_wordsText.vs impl_wordsText.K.I impl_wordsText.K.O impl_wordsText.c k x = impl_wordsText.K.run k x := by
  show _ = impl_wordsText.f k x
  unfold impl_wordsText.f
  rw [← impl_wordsText.D0_eq k k]
  kernel_rfl
theorem impl_wordsText.ok : CtrOk Try.prog 103 impl_wordsText.K :=
  CtrOk.of (fn := Try.f103) (cd := impl_wordsText.c) (cx := impl_wordsText.x) (hs := impl_wordsText.h) (by kernel_rfl) (by kernel_rfl) (by kernel_rfl) (by kernel_rfl) tt_ok (envOk_cons impl_NumberText.ok (envOk_nil)) (by kernel_rfl) (by kernel_rfl) (by kernel_rfl) (by kernel_rfl) fun k x r h => (impl_wordsText.eq k x).trans h
/-! impl.firstState -/
noncomputable def impl_firstState.c : Code := bodyOf Try.f92
def impl_firstState.h : Nat → Hint := look ⟨[], [], []⟩ []
def impl_firstState.ps : List PK := []
def impl_firstState.rs : List RK := [.one true]
def impl_firstState.vs : List ResultVar := [.tmp 0]
def impl_firstState.x : Cx := ⟨tt, look none [(103, some impl_wordsText.K)]⟩
def impl_firstState.f (k : Nat) : Option (ByteArray) :=
  (impl_wordsText.f k [(1779033703 : Int), (3144134277 : Int), (1013904242 : Int), (2773480762 : Int), (1359893119 : Int), (2600822924 : Int), (528734635 : Int), (1541459225 : Int)]).bind fun r1 => some r1
def impl_firstState.K : Ctr := ⟨impl_firstState.ps, impl_firstState.rs, false, .unit, .str, fun k _ => impl_firstState.f k⟩
theorem impl_firstState.eq (k : Nat) (x : (impl_firstState.K.I).den) : func impl_firstState.x impl_firstState.h impl_firstState.ps impl_firstState.rs impl_firstState.vs impl_firstState.K.I impl_firstState.K.O impl_firstState.c k x = impl_firstState.K.run k x := by
  show _ = impl_firstState.f k
  kernel_rfl
theorem impl_firstState.ok : CtrOk Try.prog 92 impl_firstState.K :=
  CtrOk.of (fn := Try.f92) (cd := impl_firstState.c) (cx := impl_firstState.x) (hs := impl_firstState.h) (by kernel_rfl) (by kernel_rfl) (by kernel_rfl) (by kernel_rfl) tt_ok (envOk_cons impl_wordsText.ok (envOk_nil)) (by kernel_rfl) (by kernel_rfl) (by kernel_rfl) (by kernel_rfl) fun k x r h => (impl_firstState.eq k x).trans h
/-! strings.Repeat -/
def strings_Repeat.f (_k : Nat) (a0 : ByteArray) (a1 : Int) : Option ByteArray := repRun a0 a1
def strings_Repeat.K : Ctr := repCtr
theorem strings_Repeat.ok : CtrOk Try.prog 82 strings_Repeat.K := rep82
/-! impl.padding -/
noncomputable def impl_padding.c : Code := bodyOf Try.f93
def impl_padding.h : Nat → Hint := look ⟨[], [], []⟩ []
def impl_padding.ps : List PK := [.one]
def impl_padding.rs : List RK := [.one true]
def impl_padding.vs : List ResultVar := [.tmp 2]
def impl_padding.x : Cx := ⟨tt, look none [(82, some strings_Repeat.K), (29, some impl_NumberText.K)]⟩
def impl_padding.f (k : Nat) (a0 : Int) : Option (ByteArray) :=
  (strings_Repeat.f k (⟨#[0]⟩ : ByteArray) ((IntKind.i64.wrap ((119 : Int) - (a0.tmod (64 : Int)))).tmod (64 : Int))).bind fun r1 => (bif decide ((⟨#[128]⟩ : ByteArray).size + r1.size ≤ 140737488351232) then (impl_NumberText.f k ((IntKind.i64.wrap ((8 : Int) * a0)).fdiv (2 ^ 32))).bind fun r2 => (bif decide (((⟨#[128]⟩ : ByteArray) ++ r1).size + r2.size ≤ 140737488351232) then (impl_NumberText.f k (IntKind.i64.wrap (((BitVec.ofInt IntKind.i64.bits (IntKind.i64.wrap ((8 : Int) * a0))) &&& (BitVec.ofInt IntKind.i64.bits (4294967295 : Int))).toNat : Int))).bind fun r3 => (bif decide ((((⟨#[128]⟩ : ByteArray) ++ r1) ++ r2).size + r3.size ≤ 140737488351232) then some ((((⟨#[128]⟩ : ByteArray) ++ r1) ++ r2) ++ r3) else none) else none) else none)
def impl_padding.K : Ctr := ⟨impl_padding.ps, impl_padding.rs, false, (.int .i64), .str, fun k x => impl_padding.f k x⟩
theorem impl_padding.eq (k : Nat) (x : (impl_padding.K.I).den) : func impl_padding.x impl_padding.h impl_padding.ps impl_padding.rs impl_padding.vs impl_padding.K.I impl_padding.K.O impl_padding.c k x = impl_padding.K.run k x := by
  show _ = impl_padding.f k x
  kernel_rfl
theorem impl_padding.ok : CtrOk Try.prog 93 impl_padding.K :=
  CtrOk.of (fn := Try.f93) (cd := impl_padding.c) (cx := impl_padding.x) (hs := impl_padding.h) (by kernel_rfl) (by kernel_rfl) (by kernel_rfl) (by kernel_rfl) tt_ok (envOk_cons strings_Repeat.ok (envOk_cons impl_NumberText.ok (envOk_nil))) (by kernel_rfl) (by kernel_rfl) (by kernel_rfl) (by kernel_rfl) fun k x r h => (impl_padding.eq k x).trans h
/-! impl.constants -/
noncomputable def impl_constants.c : Code := bodyOf Try.f110
def impl_constants.h : Nat → Hint := look ⟨[], [], []⟩ []
def impl_constants.ps : List PK := []
def impl_constants.rs : List RK := [.agg 64 true]
def impl_constants.vs : List ResultVar := [.cell 0 124]
def impl_constants.x : Cx := ⟨tt, look none []⟩
def impl_constants.f (_k : Nat) : Option (Int × Int × Int × Int × Int × Int × Int × Int × Int × Int × Int × Int × Int × Int × Int × Int × Int × Int × Int × Int × Int × Int × Int × Int × Int × Int × Int × Int × Int × Int × Int × Int × Int × Int × Int × Int × Int × Int × Int × Int × Int × Int × Int × Int × Int × Int × Int × Int × Int × Int × Int × Int × Int × Int × Int × Int × Int × Int × Int × Int × Int × Int × Int × Int) :=
  some ((1116352408 : Int), (1899447441 : Int), (3049323471 : Int), (3921009573 : Int), (961987163 : Int), (1508970993 : Int), (2453635748 : Int), (2870763221 : Int), (3624381080 : Int), (310598401 : Int), (607225278 : Int), (1426881987 : Int), (1925078388 : Int), (2162078206 : Int), (2614888103 : Int), (3248222580 : Int), (3835390401 : Int), (4022224774 : Int), (264347078 : Int), (604807628 : Int), (770255983 : Int), (1249150122 : Int), (1555081692 : Int), (1996064986 : Int), (2554220882 : Int), (2821834349 : Int), (2952996808 : Int), (3210313671 : Int), (3336571891 : Int), (3584528711 : Int), (113926993 : Int), (338241895 : Int), (666307205 : Int), (773529912 : Int), (1294757372 : Int), (1396182291 : Int), (1695183700 : Int), (1986661051 : Int), (2177026350 : Int), (2456956037 : Int), (2730485921 : Int), (2820302411 : Int), (3259730800 : Int), (3345764771 : Int), (3516065817 : Int), (3600352804 : Int), (4094571909 : Int), (275423344 : Int), (430227734 : Int), (506948616 : Int), (659060556 : Int), (883997877 : Int), (958139571 : Int), (1322822218 : Int), (1537002063 : Int), (1747873779 : Int), (1955562222 : Int), (2024104815 : Int), (2227730452 : Int), (2361852424 : Int), (2428436474 : Int), (2756734187 : Int), (3204031479 : Int), (3329325298 : Int))
def impl_constants.K : Ctr := ⟨impl_constants.ps, impl_constants.rs, false, .unit, (.two (.int .i64) (.two (.int .i64) (.two (.int .i64) (.two (.int .i64) (.two (.int .i64) (.two (.int .i64) (.two (.int .i64) (.two (.int .i64) (.two (.int .i64) (.two (.int .i64) (.two (.int .i64) (.two (.int .i64) (.two (.int .i64) (.two (.int .i64) (.two (.int .i64) (.two (.int .i64) (.two (.int .i64) (.two (.int .i64) (.two (.int .i64) (.two (.int .i64) (.two (.int .i64) (.two (.int .i64) (.two (.int .i64) (.two (.int .i64) (.two (.int .i64) (.two (.int .i64) (.two (.int .i64) (.two (.int .i64) (.two (.int .i64) (.two (.int .i64) (.two (.int .i64) (.two (.int .i64) (.two (.int .i64) (.two (.int .i64) (.two (.int .i64) (.two (.int .i64) (.two (.int .i64) (.two (.int .i64) (.two (.int .i64) (.two (.int .i64) (.two (.int .i64) (.two (.int .i64) (.two (.int .i64) (.two (.int .i64) (.two (.int .i64) (.two (.int .i64) (.two (.int .i64) (.two (.int .i64) (.two (.int .i64) (.two (.int .i64) (.two (.int .i64) (.two (.int .i64) (.two (.int .i64) (.two (.int .i64) (.two (.int .i64) (.two (.int .i64) (.two (.int .i64) (.two (.int .i64) (.two (.int .i64) (.two (.int .i64) (.two (.int .i64) (.two (.int .i64) (.two (.int .i64) (.int .i64)))))))))))))))))))))))))))))))))))))))))))))))))))))))))))))))), fun k _ => impl_constants.f k⟩
theorem impl_constants.eq (k : Nat) (x : (impl_constants.K.I).den) : func impl_constants.x impl_constants.h impl_constants.ps impl_constants.rs impl_constants.vs impl_constants.K.I impl_constants.K.O impl_constants.c k x = impl_constants.K.run k x := by
  show _ = impl_constants.f k
  kernel_rfl
theorem impl_constants.ok : CtrOk Try.prog 110 impl_constants.K :=
  CtrOk.of (fn := Try.f110) (cd := impl_constants.c) (cx := impl_constants.x) (hs := impl_constants.h) (by kernel_rfl) (by kernel_rfl) (by kernel_rfl) (by kernel_rfl) tt_ok (envOk_nil) (by kernel_rfl) (by kernel_rfl) (by kernel_rfl) (by kernel_rfl) fun k x r h => (impl_constants.eq k x).trans h
/-! impl.ReadNumber -/
noncomputable def impl_ReadNumber.c : Code := bodyOf Try.f68
def impl_ReadNumber.h : Nat → Hint := look ⟨[], [], []⟩ []
def impl_ReadNumber.ps : List PK := [.one]
def impl_ReadNumber.rs : List RK := [.one true, .one true]
def impl_ReadNumber.vs : List ResultVar := [.tmp 2, .tmp 3]
def impl_ReadNumber.x : Cx := ⟨tt, look none []⟩
def impl_ReadNumber.f (_k : Nat) (a0 : ByteArray) : Option (Int × Bool) :=
  (bif ((a0.size : Int) != (4 : Int)) then some ((0 : Int), false) else (a0[0]?).bind fun c1 => (a0[1]?).bind fun c2 => (a0[2]?).bind fun c3 => (a0[3]?).bind fun c4 => some ((IntKind.i64.wrap (((BitVec.ofInt IntKind.i64.bits (IntKind.i64.wrap (((BitVec.ofInt IntKind.i64.bits (IntKind.i64.wrap (((BitVec.ofInt IntKind.i64.bits (IntKind.i64.wrap ((IntKind.i64.wrap (c1.toNat : Int)) * 2 ^ 24))) ||| (BitVec.ofInt IntKind.i64.bits (IntKind.i64.wrap ((IntKind.i64.wrap (c2.toNat : Int)) * 2 ^ 16)))).toNat : Int))) ||| (BitVec.ofInt IntKind.i64.bits (IntKind.i64.wrap ((IntKind.i64.wrap (c3.toNat : Int)) * 2 ^ 8)))).toNat : Int))) ||| (BitVec.ofInt IntKind.i64.bits (IntKind.i64.wrap (c4.toNat : Int)))).toNat : Int)), true))
def impl_ReadNumber.K : Ctr := ⟨impl_ReadNumber.ps, impl_ReadNumber.rs, false, .str, (.two (.int .i64) .bool), fun k x => impl_ReadNumber.f k x⟩
theorem impl_ReadNumber.eq (k : Nat) (x : (impl_ReadNumber.K.I).den) : func impl_ReadNumber.x impl_ReadNumber.h impl_ReadNumber.ps impl_ReadNumber.rs impl_ReadNumber.vs impl_ReadNumber.K.I impl_ReadNumber.K.O impl_ReadNumber.c k x = impl_ReadNumber.K.run k x := by
  show _ = impl_ReadNumber.f k x
  kernel_rfl
theorem impl_ReadNumber.ok : CtrOk Try.prog 68 impl_ReadNumber.K :=
  CtrOk.of (fn := Try.f68) (cd := impl_ReadNumber.c) (cx := impl_ReadNumber.x) (hs := impl_ReadNumber.h) (by kernel_rfl) (by kernel_rfl) (by kernel_rfl) (by kernel_rfl) tt_ok (envOk_nil) (by kernel_rfl) (by kernel_rfl) (by kernel_rfl) (by kernel_rfl) fun k x r h => (impl_ReadNumber.eq k x).trans h
/-! impl.wordsOf -/
noncomputable def impl_wordsOf.c : Code := bodyOf Try.f112
def impl_wordsOf.h : Nat → Hint := look ⟨[], [], []⟩ [(0, ⟨[0, 3, 4], [], [(.t 3, 464, 3, (.int .i64))]⟩)]
def impl_wordsOf.ps : List PK := [.one]
def impl_wordsOf.rs : List RK := [.one true]
def impl_wordsOf.vs : List ResultVar := [.tmp 2]
def impl_wordsOf.x : Cx := ⟨tt, look none [(68, some impl_ReadNumber.K)]⟩
def impl_wordsOf.s0 (k : Nat) (rec0 : (ByteArray × Int × (List (Int))) → Option ((List (Int)))) (p : (ByteArray × Int × (List (Int)))) : Option ((List (Int))) :=
  (bif (decide ((IntKind.i64.wrap (p.2.1 + (4 : Int))) ≤ (p.1.size : Int))) then (bif ((decide ((0 : Int) ≤ p.2.1)) && ((decide (p.2.1 ≤ (IntKind.i64.wrap (p.2.1 + (4 : Int))))) && (decide ((IntKind.i64.wrap (p.2.1 + (4 : Int))) ≤ (p.1.size : Int))))) then (impl_ReadNumber.f k (p.1.extract p.2.1.toNat (IntKind.i64.wrap (p.2.1 + (4 : Int))).toNat)).bind fun r1 => (bif decide ((p.2.2.length + [r1.1].length) * 8 ≤ 140737488355328) then rec0 (p.1, (IntKind.i64.wrap (p.2.1 + (4 : Int))), (p.2.2 ++ [r1.1])) else none) else none) else some p.2.2)
def impl_wordsOf.l0 (k : Nat) : Nat → (ByteArray × Int × (List (Int))) → Option ((List (Int)))
  | 0 => fun _ => none
  | j + 1 => impl_wordsOf.s0 k (impl_wordsOf.l0 k j)
def impl_wordsOf.S0 (p : (ByteArray × Int × (List (Int)))) : DS := ⟨tl [(0, .at (.str p.1)), (3, .at (.whole 464)), (4, .at (.int .i64 p.2.1))], lookO [(464, .row 3 (.int .i64) true p.2.2)]⟩
noncomputable def impl_wordsOf.D0 (k : Nat) (j : Nat) (p : (ByteArray × Int × (List (Int)))) : Option ((List (Int))) := loopK (norm [] (impl_wordsOf.h 0)) (runK impl_wordsOf.x k 0 [] impl_wordsOf.h 0 (sub impl_wordsOf.c [1, 1, 0, 1, 0, 0])) j (impl_wordsOf.S0 p) (kBlk 0 (kSeq (runK impl_wordsOf.x k 0 [] impl_wordsOf.h 0 (sub impl_wordsOf.c [1, 1, 1])) (fin tt impl_wordsOf.ps impl_wordsOf.rs impl_wordsOf.vs (.sl 3 (.int .i64)))))
theorem impl_wordsOf.D0_eq (k : Nat) : ∀ j, impl_wordsOf.D0 k j = impl_wordsOf.l0 k j := by
  intro j
  induction j with
  | zero => rfl
  | succ j ih =>
    show _ = impl_wordsOf.s0 k (impl_wordsOf.l0 k j)
    rw [← ih]
    funext p
    kernel_rfl
def impl_wordsOf.f (k : Nat) (a0 : ByteArray) : Option ((List (Int))) :=
  impl_wordsOf.l0 k k (a0, (0 : Int), ([] : List (Int)))
def impl_wordsOf.K : Ctr := ⟨impl_wordsOf.ps, impl_wordsOf.rs, false, .str, (.sl 3 (.int .i64)), fun k x => impl_wordsOf.f k x⟩
theorem impl_wordsOf.eq (k : Nat) (x : (impl_wordsOf.K.I).den) : func impl_wordsOf.x impl_wordsOf.h impl_wordsOf.ps impl_wordsOf.rs impl_wordsOf.vs impl_wordsOf.K.I impl_wordsOf.K.O impl_wordsOf.c k x = impl_wordsOf.K.run k x := by
  show _ = impl_wordsOf.f k x
  unfold impl_wordsOf.f
  rw [← impl_wordsOf.D0_eq k k]
  kernel_rfl
theorem impl_wordsOf.ok : CtrOk Try.prog 112 impl_wordsOf.K :=
  CtrOk.of (fn := Try.f112) (cd := impl_wordsOf.c) (cx := impl_wordsOf.x) (hs := impl_wordsOf.h) (by kernel_rfl) (by kernel_rfl) (by kernel_rfl) (by kernel_rfl) tt_ok (envOk_cons impl_ReadNumber.ok (envOk_nil)) (by kernel_rfl) (by kernel_rfl) (by kernel_rfl) (by kernel_rfl) fun k x r h => (impl_wordsOf.eq k x).trans h
/-! impl.turnRight -/
noncomputable def impl_turnRight.c : Code := bodyOf Try.f113
def impl_turnRight.h : Nat → Hint := look ⟨[], [], []⟩ []
def impl_turnRight.ps : List PK := [.one, .one]
def impl_turnRight.rs : List RK := [.one true]
def impl_turnRight.vs : List ResultVar := [.tmp 4]
def impl_turnRight.x : Cx := ⟨tt, look none []⟩
def impl_turnRight.f (_k : Nat) (a0 : Int) (a1 : Int) : Option (Int) :=
  (bif (decide (a1 < (0 : Int))) then none else (bif (decide ((IntKind.i64.wrap ((32 : Int) - a1)) < (0 : Int))) then none else some (IntKind.i64.wrap (((BitVec.ofInt IntKind.i64.bits (IntKind.i64.wrap (((BitVec.ofInt IntKind.i64.bits (a0.fdiv (2 ^ (min a1.toNat IntKind.i64.bits)))) ||| (BitVec.ofInt IntKind.i64.bits (IntKind.i64.wrap (a0 * 2 ^ (min (IntKind.i64.wrap ((32 : Int) - a1)).toNat IntKind.i64.bits))))).toNat : Int))) &&& (BitVec.ofInt IntKind.i64.bits (4294967295 : Int))).toNat : Int))))
def impl_turnRight.K : Ctr := ⟨impl_turnRight.ps, impl_turnRight.rs, false, (.two (.int .i64) (.int .i64)), (.int .i64), fun k x => impl_turnRight.f k x.1 x.2⟩
theorem impl_turnRight.eq (k : Nat) (x : (impl_turnRight.K.I).den) : func impl_turnRight.x impl_turnRight.h impl_turnRight.ps impl_turnRight.rs impl_turnRight.vs impl_turnRight.K.I impl_turnRight.K.O impl_turnRight.c k x = impl_turnRight.K.run k x := by
  show _ = impl_turnRight.f k x.1 x.2
  kernel_rfl
theorem impl_turnRight.ok : CtrOk Try.prog 113 impl_turnRight.K :=
  CtrOk.of (fn := Try.f113) (cd := impl_turnRight.c) (cx := impl_turnRight.x) (hs := impl_turnRight.h) (by kernel_rfl) (by kernel_rfl) (by kernel_rfl) (by kernel_rfl) tt_ok (envOk_nil) (by kernel_rfl) (by kernel_rfl) (by kernel_rfl) (by kernel_rfl) fun k x r h => (impl_turnRight.eq k x).trans h
end Go.Proofs.Ytpinehfjimphmaa.DI
