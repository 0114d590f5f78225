/- FnExactTrieOf: functions as plain Lean, in the machine of values. -/
import Derived.Test.YtbddppnhpapfkaaVFnExactTrieOf3
namespace Go.Proofs.Ytbddppnhpapfkaa.DI
open Go
set_option linter.unusedVariables false
/-! laws.FnExactTrieOf -/
noncomputable def laws_FnExactTrieOf.c : Code := bodyOf Try.f12
def laws_FnExactTrieOf.h : Nat → Hint := look ⟨[], [], []⟩ []
def laws_FnExactTrieOf.ps : List PK := [.one]
def laws_FnExactTrieOf.rs : List RK := [.one true]
def laws_FnExactTrieOf.vs : List ResultVar := [.tmp 2]
def laws_FnExactTrieOf.x : Cx := ⟨tt, look none [(15, some laws_szRouteS.K), (17, some laws_toRouteS.K), (48, some spec_TrieOf.K), (49, some impl_TrieOf.K), (35, some laws_eqTrie.K), (19, some laws_eqRouteS.K), (20, some laws_markRouteS.K), (46, some laws_markTrie.K), (47, some laws_heldTrie.K)]⟩
def laws_FnExactTrieOf.f (k : Nat) (a0 : List (Int × Int × Int)) : Option (Bool) :=
  (laws_szRouteS.f k a0 (1048576 : Int)).bind fun r1 => (bif (decide (r1 < (0 : Int))) then some true else (laws_toRouteS.f k a0).bind fun r2 => (spec_TrieOf.f k r2).bind fun r3 => (laws_toRouteS.f k a0).bind fun r4 => (impl_TrieOf.f k r4).bind fun r5 => (laws_eqTrie.f k r5 r3).bind fun r6 => (bif (!r6) then some false else (laws_toRouteS.f k a0).bind fun r7 => (laws_eqRouteS.f k r4 r7).bind fun r8 => (bif (!r8) then some false else (laws_markRouteS.f k r4 (1 : Int)).bind fun r9 => (bif (decide (r9.1 < (0 : Int))) then some false else (laws_eqTrie.f k r5 r3).bind fun r10 => (bif (!r10) then some false else (laws_markTrie.f k r5 (1 : Int)).bind fun r11 => (laws_heldTrie.f k r11.2 (1 : Int)).bind fun r12 => (bif (decide (r12 < (0 : Int))) then some false else (bif (r12 != r11.1) then some false else (laws_toRouteS.f k a0).bind fun r13 => (impl_TrieOf.f k r13).bind fun r14 => (laws_eqTrie.f k r14 r3).bind fun r15 => (bif (!r15) then some false else (laws_heldTrie.f k r11.2 (1 : Int)).bind fun r16 => (bif (decide (r16 < (0 : Int))) then some false else (bif (r16 != r11.1) then some false else some true))))))))))
def laws_FnExactTrieOf.K : Ctr := ⟨laws_FnExactTrieOf.ps, laws_FnExactTrieOf.rs, false, (.sl 81 (.two (.int .i64) (.two (.int .i64) (.int .i64)))), .bool, fun k x => laws_FnExactTrieOf.f k x⟩
theorem laws_FnExactTrieOf.eq (k : Nat) (x : (laws_FnExactTrieOf.K.I).den) : func laws_FnExactTrieOf.x laws_FnExactTrieOf.h laws_FnExactTrieOf.ps laws_FnExactTrieOf.rs laws_FnExactTrieOf.vs laws_FnExactTrieOf.K.I laws_FnExactTrieOf.K.O laws_FnExactTrieOf.c k x = laws_FnExactTrieOf.K.run k x := by
  show _ = laws_FnExactTrieOf.f k x
  kernel_rfl
theorem laws_FnExactTrieOf.ok : CtrOk Try.prog 12 laws_FnExactTrieOf.K :=
  CtrOk.of (fn := Try.f12) (cd := laws_FnExactTrieOf.c) (cx := laws_FnExactTrieOf.x) (hs := laws_FnExactTrieOf.h) (by kernel_rfl) (by kernel_rfl) (by kernel_rfl) (by kernel_rfl) tt_ok (envOk_cons laws_szRouteS.ok (envOk_cons laws_toRouteS.ok (envOk_cons spec_TrieOf.ok (envOk_cons impl_TrieOf.ok (envOk_cons laws_eqTrie.ok (envOk_cons laws_eqRouteS.ok (envOk_cons laws_markRouteS.ok (envOk_cons laws_markTrie.ok (envOk_cons laws_heldTrie.ok (envOk_nil)))))))))) (by kernel_rfl) (by kernel_rfl) (by kernel_rfl) (by kernel_rfl) fun k x r h => (laws_FnExactTrieOf.eq k x).trans h
end Go.Proofs.Ytbddppnhpapfkaa.DI
