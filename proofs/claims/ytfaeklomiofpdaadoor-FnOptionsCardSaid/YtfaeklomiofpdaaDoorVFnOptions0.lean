/- FnOptions: functions as plain Lean, in the machine of values. -/
import Derived.Test.YtfaeklomiofpdaaDoorDITab
import Derived.Test.YtfaeklomiofpdaaDoorProg
import Derived.Test.YtfaeklomiofpdaaDoorTxtFnOptions
namespace Go.Proofs.YtfaeklomiofpdaaDoor.DI
open Go
set_option linter.unusedVariables false
theorem ti3 : TIok Tryd.prog 3 ⟨.num .i64, 1, 8, [.int .i64 0], (.int .i64)⟩ := (TIok.of Tryd.t3 (by kernel_rfl) (by kernel_rfl) (by kernel_rfl) (by kernel_rfl) (.inr ⟨rfl, by kernel_rfl⟩) (show Program.underlying _ _ = _ by kernel_rfl))
theorem ti4 : TIok Tryd.prog 4 ⟨.bool, 1, 1, [.bool false], .bool⟩ := (TIok.of Tryd.t4 (by kernel_rfl) (by kernel_rfl) (by kernel_rfl) (by kernel_rfl) (.inr ⟨rfl, by kernel_rfl⟩) (show Program.underlying _ _ = _ by kernel_rfl))
theorem ti5 : TIok Tryd.prog 5 ⟨.num .u8, 1, 1, [.int .u8 0], (.int .u8)⟩ := (TIok.of Tryd.t5 (by kernel_rfl) (by kernel_rfl) (by kernel_rfl) (by kernel_rfl) (.inr ⟨rfl, by kernel_rfl⟩) (show Program.underlying _ _ = _ by kernel_rfl))
theorem ti9 : TIok Tryd.prog 9 ⟨.str, 1, 16, [.str .empty], .str⟩ := (TIok.of Tryd.t9 (by kernel_rfl) (by kernel_rfl) (by kernel_rfl) (by kernel_rfl) (.inr ⟨rfl, by kernel_rfl⟩) (show Program.underlying _ _ = _ by kernel_rfl))
theorem ti22 : TIok Tryd.prog 22 ⟨.sl 9, 1, 24, [.nils], (.sl 9 .str)⟩ := (TIok.of Tryd.t22 (by kernel_rfl) (by kernel_rfl) (by kernel_rfl) (by kernel_rfl) (.inr ⟨rfl, by kernel_rfl⟩) (show Program.underlying _ _ = _ by kernel_rfl))
theorem ti28 : TIok Tryd.prog 28 ⟨.st [(0, 3), (1, 22), (2, 4)], 3, 40, [.int .i64 0, .nils, .bool false], (.two (.int .i64) (.two (.sl 9 .str) .bool))⟩ := (TIok.of Tryd.t28 (by kernel_rfl) (by kernel_rfl) (by kernel_rfl) (by kernel_rfl) (.inl ⟨rfl, by kernel_rfl⟩) (und_st (F := fieldsOf Tryd.t23) (by kernel_rfl) (by kernel_rfl)))
theorem ti36 : TIok Tryd.prog 36 ⟨.sl 5, 1, 24, [.nils], (.sl 5 (.int .u8))⟩ := (TIok.of Tryd.t36 (by kernel_rfl) (by kernel_rfl) (by kernel_rfl) (by kernel_rfl) (.inr ⟨rfl, by kernel_rfl⟩) (show Program.underlying _ _ = _ by kernel_rfl))
theorem ti76 : TIok Tryd.prog 76 ⟨.st [(0, 36), (1, 3), (2, 3)], 3, 40, [.nils, .int .i64 0, .int .i64 0], (.two (.sl 5 (.int .u8)) (.two (.int .i64) (.int .i64)))⟩ := (TIok.of Tryd.t76 (by kernel_rfl) (by kernel_rfl) (by kernel_rfl) (by kernel_rfl) (.inl ⟨rfl, by kernel_rfl⟩) (und_st (F := fieldsOf Tryd.t75) (by kernel_rfl) (by kernel_rfl)))
theorem ti80 : TIok Tryd.prog 80 ⟨.sl 3, 1, 24, [.nils], (.sl 3 (.int .i64))⟩ := (TIok.of Tryd.t80 (by kernel_rfl) (by kernel_rfl) (by kernel_rfl) (by kernel_rfl) (.inr ⟨rfl, by kernel_rfl⟩) (show Program.underlying _ _ = _ by kernel_rfl))
def tt : Nat → Option TI := look none [(3, some ⟨.num .i64, 1, 8, [.int .i64 0], (.int .i64)⟩), (4, some ⟨.bool, 1, 1, [.bool false], .bool⟩), (5, some ⟨.num .u8, 1, 1, [.int .u8 0], (.int .u8)⟩), (9, some ⟨.str, 1, 16, [.str .empty], .str⟩), (22, some ⟨.sl 9, 1, 24, [.nils], (.sl 9 .str)⟩), (28, some ⟨.st [(0, 3), (1, 22), (2, 4)], 3, 40, [.int .i64 0, .nils, .bool false], (.two (.int .i64) (.two (.sl 9 .str) .bool))⟩), (36, some ⟨.sl 5, 1, 24, [.nils], (.sl 5 (.int .u8))⟩), (76, some ⟨.st [(0, 36), (1, 3), (2, 3)], 3, 40, [.nils, .int .i64 0, .int .i64 0], (.two (.sl 5 (.int .u8)) (.two (.int .i64) (.int .i64)))⟩), (80, some ⟨.sl 3, 1, 24, [.nils], (.sl 3 (.int .i64))⟩)]
theorem tt_ok : TTok Tryd.prog tt := tt_cons ti3 (tt_cons ti4 (tt_cons ti5 (tt_cons ti9 (tt_cons ti22 (tt_cons ti28 (tt_cons ti36 (tt_cons ti76 (tt_cons ti80 (tt_nil)))))))))
end Go.Proofs.YtfaeklomiofpdaaDoor.DI
