/- FnExactAgree: functions as plain Lean, in the machine of values. -/
import Derived.Test.YtfaeklomiofpdaaDITab
import Derived.Test.YtfaeklomiofpdaaProg
namespace Go.Proofs.Ytfaeklomiofpdaa.DI
open Go
set_option linter.unusedVariables false
theorem ti3 : TIok Try.prog 3 ⟨.num .i64, 1, 8, [.int .i64 0], (.int .i64)⟩ := (TIok.of Try.t3 (by kernel_rfl) (by kernel_rfl) (by kernel_rfl) (by kernel_rfl) (.inr ⟨rfl, by kernel_rfl⟩) (show Program.underlying _ _ = _ by kernel_rfl))
theorem ti4 : TIok Try.prog 4 ⟨.bool, 1, 1, [.bool false], .bool⟩ := (TIok.of Try.t4 (by kernel_rfl) (by kernel_rfl) (by kernel_rfl) (by kernel_rfl) (.inr ⟨rfl, by kernel_rfl⟩) (show Program.underlying _ _ = _ by kernel_rfl))
theorem ti5 : TIok Try.prog 5 ⟨.num .u8, 1, 1, [.int .u8 0], (.int .u8)⟩ := (TIok.of Try.t5 (by kernel_rfl) (by kernel_rfl) (by kernel_rfl) (by kernel_rfl) (.inr ⟨rfl, by kernel_rfl⟩) (show Program.underlying _ _ = _ by kernel_rfl))
theorem ti9 : TIok Try.prog 9 ⟨.str, 1, 16, [.str .empty], .str⟩ := (TIok.of Try.t9 (by kernel_rfl) (by kernel_rfl) (by kernel_rfl) (by kernel_rfl) (.inr ⟨rfl, by kernel_rfl⟩) (show Program.underlying _ _ = _ by kernel_rfl))
theorem ti22 : TIok Try.prog 22 ⟨.sl 5, 1, 24, [.nils], (.sl 5 (.int .u8))⟩ := (TIok.of Try.t22 (by kernel_rfl) (by kernel_rfl) (by kernel_rfl) (by kernel_rfl) (.inr ⟨rfl, by kernel_rfl⟩) (show Program.underlying _ _ = _ by kernel_rfl))
theorem ti86 : TIok Try.prog 86 ⟨.sl 9, 1, 24, [.nils], (.sl 9 .str)⟩ := (TIok.of Try.t86 (by kernel_rfl) (by kernel_rfl) (by kernel_rfl) (by kernel_rfl) (.inr ⟨rfl, by kernel_rfl⟩) (show Program.underlying _ _ = _ by kernel_rfl))
theorem ti88 : TIok Try.prog 88 ⟨.st [(0, 3), (1, 86), (2, 4)], 3, 40, [.int .i64 0, .nils, .bool false], (.two (.int .i64) (.two (.sl 9 .str) .bool))⟩ := (TIok.of Try.t88 (by kernel_rfl) (by kernel_rfl) (by kernel_rfl) (by kernel_rfl) (.inl ⟨rfl, by kernel_rfl⟩) (und_st (F := fieldsOf Try.t87) (by kernel_rfl) (by kernel_rfl)))
theorem ti90 : TIok Try.prog 90 ⟨.st [(0, 3), (1, 86), (2, 4)], 3, 40, [.int .i64 0, .nils, .bool false], (.two (.int .i64) (.two (.sl 9 .str) .bool))⟩ := (TIok.of Try.t90 (by kernel_rfl) (by kernel_rfl) (by kernel_rfl) (by kernel_rfl) (.inl ⟨rfl, by kernel_rfl⟩) (und_st (F := fieldsOf Try.t87) (by kernel_rfl) (by kernel_rfl)))
def tt : Nat → Option TI := look none [(3, some ⟨.num .i64, 1, 8, [.int .i64 0], (.int .i64)⟩), (4, some ⟨.bool, 1, 1, [.bool false], .bool⟩), (5, some ⟨.num .u8, 1, 1, [.int .u8 0], (.int .u8)⟩), (9, some ⟨.str, 1, 16, [.str .empty], .str⟩), (22, some ⟨.sl 5, 1, 24, [.nils], (.sl 5 (.int .u8))⟩), (86, some ⟨.sl 9, 1, 24, [.nils], (.sl 9 .str)⟩), (88, some ⟨.st [(0, 3), (1, 86), (2, 4)], 3, 40, [.int .i64 0, .nils, .bool false], (.two (.int .i64) (.two (.sl 9 .str) .bool))⟩), (90, some ⟨.st [(0, 3), (1, 86), (2, 4)], 3, 40, [.int .i64 0, .nils, .bool false], (.two (.int .i64) (.two (.sl 9 .str) .bool))⟩)]
theorem tt_ok : TTok Try.prog tt := tt_cons ti3 (tt_cons ti4 (tt_cons ti5 (tt_cons ti9 (tt_cons ti22 (tt_cons ti86 (tt_cons ti88 (tt_cons ti90 (tt_nil))))))))
end Go.Proofs.Ytfaeklomiofpdaa.DI
