/- FnRoutes: functions as plain Lean, in the machine of values. -/
import Derived.Test.YtfaeklomiofpdaaDITab
import Derived.Test.YtfaeklomiofpdaaProg
import Derived.Test.YtfaeklomiofpdaaIns65
namespace Go.Proofs.Ytfaeklomiofpdaa.DI
open Go
set_option linter.unusedVariables false
theorem ti3 : TIok Try.prog 3 ⟨.num .i64, 1, 8, [.int .i64 0], (.int .i64)⟩ := (TIok.of Try.t3 (by kernel_rfl) (by kernel_rfl) (by kernel_rfl) (by kernel_rfl) (.inr ⟨rfl, by kernel_rfl⟩) (show Program.underlying _ _ = _ by kernel_rfl))
theorem ti4 : TIok Try.prog 4 ⟨.bool, 1, 1, [.bool false], .bool⟩ := (TIok.of Try.t4 (by kernel_rfl) (by kernel_rfl) (by kernel_rfl) (by kernel_rfl) (.inr ⟨rfl, by kernel_rfl⟩) (show Program.underlying _ _ = _ by kernel_rfl))
theorem ti5 : TIok Try.prog 5 ⟨.num .u8, 1, 1, [.int .u8 0], (.int .u8)⟩ := (TIok.of Try.t5 (by kernel_rfl) (by kernel_rfl) (by kernel_rfl) (by kernel_rfl) (.inr ⟨rfl, by kernel_rfl⟩) (show Program.underlying _ _ = _ by kernel_rfl))
theorem ti22 : TIok Try.prog 22 ⟨.sl 5, 1, 24, [.nils], (.sl 5 (.int .u8))⟩ := (TIok.of Try.t22 (by kernel_rfl) (by kernel_rfl) (by kernel_rfl) (by kernel_rfl) (.inr ⟨rfl, by kernel_rfl⟩) (show Program.underlying _ _ = _ by kernel_rfl))
theorem ti24 : TIok Try.prog 24 ⟨.sl 35, 1, 24, [.nils], (.sl 35 (.two (.int .i64) (.two (.int .i64) (.int .i64))))⟩ := (TIok.of Try.t24 (by kernel_rfl) (by kernel_rfl) (by kernel_rfl) (by kernel_rfl) (.inr ⟨rfl, by kernel_rfl⟩) (show Program.underlying _ _ = _ by kernel_rfl))
theorem ti27 : TIok Try.prog 27 ⟨.sl 3, 1, 24, [.nils], (.sl 3 (.int .i64))⟩ := (TIok.of Try.t27 (by kernel_rfl) (by kernel_rfl) (by kernel_rfl) (by kernel_rfl) (.inr ⟨rfl, by kernel_rfl⟩) (show Program.underlying _ _ = _ by kernel_rfl))
theorem ti29 : TIok Try.prog 29 ⟨.st [(0, 3), (1, 3)], 2, 16, [.int .i64 0, .int .i64 0], (.two (.int .i64) (.int .i64))⟩ := (TIok.of Try.t29 (by kernel_rfl) (by kernel_rfl) (by kernel_rfl) (by kernel_rfl) (.inl ⟨rfl, by kernel_rfl⟩) (und_st (F := fieldsOf Try.t28) (by kernel_rfl) (by kernel_rfl)))
theorem ti35 : TIok Try.prog 35 ⟨.st [(0, 29), (2, 3)], 3, 24, [.int .i64 0, .int .i64 0, .int .i64 0], (.two (.int .i64) (.two (.int .i64) (.int .i64)))⟩ := (TIok.of Try.t35 (by kernel_rfl) (by kernel_rfl) (by kernel_rfl) (by kernel_rfl) (.inl ⟨rfl, by kernel_rfl⟩) (und_st (F := fieldsOf Try.t34) (by kernel_rfl) (by kernel_rfl)))
theorem ti139 : TIok Try.prog 139 ⟨.st [(0, 22), (1, 3), (2, 3)], 3, 40, [.nils, .int .i64 0, .int .i64 0], (.two (.sl 5 (.int .u8)) (.two (.int .i64) (.int .i64)))⟩ := (TIok.of Try.t139 (by kernel_rfl) (by kernel_rfl) (by kernel_rfl) (by kernel_rfl) (.inl ⟨rfl, by kernel_rfl⟩) (und_st (F := fieldsOf Try.t138) (by kernel_rfl) (by kernel_rfl)))
def tt : Nat → Option TI := look none [(3, some ⟨.num .i64, 1, 8, [.int .i64 0], (.int .i64)⟩), (4, some ⟨.bool, 1, 1, [.bool false], .bool⟩), (5, some ⟨.num .u8, 1, 1, [.int .u8 0], (.int .u8)⟩), (22, some ⟨.sl 5, 1, 24, [.nils], (.sl 5 (.int .u8))⟩), (24, some ⟨.sl 35, 1, 24, [.nils], (.sl 35 (.two (.int .i64) (.two (.int .i64) (.int .i64))))⟩), (27, some ⟨.sl 3, 1, 24, [.nils], (.sl 3 (.int .i64))⟩), (29, some ⟨.st [(0, 3), (1, 3)], 2, 16, [.int .i64 0, .int .i64 0], (.two (.int .i64) (.int .i64))⟩), (35, some ⟨.st [(0, 29), (2, 3)], 3, 24, [.int .i64 0, .int .i64 0, .int .i64 0], (.two (.int .i64) (.two (.int .i64) (.int .i64)))⟩), (139, some ⟨.st [(0, 22), (1, 3), (2, 3)], 3, 40, [.nils, .int .i64 0, .int .i64 0], (.two (.sl 5 (.int .u8)) (.two (.int .i64) (.int .i64)))⟩)]
theorem tt_ok : TTok Try.prog tt := tt_cons ti3 (tt_cons ti4 (tt_cons ti5 (tt_cons ti22 (tt_cons ti24 (tt_cons ti27 (tt_cons ti29 (tt_cons ti35 (tt_cons ti139 (tt_nil)))))))))
end Go.Proofs.Ytfaeklomiofpdaa.DI
