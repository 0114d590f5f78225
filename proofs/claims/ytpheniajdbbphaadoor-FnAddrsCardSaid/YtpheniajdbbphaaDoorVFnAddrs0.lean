/- FnAddrs: functions as plain Lean, in the machine of values. -/
import Derived.Test.YtpheniajdbbphaaDoorDITab
import Derived.Test.YtpheniajdbbphaaDoorProg
import Derived.Test.YtpheniajdbbphaaDoorTxtFnAddrs
namespace Go.Proofs.YtpheniajdbbphaaDoor.DI
open Go
set_option linter.unusedVariables false
theorem ti3 : TIok Tryd.prog 3 ⟨.num .i64, 1, 8, [.int .i64 0], (.int .i64)⟩ := (TIok.of Tryd.t3 (by kernel_rfl) (by kernel_rfl) (by kernel_rfl) (by kernel_rfl) (.inr ⟨rfl, by kernel_rfl⟩) (show Program.underlying _ _ = _ by kernel_rfl))
theorem ti4 : TIok Tryd.prog 4 ⟨.bool, 1, 1, [.bool false], .bool⟩ := (TIok.of Tryd.t4 (by kernel_rfl) (by kernel_rfl) (by kernel_rfl) (by kernel_rfl) (.inr ⟨rfl, by kernel_rfl⟩) (show Program.underlying _ _ = _ by kernel_rfl))
theorem ti5 : TIok Tryd.prog 5 ⟨.num .u8, 1, 1, [.int .u8 0], (.int .u8)⟩ := (TIok.of Tryd.t5 (by kernel_rfl) (by kernel_rfl) (by kernel_rfl) (by kernel_rfl) (.inr ⟨rfl, by kernel_rfl⟩) (show Program.underlying _ _ = _ by kernel_rfl))
theorem ti9 : TIok Tryd.prog 9 ⟨.str, 1, 16, [.str .empty], .str⟩ := (TIok.of Tryd.t9 (by kernel_rfl) (by kernel_rfl) (by kernel_rfl) (by kernel_rfl) (.inr ⟨rfl, by kernel_rfl⟩) (show Program.underlying _ _ = _ by kernel_rfl))
theorem ti22 : TIok Tryd.prog 22 ⟨.sl 5, 1, 24, [.nils], (.sl 5 (.int .u8))⟩ := (TIok.of Tryd.t22 (by kernel_rfl) (by kernel_rfl) (by kernel_rfl) (by kernel_rfl) (.inr ⟨rfl, by kernel_rfl⟩) (show Program.underlying _ _ = _ by kernel_rfl))
theorem ti24 : TIok Tryd.prog 24 ⟨.sl 3, 1, 24, [.nils], (.sl 3 (.int .i64))⟩ := (TIok.of Tryd.t24 (by kernel_rfl) (by kernel_rfl) (by kernel_rfl) (by kernel_rfl) (.inr ⟨rfl, by kernel_rfl⟩) (show Program.underlying _ _ = _ by kernel_rfl))
theorem ti26 : TIok Tryd.prog 26 ⟨.st [(0, 3), (1, 3)], 2, 16, [.int .i64 0, .int .i64 0], (.two (.int .i64) (.int .i64))⟩ := (TIok.of Tryd.t26 (by kernel_rfl) (by kernel_rfl) (by kernel_rfl) (by kernel_rfl) (.inl ⟨rfl, by kernel_rfl⟩) (und_st (F := fieldsOf Tryd.t25) (by kernel_rfl) (by kernel_rfl)))
theorem ti51 : TIok Tryd.prog 51 ⟨.sl 9, 1, 24, [.nils], (.sl 9 .str)⟩ := (TIok.of Tryd.t51 (by kernel_rfl) (by kernel_rfl) (by kernel_rfl) (by kernel_rfl) (.inr ⟨rfl, by kernel_rfl⟩) (show Program.underlying _ _ = _ by kernel_rfl))
theorem ti59 : TIok Tryd.prog 59 ⟨.st [(0, 22), (1, 3), (2, 3)], 3, 40, [.nils, .int .i64 0, .int .i64 0], (.two (.sl 5 (.int .u8)) (.two (.int .i64) (.int .i64)))⟩ := (TIok.of Tryd.t59 (by kernel_rfl) (by kernel_rfl) (by kernel_rfl) (by kernel_rfl) (.inl ⟨rfl, by kernel_rfl⟩) (und_st (F := fieldsOf Tryd.t58) (by kernel_rfl) (by kernel_rfl)))
def tt : Nat → Option TI := look none [(3, some ⟨.num .i64, 1, 8, [.int .i64 0], (.int .i64)⟩), (4, some ⟨.bool, 1, 1, [.bool false], .bool⟩), (5, some ⟨.num .u8, 1, 1, [.int .u8 0], (.int .u8)⟩), (9, some ⟨.str, 1, 16, [.str .empty], .str⟩), (22, some ⟨.sl 5, 1, 24, [.nils], (.sl 5 (.int .u8))⟩), (24, some ⟨.sl 3, 1, 24, [.nils], (.sl 3 (.int .i64))⟩), (26, some ⟨.st [(0, 3), (1, 3)], 2, 16, [.int .i64 0, .int .i64 0], (.two (.int .i64) (.int .i64))⟩), (51, some ⟨.sl 9, 1, 24, [.nils], (.sl 9 .str)⟩), (59, some ⟨.st [(0, 22), (1, 3), (2, 3)], 3, 40, [.nils, .int .i64 0, .int .i64 0], (.two (.sl 5 (.int .u8)) (.two (.int .i64) (.int .i64)))⟩)]
theorem tt_ok : TTok Tryd.prog tt := tt_cons ti3 (tt_cons ti4 (tt_cons ti5 (tt_cons ti9 (tt_cons ti22 (tt_cons ti24 (tt_cons ti26 (tt_cons ti51 (tt_cons ti59 (tt_nil)))))))))
end Go.Proofs.YtpheniajdbbphaaDoor.DI
