/- The machine of values: what is known of the program's own variables. -/
import Derived.Test.YtfaeklomiofpdaaDoorDI
import Derived.Test.YtfaeklomiofpdaaDoorProg
import Derived.Lib.LaidTab
import Derived.Shelf.Strconv.Itoa3
namespace Go.Proofs.YtfaeklomiofpdaaDoor.DI
open Go
set_option linter.unusedVariables false
/-- Their blocks. -/
def GB : Nat → Prop := fun b => b = 3 ∨ b = 0 ∨ b = 1 ∨ b = 2
/-- What they hold. -/
def GOK : World → Prop := fun w => (∃ t f, w.heap[3]? = some (.cells (Lib.pow10Tab.map fun z => Value.int .u64 z).toArray t f)) ∧ (∃ m, w.cell? ⟨0, 0, none⟩ = some (.int .i64 m)) ∧ (∃ te pe, w.cell? ⟨1, 0, none⟩ = some (.iface te pe)) ∧ (∃ te pe, w.cell? ⟨2, 0, none⟩ = some (.iface te pe))
theorem cellG {w w' : World} {a : Addr} (h : w'.heap[a.block]? = w.heap[a.block]?) : w'.cell? a = w.cell? a := by unfold World.cell?; rw [h]
theorem GOK.keep {w w' : World} (h : ∀ b, GB b → w'.heap[b]? = w.heap[b]?) (k : GOK w) : GOK w' := by
  unfold GOK at k ⊢
  have hP := h 3 (.inl rfl)
  have c1 := cellG (w := w) (w' := w') (a := ⟨0, 0, none⟩) (h 0 (.inr (.inl rfl)))
  have c2 := cellG (w := w) (w' := w') (a := ⟨1, 0, none⟩) (h 1 (.inr (.inr (.inl rfl))))
  have c3 := cellG (w := w) (w' := w') (a := ⟨2, 0, none⟩) (h 2 (.inr (.inr (.inr rfl))))
  rw [hP, c1, c2, c3]
  exact k
/-- The table as the contracts ask for it. -/
theorem GOK.tab {w : World} (k : GOK w) {name : String} (hg : Tryd.prog.globalNamed name = some 3) : Lib.TabIs Tryd.prog w name .u64 Lib.pow10Tab := by
  obtain ⟨t, f, h⟩ := k.1
  unfold Lib.TabIs World.var?
  rw [hg, Option.bind_some, h]
theorem tabG {w : World} {name : String} (hg : Tryd.prog.globalNamed name = some 3) (h : Lib.TabIs Tryd.prog w name .u64 Lib.pow10Tab) : ∃ t f, w.heap[3]? = some (.cells (Lib.pow10Tab.map fun z => Value.int .u64 z).toArray t f) := by
  unfold Lib.TabIs World.var? at h
  rw [hg, Option.bind_some] at h
  split at h
  · rename_i cs t f e
    cases h
    exact ⟨t, f, e⟩
  · cases h
end Go.Proofs.YtfaeklomiofpdaaDoor.DI
