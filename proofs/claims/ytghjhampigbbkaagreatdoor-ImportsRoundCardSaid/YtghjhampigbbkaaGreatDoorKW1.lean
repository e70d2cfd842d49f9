/- Texts of this claim, merged by a program: Laid. -/
import Derived.Below
import Derived.Lib.ItoaMem
import Derived.Test.YtghjhampigbbkaaGreatDoorProg
import Derived.WalkKit
set_option linter.unusedVariables false
set_option linter.unusedSimpArgs false
section
namespace Go.Proofs.YtghjhampigbbkaaGreatDoor
open Go.RowKit
structure Laid (w : World) : Prop where
  tab : Lib.TabIs Tryz.prog w "internal/strconv.uint64pow10" .u64 Lib.pow10Tab
  syn : ∃ ev, w.cell? ⟨3, 0, none⟩ = some ev ∧ (ev = .nilIface ∨ ∃ te pe, ev = .iface te pe)
  rng : ∃ ev, w.cell? ⟨4, 0, none⟩ = some ev ∧ (ev = .nilIface ∨ ∃ te pe, ev = .iface te pe)
  mx : ∃ m, w.cell? ⟨0, 0, none⟩ = some (.int .i64 m)
theorem cell_below {w W : World} (hb : Below w.heap.size w W) {a : Addr} {v : Value} (h : w.cell? a = some v) : W.cell? a = some v :=
  (hb.cell (World.block_lt_of_cell? w a h)).trans h
theorem var_below {P : Program} {w W : World} (hb : Below w.heap.size w W) {n : String} {cs : Array Value} (h : w.var? P n = some cs) : W.var? P n = some cs := by
  unfold World.var? at h ⊢
  cases hg : P.globalNamed n with
  | none => simp [hg] at h
  | some g =>
    simp only [hg, Option.bind_some] at h ⊢
    have hlt : g < w.heap.size := by
      rcases Nat.lt_or_ge g w.heap.size with h' | h'
      · exact h'
      · simp [Array.getElem?_eq_none h'] at h
    rw [hb.block g hlt]
    exact h
theorem Laid.below {w W : World} (h : Laid w) (hb : Below w.heap.size w W) : Laid W where
  tab := var_below hb h.tab
  syn := let ⟨ev, h1, h2⟩ := h.syn; ⟨ev, cell_below hb h1, h2⟩
  rng := let ⟨ev, h1, h2⟩ := h.rng; ⟨ev, cell_below hb h1, h2⟩
  mx := let ⟨m, h1⟩ := h.mx; ⟨m, cell_below hb h1⟩
end Go.Proofs.YtghjhampigbbkaaGreatDoor
end
