/- Texts of this claim, merged by a program: XOpen. -/
import Derived.Below
import Derived.HandedShaped
import Derived.JoinedTies
import Derived.KernelRfl
import Derived.LaidMore
import Derived.Lay
import Derived.Lib.ItoaMem
import Derived.OpenShut
import Derived.ProofKit
import Derived.Shelf.Vars
import Derived.Stop.Joined
import Derived.Test.YtghjhampigbbkaaGreatDoorChecked
import Derived.Test.YtghjhampigbbkaaGreatDoorProg
import Derived.WalkKit
import GoSem.Claim
import GoSem.ClaimJoined
import GoSem.ClaimMapViews
import GoSem.PinnedTables
import Derived.Test.YtghjhampigbbkaaGreatDoorRows
import Derived.Test.YtghjhampigbbkaaGreatDoorKW1
set_option linter.unusedVariables false
set_option linter.unusedSimpArgs false
section
namespace Go.Proofs.YtghjhampigbbkaaGreatDoor
open Go.ChangeShapes Go.WideShapes Go.ChangeAt Go.RowKit
abbrev laids : List (String × DataW Unit) := Rows.importsWritesRow.laid
set_option maxRecDepth 100000 in
theorem laids_met (os : Os) (args : Array Value) : laidMetH Tryz.prog laids ((World.laidAll Tryz.prog os laids).forCall (fun _ _ => 0) ⟨#[], args, []⟩).memory :=
  laidMet_laidAll _ (by kernel_rfl) (by kernel_rfl)
theorem iface_of_trod {P : Program} {w : World} {base : Nat} {sp : Nat → Bool} {held : Bool} {fuel : Nat} {t : TypeId} {m : Array (String × TypeId)} {cs : List Value} {r : DataW Unit × List MemPlace}
    (ht : P.underlying t = some (.interface m)) (h : DataW.trod (fun _ => ()) P w base sp held fuel t cs = some r) : ∃ ev, cs = [ev] ∧ (ev = .nilIface ∨ ∃ te pe, ev = .iface te pe) := by
  cases fuel with
  | zero => simp [DataW.trod] at h
  | succ fuel =>
    cases cs with
    | nil => simp [DataW.trod, ht] at h
    | cons v vs =>
      cases vs with
      | cons u us => cases v <;> simp [DataW.trod, ht] at h
      | nil =>
        cases v
        case nilIface => exact ⟨_, rfl, .inl rfl⟩
        case iface te pe => exact ⟨_, rfl, .inr ⟨te, pe, rfl⟩⟩
        all_goals simp [DataW.trod, ht] at h
theorem err_cell {P : Program} {W : World} {n : String} {g : Nat} {cs : Array Value} {ev : Value} (hg : P.globalNamed n = some g) (hv : W.var? P n = some cs) (hc : cs.toList = [ev]) : W.cell? ⟨g, 0, none⟩ = some ev := by
  have h := World.var?_cell hg hv 0
  rw [Array.eq_one_of_toList hc] at h
  simpa using h
set_option maxRecDepth 100000 in
theorem pow_at {n1 n2 : String} {d1 d2 : DataW Unit} {rest : List (String × DataW Unit)} {W : World} (h : laidMet Tryz.prog ((n1, d1) :: (n2, d2) :: ("internal/strconv.uint64pow10", Lib.tabData .u64 Lib.pow10Tab) :: rest) W) :
    Lib.TabIs Tryz.prog W "internal/strconv.uint64pow10" .u64 Lib.pow10Tab := by
  obtain ⟨ps, ⟨g0, t0, cs0, f0, p0, q0, _, _, _, _, ⟨g1, t1, cs1, f1, p1, q1, _, _, _, _, ⟨g2, t2, cs2, f2, p2, q2, hg2, ht2, hv2, hd2, _⟩, _⟩, _⟩, _⟩ := h
  obtain rfl := Option.some.inj ((show Tryz.prog.globalNamed "internal/strconv.uint64pow10" = some 5 by kernel_rfl).symm.trans hg2)
  obtain rfl := Option.some.inj ((show (Tryz.prog.globals[5]?).map (·.type) = some 240 by kernel_rfl).symm.trans ht2)
  unfold Lib.TabIs
  rw [hv2, ← Lib.cells_of_tab Tryz.underlying240 Tryz.underlying192 (by kernel_rfl) (by kernel_rfl) hd2]
set_option maxRecDepth 100000 in
theorem errs_at {n1 n2 n3 n4 : String} {d1 d2 d3 d4 d5 d6 : DataW Unit} {rest : List (String × DataW Unit)} {W : World} (h : laidMet Tryz.prog ((n1, d1) :: (n2, d2) :: (n3, d3) :: (n4, d4) :: ("strconv.ErrRange", d5) :: ("strconv.ErrSyntax", d6) :: rest) W) :
    (∃ ev, W.cell? ⟨3, 0, none⟩ = some ev ∧ (ev = .nilIface ∨ ∃ te pe, ev = .iface te pe)) ∧ ∃ ev, W.cell? ⟨4, 0, none⟩ = some ev ∧ (ev = .nilIface ∨ ∃ te pe, ev = .iface te pe) := by
  obtain ⟨ps, ⟨g0, t0, cs0, f0, p0, q0, _, _, _, _, ⟨g1, t1, cs1, f1, p1, q1, _, _, _, _, ⟨g2, t2, cs2, f2, p2, q2, _, _, _, _, ⟨g3, t3, cs3, f3, p3, q3, _, _, _, _, ⟨g4, t4, cs4, f4, p4, q4, hg4, ht4, hv4, hd4, ⟨g5, t5, cs5, f5, p5, q5, hg5, ht5, hv5, hd5, _⟩, _⟩, _⟩, _⟩, _⟩, _⟩, _⟩ := h
  obtain rfl := Option.some.inj ((show Tryz.prog.globalNamed "strconv.ErrRange" = some 4 by kernel_rfl).symm.trans hg4)
  obtain rfl := Option.some.inj ((show Tryz.prog.globalNamed "strconv.ErrSyntax" = some 3 by kernel_rfl).symm.trans hg5)
  obtain rfl := Option.some.inj ((show (Tryz.prog.globals[4]?).map (·.type) = some 77 by kernel_rfl).symm.trans ht4)
  obtain rfl := Option.some.inj ((show (Tryz.prog.globals[3]?).map (·.type) = some 77 by kernel_rfl).symm.trans ht5)
  obtain ⟨e4, h4, k4⟩ := iface_of_trod Tryz.underlying77 hd4
  obtain ⟨e5, h5, k5⟩ := iface_of_trod Tryz.underlying77 hd5
  first
    | exact ⟨⟨e4, err_cell hg4 hv4 h4, k4⟩, ⟨e5, err_cell hg5 hv5 h5, k5⟩⟩
    | exact ⟨⟨e5, err_cell hg5 hv5 h5, k5⟩, ⟨e4, err_cell hg4 hv4 h4, k4⟩⟩
set_option maxRecDepth 100000 in
theorem laid_of (W : World) (h : laidMetH Tryz.prog laids W) (hsh : W.ShapedOpen Tryz.prog) : Laid W :=
  have h : laidMet Tryz.prog laids W := by rwa [MakeChecks.laidMetH_plain _ _ _ (by kernel_rfl)] at h
  have he := errs_at h
  { tab := pow_at h, syn := he.1, rng := he.2,
    mx := cell_of_shapedOpen_int (P := Tryz.prog) (g := 0) (t := 3) (zero := #[.int .i64 0]) hsh (by decide +kernel) (by kernel_rfl) rfl (by kernel_rfl) (by kernel_rfl) Tryz.underlying3 }
end Go.Proofs.YtghjhampigbbkaaGreatDoor
end
