/- The tied card of ImportsRound: for every input the law returns true, where the seven listed variables hold what the program's text lays. -/
import Derived.SevenTiedAt
import Derived.Test.YtghjhampigbbkaaGreatDoorRows
import Derived.Test.YtghjhampigbbkaaGreatDoorKW1
import Derived.Test.YtghjhampigbbkaaGreatDoorKW2
import Derived.Test.YtghjhampigbbkaaGreatDoorKW3
import Derived.Test.YtghjhampigbbkaaGreatDoorKW4
import Derived.Test.YtghjhampigbbkaaGreatDoorKW5
import Derived.Test.YtghjhampigbbkaaGreatDoorKW6
import Derived.Test.YtghjhampigbbkaaGreatDoorKW7
import Derived.Test.YtghjhampigbbkaaGreatDoorKW8
import Derived.Test.YtghjhampigbbkaaGreatDoorKW9
import Derived.Test.YtghjhampigbbkaaGreatDoorKW10
import Derived.Test.YtghjhampigbbkaaGreatDoorKW11
import Derived.Test.YtghjhampigbbkaaGreatDoorKW12
import Derived.Test.YtghjhampigbbkaaGreatDoorKW13
import Derived.Test.YtghjhampigbbkaaGreatDoorKW14
import Derived.Test.YtghjhampigbbkaaGreatDoorKW15
import Derived.Test.YtghjhampigbbkaaGreatDoorKW16
import Derived.Test.YtghjhampigbbkaaGreatDoorKW17
import Derived.Test.YtghjhampigbbkaaGreatDoorKW18
import Derived.Test.YtghjhampigbbkaaGreatDoorKW19
import Derived.Test.YtghjhampigbbkaaGreatDoorKW20
import Derived.Test.YtghjhampigbbkaaGreatDoorKW21
import Derived.Test.YtghjhampigbbkaaGreatDoorKW22
import Derived.Test.YtghjhampigbbkaaGreatDoorKW23
import Derived.Test.YtghjhampigbbkaaGreatDoorKW24
import Derived.Test.YtghjhampigbbkaaGreatDoorCards
import Derived.Test.YtghjhampigbbkaaGreatDoorTie
import Derived.Test.YtghjhampigbbkaaGreatDoorKR1
import Derived.Test.YtghjhampigbbkaaGreatDoorKR2
import Derived.Test.YtghjhampigbbkaaGreatDoorKR3
import Derived.Test.YtghjhampigbbkaaGreatDoorKR4
import Derived.Test.YtghjhampigbbkaaGreatDoorKR5
set_option linter.unusedVariables false
set_option linter.unusedSimpArgs false
section
namespace Go.Proofs.YtghjhampigbbkaaGreatDoor
open Go
theorem importsRound_card : Rows.ImportsRoundCardSaid :=
  Claim7.holds_tied_plain_at .later [] [.data, .data, .data, .data, .sentinel, .sentinel, .pinned] true (true, "3d1ad05edf3b8d610dd4a257faf82e880b1236aad83bfc75db197adc04b0ee8b") true
    round.over (fun _ h => by cases h) (by kernel_rfl) (fun _ h => by cases h) importsRound_row_tie rfl ⟨rfl, rfl⟩ (by kernel_rfl) rfl
    (fun f fn hf hfn => by
      obtain rfl : f = 5 := Option.some.inj ((show Tryz.prog.funcNamed "casebook/casebooklaw13.ImportsRound" = some 5 by kernel_rfl).symm.trans hf) |>.symm
      obtain rfl : fn = Tryz.f5 := (Option.some.inj (Tryz.func5.symm.trans hfn)).symm
      exact ⟨by kernel_rfl, fun j t ht => by
        rw [Tryz.params5] at ht
        have hm : t ∈ [22, 5] := by simpa using Array.mem_of_getElem? ht
        have hall : ([22, 5].all fun u => !Tryz.prog.wantsStandIn u) = true := by kernel_rfl
        exact (show Tryz.prog.wantsStandIn t = false by simpa using List.all_eq_true.1 hall t hm)⟩)
    (by kernel_rfl)
end Go.Proofs.YtghjhampigbbkaaGreatDoor
end
