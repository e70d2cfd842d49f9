/- Texts of this claim, merged by a program: XWp. -/
import Derived.Lib.Bytealg
import Derived.Lib.CountLaws
import Derived.Lib.Replace
import Derived.Test.YtghjhampigbbkaaGreatDoorKW21
set_option linter.unusedVariables false
set_option linter.unusedSimpArgs false
section
namespace Go.Proofs.YtghjhampigbbkaaGreatDoor.PA
open Go.Lib
theorem esc_nil : esc [] = [] := rfl
end Go.Proofs.YtghjhampigbbkaaGreatDoor.PA
end
