/- Texts of ShelfSieve Pl. -/
import Derived.Test.YtibdelbpkfeefaaGreatDoorCMd
import Derived.KernelRfl
set_option linter.unusedSimpArgs false
set_option linter.unusedVariables false
set_option linter.unusedSectionVars false
namespace Go.Y
theorem TC:dt 60001=some true:=by kernel_rfl
end Go.Y
