/- Part 22 of the texts of this claim, one behind the other. -/
import Derived.Test.YtoigcbkclcbmpaaGreatDoorB21
set_option linter.unusedVariables false
set_option linter.unusedSimpArgs false
set_option maxRecDepth 100000
namespace Go.Proofs.YtoigcbkclcbmpaaGreatDoor
open Go.Px Go.Ed
theorem C2p : B6C (List.range' 16 8) B8U = true := by decide +kernel

end Go.Proofs.YtoigcbkclcbmpaaGreatDoor
