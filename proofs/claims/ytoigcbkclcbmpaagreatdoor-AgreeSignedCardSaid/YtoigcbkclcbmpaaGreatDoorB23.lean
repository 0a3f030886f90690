/- Part 23 of the texts of this claim, one behind the other. -/
import Derived.Test.YtoigcbkclcbmpaaGreatDoorB22
set_option linter.unusedVariables false
set_option linter.unusedSimpArgs false
set_option maxRecDepth 100000
namespace Go.Proofs.YtoigcbkclcbmpaaGreatDoor
open Go.Px Go.Ed
theorem C2q : B6C (List.range' 24 8) B8U = true := by decide +kernel

end Go.Proofs.YtoigcbkclcbmpaaGreatDoor
