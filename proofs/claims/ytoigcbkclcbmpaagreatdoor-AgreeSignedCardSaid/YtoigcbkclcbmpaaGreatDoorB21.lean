/- Part 21 of the texts of this claim, one behind the other. -/
import Derived.Test.YtoigcbkclcbmpaaGreatDoorB20
set_option linter.unusedVariables false
set_option linter.unusedSimpArgs false
set_option maxRecDepth 100000
namespace Go.Proofs.YtoigcbkclcbmpaaGreatDoor
open Go.Px Go.Ed
theorem C2o : B6C (List.range' 8 8) B8U = true := by decide +kernel

end Go.Proofs.YtoigcbkclcbmpaaGreatDoor
