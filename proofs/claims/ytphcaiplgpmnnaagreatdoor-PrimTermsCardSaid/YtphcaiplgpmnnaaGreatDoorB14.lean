/- Part 14 of the texts of this claim, one behind the other. -/
import Derived.Test.YtphcaiplgpmnnaaGreatDoorB13
import Derived.Laws.StructEq
import Derived.Laws.Cover3
set_option linter.unusedVariables false
set_option linter.unusedSimpArgs false
set_option maxRecDepth 100000
set_option maxRecDepth 10000
namespace Go.Ed
variable {n : Nat} [NeZero n]
theorem asc_x (x1 y1 x2 y2 x3 y3 d : Fin n) (h1 : y1*y1 - x1*x1 = 1 + d*x1*x1*y1*y1) (h2 : y2*y2 - x2*x2 = 1 + d*x2*x2*y2*y2) (h3 : y3*y3 - x3*x3 = 1 + d*x3*x3*y3*y3) :
    ((x1*y2+x2*y1)*(1-d*x1*x2*y1*y2)*y3 + (y1*y2+x1*x2)*(1+d*x1*x2*y1*y2)*x3) * ((1-d*x2*x3*y2*y3)*(1+d*x2*x3*y2*y3) + d*x1*y1*(x2*y3+x3*y2)*(y2*y3+x2*x3))
    = (x1*(y2*y3+x2*x3)*(1+d*x2*x3*y2*y3) + y1*(x2*y3+x3*y2)*(1-d*x2*x3*y2*y3)) * ((1-d*x1*x2*y1*y2)*(1+d*x1*x2*y1*y2) + d*(x1*y2+x2*y1)*(y1*y2+x1*x2)*x3*y3) := by
  have e1 : y1*y1 - x1*x1 - (1 + d*x1*x1*y1*y1) = 0 := by grind
  have e2 : y2*y2 - x2*x2 - (1 + d*x2*x2*y2*y2) = 0 := by grind
  have e3 : y3*y3 - x3*x3 - (1 + d*x3*x3*y3*y3) = 0 := by grind
  have e : ((x1*y2+x2*y1)*(1-d*x1*x2*y1*y2)*y3 + (y1*y2+x1*x2)*(1+d*x1*x2*y1*y2)*x3) * ((1-d*x2*x3*y2*y3)*(1+d*x2*x3*y2*y3) + d*x1*y1*(x2*y3+x3*y2)*(y2*y3+x2*x3))
    - (x1*(y2*y3+x2*x3)*(1+d*x2*x3*y2*y3) + y1*(x2*y3+x3*y2)*(1-d*x2*x3*y2*y3)) * ((1-d*x1*x2*y1*y2)*(1+d*x1*x2*y1*y2) + d*(x1*y2+x2*y1)*(y1*y2+x1*x2)*x3*y3)
    = (y1*x2*x2*x2*y2*y2*y2*y2*x3*x3*y3*d*d + y1*x2*x2*x2*x2*y2*y2*y2*x3*y3*y3*d*d - x1*x2*x2*x2*y2*y2*y2*y2*x3*y3*y3*d*d - x1*x2*x2*x2*x2*y2*y2*y2*x3*x3*y3*d*d - y1*x2*y2*y2*y2*y2*x3*x3*y3*d - y1*x2*x2*y2*y2*y2*x3*x3*x3*d + y1*x2*x2*x2*y2*y2*y3*y3*y3*d + y1*x2*x2*x2*x2*y2*x3*y3*y3*d + x1*x2*y2*y2*y2*y2*x3*y3*y3*d + x1*x2*x2*y2*y2*y2*y3*y3*y3*d - x1*x2*x2*x2*y2*y2*x3*x3*x3*d - x1*x2*x2*x2*x2*y2*x3*x3*y3*d - y1*x2*x2*y2*y2*y2*x3*d - y1*x2*x2*x2*y2*y2*y3*d - x1*x2*x2*y2*y2*y2*y3*d - x1*x2*x2*x2*y2*y2*x3*d) * (y1*y1 - x1*x1 - (1 + d*x1*x1*y1*y1)) + (x1*y1*y1*x2*y2*y2*x3*x3*x3*y3*y3*d*d - x1*y1*y1*x2*x2*y2*x3*x3*y3*y3*y3*d*d - x1*x1*y1*x2*y2*y2*x3*x3*y3*y3*y3*d*d + x1*x1*y1*x2*x2*y2*x3*x3*x3*y3*y3*d*d - y1*y1*y1*y2*x3*x3*x3*y3*y3*d - y1*y1*y1*x2*x3*x3*y3*y3*y3*d + y1*y1*y1*x2*y2*y2*x3*x3*y3*d + y1*y1*y1*x2*x2*y2*x3*y3*y3*d - x1*y1*y1*y2*x3*x3*y3*y3*y3*d - x1*y1*y1*x2*x3*x3*x3*y3*y3*d - x1*y1*y1*x2*y2*y2*x3*y3*y3*d - x1*y1*y1*x2*x2*y2*x3*x3*y3*d + x1*x1*y1*y2*x3*x3*x3*y3*y3*d + x1*x1*y1*x2*x3*x3*y3*y3*y3*d - x1*x1*y1*x2*y2*y2*x3*x3*y3*d - x1*x1*y1*x2*x2*y2*x3*y3*y3*d + x1*x1*x1*y2*x3*x3*y3*y3*y3*d + x1*x1*x1*x2*x3*x3*x3*y3*y3*d + x1*x1*x1*x2*y2*y2*x3*y3*y3*d + x1*x1*x1*x2*x2*y2*x3*x3*y3*d + y1*y2*x3*x3*x3*y3*y3*d + y1*x2*x3*x3*y3*y3*y3*d - y1*x2*y2*y2*x3*x3*y3*d - y1*x2*x2*y2*x3*y3*y3*d + x1*y2*x3*x3*y3*y3*y3*d + x1*x2*x3*x3*x3*y3*y3*d + x1*x2*y2*y2*x3*y3*y3*d + x1*x2*x2*y2*x3*x3*y3*d + y1*y1*y1*y2*x3*y3*y3 - y1*y1*y1*y2*x3*x3*x3 + y1*y1*y1*x2*y3*y3*y3 - y1*y1*y1*x2*x3*x3*y3 + x1*y1*y1*y2*y3*y3*y3 - x1*y1*y1*y2*x3*x3*y3 + x1*y1*y1*x2*x3*y3*y3 - x1*y1*y1*x2*x3*x3*x3 - x1*x1*y1*y2*x3*y3*y3 + x1*x1*y1*y2*x3*x3*x3 - x1*x1*y1*x2*y3*y3*y3 + x1*x1*y1*x2*x3*x3*y3 - x1*x1*x1*y2*y3*y3*y3 + x1*x1*x1*y2*x3*x3*y3 - x1*x1*x1*x2*x3*y3*y3 + x1*x1*x1*x2*x3*x3*x3 - y1*y2*x3*y3*y3 + y1*y2*x3*x3*x3 - y1*x2*y3*y3*y3 + y1*x2*x3*x3*y3 - y1*y1*y1*y2*x3 - y1*y1*y1*x2*y3 - x1*y2*y3*y3*y3 + x1*y2*x3*x3*y3 - x1*x2*x3*y3*y3 + x1*x2*x3*x3*x3 - x1*y1*y1*y2*y3 - x1*y1*y1*x2*x3 + x1*x1*y1*y2*x3 + x1*x1*y1*x2*y3 + x1*x1*x1*y2*y3 + x1*x1*x1*x2*x3 + y1*y2*x3 + y1*x2*y3 + x1*y2*y3 + x1*x2*x3) * (y2*y2 - x2*x2 - (1 + d*x2*x2*y2*y2)) + (-x1*y1*y1*x2*y2*y2*x3*d + x1*y1*y1*x2*x2*y2*y3*d + x1*x1*y1*x2*y2*y2*y3*d - x1*x1*y1*x2*x2*y2*x3*d - y1*y1*y1*y2*y2*y2*x3 - y1*y1*y1*x2*y2*y2*y3 + y1*y1*y1*x2*x2*y2*x3 + y1*y1*y1*x2*x2*x2*y3 - x1*y1*y1*y2*y2*y2*y3 - x1*y1*y1*x2*y2*y2*x3 + x1*y1*y1*x2*x2*y2*y3 + x1*y1*y1*x2*x2*x2*x3 + x1*x1*y1*y2*y2*y2*x3 + x1*x1*y1*x2*y2*y2*y3 - x1*x1*y1*x2*x2*y2*x3 - x1*x1*y1*x2*x2*x2*y3 + x1*x1*x1*y2*y2*y2*y3 + x1*x1*x1*x2*y2*y2*x3 - x1*x1*x1*x2*x2*y2*y3 - x1*x1*x1*x2*x2*x2*x3 + y1*y2*y2*y2*x3 + y1*x2*y2*y2*y3 - y1*x2*x2*y2*x3 - y1*x2*x2*x2*y3 + y1*y1*y1*y2*x3 + y1*y1*y1*x2*y3 + x1*y2*y2*y2*y3 + x1*x2*y2*y2*x3 - x1*x2*x2*y2*y3 - x1*x2*x2*x2*x3 + x1*y1*y1*y2*y3 + x1*y1*y1*x2*x3 - x1*x1*y1*y2*x3 - x1*x1*y1*x2*y3 - x1*x1*x1*y2*y3 - x1*x1*x1*x2*x3 - y1*y2*x3 - y1*x2*y3 - x1*y2*y3 - x1*x2*x3) * (y3*y3 - x3*x3 - (1 + d*x3*x3*y3*y3)) := by
    clear h1 h2 h3 e1 e2 e3
    grind
  rw [e1, e2, e3] at e
  clear h1 h2 h3 e1 e2 e3
  grind
theorem asc_y (x1 y1 x2 y2 x3 y3 d : Fin n) (h1 : y1*y1 - x1*x1 = 1 + d*x1*x1*y1*y1) (h2 : y2*y2 - x2*x2 = 1 + d*x2*x2*y2*y2) (h3 : y3*y3 - x3*x3 = 1 + d*x3*x3*y3*y3) :
    ((y1*y2+x1*x2)*(1+d*x1*x2*y1*y2)*y3 + (x1*y2+x2*y1)*(1-d*x1*x2*y1*y2)*x3) * ((1-d*x2*x3*y2*y3)*(1+d*x2*x3*y2*y3) - d*x1*y1*(x2*y3+x3*y2)*(y2*y3+x2*x3))
    = (y1*(y2*y3+x2*x3)*(1+d*x2*x3*y2*y3) + x1*(x2*y3+x3*y2)*(1-d*x2*x3*y2*y3)) * ((1-d*x1*x2*y1*y2)*(1+d*x1*x2*y1*y2) - d*(x1*y2+x2*y1)*(y1*y2+x1*x2)*x3*y3) := by
  have e1 : y1*y1 - x1*x1 - (1 + d*x1*x1*y1*y1) = 0 := by grind
  have e2 : y2*y2 - x2*x2 - (1 + d*x2*x2*y2*y2) = 0 := by grind
  have e3 : y3*y3 - x3*x3 - (1 + d*x3*x3*y3*y3) = 0 := by grind
  have e : ((y1*y2+x1*x2)*(1+d*x1*x2*y1*y2)*y3 + (x1*y2+x2*y1)*(1-d*x1*x2*y1*y2)*x3) * ((1-d*x2*x3*y2*y3)*(1+d*x2*x3*y2*y3) - d*x1*y1*(x2*y3+x3*y2)*(y2*y3+x2*x3))
    - (y1*(y2*y3+x2*x3)*(1+d*x2*x3*y2*y3) + x1*(x2*y3+x3*y2)*(1-d*x2*x3*y2*y3)) * ((1-d*x1*x2*y1*y2)*(1+d*x1*x2*y1*y2) - d*(x1*y2+x2*y1)*(y1*y2+x1*x2)*x3*y3)
    = (-y1*x2*x2*x2*y2*y2*y2*y2*x3*y3*y3*d*d - y1*x2*x2*x2*x2*y2*y2*y2*x3*x3*y3*d*d + x1*x2*x2*x2*y2*y2*y2*y2*x3*x3*y3*d*d + x1*x2*x2*x2*x2*y2*y2*y2*x3*y3*y3*d*d + y1*x2*y2*y2*y2*y2*x3*y3*y3*d + y1*x2*x2*y2*y2*y2*y3*y3*y3*d - y1*x2*x2*x2*y2*y2*x3*x3*x3*d - y1*x2*x2*x2*x2*y2*x3*x3*y3*d - x1*x2*y2*y2*y2*y2*x3*x3*y3*d - x1*x2*x2*y2*y2*y2*x3*x3*x3*d + x1*x2*x2*x2*y2*y2*y3*y3*y3*d + x1*x2*x2*x2*x2*y2*x3*y3*y3*d - y1*x2*x2*y2*y2*y2*y3*d - y1*x2*x2*x2*y2*y2*x3*d - x1*x2*x2*y2*y2*y2*x3*d - x1*x2*x2*x2*y2*y2*y3*d) * (y1*y1 - x1*x1 - (1 + d*x1*x1*y1*y1)) + (x1*y1*y1*x2*y2*y2*x3*x3*y3*y3*y3*d*d - x1*y1*y1*x2*x2*y2*x3*x3*x3*y3*y3*d*d - x1*x1*y1*x2*y2*y2*x3*x3*x3*y3*y3*d*d + x1*x1*y1*x2*x2*y2*x3*x3*y3*y3*y3*d*d - y1*y1*y1*y2*x3*x3*y3*y3*y3*d - y1*y1*y1*x2*x3*x3*x3*y3*y3*d - y1*y1*y1*x2*y2*y2*x3*y3*y3*d - y1*y1*y1*x2*x2*y2*x3*x3*y3*d - x1*y1*y1*y2*x3*x3*x3*y3*y3*d - x1*y1*y1*x2*x3*x3*y3*y3*y3*d + x1*y1*y1*x2*y2*y2*x3*x3*y3*d + x1*y1*y1*x2*x2*y2*x3*y3*y3*d + x1*x1*y1*y2*x3*x3*y3*y3*y3*d + x1*x1*y1*x2*x3*x3*x3*y3*y3*d + x1*x1*y1*x2*y2*y2*x3*y3*y3*d + x1*x1*y1*x2*x2*y2*x3*x3*y3*d + x1*x1*x1*y2*x3*x3*x3*y3*y3*d + x1*x1*x1*x2*x3*x3*y3*y3*y3*d - x1*x1*x1*x2*y2*y2*x3*x3*y3*d - x1*x1*x1*x2*x2*y2*x3*y3*y3*d + y1*y2*x3*x3*y3*y3*y3*d + y1*x2*x3*x3*x3*y3*y3*d + y1*x2*y2*y2*x3*y3*y3*d + y1*x2*x2*y2*x3*x3*y3*d + x1*y2*x3*x3*x3*y3*y3*d + x1*x2*x3*x3*y3*y3*y3*d - x1*x2*y2*y2*x3*x3*y3*d - x1*x2*x2*y2*x3*y3*y3*d + y1*y1*y1*y2*y3*y3*y3 - y1*y1*y1*y2*x3*x3*y3 + y1*y1*y1*x2*x3*y3*y3 - y1*y1*y1*x2*x3*x3*x3 + x1*y1*y1*y2*x3*y3*y3 - x1*y1*y1*y2*x3*x3*x3 + x1*y1*y1*x2*y3*y3*y3 - x1*y1*y1*x2*x3*x3*y3 - x1*x1*y1*y2*y3*y3*y3 + x1*x1*y1*y2*x3*x3*y3 - x1*x1*y1*x2*x3*y3*y3 + x1*x1*y1*x2*x3*x3*x3 - x1*x1*x1*y2*x3*y3*y3 + x1*x1*x1*y2*x3*x3*x3 - x1*x1*x1*x2*y3*y3*y3 + x1*x1*x1*x2*x3*x3*y3 - y1*y2*y3*y3*y3 + y1*y2*x3*x3*y3 - y1*x2*x3*y3*y3 + y1*x2*x3*x3*x3 - y1*y1*y1*y2*y3 - y1*y1*y1*x2*x3 - x1*y2*x3*y3*y3 + x1*y2*x3*x3*x3 - x1*x2*y3*y3*y3 + x1*x2*x3*x3*y3 - x1*y1*y1*y2*x3 - x1*y1*y1*x2*y3 + x1*x1*y1*y2*y3 + x1*x1*y1*x2*x3 + x1*x1*x1*y2*x3 + x1*x1*x1*x2*y3 + y1*y2*y3 + y1*x2*x3 + x1*y2*x3 + x1*x2*y3) * (y2*y2 - x2*x2 - (1 + d*x2*x2*y2*y2)) + (-x1*y1*y1*x2*y2*y2*y3*d + x1*y1*y1*x2*x2*y2*x3*d + x1*x1*y1*x2*y2*y2*x3*d - x1*x1*y1*x2*x2*y2*y3*d - y1*y1*y1*y2*y2*y2*y3 - y1*y1*y1*x2*y2*y2*x3 + y1*y1*y1*x2*x2*y2*y3 + y1*y1*y1*x2*x2*x2*x3 - x1*y1*y1*y2*y2*y2*x3 - x1*y1*y1*x2*y2*y2*y3 + x1*y1*y1*x2*x2*y2*x3 + x1*y1*y1*x2*x2*x2*y3 + x1*x1*y1*y2*y2*y2*y3 + x1*x1*y1*x2*y2*y2*x3 - x1*x1*y1*x2*x2*y2*y3 - x1*x1*y1*x2*x2*x2*x3 + x1*x1*x1*y2*y2*y2*x3 + x1*x1*x1*x2*y2*y2*y3 - x1*x1*x1*x2*x2*y2*x3 - x1*x1*x1*x2*x2*x2*y3 + y1*y2*y2*y2*y3 + y1*x2*y2*y2*x3 - y1*x2*x2*y2*y3 - y1*x2*x2*x2*x3 + y1*y1*y1*y2*y3 + y1*y1*y1*x2*x3 + x1*y2*y2*y2*x3 + x1*x2*y2*y2*y3 - x1*x2*x2*y2*x3 - x1*x2*x2*x2*y3 + x1*y1*y1*y2*x3 + x1*y1*y1*x2*y3 - x1*x1*y1*y2*y3 - x1*x1*y1*x2*x3 - x1*x1*x1*y2*x3 - x1*x1*x1*x2*y3 - y1*y2*y3 - y1*x2*x3 - x1*y2*x3 - x1*x2*y3) * (y3*y3 - x3*x3 - (1 + d*x3*x3*y3*y3)) := by
    clear h1 h2 h3 e1 e2 e3
    grind
  rw [e1, e2, e3] at e
  clear h1 h2 h3 e1 e2 e3
  grind
theorem on_sum (x1 y1 x2 y2 d : Fin n) (h1 : y1*y1 - x1*x1 = 1 + d*x1*x1*y1*y1) (h2 : y2*y2 - x2*x2 = 1 + d*x2*x2*y2*y2) :
    (y1*y2+x1*x2)*(y1*y2+x1*x2)*(1+d*x1*x2*y1*y2)*(1+d*x1*x2*y1*y2) - (x1*y2+x2*y1)*(x1*y2+x2*y1)*(1-d*x1*x2*y1*y2)*(1-d*x1*x2*y1*y2)
    = (1-d*x1*x2*y1*y2)*(1-d*x1*x2*y1*y2)*(1+d*x1*x2*y1*y2)*(1+d*x1*x2*y1*y2) + d*(x1*y2+x2*y1)*(x1*y2+x2*y1)*(y1*y2+x1*x2)*(y1*y2+x1*x2) := by
  have e1 : y1*y1 - x1*x1 - (1 + d*x1*x1*y1*y1) = 0 := by grind
  have e2 : y2*y2 - x2*x2 - (1 + d*x2*x2*y2*y2) = 0 := by grind
  have e : (y1*y2+x1*x2)*(y1*y2+x1*x2)*(1+d*x1*x2*y1*y2)*(1+d*x1*x2*y1*y2) - (x1*y2+x2*y1)*(x1*y2+x2*y1)*(1-d*x1*x2*y1*y2)*(1-d*x1*x2*y1*y2)
    - ((1-d*x1*x2*y1*y2)*(1-d*x1*x2*y1*y2)*(1+d*x1*x2*y1*y2)*(1+d*x1*x2*y1*y2) + d*(x1*y2+x2*y1)*(x1*y2+x2*y1)*(y1*y2+x1*x2)*(y1*y2+x1*x2))
    = (x1*x1*y1*y1*x2*x2*x2*x2*y2*y2*y2*y2*d*d*d + y1*y1*x2*x2*x2*x2*y2*y2*y2*y2*d*d - x1*x1*x2*x2*x2*x2*y2*y2*y2*y2*d*d - x2*x2*x2*x2*y2*y2*y2*y2*d*d - 2*x2*x2*x2*x2*y2*y2*y2*y2*d - y1*y1*x2*x2*y2*y2*y2*y2*d + y1*y1*x2*x2*x2*x2*y2*y2*d + x1*x1*x2*x2*y2*y2*y2*y2*d - x1*x1*x2*x2*x2*x2*y2*y2*d + 2*x2*x2*y2*y2*y2*y2 - 2*x2*x2*x2*x2*y2*y2 - 2*x2*x2*y2*y2*d + y2*y2*y2*y2 - 4*x2*x2*y2*y2 + x2*x2*x2*x2) * (y1*y1 - x1*x1 - (1 + d*x1*x1*y1*y1)) + (y1*y1*y1*y1*x2*x2*y2*y2*d + x1*x1*x1*x1*x2*x2*y2*y2*d - 2*y1*y1*x2*x2*y2*y2*d + 2*x1*x1*x2*x2*y2*y2*d - 2*y1*y1*x2*x2*y2*y2 + 2*x1*x1*x2*x2*y2*y2 + x2*x2*y2*y2*d + 2*x2*x2*y2*y2 - y1*y1*y2*y2 + y1*y1*x2*x2 + x1*x1*y2*y2 - x1*x1*x2*x2 + y2*y2 - x2*x2 + 1) * (y2*y2 - x2*x2 - (1 + d*x2*x2*y2*y2)) := by
    clear h1 h2 e1 e2
    grind
  rw [e1, e2] at e
  clear h1 h2 e1 e2
  grind


/-- What is known of the numbers modulo n, and of d: a prime's field, in which -1 is a square and d isn't. -/
structure Fld (n : Nat) [NeZero n] (d : Fin n) where
  inv : Fin n → Fin n
  ii : Fin n
  mul0 : ∀ a b : Fin n, a * b = 0 → a = 0 ∨ b = 0
  one : (1 : Fin n) ≠ 0
  two : (2 : Fin n) ≠ 0
  hinv : ∀ a : Fin n, a ≠ 0 → a * inv a = 1
  hii : ii * ii = -1
  hd : ∀ s t : Fin n, s * s = d * (t * t) → t = 0
variable {d : Fin n} (F : Fld n d)
structure On (d : Fin n) (P : Fin n × Fin n) : Prop where
  eq : P.2*P.2 - P.1*P.1 = 1 + d*P.1*P.1*P.2*P.2
include F
theorem Fld.cancel {a b c : Fin n} (ha : a ≠ 0) (h : a * b = a * c) : b = c := by
  have : a * (b - c) = 0 := by grind
  rcases F.mul0 _ _ this with h1 | h1
  · exact absurd h1 ha
  · grind
theorem Fld.mul_ne {a b : Fin n} (ha : a ≠ 0) (hb : b ≠ 0) : a * b ≠ 0 := fun h => (F.mul0 _ _ h).elim ha hb
/-- The denominators of a sum aren't 0. -/
theorem Fld.complete {P Q : Fin n × Fin n} (hP : On d P) (hQ : On d Q) : 1 + d*P.1*Q.1*P.2*Q.2 ≠ 0 ∧ 1 - d*P.1*Q.1*P.2*Q.2 ≠ 0 := by
  obtain ⟨x1, y1⟩ := P
  obtain ⟨x2, y2⟩ := Q
  have h1 := hP.eq
  have h2 := hQ.eq
  dsimp only at h1 h2 ⊢
  have hii := F.hii
  have hd := F.hd
  have key : ∀ e : Fin n, d*x1*x2*y1*y2 = e → e * e = 1 → False := by
    intro e he hee
    have he0 : e ≠ 0 := fun h => F.one (by rw [h] at hee; grind)
    generalize F.ii = i at *
    have q1 : (i*x1 + e*y1) * (i*x1 + e*y1) = d * ((x1*y1*(i*x2+y2)) * (x1*y1*(i*x2+y2))) := by
      have a1 : x2*x2 = y2*y2 - 1 - d*x2*x2*y2*y2 := by grind
      have a2 : y1*y1 - x1*x1 = 1 + d*x1*x1*y1*y1 := h1
      have a3 : (d*x1*x2*y1*y2) * (d*x1*x2*y1*y2) = 1 := by rw [he]; exact hee
      grind
    have q2 : (i*x1 - e*y1) * (i*x1 - e*y1) = d * ((x1*y1*(i*x2-y2)) * (x1*y1*(i*x2-y2))) := by
      have a3 : (d*x1*x2*y1*y2) * (d*x1*x2*y1*y2) = 1 := by rw [he]; exact hee
      grind
    have z1 := hd _ _ q1
    have z2 := hd _ _ q2
    have hx1 : x1 ≠ 0 := fun h => he0 (by rw [← he, h]; grind)
    have hy1 : y1 ≠ 0 := fun h => he0 (by rw [← he, h]; grind)
    have hx2 : x2 ≠ 0 := fun h => he0 (by rw [← he, h]; grind)
    have hxy := F.mul_ne hx1 hy1
    have w1 : i*x2+y2 = 0 := (F.mul0 _ _ z1).resolve_left hxy
    have w2 : i*x2-y2 = 0 := (F.mul0 _ _ z2).resolve_left hxy
    have w3 : 2 * (i * x2) = 0 := by grind
    have w4 : i * x2 = 0 := (F.mul0 _ _ w3).resolve_left F.two
    have w5 : i = 0 := (F.mul0 _ _ w4).resolve_right hx2
    rw [w5] at hii
    exact F.one (by grind)
  refine ⟨fun h => key (-1) (by grind) (by grind), fun h => key 1 (by grind) (by grind)⟩

omit F in
theorem On.o : On d ((0 : Fin n), (1 : Fin n)) := ⟨by grind⟩
def Fld.add (P Q : Fin n × Fin n) : Fin n × Fin n :=
  ((P.1*Q.2 + Q.1*P.2) * F.inv (1 + d*P.1*Q.1*P.2*Q.2), (P.2*Q.2 + P.1*Q.1) * F.inv (1 - d*P.1*Q.1*P.2*Q.2))
theorem Fld.add_spec {P Q : Fin n × Fin n} (hP : On d P) (hQ : On d Q) : (F.add P Q).1 * (1 + d*P.1*Q.1*P.2*Q.2) = P.1*Q.2 + Q.1*P.2 ∧ (F.add P Q).2 * (1 - d*P.1*Q.1*P.2*Q.2) = P.2*Q.2 + P.1*Q.1 := by
  obtain ⟨h1, h2⟩ := F.complete hP hQ
  have i1 := F.hinv _ h1
  have i2 := F.hinv _ h2
  unfold Fld.add
  dsimp only
  generalize F.inv (1 + d*P.1*Q.1*P.2*Q.2) = a at *
  generalize F.inv (1 - d*P.1*Q.1*P.2*Q.2) = b at *
  generalize P.1*Q.2 + Q.1*P.2 = u
  generalize P.2*Q.2 + P.1*Q.1 = v
  generalize 1 + d*P.1*Q.1*P.2*Q.2 = w at *
  generalize 1 - d*P.1*Q.1*P.2*Q.2 = z at *
  exact ⟨by grind, by grind⟩
theorem Fld.add_on {P Q : Fin n × Fin n} (hP : On d P) (hQ : On d Q) : On d (F.add P Q) := by
  obtain ⟨h1, h2⟩ := F.complete hP hQ
  obtain ⟨s1, s2⟩ := F.add_spec hP hQ
  have hs := on_sum P.1 P.2 Q.1 Q.2 d hP.eq hQ.eq
  constructor
  generalize F.add P Q = R at *
  generalize 1 + d*P.1*Q.1*P.2*Q.2 = H at *
  generalize 1 - d*P.1*Q.1*P.2*Q.2 = G at *
  refine F.cancel (F.mul_ne (F.mul_ne h1 h1) (F.mul_ne h2 h2)) ?_
  rw [← s1, ← s2] at hs
  grind
theorem Fld.add_comm (P Q : Fin n × Fin n) : F.add P Q = F.add Q P := by
  unfold Fld.add
  have e1 : d*P.1*Q.1*P.2*Q.2 = d*Q.1*P.1*Q.2*P.2 := by grind
  have e2 : P.1*Q.2 + Q.1*P.2 = Q.1*P.2 + P.1*Q.2 := by grind
  have e3 : P.2*Q.2 + P.1*Q.1 = Q.2*P.2 + Q.1*P.1 := by grind
  rw [e1, e2, e3]
theorem Fld.inv1 : F.inv 1 = 1 := by
  have := F.hinv 1 F.one
  grind
theorem Fld.add_o (P : Fin n × Fin n) : F.add P ((0 : Fin n), (1 : Fin n)) = P := by
  unfold Fld.add
  have e1 : 1 + d*P.1*0*P.2*1 = 1 := by grind
  have e2 : 1 - d*P.1*0*P.2*1 = 1 := by grind
  dsimp only
  rw [e1, e2, F.inv1]
  obtain ⟨x, y⟩ := P
  dsimp only
  have e3 : (x * 1 + 0 * y) * 1 = x := by grind
  have e4 : (y * 1 + x * 0) * 1 = y := by grind
  rw [e3, e4]
/-- A sum's coordinates are told by what they fulfil. -/
theorem Fld.add_eq {P Q R : Fin n × Fin n} (hP : On d P) (hQ : On d Q) (h1 : R.1 * (1 + d*P.1*Q.1*P.2*Q.2) = P.1*Q.2 + Q.1*P.2) (h2 : R.2 * (1 - d*P.1*Q.1*P.2*Q.2) = P.2*Q.2 + P.1*Q.1) : F.add P Q = R := by
  obtain ⟨c1, c2⟩ := F.complete hP hQ
  obtain ⟨s1, s2⟩ := F.add_spec hP hQ
  refine Prod.ext (F.cancel c1 ?_) (F.cancel c2 ?_)
  · grind
  · grind
omit F in
theorem cx1 {u v u' v' x1 y1 x3 y3 G H G' H' : Fin n}
    (hx : (u * H * G * y3 + v * G * H * x3) * (G' * H' + d * x1 * y1 * (u' * H') * (v' * G')) = (x1 * (v' * G') * H' + y1 * (u' * H') * G') * (G * H + d * (u * H) * (v * G) * x3 * y3)) :
    G * H * (G' * H') * ((u*y3 + x3*v) * (1 + d*x1*u'*y1*v')) = G * H * (G' * H') * ((x1*v' + u'*y1) * (1 + d*u*x3*v*y3)) := by
  have a : G * H * (G' * H') * ((u*y3 + x3*v) * (1 + d*x1*u'*y1*v')) = (u * H * G * y3 + v * G * H * x3) * (G' * H' + d * x1 * y1 * (u' * H') * (v' * G')) := by clear hx; grind
  have b : G * H * (G' * H') * ((x1*v' + u'*y1) * (1 + d*u*x3*v*y3)) = (x1 * (v' * G') * H' + y1 * (u' * H') * G') * (G * H + d * (u * H) * (v * G) * x3 * y3) := by clear hx; grind
  rw [a, b, hx]
omit F in
theorem cy1 {u v u' v' x1 y1 x3 y3 G H G' H' : Fin n}
    (hy : (v * G * H * y3 + u * H * G * x3) * (G' * H' - d * x1 * y1 * (u' * H') * (v' * G')) = (y1 * (v' * G') * H' + x1 * (u' * H') * G') * (G * H - d * (u * H) * (v * G) * x3 * y3)) :
    G * H * (G' * H') * ((v*y3 + u*x3) * (1 - d*x1*u'*y1*v')) = G * H * (G' * H') * ((y1*v' + x1*u') * (1 - d*u*x3*v*y3)) := by
  have a : G * H * (G' * H') * ((v*y3 + u*x3) * (1 - d*x1*u'*y1*v')) = (v * G * H * y3 + u * H * G * x3) * (G' * H' - d * x1 * y1 * (u' * H') * (v' * G')) := by clear hy; grind
  have b : G * H * (G' * H') * ((y1*v' + x1*u') * (1 - d*u*x3*v*y3)) = (y1 * (v' * G') * H' + x1 * (u' * H') * G') * (G * H - d * (u * H) * (v * G) * x3 * y3) := by clear hy; grind
  rw [a, b, hy]
omit F in
theorem c3r {a b p q : Fin n} (h : a * p * q = b * q * p) : p * q * a = p * q * b := by
  have e1 : p * q * a = a * p * q := by clear h; grind
  have e2 : p * q * b = b * q * p := by clear h; grind
  rw [e1, e2, h]
theorem Fld.add_assoc {P Q R : Fin n × Fin n} (hP : On d P) (hQ : On d Q) (hR : On d R) : F.add (F.add P Q) R = F.add P (F.add Q R) := by
  have hPQ := F.add_on hP hQ
  have hQR := F.add_on hQ hR
  obtain ⟨c1, c2⟩ := F.complete hP hQ
  obtain ⟨c3, c4⟩ := F.complete hQ hR
  obtain ⟨c5, c6⟩ := F.complete hPQ hR
  obtain ⟨c7, c8⟩ := F.complete hP hQR
  obtain ⟨s1, s2⟩ := F.add_spec hP hQ
  obtain ⟨s3, s4⟩ := F.add_spec hQ hR
  obtain ⟨s5, s6⟩ := F.add_spec hPQ hR
  obtain ⟨s7, s8⟩ := F.add_spec hP hQR
  have hx := asc_x P.1 P.2 Q.1 Q.2 R.1 R.2 d hP.eq hQ.eq hR.eq
  have hy := asc_y P.1 P.2 Q.1 Q.2 R.1 R.2 d hP.eq hQ.eq hR.eq
  generalize F.add (F.add P Q) R = L at *
  generalize F.add P (F.add Q R) = L' at *
  generalize F.add P Q = U at *
  generalize F.add Q R = V at *
  obtain ⟨x1, y1⟩ := P
  obtain ⟨x2, y2⟩ := Q
  obtain ⟨x3, y3⟩ := R
  obtain ⟨u, v⟩ := U
  obtain ⟨u', v'⟩ := V
  obtain ⟨l1, l2⟩ := L
  obtain ⟨m1, m2⟩ := L'
  dsimp only at *
  have f1 : x1*y2+x2*y1 = u * (1 + d*x1*x2*y1*y2) := s1.symm
  have f2 : y1*y2+x1*x2 = v * (1 - d*x1*x2*y1*y2) := s2.symm
  have f3 : x2*y3+x3*y2 = u' * (1 + d*x2*x3*y2*y3) := s3.symm
  have f4 : y2*y3+x2*x3 = v' * (1 - d*x2*x3*y2*y3) := s4.symm
  rw [f1, f2, f3, f4] at hx hy
  generalize 1 + d*x1*x2*y1*y2 = H at *
  generalize 1 - d*x1*x2*y1*y2 = G at *
  generalize 1 + d*x2*x3*y2*y3 = H' at *
  generalize 1 - d*x2*x3*y2*y3 = G' at *
  clear s1 s2 s3 s4 f1 f2 f3 f4 hP hQ hR hPQ hQR
  have hz : G * H * (G' * H') ≠ 0 := F.mul_ne (F.mul_ne c2 c1) (F.mul_ne c4 c3)
  have hx' : (u*y3 + x3*v) * (1 + d*x1*u'*y1*v') = (x1*v' + u'*y1) * (1 + d*u*x3*v*y3) := F.cancel hz (cx1 hx)
  have hy' : (v*y3 + u*x3) * (1 - d*x1*u'*y1*v') = (y1*v' + x1*u') * (1 - d*u*x3*v*y3) := F.cancel hz (cy1 hy)
  rw [← s5, ← s7] at hx'
  rw [← s6, ← s8] at hy'
  generalize 1 + d*x1*u'*y1*v' = p at *
  generalize 1 + d*u*x3*v*y3 = q at *
  generalize 1 - d*x1*u'*y1*v' = r at *
  generalize 1 - d*u*x3*v*y3 = s at *
  have ex : l1 = m1 := F.cancel (F.mul_ne c5 c7) (c3r hx')
  have ey : l2 = m2 := F.cancel (F.mul_ne c6 c8) (c3r hy')
  rw [ex, ey]
def Fld.nsm (k : Nat) (P : Fin n × Fin n) : Fin n × Fin n := Nat.rec ((0 : Fin n), (1 : Fin n)) (fun _ Q => F.add Q P) k
theorem Fld.nsm_succ (k : Nat) (P : Fin n × Fin n) : F.nsm (k + 1) P = F.add (F.nsm k P) P := rfl
theorem Fld.nsm_on {P : Fin n × Fin n} (hP : On d P) (k : Nat) : On d (F.nsm k P) := by
  induction k with
  | zero => exact On.o
  | succ k ih => exact F.add_on ih hP
theorem Fld.nsm_add {P : Fin n × Fin n} (hP : On d P) (j k : Nat) : F.nsm (j + k) P = F.add (F.nsm j P) (F.nsm k P) := by
  induction k with
  | zero => exact (F.add_o _).symm
  | succ k ih => rw [← Nat.add_assoc, F.nsm_succ, ih, F.nsm_succ, F.add_assoc (F.nsm_on hP _) (F.nsm_on hP _) hP]
theorem Fld.nsm_mul {P : Fin n × Fin n} (hP : On d P) (j k : Nat) : F.nsm (j * k) P = F.nsm j (F.nsm k P) := by
  induction j with
  | zero => rw [Nat.zero_mul]; rfl
  | succ j ih => rw [Nat.succ_mul, F.nsm_add hP, ih, F.nsm_succ]
theorem Fld.nsm_o (k : Nat) : F.nsm k ((0 : Fin n), (1 : Fin n)) = ((0 : Fin n), (1 : Fin n)) := by
  induction k with
  | zero => rfl
  | succ k ih => rw [F.nsm_succ, ih, F.add_o]
theorem Fld.nsm_mod {P : Fin n × Fin n} (hP : On d P) {L : Nat} (hL : F.nsm L P = ((0 : Fin n), (1 : Fin n))) (k : Nat) : F.nsm (k % L) P = F.nsm k P := by
  conv => rhs; rw [← Nat.mod_add_div k L, F.nsm_add hP, Nat.mul_comm, F.nsm_mul hP, hL, F.nsm_o, F.add_o]
/-- A point told by four numbers: both coordinates and their product, over a third one. -/
structure Rep (X Y Z T : Fin n) (P : Fin n × Fin n) : Prop where
  z : Z ≠ 0
  x : X = P.1 * Z
  y : Y = P.2 * Z
  t : T = P.1 * P.2 * Z
theorem Fld.rep_add {X1 Y1 Z1 T1 X2 Y2 Z2 T2 : Fin n} {P Q : Fin n × Fin n} (hP : On d P) (hQ : On d Q) (h1 : Rep X1 Y1 Z1 T1 P) (h2 : Rep X2 Y2 Z2 T2 Q) {a b c z e f g h : Fin n}
    (ha : a = (Y1 - X1) * (Y2 - X2)) (hb : b = (Y1 + X1) * (Y2 + X2)) (hc : c = T1 * (2 * d) * T2) (hz : z = Z1 * Z2 + Z1 * Z2) (he : e = b - a) (hf : f = z - c) (hg : g = z + c) (hh : h = b + a) :
    Rep (e * f) (g * h) (f * g) (e * h) (F.add P Q) := by
  obtain ⟨c1, c2⟩ := F.complete hP hQ
  obtain ⟨s1, s2⟩ := F.add_spec hP hQ
  obtain ⟨z1, rfl, rfl, rfl⟩ := h1
  obtain ⟨z2, rfl, rfl, rfl⟩ := h2
  generalize F.add P Q = R at *
  obtain ⟨x1, y1⟩ := P
  obtain ⟨x2, y2⟩ := Q
  obtain ⟨u, v⟩ := R
  dsimp only at *
  have hzz := F.mul_ne z1 z2
  have e1 : e = 2 * (Z1 * Z2) * (u * (1 + d*x1*x2*y1*y2)) := by rw [s1, he, hb, ha]; grind
  have e2 : h = 2 * (Z1 * Z2) * (v * (1 - d*x1*x2*y1*y2)) := by rw [s2, hh, hb, ha]; grind
  have e3 : f = 2 * (Z1 * Z2) * (1 - d*x1*x2*y1*y2) := by rw [hf, hz, hc]; grind
  have e4 : g = 2 * (Z1 * Z2) * (1 + d*x1*x2*y1*y2) := by rw [hg, hz, hc]; grind
  clear he hf hg hh ha hb hc hz s1 s2
  generalize 1 + d*x1*x2*y1*y2 = H at *
  generalize 1 - d*x1*x2*y1*y2 = G at *
  subst e1 e2 e3 e4
  exact ⟨F.mul_ne (F.mul_ne (F.mul_ne F.two hzz) c2) (F.mul_ne (F.mul_ne F.two hzz) c1), by grind, by grind, by grind⟩
/-- Two that are told are one just if they are told the same, over either's third number. -/
theorem Fld.rep_same {X1 Y1 Z1 T1 X2 Y2 Z2 T2 : Fin n} {P Q : Fin n × Fin n} (h1 : Rep X1 Y1 Z1 T1 P) (h2 : Rep X2 Y2 Z2 T2 Q) : (X1 * Z2 = X2 * Z1 ∧ Y1 * Z2 = Y2 * Z1) ↔ P = Q := by
  obtain ⟨z1, rfl, rfl, -⟩ := h1
  obtain ⟨z2, rfl, rfl, -⟩ := h2
  constructor
  · rintro ⟨a, b⟩
    refine Prod.ext (F.cancel (F.mul_ne z1 z2) (by grind)) (F.cancel (F.mul_ne z1 z2) (by grind))
  · rintro rfl
    exact ⟨by grind, by grind⟩
theorem Fld.dy_ne {y : Fin n} : d * (y * y) + 1 ≠ 0 := fun h => by
  have h2 := F.hii
  have h1 : F.ii * F.ii = d * (y * y) := by grind
  have h3 := F.hd _ _ h1
  rw [h3] at h
  exact F.one (by grind)
end Go.Ed

/- Plain laws of the curve: what the points that package curve computes are. No program in sight. -/
namespace Go.Proofs.YtphcaiplgpmnnaaGreatDoor
open Go.Px Go.Ed
instance : NeZero p25 := ⟨by decide⟩
theorem p25_pos : 0 < p25 := by decide
/-- A number, modulo p. -/
def fF (x : Nat) : Fin p25 := ⟨x % p25, Nat.mod_lt _ p25_pos⟩
theorem fF_val (x : Nat) : (fF x).val = x % p25 := rfl
theorem fF_A (x y : Nat) : fF (fA x y) = fF x + fF y := by
  apply Fin.ext
  rw [Fin.val_add, fF_val, fF_val, fF_val]
  unfold fA
  rw [Nat.mod_mod, Nat.add_mod]
theorem fF_M (x y : Nat) : fF (fM x y) = fF x * fF y := by
  apply Fin.ext
  rw [Fin.val_mul, fF_val, fF_val, fF_val]
  unfold fM
  rw [Nat.mod_mod, Nat.mul_mod]
theorem fF_S {x y : Nat} (hy : y < p25) : fF (fS x y) = fF x - fF y := by
  apply Fin.ext
  rw [Fin.sub_def, fF_val]
  show fS x y % p25 = (p25 - y % p25 + x % p25) % p25
  unfold fS
  rw [Nat.mod_mod, Nat.mod_eq_of_lt hy, Nat.add_mod_mod]
  congr 1; omega
theorem fF_inj {x y : Nat} (hx : x < p25) (hy : y < p25) (h : fF x = fF y) : x = y := by
  have := congrArg Fin.val h
  rwa [fF_val, fF_val, Nat.mod_eq_of_lt hx, Nat.mod_eq_of_lt hy] at this
theorem fF_zero {x : Nat} : fF x = 0 ↔ x % p25 = 0 := by
  constructor
  · intro h; exact congrArg Fin.val h
  · intro h; exact Fin.ext h
theorem fM_lt (x y : Nat) : fM x y < p25 := Nat.mod_lt _ p25_pos
theorem fI_mul {x : Nat} (h : x % p25 ≠ 0) : fM x (fI x) = 1 := by
  have h1 := fermat1 pr25 (a := x) (fun hd => h (Nat.mod_eq_zero_of_dvd hd))
  rw [fI_eq]
  unfold fM rtp
  rw [Nat.mul_mod, Nat.mod_mod, ← Nat.mul_mod, ← Nat.pow_succ']
  exact h1
theorem fF_I {x : Nat} (h : fF x ≠ 0) : fF x * fF (fI x) = 1 := by
  rw [← fF_M, fI_mul (fun h0 => h (fF_zero.2 h0))]
  rfl
/-! ### For the kernel: powers -/

def dLit : Nat := 37095705934669439343138083508754565189542113879843219016388785533085940283555
def iLit : Nat := 19681161376707505956807079304988542015446066515923890162744021073123829784752
theorem dN_val : dN = dLit := rfl
theorem d_half : dLit ^ ((p25 - 1) / 2) % p25 = p25 - 1 := by
  rw [pm_pow (by decide) 256 _ _ (by decide)]
  decide +kernel
theorem mul0F (a b : Fin p25) (h : a * b = 0) : a = 0 ∨ b = 0 := by
  have h1 := congrArg Fin.val h
  rw [Fin.val_mul] at h1
  have h2 : p25 ∣ a.val * b.val := Nat.dvd_of_mod_eq_zero h1
  rcases pr25.mul h2 with h3 | h3
  · exact .inl (Fin.ext (Nat.eq_zero_of_dvd_of_lt h3 a.isLt))
  · exact .inr (Fin.ext (Nat.eq_zero_of_dvd_of_lt h3 b.isLt))
theorem fF_of (a : Fin p25) : fF a.val = a := Fin.ext (Nat.mod_eq_of_lt a.isLt)
/-- d has no root. -/
theorem d_non (s t : Fin p25) (h : s * s = fF dN * (t * t)) : t = 0 := by
  rw [dN_val] at h
  apply Decidable.byContradiction
  intro ht
  have h1 := congrArg Fin.val h
  rw [Fin.val_mul, Fin.val_mul, Fin.val_mul, fF_val, Nat.mod_eq_of_lt (show dLit < p25 by decide)] at h1
  rw [Nat.mul_mod_mod] at h1
  have ht' : ¬ p25 ∣ t.val := fun hd => ht (Fin.ext (Nat.eq_zero_of_dvd_of_lt hd t.isLt))
  have e2 : (p25 - 1) / 2 * 2 = p25 - 1 := by decide
  have key : ∀ m : Nat, (s.val * s.val) ^ m % p25 = (dLit * (t.val * t.val)) ^ m % p25 := fun m => by
    rw [Nat.pow_mod, h1, ← Nat.pow_mod]
  have k1 := key ((p25 - 1) / 2)
  generalize hm : (p25 - 1) / 2 = m at *
  have hd := d_half
  rw [hm] at hd
  have hft := fermat1 pr25 ht'
  have q1 : ∀ x : Nat, (x * x) ^ m = x ^ (p25 - 1) := fun x => by rw [← Nat.pow_two, ← Nat.pow_mul, Nat.mul_comm 2 m, e2]
  rw [q1, Nat.mul_pow, q1, Nat.mul_mod, hd, hft, Nat.mul_one] at k1
  by_cases hs : p25 ∣ s.val
  · have : s.val = 0 := Nat.eq_zero_of_dvd_of_lt hs s.isLt
    rw [this] at h1
    have hz : p25 ∣ dLit * (t.val * t.val) := Nat.dvd_of_mod_eq_zero (by rw [← h1]; rfl)
    rcases pr25.mul hz with h3 | h3
    · exact absurd h3 (by decide)
    · rcases pr25.mul h3 with h4 | h4 <;> exact ht' h4
  · rw [fermat1 pr25 hs] at k1
    exact absurd k1 (by decide)
/-- The field of the curve. -/
noncomputable def FF : Fld p25 (fF dN) where
  inv a := fF (fI a.val)
  ii := fF iLit
  mul0 := mul0F
  one := by decide
  two := by decide
  hinv a ha := by
    have h := fF_I (x := a.val) (by rw [fF_of]; exact ha)
    rwa [fF_of] at h
  hii := by decide +kernel
  hd := d_non
/-- Four numbers that tell a point. -/
structure PR (P : Pt) (Q : Fin p25 × Fin p25) : Prop where
  rep : Rep (fF P.X) (fF P.Y) (fF P.Z) (fF P.T) Q
  x : P.X < p25
  y : P.Y < p25
  z : P.Z < p25
  t : P.T < p25
theorem PR.o : PR pO ((0 : Fin p25), (1 : Fin p25)) := ⟨⟨by decide, by decide, by decide, by decide⟩, by decide, by decide, by decide, by decide⟩
theorem d2_val : fF d2N = 2 * fF dN := by rw [← d2_eq, fF_M]; rfl
theorem PR.add {P1 P2 : Pt} {Q1 Q2 : Fin p25 × Fin p25} (h1 : PR P1 Q1) (h2 : PR P2 Q2) (o1 : On (fF dN) Q1) (o2 : On (fF dN) Q2) : PR (pAdd d2N P1 P2) (FF.add Q1 Q2) := by
  refine ⟨?_, fM_lt _ _, fM_lt _ _, fM_lt _ _, fM_lt _ _⟩
  unfold pAdd
  dsimp only
  rw [fF_M, fF_M, fF_M, fF_M]
  exact FF.rep_add o1 o2 h1.rep h2.rep (a := fF (fM (fS P1.Y P1.X) (fS P2.Y P2.X))) (b := fF (fM (fA P1.Y P1.X) (fA P2.Y P2.X))) (c := fF (fM (fM P1.T d2N) P2.T)) (z := fF (fA (fM P1.Z P2.Z) (fM P1.Z P2.Z)))
    (by rw [fF_M, fF_S h1.x, fF_S h2.x]) (by rw [fF_M, fF_A, fF_A]) (by rw [fF_M, fF_M, d2_val]) (by rw [fF_A, fF_M])
    (by rw [fF_S (fM_lt _ _)]) (by rw [fF_S (fM_lt _ _)]) (by rw [fF_A]) (by rw [fF_A])
theorem PR.timesK {P : Pt} {Q : Fin p25 × Fin p25} (h : PR P Q) (o : On (fF dN) Q) (n : Nat) : ∀ k, k ≤ 256 → PR (pTk P n k) (FF.nsm (n / 2 ^ (256 - k) % 2 ^ k) Q)
  | 0, _ => by
    rw [Nat.pow_zero, Nat.mod_one]; exact PR.o
  | k + 1, hk => by
    have ih := PR.timesK h o n k (by omega)
    have e1 : 256 - (k + 1) = 255 - k := by omega
    have e2 : n / 2 ^ (255 - k) % 2 ^ (k + 1) = 2 * (n / 2 ^ (256 - k) % 2 ^ k) + n / 2 ^ (255 - k) % 2 := by
      have e3 : n / 2 ^ (256 - k) = n / 2 ^ (255 - k) / 2 := by rw [Nat.div_div_eq_div_mul, ← Nat.pow_succ]; congr 2; omega
      rw [e3]
      generalize n / 2 ^ (255 - k) = m
      rw [Nat.pow_succ', Nat.mod_mul]; omega
    rw [e1, e2]
    generalize n / 2 ^ (256 - k) % 2 ^ k = m at *
    have hd := ih.add ih (FF.nsm_on o m) (FF.nsm_on o m)
    rw [← FF.nsm_add o, ← Nat.two_mul] at hd
    rw [pTk_succ]
    by_cases hb : n / 2 ^ (255 - k) % 2 = 1
    · rw [pSt_pos hb, hb]
      exact hd.add h (FF.nsm_on o _) o
    · rw [pSt_neg hb, show n / 2 ^ (255 - k) % 2 = 0 by omega]
      exact hd
theorem PR.times {P : Pt} {Q : Fin p25 × Fin p25} (h : PR P Q) (o : On (fF dN) Q) {n : Nat} (hn : n < 2 ^ 256) : PR (pTimes P n) (FF.nsm n Q) := by
  have := h.timesK o n 256 (Nat.le_refl _)
  rwa [Nat.sub_self, Nat.pow_zero, Nat.div_one, Nat.mod_eq_of_lt hn] at this

end Go.Proofs.YtphcaiplgpmnnaaGreatDoor
/- The plain law of roots: which numbers have one. -/
namespace Go.Proofs.YtphcaiplgpmnnaaGreatDoor
open Go.Px
end Go.Proofs.YtphcaiplgpmnnaaGreatDoor
/- Plain laws of the curve: a point's bytes, and back. -/
namespace Go.Proofs.YtphcaiplgpmnnaaGreatDoor
open Go.Px Go.Ed
/-- A point's bytes, by its two numbers. -/
def encN (x y : Nat) : List Nat := if x % 2 = 1 then (prts 8 32 y 255).set 31 ((prts 8 32 y 255).getD 31 0 ||| 128) else prts 8 32 y 255
theorem pB_enc (P : Pt) : pB P = encN (fM P.X (fI P.Z)) (fM P.Y (fI P.Z)) := rfl
/-- Bytes as a point. -/
noncomputable def pRead (b : List Nat) : Option Pt := if b.length = 32 then (match atN (rdN b) (decide (128 ≤ b.getD 31 0)) with
  | some x => if pB (pAt x (rdN b)) = b then some (pAt x (rdN b)) else none
  | none => none) else none
theorem PR.at {Q : Fin p25 × Fin p25} : PR (pAt Q.1.val Q.2.val) Q := by
  refine ⟨⟨?_, ?_, ?_, ?_⟩, Q.1.isLt, Q.2.isLt, show 1 < p25 by decide, fM_lt _ _⟩
  · exact FF.one
  · show fF Q.1.val = Q.1 * fF 1
    rw [fF_of, show fF 1 = 1 from rfl]; grind
  · show fF Q.2.val = Q.2 * fF 1
    rw [fF_of, show fF 1 = 1 from rfl]; grind
  · show fF (fM Q.1.val Q.2.val) = Q.1 * Q.2 * fF 1
    rw [fF_M, fF_of, fF_of, show fF 1 = 1 from rfl]; grind
theorem PR.aff {P : Pt} {Q : Fin p25 × Fin p25} (h : PR P Q) : fM P.X (fI P.Z) = Q.1.val ∧ fM P.Y (fI P.Z) = Q.2.val := by
  have hi := fF_I h.rep.z
  have hx := h.rep.x
  have hy := h.rep.y
  constructor
  · apply fF_inj (fM_lt _ _) Q.1.isLt
    rw [fF_M, fF_of, hx]; grind
  · apply fF_inj (fM_lt _ _) Q.2.isLt
    rw [fF_M, fF_of, hy]; grind
theorem PR.bytes {P : Pt} {Q : Fin p25 × Fin p25} (h : PR P Q) : pB P = encN Q.1.val Q.2.val := by rw [pB_enc, h.aff.1, h.aff.2]
/-- Are two points one? -/
def pSame (P Q : Pt) : Bool := decide (fM P.X Q.Z = fM Q.X P.Z) && decide (fM P.Y Q.Z = fM Q.Y P.Z)
theorem PR.same {P P' : Pt} {Q : Fin p25 × Fin p25} (h : PR P Q) (h' : PR P' Q) : pSame P P' = true := by
  have hr := (FF.rep_same h.rep h'.rep).2 rfl
  unfold pSame
  rw [decide_eq_true (fF_inj (fM_lt _ _) (fM_lt _ _) (by rw [fF_M, fF_M, hr.1])), decide_eq_true (fF_inj (fM_lt _ _) (fM_lt _ _) (by rw [fF_M, fF_M, hr.2]))]
  rfl

end Go.Proofs.YtphcaiplgpmnnaaGreatDoor
/-
  SHA-256 in a form that the kernel computes fast: numbers are forced, the operations are Nat's own. Equal to sha256.
-/
namespace Go.Px
/-- The number is computed ahead of what goes on with it. -/
noncomputable def force {α : Type} (x : Nat) (f : Nat → α) : α := Nat.rec (motive := fun _ => α) (f 0) (fun n _ => f (Nat.succ n)) x
theorem force_eq {α : Type} (x : Nat) (f : Nat → α) : force x f = f x := by cases x <;> rfl
def rotF (x n m : Nat) : Nat := Nat.lor (Nat.shiftRight x n) (Nat.mod (Nat.shiftLeft x m) 4294967296)
def rF : List Nat → List Nat → S8 → S8
  | k :: ks, w :: ws, s => rF ks ws (s.step k w)
  | _, _, s => s
theorem rF_snoc (ks ws : List Nat) (h : ks.length = ws.length) (k w : Nat) (s : S8) : rF (ks ++ [k]) (ws ++ [w]) s = (rF ks ws s).step k w := by
  induction ks generalizing ws s with
  | nil =>
    cases ws with
    | nil => rfl
    | cons w ws => simp at h
  | cons k' ks ih =>
    cases ws with
    | nil => simp at h
    | cons w' ws => exact ih ws (by simpa using h) (s.step k' w')
theorem rounds_eq (ks ws : List Nat) (s : S8) (n : Nat) (h1 : n ≤ ks.length) (h2 : n ≤ ws.length) : rounds ks ws s n = rF (ks.take n) (ws.take n) s := by
  induction n with
  | zero => rfl
  | succ n ih =>
    rw [rounds, ih (by omega) (by omega), List.take_add_one, List.take_add_one, List.getElem?_eq_getElem (by omega), List.getElem?_eq_getElem (by omega)]
    simp only [Option.toList_some]
    rw [rF_snoc _ _ (by simp; omega), List.getD_eq_getElem?_getD, List.getD_eq_getElem?_getD, List.getElem?_eq_getElem (by omega), List.getElem?_eq_getElem (by omega)]
    rfl
/-- The sum that both ends of a round take. -/
def t1F (e f g h k w : Nat) : Nat :=
  Nat.mod (Nat.add (Nat.mod (Nat.add (Nat.mod (Nat.add (Nat.mod (Nat.add h (Nat.xor (Nat.xor (rotF e 6 26) (rotF e 11 21)) (rotF e 25 7))) 4294967296) (Nat.xor (Nat.land e f) (Nat.land (Nat.xor 4294967295 e) g))) 4294967296) k) 4294967296) w) 4294967296
def aF (t a b c : Nat) : Nat :=
  Nat.mod (Nat.add (Nat.mod (Nat.add t (Nat.xor (Nat.xor (rotF a 2 30) (rotF a 13 19)) (rotF a 22 10))) 4294967296) (Nat.xor (Nat.xor (Nat.land a b) (Nat.land a c)) (Nat.land b c))) 4294967296
noncomputable def rFF (ks : List Nat) : List Nat → Nat → Nat → Nat → Nat → Nat → Nat → Nat → Nat → S8 :=
  List.rec (motive := fun _ => List Nat → Nat → Nat → Nat → Nat → Nat → Nat → Nat → Nat → S8) (fun _ a b c d e f g h => ⟨a, b, c, d, e, f, g, h⟩)
    (fun k _ ih ws => List.rec (motive := fun _ => Nat → Nat → Nat → Nat → Nat → Nat → Nat → Nat → S8) (fun a b c d e f g h => ⟨a, b, c, d, e, f, g, h⟩)
      (fun w ws _ a b c d e f g h => force (t1F e f g h k w) fun t => force (aF t a b c) fun a' => force (Nat.mod (Nat.add d t) 4294967296) fun e' => ih ws a' a b c e' e f g) ws) ks
theorem rFF_eq (ks ws : List Nat) (s : S8) : rFF ks ws s.a s.b s.c s.d s.e s.f s.g s.h = rF ks ws s := by
  induction ks generalizing ws s with
  | nil => cases ws <;> rfl
  | cons k ks ih =>
    cases ws with
    | nil => rfl
    | cons w ws =>
      have e : rFF (k :: ks) (w :: ws) s.a s.b s.c s.d s.e s.f s.g s.h = force (t1F s.e s.f s.g s.h k w) fun t => force (aF t s.a s.b s.c) fun a' => force (Nat.mod (Nat.add s.d t) 4294967296) fun e' => rFF ks ws a' s.a s.b s.c e' s.e s.f s.g := rfl
      rw [e, force_eq, force_eq, force_eq]
      exact ih ws (s.step k w)
/-- The words, the last first. -/
noncomputable def nthF : Nat → List Nat → Nat := fun n => Nat.rec (motive := fun _ => List Nat → Nat) (fun l => List.rec (motive := fun _ => Nat) 0 (fun x _ _ => x) l) (fun _ ih l => List.rec (motive := fun _ => Nat) 0 (fun _ r _ => ih r) l) n
theorem nthF_eq (n : Nat) (l : List Nat) : nthF n l = l.getD n 0 := by
  induction n generalizing l with
  | zero => cases l <;> rfl
  | succ n ih =>
    cases l with
    | nil => rfl
    | cons x r => exact ih r
def wnF (w16 w15 w7 w2 : Nat) : Nat :=
  Nat.mod (Nat.add (Nat.mod (Nat.add (Nat.mod (Nat.add w16 (Nat.xor (Nat.xor (rotF w15 7 25) (rotF w15 18 14)) (Nat.shiftRight w15 3))) 4294967296) w7) 4294967296) (Nat.xor (Nat.xor (rotF w2 17 15) (rotF w2 19 13)) (Nat.shiftRight w2 10))) 4294967296
noncomputable def wF (n : Nat) : List Nat → List Nat :=
  Nat.rec (motive := fun _ => List Nat → List Nat) (fun r => r) (fun _ ih r => force (wnF (nthF 15 r) (nthF 14 r) (nthF 6 r) (nthF 1 r)) fun x => ih (x :: r)) n
theorem getD_rev {l : List Nat} {k : Nat} (h : k < l.length) : l.reverse.getD k 0 = l.getD (l.length - 1 - k) 0 := by
  rw [List.getD_eq_getElem?_getD, List.getD_eq_getElem?_getD, List.getElem?_reverse h]
theorem wF_eq (w : List Nat) (hw : 16 ≤ w.length) (n m : Nat) : wF n (wx w m).reverse = (wx w (m + n)).reverse := by
  induction n generalizing m with
  | zero => rfl
  | succ n ih =>
    have e : wF (n + 1) (wx w m).reverse = force (wnF (nthF 15 (wx w m).reverse) (nthF 14 (wx w m).reverse) (nthF 6 (wx w m).reverse) (nthF 1 (wx w m).reverse)) fun x => wF n (x :: (wx w m).reverse) := rfl
    have hl := wx_len w m
    rw [e, force_eq, nthF_eq, nthF_eq, nthF_eq, nthF_eq, getD_rev (by omega), getD_rev (by omega), getD_rev (by omega), getD_rev (by omega), hl]
    have e2 : wnF ((wx w m).getD (w.length + m - 1 - 15) 0) ((wx w m).getD (w.length + m - 1 - 14) 0) ((wx w m).getD (w.length + m - 1 - 6) 0) ((wx w m).getD (w.length + m - 1 - 1) 0) = wnext (wx w m) (w.length + m) := by
      rw [show w.length + m - 1 - 15 = w.length + m - 16 by omega, show w.length + m - 1 - 14 = w.length + m - 15 by omega, show w.length + m - 1 - 6 = w.length + m - 7 by omega, show w.length + m - 1 - 1 = w.length + m - 2 by omega]
      rfl
    rw [e2, show wnext (wx w m) (w.length + m) :: (wx w m).reverse = (wx w (m + 1)).reverse by rw [wx, List.reverse_append]; rfl, ih (m + 1), show m + 1 + n = m + (n + 1) by omega]
/-- Four bytes each as a word. -/
def wordF (a b c d : Nat) : Nat := Nat.add (Nat.mul (Nat.add (Nat.mul (Nat.add (Nat.mul a 256) b) 256) c) 256) d
noncomputable def wordsF : Nat → List Nat → List Nat → List Nat
  | 0, _, r => r
  | n + 1, a :: b :: c :: d :: p, r => force (wordF a b c d) fun x => wordsF n p (x :: r)
  | _ + 1, _, r => r
theorem wordsF_eq (n : Nat) (p : List Nat) (i : Nat) (h : 4 * (i + n) ≤ p.length) (r : List Nat) : wordsF n (p.drop (4 * i)) r = ((List.range' i n).map (word p)).reverse ++ r := by
  induction n generalizing i r with
  | zero => rfl
  | succ n ih =>
    have e : p.drop (4 * i) = p.getD (4 * i) 0 :: p.getD (4 * i + 1) 0 :: p.getD (4 * i + 2) 0 :: p.getD (4 * i + 3) 0 :: p.drop (4 * (i + 1)) := by
      rw [List.drop_eq_getElem_cons (by omega), List.drop_eq_getElem_cons (by omega), List.drop_eq_getElem_cons (by omega), List.drop_eq_getElem_cons (by omega)]
      simp only [List.getD_eq_getElem?_getD]
      rw [List.getElem?_eq_getElem (by omega), List.getElem?_eq_getElem (by omega), List.getElem?_eq_getElem (by omega), List.getElem?_eq_getElem (by omega)]
      rfl
    rw [e]
    show force _ _ = _
    rw [force_eq, ih (i + 1) (by omega), List.range'_succ, List.map_cons, List.reverse_cons, List.append_assoc]
    rfl
noncomputable def blkF (a b c d e f g h : Nat) (p : List Nat) (k : Nat → Nat → Nat → Nat → Nat → Nat → Nat → Nat → List Nat) : List Nat :=
  match rFF kTab (wF 48 (wordsF 16 p [])).reverse a b c d e f g h with
  | ⟨a1, b1, c1, d1, e1, f1, g1, h1⟩ =>
    force (Nat.mod (Nat.add a a1) 4294967296) fun a => force (Nat.mod (Nat.add b b1) 4294967296) fun b => force (Nat.mod (Nat.add c c1) 4294967296) fun c => force (Nat.mod (Nat.add d d1) 4294967296) fun d =>
    force (Nat.mod (Nat.add e e1) 4294967296) fun e => force (Nat.mod (Nat.add f f1) 4294967296) fun f => force (Nat.mod (Nat.add g g1) 4294967296) fun g => force (Nat.mod (Nat.add h h1) 4294967296) fun h => k a b c d e f g h
theorem blkF_eq (s : S8) (p : List Nat) (hp : 64 ≤ p.length) (k : Nat → Nat → Nat → Nat → Nat → Nat → Nat → Nat → List Nat) : blkF s.a s.b s.c s.d s.e s.f s.g s.h p k = (fun t : S8 => k t.a t.b t.c t.d t.e t.f t.g t.h) (shaBlock kTab s p) := by
  have h1 : wordsF 16 p [] = (words p 16).reverse := by
    have := wordsF_eq 16 p 0 (by omega) []
    rw [List.append_nil] at this
    rw [show p = p.drop (4 * 0) from rfl, this, words, List.range_eq_range']
    rfl
  have hw : (words p 16).length = 16 := by simp [words]
  have h2 : (wF 48 (wordsF 16 p [])).reverse = wx (words p 16) 48 := by
    have := wF_eq (words p 16) (by omega) 48 0
    rw [h1, show (words p 16).reverse = (wx (words p 16) 0).reverse from rfl, this, List.reverse_reverse]
  have h3 : rFF kTab (wF 48 (wordsF 16 p [])).reverse s.a s.b s.c s.d s.e s.f s.g s.h = rounds kTab (wx (words p 16) 48) s 64 := by
    have hl := wx_len (words p 16) 48
    rw [h2, rFF_eq, rounds_eq _ _ _ _ (by decide) (by omega), List.take_of_length_le (show kTab.length ≤ 64 by decide), List.take_of_length_le (by omega)]
  unfold blkF shaBlock
  rw [h3]
  generalize rounds kTab (wx (words p 16) 48) s 64 = r
  obtain ⟨a1, b1, c1, d1, e1, f1, g1, h1⟩ := r
  simp only [force_eq]
  rfl
/-- So many blocks; the sum's bytes. -/
noncomputable def shaBF : Nat → Nat → Nat → Nat → Nat → Nat → Nat → Nat → Nat → List Nat → List Nat
  | 0, a, b, c, d, e, f, g, h, _ => [a, b, c, d, e, f, g, h].flatMap out4
  | n + 1, a, b, c, d, e, f, g, h, p => blkF a b c d e f g h p fun a b c d e f g h => shaBF n a b c d e f g h (p.drop 64)
theorem shaBF_eq (n : Nat) (s : S8) (p : List Nat) (hp : 64 * n ≤ p.length) : shaBF n s.a s.b s.c s.d s.e s.f s.g s.h p = (shaB kTab n s p).bytes := by
  induction n generalizing s p with
  | zero => rfl
  | succ n ih =>
    have e : shaBlock kTab s (p.take 64) = shaBlock kTab s p := by
      unfold shaBlock
      have : words (p.take 64) 16 = words p 16 := by
        unfold words
        refine List.map_congr_left fun i hi => ?_
        have hi := List.mem_range.1 hi
        unfold word
        have g : ∀ j, j < 64 → (p.take 64).getD j 0 = p.getD j 0 := fun j hj => by
          rw [List.getD_eq_getElem?_getD, List.getD_eq_getElem?_getD, List.getElem?_take_of_lt hj]
        rw [g _ (by omega), g _ (by omega), g _ (by omega), g _ (by omega)]
      rw [this]
    rw [shaBF, blkF_eq s p (by omega), shaB, e]
    exact ih _ _ (by rw [List.length_drop]; omega)
noncomputable def sha256F (p : List Nat) : List Nat := shaBF ((padded p).length / 64) 1779033703 3144134277 1013904242 2773480762 1359893119 2600822924 528734635 1541459225 (padded p)
theorem sha256F_eq (p : List Nat) : sha256F p = sha256 p := shaBF_eq _ hFirst (padded p) (by omega)
noncomputable def hmacF (key p : List Nat) : List Nat := sha256F (keyPad (if 64 < key.length then sha256F key else key) 92 ++ sha256F (keyPad (if 64 < key.length then sha256F key else key) 54 ++ p))
theorem hmacF_eq (key p : List Nat) : hmacF key p = hmac key p := by
  unfold hmacF hmac macKey
  simp only [sha256F_eq]
/-- HKDF's expand of one block, and of two. -/
theorem expand32 (key info : List Nat) : expand key info 32 = hmacF key (info ++ [1]) := by
  have h : (hmac key ([] ++ (info ++ [1]))).length = 32 := sha256_len _
  rw [hmacF_eq]
  show ([] ++ hmac key ([] ++ (info ++ [1]))).take 32 = _
  rw [List.nil_append, List.nil_append, List.take_of_length_le (by rw [← List.nil_append (info ++ [1])]; omega)]
end Go.Px

/- The first point, and how often it is added till it is the origin: by the kernel. -/
namespace Go.Proofs.YtphcaiplgpmnnaaGreatDoor
open Go.Px Go.Ed
def bxLit : Nat := bxN
def byLit : Nat := s45
def d2Lit : Nat := d2N
def bPt : Fin p25 × Fin p25 := (fF bxLit, fF byLit)
theorem b_on : On (fF dN) bPt := by rw [dN_val]; exact ⟨by decide +kernel⟩
theorem bx_val : bPt.1.val = bxLit := by decide +kernel
theorem by_val : bPt.2.val = byLit := by decide +kernel
theorem pS_val : pS = pAt bxLit byLit := rfl
theorem PR.s : PR pS bPt := by
  have h := PR.at (Q := bPt)
  rw [bx_val, by_val] at h
  rw [pS_val]; exact h
theorem d2_lit : d2N = d2Lit := rfl
/-! ### Sums for the kernel -/
def kM (x y : Nat) : Nat := Nat.mod (Nat.mul x y) 57896044618658097711785492504343953926634992332820282019728792003956564819949
def kA (x y : Nat) : Nat := Nat.mod (Nat.add x y) 57896044618658097711785492504343953926634992332820282019728792003956564819949
def kS (x y : Nat) : Nat := Nat.mod (Nat.sub (Nat.add x 57896044618658097711785492504343953926634992332820282019728792003956564819949) y) 57896044618658097711785492504343953926634992332820282019728792003956564819949
noncomputable def addF {α : Type} (X1 Y1 Z1 T1 X2 Y2 Z2 T2 : Nat) (k : Nat → Nat → Nat → Nat → α) : α :=
  force (kM (kS Y1 X1) (kS Y2 X2)) fun a => force (kM (kA Y1 X1) (kA Y2 X2)) fun b => force (kM (kM T1 16295367250680780974490674513165176452449235426866156013048779062215315747161) T2) fun c => force (kM Z1 Z2) fun z0 => force (kA z0 z0) fun z =>
  force (kS b a) fun e => force (kS z c) fun f => force (kA z c) fun g => force (kA b a) fun h => force (kM e f) fun x => force (kM g h) fun y => force (kM f g) fun z => force (kM e h) fun t => k x y z t
theorem addF_eq {α : Type} (P Q : Pt) (k : Nat → Nat → Nat → Nat → α) : addF P.X P.Y P.Z P.T Q.X Q.Y Q.Z Q.T k = k (pAdd d2N P Q).X (pAdd d2N P Q).Y (pAdd d2N P Q).Z (pAdd d2N P Q).T := by
  rw [d2_lit]
  unfold addF
  simp only [force_eq]
  rfl
noncomputable def tF (n : Nat) (P : Pt) : Nat → Nat → Nat → Nat → Nat → Pt := fun k =>
  Nat.rec (motive := fun _ => Nat → Nat → Nat → Nat → Pt) (fun X Y Z T => ⟨X, Y, Z, T⟩)
    (fun i ih X Y Z T => addF X Y Z T X Y Z T fun X Y Z T => Nat.rec (motive := fun _ => Pt) (ih X Y Z T) (fun _ _ => addF X Y Z T P.X P.Y P.Z P.T fun X Y Z T => ih X Y Z T) (Nat.mod (Nat.shiftRight n i) 2)) k
theorem tF_succ (n i : Nat) (P Q : Pt) : tF n P (i + 1) Q.X Q.Y Q.Z Q.T = tF n P i (pSt P n i Q).X (pSt P n i Q).Y (pSt P n i Q).Z (pSt P n i Q).T := by
  have e : tF n P (i + 1) Q.X Q.Y Q.Z Q.T = addF Q.X Q.Y Q.Z Q.T Q.X Q.Y Q.Z Q.T fun X Y Z T => Nat.rec (motive := fun _ => Pt) (tF n P i X Y Z T) (fun _ _ => addF X Y Z T P.X P.Y P.Z P.T fun X Y Z T => tF n P i X Y Z T) (Nat.mod (Nat.shiftRight n i) 2) := rfl
  rw [e, addF_eq, show Nat.mod (Nat.shiftRight n i) 2 = n / 2 ^ i % 2 by rw [← Nat.shiftRight_eq_div_pow]; rfl]
  have h2 : n / 2 ^ i % 2 < 2 := Nat.mod_lt _ (by decide)
  rcases (show n / 2 ^ i % 2 = 0 ∨ n / 2 ^ i % 2 = 1 by omega) with h | h
  · rw [pSt_neg (by omega), h]
    show tF n P i _ _ _ _ = _
    rfl
  · rw [pSt_pos h, h]
    show addF _ _ _ _ P.X P.Y P.Z P.T _ = _
    rw [addF_eq]
theorem tF_pTk (n : Nat) (P : Pt) : ∀ i, i ≤ 256 → tF n P i (pTk P n (256 - i)).X (pTk P n (256 - i)).Y (pTk P n (256 - i)).Z (pTk P n (256 - i)).T = pTimes P n
  | 0, _ => rfl
  | i + 1, h => by rw [tF_succ, ← pTk_step (by omega)]; exact tF_pTk n P i (by omega)
/-- So many times, for the kernel. -/
theorem times_F (n : Nat) (P : Pt) : pTimes P n = tF n P 256 0 1 1 0 := (tF_pTk n P 256 (Nat.le_refl _)).symm
theorem order_b : (tF lN (pAt bxLit byLit) 256 0 1 1 0).X = 0 ∧ (tF lN (pAt bxLit byLit) 256 0 1 1 0).Y = (tF lN (pAt bxLit byLit) 256 0 1 1 0).Z := by decide +kernel
theorem order_o : FF.nsm lN bPt = ((0 : Fin p25), (1 : Fin p25)) := by
  have h := PR.s.times b_on (n := lN) (by decide)
  have hb := order_b
  rw [← times_F, ← pS_val] at hb
  have hx := h.rep.x
  have hy := h.rep.y
  rw [hb.1] at hx
  rw [hb.2] at hy
  have hz := h.rep.z
  generalize fF (pTimes pS lN).Z = z at *
  generalize FF.nsm lN bPt = Q at *
  obtain ⟨x, y⟩ := Q
  dsimp only at *
  have e1 : x = 0 := (FF.mul0 _ _ hx.symm).resolve_right hz
  have e2 : y = 1 := by
    have : z * y = z * 1 := by grind
    exact FF.cancel hz this
  rw [e1, e2]

end Go.Proofs.YtphcaiplgpmnnaaGreatDoor
/- Plain laws of signatures: what is signed is, by whose that public one is. -/
namespace Go.Proofs.YtphcaiplgpmnnaaGreatDoor
open Go.Px Go.Ed
def secN (seed : List Nat) : Nat := bv (wide ([115, 101, 99, 114, 101, 116] ++ seed)) % lN
def nonN (seed msg : List Nat) : Nat := bv (wide ([110, 111, 110, 99, 101] ++ seed ++ msg)) % lN
def chlN (r p msg : List Nat) : Nat := bv (wide ([99, 104, 97, 108, 108, 101, 110, 103, 101] ++ r ++ p ++ msg)) % lN
noncomputable def pubB (seed : List Nat) : List Nat := pB (pTimes pS (secN seed))
noncomputable def rB (seed msg : List Nat) : List Nat := pB (pTimes pS (nonN seed msg))
noncomputable def sN (seed msg : List Nat) : Nat := (chlN (rB seed msg) (pubB seed) msg * secN seed % lN + nonN seed msg) % lN
noncomputable def sigB (seed msg : List Nat) : List Nat := rB seed msg ++ digs (sN seed msg) 32
def chkO (oa ob : Option Pt) (f : Pt → Pt → Bool) : Bool := match oa, ob with
  | some a, some r => f a r
  | _, _ => false
noncomputable def chkB (p msg sig : List Nat) : Bool := decide (sig.length = 64) && chkO (pRead p) (pRead (sig.take 32)) fun a r => decide (digs (bv (sig.drop 32) % lN) 32 = sig.drop 32) && pSame (pTimes pS (bv (sig.drop 32) % lN)) (pAdd d2N r (pTimes a (chlN (sig.take 32) p msg)))
theorem lN_pos : 0 < lN := by decide
theorem secN_lt (s : List Nat) : secN s < lN := Nat.mod_lt _ lN_pos
theorem nonN_lt (s m : List Nat) : nonN s m < lN := Nat.mod_lt _ lN_pos
theorem pubB_len (s : List Nat) : (pubB s).length = 32 := pB_len _
theorem rB_len (s m : List Nat) : (rB s m).length = 32 := pB_len _
theorem sigB_len (s m : List Nat) : (sigB s m).length = 64 := by simp [sigB, rB_len, digs_len]
/-! ### The example whose bit is turned -/
def kLit : Nat := 4928719331454755403606303759647346995543222500395151019611105437466400029446
def rLit : List Nat := [158, 126, 43, 192, 36, 223, 93, 133, 238, 222, 103, 118, 108, 52, 17, 7, 171, 37, 142, 21, 42, 169, 185, 35, 17, 77, 225, 83, 3, 28, 151, 170]
end Go.Proofs.YtphcaiplgpmnnaaGreatDoor
/-
  Rows of numbers that are arrays: are two one? A slice as an array.
-/
namespace Go.Px
open Go
def arrT (P : Program) (t : TypeId) : Option (Nat × IntKind) := match P.underlying t with
  | some (.array n e) => match P.underlying e with
    | some (.int k) => if sizeT P e = some 1 then some (n, k) else none
    | _ => none
  | _ => none
section
variable {P : Program} {R : Mem} {l : Env} {d : Option Nat} {ty t : TypeId} {pos : String} {af : Array Edge} {g : Option (Nat × Bool)} {x y : Operand} {k : IntKind}
end
end Go.Px

/-
  The same, where what is said of a value may name the values of operations for which it waits.
-/
namespace Go.Px
structure Gx where
  i : Nat
  d : Nat
  us : List Nat
  φ : List Value → Value → Mem → Mem → Prop
def gEnvX (G : List Gx) (vs : Nat → Value) : Env := G.map fun g => (g.d, vs g.i)
def GrowsX (φ : List Value → Value → Mem → Mem → Prop) : Prop := ∀ us v B R R', (∀ x ∈ R, x ∈ R') → φ us v B R → φ us v B R'
def toGx (G : List Gx) : List Gm := G.map fun g => ⟨g.i, g.d, fun _ _ => True⟩
section group
variable {C : Cx} {Q : XQ} {l : Env} {M J : Mem} {os : List Oper} {K : Nat → Prop} {n0 : Nat} {nd : List Nat} {plan : List (Nat × Nat)}
def OwesX (C : Cx) (os : List Oper) (l : Env) (M J : Mem) (G : List Gx) (g : Gx) : Prop :=
  ∃ o, nth os g.i = some o ∧ ∀ (vs : Nat → Value) (bs : Nat → Mem) (R : Mem) (w : World), (∀ x ∈ M ++ (J ++ C.A), x ∈ R) → (∀ g' ∈ G, anc os.toArray os.toArray.size g.i g'.i = true → g'.φ (g'.us.map vs) (vs g'.i) (bs g'.i) R) →
    Asked os (gEnvX G vs ++ l) o ∧ OpL ⟨C.P, w, [], R, C.N⟩ o (gEnvX G vs ++ l) [] [] (fun l' M' J' => ∃ v, l' = (g.d, v) :: (gEnvX G vs ++ l) ∧ g.φ (g.us.map vs) v M' (M' ++ (J' ++ R)))
end group
end Go.Px

/- The walks of package curve: Add, Same, Read; of package sign: secret, challenge, Public, Sign. -/
namespace Go.Proofs.YtphcaiplgpmnnaaGreatDoor
open Go.Px
/-- What the package variables of sha hold. -/
structure GlS (A : Mem) : Prop where
  first : ∃ e f, (0, Obj.cells (nums .u32 hFirst.list).toArray e f) ∈ A
  round : ∃ e f, (1, Obj.cells (nums .u32 kTab).toArray e f) ∈ A
theorem GlS.sub {A A' : Mem} (h : GlS A) (hs : ∀ x, x ∈ A → x ∈ A') : GlS A' := by
  obtain ⟨⟨a, b, c⟩, ⟨d, e, f⟩⟩ := h
  exact ⟨⟨a, b, hs _ c⟩, ⟨d, e, hs _ f⟩⟩
theorem GlS.up {M J A : Mem} (h : GlS A) : GlS (M ++ (J ++ A)) := h.sub fun _ h => mA h
theorem wide_len (p : List Nat) : (wide p).length = 64 := by simp [wide, sha256_len]
theorem wide_lt (p : List Nat) : ∀ x ∈ wide p, x < 256 := by
  intro x hx
  rcases List.mem_append.1 hx with h | h <;> exact sha_lt _ x h
theorem sl_by {R B : Mem} {v : Value} {w : List Nat} {n : Nat} (h : Sl 1 v n (nums .u8 w) B) (hn : n = w.length) (hlt : ∀ x ∈ w, x < 256) (hl : w.length ≤ 16777216) (hR : ∀ x, x ∈ B → x ∈ R) : By R v w := ⟨hn ▸ h.rd hR, hlt, hl⟩
theorem dg_bv {n : Nat} (h : n < lN) : bv (digs n 32) = n := by rw [bv_digs, Nat.mod_eq_of_lt (Nat.lt_trans h (by decide))]
/-- What Read answers. -/
def RdR (r : Value) (w : List Nat) : Prop := ∃ V b, r = .tuple #[V, .bool b] ∧ ((∃ P, pRead w = some P ∧ b = true ∧ FeP V P) ∨ (pRead w = none ∧ b = false ∧ FeP V pZ))
end Go.Proofs.YtphcaiplgpmnnaaGreatDoor
