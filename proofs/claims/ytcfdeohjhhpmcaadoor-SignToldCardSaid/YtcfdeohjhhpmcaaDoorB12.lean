/- Part 12 of the texts of this claim, one behind the other. -/
import Derived.Test.YtcfdeohjhhpmcaaDoorB11
set_option linter.unusedVariables false
set_option linter.unusedSimpArgs false
set_option linter.unusedVariables false
set_option linter.unusedSimpArgs false
set_option maxRecDepth 10000
namespace Go.Ed
variable {n : Nat} [NeZero n]
theorem asc_x (x1 y1 x2 y2 x3 y3 d : Fin n) (h1 : y1*y1 - x1*x1 = 1 + d*x1*x1*y1*y1) (h2 : y2*y2 - x2*x2 = 1 + d*x2*x2*y2*y2) (h3 : y3*y3 - x3*x3 = 1 + d*x3*x3*y3*y3) :
    ((x1*y2+x2*y1)*(1-d*x1*x2*y1*y2)*y3 + (y1*y2+x1*x2)*(1+d*x1*x2*y1*y2)*x3) * ((1-d*x2*x3*y2*y3)*(1+d*x2*x3*y2*y3) + d*x1*y1*(x2*y3+x3*y2)*(y2*y3+x2*x3))
    = (x1*(y2*y3+x2*x3)*(1+d*x2*x3*y2*y3) + y1*(x2*y3+x3*y2)*(1-d*x2*x3*y2*y3)) * ((1-d*x1*x2*y1*y2)*(1+d*x1*x2*y1*y2) + d*(x1*y2+x2*y1)*(y1*y2+x1*x2)*x3*y3) := by
  have e1 : y1*y1 - x1*x1 - (1 + d*x1*x1*y1*y1) = 0 := by grind
  have e2 : y2*y2 - x2*x2 - (1 + d*x2*x2*y2*y2) = 0 := by grind
  have e3 : y3*y3 - x3*x3 - (1 + d*x3*x3*y3*y3) = 0 := by grind
  have e : ((x1*y2+x2*y1)*(1-d*x1*x2*y1*y2)*y3 + (y1*y2+x1*x2)*(1+d*x1*x2*y1*y2)*x3) * ((1-d*x2*x3*y2*y3)*(1+d*x2*x3*y2*y3) + d*x1*y1*(x2*y3+x3*y2)*(y2*y3+x2*x3))
    - (x1*(y2*y3+x2*x3)*(1+d*x2*x3*y2*y3) + y1*(x2*y3+x3*y2)*(1-d*x2*x3*y2*y3)) * ((1-d*x1*x2*y1*y2)*(1+d*x1*x2*y1*y2) + d*(x1*y2+x2*y1)*(y1*y2+x1*x2)*x3*y3)
    = (y1*x2*x2*x2*y2*y2*y2*y2*x3*x3*y3*d*d + y1*x2*x2*x2*x2*y2*y2*y2*x3*y3*y3*d*d - x1*x2*x2*x2*y2*y2*y2*y2*x3*y3*y3*d*d - x1*x2*x2*x2*x2*y2*y2*y2*x3*x3*y3*d*d - y1*x2*y2*y2*y2*y2*x3*x3*y3*d - y1*x2*x2*y2*y2*y2*x3*x3*x3*d + y1*x2*x2*x2*y2*y2*y3*y3*y3*d + y1*x2*x2*x2*x2*y2*x3*y3*y3*d + x1*x2*y2*y2*y2*y2*x3*y3*y3*d + x1*x2*x2*y2*y2*y2*y3*y3*y3*d - x1*x2*x2*x2*y2*y2*x3*x3*x3*d - x1*x2*x2*x2*x2*y2*x3*x3*y3*d - y1*x2*x2*y2*y2*y2*x3*d - y1*x2*x2*x2*y2*y2*y3*d - x1*x2*x2*y2*y2*y2*y3*d - x1*x2*x2*x2*y2*y2*x3*d) * (y1*y1 - x1*x1 - (1 + d*x1*x1*y1*y1)) + (x1*y1*y1*x2*y2*y2*x3*x3*x3*y3*y3*d*d - x1*y1*y1*x2*x2*y2*x3*x3*y3*y3*y3*d*d - x1*x1*y1*x2*y2*y2*x3*x3*y3*y3*y3*d*d + x1*x1*y1*x2*x2*y2*x3*x3*x3*y3*y3*d*d - y1*y1*y1*y2*x3*x3*x3*y3*y3*d - y1*y1*y1*x2*x3*x3*y3*y3*y3*d + y1*y1*y1*x2*y2*y2*x3*x3*y3*d + y1*y1*y1*x2*x2*y2*x3*y3*y3*d - x1*y1*y1*y2*x3*x3*y3*y3*y3*d - x1*y1*y1*x2*x3*x3*x3*y3*y3*d - x1*y1*y1*x2*y2*y2*x3*y3*y3*d - x1*y1*y1*x2*x2*y2*x3*x3*y3*d + x1*x1*y1*y2*x3*x3*x3*y3*y3*d + x1*x1*y1*x2*x3*x3*y3*y3*y3*d - x1*x1*y1*x2*y2*y2*x3*x3*y3*d - x1*x1*y1*x2*x2*y2*x3*y3*y3*d + x1*x1*x1*y2*x3*x3*y3*y3*y3*d + x1*x1*x1*x2*x3*x3*x3*y3*y3*d + x1*x1*x1*x2*y2*y2*x3*y3*y3*d + x1*x1*x1*x2*x2*y2*x3*x3*y3*d + y1*y2*x3*x3*x3*y3*y3*d + y1*x2*x3*x3*y3*y3*y3*d - y1*x2*y2*y2*x3*x3*y3*d - y1*x2*x2*y2*x3*y3*y3*d + x1*y2*x3*x3*y3*y3*y3*d + x1*x2*x3*x3*x3*y3*y3*d + x1*x2*y2*y2*x3*y3*y3*d + x1*x2*x2*y2*x3*x3*y3*d + y1*y1*y1*y2*x3*y3*y3 - y1*y1*y1*y2*x3*x3*x3 + y1*y1*y1*x2*y3*y3*y3 - y1*y1*y1*x2*x3*x3*y3 + x1*y1*y1*y2*y3*y3*y3 - x1*y1*y1*y2*x3*x3*y3 + x1*y1*y1*x2*x3*y3*y3 - x1*y1*y1*x2*x3*x3*x3 - x1*x1*y1*y2*x3*y3*y3 + x1*x1*y1*y2*x3*x3*x3 - x1*x1*y1*x2*y3*y3*y3 + x1*x1*y1*x2*x3*x3*y3 - x1*x1*x1*y2*y3*y3*y3 + x1*x1*x1*y2*x3*x3*y3 - x1*x1*x1*x2*x3*y3*y3 + x1*x1*x1*x2*x3*x3*x3 - y1*y2*x3*y3*y3 + y1*y2*x3*x3*x3 - y1*x2*y3*y3*y3 + y1*x2*x3*x3*y3 - y1*y1*y1*y2*x3 - y1*y1*y1*x2*y3 - x1*y2*y3*y3*y3 + x1*y2*x3*x3*y3 - x1*x2*x3*y3*y3 + x1*x2*x3*x3*x3 - x1*y1*y1*y2*y3 - x1*y1*y1*x2*x3 + x1*x1*y1*y2*x3 + x1*x1*y1*x2*y3 + x1*x1*x1*y2*y3 + x1*x1*x1*x2*x3 + y1*y2*x3 + y1*x2*y3 + x1*y2*y3 + x1*x2*x3) * (y2*y2 - x2*x2 - (1 + d*x2*x2*y2*y2)) + (-x1*y1*y1*x2*y2*y2*x3*d + x1*y1*y1*x2*x2*y2*y3*d + x1*x1*y1*x2*y2*y2*y3*d - x1*x1*y1*x2*x2*y2*x3*d - y1*y1*y1*y2*y2*y2*x3 - y1*y1*y1*x2*y2*y2*y3 + y1*y1*y1*x2*x2*y2*x3 + y1*y1*y1*x2*x2*x2*y3 - x1*y1*y1*y2*y2*y2*y3 - x1*y1*y1*x2*y2*y2*x3 + x1*y1*y1*x2*x2*y2*y3 + x1*y1*y1*x2*x2*x2*x3 + x1*x1*y1*y2*y2*y2*x3 + x1*x1*y1*x2*y2*y2*y3 - x1*x1*y1*x2*x2*y2*x3 - x1*x1*y1*x2*x2*x2*y3 + x1*x1*x1*y2*y2*y2*y3 + x1*x1*x1*x2*y2*y2*x3 - x1*x1*x1*x2*x2*y2*y3 - x1*x1*x1*x2*x2*x2*x3 + y1*y2*y2*y2*x3 + y1*x2*y2*y2*y3 - y1*x2*x2*y2*x3 - y1*x2*x2*x2*y3 + y1*y1*y1*y2*x3 + y1*y1*y1*x2*y3 + x1*y2*y2*y2*y3 + x1*x2*y2*y2*x3 - x1*x2*x2*y2*y3 - x1*x2*x2*x2*x3 + x1*y1*y1*y2*y3 + x1*y1*y1*x2*x3 - x1*x1*y1*y2*x3 - x1*x1*y1*x2*y3 - x1*x1*x1*y2*y3 - x1*x1*x1*x2*x3 - y1*y2*x3 - y1*x2*y3 - x1*y2*y3 - x1*x2*x3) * (y3*y3 - x3*x3 - (1 + d*x3*x3*y3*y3)) := by
    clear h1 h2 h3 e1 e2 e3
    grind
  rw [e1, e2, e3] at e
  clear h1 h2 h3 e1 e2 e3
  grind
theorem asc_y (x1 y1 x2 y2 x3 y3 d : Fin n) (h1 : y1*y1 - x1*x1 = 1 + d*x1*x1*y1*y1) (h2 : y2*y2 - x2*x2 = 1 + d*x2*x2*y2*y2) (h3 : y3*y3 - x3*x3 = 1 + d*x3*x3*y3*y3) :
    ((y1*y2+x1*x2)*(1+d*x1*x2*y1*y2)*y3 + (x1*y2+x2*y1)*(1-d*x1*x2*y1*y2)*x3) * ((1-d*x2*x3*y2*y3)*(1+d*x2*x3*y2*y3) - d*x1*y1*(x2*y3+x3*y2)*(y2*y3+x2*x3))
    = (y1*(y2*y3+x2*x3)*(1+d*x2*x3*y2*y3) + x1*(x2*y3+x3*y2)*(1-d*x2*x3*y2*y3)) * ((1-d*x1*x2*y1*y2)*(1+d*x1*x2*y1*y2) - d*(x1*y2+x2*y1)*(y1*y2+x1*x2)*x3*y3) := by
  have e1 : y1*y1 - x1*x1 - (1 + d*x1*x1*y1*y1) = 0 := by grind
  have e2 : y2*y2 - x2*x2 - (1 + d*x2*x2*y2*y2) = 0 := by grind
  have e3 : y3*y3 - x3*x3 - (1 + d*x3*x3*y3*y3) = 0 := by grind
  have e : ((y1*y2+x1*x2)*(1+d*x1*x2*y1*y2)*y3 + (x1*y2+x2*y1)*(1-d*x1*x2*y1*y2)*x3) * ((1-d*x2*x3*y2*y3)*(1+d*x2*x3*y2*y3) - d*x1*y1*(x2*y3+x3*y2)*(y2*y3+x2*x3))
    - (y1*(y2*y3+x2*x3)*(1+d*x2*x3*y2*y3) + x1*(x2*y3+x3*y2)*(1-d*x2*x3*y2*y3)) * ((1-d*x1*x2*y1*y2)*(1+d*x1*x2*y1*y2) - d*(x1*y2+x2*y1)*(y1*y2+x1*x2)*x3*y3)
    = (-y1*x2*x2*x2*y2*y2*y2*y2*x3*y3*y3*d*d - y1*x2*x2*x2*x2*y2*y2*y2*x3*x3*y3*d*d + x1*x2*x2*x2*y2*y2*y2*y2*x3*x3*y3*d*d + x1*x2*x2*x2*x2*y2*y2*y2*x3*y3*y3*d*d + y1*x2*y2*y2*y2*y2*x3*y3*y3*d + y1*x2*x2*y2*y2*y2*y3*y3*y3*d - y1*x2*x2*x2*y2*y2*x3*x3*x3*d - y1*x2*x2*x2*x2*y2*x3*x3*y3*d - x1*x2*y2*y2*y2*y2*x3*x3*y3*d - x1*x2*x2*y2*y2*y2*x3*x3*x3*d + x1*x2*x2*x2*y2*y2*y3*y3*y3*d + x1*x2*x2*x2*x2*y2*x3*y3*y3*d - y1*x2*x2*y2*y2*y2*y3*d - y1*x2*x2*x2*y2*y2*x3*d - x1*x2*x2*y2*y2*y2*x3*d - x1*x2*x2*x2*y2*y2*y3*d) * (y1*y1 - x1*x1 - (1 + d*x1*x1*y1*y1)) + (x1*y1*y1*x2*y2*y2*x3*x3*y3*y3*y3*d*d - x1*y1*y1*x2*x2*y2*x3*x3*x3*y3*y3*d*d - x1*x1*y1*x2*y2*y2*x3*x3*x3*y3*y3*d*d + x1*x1*y1*x2*x2*y2*x3*x3*y3*y3*y3*d*d - y1*y1*y1*y2*x3*x3*y3*y3*y3*d - y1*y1*y1*x2*x3*x3*x3*y3*y3*d - y1*y1*y1*x2*y2*y2*x3*y3*y3*d - y1*y1*y1*x2*x2*y2*x3*x3*y3*d - x1*y1*y1*y2*x3*x3*x3*y3*y3*d - x1*y1*y1*x2*x3*x3*y3*y3*y3*d + x1*y1*y1*x2*y2*y2*x3*x3*y3*d + x1*y1*y1*x2*x2*y2*x3*y3*y3*d + x1*x1*y1*y2*x3*x3*y3*y3*y3*d + x1*x1*y1*x2*x3*x3*x3*y3*y3*d + x1*x1*y1*x2*y2*y2*x3*y3*y3*d + x1*x1*y1*x2*x2*y2*x3*x3*y3*d + x1*x1*x1*y2*x3*x3*x3*y3*y3*d + x1*x1*x1*x2*x3*x3*y3*y3*y3*d - x1*x1*x1*x2*y2*y2*x3*x3*y3*d - x1*x1*x1*x2*x2*y2*x3*y3*y3*d + y1*y2*x3*x3*y3*y3*y3*d + y1*x2*x3*x3*x3*y3*y3*d + y1*x2*y2*y2*x3*y3*y3*d + y1*x2*x2*y2*x3*x3*y3*d + x1*y2*x3*x3*x3*y3*y3*d + x1*x2*x3*x3*y3*y3*y3*d - x1*x2*y2*y2*x3*x3*y3*d - x1*x2*x2*y2*x3*y3*y3*d + y1*y1*y1*y2*y3*y3*y3 - y1*y1*y1*y2*x3*x3*y3 + y1*y1*y1*x2*x3*y3*y3 - y1*y1*y1*x2*x3*x3*x3 + x1*y1*y1*y2*x3*y3*y3 - x1*y1*y1*y2*x3*x3*x3 + x1*y1*y1*x2*y3*y3*y3 - x1*y1*y1*x2*x3*x3*y3 - x1*x1*y1*y2*y3*y3*y3 + x1*x1*y1*y2*x3*x3*y3 - x1*x1*y1*x2*x3*y3*y3 + x1*x1*y1*x2*x3*x3*x3 - x1*x1*x1*y2*x3*y3*y3 + x1*x1*x1*y2*x3*x3*x3 - x1*x1*x1*x2*y3*y3*y3 + x1*x1*x1*x2*x3*x3*y3 - y1*y2*y3*y3*y3 + y1*y2*x3*x3*y3 - y1*x2*x3*y3*y3 + y1*x2*x3*x3*x3 - y1*y1*y1*y2*y3 - y1*y1*y1*x2*x3 - x1*y2*x3*y3*y3 + x1*y2*x3*x3*x3 - x1*x2*y3*y3*y3 + x1*x2*x3*x3*y3 - x1*y1*y1*y2*x3 - x1*y1*y1*x2*y3 + x1*x1*y1*y2*y3 + x1*x1*y1*x2*x3 + x1*x1*x1*y2*x3 + x1*x1*x1*x2*y3 + y1*y2*y3 + y1*x2*x3 + x1*y2*x3 + x1*x2*y3) * (y2*y2 - x2*x2 - (1 + d*x2*x2*y2*y2)) + (-x1*y1*y1*x2*y2*y2*y3*d + x1*y1*y1*x2*x2*y2*x3*d + x1*x1*y1*x2*y2*y2*x3*d - x1*x1*y1*x2*x2*y2*y3*d - y1*y1*y1*y2*y2*y2*y3 - y1*y1*y1*x2*y2*y2*x3 + y1*y1*y1*x2*x2*y2*y3 + y1*y1*y1*x2*x2*x2*x3 - x1*y1*y1*y2*y2*y2*x3 - x1*y1*y1*x2*y2*y2*y3 + x1*y1*y1*x2*x2*y2*x3 + x1*y1*y1*x2*x2*x2*y3 + x1*x1*y1*y2*y2*y2*y3 + x1*x1*y1*x2*y2*y2*x3 - x1*x1*y1*x2*x2*y2*y3 - x1*x1*y1*x2*x2*x2*x3 + x1*x1*x1*y2*y2*y2*x3 + x1*x1*x1*x2*y2*y2*y3 - x1*x1*x1*x2*x2*y2*x3 - x1*x1*x1*x2*x2*x2*y3 + y1*y2*y2*y2*y3 + y1*x2*y2*y2*x3 - y1*x2*x2*y2*y3 - y1*x2*x2*x2*x3 + y1*y1*y1*y2*y3 + y1*y1*y1*x2*x3 + x1*y2*y2*y2*x3 + x1*x2*y2*y2*y3 - x1*x2*x2*y2*x3 - x1*x2*x2*x2*y3 + x1*y1*y1*y2*x3 + x1*y1*y1*x2*y3 - x1*x1*y1*y2*y3 - x1*x1*y1*x2*x3 - x1*x1*x1*y2*x3 - x1*x1*x1*x2*y3 - y1*y2*y3 - y1*x2*x3 - x1*y2*x3 - x1*x2*y3) * (y3*y3 - x3*x3 - (1 + d*x3*x3*y3*y3)) := by
    clear h1 h2 h3 e1 e2 e3
    grind
  rw [e1, e2, e3] at e
  clear h1 h2 h3 e1 e2 e3
  grind
theorem on_sum (x1 y1 x2 y2 d : Fin n) (h1 : y1*y1 - x1*x1 = 1 + d*x1*x1*y1*y1) (h2 : y2*y2 - x2*x2 = 1 + d*x2*x2*y2*y2) :
    (y1*y2+x1*x2)*(y1*y2+x1*x2)*(1+d*x1*x2*y1*y2)*(1+d*x1*x2*y1*y2) - (x1*y2+x2*y1)*(x1*y2+x2*y1)*(1-d*x1*x2*y1*y2)*(1-d*x1*x2*y1*y2)
    = (1-d*x1*x2*y1*y2)*(1-d*x1*x2*y1*y2)*(1+d*x1*x2*y1*y2)*(1+d*x1*x2*y1*y2) + d*(x1*y2+x2*y1)*(x1*y2+x2*y1)*(y1*y2+x1*x2)*(y1*y2+x1*x2) := by
  have e1 : y1*y1 - x1*x1 - (1 + d*x1*x1*y1*y1) = 0 := by grind
  have e2 : y2*y2 - x2*x2 - (1 + d*x2*x2*y2*y2) = 0 := by grind
  have e : (y1*y2+x1*x2)*(y1*y2+x1*x2)*(1+d*x1*x2*y1*y2)*(1+d*x1*x2*y1*y2) - (x1*y2+x2*y1)*(x1*y2+x2*y1)*(1-d*x1*x2*y1*y2)*(1-d*x1*x2*y1*y2)
    - ((1-d*x1*x2*y1*y2)*(1-d*x1*x2*y1*y2)*(1+d*x1*x2*y1*y2)*(1+d*x1*x2*y1*y2) + d*(x1*y2+x2*y1)*(x1*y2+x2*y1)*(y1*y2+x1*x2)*(y1*y2+x1*x2))
    = (x1*x1*y1*y1*x2*x2*x2*x2*y2*y2*y2*y2*d*d*d + y1*y1*x2*x2*x2*x2*y2*y2*y2*y2*d*d - x1*x1*x2*x2*x2*x2*y2*y2*y2*y2*d*d - x2*x2*x2*x2*y2*y2*y2*y2*d*d - 2*x2*x2*x2*x2*y2*y2*y2*y2*d - y1*y1*x2*x2*y2*y2*y2*y2*d + y1*y1*x2*x2*x2*x2*y2*y2*d + x1*x1*x2*x2*y2*y2*y2*y2*d - x1*x1*x2*x2*x2*x2*y2*y2*d + 2*x2*x2*y2*y2*y2*y2 - 2*x2*x2*x2*x2*y2*y2 - 2*x2*x2*y2*y2*d + y2*y2*y2*y2 - 4*x2*x2*y2*y2 + x2*x2*x2*x2) * (y1*y1 - x1*x1 - (1 + d*x1*x1*y1*y1)) + (y1*y1*y1*y1*x2*x2*y2*y2*d + x1*x1*x1*x1*x2*x2*y2*y2*d - 2*y1*y1*x2*x2*y2*y2*d + 2*x1*x1*x2*x2*y2*y2*d - 2*y1*y1*x2*x2*y2*y2 + 2*x1*x1*x2*x2*y2*y2 + x2*x2*y2*y2*d + 2*x2*x2*y2*y2 - y1*y1*y2*y2 + y1*y1*x2*x2 + x1*x1*y2*y2 - x1*x1*x2*x2 + y2*y2 - x2*x2 + 1) * (y2*y2 - x2*x2 - (1 + d*x2*x2*y2*y2)) := by
    clear h1 h2 e1 e2
    grind
  rw [e1, e2] at e
  clear h1 h2 e1 e2
  grind


/-- What is known of the numbers modulo n, and of d: a prime's field, in which -1 is a square and d isn't. -/
structure Fld (n : Nat) [NeZero n] (d : Fin n) where
  inv : Fin n → Fin n
  ii : Fin n
  mul0 : ∀ a b : Fin n, a * b = 0 → a = 0 ∨ b = 0
  one : (1 : Fin n) ≠ 0
  two : (2 : Fin n) ≠ 0
  hinv : ∀ a : Fin n, a ≠ 0 → a * inv a = 1
  hii : ii * ii = -1
  hd : ∀ s t : Fin n, s * s = d * (t * t) → t = 0
variable {d : Fin n} (F : Fld n d)
structure On (d : Fin n) (P : Fin n × Fin n) : Prop where
  eq : P.2*P.2 - P.1*P.1 = 1 + d*P.1*P.1*P.2*P.2
include F
theorem Fld.cancel {a b c : Fin n} (ha : a ≠ 0) (h : a * b = a * c) : b = c := by
  have : a * (b - c) = 0 := by grind
  rcases F.mul0 _ _ this with h1 | h1
  · exact absurd h1 ha
  · grind
theorem Fld.mul_ne {a b : Fin n} (ha : a ≠ 0) (hb : b ≠ 0) : a * b ≠ 0 := fun h => (F.mul0 _ _ h).elim ha hb
/-- The denominators of a sum aren't 0. -/
theorem Fld.complete {P Q : Fin n × Fin n} (hP : On d P) (hQ : On d Q) : 1 + d*P.1*Q.1*P.2*Q.2 ≠ 0 ∧ 1 - d*P.1*Q.1*P.2*Q.2 ≠ 0 := by
  obtain ⟨x1, y1⟩ := P
  obtain ⟨x2, y2⟩ := Q
  have h1 := hP.eq
  have h2 := hQ.eq
  dsimp only at h1 h2 ⊢
  have hii := F.hii
  have hd := F.hd
  have key : ∀ e : Fin n, d*x1*x2*y1*y2 = e → e * e = 1 → False := by
    intro e he hee
    have he0 : e ≠ 0 := fun h => F.one (by rw [h] at hee; grind)
    generalize F.ii = i at *
    have q1 : (i*x1 + e*y1) * (i*x1 + e*y1) = d * ((x1*y1*(i*x2+y2)) * (x1*y1*(i*x2+y2))) := by
      have a1 : x2*x2 = y2*y2 - 1 - d*x2*x2*y2*y2 := by grind
      have a2 : y1*y1 - x1*x1 = 1 + d*x1*x1*y1*y1 := h1
      have a3 : (d*x1*x2*y1*y2) * (d*x1*x2*y1*y2) = 1 := by rw [he]; exact hee
      grind
    have q2 : (i*x1 - e*y1) * (i*x1 - e*y1) = d * ((x1*y1*(i*x2-y2)) * (x1*y1*(i*x2-y2))) := by
      have a3 : (d*x1*x2*y1*y2) * (d*x1*x2*y1*y2) = 1 := by rw [he]; exact hee
      grind
    have z1 := hd _ _ q1
    have z2 := hd _ _ q2
    have hx1 : x1 ≠ 0 := fun h => he0 (by rw [← he, h]; grind)
    have hy1 : y1 ≠ 0 := fun h => he0 (by rw [← he, h]; grind)
    have hx2 : x2 ≠ 0 := fun h => he0 (by rw [← he, h]; grind)
    have hxy := F.mul_ne hx1 hy1
    have w1 : i*x2+y2 = 0 := (F.mul0 _ _ z1).resolve_left hxy
    have w2 : i*x2-y2 = 0 := (F.mul0 _ _ z2).resolve_left hxy
    have w3 : 2 * (i * x2) = 0 := by grind
    have w4 : i * x2 = 0 := (F.mul0 _ _ w3).resolve_left F.two
    have w5 : i = 0 := (F.mul0 _ _ w4).resolve_right hx2
    rw [w5] at hii
    exact F.one (by grind)
  refine ⟨fun h => key (-1) (by grind) (by grind), fun h => key 1 (by grind) (by grind)⟩

omit F in
theorem On.o : On d ((0 : Fin n), (1 : Fin n)) := ⟨by grind⟩
def Fld.add (P Q : Fin n × Fin n) : Fin n × Fin n :=
  ((P.1*Q.2 + Q.1*P.2) * F.inv (1 + d*P.1*Q.1*P.2*Q.2), (P.2*Q.2 + P.1*Q.1) * F.inv (1 - d*P.1*Q.1*P.2*Q.2))
theorem Fld.add_spec {P Q : Fin n × Fin n} (hP : On d P) (hQ : On d Q) : (F.add P Q).1 * (1 + d*P.1*Q.1*P.2*Q.2) = P.1*Q.2 + Q.1*P.2 ∧ (F.add P Q).2 * (1 - d*P.1*Q.1*P.2*Q.2) = P.2*Q.2 + P.1*Q.1 := by
  obtain ⟨h1, h2⟩ := F.complete hP hQ
  have i1 := F.hinv _ h1
  have i2 := F.hinv _ h2
  unfold Fld.add
  dsimp only
  generalize F.inv (1 + d*P.1*Q.1*P.2*Q.2) = a at *
  generalize F.inv (1 - d*P.1*Q.1*P.2*Q.2) = b at *
  generalize P.1*Q.2 + Q.1*P.2 = u
  generalize P.2*Q.2 + P.1*Q.1 = v
  generalize 1 + d*P.1*Q.1*P.2*Q.2 = w at *
  generalize 1 - d*P.1*Q.1*P.2*Q.2 = z at *
  exact ⟨by grind, by grind⟩
theorem Fld.add_on {P Q : Fin n × Fin n} (hP : On d P) (hQ : On d Q) : On d (F.add P Q) := by
  obtain ⟨h1, h2⟩ := F.complete hP hQ
  obtain ⟨s1, s2⟩ := F.add_spec hP hQ
  have hs := on_sum P.1 P.2 Q.1 Q.2 d hP.eq hQ.eq
  constructor
  generalize F.add P Q = R at *
  generalize 1 + d*P.1*Q.1*P.2*Q.2 = H at *
  generalize 1 - d*P.1*Q.1*P.2*Q.2 = G at *
  refine F.cancel (F.mul_ne (F.mul_ne h1 h1) (F.mul_ne h2 h2)) ?_
  rw [← s1, ← s2] at hs
  grind
theorem Fld.add_comm (P Q : Fin n × Fin n) : F.add P Q = F.add Q P := by
  unfold Fld.add
  have e1 : d*P.1*Q.1*P.2*Q.2 = d*Q.1*P.1*Q.2*P.2 := by grind
  have e2 : P.1*Q.2 + Q.1*P.2 = Q.1*P.2 + P.1*Q.2 := by grind
  have e3 : P.2*Q.2 + P.1*Q.1 = Q.2*P.2 + Q.1*P.1 := by grind
  rw [e1, e2, e3]
theorem Fld.inv1 : F.inv 1 = 1 := by
  have := F.hinv 1 F.one
  grind
theorem Fld.add_o (P : Fin n × Fin n) : F.add P ((0 : Fin n), (1 : Fin n)) = P := by
  unfold Fld.add
  have e1 : 1 + d*P.1*0*P.2*1 = 1 := by grind
  have e2 : 1 - d*P.1*0*P.2*1 = 1 := by grind
  dsimp only
  rw [e1, e2, F.inv1]
  obtain ⟨x, y⟩ := P
  dsimp only
  have e3 : (x * 1 + 0 * y) * 1 = x := by grind
  have e4 : (y * 1 + x * 0) * 1 = y := by grind
  rw [e3, e4]
/-- A sum's coordinates are told by what they fulfil. -/
theorem Fld.add_eq {P Q R : Fin n × Fin n} (hP : On d P) (hQ : On d Q) (h1 : R.1 * (1 + d*P.1*Q.1*P.2*Q.2) = P.1*Q.2 + Q.1*P.2) (h2 : R.2 * (1 - d*P.1*Q.1*P.2*Q.2) = P.2*Q.2 + P.1*Q.1) : F.add P Q = R := by
  obtain ⟨c1, c2⟩ := F.complete hP hQ
  obtain ⟨s1, s2⟩ := F.add_spec hP hQ
  refine Prod.ext (F.cancel c1 ?_) (F.cancel c2 ?_)
  · grind
  · grind
omit F in
theorem cx1 {u v u' v' x1 y1 x3 y3 G H G' H' : Fin n}
    (hx : (u * H * G * y3 + v * G * H * x3) * (G' * H' + d * x1 * y1 * (u' * H') * (v' * G')) = (x1 * (v' * G') * H' + y1 * (u' * H') * G') * (G * H + d * (u * H) * (v * G) * x3 * y3)) :
    G * H * (G' * H') * ((u*y3 + x3*v) * (1 + d*x1*u'*y1*v')) = G * H * (G' * H') * ((x1*v' + u'*y1) * (1 + d*u*x3*v*y3)) := by
  have a : G * H * (G' * H') * ((u*y3 + x3*v) * (1 + d*x1*u'*y1*v')) = (u * H * G * y3 + v * G * H * x3) * (G' * H' + d * x1 * y1 * (u' * H') * (v' * G')) := by clear hx; grind
  have b : G * H * (G' * H') * ((x1*v' + u'*y1) * (1 + d*u*x3*v*y3)) = (x1 * (v' * G') * H' + y1 * (u' * H') * G') * (G * H + d * (u * H) * (v * G) * x3 * y3) := by clear hx; grind
  rw [a, b, hx]
omit F in
theorem cy1 {u v u' v' x1 y1 x3 y3 G H G' H' : Fin n}
    (hy : (v * G * H * y3 + u * H * G * x3) * (G' * H' - d * x1 * y1 * (u' * H') * (v' * G')) = (y1 * (v' * G') * H' + x1 * (u' * H') * G') * (G * H - d * (u * H) * (v * G) * x3 * y3)) :
    G * H * (G' * H') * ((v*y3 + u*x3) * (1 - d*x1*u'*y1*v')) = G * H * (G' * H') * ((y1*v' + x1*u') * (1 - d*u*x3*v*y3)) := by
  have a : G * H * (G' * H') * ((v*y3 + u*x3) * (1 - d*x1*u'*y1*v')) = (v * G * H * y3 + u * H * G * x3) * (G' * H' - d * x1 * y1 * (u' * H') * (v' * G')) := by clear hy; grind
  have b : G * H * (G' * H') * ((y1*v' + x1*u') * (1 - d*u*x3*v*y3)) = (y1 * (v' * G') * H' + x1 * (u' * H') * G') * (G * H - d * (u * H) * (v * G) * x3 * y3) := by clear hy; grind
  rw [a, b, hy]
omit F in
theorem c3r {a b p q : Fin n} (h : a * p * q = b * q * p) : p * q * a = p * q * b := by
  have e1 : p * q * a = a * p * q := by clear h; grind
  have e2 : p * q * b = b * q * p := by clear h; grind
  rw [e1, e2, h]
theorem Fld.add_assoc {P Q R : Fin n × Fin n} (hP : On d P) (hQ : On d Q) (hR : On d R) : F.add (F.add P Q) R = F.add P (F.add Q R) := by
  have hPQ := F.add_on hP hQ
  have hQR := F.add_on hQ hR
  obtain ⟨c1, c2⟩ := F.complete hP hQ
  obtain ⟨c3, c4⟩ := F.complete hQ hR
  obtain ⟨c5, c6⟩ := F.complete hPQ hR
  obtain ⟨c7, c8⟩ := F.complete hP hQR
  obtain ⟨s1, s2⟩ := F.add_spec hP hQ
  obtain ⟨s3, s4⟩ := F.add_spec hQ hR
  obtain ⟨s5, s6⟩ := F.add_spec hPQ hR
  obtain ⟨s7, s8⟩ := F.add_spec hP hQR
  have hx := asc_x P.1 P.2 Q.1 Q.2 R.1 R.2 d hP.eq hQ.eq hR.eq
  have hy := asc_y P.1 P.2 Q.1 Q.2 R.1 R.2 d hP.eq hQ.eq hR.eq
  generalize F.add (F.add P Q) R = L at *
  generalize F.add P (F.add Q R) = L' at *
  generalize F.add P Q = U at *
  generalize F.add Q R = V at *
  obtain ⟨x1, y1⟩ := P
  obtain ⟨x2, y2⟩ := Q
  obtain ⟨x3, y3⟩ := R
  obtain ⟨u, v⟩ := U
  obtain ⟨u', v'⟩ := V
  obtain ⟨l1, l2⟩ := L
  obtain ⟨m1, m2⟩ := L'
  dsimp only at *
  have f1 : x1*y2+x2*y1 = u * (1 + d*x1*x2*y1*y2) := s1.symm
  have f2 : y1*y2+x1*x2 = v * (1 - d*x1*x2*y1*y2) := s2.symm
  have f3 : x2*y3+x3*y2 = u' * (1 + d*x2*x3*y2*y3) := s3.symm
  have f4 : y2*y3+x2*x3 = v' * (1 - d*x2*x3*y2*y3) := s4.symm
  rw [f1, f2, f3, f4] at hx hy
  generalize 1 + d*x1*x2*y1*y2 = H at *
  generalize 1 - d*x1*x2*y1*y2 = G at *
  generalize 1 + d*x2*x3*y2*y3 = H' at *
  generalize 1 - d*x2*x3*y2*y3 = G' at *
  clear s1 s2 s3 s4 f1 f2 f3 f4 hP hQ hR hPQ hQR
  have hz : G * H * (G' * H') ≠ 0 := F.mul_ne (F.mul_ne c2 c1) (F.mul_ne c4 c3)
  have hx' : (u*y3 + x3*v) * (1 + d*x1*u'*y1*v') = (x1*v' + u'*y1) * (1 + d*u*x3*v*y3) := F.cancel hz (cx1 hx)
  have hy' : (v*y3 + u*x3) * (1 - d*x1*u'*y1*v') = (y1*v' + x1*u') * (1 - d*u*x3*v*y3) := F.cancel hz (cy1 hy)
  rw [← s5, ← s7] at hx'
  rw [← s6, ← s8] at hy'
  generalize 1 + d*x1*u'*y1*v' = p at *
  generalize 1 + d*u*x3*v*y3 = q at *
  generalize 1 - d*x1*u'*y1*v' = r at *
  generalize 1 - d*u*x3*v*y3 = s at *
  have ex : l1 = m1 := F.cancel (F.mul_ne c5 c7) (c3r hx')
  have ey : l2 = m2 := F.cancel (F.mul_ne c6 c8) (c3r hy')
  rw [ex, ey]
def Fld.nsm (k : Nat) (P : Fin n × Fin n) : Fin n × Fin n := Nat.rec ((0 : Fin n), (1 : Fin n)) (fun _ Q => F.add Q P) k
theorem Fld.nsm_succ (k : Nat) (P : Fin n × Fin n) : F.nsm (k + 1) P = F.add (F.nsm k P) P := rfl
theorem Fld.nsm_on {P : Fin n × Fin n} (hP : On d P) (k : Nat) : On d (F.nsm k P) := by
  induction k with
  | zero => exact On.o
  | succ k ih => exact F.add_on ih hP
theorem Fld.nsm_add {P : Fin n × Fin n} (hP : On d P) (j k : Nat) : F.nsm (j + k) P = F.add (F.nsm j P) (F.nsm k P) := by
  induction k with
  | zero => exact (F.add_o _).symm
  | succ k ih => rw [← Nat.add_assoc, F.nsm_succ, ih, F.nsm_succ, F.add_assoc (F.nsm_on hP _) (F.nsm_on hP _) hP]
theorem Fld.nsm_mul {P : Fin n × Fin n} (hP : On d P) (j k : Nat) : F.nsm (j * k) P = F.nsm j (F.nsm k P) := by
  induction j with
  | zero => rw [Nat.zero_mul]; rfl
  | succ j ih => rw [Nat.succ_mul, F.nsm_add hP, ih, F.nsm_succ]
theorem Fld.nsm_o (k : Nat) : F.nsm k ((0 : Fin n), (1 : Fin n)) = ((0 : Fin n), (1 : Fin n)) := by
  induction k with
  | zero => rfl
  | succ k ih => rw [F.nsm_succ, ih, F.add_o]
theorem Fld.nsm_mod {P : Fin n × Fin n} (hP : On d P) {L : Nat} (hL : F.nsm L P = ((0 : Fin n), (1 : Fin n))) (k : Nat) : F.nsm (k % L) P = F.nsm k P := by
  conv => rhs; rw [← Nat.mod_add_div k L, F.nsm_add hP, Nat.mul_comm, F.nsm_mul hP, hL, F.nsm_o, F.add_o]
/-- A point told by four numbers: both coordinates and their product, over a third one. -/
structure Rep (X Y Z T : Fin n) (P : Fin n × Fin n) : Prop where
  z : Z ≠ 0
  x : X = P.1 * Z
  y : Y = P.2 * Z
  t : T = P.1 * P.2 * Z
theorem Fld.rep_add {X1 Y1 Z1 T1 X2 Y2 Z2 T2 : Fin n} {P Q : Fin n × Fin n} (hP : On d P) (hQ : On d Q) (h1 : Rep X1 Y1 Z1 T1 P) (h2 : Rep X2 Y2 Z2 T2 Q) {a b c z e f g h : Fin n}
    (ha : a = (Y1 - X1) * (Y2 - X2)) (hb : b = (Y1 + X1) * (Y2 + X2)) (hc : c = T1 * (2 * d) * T2) (hz : z = Z1 * Z2 + Z1 * Z2) (he : e = b - a) (hf : f = z - c) (hg : g = z + c) (hh : h = b + a) :
    Rep (e * f) (g * h) (f * g) (e * h) (F.add P Q) := by
  obtain ⟨c1, c2⟩ := F.complete hP hQ
  obtain ⟨s1, s2⟩ := F.add_spec hP hQ
  obtain ⟨z1, rfl, rfl, rfl⟩ := h1
  obtain ⟨z2, rfl, rfl, rfl⟩ := h2
  generalize F.add P Q = R at *
  obtain ⟨x1, y1⟩ := P
  obtain ⟨x2, y2⟩ := Q
  obtain ⟨u, v⟩ := R
  dsimp only at *
  have hzz := F.mul_ne z1 z2
  have e1 : e = 2 * (Z1 * Z2) * (u * (1 + d*x1*x2*y1*y2)) := by rw [s1, he, hb, ha]; grind
  have e2 : h = 2 * (Z1 * Z2) * (v * (1 - d*x1*x2*y1*y2)) := by rw [s2, hh, hb, ha]; grind
  have e3 : f = 2 * (Z1 * Z2) * (1 - d*x1*x2*y1*y2) := by rw [hf, hz, hc]; grind
  have e4 : g = 2 * (Z1 * Z2) * (1 + d*x1*x2*y1*y2) := by rw [hg, hz, hc]; grind
  clear he hf hg hh ha hb hc hz s1 s2
  generalize 1 + d*x1*x2*y1*y2 = H at *
  generalize 1 - d*x1*x2*y1*y2 = G at *
  subst e1 e2 e3 e4
  exact ⟨F.mul_ne (F.mul_ne (F.mul_ne F.two hzz) c2) (F.mul_ne (F.mul_ne F.two hzz) c1), by grind, by grind, by grind⟩
/-- Two that are told are one just if they are told the same, over either's third number. -/
theorem Fld.rep_same {X1 Y1 Z1 T1 X2 Y2 Z2 T2 : Fin n} {P Q : Fin n × Fin n} (h1 : Rep X1 Y1 Z1 T1 P) (h2 : Rep X2 Y2 Z2 T2 Q) : (X1 * Z2 = X2 * Z1 ∧ Y1 * Z2 = Y2 * Z1) ↔ P = Q := by
  obtain ⟨z1, rfl, rfl, -⟩ := h1
  obtain ⟨z2, rfl, rfl, -⟩ := h2
  constructor
  · rintro ⟨a, b⟩
    refine Prod.ext (F.cancel (F.mul_ne z1 z2) (by grind)) (F.cancel (F.mul_ne z1 z2) (by grind))
  · rintro rfl
    exact ⟨by grind, by grind⟩
theorem Fld.dy_ne {y : Fin n} : d * (y * y) + 1 ≠ 0 := fun h => by
  have h2 := F.hii
  have h1 : F.ii * F.ii = d * (y * y) := by grind
  have h3 := F.hd _ _ h1
  rw [h3] at h
  exact F.one (by grind)
end Go.Ed

/- Plain laws of the curve: what the points that package curve computes are. No program in sight. -/
set_option linter.unusedVariables false
set_option linter.unusedSimpArgs false
namespace Go.Proofs.YtcfdeohjhhpmcaaDoor
open Go.Px Go.Ed
instance : NeZero p25 := ⟨by decide⟩
theorem p25_pos : 0 < p25 := by decide
/-- A number, modulo p. -/
def fF (x : Nat) : Fin p25 := ⟨x % p25, Nat.mod_lt _ p25_pos⟩
theorem fF_val (x : Nat) : (fF x).val = x % p25 := rfl
theorem fF_A (x y : Nat) : fF (fA x y) = fF x + fF y := by
  apply Fin.ext
  rw [Fin.val_add, fF_val, fF_val, fF_val]
  unfold fA
  rw [Nat.mod_mod, Nat.add_mod]
theorem fF_M (x y : Nat) : fF (fM x y) = fF x * fF y := by
  apply Fin.ext
  rw [Fin.val_mul, fF_val, fF_val, fF_val]
  unfold fM
  rw [Nat.mod_mod, Nat.mul_mod]
theorem fF_S {x y : Nat} (hy : y < p25) : fF (fS x y) = fF x - fF y := by
  apply Fin.ext
  rw [Fin.sub_def, fF_val]
  show fS x y % p25 = (p25 - y % p25 + x % p25) % p25
  unfold fS
  rw [Nat.mod_mod, Nat.mod_eq_of_lt hy, Nat.add_mod_mod]
  congr 1; omega
theorem fF_N {x : Nat} (hx : x < p25) : fF (fN x) = -fF x := by
  have h0 : fN x = fS 0 x := by unfold fN fS; rw [Nat.zero_add]
  rw [h0, fF_S hx]
  have : fF 0 = 0 := rfl
  rw [this]; grind
theorem fF_inj {x y : Nat} (hx : x < p25) (hy : y < p25) (h : fF x = fF y) : x = y := by
  have := congrArg Fin.val h
  rwa [fF_val, fF_val, Nat.mod_eq_of_lt hx, Nat.mod_eq_of_lt hy] at this
theorem fF_zero {x : Nat} : fF x = 0 ↔ x % p25 = 0 := by
  constructor
  · intro h; exact congrArg Fin.val h
  · intro h; exact Fin.ext h
theorem fA_lt (x y : Nat) : fA x y < p25 := Nat.mod_lt _ p25_pos
theorem fM_lt (x y : Nat) : fM x y < p25 := Nat.mod_lt _ p25_pos
theorem fS_lt (x y : Nat) : fS x y < p25 := Nat.mod_lt _ p25_pos
theorem fN_lt (x : Nat) : fN x < p25 := Nat.mod_lt _ p25_pos
theorem fI_lt (x : Nat) : fI x < p25 := by rw [fI_eq]; exact Nat.mod_lt _ p25_pos
theorem rtp_lt (x n : Nat) : rtp x n < p25 := Nat.mod_lt _ p25_pos
theorem fI_mul {x : Nat} (h : x % p25 ≠ 0) : fM x (fI x) = 1 := by
  have h1 := fermat1 pr25 (a := x) (fun hd => h (Nat.mod_eq_zero_of_dvd hd))
  rw [fI_eq]
  unfold fM rtp
  rw [Nat.mul_mod, Nat.mod_mod, ← Nat.mul_mod, ← Nat.pow_succ']
  exact h1
theorem fF_I {x : Nat} (h : fF x ≠ 0) : fF x * fF (fI x) = 1 := by
  rw [← fF_M, fI_mul (fun h0 => h (fF_zero.2 h0))]
  rfl
/-! ### For the kernel: powers -/

def dLit : Nat := 37095705934669439343138083508754565189542113879843219016388785533085940283555
def iLit : Nat := 19681161376707505956807079304988542015446066515923890162744021073123829784752
theorem dN_val : dN = dLit := rfl
theorem d_half : dLit ^ ((p25 - 1) / 2) % p25 = p25 - 1 := by
  rw [pm_pow (by decide) 256 _ _ (by decide)]
  decide +kernel
theorem mul0F (a b : Fin p25) (h : a * b = 0) : a = 0 ∨ b = 0 := by
  have h1 := congrArg Fin.val h
  rw [Fin.val_mul] at h1
  have h2 : p25 ∣ a.val * b.val := Nat.dvd_of_mod_eq_zero h1
  rcases pr25.mul h2 with h3 | h3
  · exact .inl (Fin.ext (Nat.eq_zero_of_dvd_of_lt h3 a.isLt))
  · exact .inr (Fin.ext (Nat.eq_zero_of_dvd_of_lt h3 b.isLt))
theorem fF_of (a : Fin p25) : fF a.val = a := Fin.ext (Nat.mod_eq_of_lt a.isLt)
/-- d has no root. -/
theorem d_non (s t : Fin p25) (h : s * s = fF dN * (t * t)) : t = 0 := by
  rw [dN_val] at h
  apply Decidable.byContradiction
  intro ht
  have h1 := congrArg Fin.val h
  rw [Fin.val_mul, Fin.val_mul, Fin.val_mul, fF_val, Nat.mod_eq_of_lt (show dLit < p25 by decide)] at h1
  rw [Nat.mul_mod_mod] at h1
  have ht' : ¬ p25 ∣ t.val := fun hd => ht (Fin.ext (Nat.eq_zero_of_dvd_of_lt hd t.isLt))
  have e2 : (p25 - 1) / 2 * 2 = p25 - 1 := by decide
  have key : ∀ m : Nat, (s.val * s.val) ^ m % p25 = (dLit * (t.val * t.val)) ^ m % p25 := fun m => by
    rw [Nat.pow_mod, h1, ← Nat.pow_mod]
  have k1 := key ((p25 - 1) / 2)
  generalize hm : (p25 - 1) / 2 = m at *
  have hd := d_half
  rw [hm] at hd
  have hft := fermat1 pr25 ht'
  have q1 : ∀ x : Nat, (x * x) ^ m = x ^ (p25 - 1) := fun x => by rw [← Nat.pow_two, ← Nat.pow_mul, Nat.mul_comm 2 m, e2]
  rw [q1, Nat.mul_pow, q1, Nat.mul_mod, hd, hft, Nat.mul_one] at k1
  by_cases hs : p25 ∣ s.val
  · have : s.val = 0 := Nat.eq_zero_of_dvd_of_lt hs s.isLt
    rw [this] at h1
    have hz : p25 ∣ dLit * (t.val * t.val) := Nat.dvd_of_mod_eq_zero (by rw [← h1]; rfl)
    rcases pr25.mul hz with h3 | h3
    · exact absurd h3 (by decide)
    · rcases pr25.mul h3 with h4 | h4 <;> exact ht' h4
  · rw [fermat1 pr25 hs] at k1
    exact absurd k1 (by decide)
/-- The field of the curve. -/
noncomputable def FF : Fld p25 (fF dN) where
  inv a := fF (fI a.val)
  ii := fF iLit
  mul0 := mul0F
  one := by decide
  two := by decide
  hinv a ha := by
    have h := fF_I (x := a.val) (by rw [fF_of]; exact ha)
    rwa [fF_of] at h
  hii := by decide +kernel
  hd := d_non
/-- Four numbers that tell a point. -/
structure PR (P : Pt) (Q : Fin p25 × Fin p25) : Prop where
  rep : Rep (fF P.X) (fF P.Y) (fF P.Z) (fF P.T) Q
  x : P.X < p25
  y : P.Y < p25
  z : P.Z < p25
  t : P.T < p25
theorem PR.o : PR pO ((0 : Fin p25), (1 : Fin p25)) := ⟨⟨by decide, by decide, by decide, by decide⟩, by decide, by decide, by decide, by decide⟩
theorem d2_val : fF d2N = 2 * fF dN := by rw [← d2_eq, fF_M]; rfl
theorem PR.add {P1 P2 : Pt} {Q1 Q2 : Fin p25 × Fin p25} (h1 : PR P1 Q1) (h2 : PR P2 Q2) (o1 : On (fF dN) Q1) (o2 : On (fF dN) Q2) : PR (pAdd d2N P1 P2) (FF.add Q1 Q2) := by
  refine ⟨?_, fM_lt _ _, fM_lt _ _, fM_lt _ _, fM_lt _ _⟩
  unfold pAdd
  dsimp only
  rw [fF_M, fF_M, fF_M, fF_M]
  exact FF.rep_add o1 o2 h1.rep h2.rep (a := fF (fM (fS P1.Y P1.X) (fS P2.Y P2.X))) (b := fF (fM (fA P1.Y P1.X) (fA P2.Y P2.X))) (c := fF (fM (fM P1.T d2N) P2.T)) (z := fF (fA (fM P1.Z P2.Z) (fM P1.Z P2.Z)))
    (by rw [fF_M, fF_S h1.x, fF_S h2.x]) (by rw [fF_M, fF_A, fF_A]) (by rw [fF_M, fF_M, d2_val]) (by rw [fF_A, fF_M])
    (by rw [fF_S (fM_lt _ _)]) (by rw [fF_S (fM_lt _ _)]) (by rw [fF_A]) (by rw [fF_A])
theorem PR.timesK {P : Pt} {Q : Fin p25 × Fin p25} (h : PR P Q) (o : On (fF dN) Q) (n : Nat) : ∀ k, k ≤ 256 → PR (pTk P n k) (FF.nsm (n / 2 ^ (256 - k) % 2 ^ k) Q)
  | 0, _ => by
    rw [Nat.pow_zero, Nat.mod_one]; exact PR.o
  | k + 1, hk => by
    have ih := PR.timesK h o n k (by omega)
    have e1 : 256 - (k + 1) = 255 - k := by omega
    have e2 : n / 2 ^ (255 - k) % 2 ^ (k + 1) = 2 * (n / 2 ^ (256 - k) % 2 ^ k) + n / 2 ^ (255 - k) % 2 := by
      have e3 : n / 2 ^ (256 - k) = n / 2 ^ (255 - k) / 2 := by rw [Nat.div_div_eq_div_mul, ← Nat.pow_succ]; congr 2; omega
      rw [e3]
      generalize n / 2 ^ (255 - k) = m
      rw [Nat.pow_succ', Nat.mod_mul]; omega
    rw [e1, e2]
    generalize n / 2 ^ (256 - k) % 2 ^ k = m at *
    have hd := ih.add ih (FF.nsm_on o m) (FF.nsm_on o m)
    rw [← FF.nsm_add o, ← Nat.two_mul] at hd
    rw [pTk_succ]
    by_cases hb : n / 2 ^ (255 - k) % 2 = 1
    · rw [pSt_pos hb, hb]
      exact hd.add h (FF.nsm_on o _) o
    · rw [pSt_neg hb, show n / 2 ^ (255 - k) % 2 = 0 by omega]
      exact hd
theorem PR.times {P : Pt} {Q : Fin p25 × Fin p25} (h : PR P Q) (o : On (fF dN) Q) {n : Nat} (hn : n < 2 ^ 256) : PR (pTimes P n) (FF.nsm n Q) := by
  have := h.timesK o n 256 (Nat.le_refl _)
  rwa [Nat.sub_self, Nat.pow_zero, Nat.div_one, Nat.mod_eq_of_lt hn] at this

end Go.Proofs.YtcfdeohjhhpmcaaDoor
/- The plain law of roots: which numbers have one. -/
set_option linter.unusedVariables false
set_option linter.unusedSimpArgs false
namespace Go.Proofs.YtcfdeohjhhpmcaaDoor
open Go.Px
theorem modEq_dvd {a b p : Nat} (h : a % p = b % p) (hle : b ≤ a) : p ∣ a - b := Nat.dvd_of_mod_eq_zero (Nat.sub_mod_eq_zero_of_mod_eq h)
/-- Two squares that are one: the roots are the same, or one is the other's opposite. -/
theorem sq_cases {s x : Nat} (hs : s < p25) (hx : x < p25) (h : s * s % p25 = x * x % p25) : s = x ∨ s + x = p25 := by
  have key : p25 ∣ (s + x) * (s + (p25 - x)) := by
    have e : (s + x) * (s + (p25 - x)) + x * x = s * s + p25 * (s + x) := by
      obtain ⟨d, hd⟩ : ∃ d, p25 = x + d := ⟨p25 - x, by omega⟩
      rw [hd, Nat.add_sub_cancel_left]
      grind
    have e2 : ((s + x) * (s + (p25 - x)) + x * x) % p25 = (x * x) % p25 := by rw [e, Nat.add_mul_mod_self_left, h]
    have := modEq_dvd e2 (Nat.le_add_left _ _)
    rwa [Nat.add_sub_cancel] at this
  rcases pr25.mul key with ⟨c, hc⟩ | ⟨c, hc⟩
  · have : c < 2 := by
      rcases Nat.lt_or_ge c 2 with h | h
      · exact h
      · have := Nat.mul_le_mul_left p25 h; omega
    rcases (show c = 0 ∨ c = 1 by omega) with rfl | rfl
    · left; omega
    · right; omega
  · have : c < 2 := by
      rcases Nat.lt_or_ge c 2 with h | h
      · exact h
      · have := Nat.mul_le_mul_left p25 h; omega
    rcases (show c = 0 ∨ c = 1 by omega) with rfl | rfl
    · left; omega
    · left; omega
theorem sq_pow (x n : Nat) : x ^ n % p25 * (x ^ n % p25) % p25 = x ^ (2 * n) % p25 := by rw [← Nat.mul_mod, ← Nat.pow_add, Nat.two_mul]
theorem i_sq : rtp 2 (2 ^ 253 - 5) * rtp 2 (2 ^ 253 - 5) % p25 = p25 - 1 := by
  have h : ∀ n, n = 2 ^ 253 - 5 → rtp 2 n * rtp 2 n % p25 = p25 - 1 := by
    intro n hn
    unfold rtp
    rw [sq_pow, pm_pow (by decide) 256 2 (2 * n) (by omega)]
    subst hn
    decide +kernel
  exact h _ rfl
theorem rt1_sq4 (x : Nat) : ∃ n, 2 * n = p25 - 1 ∧ rt1 x * rt1 x % p25 * (rt1 x * rt1 x % p25) % p25 = x ^ n * (x * x) % p25 := by
  obtain ⟨m, hm⟩ : ∃ m, m = 2 ^ 252 - 2 := ⟨_, rfl⟩
  refine ⟨4 * m - 2, by unfold p25; omega, ?_⟩
  rw [← rt1_eq hm, sq_pow, sq_pow, ← Nat.pow_two, ← Nat.pow_add]
  congr 2
  omega
theorem not_dvd {x : Nat} (h0 : x ≠ 0) (hx : x < p25) : ¬ p25 ∣ x := fun h => by have := Nat.le_of_dvd (by omega) h; omega
theorem pow_half {y n : Nat} (hn : 2 * n = p25 - 1) (hy : ¬ p25 ∣ y) : (y * y % p25) ^ n % p25 = 1 := by
  rw [← Nat.pow_mod, ← Nat.pow_two, ← Nat.pow_mul, hn]
  exact fermat1 pr25 hy
/-- Root answers a root where there is one. -/
theorem rt_law {r : Value} {x n : Nat} (hx : x < p25) (hn : 2 * n = p25 - 1) (h : Rt r x) : ∃ u b y, r = .tuple #[u, .bool b] ∧ Fe u y ∧ b = decide (x = 0 ∨ x ^ n % p25 = 1) ∧ (b = true → y * y % p25 = x) := by
  have conv : ∀ y, y * y % p25 = x → (x = 0 ∨ x ^ n % p25 = 1) := by
    intro y hy
    by_cases h0 : x = 0
    · exact .inl h0
    · right
      rw [← hy]
      refine pow_half hn fun hd => h0 ?_
      obtain ⟨c, rfl⟩ := hd
      rw [← hy, Nat.mul_assoc, Nat.mul_mod_right]
  obtain ⟨u, b, rfl, h⟩ := h
  rcases h with ⟨h1, rfl, hu⟩ | ⟨h1, h2, rfl, hu⟩ | ⟨h1, h2, rfl, hu⟩
  · exact ⟨u, true, _, rfl, hu, by rw [decide_eq_true (conv _ h1)], fun _ => h1⟩
  · exact ⟨u, true, _, rfl, hu, by rw [decide_eq_true (conv _ h2)], fun _ => h2⟩
  · refine ⟨u, false, 0, rfl, hu, ?_, fun h => by cases h⟩
    symm
    rw [decide_eq_false_iff_not]
    intro hc
    obtain ⟨m, hm, h4⟩ := rt1_sq4 x
    obtain rfl : m = n := by omega
    have h5 : rt1 x * rt1 x % p25 * (rt1 x * rt1 x % p25) % p25 = x * x % p25 := by
      rw [h4]
      rcases hc with rfl | hc
      · rw [Nat.mul_zero, Nat.mul_zero]
      · rw [Nat.mul_mod, hc, Nat.one_mul, Nat.mod_mod]
    rcases sq_cases (Nat.mod_lt _ (by decide)) hx h5 with h6 | h6
    · exact h1 h6
    · apply h2
      unfold rt2
      rw [← Nat.mul_mod, show rt1 x * rtp 2 (2 ^ 253 - 5) * (rt1 x * rtp 2 (2 ^ 253 - 5)) = (rt1 x * rt1 x) * (rtp 2 (2 ^ 253 - 5) * rtp 2 (2 ^ 253 - 5)) by generalize rtp 2 (2 ^ 253 - 5) = i; grind, Nat.mul_mod, i_sq]
      generalize rt1 x * rt1 x % p25 = s at *
      have e : s * (p25 - 1) = x + p25 * (s - 1) := by
        obtain rfl : x = p25 - s := by omega
        rw [Nat.mul_sub, Nat.mul_sub, Nat.mul_one, Nat.mul_one, Nat.mul_comm]
        have : p25 ≤ p25 * s := Nat.le_mul_of_pos_right _ (by omega)
        omega
      rw [e, Nat.add_mul_mod_self_left, Nat.mod_eq_of_lt hx]
theorem sq_has {a n : Nat} (hn : 2 * n = p25 - 1) : (a * a % p25 = 0 ∨ (a * a % p25) ^ n % p25 = 1) := by
  by_cases h : p25 ∣ a
  · obtain ⟨c, rfl⟩ := h
    exact .inl (by rw [Nat.mul_assoc, Nat.mul_mod_right])
  · exact .inr (pow_half hn h)

end Go.Proofs.YtcfdeohjhhpmcaaDoor
/- Plain laws of the curve: a point's bytes, and back. -/
set_option linter.unusedVariables false
set_option linter.unusedSimpArgs false
namespace Go.Proofs.YtcfdeohjhhpmcaaDoor
open Go.Px Go.Ed
theorem bv_set : ∀ (l : List Nat) (i x : Nat), i < l.length → bv (l.set i x) + 256 ^ i * l.getD i 0 = bv l + 256 ^ i * x
  | [], i, x, h => by simp at h
  | b :: r, 0, x, _ => by simp only [List.set_cons_zero, bv, List.getD_cons_zero, Nat.pow_zero]; omega
  | b :: r, i + 1, x, h => by
    have ih := bv_set r i x (by simpa using h)
    simp only [List.set_cons_succ, bv, List.getD_cons_succ]
    rw [Nat.pow_succ]
    generalize r.getD i 0 = g at *
    have e1 : 256 ^ i * 256 * g = 256 * (256 ^ i * g) := by rw [Nat.mul_comm (256 ^ i), Nat.mul_assoc]
    have e2 : 256 ^ i * 256 * x = 256 * (256 ^ i * x) := by rw [Nat.mul_comm (256 ^ i), Nat.mul_assoc]
    rw [e1, e2]; omega
/-- A point's bytes, by its two numbers. -/
def encN (x y : Nat) : List Nat := if x % 2 = 1 then (prts 8 32 y 255).set 31 ((prts 8 32 y 255).getD 31 0 ||| 128) else prts 8 32 y 255
theorem pB_enc (P : Pt) : pB P = encN (fM P.X (fI P.Z)) (fM P.Y (fI P.Z)) := rfl
theorem encN_len (x y : Nat) : (encN x y).length = 32 := by unfold encN; split <;> simp [prts_len]
theorem top31 (y : Nat) : (prts 8 32 y 255).getD 31 0 < 128 := by
  rw [prts_get (by decide)]
  unfold prt
  have h : y % 2 ^ 255 < 128 * 2 ^ (8 * 31) := Nat.lt_of_lt_of_le (Nat.mod_lt _ (Nat.two_pow_pos _)) (by decide)
  exact Nat.lt_of_le_of_lt (Nat.mod_le _ _) ((Nat.div_lt_iff_lt_mul (Nat.two_pow_pos _)).2 h)
theorem or_128 {v : Nat} (h : v < 128) : v ||| 128 = v + 128 := by
  have h2 : 128 + v = 128 ||| v := Nat.two_pow_add_eq_or_of_lt (i := 7) h 1
  rw [Nat.or_comm, ← h2]; omega
theorem encN_bv {x y : Nat} (hy : y < p25) : bv (encN x y) = y + 2 ^ 255 * (x % 2) := by
  have h1 := bv_prts y
  rw [Nat.mod_eq_of_lt (Nat.lt_trans hy (by decide))] at h1
  unfold encN
  split
  · rename_i hx
    have h2 := bv_set (prts 8 32 y 255) 31 ((prts 8 32 y 255).getD 31 0 ||| 128) (by rw [prts_len]; decide)
    rw [h1, or_128 (top31 y), Nat.mul_add] at h2
    rw [or_128 (top31 y), hx]
    generalize (prts 8 32 y 255).getD 31 0 = v at *
    generalize 256 ^ 31 * v = q at *
    generalize bv ((prts 8 32 y 255).set 31 (v + 128)) = z at *
    have e : (256 : Nat) ^ 31 * 128 = 2 ^ 255 * 1 := by decide
    omega
  · rename_i hx
    rw [h1, show x % 2 = 0 by omega, Nat.mul_zero, Nat.add_zero]
theorem encN_top {x y : Nat} : decide (128 ≤ (encN x y).getD 31 0) = decide (x % 2 = 1) := by
  have ht := top31 y
  unfold encN
  split
  · rename_i hx
    rw [decide_eq_true hx, or_128 ht]
    apply decide_eq_true
    rw [List.getD_eq_getElem?_getD, List.getElem?_set_self (by rw [prts_len]; decide)]
    show 128 ≤ _ + 128
    omega
  · rename_i hx
    rw [decide_eq_false hx]
    apply decide_eq_false
    omega
theorem encN_rd {x y : Nat} (hy : y < p25) : rdN (encN x y) = y := by
  unfold rdN
  rw [if_pos (encN_len _ _), encN_bv hy]
  have e : (2 : Nat) ^ 255 = 57896044618658097711785492504343953926634992332820282019728792003956564819968 := by decide
  have h2 : y < 57896044618658097711785492504343953926634992332820282019728792003956564819968 := Nat.lt_trans hy (by decide)
  rw [e, Nat.add_mul_mod_self_left, Nat.mod_eq_of_lt h2, Nat.mod_eq_of_lt hy]
theorem fe_z : ∃ u, Fe u 0 := ⟨_, fe_zero⟩
/-- Of a square there is a root. -/
theorem rtN_sq {a : Nat} (ha : a < p25) : ∃ n, rtN (a * a % p25) = some n ∧ (n = a ∨ n + a = p25) := by
  have hv : a * a % p25 < p25 := Nat.mod_lt _ p25_pos
  have hh := fun n hn => sq_has (a := a) (n := n) hn
  have fin : ∀ n, n < p25 → n * n % p25 = a * a % p25 → n = a ∨ n + a = p25 := fun n hn h => sq_cases hn ha h
  generalize a * a % p25 = v at *
  rw [rtN_eq]
  unfold rtN0
  split
  · rename_i h; exact ⟨_, rfl, fin _ (rtp_lt _ _) h⟩
  · rename_i h1
    split
    · rename_i h; exact ⟨_, rfl, fin _ (Nat.mod_lt _ p25_pos) h⟩
    · rename_i h2
      exfalso
      obtain ⟨u, hu⟩ := fe_z
      have hn : 2 * ((p25 - 1) / 2) = p25 - 1 := by decide
      obtain ⟨u', b', y', e1, -, e3, -⟩ := rt_law (r := .tuple #[u, .bool false]) hv hn ⟨u, false, rfl, .inr (.inr ⟨h1, h2, rfl, hu⟩)⟩
      rw [decide_eq_true (hh _ hn)] at e3
      subst e3
      simp at e1
theorem xx_on {Q : Fin p25 × Fin p25} (o : On (fF dN) Q) : xxN Q.2.val = Q.1.val * Q.1.val % p25 := by
  apply fF_inj (fM_lt _ _) (Nat.mod_lt _ p25_pos)
  have e0 : fF (Q.1.val * Q.1.val % p25) = Q.1 * Q.1 := by
    have := fF_M Q.1.val Q.1.val
    rwa [fF_of] at this
  have hD : fF (fA (fM dN (fM Q.2.val Q.2.val)) 1) = fF dN * (Q.2 * Q.2) + 1 := by rw [fF_A, fF_M, fF_M, fF_of]; rfl
  have hne : fF dN * (Q.2 * Q.2) + 1 ≠ 0 := FF.dy_ne
  rw [← hD] at hne
  have hi := fF_I hne
  rw [hD] at hi
  rw [e0]
  rw [fF_M, fF_S (by decide), fF_M, fF_of]
  have ho := o.eq
  generalize fF (fI (fA (fM dN (fM Q.2.val Q.2.val)) 1)) = j at *
  generalize fF dN = d at *
  rw [show fF 1 = 1 from rfl]
  obtain ⟨x, y⟩ := Q
  dsimp only at *
  grind
/-- The point of a y is what it was. -/
theorem at_on {Q : Fin p25 × Fin p25} (o : On (fF dN) Q) : atN Q.2.val (decide (Q.1.val % 2 = 1)) = some Q.1.val := by
  have hx := xx_on o
  have hlt := Q.1.isLt
  obtain ⟨n, h1, h2⟩ := rtN_sq hlt
  rw [← hx] at h1
  generalize Q.1.val = x at *
  have hp : p25 % 2 = 1 := by decide
  unfold atN
  rw [h1]
  unfold atO
  dsimp only
  rcases h2 with rfl | h2
  · by_cases h0 : n = 0
    · subst h0; rfl
    · rw [decide_eq_false h0, Bool.and_false]
      simp
  · by_cases h0 : x = 0
    · subst h0
      obtain rfl : n = p25 := by omega
      exfalso
      rw [rtN_eq] at h1
      unfold rtN0 at h1
      split at h1
      · have := Option.some.inj h1; have h3 := rtp_lt (xxN Q.2.val) (2 ^ 252 - 2); unfold rt1 at this; omega
      · split at h1
        · have := Option.some.inj h1; have h3 : rt2 (xxN Q.2.val) < p25 := Nat.mod_lt _ p25_pos; omega
        · cases h1
    · have hn0 : n ≠ 0 := by omega
      rw [decide_eq_false hn0, Bool.and_false]
      have hpar : (n % 2 = 1) ↔ ¬ (x % 2 = 1) := by omega
      have e : (!(decide (n % 2 = 1) == decide (x % 2 = 1))) = true := by
        by_cases hx1 : x % 2 = 1
        · rw [decide_eq_true hx1, decide_eq_false (fun h => hpar.1 h hx1)]; rfl
        · rw [decide_eq_false hx1, decide_eq_true (hpar.2 hx1)]; rfl
      rw [e]
      have : fN n = x := by
        unfold fN
        rw [show p25 - n = x by omega, Nat.mod_eq_of_lt hlt]
      simp [this]
/-- Bytes as a point. -/
noncomputable def pRead (b : List Nat) : Option Pt := if b.length = 32 then (match atN (rdN b) (decide (128 ≤ b.getD 31 0)) with
  | some x => if pB (pAt x (rdN b)) = b then some (pAt x (rdN b)) else none
  | none => none) else none
theorem PR.at {Q : Fin p25 × Fin p25} : PR (pAt Q.1.val Q.2.val) Q := by
  refine ⟨⟨?_, ?_, ?_, ?_⟩, Q.1.isLt, Q.2.isLt, show 1 < p25 by decide, fM_lt _ _⟩
  · exact FF.one
  · show fF Q.1.val = Q.1 * fF 1
    rw [fF_of, show fF 1 = 1 from rfl]; grind
  · show fF Q.2.val = Q.2 * fF 1
    rw [fF_of, show fF 1 = 1 from rfl]; grind
  · show fF (fM Q.1.val Q.2.val) = Q.1 * Q.2 * fF 1
    rw [fF_M, fF_of, fF_of, show fF 1 = 1 from rfl]; grind
theorem PR.aff {P : Pt} {Q : Fin p25 × Fin p25} (h : PR P Q) : fM P.X (fI P.Z) = Q.1.val ∧ fM P.Y (fI P.Z) = Q.2.val := by
  have hi := fF_I h.rep.z
  have hx := h.rep.x
  have hy := h.rep.y
  constructor
  · apply fF_inj (fM_lt _ _) Q.1.isLt
    rw [fF_M, fF_of, hx]; grind
  · apply fF_inj (fM_lt _ _) Q.2.isLt
    rw [fF_M, fF_of, hy]; grind
theorem PR.bytes {P : Pt} {Q : Fin p25 × Fin p25} (h : PR P Q) : pB P = encN Q.1.val Q.2.val := by rw [pB_enc, h.aff.1, h.aff.2]
theorem read_enc {Q : Fin p25 × Fin p25} (o : On (fF dN) Q) : pRead (encN Q.1.val Q.2.val) = some (pAt Q.1.val Q.2.val) := by
  unfold pRead
  rw [if_pos (encN_len _ _), encN_top, encN_rd Q.2.isLt, at_on o]
  dsimp only
  rw [if_pos (PR.at.bytes)]
theorem read_own {P : Pt} {Q : Fin p25 × Fin p25} (h : PR P Q) (o : On (fF dN) Q) : pRead (pB P) = some (pAt Q.1.val Q.2.val) := by rw [h.bytes, read_enc o]
/-- Are two points one? -/
def pSame (P Q : Pt) : Bool := decide (fM P.X Q.Z = fM Q.X P.Z) && decide (fM P.Y Q.Z = fM Q.Y P.Z)
theorem PR.same {P P' : Pt} {Q : Fin p25 × Fin p25} (h : PR P Q) (h' : PR P' Q) : pSame P P' = true := by
  have hr := (FF.rep_same h.rep h'.rep).2 rfl
  unfold pSame
  rw [decide_eq_true (fF_inj (fM_lt _ _) (fM_lt _ _) (by rw [fF_M, fF_M, hr.1])), decide_eq_true (fF_inj (fM_lt _ _) (fM_lt _ _) (by rw [fF_M, fF_M, hr.2]))]
  rfl

end Go.Proofs.YtcfdeohjhhpmcaaDoor
/-
  SHA-256 in plain natural numbers, and what is true of it. No program in sight.
-/
set_option linter.unusedVariables false
set_option linter.unusedSimpArgs false
namespace Go.Px

def rotr (x n : Nat) : Nat := (x >>> n) ||| ((x <<< (32 - n)) % 4294967296)
def sg0 (a : Nat) : Nat := rotr a 7 ^^^ rotr a 18 ^^^ (a >>> 3)
def sg1 (b : Nat) : Nat := rotr b 17 ^^^ rotr b 19 ^^^ (b >>> 10)
def wnext (w : List Nat) (i : Nat) : Nat :=
  (((w.getD (i - 16) 0 + sg0 (w.getD (i - 15) 0)) % 4294967296 + w.getD (i - 7) 0) % 4294967296 + sg1 (w.getD (i - 2) 0)) % 4294967296
/-- The words, so many more. -/
def wx (w : List Nat) : Nat → List Nat
  | 0 => w
  | n + 1 => wx w n ++ [wnext (wx w n) (w.length + n)]
theorem wx_len (w : List Nat) (n : Nat) : (wx w n).length = w.length + n := by
  induction n with
  | zero => rfl
  | succ n ih => simp [wx, ih]; omega

structure S8 where
  a : Nat
  b : Nat
  c : Nat
  d : Nat
  e : Nat
  f : Nat
  g : Nat
  h : Nat
def S8.list (s : S8) : List Nat := [s.a, s.b, s.c, s.d, s.e, s.f, s.g, s.h]
def S8.ok (s : S8) : Prop := ∀ x ∈ s.list, x < 4294967296
def bs1 (e : Nat) : Nat := rotr e 6 ^^^ rotr e 11 ^^^ rotr e 25
def bs0 (a : Nat) : Nat := rotr a 2 ^^^ rotr a 13 ^^^ rotr a 22
def chz (e f g : Nat) : Nat := (e &&& f) ^^^ ((4294967295 ^^^ e) &&& g)
def maj (a b c : Nat) : Nat := (a &&& b) ^^^ (a &&& c) ^^^ (b &&& c)
def tmp1 (s : S8) (k w : Nat) : Nat := ((((s.h + bs1 s.e) % 4294967296 + chz s.e s.f s.g) % 4294967296 + k) % 4294967296 + w) % 4294967296
def S8.step (s : S8) (k w : Nat) : S8 :=
  ⟨((tmp1 s k w + bs0 s.a) % 4294967296 + maj s.a s.b s.c) % 4294967296, s.a, s.b, s.c, (s.d + tmp1 s k w) % 4294967296, s.e, s.f, s.g⟩
def rounds (ks ws : List Nat) (s : S8) : Nat → S8
  | 0 => s
  | n + 1 => (rounds ks ws s n).step (ks.getD n 0) (ws.getD n 0)
def S8.plus (s t : S8) : S8 :=
  ⟨(s.a + t.a) % 4294967296, (s.b + t.b) % 4294967296, (s.c + t.c) % 4294967296, (s.d + t.d) % 4294967296, (s.e + t.e) % 4294967296, (s.f + t.f) % 4294967296, (s.g + t.g) % 4294967296, (s.h + t.h) % 4294967296⟩
def word (p : List Nat) (i : Nat) : Nat := ((p.getD (4 * i) 0 * 256 + p.getD (4 * i + 1) 0) * 256 + p.getD (4 * i + 2) 0) * 256 + p.getD (4 * i + 3) 0
def words (p : List Nat) (n : Nat) : List Nat := (List.range n).map (word p)
def shaBlock (ks : List Nat) (s : S8) (p : List Nat) : S8 := s.plus (rounds ks (wx (words p 16) 48) s 64)
/-- So many blocks, one behind the other. -/
def shaB (ks : List Nat) : Nat → S8 → List Nat → S8
  | 0, s, _ => s
  | n + 1, s, p => shaB ks n (shaBlock ks s (p.take 64)) (p.drop 64)
def zeros (n : Nat) : Nat := (119 - n % 64) % 64
def len8 (n : Nat) (k : Nat) : List Nat := (List.range k).map fun i => (8 * n) >>> (56 - 8 * i) % 256
def padded (p : List Nat) : List Nat := p ++ (128 :: (List.replicate (zeros p.length) 0 ++ len8 p.length 8))
def out4 (x : Nat) : List Nat := [(x >>> 24) % 256, (x >>> 16) % 256, (x >>> 8) % 256, x % 256]
def S8.bytes (s : S8) : List Nat := s.list.flatMap out4
def kTab : List Nat := [1116352408, 1899447441, 3049323471, 3921009573, 961987163, 1508970993, 2453635748, 2870763221, 3624381080, 310598401, 607225278, 1426881987, 1925078388, 2162078206, 2614888103, 3248222580, 3835390401, 4022224774, 264347078, 604807628, 770255983, 1249150122, 1555081692, 1996064986, 2554220882, 2821834349, 2952996808, 3210313671, 3336571891, 3584528711, 113926993, 338241895, 666307205, 773529912, 1294757372, 1396182291, 1695183700, 1986661051, 2177026350, 2456956037, 2730485921, 2820302411, 3259730800, 3345764771, 3516065817, 3600352804, 4094571909, 275423344, 430227734, 506948616, 659060556, 883997877, 958139571, 1322822218, 1537002063, 1747873779, 1955562222, 2024104815, 2227730452, 2361852424, 2428436474, 2756734187, 3204031479, 3329325298]
def hFirst : S8 := ⟨1779033703, 3144134277, 1013904242, 2773480762, 1359893119, 2600822924, 528734635, 1541459225⟩
def sha256 (p : List Nat) : List Nat := (shaB kTab ((padded p).length / 64) hFirst (padded p)).bytes
def keyPad (key : List Nat) (x : Nat) : List Nat := (key ++ List.replicate (64 - key.length) 0).map (· ^^^ x)
def macKey (key : List Nat) : List Nat := if 64 < key.length then sha256 key else key
def hmac (key p : List Nat) : List Nat := sha256 (keyPad (macKey key) 92 ++ sha256 (keyPad (macKey key) 54 ++ p))

theorem ktab_lt : ∀ x ∈ kTab, x < 4294967296 := by decide
theorem first_ok : hFirst.ok := by unfold S8.ok; decide

theorem wx_get (w : List Nat) {n m i : Nat} (h : m ≤ n) (hi : i < w.length + m) : (wx w n).getD i 0 = (wx w m).getD i 0 := by
  induction n with
  | zero => obtain rfl : m = 0 := by omega
            rfl
  | succ n ih =>
    by_cases hm : m = n + 1
    · subst hm; rfl
    · rw [wx, ← ih (by omega)]
      have : i < (wx w n).length := by rw [wx_len]; omega
      simp [List.getD, List.getElem?_append_left this]
theorem rotr_lt {x n : Nat} (h : x < 4294967296) : rotr x n < 4294967296 := by
  unfold rotr
  refine Nat.or_lt_two_pow (n := 32) ?_ (Nat.mod_lt _ (by decide))
  exact Nat.lt_of_le_of_lt (Nat.shiftRight_le _ _) h
theorem xor32 {a b : Nat} (ha : a < 4294967296) (hb : b < 4294967296) : a ^^^ b < 4294967296 := Nat.xor_lt_two_pow (n := 32) ha hb
theorem or32 {a b : Nat} (ha : a < 4294967296) (hb : b < 4294967296) : a ||| b < 4294967296 := Nat.or_lt_two_pow (n := 32) ha hb
theorem and32 {a b : Nat} (ha : a < 4294967296) : a &&& b < 4294967296 := Nat.lt_of_le_of_lt Nat.and_le_left ha
theorem shr32 {a n : Nat} (ha : a < 4294967296) : a >>> n < 4294967296 := Nat.lt_of_le_of_lt (Nat.shiftRight_le _ _) ha
theorem mod32 {a : Nat} : a % 4294967296 < 4294967296 := Nat.mod_lt _ (by decide)
theorem sg0_lt {x : Nat} (h : x < 4294967296) : sg0 x < 4294967296 := xor32 (xor32 (rotr_lt h) (rotr_lt h)) (shr32 h)
theorem sg1_lt {x : Nat} (h : x < 4294967296) : sg1 x < 4294967296 := xor32 (xor32 (rotr_lt h) (rotr_lt h)) (shr32 h)
theorem bs0_lt {x : Nat} (h : x < 4294967296) : bs0 x < 4294967296 := xor32 (xor32 (rotr_lt h) (rotr_lt h)) (rotr_lt h)
theorem bs1_lt {x : Nat} (h : x < 4294967296) : bs1 x < 4294967296 := xor32 (xor32 (rotr_lt h) (rotr_lt h)) (rotr_lt h)
theorem S8.ok_iff {s : S8} : s.ok ↔ s.a < 4294967296 ∧ s.b < 4294967296 ∧ s.c < 4294967296 ∧ s.d < 4294967296 ∧ s.e < 4294967296 ∧ s.f < 4294967296 ∧ s.g < 4294967296 ∧ s.h < 4294967296 := by
  simp [S8.ok, S8.list]
theorem S8.ok.step {s : S8} (h : s.ok) (k w : Nat) : (s.step k w).ok := by
  rw [S8.ok_iff] at h ⊢
  obtain ⟨h1, h2, h3, h4, h5, h6, h7, h8⟩ := h
  exact ⟨mod32, h1, h2, h3, mod32, h5, h6, h7⟩
theorem S8.ok.plus (s t : S8) : (s.plus t).ok := by
  rw [S8.ok_iff]
  exact ⟨mod32, mod32, mod32, mod32, mod32, mod32, mod32, mod32⟩
theorem S8.ok.rounds {s : S8} (h : s.ok) (ks ws : List Nat) (n : Nat) : (rounds ks ws s n).ok := by
  induction n with
  | zero => exact h
  | succ n ih => exact ih.step _ _
theorem shaBlock_ok (ks : List Nat) (s : S8) (p : List Nat) : (shaBlock ks s p).ok := S8.ok.plus _ _
theorem shaB_ok (ks : List Nat) : ∀ (n : Nat) {s : S8} (p : List Nat), s.ok → (shaB ks n s p).ok
  | 0, _, _, h => h
  | n + 1, s, p, _ => shaB_ok ks n _ (shaBlock_ok ks s _)
theorem shaB_succ (ks : List Nat) : ∀ (n : Nat) (s : S8) (p : List Nat), shaB ks (n + 1) s p = shaBlock ks (shaB ks n s p) ((p.drop (64 * n)).take 64)
  | 0, s, p => by simp [shaB]
  | n + 1, s, p => by
    rw [shaB, shaB_succ ks n, shaB, List.drop_drop, show 64 + 64 * n = 64 * (n + 1) by omega]
theorem shaB_pre (ks : List Nat) : ∀ (n : Nat) (s : S8) (p q : List Nat), 64 * n ≤ p.length → shaB ks n s (p ++ q) = shaB ks n s p
  | 0, s, p, q, h => rfl
  | n + 1, s, p, q, h => by
    rw [shaB, shaB, List.take_append_of_le_length (by omega), List.drop_append_of_le_length (by omega), shaB_pre ks n _ _ _ (by rw [List.length_drop]; omega)]
theorem shaB_add (ks : List Nat) : ∀ (n m : Nat) (s : S8) (p : List Nat), shaB ks (n + m) s p = shaB ks m (shaB ks n s p) (p.drop (64 * n))
  | 0, m, s, p => by simp [shaB]
  | n + 1, m, s, p => by
    rw [show n + 1 + m = (n + m) + 1 by omega, shaB, shaB_add ks n m, shaB, List.drop_drop, show 64 + 64 * n = 64 * (n + 1) by omega]
theorem word_lt {p : List Nat} (h : ∀ x ∈ p, x < 256) (i : Nat) : word p i < 4294967296 := by
  have := fun j => getD_lt (i := j) h (by decide)
  have h0 := this (4 * i); have h1 := this (4 * i + 1); have h2 := this (4 * i + 2); have h3 := this (4 * i + 3)
  unfold word; omega
theorem words_lt {p : List Nat} (h : ∀ x ∈ p, x < 256) (n : Nat) : ∀ x ∈ words p n, x < 4294967296 := by
  intro x hx
  obtain ⟨i, _, rfl⟩ := List.mem_map.1 hx
  exact word_lt h i
theorem words_len (p : List Nat) (n : Nat) : (words p n).length = n := by simp [words]
theorem words_succ (p : List Nat) (n : Nat) : words p (n + 1) = words p n ++ [word p n] := by simp [words, List.range_succ]
theorem wx_lt {w : List Nat} (h : ∀ x ∈ w, x < 4294967296) : ∀ n, ∀ x ∈ wx w n, x < 4294967296
  | 0, x, hx => h x hx
  | n + 1, x, hx => by
    rcases List.mem_append.1 hx with hx | hx
    · exact wx_lt h n x hx
    · simp at hx; subst hx; exact mod32
theorem word_or {a b c d : Nat} (ha : a < 256) (hb : b < 256) (hc : c < 256) (hd : d < 256) :
    ((((a <<< 24) % 4294967296 ||| (b <<< 16) % 4294967296) ||| (c <<< 8) % 4294967296) ||| d) = ((a * 256 + b) * 256 + c) * 256 + d := by
  have e1 : a <<< 24 = (a <<< 8) <<< 16 := by rw [← Nat.shiftLeft_add]
  have f1 : (a <<< 24) % 4294967296 = a <<< 24 := Nat.mod_eq_of_lt (by rw [Nat.shiftLeft_eq]; omega)
  have f2 : (b <<< 16) % 4294967296 = b <<< 16 := Nat.mod_eq_of_lt (by rw [Nat.shiftLeft_eq]; omega)
  have f3 : (c <<< 8) % 4294967296 = c <<< 8 := Nat.mod_eq_of_lt (by rw [Nat.shiftLeft_eq]; omega)
  rw [f1, f2, f3]
  have g1 : (a <<< 24 ||| b <<< 16) = (a * 256 + b) <<< 16 := by
    rw [e1, ← Nat.shiftLeft_or_distrib, ← Nat.shiftLeft_add_eq_or_of_lt (i := 8) hb, Nat.shiftLeft_eq a 8]
  have g2 : ((a * 256 + b) <<< 16 ||| c <<< 8) = ((a * 256 + b) * 256 + c) <<< 8 := by
    rw [show (16 : Nat) = 8 + 8 from rfl, Nat.shiftLeft_add, ← Nat.shiftLeft_or_distrib, ← Nat.shiftLeft_add_eq_or_of_lt (i := 8) hc, Nat.shiftLeft_eq (a * 256 + b) 8]
  rw [g1, g2, ← Nat.shiftLeft_add_eq_or_of_lt (i := 8) hd, Nat.shiftLeft_eq _ 8]
end Go.Px

/-
  The numbers of the rounds from the roots of primes. No program in sight.
-/
set_option linter.unusedVariables false
set_option linter.unusedSimpArgs false
namespace Go.Px

def isPr (n : Nat) : Bool := decide (1 < n) && (List.range n).all fun i => decide (i < 2) || n % i != 0
theorem isPr_no {n i : Nat} (h2 : 2 ≤ i) (hi : i < n) (h : n % i = 0) : isPr n = false := by
  rw [isPr, Bool.and_eq_false_iff]
  right
  rw [List.all_eq_false]
  exact ⟨i, List.mem_range.2 hi, by simp [h]; omega⟩
theorem isPr_yes {n : Nat} (h : ∀ j, 2 ≤ j → j < n → n % j ≠ 0) : isPr n = decide (1 < n) := by
  have : ((List.range n).all fun i => decide (i < 2) || n % i != 0) = true := by
    rw [List.all_eq_true]
    intro j hj
    have := List.mem_range.1 hj
    by_cases h2 : j < 2
    · simp [h2]
    · simp [h2]; exact h j (by omega) this
  rw [isPr, this, Bool.and_true]
def rootStep (k p lo b : Nat) : Nat := if (lo + 2 ^ b) ^ k ≤ p * xp k then lo + 2 ^ b else lo
def rootD (k p : Nat) : Nat → Nat → Nat
  | 0, lo => lo
  | j + 1, lo => rootD k p j (rootStep k p lo j)
def root (k p : Nat) : Nat := rootD k p 40 0 % 4294967296
def rl (k n : Nat) : List Nat := ((List.range n).filter isPr).map (root k)
theorem rl_no {k p : Nat} (h : isPr p = false) : rl k (p + 1) = rl k p := by
  simp [rl, List.range_succ, h]
theorem rl_yes {k p : Nat} (h : isPr p = true) : rl k (p + 1) = rl k p ++ [root k p] := by
  simp [rl, List.range_succ, h]
theorem rl_pre (k p : Nat) : ∀ d, ∃ t, rl k (p + d) = rl k p ++ t
  | 0 => ⟨[], by simp⟩
  | d + 1 => by
    obtain ⟨t, ht⟩ := rl_pre k p d
    cases h : isPr (p + d) with
    | false => exact ⟨t, by rw [← Nat.add_assoc, rl_no h, ht]⟩
    | true => exact ⟨t ++ [root k (p + d)], by rw [← Nat.add_assoc, rl_yes h, ht, List.append_assoc]⟩
theorem rl_take {k p : Nat} (h : p ≤ 312) : (rl k 312).take (rl k p).length = rl k p := by
  obtain ⟨t, ht⟩ := rl_pre k p (312 - p)
  rw [show p + (312 - p) = 312 by omega] at ht
  rw [ht, List.take_left]
theorem rl_count (k : Nat) : (rl k 312).length = 64 := by
  unfold rl
  rw [List.length_map]
  decide +kernel
theorem rl_lt (k n : Nat) : ∀ x ∈ rl k n, x < 4294967296 := by
  intro x hx
  obtain ⟨y, _, rfl⟩ := List.mem_map.1 hx
  exact Nat.mod_lt _ (by decide)
theorem add_shl {lo j : Nat} (hj : j < 40) (h : lo + 2 ^ (j + 1) ≤ 1099511627776) : (lo + (1 <<< j) % 18446744073709551616) % 18446744073709551616 = lo + 2 ^ j := by
  rw [Nat.shiftLeft_eq, Nat.one_mul]
  have : 2 ^ (j + 1) = 2 * 2 ^ j := by rw [Nat.pow_succ]; omega
  rw [Nat.mod_eq_of_lt (show 2 ^ j < 18446744073709551616 by omega)]
  exact Nat.mod_eq_of_lt (by omega)
theorem rootStep_le {k p lo j : Nat} (h : lo + 2 ^ (j + 1) ≤ 1099511627776) : rootStep k p lo j + 2 ^ j ≤ 1099511627776 := by
  have : 2 ^ (j + 1) = 2 * 2 ^ j := by rw [Nat.pow_succ]; omega
  unfold rootStep; split <;> omega
theorem roots_k : (rl 3 312).take 64 = kTab := by decide +kernel
theorem roots_h : (rl 2 312).take 8 = hFirst.list := by decide +kernel

/-! ### The words of a block, one by one -/
def pw (P : List Nat) (i : Nat) : Nat → Nat
  | 0 => 0
  | j + 1 => pw P i j * 256 + P.getD (4 * i + j) 0
theorem pw_four (P : List Nat) (i : Nat) : pw P i 4 = word P i := by simp [pw, word]
theorem pw_lt {P : List Nat} (h : ∀ j, P.getD j 0 < 256) (i : Nat) : ∀ j, pw P i j < 256 ^ j
  | 0 => by simp [pw]
  | j + 1 => by
    have h1 := pw_lt h i j
    have h2 := h (4 * i + j)
    rw [pw, Nat.pow_succ]
    omega
def wAt (P : List Nat) (i : Nat) : List Nat := wx (words P (min i 16)) (i - 16)
theorem wAt_len (P : List Nat) (i : Nat) : (wAt P i).length = i := by
  unfold wAt; rw [wx_len, words_len]; omega
theorem wAt_low {P : List Nat} {i : Nat} (h : i < 16) : wAt P (i + 1) = wAt P i ++ [word P i] := by
  unfold wAt
  rw [show min (i + 1) 16 = i + 1 by omega, show min i 16 = i by omega, show i + 1 - 16 = 0 by omega, show i - 16 = 0 by omega]
  exact words_succ P i
theorem wAt_high {P : List Nat} {i : Nat} (h : 16 ≤ i) : wAt P (i + 1) = wAt P i ++ [wnext (wAt P i) i] := by
  unfold wAt
  rw [show min (i + 1) 16 = 16 by omega, show min i 16 = 16 by omega, show i + 1 - 16 = (i - 16) + 1 by omega, wx, words_len, show 16 + (i - 16) = i by omega]
theorem wAt_lt {P : List Nat} (h : ∀ x ∈ P, x < 256) (i : Nat) : ∀ x ∈ wAt P i, x < 4294967296 := wx_lt (words_lt h _) _
theorem blockP_get {m : List Nat} {a k : Nat} (h : k < 64) : ((m.drop a).take 64).getD k 0 = m.getD (a + k) 0 := by
  simp [List.getD, List.getElem?_take, h]
theorem step_alt (s : S8) (k w : Nat) : (tmp1 s k w + (bs0 s.a + maj s.a s.b s.c) % 4294967296) % 4294967296 = (s.step k w).a := by
  simp only [S8.step]; omega
theorem plus_list (s r : S8) (i : Nat) (h : i < 8) : (s.plus r).list.getD i 0 = (s.list.getD i 0 + r.list.getD i 0) % 4294967296 := by
  have : i = 0 ∨ i = 1 ∨ i = 2 ∨ i = 3 ∨ i = 4 ∨ i = 5 ∨ i = 6 ∨ i = 7 := by omega
  rcases this with rfl | rfl | rfl | rfl | rfl | rfl | rfl | rfl <;> rfl
end Go.Px

/-
  HKDF's expand, in plain lists. No program in sight.
-/
set_option linter.unusedVariables false
set_option linter.unusedSimpArgs false
namespace Go.Px

def exp (key info : List Nat) : Nat → List Nat × List Nat
  | 0 => ([], [])
  | i + 1 => ((exp key info i).1 ++ hmac key ((exp key info i).2 ++ (info ++ [(i + 1) % 256])), hmac key ((exp key info i).2 ++ (info ++ [(i + 1) % 256])))
theorem sha256_len (p : List Nat) : (sha256 p).length = 32 := by simp [sha256, S8.bytes, S8.list, out4]
theorem exp_len (key info : List Nat) : ∀ i, (exp key info i).1.length = 32 * i
  | 0 => rfl
  | i + 1 => by rw [exp, List.length_append, exp_len key info i, hmac, sha256_len]; omega
theorem exp_pre (key info : List Nat) (i : Nat) : ∀ d, ∃ t, (exp key info (i + d)).1 = (exp key info i).1 ++ t
  | 0 => ⟨[], by simp⟩
  | d + 1 => by
    obtain ⟨t, ht⟩ := exp_pre key info i d
    exact ⟨_, by rw [← Nat.add_assoc, exp]; simp only; rw [ht, List.append_assoc]⟩
def rds (n : Int) : Nat := min 255 ((n.toNat + 31) / 32)
def expand (key info : List Nat) (n : Int) : List Nat := (exp key info (rds n)).1.take n.toNat
theorem expand_len (key info : List Nat) (n : Int) : (expand key info n).length = min n.toNat 8160 := by
  unfold expand; rw [List.length_take, exp_len]; unfold rds; omega
theorem exp_take (key info : List Nat) {i j k : Nat} (h : i ≤ j) (hk : k ≤ 32 * i) : (exp key info j).1.take k = (exp key info i).1.take k := by
  obtain ⟨t, ht⟩ := exp_pre key info i (j - i)
  rw [show i + (j - i) = j by omega] at ht
  rw [ht, List.take_append_of_le_length (by rw [exp_len]; exact hk)]
/-- The first bytes are the same, however many are asked. -/
theorem expand_same (key info : List Nat) (n m : Int) (k : Nat) (h1 : k ≤ (expand key info n).length) (h2 : k ≤ (expand key info m).length) : (expand key info n).take k = (expand key info m).take k := by
  rw [expand_len] at h1 h2
  unfold expand
  rw [List.take_take, List.take_take, Nat.min_eq_left (by omega), Nat.min_eq_left (by omega)]
  rcases Nat.le_total (rds n) (rds m) with h | h
  · exact (exp_take key info h (by unfold rds; omega)).symm
  · exact exp_take key info h (by unfold rds; omega)
end Go.Px

/-
  SHA-256 in a form that the kernel computes fast: numbers are forced, the operations are Nat's own. Equal to sha256.
-/
set_option linter.unusedVariables false
set_option linter.unusedSimpArgs false
namespace Go.Px
/-- The number is computed ahead of what goes on with it. -/
noncomputable def force {α : Type} (x : Nat) (f : Nat → α) : α := Nat.rec (motive := fun _ => α) (f 0) (fun n _ => f (Nat.succ n)) x
theorem force_eq {α : Type} (x : Nat) (f : Nat → α) : force x f = f x := by cases x <;> rfl
def rotF (x n m : Nat) : Nat := Nat.lor (Nat.shiftRight x n) (Nat.mod (Nat.shiftLeft x m) 4294967296)
def rF : List Nat → List Nat → S8 → S8
  | k :: ks, w :: ws, s => rF ks ws (s.step k w)
  | _, _, s => s
theorem rF_snoc (ks ws : List Nat) (h : ks.length = ws.length) (k w : Nat) (s : S8) : rF (ks ++ [k]) (ws ++ [w]) s = (rF ks ws s).step k w := by
  induction ks generalizing ws s with
  | nil =>
    cases ws with
    | nil => rfl
    | cons w ws => simp at h
  | cons k' ks ih =>
    cases ws with
    | nil => simp at h
    | cons w' ws => exact ih ws (by simpa using h) (s.step k' w')
theorem rounds_eq (ks ws : List Nat) (s : S8) (n : Nat) (h1 : n ≤ ks.length) (h2 : n ≤ ws.length) : rounds ks ws s n = rF (ks.take n) (ws.take n) s := by
  induction n with
  | zero => rfl
  | succ n ih =>
    rw [rounds, ih (by omega) (by omega), List.take_add_one, List.take_add_one, List.getElem?_eq_getElem (by omega), List.getElem?_eq_getElem (by omega)]
    simp only [Option.toList_some]
    rw [rF_snoc _ _ (by simp; omega), List.getD_eq_getElem?_getD, List.getD_eq_getElem?_getD, List.getElem?_eq_getElem (by omega), List.getElem?_eq_getElem (by omega)]
    rfl
/-- The sum that both ends of a round take. -/
def t1F (e f g h k w : Nat) : Nat :=
  Nat.mod (Nat.add (Nat.mod (Nat.add (Nat.mod (Nat.add (Nat.mod (Nat.add h (Nat.xor (Nat.xor (rotF e 6 26) (rotF e 11 21)) (rotF e 25 7))) 4294967296) (Nat.xor (Nat.land e f) (Nat.land (Nat.xor 4294967295 e) g))) 4294967296) k) 4294967296) w) 4294967296
def aF (t a b c : Nat) : Nat :=
  Nat.mod (Nat.add (Nat.mod (Nat.add t (Nat.xor (Nat.xor (rotF a 2 30) (rotF a 13 19)) (rotF a 22 10))) 4294967296) (Nat.xor (Nat.xor (Nat.land a b) (Nat.land a c)) (Nat.land b c))) 4294967296
noncomputable def rFF (ks : List Nat) : List Nat → Nat → Nat → Nat → Nat → Nat → Nat → Nat → Nat → S8 :=
  List.rec (motive := fun _ => List Nat → Nat → Nat → Nat → Nat → Nat → Nat → Nat → Nat → S8) (fun _ a b c d e f g h => ⟨a, b, c, d, e, f, g, h⟩)
    (fun k _ ih ws => List.rec (motive := fun _ => Nat → Nat → Nat → Nat → Nat → Nat → Nat → Nat → S8) (fun a b c d e f g h => ⟨a, b, c, d, e, f, g, h⟩)
      (fun w ws _ a b c d e f g h => force (t1F e f g h k w) fun t => force (aF t a b c) fun a' => force (Nat.mod (Nat.add d t) 4294967296) fun e' => ih ws a' a b c e' e f g) ws) ks
theorem rFF_eq (ks ws : List Nat) (s : S8) : rFF ks ws s.a s.b s.c s.d s.e s.f s.g s.h = rF ks ws s := by
  induction ks generalizing ws s with
  | nil => cases ws <;> rfl
  | cons k ks ih =>
    cases ws with
    | nil => rfl
    | cons w ws =>
      have e : rFF (k :: ks) (w :: ws) s.a s.b s.c s.d s.e s.f s.g s.h = force (t1F s.e s.f s.g s.h k w) fun t => force (aF t s.a s.b s.c) fun a' => force (Nat.mod (Nat.add s.d t) 4294967296) fun e' => rFF ks ws a' s.a s.b s.c e' s.e s.f s.g := rfl
      rw [e, force_eq, force_eq, force_eq]
      exact ih ws (s.step k w)
/-- The words, the last first. -/
noncomputable def nthF : Nat → List Nat → Nat := fun n => Nat.rec (motive := fun _ => List Nat → Nat) (fun l => List.rec (motive := fun _ => Nat) 0 (fun x _ _ => x) l) (fun _ ih l => List.rec (motive := fun _ => Nat) 0 (fun _ r _ => ih r) l) n
theorem nthF_eq (n : Nat) (l : List Nat) : nthF n l = l.getD n 0 := by
  induction n generalizing l with
  | zero => cases l <;> rfl
  | succ n ih =>
    cases l with
    | nil => rfl
    | cons x r => exact ih r
def wnF (w16 w15 w7 w2 : Nat) : Nat :=
  Nat.mod (Nat.add (Nat.mod (Nat.add (Nat.mod (Nat.add w16 (Nat.xor (Nat.xor (rotF w15 7 25) (rotF w15 18 14)) (Nat.shiftRight w15 3))) 4294967296) w7) 4294967296) (Nat.xor (Nat.xor (rotF w2 17 15) (rotF w2 19 13)) (Nat.shiftRight w2 10))) 4294967296
noncomputable def wF (n : Nat) : List Nat → List Nat :=
  Nat.rec (motive := fun _ => List Nat → List Nat) (fun r => r) (fun _ ih r => force (wnF (nthF 15 r) (nthF 14 r) (nthF 6 r) (nthF 1 r)) fun x => ih (x :: r)) n
theorem getD_rev {l : List Nat} {k : Nat} (h : k < l.length) : l.reverse.getD k 0 = l.getD (l.length - 1 - k) 0 := by
  rw [List.getD_eq_getElem?_getD, List.getD_eq_getElem?_getD, List.getElem?_reverse h]
theorem wF_eq (w : List Nat) (hw : 16 ≤ w.length) (n m : Nat) : wF n (wx w m).reverse = (wx w (m + n)).reverse := by
  induction n generalizing m with
  | zero => rfl
  | succ n ih =>
    have e : wF (n + 1) (wx w m).reverse = force (wnF (nthF 15 (wx w m).reverse) (nthF 14 (wx w m).reverse) (nthF 6 (wx w m).reverse) (nthF 1 (wx w m).reverse)) fun x => wF n (x :: (wx w m).reverse) := rfl
    have hl := wx_len w m
    rw [e, force_eq, nthF_eq, nthF_eq, nthF_eq, nthF_eq, getD_rev (by omega), getD_rev (by omega), getD_rev (by omega), getD_rev (by omega), hl]
    have e2 : wnF ((wx w m).getD (w.length + m - 1 - 15) 0) ((wx w m).getD (w.length + m - 1 - 14) 0) ((wx w m).getD (w.length + m - 1 - 6) 0) ((wx w m).getD (w.length + m - 1 - 1) 0) = wnext (wx w m) (w.length + m) := by
      rw [show w.length + m - 1 - 15 = w.length + m - 16 by omega, show w.length + m - 1 - 14 = w.length + m - 15 by omega, show w.length + m - 1 - 6 = w.length + m - 7 by omega, show w.length + m - 1 - 1 = w.length + m - 2 by omega]
      rfl
    rw [e2, show wnext (wx w m) (w.length + m) :: (wx w m).reverse = (wx w (m + 1)).reverse by rw [wx, List.reverse_append]; rfl, ih (m + 1), show m + 1 + n = m + (n + 1) by omega]
/-- Four bytes each as a word. -/
def wordF (a b c d : Nat) : Nat := Nat.add (Nat.mul (Nat.add (Nat.mul (Nat.add (Nat.mul a 256) b) 256) c) 256) d
noncomputable def wordsF : Nat → List Nat → List Nat → List Nat
  | 0, _, r => r
  | n + 1, a :: b :: c :: d :: p, r => force (wordF a b c d) fun x => wordsF n p (x :: r)
  | _ + 1, _, r => r
theorem wordsF_eq (n : Nat) (p : List Nat) (i : Nat) (h : 4 * (i + n) ≤ p.length) (r : List Nat) : wordsF n (p.drop (4 * i)) r = ((List.range' i n).map (word p)).reverse ++ r := by
  induction n generalizing i r with
  | zero => rfl
  | succ n ih =>
    have e : p.drop (4 * i) = p.getD (4 * i) 0 :: p.getD (4 * i + 1) 0 :: p.getD (4 * i + 2) 0 :: p.getD (4 * i + 3) 0 :: p.drop (4 * (i + 1)) := by
      rw [List.drop_eq_getElem_cons (by omega), List.drop_eq_getElem_cons (by omega), List.drop_eq_getElem_cons (by omega), List.drop_eq_getElem_cons (by omega)]
      simp only [List.getD_eq_getElem?_getD]
      rw [List.getElem?_eq_getElem (by omega), List.getElem?_eq_getElem (by omega), List.getElem?_eq_getElem (by omega), List.getElem?_eq_getElem (by omega)]
      rfl
    rw [e]
    show force _ _ = _
    rw [force_eq, ih (i + 1) (by omega), List.range'_succ, List.map_cons, List.reverse_cons, List.append_assoc]
    rfl
noncomputable def blkF (a b c d e f g h : Nat) (p : List Nat) (k : Nat → Nat → Nat → Nat → Nat → Nat → Nat → Nat → List Nat) : List Nat :=
  match rFF kTab (wF 48 (wordsF 16 p [])).reverse a b c d e f g h with
  | ⟨a1, b1, c1, d1, e1, f1, g1, h1⟩ =>
    force (Nat.mod (Nat.add a a1) 4294967296) fun a => force (Nat.mod (Nat.add b b1) 4294967296) fun b => force (Nat.mod (Nat.add c c1) 4294967296) fun c => force (Nat.mod (Nat.add d d1) 4294967296) fun d =>
    force (Nat.mod (Nat.add e e1) 4294967296) fun e => force (Nat.mod (Nat.add f f1) 4294967296) fun f => force (Nat.mod (Nat.add g g1) 4294967296) fun g => force (Nat.mod (Nat.add h h1) 4294967296) fun h => k a b c d e f g h
theorem blkF_eq (s : S8) (p : List Nat) (hp : 64 ≤ p.length) (k : Nat → Nat → Nat → Nat → Nat → Nat → Nat → Nat → List Nat) : blkF s.a s.b s.c s.d s.e s.f s.g s.h p k = (fun t : S8 => k t.a t.b t.c t.d t.e t.f t.g t.h) (shaBlock kTab s p) := by
  have h1 : wordsF 16 p [] = (words p 16).reverse := by
    have := wordsF_eq 16 p 0 (by omega) []
    rw [List.append_nil] at this
    rw [show p = p.drop (4 * 0) from rfl, this, words, List.range_eq_range']
    rfl
  have hw : (words p 16).length = 16 := by simp [words]
  have h2 : (wF 48 (wordsF 16 p [])).reverse = wx (words p 16) 48 := by
    have := wF_eq (words p 16) (by omega) 48 0
    rw [h1, show (words p 16).reverse = (wx (words p 16) 0).reverse from rfl, this, List.reverse_reverse]
  have h3 : rFF kTab (wF 48 (wordsF 16 p [])).reverse s.a s.b s.c s.d s.e s.f s.g s.h = rounds kTab (wx (words p 16) 48) s 64 := by
    have hl := wx_len (words p 16) 48
    rw [h2, rFF_eq, rounds_eq _ _ _ _ (by decide) (by omega), List.take_of_length_le (show kTab.length ≤ 64 by decide), List.take_of_length_le (by omega)]
  unfold blkF shaBlock
  rw [h3]
  generalize rounds kTab (wx (words p 16) 48) s 64 = r
  obtain ⟨a1, b1, c1, d1, e1, f1, g1, h1⟩ := r
  simp only [force_eq]
  rfl
/-- So many blocks; the sum's bytes. -/
noncomputable def shaBF : Nat → Nat → Nat → Nat → Nat → Nat → Nat → Nat → Nat → List Nat → List Nat
  | 0, a, b, c, d, e, f, g, h, _ => [a, b, c, d, e, f, g, h].flatMap out4
  | n + 1, a, b, c, d, e, f, g, h, p => blkF a b c d e f g h p fun a b c d e f g h => shaBF n a b c d e f g h (p.drop 64)
theorem shaBF_eq (n : Nat) (s : S8) (p : List Nat) (hp : 64 * n ≤ p.length) : shaBF n s.a s.b s.c s.d s.e s.f s.g s.h p = (shaB kTab n s p).bytes := by
  induction n generalizing s p with
  | zero => rfl
  | succ n ih =>
    have e : shaBlock kTab s (p.take 64) = shaBlock kTab s p := by
      unfold shaBlock
      have : words (p.take 64) 16 = words p 16 := by
        unfold words
        refine List.map_congr_left fun i hi => ?_
        have hi := List.mem_range.1 hi
        unfold word
        have g : ∀ j, j < 64 → (p.take 64).getD j 0 = p.getD j 0 := fun j hj => by
          rw [List.getD_eq_getElem?_getD, List.getD_eq_getElem?_getD, List.getElem?_take_of_lt hj]
        rw [g _ (by omega), g _ (by omega), g _ (by omega), g _ (by omega)]
      rw [this]
    rw [shaBF, blkF_eq s p (by omega), shaB, e]
    exact ih _ _ (by rw [List.length_drop]; omega)
noncomputable def sha256F (p : List Nat) : List Nat := shaBF ((padded p).length / 64) 1779033703 3144134277 1013904242 2773480762 1359893119 2600822924 528734635 1541459225 (padded p)
theorem sha256F_eq (p : List Nat) : sha256F p = sha256 p := shaBF_eq _ hFirst (padded p) (by omega)
noncomputable def hmacF (key p : List Nat) : List Nat := sha256F (keyPad (if 64 < key.length then sha256F key else key) 92 ++ sha256F (keyPad (if 64 < key.length then sha256F key else key) 54 ++ p))
theorem hmacF_eq (key p : List Nat) : hmacF key p = hmac key p := by
  unfold hmacF hmac macKey
  simp only [sha256F_eq]
/-- HKDF's expand of one block, and of two. -/
theorem expand32 (key info : List Nat) : expand key info 32 = hmacF key (info ++ [1]) := by
  have h : (hmac key ([] ++ (info ++ [1]))).length = 32 := sha256_len _
  rw [hmacF_eq]
  show ([] ++ hmac key ([] ++ (info ++ [1]))).take 32 = _
  rw [List.nil_append, List.nil_append, List.take_of_length_le (by rw [← List.nil_append (info ++ [1])]; omega)]
theorem expand64 (key info : List Nat) : expand key info 64 = hmacF key (info ++ [1]) ++ hmacF key (hmacF key (info ++ [1]) ++ (info ++ [2])) := by
  have h : ∀ p, (hmac key p).length = 32 := fun p => sha256_len _
  simp only [hmacF_eq]
  show (([] ++ hmac key ([] ++ (info ++ [1]))) ++ hmac key (hmac key ([] ++ (info ++ [1])) ++ (info ++ [2]))).take 64 = _
  simp only [List.nil_append]
  rw [List.take_of_length_le]
  rw [List.length_append, h, h]; decide
end Go.Px

