/- Part 13 of the texts of this claim, one behind the other. -/
import Derived.Test.YthbhpfefdnffaaaGreatDoorB12
import Derived.Laws.StructEq
import Derived.Laws.Cover3
set_option linter.unusedVariables false
set_option linter.unusedSimpArgs false
set_option maxRecDepth 100000
set_option maxRecDepth 10000
namespace Go.Ed
variable {n : Nat} [NeZero n]
theorem C0p (x1 y1 x2 y2 x3 y3 d : Fin n) (h1 : y1*y1 - x1*x1 = 1 + d*x1*x1*y1*y1) (h2 : y2*y2 - x2*x2 = 1 + d*x2*x2*y2*y2) (h3 : y3*y3 - x3*x3 = 1 + d*x3*x3*y3*y3) :
    ((x1*y2+x2*y1)*(1-d*x1*x2*y1*y2)*y3 + (y1*y2+x1*x2)*(1+d*x1*x2*y1*y2)*x3) * ((1-d*x2*x3*y2*y3)*(1+d*x2*x3*y2*y3) + d*x1*y1*(x2*y3+x3*y2)*(y2*y3+x2*x3))
    = (x1*(y2*y3+x2*x3)*(1+d*x2*x3*y2*y3) + y1*(x2*y3+x3*y2)*(1-d*x2*x3*y2*y3)) * ((1-d*x1*x2*y1*y2)*(1+d*x1*x2*y1*y2) + d*(x1*y2+x2*y1)*(y1*y2+x1*x2)*x3*y3) := by
  have e1 : y1*y1 - x1*x1 - (1 + d*x1*x1*y1*y1) = 0 := by grind
  have e2 : y2*y2 - x2*x2 - (1 + d*x2*x2*y2*y2) = 0 := by grind
  have e3 : y3*y3 - x3*x3 - (1 + d*x3*x3*y3*y3) = 0 := by grind
  have e : ((x1*y2+x2*y1)*(1-d*x1*x2*y1*y2)*y3 + (y1*y2+x1*x2)*(1+d*x1*x2*y1*y2)*x3) * ((1-d*x2*x3*y2*y3)*(1+d*x2*x3*y2*y3) + d*x1*y1*(x2*y3+x3*y2)*(y2*y3+x2*x3))
    - (x1*(y2*y3+x2*x3)*(1+d*x2*x3*y2*y3) + y1*(x2*y3+x3*y2)*(1-d*x2*x3*y2*y3)) * ((1-d*x1*x2*y1*y2)*(1+d*x1*x2*y1*y2) + d*(x1*y2+x2*y1)*(y1*y2+x1*x2)*x3*y3)
    = (y1*x2*x2*x2*y2*y2*y2*y2*x3*x3*y3*d*d + y1*x2*x2*x2*x2*y2*y2*y2*x3*y3*y3*d*d - x1*x2*x2*x2*y2*y2*y2*y2*x3*y3*y3*d*d - x1*x2*x2*x2*x2*y2*y2*y2*x3*x3*y3*d*d - y1*x2*y2*y2*y2*y2*x3*x3*y3*d - y1*x2*x2*y2*y2*y2*x3*x3*x3*d + y1*x2*x2*x2*y2*y2*y3*y3*y3*d + y1*x2*x2*x2*x2*y2*x3*y3*y3*d + x1*x2*y2*y2*y2*y2*x3*y3*y3*d + x1*x2*x2*y2*y2*y2*y3*y3*y3*d - x1*x2*x2*x2*y2*y2*x3*x3*x3*d - x1*x2*x2*x2*x2*y2*x3*x3*y3*d - y1*x2*x2*y2*y2*y2*x3*d - y1*x2*x2*x2*y2*y2*y3*d - x1*x2*x2*y2*y2*y2*y3*d - x1*x2*x2*x2*y2*y2*x3*d) * (y1*y1 - x1*x1 - (1 + d*x1*x1*y1*y1)) + (x1*y1*y1*x2*y2*y2*x3*x3*x3*y3*y3*d*d - x1*y1*y1*x2*x2*y2*x3*x3*y3*y3*y3*d*d - x1*x1*y1*x2*y2*y2*x3*x3*y3*y3*y3*d*d + x1*x1*y1*x2*x2*y2*x3*x3*x3*y3*y3*d*d - y1*y1*y1*y2*x3*x3*x3*y3*y3*d - y1*y1*y1*x2*x3*x3*y3*y3*y3*d + y1*y1*y1*x2*y2*y2*x3*x3*y3*d + y1*y1*y1*x2*x2*y2*x3*y3*y3*d - x1*y1*y1*y2*x3*x3*y3*y3*y3*d - x1*y1*y1*x2*x3*x3*x3*y3*y3*d - x1*y1*y1*x2*y2*y2*x3*y3*y3*d - x1*y1*y1*x2*x2*y2*x3*x3*y3*d + x1*x1*y1*y2*x3*x3*x3*y3*y3*d + x1*x1*y1*x2*x3*x3*y3*y3*y3*d - x1*x1*y1*x2*y2*y2*x3*x3*y3*d - x1*x1*y1*x2*x2*y2*x3*y3*y3*d + x1*x1*x1*y2*x3*x3*y3*y3*y3*d + x1*x1*x1*x2*x3*x3*x3*y3*y3*d + x1*x1*x1*x2*y2*y2*x3*y3*y3*d + x1*x1*x1*x2*x2*y2*x3*x3*y3*d + y1*y2*x3*x3*x3*y3*y3*d + y1*x2*x3*x3*y3*y3*y3*d - y1*x2*y2*y2*x3*x3*y3*d - y1*x2*x2*y2*x3*y3*y3*d + x1*y2*x3*x3*y3*y3*y3*d + x1*x2*x3*x3*x3*y3*y3*d + x1*x2*y2*y2*x3*y3*y3*d + x1*x2*x2*y2*x3*x3*y3*d + y1*y1*y1*y2*x3*y3*y3 - y1*y1*y1*y2*x3*x3*x3 + y1*y1*y1*x2*y3*y3*y3 - y1*y1*y1*x2*x3*x3*y3 + x1*y1*y1*y2*y3*y3*y3 - x1*y1*y1*y2*x3*x3*y3 + x1*y1*y1*x2*x3*y3*y3 - x1*y1*y1*x2*x3*x3*x3 - x1*x1*y1*y2*x3*y3*y3 + x1*x1*y1*y2*x3*x3*x3 - x1*x1*y1*x2*y3*y3*y3 + x1*x1*y1*x2*x3*x3*y3 - x1*x1*x1*y2*y3*y3*y3 + x1*x1*x1*y2*x3*x3*y3 - x1*x1*x1*x2*x3*y3*y3 + x1*x1*x1*x2*x3*x3*x3 - y1*y2*x3*y3*y3 + y1*y2*x3*x3*x3 - y1*x2*y3*y3*y3 + y1*x2*x3*x3*y3 - y1*y1*y1*y2*x3 - y1*y1*y1*x2*y3 - x1*y2*y3*y3*y3 + x1*y2*x3*x3*y3 - x1*x2*x3*y3*y3 + x1*x2*x3*x3*x3 - x1*y1*y1*y2*y3 - x1*y1*y1*x2*x3 + x1*x1*y1*y2*x3 + x1*x1*y1*x2*y3 + x1*x1*x1*y2*y3 + x1*x1*x1*x2*x3 + y1*y2*x3 + y1*x2*y3 + x1*y2*y3 + x1*x2*x3) * (y2*y2 - x2*x2 - (1 + d*x2*x2*y2*y2)) + (-x1*y1*y1*x2*y2*y2*x3*d + x1*y1*y1*x2*x2*y2*y3*d + x1*x1*y1*x2*y2*y2*y3*d - x1*x1*y1*x2*x2*y2*x3*d - y1*y1*y1*y2*y2*y2*x3 - y1*y1*y1*x2*y2*y2*y3 + y1*y1*y1*x2*x2*y2*x3 + y1*y1*y1*x2*x2*x2*y3 - x1*y1*y1*y2*y2*y2*y3 - x1*y1*y1*x2*y2*y2*x3 + x1*y1*y1*x2*x2*y2*y3 + x1*y1*y1*x2*x2*x2*x3 + x1*x1*y1*y2*y2*y2*x3 + x1*x1*y1*x2*y2*y2*y3 - x1*x1*y1*x2*x2*y2*x3 - x1*x1*y1*x2*x2*x2*y3 + x1*x1*x1*y2*y2*y2*y3 + x1*x1*x1*x2*y2*y2*x3 - x1*x1*x1*x2*x2*y2*y3 - x1*x1*x1*x2*x2*x2*x3 + y1*y2*y2*y2*x3 + y1*x2*y2*y2*y3 - y1*x2*x2*y2*x3 - y1*x2*x2*x2*y3 + y1*y1*y1*y2*x3 + y1*y1*y1*x2*y3 + x1*y2*y2*y2*y3 + x1*x2*y2*y2*x3 - x1*x2*x2*y2*y3 - x1*x2*x2*x2*x3 + x1*y1*y1*y2*y3 + x1*y1*y1*x2*x3 - x1*x1*y1*y2*x3 - x1*x1*y1*x2*y3 - x1*x1*x1*y2*y3 - x1*x1*x1*x2*x3 - y1*y2*x3 - y1*x2*y3 - x1*y2*y3 - x1*x2*x3) * (y3*y3 - x3*x3 - (1 + d*x3*x3*y3*y3)) := by
    clear h1 h2 h3 e1 e2 e3
    grind
  rw [e1, e2, e3] at e
  clear h1 h2 h3 e1 e2 e3
  grind
theorem C0q (x1 y1 x2 y2 x3 y3 d : Fin n) (h1 : y1*y1 - x1*x1 = 1 + d*x1*x1*y1*y1) (h2 : y2*y2 - x2*x2 = 1 + d*x2*x2*y2*y2) (h3 : y3*y3 - x3*x3 = 1 + d*x3*x3*y3*y3) :
    ((y1*y2+x1*x2)*(1+d*x1*x2*y1*y2)*y3 + (x1*y2+x2*y1)*(1-d*x1*x2*y1*y2)*x3) * ((1-d*x2*x3*y2*y3)*(1+d*x2*x3*y2*y3) - d*x1*y1*(x2*y3+x3*y2)*(y2*y3+x2*x3))
    = (y1*(y2*y3+x2*x3)*(1+d*x2*x3*y2*y3) + x1*(x2*y3+x3*y2)*(1-d*x2*x3*y2*y3)) * ((1-d*x1*x2*y1*y2)*(1+d*x1*x2*y1*y2) - d*(x1*y2+x2*y1)*(y1*y2+x1*x2)*x3*y3) := by
  have e1 : y1*y1 - x1*x1 - (1 + d*x1*x1*y1*y1) = 0 := by grind
  have e2 : y2*y2 - x2*x2 - (1 + d*x2*x2*y2*y2) = 0 := by grind
  have e3 : y3*y3 - x3*x3 - (1 + d*x3*x3*y3*y3) = 0 := by grind
  have e : ((y1*y2+x1*x2)*(1+d*x1*x2*y1*y2)*y3 + (x1*y2+x2*y1)*(1-d*x1*x2*y1*y2)*x3) * ((1-d*x2*x3*y2*y3)*(1+d*x2*x3*y2*y3) - d*x1*y1*(x2*y3+x3*y2)*(y2*y3+x2*x3))
    - (y1*(y2*y3+x2*x3)*(1+d*x2*x3*y2*y3) + x1*(x2*y3+x3*y2)*(1-d*x2*x3*y2*y3)) * ((1-d*x1*x2*y1*y2)*(1+d*x1*x2*y1*y2) - d*(x1*y2+x2*y1)*(y1*y2+x1*x2)*x3*y3)
    = (-y1*x2*x2*x2*y2*y2*y2*y2*x3*y3*y3*d*d - y1*x2*x2*x2*x2*y2*y2*y2*x3*x3*y3*d*d + x1*x2*x2*x2*y2*y2*y2*y2*x3*x3*y3*d*d + x1*x2*x2*x2*x2*y2*y2*y2*x3*y3*y3*d*d + y1*x2*y2*y2*y2*y2*x3*y3*y3*d + y1*x2*x2*y2*y2*y2*y3*y3*y3*d - y1*x2*x2*x2*y2*y2*x3*x3*x3*d - y1*x2*x2*x2*x2*y2*x3*x3*y3*d - x1*x2*y2*y2*y2*y2*x3*x3*y3*d - x1*x2*x2*y2*y2*y2*x3*x3*x3*d + x1*x2*x2*x2*y2*y2*y3*y3*y3*d + x1*x2*x2*x2*x2*y2*x3*y3*y3*d - y1*x2*x2*y2*y2*y2*y3*d - y1*x2*x2*x2*y2*y2*x3*d - x1*x2*x2*y2*y2*y2*x3*d - x1*x2*x2*x2*y2*y2*y3*d) * (y1*y1 - x1*x1 - (1 + d*x1*x1*y1*y1)) + (x1*y1*y1*x2*y2*y2*x3*x3*y3*y3*y3*d*d - x1*y1*y1*x2*x2*y2*x3*x3*x3*y3*y3*d*d - x1*x1*y1*x2*y2*y2*x3*x3*x3*y3*y3*d*d + x1*x1*y1*x2*x2*y2*x3*x3*y3*y3*y3*d*d - y1*y1*y1*y2*x3*x3*y3*y3*y3*d - y1*y1*y1*x2*x3*x3*x3*y3*y3*d - y1*y1*y1*x2*y2*y2*x3*y3*y3*d - y1*y1*y1*x2*x2*y2*x3*x3*y3*d - x1*y1*y1*y2*x3*x3*x3*y3*y3*d - x1*y1*y1*x2*x3*x3*y3*y3*y3*d + x1*y1*y1*x2*y2*y2*x3*x3*y3*d + x1*y1*y1*x2*x2*y2*x3*y3*y3*d + x1*x1*y1*y2*x3*x3*y3*y3*y3*d + x1*x1*y1*x2*x3*x3*x3*y3*y3*d + x1*x1*y1*x2*y2*y2*x3*y3*y3*d + x1*x1*y1*x2*x2*y2*x3*x3*y3*d + x1*x1*x1*y2*x3*x3*x3*y3*y3*d + x1*x1*x1*x2*x3*x3*y3*y3*y3*d - x1*x1*x1*x2*y2*y2*x3*x3*y3*d - x1*x1*x1*x2*x2*y2*x3*y3*y3*d + y1*y2*x3*x3*y3*y3*y3*d + y1*x2*x3*x3*x3*y3*y3*d + y1*x2*y2*y2*x3*y3*y3*d + y1*x2*x2*y2*x3*x3*y3*d + x1*y2*x3*x3*x3*y3*y3*d + x1*x2*x3*x3*y3*y3*y3*d - x1*x2*y2*y2*x3*x3*y3*d - x1*x2*x2*y2*x3*y3*y3*d + y1*y1*y1*y2*y3*y3*y3 - y1*y1*y1*y2*x3*x3*y3 + y1*y1*y1*x2*x3*y3*y3 - y1*y1*y1*x2*x3*x3*x3 + x1*y1*y1*y2*x3*y3*y3 - x1*y1*y1*y2*x3*x3*x3 + x1*y1*y1*x2*y3*y3*y3 - x1*y1*y1*x2*x3*x3*y3 - x1*x1*y1*y2*y3*y3*y3 + x1*x1*y1*y2*x3*x3*y3 - x1*x1*y1*x2*x3*y3*y3 + x1*x1*y1*x2*x3*x3*x3 - x1*x1*x1*y2*x3*y3*y3 + x1*x1*x1*y2*x3*x3*x3 - x1*x1*x1*x2*y3*y3*y3 + x1*x1*x1*x2*x3*x3*y3 - y1*y2*y3*y3*y3 + y1*y2*x3*x3*y3 - y1*x2*x3*y3*y3 + y1*x2*x3*x3*x3 - y1*y1*y1*y2*y3 - y1*y1*y1*x2*x3 - x1*y2*x3*y3*y3 + x1*y2*x3*x3*x3 - x1*x2*y3*y3*y3 + x1*x2*x3*x3*y3 - x1*y1*y1*y2*x3 - x1*y1*y1*x2*y3 + x1*x1*y1*y2*y3 + x1*x1*y1*x2*x3 + x1*x1*x1*y2*x3 + x1*x1*x1*x2*y3 + y1*y2*y3 + y1*x2*x3 + x1*y2*x3 + x1*x2*y3) * (y2*y2 - x2*x2 - (1 + d*x2*x2*y2*y2)) + (-x1*y1*y1*x2*y2*y2*y3*d + x1*y1*y1*x2*x2*y2*x3*d + x1*x1*y1*x2*y2*y2*x3*d - x1*x1*y1*x2*x2*y2*y3*d - y1*y1*y1*y2*y2*y2*y3 - y1*y1*y1*x2*y2*y2*x3 + y1*y1*y1*x2*x2*y2*y3 + y1*y1*y1*x2*x2*x2*x3 - x1*y1*y1*y2*y2*y2*x3 - x1*y1*y1*x2*y2*y2*y3 + x1*y1*y1*x2*x2*y2*x3 + x1*y1*y1*x2*x2*x2*y3 + x1*x1*y1*y2*y2*y2*y3 + x1*x1*y1*x2*y2*y2*x3 - x1*x1*y1*x2*x2*y2*y3 - x1*x1*y1*x2*x2*x2*x3 + x1*x1*x1*y2*y2*y2*x3 + x1*x1*x1*x2*y2*y2*y3 - x1*x1*x1*x2*x2*y2*x3 - x1*x1*x1*x2*x2*x2*y3 + y1*y2*y2*y2*y3 + y1*x2*y2*y2*x3 - y1*x2*x2*y2*y3 - y1*x2*x2*x2*x3 + y1*y1*y1*y2*y3 + y1*y1*y1*x2*x3 + x1*y2*y2*y2*x3 + x1*x2*y2*y2*y3 - x1*x2*x2*y2*x3 - x1*x2*x2*x2*y3 + x1*y1*y1*y2*x3 + x1*y1*y1*x2*y3 - x1*x1*y1*y2*y3 - x1*x1*y1*x2*x3 - x1*x1*x1*y2*x3 - x1*x1*x1*x2*y3 - y1*y2*y3 - y1*x2*x3 - x1*y2*x3 - x1*x2*y3) * (y3*y3 - x3*x3 - (1 + d*x3*x3*y3*y3)) := by
    clear h1 h2 h3 e1 e2 e3
    grind
  rw [e1, e2, e3] at e
  clear h1 h2 h3 e1 e2 e3
  grind
theorem B8T (x1 y1 x2 y2 d : Fin n) (h1 : y1*y1 - x1*x1 = 1 + d*x1*x1*y1*y1) (h2 : y2*y2 - x2*x2 = 1 + d*x2*x2*y2*y2) :
    (y1*y2+x1*x2)*(y1*y2+x1*x2)*(1+d*x1*x2*y1*y2)*(1+d*x1*x2*y1*y2) - (x1*y2+x2*y1)*(x1*y2+x2*y1)*(1-d*x1*x2*y1*y2)*(1-d*x1*x2*y1*y2)
    = (1-d*x1*x2*y1*y2)*(1-d*x1*x2*y1*y2)*(1+d*x1*x2*y1*y2)*(1+d*x1*x2*y1*y2) + d*(x1*y2+x2*y1)*(x1*y2+x2*y1)*(y1*y2+x1*x2)*(y1*y2+x1*x2) := by
  have e1 : y1*y1 - x1*x1 - (1 + d*x1*x1*y1*y1) = 0 := by grind
  have e2 : y2*y2 - x2*x2 - (1 + d*x2*x2*y2*y2) = 0 := by grind
  have e : (y1*y2+x1*x2)*(y1*y2+x1*x2)*(1+d*x1*x2*y1*y2)*(1+d*x1*x2*y1*y2) - (x1*y2+x2*y1)*(x1*y2+x2*y1)*(1-d*x1*x2*y1*y2)*(1-d*x1*x2*y1*y2)
    - ((1-d*x1*x2*y1*y2)*(1-d*x1*x2*y1*y2)*(1+d*x1*x2*y1*y2)*(1+d*x1*x2*y1*y2) + d*(x1*y2+x2*y1)*(x1*y2+x2*y1)*(y1*y2+x1*x2)*(y1*y2+x1*x2))
    = (x1*x1*y1*y1*x2*x2*x2*x2*y2*y2*y2*y2*d*d*d + y1*y1*x2*x2*x2*x2*y2*y2*y2*y2*d*d - x1*x1*x2*x2*x2*x2*y2*y2*y2*y2*d*d - x2*x2*x2*x2*y2*y2*y2*y2*d*d - 2*x2*x2*x2*x2*y2*y2*y2*y2*d - y1*y1*x2*x2*y2*y2*y2*y2*d + y1*y1*x2*x2*x2*x2*y2*y2*d + x1*x1*x2*x2*y2*y2*y2*y2*d - x1*x1*x2*x2*x2*x2*y2*y2*d + 2*x2*x2*y2*y2*y2*y2 - 2*x2*x2*x2*x2*y2*y2 - 2*x2*x2*y2*y2*d + y2*y2*y2*y2 - 4*x2*x2*y2*y2 + x2*x2*x2*x2) * (y1*y1 - x1*x1 - (1 + d*x1*x1*y1*y1)) + (y1*y1*y1*y1*x2*x2*y2*y2*d + x1*x1*x1*x1*x2*x2*y2*y2*d - 2*y1*y1*x2*x2*y2*y2*d + 2*x1*x1*x2*x2*y2*y2*d - 2*y1*y1*x2*x2*y2*y2 + 2*x1*x1*x2*x2*y2*y2 + x2*x2*y2*y2*d + 2*x2*x2*y2*y2 - y1*y1*y2*y2 + y1*y1*x2*x2 + x1*x1*y2*y2 - x1*x1*x2*x2 + y2*y2 - x2*x2 + 1) * (y2*y2 - x2*x2 - (1 + d*x2*x2*y2*y2)) := by
    clear h1 h2 e1 e2
    grind
  rw [e1, e2] at e
  clear h1 h2 e1 e2
  grind
structure Fld (n : Nat) [NeZero n] (d : Fin n) where
  inv : Fin n → Fin n
  ii : Fin n
  mul0 : ∀ a b : Fin n, a * b = 0 → a = 0 ∨ b = 0
  one : (1 : Fin n) ≠ 0
  two : (2 : Fin n) ≠ 0
  hinv : ∀ a : Fin n, a ≠ 0 → a * inv a = 1
  hii : ii * ii = -1
  hd : ∀ s t : Fin n, s * s = d * (t * t) → t = 0
variable {d : Fin n} (F : Fld n d)
structure On (d : Fin n) (P : Fin n × Fin n) : Prop where
  eq : P.2*P.2 - P.1*P.1 = 1 + d*P.1*P.1*P.2*P.2
include F
theorem Fld.cancel {a b c : Fin n} (ha : a ≠ 0) (h : a * b = a * c) : b = c := by
  have : a * (b - c) = 0 := by grind
  rcases F.mul0 _ _ this with h1 | h1
  · exact absurd h1 ha
  · grind
theorem Fld.mul_ne {a b : Fin n} (ha : a ≠ 0) (hb : b ≠ 0) : a * b ≠ 0 := fun h => (F.mul0 _ _ h).elim ha hb
theorem Fld.complete {P Q : Fin n × Fin n} (hP : On d P) (hQ : On d Q) : 1 + d*P.1*Q.1*P.2*Q.2 ≠ 0 ∧ 1 - d*P.1*Q.1*P.2*Q.2 ≠ 0 := by
  obtain ⟨x1, y1⟩ := P
  obtain ⟨x2, y2⟩ := Q
  have h1 := hP.eq
  have h2 := hQ.eq
  dsimp only at h1 h2 ⊢
  have hii := F.hii
  have hd := F.hd
  have key : ∀ e : Fin n, d*x1*x2*y1*y2 = e → e * e = 1 → False := by
    intro e he hee
    have he0 : e ≠ 0 := fun h => F.one (by rw [h] at hee; grind)
    generalize F.ii = i at *
    have q1 : (i*x1 + e*y1) * (i*x1 + e*y1) = d * ((x1*y1*(i*x2+y2)) * (x1*y1*(i*x2+y2))) := by
      have a1 : x2*x2 = y2*y2 - 1 - d*x2*x2*y2*y2 := by grind
      have a2 : y1*y1 - x1*x1 = 1 + d*x1*x1*y1*y1 := h1
      have a3 : (d*x1*x2*y1*y2) * (d*x1*x2*y1*y2) = 1 := by rw [he]; exact hee
      grind
    have q2 : (i*x1 - e*y1) * (i*x1 - e*y1) = d * ((x1*y1*(i*x2-y2)) * (x1*y1*(i*x2-y2))) := by
      have a3 : (d*x1*x2*y1*y2) * (d*x1*x2*y1*y2) = 1 := by rw [he]; exact hee
      grind
    have z1 := hd _ _ q1
    have z2 := hd _ _ q2
    have hx1 : x1 ≠ 0 := fun h => he0 (by rw [← he, h]; grind)
    have hy1 : y1 ≠ 0 := fun h => he0 (by rw [← he, h]; grind)
    have hx2 : x2 ≠ 0 := fun h => he0 (by rw [← he, h]; grind)
    have hxy := F.mul_ne hx1 hy1
    have w1 : i*x2+y2 = 0 := (F.mul0 _ _ z1).resolve_left hxy
    have w2 : i*x2-y2 = 0 := (F.mul0 _ _ z2).resolve_left hxy
    have w3 : 2 * (i * x2) = 0 := by grind
    have w4 : i * x2 = 0 := (F.mul0 _ _ w3).resolve_left F.two
    have w5 : i = 0 := (F.mul0 _ _ w4).resolve_right hx2
    rw [w5] at hii
    exact F.one (by grind)
  refine ⟨fun h => key (-1) (by grind) (by grind), fun h => key 1 (by grind) (by grind)⟩
omit F in
theorem On.o : On d ((0 : Fin n), (1 : Fin n)) := ⟨by grind⟩
def Fld.add (P Q : Fin n × Fin n) : Fin n × Fin n :=
  ((P.1*Q.2 + Q.1*P.2) * F.inv (1 + d*P.1*Q.1*P.2*Q.2), (P.2*Q.2 + P.1*Q.1) * F.inv (1 - d*P.1*Q.1*P.2*Q.2))
theorem Fld.add_spec {P Q : Fin n × Fin n} (hP : On d P) (hQ : On d Q) : (F.add P Q).1 * (1 + d*P.1*Q.1*P.2*Q.2) = P.1*Q.2 + Q.1*P.2 ∧ (F.add P Q).2 * (1 - d*P.1*Q.1*P.2*Q.2) = P.2*Q.2 + P.1*Q.1 := by
  obtain ⟨h1, h2⟩ := F.complete hP hQ
  have i1 := F.hinv _ h1
  have i2 := F.hinv _ h2
  unfold Fld.add
  dsimp only
  generalize F.inv (1 + d*P.1*Q.1*P.2*Q.2) = a at *
  generalize F.inv (1 - d*P.1*Q.1*P.2*Q.2) = b at *
  generalize P.1*Q.2 + Q.1*P.2 = u
  generalize P.2*Q.2 + P.1*Q.1 = v
  generalize 1 + d*P.1*Q.1*P.2*Q.2 = w at *
  generalize 1 - d*P.1*Q.1*P.2*Q.2 = z at *
  exact ⟨by grind, by grind⟩
theorem Fld.add_on {P Q : Fin n × Fin n} (hP : On d P) (hQ : On d Q) : On d (F.add P Q) := by
  obtain ⟨h1, h2⟩ := F.complete hP hQ
  obtain ⟨s1, s2⟩ := F.add_spec hP hQ
  have hs := B8T P.1 P.2 Q.1 Q.2 d hP.eq hQ.eq
  constructor
  generalize F.add P Q = R at *
  generalize 1 + d*P.1*Q.1*P.2*Q.2 = H at *
  generalize 1 - d*P.1*Q.1*P.2*Q.2 = G at *
  refine F.cancel (F.mul_ne (F.mul_ne h1 h1) (F.mul_ne h2 h2)) ?_
  rw [← s1, ← s2] at hs
  grind
theorem Fld.add_comm (P Q : Fin n × Fin n) : F.add P Q = F.add Q P := by
  unfold Fld.add
  have e1 : d*P.1*Q.1*P.2*Q.2 = d*Q.1*P.1*Q.2*P.2 := by grind
  have e2 : P.1*Q.2 + Q.1*P.2 = Q.1*P.2 + P.1*Q.2 := by grind
  have e3 : P.2*Q.2 + P.1*Q.1 = Q.2*P.2 + Q.1*P.1 := by grind
  rw [e1, e2, e3]
theorem Fld.inv1 : F.inv 1 = 1 := by
  have := F.hinv 1 F.one
  grind
theorem Fld.add_o (P : Fin n × Fin n) : F.add P ((0 : Fin n), (1 : Fin n)) = P := by
  unfold Fld.add
  have e1 : 1 + d*P.1*0*P.2*1 = 1 := by grind
  have e2 : 1 - d*P.1*0*P.2*1 = 1 := by grind
  dsimp only
  rw [e1, e2, F.inv1]
  obtain ⟨x, y⟩ := P
  dsimp only
  have e3 : (x * 1 + 0 * y) * 1 = x := by grind
  have e4 : (y * 1 + x * 0) * 1 = y := by grind
  rw [e3, e4]
theorem Fld.add_eq {P Q R : Fin n × Fin n} (hP : On d P) (hQ : On d Q) (h1 : R.1 * (1 + d*P.1*Q.1*P.2*Q.2) = P.1*Q.2 + Q.1*P.2) (h2 : R.2 * (1 - d*P.1*Q.1*P.2*Q.2) = P.2*Q.2 + P.1*Q.1) : F.add P Q = R := by
  obtain ⟨c1, c2⟩ := F.complete hP hQ
  obtain ⟨s1, s2⟩ := F.add_spec hP hQ
  refine Prod.ext (F.cancel c1 ?_) (F.cancel c2 ?_)
  · grind
  · grind
omit F in
theorem cx1 {u v u' v' x1 y1 x3 y3 G H G' H' : Fin n}
    (hx : (u * H * G * y3 + v * G * H * x3) * (G' * H' + d * x1 * y1 * (u' * H') * (v' * G')) = (x1 * (v' * G') * H' + y1 * (u' * H') * G') * (G * H + d * (u * H) * (v * G) * x3 * y3)) :
    G * H * (G' * H') * ((u*y3 + x3*v) * (1 + d*x1*u'*y1*v')) = G * H * (G' * H') * ((x1*v' + u'*y1) * (1 + d*u*x3*v*y3)) := by
  have a : G * H * (G' * H') * ((u*y3 + x3*v) * (1 + d*x1*u'*y1*v')) = (u * H * G * y3 + v * G * H * x3) * (G' * H' + d * x1 * y1 * (u' * H') * (v' * G')) := by clear hx; grind
  have b : G * H * (G' * H') * ((x1*v' + u'*y1) * (1 + d*u*x3*v*y3)) = (x1 * (v' * G') * H' + y1 * (u' * H') * G') * (G * H + d * (u * H) * (v * G) * x3 * y3) := by clear hx; grind
  rw [a, b, hx]
omit F in
theorem cy1 {u v u' v' x1 y1 x3 y3 G H G' H' : Fin n}
    (hy : (v * G * H * y3 + u * H * G * x3) * (G' * H' - d * x1 * y1 * (u' * H') * (v' * G')) = (y1 * (v' * G') * H' + x1 * (u' * H') * G') * (G * H - d * (u * H) * (v * G) * x3 * y3)) :
    G * H * (G' * H') * ((v*y3 + u*x3) * (1 - d*x1*u'*y1*v')) = G * H * (G' * H') * ((y1*v' + x1*u') * (1 - d*u*x3*v*y3)) := by
  have a : G * H * (G' * H') * ((v*y3 + u*x3) * (1 - d*x1*u'*y1*v')) = (v * G * H * y3 + u * H * G * x3) * (G' * H' - d * x1 * y1 * (u' * H') * (v' * G')) := by clear hy; grind
  have b : G * H * (G' * H') * ((y1*v' + x1*u') * (1 - d*u*x3*v*y3)) = (y1 * (v' * G') * H' + x1 * (u' * H') * G') * (G * H - d * (u * H) * (v * G) * x3 * y3) := by clear hy; grind
  rw [a, b, hy]
omit F in
theorem c3r {a b p q : Fin n} (h : a * p * q = b * q * p) : p * q * a = p * q * b := by
  have e1 : p * q * a = a * p * q := by clear h; grind
  have e2 : p * q * b = b * q * p := by clear h; grind
  rw [e1, e2, h]
theorem Fld.add_assoc {P Q R : Fin n × Fin n} (hP : On d P) (hQ : On d Q) (hR : On d R) : F.add (F.add P Q) R = F.add P (F.add Q R) := by
  have hPQ := F.add_on hP hQ
  have hQR := F.add_on hQ hR
  obtain ⟨c1, c2⟩ := F.complete hP hQ
  obtain ⟨c3, c4⟩ := F.complete hQ hR
  obtain ⟨c5, c6⟩ := F.complete hPQ hR
  obtain ⟨c7, c8⟩ := F.complete hP hQR
  obtain ⟨s1, s2⟩ := F.add_spec hP hQ
  obtain ⟨s3, s4⟩ := F.add_spec hQ hR
  obtain ⟨s5, s6⟩ := F.add_spec hPQ hR
  obtain ⟨s7, s8⟩ := F.add_spec hP hQR
  have hx := C0p P.1 P.2 Q.1 Q.2 R.1 R.2 d hP.eq hQ.eq hR.eq
  have hy := C0q P.1 P.2 Q.1 Q.2 R.1 R.2 d hP.eq hQ.eq hR.eq
  generalize F.add (F.add P Q) R = L at *
  generalize F.add P (F.add Q R) = L' at *
  generalize F.add P Q = U at *
  generalize F.add Q R = V at *
  obtain ⟨x1, y1⟩ := P
  obtain ⟨x2, y2⟩ := Q
  obtain ⟨x3, y3⟩ := R
  obtain ⟨u, v⟩ := U
  obtain ⟨u', v'⟩ := V
  obtain ⟨l1, l2⟩ := L
  obtain ⟨m1, m2⟩ := L'
  dsimp only at *
  have f1 : x1*y2+x2*y1 = u * (1 + d*x1*x2*y1*y2) := s1.symm
  have f2 : y1*y2+x1*x2 = v * (1 - d*x1*x2*y1*y2) := s2.symm
  have f3 : x2*y3+x3*y2 = u' * (1 + d*x2*x3*y2*y3) := s3.symm
  have f4 : y2*y3+x2*x3 = v' * (1 - d*x2*x3*y2*y3) := s4.symm
  rw [f1, f2, f3, f4] at hx hy
  generalize 1 + d*x1*x2*y1*y2 = H at *
  generalize 1 - d*x1*x2*y1*y2 = G at *
  generalize 1 + d*x2*x3*y2*y3 = H' at *
  generalize 1 - d*x2*x3*y2*y3 = G' at *
  clear s1 s2 s3 s4 f1 f2 f3 f4 hP hQ hR hPQ hQR
  have hz : G * H * (G' * H') ≠ 0 := F.mul_ne (F.mul_ne c2 c1) (F.mul_ne c4 c3)
  have hx' : (u*y3 + x3*v) * (1 + d*x1*u'*y1*v') = (x1*v' + u'*y1) * (1 + d*u*x3*v*y3) := F.cancel hz (cx1 hx)
  have hy' : (v*y3 + u*x3) * (1 - d*x1*u'*y1*v') = (y1*v' + x1*u') * (1 - d*u*x3*v*y3) := F.cancel hz (cy1 hy)
  rw [← s5, ← s7] at hx'
  rw [← s6, ← s8] at hy'
  generalize 1 + d*x1*u'*y1*v' = p at *
  generalize 1 + d*u*x3*v*y3 = q at *
  generalize 1 - d*x1*u'*y1*v' = r at *
  generalize 1 - d*u*x3*v*y3 = s at *
  have ex : l1 = m1 := F.cancel (F.mul_ne c5 c7) (c3r hx')
  have ey : l2 = m2 := F.cancel (F.mul_ne c6 c8) (c3r hy')
  rw [ex, ey]
def Fld.nsm (k : Nat) (P : Fin n × Fin n) : Fin n × Fin n := Nat.rec ((0 : Fin n), (1 : Fin n)) (fun _ Q => F.add Q P) k
theorem Fld.nsm_succ (k : Nat) (P : Fin n × Fin n) : F.nsm (k + 1) P = F.add (F.nsm k P) P := rfl
theorem Fld.nsm_on {P : Fin n × Fin n} (hP : On d P) (k : Nat) : On d (F.nsm k P) := by
  induction k with
  | zero => exact On.o
  | succ k ih => exact F.add_on ih hP
theorem Fld.nsm_add {P : Fin n × Fin n} (hP : On d P) (j k : Nat) : F.nsm (j + k) P = F.add (F.nsm j P) (F.nsm k P) := by
  induction k with
  | zero => exact (F.add_o _).symm
  | succ k ih => rw [← Nat.add_assoc, F.nsm_succ, ih, F.nsm_succ, F.add_assoc (F.nsm_on hP _) (F.nsm_on hP _) hP]
theorem Fld.nsm_mul {P : Fin n × Fin n} (hP : On d P) (j k : Nat) : F.nsm (j * k) P = F.nsm j (F.nsm k P) := by
  induction j with
  | zero => rw [Nat.zero_mul]; rfl
  | succ j ih => rw [Nat.succ_mul, F.nsm_add hP, ih, F.nsm_succ]
theorem Fld.nsm_o (k : Nat) : F.nsm k ((0 : Fin n), (1 : Fin n)) = ((0 : Fin n), (1 : Fin n)) := by
  induction k with
  | zero => rfl
  | succ k ih => rw [F.nsm_succ, ih, F.add_o]
theorem Fld.nsm_mod {P : Fin n × Fin n} (hP : On d P) {L : Nat} (hL : F.nsm L P = ((0 : Fin n), (1 : Fin n))) (k : Nat) : F.nsm (k % L) P = F.nsm k P := by
  conv => rhs; rw [← Nat.mod_add_div k L, F.nsm_add hP, Nat.mul_comm, F.nsm_mul hP, hL, F.nsm_o, F.add_o]
structure Rep (X Y Z T : Fin n) (P : Fin n × Fin n) : Prop where
  z : Z ≠ 0
  x : X = P.1 * Z
  y : Y = P.2 * Z
  t : T = P.1 * P.2 * Z
theorem Fld.rep_add {X1 Y1 Z1 T1 X2 Y2 Z2 T2 : Fin n} {P Q : Fin n × Fin n} (hP : On d P) (hQ : On d Q) (h1 : Rep X1 Y1 Z1 T1 P) (h2 : Rep X2 Y2 Z2 T2 Q) {a b c z e f g h : Fin n}
    (ha : a = (Y1 - X1) * (Y2 - X2)) (hb : b = (Y1 + X1) * (Y2 + X2)) (hc : c = T1 * (2 * d) * T2) (hz : z = Z1 * Z2 + Z1 * Z2) (he : e = b - a) (hf : f = z - c) (hg : g = z + c) (hh : h = b + a) :
    Rep (e * f) (g * h) (f * g) (e * h) (F.add P Q) := by
  obtain ⟨c1, c2⟩ := F.complete hP hQ
  obtain ⟨s1, s2⟩ := F.add_spec hP hQ
  obtain ⟨z1, rfl, rfl, rfl⟩ := h1
  obtain ⟨z2, rfl, rfl, rfl⟩ := h2
  generalize F.add P Q = R at *
  obtain ⟨x1, y1⟩ := P
  obtain ⟨x2, y2⟩ := Q
  obtain ⟨u, v⟩ := R
  dsimp only at *
  have hzz := F.mul_ne z1 z2
  have e1 : e = 2 * (Z1 * Z2) * (u * (1 + d*x1*x2*y1*y2)) := by rw [s1, he, hb, ha]; grind
  have e2 : h = 2 * (Z1 * Z2) * (v * (1 - d*x1*x2*y1*y2)) := by rw [s2, hh, hb, ha]; grind
  have e3 : f = 2 * (Z1 * Z2) * (1 - d*x1*x2*y1*y2) := by rw [hf, hz, hc]; grind
  have e4 : g = 2 * (Z1 * Z2) * (1 + d*x1*x2*y1*y2) := by rw [hg, hz, hc]; grind
  clear he hf hg hh ha hb hc hz s1 s2
  generalize 1 + d*x1*x2*y1*y2 = H at *
  generalize 1 - d*x1*x2*y1*y2 = G at *
  subst e1 e2 e3 e4
  exact ⟨F.mul_ne (F.mul_ne (F.mul_ne F.two hzz) c2) (F.mul_ne (F.mul_ne F.two hzz) c1), by grind, by grind, by grind⟩
theorem Fld.rep_same {X1 Y1 Z1 T1 X2 Y2 Z2 T2 : Fin n} {P Q : Fin n × Fin n} (h1 : Rep X1 Y1 Z1 T1 P) (h2 : Rep X2 Y2 Z2 T2 Q) : (X1 * Z2 = X2 * Z1 ∧ Y1 * Z2 = Y2 * Z1) ↔ P = Q := by
  obtain ⟨z1, rfl, rfl, -⟩ := h1
  obtain ⟨z2, rfl, rfl, -⟩ := h2
  constructor
  · rintro ⟨a, b⟩
    refine Prod.ext (F.cancel (F.mul_ne z1 z2) (by grind)) (F.cancel (F.mul_ne z1 z2) (by grind))
  · rintro rfl
    exact ⟨by grind, by grind⟩
theorem Fld.dy_ne {y : Fin n} : d * (y * y) + 1 ≠ 0 := fun h => by
  have h2 := F.hii
  have h1 : F.ii * F.ii = d * (y * y) := by grind
  have h3 := F.hd _ _ h1
  rw [h3] at h
  exact F.one (by grind)
end Go.Ed

namespace Go.Proofs.YthbhpfefdnffaaaGreatDoor
open Go.Px Go.Ed
instance : NeZero p25 := ⟨by decide⟩
theorem A1v : 0 < p25 := by decide
def fF (x : Nat) : Fin p25 := ⟨x % p25, Nat.mod_lt _ A1v⟩
theorem A0H (x : Nat) : (fF x).val = x % p25 := rfl
theorem B1b (x y : Nat) : fF (fA x y) = fF x + fF y := by
  apply Fin.ext
  rw [Fin.val_add, A0H, A0H, A0H]
  unfold fA
  rw [Nat.mod_mod, Nat.add_mod]
theorem A06 (x y : Nat) : fF (fM x y) = fF x * fF y := by
  apply Fin.ext
  rw [Fin.val_mul, A0H, A0H, A0H]
  unfold fM
  rw [Nat.mod_mod, Nat.mul_mod]
theorem B2h {x y : Nat} (hy : y < p25) : fF (fS x y) = fF x - fF y := by
  apply Fin.ext
  rw [Fin.sub_def, A0H]
  show fS x y % p25 = (p25 - y % p25 + x % p25) % p25
  unfold fS
  rw [Nat.mod_mod, Nat.mod_eq_of_lt hy, Nat.add_mod_mod]
  congr 1; omega
theorem A6t {x y : Nat} (hx : x < p25) (hy : y < p25) (h : fF x = fF y) : x = y := by
  have := congrArg Fin.val h
  rwa [A0H, A0H, Nat.mod_eq_of_lt hx, Nat.mod_eq_of_lt hy] at this
theorem B6O {x : Nat} : fF x = 0 ↔ x % p25 = 0 := by
  constructor
  · intro h; exact congrArg Fin.val h
  · intro h; exact Fin.ext h
theorem Y9 (x y : Nat) : fM x y < p25 := Nat.mod_lt _ A1v
theorem B5d (x n : Nat) : rtp x n < p25 := Nat.mod_lt _ A1v
theorem B5e {x : Nat} (h : x % p25 ≠ 0) : fM x (fI x) = 1 := by
  have h1 := A3D B9I (a := x) (fun hd => h (Nat.mod_eq_zero_of_dvd hd))
  rw [A9j]
  unfold fM rtp
  rw [Nat.mul_mod, Nat.mod_mod, ← Nat.mul_mod, ← Nat.pow_succ']
  exact h1
theorem C0r {x : Nat} (h : fF x ≠ 0) : fF x * fF (fI x) = 1 := by
  rw [← A06, B5e (fun h0 => h (B6O.2 h0))]
  rfl
def B8U : Nat := 37095705934669439343138083508754565189542113879843219016388785533085940283555
def iLit : Nat := 19681161376707505956807079304988542015446066515923890162744021073123829784752
theorem B5f : dN = B8U := rfl
theorem B8V : B8U ^ ((p25 - 1) / 2) % p25 = p25 - 1 := by
  rw [A6n (by decide) 256 _ _ (by decide)]
  decide +kernel
theorem C0s (a b : Fin p25) (h : a * b = 0) : a = 0 ∨ b = 0 := by
  have h1 := congrArg Fin.val h
  rw [Fin.val_mul] at h1
  have h2 : p25 ∣ a.val * b.val := Nat.dvd_of_mod_eq_zero h1
  rcases B9I.mul h2 with h3 | h3
  · exact .inl (Fin.ext (Nat.eq_zero_of_dvd_of_lt h3 a.isLt))
  · exact .inr (Fin.ext (Nat.eq_zero_of_dvd_of_lt h3 b.isLt))
theorem A2A (a : Fin p25) : fF a.val = a := Fin.ext (Nat.mod_eq_of_lt a.isLt)
theorem C0t (s t : Fin p25) (h : s * s = fF dN * (t * t)) : t = 0 := by
  rw [B5f] at h
  apply Decidable.byContradiction
  intro ht
  have h1 := congrArg Fin.val h
  rw [Fin.val_mul, Fin.val_mul, Fin.val_mul, A0H, Nat.mod_eq_of_lt (show B8U < p25 by decide)] at h1
  rw [Nat.mul_mod_mod] at h1
  have ht' : ¬ p25 ∣ t.val := fun hd => ht (Fin.ext (Nat.eq_zero_of_dvd_of_lt hd t.isLt))
  have e2 : (p25 - 1) / 2 * 2 = p25 - 1 := by decide
  have key : ∀ m : Nat, (s.val * s.val) ^ m % p25 = (B8U * (t.val * t.val)) ^ m % p25 := fun m => by
    rw [Nat.pow_mod, h1, ← Nat.pow_mod]
  have k1 := key ((p25 - 1) / 2)
  generalize hm : (p25 - 1) / 2 = m at *
  have hd := B8V
  rw [hm] at hd
  have hft := A3D B9I ht'
  have q1 : ∀ x : Nat, (x * x) ^ m = x ^ (p25 - 1) := fun x => by rw [← Nat.pow_two, ← Nat.pow_mul, Nat.mul_comm 2 m, e2]
  rw [q1, Nat.mul_pow, q1, Nat.mul_mod, hd, hft, Nat.mul_one] at k1
  by_cases hs : p25 ∣ s.val
  · have : s.val = 0 := Nat.eq_zero_of_dvd_of_lt hs s.isLt
    rw [this] at h1
    have hz : p25 ∣ B8U * (t.val * t.val) := Nat.dvd_of_mod_eq_zero (by rw [← h1]; rfl)
    rcases B9I.mul hz with h3 | h3
    · exact absurd h3 (by decide)
    · rcases B9I.mul h3 with h4 | h4 <;> exact ht' h4
  · rw [A3D B9I hs] at k1
    exact absurd k1 (by decide)
noncomputable def FF : Fld p25 (fF dN) where
  inv a := fF (fI a.val)
  ii := fF iLit
  mul0 := C0s
  one := by decide
  two := by decide
  hinv a ha := by
    have h := C0r (x := a.val) (by rw [A2A]; exact ha)
    rwa [A2A] at h
  hii := by decide +kernel
  hd := C0t
structure PR (P : Pt) (Q : Fin p25 × Fin p25) : Prop where
  rep : Rep (fF P.X) (fF P.Y) (fF P.Z) (fF P.T) Q
  x : P.X < p25
  y : P.Y < p25
  z : P.Z < p25
  t : P.T < p25
theorem PR.o : PR pO ((0 : Fin p25), (1 : Fin p25)) := ⟨⟨by decide, by decide, by decide, by decide⟩, by decide, by decide, by decide, by decide⟩
theorem B8W : fF d2N = 2 * fF dN := by rw [← B6B, A06]; rfl
theorem PR.add {P1 P2 : Pt} {Q1 Q2 : Fin p25 × Fin p25} (h1 : PR P1 Q1) (h2 : PR P2 Q2) (o1 : On (fF dN) Q1) (o2 : On (fF dN) Q2) : PR (A6q d2N P1 P2) (FF.add Q1 Q2) := by
  refine ⟨?_, Y9 _ _, Y9 _ _, Y9 _ _, Y9 _ _⟩
  unfold A6q
  dsimp only
  rw [A06, A06, A06, A06]
  exact FF.rep_add o1 o2 h1.rep h2.rep (a := fF (fM (fS P1.Y P1.X) (fS P2.Y P2.X))) (b := fF (fM (fA P1.Y P1.X) (fA P2.Y P2.X))) (c := fF (fM (fM P1.T d2N) P2.T)) (z := fF (fA (fM P1.Z P2.Z) (fM P1.Z P2.Z)))
    (by rw [A06, B2h h1.x, B2h h2.x]) (by rw [A06, B1b, B1b]) (by rw [A06, A06, B8W]) (by rw [B1b, A06])
    (by rw [B2h (Y9 _ _)]) (by rw [B2h (Y9 _ _)]) (by rw [B1b]) (by rw [B1b])
theorem PR.timesK {P : Pt} {Q : Fin p25 × Fin p25} (h : PR P Q) (o : On (fF dN) Q) (n : Nat) : ∀ k, k ≤ 256 → PR (pTk P n k) (FF.nsm (n / 2 ^ (256 - k) % 2 ^ k) Q)
  | 0, _ => by
    rw [Nat.pow_zero, Nat.mod_one]; exact PR.o
  | k + 1, hk => by
    have ih := PR.timesK h o n k (by omega)
    have e1 : 256 - (k + 1) = 255 - k := by omega
    have e2 : n / 2 ^ (255 - k) % 2 ^ (k + 1) = 2 * (n / 2 ^ (256 - k) % 2 ^ k) + n / 2 ^ (255 - k) % 2 := by
      have e3 : n / 2 ^ (256 - k) = n / 2 ^ (255 - k) / 2 := by rw [Nat.div_div_eq_div_mul, ← Nat.pow_succ]; congr 2; omega
      rw [e3]
      generalize n / 2 ^ (255 - k) = m
      rw [Nat.pow_succ', Nat.mod_mul]; omega
    rw [e1, e2]
    generalize n / 2 ^ (256 - k) % 2 ^ k = m at *
    have hd := ih.add ih (FF.nsm_on o m) (FF.nsm_on o m)
    rw [← FF.nsm_add o, ← Nat.two_mul] at hd
    rw [A8s]
    by_cases hb : n / 2 ^ (255 - k) % 2 = 1
    · rw [A7m hb, hb]
      exact hd.add h (FF.nsm_on o _) o
    · rw [A7n hb, show n / 2 ^ (255 - k) % 2 = 0 by omega]
      exact hd
theorem PR.times {P : Pt} {Q : Fin p25 × Fin p25} (h : PR P Q) (o : On (fF dN) Q) {n : Nat} (hn : n < 2 ^ 256) : PR (V2 P n) (FF.nsm n Q) := by
  have := h.timesK o n 256 (Nat.le_refl _)
  rwa [Nat.sub_self, Nat.pow_zero, Nat.div_one, Nat.mod_eq_of_lt hn] at this

theorem B1c {a b p : Nat} (h : a % p = b % p) (hle : b ≤ a) : p ∣ a - b := Nat.dvd_of_mod_eq_zero (Nat.sub_mod_eq_zero_of_mod_eq h)
theorem A8w {s x : Nat} (hs : s < p25) (hx : x < p25) (h : s * s % p25 = x * x % p25) : s = x ∨ s + x = p25 := by
  have key : p25 ∣ (s + x) * (s + (p25 - x)) := by
    have e : (s + x) * (s + (p25 - x)) + x * x = s * s + p25 * (s + x) := by
      obtain ⟨d, hd⟩ : ∃ d, p25 = x + d := ⟨p25 - x, by omega⟩
      rw [hd, Nat.add_sub_cancel_left]
      grind
    have e2 : ((s + x) * (s + (p25 - x)) + x * x) % p25 = (x * x) % p25 := by rw [e, Nat.add_mul_mod_self_left, h]
    have := B1c e2 (Nat.le_add_left _ _)
    rwa [Nat.add_sub_cancel] at this
  rcases B9I.mul key with ⟨c, hc⟩ | ⟨c, hc⟩
  · have : c < 2 := by
      rcases Nat.lt_or_ge c 2 with h | h
      · exact h
      · have := Nat.mul_le_mul_left p25 h; omega
    rcases (show c = 0 ∨ c = 1 by omega) with rfl | rfl
    · left; omega
    · right; omega
  · have : c < 2 := by
      rcases Nat.lt_or_ge c 2 with h | h
      · exact h
      · have := Nat.mul_le_mul_left p25 h; omega
    rcases (show c = 0 ∨ c = 1 by omega) with rfl | rfl
    · left; omega
    · left; omega
theorem B1d (x n : Nat) : x ^ n % p25 * (x ^ n % p25) % p25 = x ^ (2 * n) % p25 := by rw [← Nat.mul_mod, ← Nat.pow_add, Nat.two_mul]
theorem i_sq : rtp 2 (2 ^ 253 - 5) * rtp 2 (2 ^ 253 - 5) % p25 = p25 - 1 := by
  have h : ∀ n, n = 2 ^ 253 - 5 → rtp 2 n * rtp 2 n % p25 = p25 - 1 := by
    intro n hn
    unfold rtp
    rw [B1d, A6n (by decide) 256 2 (2 * n) (by omega)]
    subst hn
    decide +kernel
  exact h _ rfl
theorem B6P (x : Nat) : ∃ n, 2 * n = p25 - 1 ∧ rt1 x * rt1 x % p25 * (rt1 x * rt1 x % p25) % p25 = x ^ n * (x * x) % p25 := by
  obtain ⟨m, hm⟩ : ∃ m, m = 2 ^ 252 - 2 := ⟨_, rfl⟩
  refine ⟨4 * m - 2, by unfold p25; omega, ?_⟩
  rw [← B4V hm, B1d, B1d, ← Nat.pow_two, ← Nat.pow_add]
  congr 2
  omega
theorem A8x {y n : Nat} (hn : 2 * n = p25 - 1) (hy : ¬ p25 ∣ y) : (y * y % p25) ^ n % p25 = 1 := by
  rw [← Nat.pow_mod, ← Nat.pow_two, ← Nat.pow_mul, hn]
  exact A3D B9I hy
theorem B8X {r : Value} {x n : Nat} (hx : x < p25) (hn : 2 * n = p25 - 1) (h : Rt r x) : ∃ u b y, r = .tuple #[u, .bool b] ∧ Fe u y ∧ b = decide (x = 0 ∨ x ^ n % p25 = 1) ∧ (b = true → y * y % p25 = x) := by
  have conv : ∀ y, y * y % p25 = x → (x = 0 ∨ x ^ n % p25 = 1) := by
    intro y hy
    by_cases h0 : x = 0
    · exact .inl h0
    · right
      rw [← hy]
      refine A8x hn fun hd => h0 ?_
      obtain ⟨c, rfl⟩ := hd
      rw [← hy, Nat.mul_assoc, Nat.mul_mod_right]
  obtain ⟨u, b, rfl, h⟩ := h
  rcases h with ⟨h1, rfl, hu⟩ | ⟨h1, h2, rfl, hu⟩ | ⟨h1, h2, rfl, hu⟩
  · exact ⟨u, true, _, rfl, hu, by rw [decide_eq_true (conv _ h1)], fun _ => h1⟩
  · exact ⟨u, true, _, rfl, hu, by rw [decide_eq_true (conv _ h2)], fun _ => h2⟩
  · refine ⟨u, false, 0, rfl, hu, ?_, fun h => by cases h⟩
    symm
    rw [decide_eq_false_iff_not]
    intro hc
    obtain ⟨m, hm, h4⟩ := B6P x
    obtain rfl : m = n := by omega
    have h5 : rt1 x * rt1 x % p25 * (rt1 x * rt1 x % p25) % p25 = x * x % p25 := by
      rw [h4]
      rcases hc with rfl | hc
      · rw [Nat.mul_zero, Nat.mul_zero]
      · rw [Nat.mul_mod, hc, Nat.one_mul, Nat.mod_mod]
    rcases A8w (Nat.mod_lt _ (by decide)) hx h5 with h6 | h6
    · exact h1 h6
    · apply h2
      unfold rt2
      rw [← Nat.mul_mod, show rt1 x * rtp 2 (2 ^ 253 - 5) * (rt1 x * rtp 2 (2 ^ 253 - 5)) = (rt1 x * rt1 x) * (rtp 2 (2 ^ 253 - 5) * rtp 2 (2 ^ 253 - 5)) by generalize rtp 2 (2 ^ 253 - 5) = i; grind, Nat.mul_mod, i_sq]
      generalize rt1 x * rt1 x % p25 = s at *
      have e : s * (p25 - 1) = x + p25 * (s - 1) := by
        obtain rfl : x = p25 - s := by omega
        rw [Nat.mul_sub, Nat.mul_sub, Nat.mul_one, Nat.mul_one, Nat.mul_comm]
        have : p25 ≤ p25 * s := Nat.le_mul_of_pos_right _ (by omega)
        omega
      rw [e, Nat.add_mul_mod_self_left, Nat.mod_eq_of_lt hx]
theorem B8Y {a n : Nat} (hn : 2 * n = p25 - 1) : (a * a % p25 = 0 ∨ (a * a % p25) ^ n % p25 = 1) := by
  by_cases h : p25 ∣ a
  · obtain ⟨c, rfl⟩ := h
    exact .inl (by rw [Nat.mul_assoc, Nat.mul_mod_right])
  · exact .inr (A8x hn h)

theorem B5g : ∀ (l : List Nat) (i x : Nat), i < l.length → bv (l.set i x) + 256 ^ i * l.getD i 0 = bv l + 256 ^ i * x
  | [], i, x, h => by simp at h
  | b :: r, 0, x, _ => by simp only [List.set_cons_zero, bv, List.getD_cons_zero, Nat.pow_zero]; omega
  | b :: r, i + 1, x, h => by
    have ih := B5g r i x (by simpa using h)
    simp only [List.set_cons_succ, bv, List.getD_cons_succ]
    rw [Nat.pow_succ]
    generalize r.getD i 0 = g at *
    have e1 : 256 ^ i * 256 * g = 256 * (256 ^ i * g) := by rw [Nat.mul_comm (256 ^ i), Nat.mul_assoc]
    have e2 : 256 ^ i * 256 * x = 256 * (256 ^ i * x) := by rw [Nat.mul_comm (256 ^ i), Nat.mul_assoc]
    rw [e1, e2]; omega
def B2i (x y : Nat) : List Nat := if x % 2 = 1 then (W3 8 32 y 255).set 31 ((W3 8 32 y 255).getD 31 0 ||| 128) else W3 8 32 y 255
theorem B8Z (P : Pt) : pB P = B2i (fM P.X (fI P.Z)) (fM P.Y (fI P.Z)) := rfl
theorem A8y (x y : Nat) : (B2i x y).length = 32 := by unfold B2i; split <;> simp [L1]
theorem B6Q (y : Nat) : (W3 8 32 y 255).getD 31 0 < 128 := by
  rw [A04 (by decide)]
  unfold prt
  have h : y % 2 ^ 255 < 128 * 2 ^ (8 * 31) := Nat.lt_of_lt_of_le (Nat.mod_lt _ (Nat.two_pow_pos _)) (by decide)
  exact Nat.lt_of_le_of_lt (Nat.mod_le _ _) ((Nat.div_lt_iff_lt_mul (Nat.two_pow_pos _)).2 h)
theorem B1e {v : Nat} (h : v < 128) : v ||| 128 = v + 128 := by
  have h2 : 128 + v = 128 ||| v := Nat.two_pow_add_eq_or_of_lt (i := 7) h 1
  rw [Nat.or_comm, ← h2]; omega
theorem B6R {x y : Nat} (hy : y < p25) : bv (B2i x y) = y + 2 ^ 255 * (x % 2) := by
  have h1 := A48 y
  rw [Nat.mod_eq_of_lt (Nat.lt_trans hy (by decide))] at h1
  unfold B2i
  split
  · rename_i hx
    have h2 := B5g (W3 8 32 y 255) 31 ((W3 8 32 y 255).getD 31 0 ||| 128) (by rw [L1]; decide)
    rw [h1, B1e (B6Q y), Nat.mul_add] at h2
    rw [B1e (B6Q y), hx]
    generalize (W3 8 32 y 255).getD 31 0 = v at *
    generalize 256 ^ 31 * v = q at *
    generalize bv ((W3 8 32 y 255).set 31 (v + 128)) = z at *
    have e : (256 : Nat) ^ 31 * 128 = 2 ^ 255 * 1 := by decide
    omega
  · rename_i hx
    rw [h1, show x % 2 = 0 by omega, Nat.mul_zero, Nat.add_zero]
theorem B3B {x y : Nat} : decide (128 ≤ (B2i x y).getD 31 0) = decide (x % 2 = 1) := by
  have ht := B6Q y
  unfold B2i
  split
  · rename_i hx
    rw [decide_eq_true hx, B1e ht]
    apply decide_eq_true
    rw [List.getD_eq_getElem?_getD, List.getElem?_set_self (by rw [L1]; decide)]
    show 128 ≤ _ + 128
    omega
  · rename_i hx
    rw [decide_eq_false hx]
    apply decide_eq_false
    omega
theorem B6S {x y : Nat} (hy : y < p25) : rdN (B2i x y) = y := by
  unfold rdN
  rw [if_pos (A8y _ _), B6R hy]
  have e : (2 : Nat) ^ 255 = 57896044618658097711785492504343953926634992332820282019728792003956564819968 := by decide
  have h2 : y < 57896044618658097711785492504343953926634992332820282019728792003956564819968 := Nat.lt_trans hy (by decide)
  rw [e, Nat.add_mul_mod_self_left, Nat.mod_eq_of_lt h2, Nat.mod_eq_of_lt hy]
theorem fe_z : ∃ u, Fe u 0 := ⟨_, K4⟩
theorem B80 {a : Nat} (ha : a < p25) : ∃ n, rtN (a * a % p25) = some n ∧ (n = a ∨ n + a = p25) := by
  have hv : a * a % p25 < p25 := Nat.mod_lt _ A1v
  have hh := fun n hn => B8Y (a := a) (n := n) hn
  have fin : ∀ n, n < p25 → n * n % p25 = a * a % p25 → n = a ∨ n + a = p25 := fun n hn h => A8w hn ha h
  generalize a * a % p25 = v at *
  rw [A8q]
  unfold B7V
  split
  · rename_i h; exact ⟨_, rfl, fin _ (B5d _ _) h⟩
  · rename_i h1
    split
    · rename_i h; exact ⟨_, rfl, fin _ (Nat.mod_lt _ A1v) h⟩
    · rename_i h2
      exfalso
      obtain ⟨u, hu⟩ := fe_z
      have hn : 2 * ((p25 - 1) / 2) = p25 - 1 := by decide
      obtain ⟨u', b', y', e1, -, e3, -⟩ := B8X (r := .tuple #[u, .bool false]) hv hn ⟨u, false, rfl, .inr (.inr ⟨h1, h2, rfl, hu⟩)⟩
      rw [decide_eq_true (hh _ hn)] at e3
      subst e3
      simp at e1
theorem C0u {Q : Fin p25 × Fin p25} (o : On (fF dN) Q) : xxN Q.2.val = Q.1.val * Q.1.val % p25 := by
  apply A6t (Y9 _ _) (Nat.mod_lt _ A1v)
  have e0 : fF (Q.1.val * Q.1.val % p25) = Q.1 * Q.1 := by
    have := A06 Q.1.val Q.1.val
    rwa [A2A] at this
  have hD : fF (fA (fM dN (fM Q.2.val Q.2.val)) 1) = fF dN * (Q.2 * Q.2) + 1 := by rw [B1b, A06, A06, A2A]; rfl
  have hne : fF dN * (Q.2 * Q.2) + 1 ≠ 0 := FF.dy_ne
  rw [← hD] at hne
  have hi := C0r hne
  rw [hD] at hi
  rw [e0]
  rw [A06, B2h (by decide), A06, A2A]
  have ho := o.eq
  generalize fF (fI (fA (fM dN (fM Q.2.val Q.2.val)) 1)) = j at *
  generalize fF dN = d at *
  rw [show fF 1 = 1 from rfl]
  obtain ⟨x, y⟩ := Q
  dsimp only at *
  grind
theorem C0v {Q : Fin p25 × Fin p25} (o : On (fF dN) Q) : atN Q.2.val (decide (Q.1.val % 2 = 1)) = some Q.1.val := by
  have hx := C0u o
  have hlt := Q.1.isLt
  obtain ⟨n, h1, h2⟩ := B80 hlt
  rw [← hx] at h1
  generalize Q.1.val = x at *
  have hp : p25 % 2 = 1 := by decide
  unfold atN
  rw [h1]
  unfold atO
  dsimp only
  rcases h2 with rfl | h2
  · by_cases h0 : n = 0
    · subst h0; rfl
    · rw [decide_eq_false h0, Bool.and_false]
      simp
  · by_cases h0 : x = 0
    · subst h0
      obtain rfl : n = p25 := by omega
      exfalso
      rw [A8q] at h1
      unfold B7V at h1
      split at h1
      · have := Option.some.inj h1; have h3 := B5d (xxN Q.2.val) (2 ^ 252 - 2); unfold rt1 at this; omega
      · split at h1
        · have := Option.some.inj h1; have h3 : rt2 (xxN Q.2.val) < p25 := Nat.mod_lt _ A1v; omega
        · cases h1
    · have hn0 : n ≠ 0 := by omega
      rw [decide_eq_false hn0, Bool.and_false]
      have hpar : (n % 2 = 1) ↔ ¬ (x % 2 = 1) := by omega
      have e : (!(decide (n % 2 = 1) == decide (x % 2 = 1))) = true := by
        by_cases hx1 : x % 2 = 1
        · rw [decide_eq_true hx1, decide_eq_false (fun h => hpar.1 h hx1)]; rfl
        · rw [decide_eq_false hx1, decide_eq_true (hpar.2 hx1)]; rfl
      rw [e]
      have : fN n = x := by
        unfold fN
        rw [show p25 - n = x by omega, Nat.mod_eq_of_lt hlt]
      simp [this]
noncomputable def S9 (b : List Nat) : Option Pt := if b.length = 32 then (match atN (rdN b) (decide (128 ≤ b.getD 31 0)) with
  | some x => if pB (pAt x (rdN b)) = b then some (pAt x (rdN b)) else none
  | none => none) else none
theorem PR.at {Q : Fin p25 × Fin p25} : PR (pAt Q.1.val Q.2.val) Q := by
  refine ⟨⟨?_, ?_, ?_, ?_⟩, Q.1.isLt, Q.2.isLt, show 1 < p25 by decide, Y9 _ _⟩
  · exact FF.one
  · show fF Q.1.val = Q.1 * fF 1
    rw [A2A, show fF 1 = 1 from rfl]; grind
  · show fF Q.2.val = Q.2 * fF 1
    rw [A2A, show fF 1 = 1 from rfl]; grind
  · show fF (fM Q.1.val Q.2.val) = Q.1 * Q.2 * fF 1
    rw [A06, A2A, A2A, show fF 1 = 1 from rfl]; grind
theorem PR.aff {P : Pt} {Q : Fin p25 × Fin p25} (h : PR P Q) : fM P.X (fI P.Z) = Q.1.val ∧ fM P.Y (fI P.Z) = Q.2.val := by
  have hi := C0r h.rep.z
  have hx := h.rep.x
  have hy := h.rep.y
  constructor
  · apply A6t (Y9 _ _) Q.1.isLt
    rw [A06, A2A, hx]; grind
  · apply A6t (Y9 _ _) Q.2.isLt
    rw [A06, A2A, hy]; grind
theorem PR.bytes {P : Pt} {Q : Fin p25 × Fin p25} (h : PR P Q) : pB P = B2i Q.1.val Q.2.val := by rw [B8Z, h.aff.1, h.aff.2]
theorem B3C {Q : Fin p25 × Fin p25} (o : On (fF dN) Q) : S9 (B2i Q.1.val Q.2.val) = some (pAt Q.1.val Q.2.val) := by
  unfold S9
  rw [if_pos (A8y _ _), B3B, B6S Q.2.isLt, C0v o]
  dsimp only
  rw [if_pos (PR.at.bytes)]
theorem A8z {P : Pt} {Q : Fin p25 × Fin p25} (h : PR P Q) (o : On (fF dN) Q) : S9 (pB P) = some (pAt Q.1.val Q.2.val) := by rw [h.bytes, B3C o]
def A7o (P Q : Pt) : Bool := decide (fM P.X Q.Z = fM Q.X P.Z) && decide (fM P.Y Q.Z = fM Q.Y P.Z)
theorem PR.same {P P' : Pt} {Q : Fin p25 × Fin p25} (h : PR P Q) (h' : PR P' Q) : A7o P P' = true := by
  have hr := (FF.rep_same h.rep h'.rep).2 rfl
  unfold A7o
  rw [decide_eq_true (A6t (Y9 _ _) (Y9 _ _) (by rw [A06, A06, hr.1])), decide_eq_true (A6t (Y9 _ _) (Y9 _ _) (by rw [A06, A06, hr.2]))]
  rfl

end Go.Proofs.YthbhpfefdnffaaaGreatDoor
namespace Go.Px
noncomputable def L2 {α : Type} (x : Nat) (f : Nat → α) : α := Nat.rec (motive := fun _ => α) (f 0) (fun n _ => f (Nat.succ n)) x
theorem U8 {α : Type} (x : Nat) (f : Nat → α) : L2 x f = f x := by cases x <;> rfl
def B2j (x n m : Nat) : Nat := Nat.lor (Nat.shiftRight x n) (Nat.mod (Nat.shiftLeft x m) 4294967296)
def rF : List Nat → List Nat → S8 → S8
  | k :: ks, w :: ws, s => rF ks ws (s.step k w)
  | _, _, s => s
theorem B6T (ks ws : List Nat) (h : ks.length = ws.length) (k w : Nat) (s : S8) : rF (ks ++ [k]) (ws ++ [w]) s = (rF ks ws s).step k w := by
  induction ks generalizing ws s with
  | nil =>
    cases ws with
    | nil => rfl
    | cons w ws => simp at h
  | cons k' ks ih =>
    cases ws with
    | nil => simp at h
    | cons w' ws => exact ih ws (by simpa using h) (s.step k' w')
theorem B1f (ks ws : List Nat) (s : S8) (n : Nat) (h1 : n ≤ ks.length) (h2 : n ≤ ws.length) : rounds ks ws s n = rF (ks.take n) (ws.take n) s := by
  induction n with
  | zero => rfl
  | succ n ih =>
    rw [rounds, ih (by omega) (by omega), List.take_add_one, List.take_add_one, List.getElem?_eq_getElem (by omega), List.getElem?_eq_getElem (by omega)]
    simp only [Option.toList_some]
    rw [B6T _ _ (by simp; omega), List.getD_eq_getElem?_getD, List.getD_eq_getElem?_getD, List.getElem?_eq_getElem (by omega), List.getElem?_eq_getElem (by omega)]
    rfl
def t1F (e f g h k w : Nat) : Nat :=
  Nat.mod (Nat.add (Nat.mod (Nat.add (Nat.mod (Nat.add (Nat.mod (Nat.add h (Nat.xor (Nat.xor (B2j e 6 26) (B2j e 11 21)) (B2j e 25 7))) 4294967296) (Nat.xor (Nat.land e f) (Nat.land (Nat.xor 4294967295 e) g))) 4294967296) k) 4294967296) w) 4294967296
def aF (t a b c : Nat) : Nat :=
  Nat.mod (Nat.add (Nat.mod (Nat.add t (Nat.xor (Nat.xor (B2j a 2 30) (B2j a 13 19)) (B2j a 22 10))) 4294967296) (Nat.xor (Nat.xor (Nat.land a b) (Nat.land a c)) (Nat.land b c))) 4294967296
noncomputable def rFF (ks : List Nat) : List Nat → Nat → Nat → Nat → Nat → Nat → Nat → Nat → Nat → S8 :=
  List.rec (motive := fun _ => List Nat → Nat → Nat → Nat → Nat → Nat → Nat → Nat → Nat → S8) (fun _ a b c d e f g h => ⟨a, b, c, d, e, f, g, h⟩)
    (fun k _ ih ws => List.rec (motive := fun _ => Nat → Nat → Nat → Nat → Nat → Nat → Nat → Nat → S8) (fun a b c d e f g h => ⟨a, b, c, d, e, f, g, h⟩)
      (fun w ws _ a b c d e f g h => L2 (t1F e f g h k w) fun t => L2 (aF t a b c) fun a' => L2 (Nat.mod (Nat.add d t) 4294967296) fun e' => ih ws a' a b c e' e f g) ws) ks
theorem B81 (ks ws : List Nat) (s : S8) : rFF ks ws s.a s.b s.c s.d s.e s.f s.g s.h = rF ks ws s := by
  induction ks generalizing ws s with
  | nil => cases ws <;> rfl
  | cons k ks ih =>
    cases ws with
    | nil => rfl
    | cons w ws =>
      have e : rFF (k :: ks) (w :: ws) s.a s.b s.c s.d s.e s.f s.g s.h = L2 (t1F s.e s.f s.g s.h k w) fun t => L2 (aF t s.a s.b s.c) fun a' => L2 (Nat.mod (Nat.add s.d t) 4294967296) fun e' => rFF ks ws a' s.a s.b s.c e' s.e s.f s.g := rfl
      rw [e, U8, U8, U8]
      exact ih ws (s.step k w)
noncomputable def B3D : Nat → List Nat → Nat := fun n => Nat.rec (motive := fun _ => List Nat → Nat) (fun l => List.rec (motive := fun _ => Nat) 0 (fun x _ _ => x) l) (fun _ ih l => List.rec (motive := fun _ => Nat) 0 (fun _ r _ => ih r) l) n
theorem A5j (n : Nat) (l : List Nat) : B3D n l = l.getD n 0 := by
  induction n generalizing l with
  | zero => cases l <;> rfl
  | succ n ih =>
    cases l with
    | nil => rfl
    | cons x r => exact ih r
def wnF (w16 w15 w7 w2 : Nat) : Nat :=
  Nat.mod (Nat.add (Nat.mod (Nat.add (Nat.mod (Nat.add w16 (Nat.xor (Nat.xor (B2j w15 7 25) (B2j w15 18 14)) (Nat.shiftRight w15 3))) 4294967296) w7) 4294967296) (Nat.xor (Nat.xor (B2j w2 17 15) (B2j w2 19 13)) (Nat.shiftRight w2 10))) 4294967296
noncomputable def wF (n : Nat) : List Nat → List Nat :=
  Nat.rec (motive := fun _ => List Nat → List Nat) (fun r => r) (fun _ ih r => L2 (wnF (B3D 15 r) (B3D 14 r) (B3D 6 r) (B3D 1 r)) fun x => ih (x :: r)) n
theorem A2V {l : List Nat} {k : Nat} (h : k < l.length) : l.reverse.getD k 0 = l.getD (l.length - 1 - k) 0 := by
  rw [List.getD_eq_getElem?_getD, List.getD_eq_getElem?_getD, List.getElem?_reverse h]
theorem C0w (w : List Nat) (hw : 16 ≤ w.length) (n m : Nat) : wF n (wx w m).reverse = (wx w (m + n)).reverse := by
  induction n generalizing m with
  | zero => rfl
  | succ n ih =>
    have e : wF (n + 1) (wx w m).reverse = L2 (wnF (B3D 15 (wx w m).reverse) (B3D 14 (wx w m).reverse) (B3D 6 (wx w m).reverse) (B3D 1 (wx w m).reverse)) fun x => wF n (x :: (wx w m).reverse) := rfl
    have hl := A5O w m
    rw [e, U8, A5j, A5j, A5j, A5j, A2V (by omega), A2V (by omega), A2V (by omega), A2V (by omega), hl]
    have e2 : wnF ((wx w m).getD (w.length + m - 1 - 15) 0) ((wx w m).getD (w.length + m - 1 - 14) 0) ((wx w m).getD (w.length + m - 1 - 6) 0) ((wx w m).getD (w.length + m - 1 - 1) 0) = B2t (wx w m) (w.length + m) := by
      rw [show w.length + m - 1 - 15 = w.length + m - 16 by omega, show w.length + m - 1 - 14 = w.length + m - 15 by omega, show w.length + m - 1 - 6 = w.length + m - 7 by omega, show w.length + m - 1 - 1 = w.length + m - 2 by omega]
      rfl
    rw [e2, show B2t (wx w m) (w.length + m) :: (wx w m).reverse = (wx w (m + 1)).reverse by rw [wx, List.reverse_append]; rfl, ih (m + 1), show m + 1 + n = m + (n + 1) by omega]
def C0x (a b c d : Nat) : Nat := Nat.add (Nat.mul (Nat.add (Nat.mul (Nat.add (Nat.mul a 256) b) 256) c) 256) d
noncomputable def A4p : Nat → List Nat → List Nat → List Nat
  | 0, _, r => r
  | n + 1, a :: b :: c :: d :: p, r => L2 (C0x a b c d) fun x => A4p n p (x :: r)
  | _ + 1, _, r => r
theorem B1g (n : Nat) (p : List Nat) (i : Nat) (h : 4 * (i + n) ≤ p.length) (r : List Nat) : A4p n (p.drop (4 * i)) r = ((List.range' i n).map (B7Q p)).reverse ++ r := by
  induction n generalizing i r with
  | zero => rfl
  | succ n ih =>
    have e : p.drop (4 * i) = p.getD (4 * i) 0 :: p.getD (4 * i + 1) 0 :: p.getD (4 * i + 2) 0 :: p.getD (4 * i + 3) 0 :: p.drop (4 * (i + 1)) := by
      rw [List.drop_eq_getElem_cons (by omega), List.drop_eq_getElem_cons (by omega), List.drop_eq_getElem_cons (by omega), List.drop_eq_getElem_cons (by omega)]
      simp only [List.getD_eq_getElem?_getD]
      rw [List.getElem?_eq_getElem (by omega), List.getElem?_eq_getElem (by omega), List.getElem?_eq_getElem (by omega), List.getElem?_eq_getElem (by omega)]
      rfl
    rw [e]
    show L2 _ _ = _
    rw [U8, ih (i + 1) (by omega), List.range'_succ, List.map_cons, List.reverse_cons, List.append_assoc]
    rfl
noncomputable def C0y (a b c d e f g h : Nat) (p : List Nat) (k : Nat → Nat → Nat → Nat → Nat → Nat → Nat → Nat → List Nat) : List Nat :=
  match rFF A1B (wF 48 (A4p 16 p [])).reverse a b c d e f g h with
  | ⟨a1, b1, c1, d1, e1, f1, g1, h1⟩ =>
    L2 (Nat.mod (Nat.add a a1) 4294967296) fun a => L2 (Nat.mod (Nat.add b b1) 4294967296) fun b => L2 (Nat.mod (Nat.add c c1) 4294967296) fun c => L2 (Nat.mod (Nat.add d d1) 4294967296) fun d =>
    L2 (Nat.mod (Nat.add e e1) 4294967296) fun e => L2 (Nat.mod (Nat.add f f1) 4294967296) fun f => L2 (Nat.mod (Nat.add g g1) 4294967296) fun g => L2 (Nat.mod (Nat.add h h1) 4294967296) fun h => k a b c d e f g h
theorem B6U (s : S8) (p : List Nat) (hp : 64 ≤ p.length) (k : Nat → Nat → Nat → Nat → Nat → Nat → Nat → Nat → List Nat) : C0y s.a s.b s.c s.d s.e s.f s.g s.h p k = (fun t : S8 => k t.a t.b t.c t.d t.e t.f t.g t.h) (U5 A1B s p) := by
  have h1 : A4p 16 p [] = (V5 p 16).reverse := by
    have := B1g 16 p 0 (by omega) []
    rw [List.append_nil] at this
    rw [show p = p.drop (4 * 0) from rfl, this, V5, List.range_eq_range']
    rfl
  have hw : (V5 p 16).length = 16 := by simp [V5]
  have h2 : (wF 48 (A4p 16 p [])).reverse = wx (V5 p 16) 48 := by
    have := C0w (V5 p 16) (by omega) 48 0
    rw [h1, show (V5 p 16).reverse = (wx (V5 p 16) 0).reverse from rfl, this, List.reverse_reverse]
  have h3 : rFF A1B (wF 48 (A4p 16 p [])).reverse s.a s.b s.c s.d s.e s.f s.g s.h = rounds A1B (wx (V5 p 16) 48) s 64 := by
    have hl := A5O (V5 p 16) 48
    rw [h2, B81, B1f _ _ _ _ (by decide) (by omega), List.take_of_length_le (show A1B.length ≤ 64 by decide), List.take_of_length_le (by omega)]
  unfold C0y U5
  rw [h3]
  generalize rounds A1B (wx (V5 p 16) 48) s 64 = r
  obtain ⟨a1, b1, c1, d1, e1, f1, g1, h1⟩ := r
  simp only [U8]
  rfl
noncomputable def B3E : Nat → Nat → Nat → Nat → Nat → Nat → Nat → Nat → Nat → List Nat → List Nat
  | 0, a, b, c, d, e, f, g, h, _ => [a, b, c, d, e, f, g, h].flatMap B5L
  | n + 1, a, b, c, d, e, f, g, h, p => C0y a b c d e f g h p fun a b c d e f g h => B3E n a b c d e f g h (p.drop 64)
theorem B3F (n : Nat) (s : S8) (p : List Nat) (hp : 64 * n ≤ p.length) : B3E n s.a s.b s.c s.d s.e s.f s.g s.h p = (A3W A1B n s p).bytes := by
  induction n generalizing s p with
  | zero => rfl
  | succ n ih =>
    have e : U5 A1B s (p.take 64) = U5 A1B s p := by
      unfold U5
      have : V5 (p.take 64) 16 = V5 p 16 := by
        unfold V5
        refine List.map_congr_left fun i hi => ?_
        have hi := List.mem_range.1 hi
        unfold B7Q
        have g : ∀ j, j < 64 → (p.take 64).getD j 0 = p.getD j 0 := fun j hj => by
          rw [List.getD_eq_getElem?_getD, List.getD_eq_getElem?_getD, List.getElem?_take_of_lt hj]
        rw [g _ (by omega), g _ (by omega), g _ (by omega), g _ (by omega)]
      rw [this]
    rw [B3E, B6U s p (by omega), A3W, e]
    exact ih _ _ (by rw [List.length_drop]; omega)
noncomputable def A3G (p : List Nat) : List Nat := B3E ((L6 p).length / 64) 1779033703 3144134277 1013904242 2773480762 1359893119 2600822924 528734635 1541459225 (L6 p)
theorem A9o (p : List Nat) : A3G p = Z5 p := B3F _ A2p (L6 p) (by omega)
noncomputable def A1w (key p : List Nat) : List Nat := A3G (A2q (if 64 < key.length then A3G key else key) 92 ++ A3G (A2q (if 64 < key.length then A3G key else key) 54 ++ p))
theorem A2W (key p : List Nat) : A1w key p = A6K key p := by
  unfold A1w A6K A0D
  simp only [A9o]
theorem A8A (key info : List Nat) : V7 key info 32 = A1w key (info ++ [1]) := by
  have h : (A6K key ([] ++ (info ++ [1]))).length = 32 := A0Z _
  rw [A2W]
  show ([] ++ A6K key ([] ++ (info ++ [1]))).take 32 = _
  rw [List.nil_append, List.nil_append, List.take_of_length_le (by rw [← List.nil_append (info ++ [1])]; omega)]
end Go.Px

namespace Go.Proofs.YthbhpfefdnffaaaGreatDoor
open Go.Px Go.Ed
def A9p : Nat := bxN
def A9q : Nat := s45
def C0z : Nat := d2N
def bPt : Fin p25 × Fin p25 := (fF A9p, fF A9q)
theorem B5h : On (fF dN) bPt := by rw [B5f]; exact ⟨by decide +kernel⟩
theorem B82 : bPt.1.val = A9p := by decide +kernel
theorem B83 : bPt.2.val = A9q := by decide +kernel
theorem B5i : pS = pAt A9p A9q := rfl
theorem PR.s : PR pS bPt := by
  have h := PR.at (Q := bPt)
  rw [B82, B83] at h
  rw [B5i]; exact h
theorem B84 : d2N = C0z := rfl
def kM (x y : Nat) : Nat := Nat.mod (Nat.mul x y) 57896044618658097711785492504343953926634992332820282019728792003956564819949
def kA (x y : Nat) : Nat := Nat.mod (Nat.add x y) 57896044618658097711785492504343953926634992332820282019728792003956564819949
def kS (x y : Nat) : Nat := Nat.mod (Nat.sub (Nat.add x 57896044618658097711785492504343953926634992332820282019728792003956564819949) y) 57896044618658097711785492504343953926634992332820282019728792003956564819949
noncomputable def B6V {α : Type} (X1 Y1 Z1 T1 X2 Y2 Z2 T2 : Nat) (k : Nat → Nat → Nat → Nat → α) : α :=
  L2 (kM (kS Y1 X1) (kS Y2 X2)) fun a => L2 (kM (kA Y1 X1) (kA Y2 X2)) fun b => L2 (kM (kM T1 16295367250680780974490674513165176452449235426866156013048779062215315747161) T2) fun c => L2 (kM Z1 Z2) fun z0 => L2 (kA z0 z0) fun z =>
  L2 (kS b a) fun e => L2 (kS z c) fun f => L2 (kA z c) fun g => L2 (kA b a) fun h => L2 (kM e f) fun x => L2 (kM g h) fun y => L2 (kM f g) fun z => L2 (kM e h) fun t => k x y z t
theorem B1h {α : Type} (P Q : Pt) (k : Nat → Nat → Nat → Nat → α) : B6V P.X P.Y P.Z P.T Q.X Q.Y Q.Z Q.T k = k (A6q d2N P Q).X (A6q d2N P Q).Y (A6q d2N P Q).Z (A6q d2N P Q).T := by
  rw [B84]
  unfold B6V
  simp only [U8]
  rfl
noncomputable def tF (n : Nat) (P : Pt) : Nat → Nat → Nat → Nat → Nat → Pt := fun k =>
  Nat.rec (motive := fun _ => Nat → Nat → Nat → Nat → Pt) (fun X Y Z T => ⟨X, Y, Z, T⟩)
    (fun i ih X Y Z T => B6V X Y Z T X Y Z T fun X Y Z T => Nat.rec (motive := fun _ => Pt) (ih X Y Z T) (fun _ _ => B6V X Y Z T P.X P.Y P.Z P.T fun X Y Z T => ih X Y Z T) (Nat.mod (Nat.shiftRight n i) 2)) k
theorem B6W (n i : Nat) (P Q : Pt) : tF n P (i + 1) Q.X Q.Y Q.Z Q.T = tF n P i (pSt P n i Q).X (pSt P n i Q).Y (pSt P n i Q).Z (pSt P n i Q).T := by
  have e : tF n P (i + 1) Q.X Q.Y Q.Z Q.T = B6V Q.X Q.Y Q.Z Q.T Q.X Q.Y Q.Z Q.T fun X Y Z T => Nat.rec (motive := fun _ => Pt) (tF n P i X Y Z T) (fun _ _ => B6V X Y Z T P.X P.Y P.Z P.T fun X Y Z T => tF n P i X Y Z T) (Nat.mod (Nat.shiftRight n i) 2) := rfl
  rw [e, B1h, show Nat.mod (Nat.shiftRight n i) 2 = n / 2 ^ i % 2 by rw [← Nat.shiftRight_eq_div_pow]; rfl]
  have h2 : n / 2 ^ i % 2 < 2 := Nat.mod_lt _ (by decide)
  rcases (show n / 2 ^ i % 2 = 0 ∨ n / 2 ^ i % 2 = 1 by omega) with h | h
  · rw [A7n (by omega), h]
    show tF n P i _ _ _ _ = _
    rfl
  · rw [A7m h, h]
    show B6V _ _ _ _ P.X P.Y P.Z P.T _ = _
    rw [B1h]
theorem B5j (n : Nat) (P : Pt) : ∀ i, i ≤ 256 → tF n P i (pTk P n (256 - i)).X (pTk P n (256 - i)).Y (pTk P n (256 - i)).Z (pTk P n (256 - i)).T = V2 P n
  | 0, _ => rfl
  | i + 1, h => by rw [B6W, ← A8t (by omega)]; exact B5j n P i (by omega)
theorem B6X (n : Nat) (P : Pt) : V2 P n = tF n P 256 0 1 1 0 := (B5j n P 256 (Nat.le_refl _)).symm
theorem B6Y : (tF lN (pAt A9p A9q) 256 0 1 1 0).X = 0 ∧ (tF lN (pAt A9p A9q) 256 0 1 1 0).Y = (tF lN (pAt A9p A9q) 256 0 1 1 0).Z := by decide +kernel
theorem A7p : FF.nsm lN bPt = ((0 : Fin p25), (1 : Fin p25)) := by
  have h := PR.s.times B5h (n := lN) (by decide)
  have hb := B6Y
  rw [← B6X, ← B5i] at hb
  have hx := h.rep.x
  have hy := h.rep.y
  rw [hb.1] at hx
  rw [hb.2] at hy
  have hz := h.rep.z
  generalize fF (V2 pS lN).Z = z at *
  generalize FF.nsm lN bPt = Q at *
  obtain ⟨x, y⟩ := Q
  dsimp only at *
  have e1 : x = 0 := (FF.mul0 _ _ hx.symm).resolve_right hz
  have e2 : y = 1 := by
    have : z * y = z * 1 := by grind
    exact FF.cancel hz this
  rw [e1, e2]

def A9r (seed : List Nat) : Nat := bv (B2z ([115, 101, 99, 114, 101, 116] ++ seed)) % lN
def B5k (seed msg : List Nat) : Nat := bv (B2z ([110, 111, 110, 99, 101] ++ seed ++ msg)) % lN
def A30 (r p msg : List Nat) : Nat := bv (B2z ([99, 104, 97, 108, 108, 101, 110, 103, 101] ++ r ++ p ++ msg)) % lN
noncomputable def A5E (seed : List Nat) : List Nat := pB (V2 pS (A9r seed))
noncomputable def rB (seed msg : List Nat) : List Nat := pB (V2 pS (B5k seed msg))
noncomputable def sN (seed msg : List Nat) : Nat := (A30 (rB seed msg) (A5E seed) msg * A9r seed % lN + B5k seed msg) % lN
noncomputable def A7q (seed msg : List Nat) : List Nat := rB seed msg ++ T0 (sN seed msg) 32
def B9J (oa ob : Option Pt) (f : Pt → Pt → Bool) : Bool := match oa, ob with
  | some a, some r => f a r
  | _, _ => false
theorem A3H (a r : Pt) (f : Pt → Pt → Bool) : B9J (some a) (some r) f = f a r := rfl
theorem B3G (o : Option Pt) (f : Pt → Pt → Bool) : B9J none o f = false := by cases o <;> rfl
theorem B3H (o : Option Pt) (f : Pt → Pt → Bool) : B9J o none f = false := by cases o <;> rfl
noncomputable def A7r (p msg sig : List Nat) : Bool := decide (sig.length = 64) && B9J (S9 p) (S9 (sig.take 32)) fun a r => decide (T0 (bv (sig.drop 32) % lN) 32 = sig.drop 32) && A7o (V2 pS (bv (sig.drop 32) % lN)) (A6q d2N r (V2 a (A30 (sig.take 32) p msg)))
theorem A4q : 0 < lN := by decide
theorem B5l : lN < 2 ^ 256 := by decide
theorem A7s (s : List Nat) : A9r s < lN := Nat.mod_lt _ A4q
theorem A7t (s m : List Nat) : B5k s m < lN := Nat.mod_lt _ A4q
theorem B1i (r p m : List Nat) : A30 r p m < lN := Nat.mod_lt _ A4q
theorem C0A (s m : List Nat) : sN s m < lN := Nat.mod_lt _ A4q
theorem A8B (s : List Nat) : (A5E s).length = 32 := B4Z _
theorem A3I (s m : List Nat) : (rB s m).length = 32 := B4Z _
theorem A5k (s m : List Nat) : (A7q s m).length = 64 := by simp [A7q, A3I, K7]
theorem B3I (s m : List Nat) : (A7q s m).take 32 = rB s m := by unfold A7q; rw [List.take_append_of_le_length (by rw [A3I]; decide), List.take_of_length_le (by rw [A3I]; decide)]
theorem B3J (s m : List Nat) : (A7q s m).drop 32 = T0 (sN s m) 32 := by
  unfold A7q
  rw [List.drop_append, List.drop_of_length_le (by rw [A3I]; decide), A3I, Nat.sub_self, List.drop_zero, List.nil_append]
theorem B1j {n : Nat} (h : n < lN) : PR (V2 pS n) (FF.nsm n bPt) ∧ On (fF dN) (FF.nsm n bPt) := ⟨PR.s.times B5h (Nat.lt_trans h B5l), FF.nsm_on B5h n⟩
theorem B6Z (seed msg : List Nat) : A7r (A5E seed) msg (A7q seed msg) = true := by
  have ha := A7s seed
  have hk := A7t seed msg
  have hs := C0A seed msg
  have hh := B1i (rB seed msg) (A5E seed) msg
  have hd : bv (T0 (sN seed msg) 32) % lN = sN seed msg := by
    rw [B04, Nat.mod_eq_of_lt (Nat.lt_trans hs (by decide)), Nat.mod_eq_of_lt hs]
  unfold A7r
  rw [B3I, B3J, hd, decide_eq_true (A5k _ _)]
  obtain ⟨A1, A2⟩ := B1j ha
  obtain ⟨R1, R2⟩ := B1j hk
  obtain ⟨S1, S2⟩ := B1j hs
  have eA : S9 (A5E seed) = _ := A8z A1 A2
  have eR : S9 (rB seed msg) = _ := A8z R1 R2
  rw [eA, eR, A3H, decide_eq_true rfl, Bool.true_and, Bool.true_and]
  have T := (PR.at (Q := FF.nsm (A9r seed) bPt)).times A2 (Nat.lt_trans hh B5l)
  have U := (PR.at (Q := FF.nsm (B5k seed msg) bPt)).add T R2 (FF.nsm_on A2 _)
  refine S1.same ?_
  have e : FF.nsm (sN seed msg) bPt = FF.add (FF.nsm (B5k seed msg) bPt) (FF.nsm (A30 (rB seed msg) (A5E seed) msg) (FF.nsm (A9r seed) bPt)) := by
    show FF.nsm ((A30 (rB seed msg) (A5E seed) msg * A9r seed % lN + B5k seed msg) % lN) bPt = _
    rw [FF.nsm_mod B5h A7p, FF.nsm_add B5h, FF.nsm_mod B5h A7p, FF.nsm_mul B5h, FF.add_comm]
  rw [e]; exact U
def kLit : Nat := 4928719331454755403606303759647346995543222500395151019611105437466400029446
def rLit : List Nat := [158, 126, 43, 192, 36, 223, 93, 133, 238, 222, 103, 118, 108, 52, 17, 7, 171, 37, 142, 21, 42, 169, 185, 35, 17, 77, 225, 83, 3, 28, 151, 170]
end Go.Proofs.YthbhpfefdnffaaaGreatDoor
namespace Go.Px
open Go
theorem A12 : ∀ (xs ys : List Nat), xs.length = ys.length → ((List.range xs.length).all fun i => xs.getD i 0 == ys.getD i 0) = decide (xs = ys)
  | [], [], _ => rfl
  | x :: xs, y :: ys, h => by
    have ih := A12 xs ys (by simpa using h)
    rw [List.length_cons, List.range_succ_eq_map, List.all_cons, List.all_map]
    simp only [List.getD_cons_zero, Function.comp_def, List.getD_cons_succ, ih]
    by_cases hxy : x = y <;> simp [hxy]
  | [], _ :: _, h => by simp at h
  | _ :: _, [], h => by simp at h
def B9K (P : Program) (t : TypeId) : Option (Nat × IntKind) := match P.underlying t with
  | some (.array n e) => match P.underlying e with
    | some (.int k) => if N8 P e = some 1 then some (n, k) else none
    | _ => none
  | _ => none
theorem B1k {P : Program} {e : TypeId} {n : Nat} (h : N8 P e = some n) (w : World) : (sizeOf e).run P w = .ok n w := by
  unfold N8 at h
  cases hi : P.info? e with
  | none => rw [hi] at h; cases h
  | some i => rw [hi] at h; simp at h; simp [sizeOf, typeInfo, hi, h]
section
variable {P : Program} {R : Mem} {l : Env} {d : Option Nat} {ty t : TypeId} {pos : String} {af : Array Edge} {g : Option (Nat × Bool)} {x y : Operand} {k : IntKind}
theorem A6u {n : Nat} (h : B9K P t = some (n, k)) : ∃ e, P.underlying t = some (.array n e) ∧ P.underlying e = some (.int k) ∧ N8 P e = some 1 := by
  unfold B9K at h
  split at h
  · rename_i m e h1
    split at h
    · rename_i k' h2
      split at h
      · rename_i h3
        cases h
        exact ⟨e, h1, h2, h3⟩
      · cases h
    · cases h
  · cases h
theorem A6v (dp : Nat) {e : TypeId} {n : Nat} (w : World) (ht : P.underlying t = some (.array n e)) (he : P.underlying e = some (.int k)) (hsz : ∀ w, (sizeOf e).run P w = .ok 1 w)
    (xs ys : List Nat) (hx : xs.length = n) (hy : ys.length = n) : (Op.equalIn (dp + 2) t (.agg (nums k xs).toArray) (.agg (nums k ys).toArray)).run P w = .ok (decide (xs = ys)) w := by
  rw [← A12 xs ys (hx.trans hy.symm), hx, List.range_eq_range', Op.equalIn]
  simp only [Sem.run_bind, run_underlying ht, Result.andThen_ok, hsz, Std.Legacy.Range.forIn_eq_forIn_range', Std.Legacy.Range.size, Nat.sub_zero, Nat.add_sub_cancel, Nat.div_one]
  have hl : ∀ i ∈ List.range' 0 n 1, i < n := fun i hi => by simpa using (List.mem_range'_1.1 hi).2
  generalize List.range' 0 n 1 = r at hl ⊢
  induction r with
  | nil => simp
  | cons i r ih =>
    have hi : i < n := hl i (by simp)
    have gx : xs.getD i 0 = xs[i]'(by omega) := by simp [List.getD, List.getElem?_eq_getElem (show i < xs.length by omega)]
    have gy : ys.getD i 0 = ys[i]'(by omega) := by simp [List.getD, List.getElem?_eq_getElem (show i < ys.length by omega)]
    have px : (part e (nums k xs).toArray (i * 1)).run P w = .ok (.int k ((xs.getD i 0 : Nat) : Int)) w := by
      rw [gx]; simp [nums, part, isAgg, run_underlying he, List.getElem?_eq_getElem (show i < xs.length by omega)]
    have py : (part e (nums k ys).toArray (i * 1)).run P w = .ok (.int k ((ys.getD i 0 : Nat) : Int)) w := by
      rw [gy]; simp [nums, part, isAgg, run_underlying he, List.getElem?_eq_getElem (show i < ys.length by omega)]
    have pe : (Op.equalIn (dp + 1) e (.int k ((xs.getD i 0 : Nat) : Int)) (.int k ((ys.getD i 0 : Nat) : Int))).run P w = .ok (xs.getD i 0 == ys.getD i 0) w := by
      rw [run_equalIn_int w dp e k k _ _ he]
      congr 1
      rw [Bool.eq_iff_iff]
      simp only [beq_iff_eq]
      omega
    simp only [List.forIn_cons, Sem.run_bind, px, py, pe, Result.andThen_ok, List.all_cons]
    cases hb : (xs.getD i 0 == ys.getD i 0)
    · simp
    · simp only [Bool.not_true, Bool.false_eq_true, if_false, Sem.run_pure, Result.andThen_ok, Bool.true_and]
      exact ih fun j hj => hl j (by simp [hj])
theorem B61 {t' : TypeId} {n : Nat} {xs ys : List Nat} (hx : ev l x = some (.agg (nums k xs).toArray)) (hy : ev l y = some (.agg (nums k ys).toArray)) (ht : B9K P t = some (n, k)) (hg : P.eqGuardType P.depth t = false) (hxl : xs.length = n) (hyl : ys.length = n) :
    OpQ P R ⟨d, .binOp .neq t x y t', ty, pos, af, g⟩ l (.bool !(decide (xs = ys))) := fun N A w ha hw => by
  obtain ⟨e, h1, h2, h3⟩ := A6u ht
  simp only [execOp, ha.ev hx, ha.ev hy, Sem.run_bind, run_eqGuard_agg w _ _ _ _ _ _ hg, Result.andThen_ok, run_neq_struct]
  have hq : (Op.equalIn 10000 t (.agg (nums k xs).toArray) (.agg (nums k ys).toArray)).run P w = _ := A6v 9998 w h1 h2 (fun w => B1k h3 w) xs ys hxl hyl
  simp only [hq, Result.andThen_ok, Sem.run_pure]
theorem B3K {n m c : Nat} {p : Option Addr} (hx : ev l x = some (.slice p m c)) (ht : B9K P t = some (n, k)) (hn : n ≤ m) : OpQ P R ⟨d, .sliceToArrayPointer t x, ty, pos, af, g⟩ l (.pointer p) := fun N A w ha hw => by
  obtain ⟨e, h1, -, -⟩ := A6u ht
  simp [execOp, ha.ev hx, run_arrayAt w t e n p m c h1 hn]
end
end Go.Px

namespace Go.Px
structure Gx where
  i : Nat
  d : Nat
  us : List Nat
  φ : List Value → Value → Mem → Mem → Prop
def B62 (G : List Gx) (vs : Nat → Value) : Env := G.map fun g => (g.d, vs g.i)
def GrowsX (φ : List Value → Value → Mem → Mem → Prop) : Prop := ∀ us v B R R', (∀ x ∈ R, x ∈ R') → φ us v B R → φ us v B R'
def toGx (G : List Gx) : List Gm := G.map fun g => ⟨g.i, g.d, fun _ _ => True⟩
section group
variable {C : Cx} {Q : XQ} {l : Env} {M J : Mem} {os : List Oper} {K : Nat → Prop} {n0 : Nat} {nd : List Nat} {plan : List (Nat × Nat)}
def OwesX (C : Cx) (os : List Oper) (l : Env) (M J : Mem) (G : List Gx) (g : Gx) : Prop :=
  ∃ o, nth os g.i = some o ∧ ∀ (vs : Nat → Value) (bs : Nat → Mem) (R : Mem) (w : World), (∀ x ∈ M ++ (J ++ C.A), x ∈ R) → (∀ g' ∈ G, anc os.toArray os.toArray.size g.i g'.i = true → g'.φ (g'.us.map vs) (vs g'.i) (bs g'.i) R) →
    A83 os (B62 G vs ++ l) o ∧ OpL ⟨C.P, w, [], R, C.N⟩ o (B62 G vs ++ l) [] [] (fun l' M' J' => ∃ v, l' = (g.d, v) :: (B62 G vs ++ l) ∧ g.φ (g.us.map vs) v M' (M' ++ (J' ++ R)))
end group
end Go.Px

