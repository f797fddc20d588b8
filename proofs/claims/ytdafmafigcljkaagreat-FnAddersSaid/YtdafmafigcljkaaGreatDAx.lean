
/-
  (what some walks lean on: see the text WAx.) No condition.
-/
import Derived.Test.YtdafmafigcljkaaGreatK5

