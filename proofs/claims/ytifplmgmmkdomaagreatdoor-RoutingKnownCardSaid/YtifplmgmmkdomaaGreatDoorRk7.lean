/-
  The law RoutingKnown (part 7 of 8).
-/
import Derived.Test.YtifplmgmmkdomaaGreatDoorRk6
set_option maxRecDepth 100000
namespace Go.Proofs
open Go.Ce
theorem law_runs : isT ((lev cy8 60).call 3 [] H0) = true := by kernel_rfl
theorem law_says {w : World} (hG : Gl w) : Go.Wk.Enters Tryz.prog 3 ∧ Go.Wk.CR Tryz.prog 3 [] w fun V w' => V = .bool true ∧ Go.Wk.Hp w [] [] w' := closedM cy8_ok rfl law_runs hG
end Go.Proofs
