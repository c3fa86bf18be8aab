/-
  The law MessageKnown (part 7 of 8).
-/
import Derived.Test.YtfbjflaijppeaaaGreatDoorMk6
set_option maxRecDepth 100000
namespace Go.Proofs
open Go.Ce
theorem law_runs : isT ((lev cy6 60).call 6 [] H0) = true := by kernel_rfl
theorem law_says {w : World} (hG : Gl w) : Go.Wk.Enters Tryz.prog 6 ∧ Go.Wk.CR Tryz.prog 6 [] w fun V w' => V = .bool true ∧ Go.Wk.Hp w [] [] w' := closedM cy6_ok rfl law_runs hG
end Go.Proofs
