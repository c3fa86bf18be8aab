/-
  The law ProxyKnown holds: the card of its second form (part 22 of 23).
-/
import Derived.Test.YtogikccgcnhofaaGreatDoorJk21
set_option linter.unusedVariables false
set_option maxRecDepth 100000
set_option maxHeartbeats 0
namespace Go.Proofs
open Go.Ce
theorem law_says{w:Go.World}(hG:Gl w):Go.Wk.Enters Tryz.prog 3/\Go.Wk.CR Tryz.prog 3 [] w fun V w'=>V=.bool true/\Go.Wk.Hp w [] [] w':=says_b hG
end Go.Proofs
