/-
  The law ProxyKnown holds: the card of its second form (part 14 of 23).
-/
import Derived.Test.YtogikccgcnhofaaGreatDoorJk13
set_option linter.unusedVariables false
set_option maxRecDepth 100000
set_option maxHeartbeats 0
namespace Go.Proofs
open Go.Ce
theorem p_b1:bi (isSq c_b1) (stB f_b2 284 h_b2 (exec abj (sqL c_b1) (lev abj 59) m_b s_b1)) false=true:=by kernel_rfl
end Go.Proofs
