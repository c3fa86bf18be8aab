/-
  The law ProxyKnown holds: the card of its second form (part 16 of 23).
-/
import Derived.Test.YtogikccgcnhofaaGreatDoorJk15
set_option linter.unusedVariables false
set_option maxRecDepth 100000
set_option maxHeartbeats 0
namespace Go.Proofs
open Go.Ce
theorem p_b5:bi (isSq c_b5) (stB f_b6 1432 h_b6 (exec abj (sqL c_b5) (lev abj 59) m_b s_b5)) false=true:=by kernel_rfl
end Go.Proofs
