/-
  The law ProxyKnown holds: the card of its second form (part 20 of 23).
-/
import Derived.Test.YtogikccgcnhofaaGreatDoorJk19
set_option linter.unusedVariables false
set_option maxRecDepth 100000
set_option maxHeartbeats 0
namespace Go.Proofs
open Go.Ce
theorem p_b10:bi (isSq c_b10) (stB f_b11 2419 h_b11 (exec abj (sqL c_b10) (lev abj 59) m_b s_b10)) false=true:=by kernel_rfl
end Go.Proofs
