/-
  The law ProxyKnown holds: the card of its second form (part 10 of 23).
-/
import Derived.Test.YtogikccgcnhofaaGreatDoorJk9
set_option linter.unusedVariables false
set_option maxRecDepth 100000
set_option maxHeartbeats 0
namespace Go.Proofs
open Go.Ce
theorem p_a3:bi (isSq c_a3) (stB f_a4 1547 h_a4 (exec cz5 (sqL c_a3) (lev cz5 59) m_a s_a3)) false=true:=by kernel_rfl
end Go.Proofs
