/-
  The law ProxyKnown holds: the card of its second form (part 9 of 23).
-/
import Derived.Test.YtogikccgcnhofaaGreatDoorJk8
set_option linter.unusedVariables false
set_option maxRecDepth 100000
set_option maxHeartbeats 0
namespace Go.Proofs
open Go.Ce
theorem p_a2:bi (isSq c_a2) (stB f_a3 1089 h_a3 (exec cz5 (sqL c_a2) (lev cz5 59) m_a s_a2)) false=true:=by kernel_rfl
end Go.Proofs
