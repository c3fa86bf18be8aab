/-
  The law ProxyKnown holds: the card of its second form (part 8 of 23).
-/
import Derived.Test.YtogikccgcnhofaaGreatDoorJk7
set_option linter.unusedVariables false
set_option maxRecDepth 100000
set_option maxHeartbeats 0
namespace Go.Proofs
open Go.Ce
theorem p_a1:bi (isSq c_a1) (stB f_a2 1089 h_a2 (exec cz5 (sqL c_a1) (lev cz5 59) m_a s_a1)) false=true:=by kernel_rfl
end Go.Proofs
