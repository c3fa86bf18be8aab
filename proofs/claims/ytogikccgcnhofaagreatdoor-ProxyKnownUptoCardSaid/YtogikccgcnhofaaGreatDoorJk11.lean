/-
  The law ProxyKnown holds: the card of its second form (part 11 of 23).
-/
import Derived.Test.YtogikccgcnhofaaGreatDoorJk10
set_option linter.unusedVariables false
set_option maxRecDepth 100000
set_option maxHeartbeats 0
namespace Go.Proofs
open Go.Ce
theorem p_a4:bi (isSq c_a4) (stB f_a5 2079 h_a5 (exec cz5 (sqL c_a4) (lev cz5 59) m_a s_a4)) false=true:=by kernel_rfl
end Go.Proofs
