/-
  The law ProxyKnown holds: the card of its second form (part 19 of 23).
-/
import Derived.Test.YtogikccgcnhofaaGreatDoorJk18
set_option linter.unusedVariables false
set_option maxRecDepth 100000
set_option maxHeartbeats 0
namespace Go.Proofs
open Go.Ce
theorem p_b9:bi (isSq c_b9) (stB f_b10 2219 h_b10 (exec abj (sqL c_b9) (lev abj 59) m_b s_b9)) false=true:=by kernel_rfl
end Go.Proofs
