/-
  The law ProxyKnown holds: the card of its second form (part 18 of 23).
-/
import Derived.Test.YtogikccgcnhofaaGreatDoorJk17
set_option linter.unusedVariables false
set_option maxRecDepth 100000
set_option maxHeartbeats 0
namespace Go.Proofs
open Go.Ce
theorem p_b8:bi (isSq c_b8) (stB f_b9 1848 h_b9 (exec abj (sqL c_b8) (lev abj 59) m_b s_b8)) false=true:=by kernel_rfl
end Go.Proofs
