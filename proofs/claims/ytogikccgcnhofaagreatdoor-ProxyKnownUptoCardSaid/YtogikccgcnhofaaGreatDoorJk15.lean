/-
  The law ProxyKnown holds: the card of its second form (part 15 of 23).
-/
import Derived.Test.YtogikccgcnhofaaGreatDoorJk14
set_option linter.unusedVariables false
set_option maxRecDepth 100000
set_option maxHeartbeats 0
namespace Go.Proofs
open Go.Ce
theorem p_b2:bi (isSq c_b2) (stB f_b3 328 h_b3 (exec abj (sqL c_b2) (lev abj 59) m_b s_b2)) false=true:=by kernel_rfl
theorem p_b3:bi (isSq c_b3) (stB f_b4 343 h_b4 (exec abj (sqL c_b3) (lev abj 59) m_b s_b3)) false=true:=by kernel_rfl
theorem p_b4:bi (isSq c_b4) (stB f_b5 343 h_b5 (exec abj (sqL c_b4) (lev abj 59) m_b s_b4)) false=true:=by kernel_rfl
end Go.Proofs
