/-
  The law ProxyKnown holds: the card of its second form (part 17 of 23).
-/
import Derived.Test.YtogikccgcnhofaaGreatDoorJk16
set_option linter.unusedVariables false
set_option maxRecDepth 100000
set_option maxHeartbeats 0
namespace Go.Proofs
open Go.Ce
theorem p_b6:bi (isSq c_b6) (stB f_b7 1432 h_b7 (exec abj (sqL c_b6) (lev abj 59) m_b s_b6)) false=true:=by kernel_rfl
theorem p_b7:bi (isSq c_b7) (stB f_b8 1433 h_b8 (exec abj (sqL c_b7) (lev abj 59) m_b s_b7)) false=true:=by kernel_rfl
end Go.Proofs
