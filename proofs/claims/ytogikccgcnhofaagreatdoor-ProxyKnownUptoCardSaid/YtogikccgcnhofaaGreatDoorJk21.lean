/-
  The law ProxyKnown holds: the card of its second form (part 21 of 23).
-/
import Derived.Test.YtogikccgcnhofaaGreatDoorJk20
set_option linter.unusedVariables false
set_option maxRecDepth 100000
set_option maxHeartbeats 0
namespace Go.Proofs
open Go.Ce
theorem p_b11:bi (isSq c_b11) (stB f_b12 2419 h_b12 (exec abj (sqL c_b11) (lev abj 59) m_b s_b11)) false=true:=by kernel_rfl
theorem p_b12:finB abj m_b fn_b (exec abj c_b12 (lev abj 59) m_b s_b12)=true:=by kernel_rfl
theorem g_b12:aay abj Gl m_b fn_b s_b12 c_b12:=fa_end aaw p_b12
theorem g_b11:aay abj Gl m_b fn_b s_b11 c_b11:=aby aaw f_b12 2419 h_b12 p_b11 g_b12
theorem g_b10:aay abj Gl m_b fn_b s_b10 c_b10:=aby aaw f_b11 2419 h_b11 p_b10 g_b11
theorem g_b9:aay abj Gl m_b fn_b s_b9 c_b9:=aby aaw f_b10 2219 h_b10 p_b9 g_b10
theorem g_b8:aay abj Gl m_b fn_b s_b8 c_b8:=aby aaw f_b9 1848 h_b9 p_b8 g_b9
theorem g_b7:aay abj Gl m_b fn_b s_b7 c_b7:=aby aaw f_b8 1433 h_b8 p_b7 g_b8
theorem g_b6:aay abj Gl m_b fn_b s_b6 c_b6:=aby aaw f_b7 1432 h_b7 p_b6 g_b7
theorem g_b5:aay abj Gl m_b fn_b s_b5 c_b5:=aby aaw f_b6 1432 h_b6 p_b5 g_b6
theorem g_b4:aay abj Gl m_b fn_b s_b4 c_b4:=aby aaw f_b5 343 h_b5 p_b4 g_b5
theorem g_b3:aay abj Gl m_b fn_b s_b3 c_b3:=aby aaw f_b4 343 h_b4 p_b3 g_b4
theorem g_b2:aay abj Gl m_b fn_b s_b2 c_b2:=aby aaw f_b3 328 h_b3 p_b2 g_b3
theorem g_b1:aay abj Gl m_b fn_b s_b1 c_b1:=aby aaw f_b2 284 h_b2 p_b1 g_b2
theorem g_b0:aay abj Gl m_b fn_b s_b0 c_b0:=aby aaw f_b1 0 h_b1 p_b0 g_b1
theorem says_b{w:Go.World}(hG:Gl w):Go.Wk.Enters Tryz.prog 3/\Go.Wk.CR Tryz.prog 3 [] w fun V w'=>V=.bool true/\Go.Wk.Hp w [] [] w':=fn_say (C:=abj) aaw krf g_b0 hG
end Go.Proofs
