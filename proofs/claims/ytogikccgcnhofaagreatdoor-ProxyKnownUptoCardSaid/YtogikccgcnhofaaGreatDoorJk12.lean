/-
  The law ProxyKnown holds: the card of its second form (part 12 of 23).
-/
import Derived.Test.YtogikccgcnhofaaGreatDoorJk11
set_option linter.unusedVariables false
set_option maxRecDepth 100000
set_option maxHeartbeats 0
namespace Go.Proofs
open Go.Ce
theorem p_a5:bi (isSq c_a5) (stB f_a6 2079 h_a6 (exec cz5 (sqL c_a5) (lev cz5 59) m_a s_a5)) false=true:=by kernel_rfl
theorem p_a6:bi (isSq c_a6) (stB f_a7 2079 h_a7 (exec cz5 (sqL c_a6) (lev cz5 59) m_a s_a6)) false=true:=by kernel_rfl
theorem p_a7:finB cz5 m_a fn_a (exec cz5 c_a7 (lev cz5 59) m_a s_a7)=true:=by kernel_rfl
theorem g_a7:aay cz5 Gl m_a fn_a s_a7 c_a7:=fa_end cz5_ok p_a7
theorem g_a6:aay cz5 Gl m_a fn_a s_a6 c_a6:=aby cz5_ok f_a7 2079 h_a7 p_a6 g_a7
theorem g_a5:aay cz5 Gl m_a fn_a s_a5 c_a5:=aby cz5_ok f_a6 2079 h_a6 p_a5 g_a6
theorem g_a4:aay cz5 Gl m_a fn_a s_a4 c_a4:=aby cz5_ok f_a5 2079 h_a5 p_a4 g_a5
theorem g_a3:aay cz5 Gl m_a fn_a s_a3 c_a3:=aby cz5_ok f_a4 1547 h_a4 p_a3 g_a4
theorem g_a2:aay cz5 Gl m_a fn_a s_a2 c_a2:=aby cz5_ok f_a3 1089 h_a3 p_a2 g_a3
theorem g_a1:aay cz5 Gl m_a fn_a s_a1 c_a1:=aby cz5_ok f_a2 1089 h_a2 p_a1 g_a2
theorem g_a0:aay cz5 Gl m_a fn_a s_a0 c_a0:=aby cz5_ok f_a1 0 h_a1 p_a0 g_a1
theorem says_a{w:Go.World}(hG:Gl w):Go.Wk.Enters Tryz.prog 11/\Go.Wk.CR Tryz.prog 11 [] w fun V w'=>V=.bool true/\Go.Wk.Hp w [] [] w':=fn_say (C:=cz5) cz5_ok krf g_a0 hG
noncomputable def abj:Cx:=cz5.memo 11 [([],.c (.b true))]
theorem aaw:Cok abj Gl/\Xok abj Gl:=said_cx cz5_ok fun w hG=>says_a hG
end Go.Proofs
