/-
  The law MessageKnown (part 6 of 8).
-/
import Derived.Test.YtfbjflaijppeaaaGreatDoorMk5
set_option linter.unusedVariables false
set_option maxRecDepth 100000
namespace Go.Proofs
open Go.Ce
def q0_0 : List SV × SV := ([.c (.s 1 108)], .t [.c (.s 14 2118593076047644386086300223958851), .c (.i .u8 0)])
theorem r0_0 : aal cx 60 21 q0_0 = true := by kernel_rfl
def q0_1 : List SV × SV := ([.c (.s 14 2118593076047644386086300223958851)], .t [.c (.s 14 2118593076047644386086300223958851), .c (.i .u8 0)])
theorem r0_1 : aal cx 60 21 q0_1 = true := by kernel_rfl
def q0_2 : List SV × SV := ([.c (.s 1 116)], .t [.c (.s 2 28500), .c (.i .u8 0)])
theorem r0_2 : aal cx 60 21 q0_2 = true := by kernel_rfl
def q0_3 : List SV × SV := ([.c (.s 2 28500)], .t [.c (.s 2 28500), .c (.i .u8 0)])
theorem r0_3 : aal cx 60 21 q0_3 = true := by kernel_rfl
def q0_4 : List SV × SV := ([.c (.s 2 20308)], .t [.c (.s 2 28500), .c (.i .u8 0)])
theorem r0_4 : aal cx 60 21 q0_4 = true := by kernel_rfl
def q0_5 : List SV × SV := ([.c (.s 7 32760384526120275)], .t [.c (.s 7 32760384526120275), .c (.i .u8 0)])
theorem r0_5 : aal cx 60 21 q0_5 = true := by kernel_rfl
def q0_6 : List SV × SV := ([.c (.s 1 107)], .t [.c (.s 9 1851985001289037673811), .c (.i .u8 0)])
theorem r0_6 : aal cx 60 21 q0_6 = true := by kernel_rfl
def q0_7 : List SV × SV := ([.c (.s 9 1851985001289037673811)], .t [.c (.s 9 1851985001289037673811), .c (.i .u8 0)])
theorem r0_7 : aal cx 60 21 q0_7 = true := by kernel_rfl
def q0_8 : List SV × SV := ([.c (.s 9 1259374305399513568595)], .t [.c (.s 9 1851985001289037673811), .c (.i .u8 0)])
theorem r0_8 : aal cx 60 21 q0_8 = true := by kernel_rfl
def q0_9 : List SV × SV := ([.c (.s 3 6383958)], .t [.c (.s 3 6383958), .c (.i .u8 0)])
theorem r0_9 : aal cx 60 21 q0_9 = true := by kernel_rfl
def q0_10 : List SV × SV := ([.c (.s 4 1836020294)], .t [.c (.s 4 1836020294), .c (.i .u8 0)])
theorem r0_10 : aal cx 60 21 q0_10 = true := by kernel_rfl
def q0_11 : List SV × SV := ([.c (.s 7 19220757857722691)], .t [.c (.s 7 19220757857722691), .c (.i .u8 0)])
theorem r0_11 : aal cx 60 21 q0_11 = true := by kernel_rfl
def q0_12 : List SV × SV := ([.c (.s 4 1902465859)], .t [.c (.s 4 1902465859), .c (.i .u8 0)])
theorem r0_12 : aal cx 60 21 q0_12 = true := by kernel_rfl
def q0_13 : List SV × SV := ([.c (.s 12 35712208859136432295261004109)], .t [.c (.s 12 35712208859136432295261004109), .c (.i .u8 0)])
theorem r0_13 : aal cx 60 21 q0_13 = true := by kernel_rfl
def q0_14 : List SV × SV := ([.c (.s 7 32760367514808131)], .t [.c (.s 7 32760367514808131), .c (.i .u8 0)])
theorem r0_14 : aal cx 60 21 q0_14 = true := by kernel_rfl
def q0_15 : List SV × SV := ([.c (.s 1 105)], .t [.c (.s 7 19220757857722691), .c (.i .u8 0)])
theorem r0_15 : aal cx 60 21 q0_15 = true := by kernel_rfl
def q0_16 : List SV × SV := ([.c (.s 1 102)], .t [.c (.s 4 1836020294), .c (.i .u8 0)])
theorem r0_16 : aal cx 60 21 q0_16 = true := by kernel_rfl
def q0_17 : List SV × SV := ([.c (.s 1 118)], .t [.c (.s 3 6383958), .c (.i .u8 0)])
theorem r0_17 : aal cx 60 21 q0_17 = true := by kernel_rfl
noncomputable def cy0 : Cx := cx.memo 21 [q0_0, q0_1, q0_2, q0_3, q0_4, q0_5, q0_6, q0_7, q0_8, q0_9, q0_10, q0_11, q0_12, q0_13, q0_14, q0_15, q0_16, q0_17]
theorem cy0_ok : Cok cy0 Gl ∧ Xok cy0 Gl := memo_cx cxx ⟨⟨60, r0_0⟩, ⟨⟨60, r0_1⟩, ⟨⟨60, r0_2⟩, ⟨⟨60, r0_3⟩, ⟨⟨60, r0_4⟩, ⟨⟨60, r0_5⟩, ⟨⟨60, r0_6⟩, ⟨⟨60, r0_7⟩, ⟨⟨60, r0_8⟩, ⟨⟨60, r0_9⟩, ⟨⟨60, r0_10⟩, ⟨⟨60, r0_11⟩, ⟨⟨60, r0_12⟩, ⟨⟨60, r0_13⟩, ⟨⟨60, r0_14⟩, ⟨⟨60, r0_15⟩, ⟨⟨60, r0_16⟩, ⟨⟨60, r0_17⟩, trivial⟩⟩⟩⟩⟩⟩⟩⟩⟩⟩⟩⟩⟩⟩⟩⟩⟩⟩
def q1_0 : List SV × SV := ([.c (.s 7 32760384526120275)], .c (.b false))
theorem r1_0 : aal cy0 60 53 q1_0 = true := by kernel_rfl
def q1_1 : List SV × SV := ([.c (.s 9 1851985001289037673811)], .c (.b true))
theorem r1_1 : aal cy0 60 53 q1_1 = true := by kernel_rfl
def q1_2 : List SV × SV := ([.c (.s 3 6383958)], .c (.b true))
theorem r1_2 : aal cy0 60 53 q1_2 = true := by kernel_rfl
def q1_3 : List SV × SV := ([.c (.s 4 1836020294)], .c (.b false))
theorem r1_3 : aal cy0 60 53 q1_3 = true := by kernel_rfl
def q1_4 : List SV × SV := ([.c (.s 2 28500)], .c (.b false))
theorem r1_4 : aal cy0 60 53 q1_4 = true := by kernel_rfl
def q1_5 : List SV × SV := ([.c (.s 7 19220757857722691)], .c (.b false))
theorem r1_5 : aal cy0 60 53 q1_5 = true := by kernel_rfl
def q1_6 : List SV × SV := ([.c (.s 4 1902465859)], .c (.b false))
theorem r1_6 : aal cy0 60 53 q1_6 = true := by kernel_rfl
def q1_7 : List SV × SV := ([.c (.s 12 35712208859136432295261004109)], .c (.b false))
theorem r1_7 : aal cy0 60 53 q1_7 = true := by kernel_rfl
def q1_8 : List SV × SV := ([.c (.s 1 118)], .c (.b true))
theorem r1_8 : aal cy0 60 53 q1_8 = true := by kernel_rfl
noncomputable def cy1 : Cx := cy0.memo 53 [q1_0, q1_1, q1_2, q1_3, q1_4, q1_5, q1_6, q1_7, q1_8]
theorem cy1_ok : Cok cy1 Gl ∧ Xok cy1 Gl := memo_cx cy0_ok ⟨⟨60, r1_0⟩, ⟨⟨60, r1_1⟩, ⟨⟨60, r1_2⟩, ⟨⟨60, r1_3⟩, ⟨⟨60, r1_4⟩, ⟨⟨60, r1_5⟩, ⟨⟨60, r1_6⟩, ⟨⟨60, r1_7⟩, ⟨⟨60, r1_8⟩, trivial⟩⟩⟩⟩⟩⟩⟩⟩⟩
def q2_0 : List SV × SV := ([.c (.s 1 98)], .t [.c (.s 1 98), .c (.b true)])
theorem r2_0 : aal cy1 60 117 q2_0 = true := by kernel_rfl
def q2_1 : List SV × SV := ([.c (.s 1 97)], .t [.c (.s 1 97), .c (.b true)])
theorem r2_1 : aal cy1 60 117 q2_1 = true := by kernel_rfl
def q2_2 : List SV × SV := ([.c (.s 1 104)], .t [.c (.s 1 104), .c (.b true)])
theorem r2_2 : aal cy1 60 117 q2_2 = true := by kernel_rfl
def q2_3 : List SV × SV := ([.c (.s 2 12666)], .t [.c (.s 2 12666), .c (.b true)])
theorem r2_3 : aal cy1 60 117 q2_3 = true := by kernel_rfl
def q2_4 : List SV × SV := ([.c (.s 1 103)], .t [.c (.s 1 103), .c (.b true)])
theorem r2_4 : aal cy1 60 117 q2_4 = true := by kernel_rfl
def q2_5 : List SV × SV := ([.c (.s 1 49)], .t [.c (.s 0 0), .c (.b false)])
theorem r2_5 : aal cy1 60 117 q2_5 = true := by kernel_rfl
def q2_6 : List SV × SV := ([.c (.s 1 113)], .t [.c (.s 1 113), .c (.b true)])
theorem r2_6 : aal cy1 60 117 q2_6 = true := by kernel_rfl
def q2_7 : List SV × SV := ([.c (.s 1 67)], .t [.c (.s 1 99), .c (.b true)])
theorem r2_7 : aal cy1 60 117 q2_7 = true := by kernel_rfl
def q2_8 : List SV × SV := ([.c (.s 1 99)], .t [.c (.s 1 99), .c (.b true)])
theorem r2_8 : aal cy1 60 117 q2_8 = true := by kernel_rfl
noncomputable def cy2 : Cx := cy1.memo 117 [q2_0, q2_1, q2_2, q2_3, q2_4, q2_5, q2_6, q2_7, q2_8]
theorem cy2_ok : Cok cy2 Gl ∧ Xok cy2 Gl := memo_cx cy1_ok ⟨⟨60, r2_0⟩, ⟨⟨60, r2_1⟩, ⟨⟨60, r2_2⟩, ⟨⟨60, r2_3⟩, ⟨⟨60, r2_4⟩, ⟨⟨60, r2_5⟩, ⟨⟨60, r2_6⟩, ⟨⟨60, r2_7⟩, ⟨⟨60, r2_8⟩, trivial⟩⟩⟩⟩⟩⟩⟩⟩⟩
def q3_0 : List SV × SV := ([.c (.s 1 65)], .c (.b true))
theorem r3_0 : aal cy2 60 59 q3_0 = true := by kernel_rfl
def q3_1 : List SV × SV := ([.c (.s 1 108)], .c (.b true))
theorem r3_1 : aal cy2 60 59 q3_1 = true := by kernel_rfl
def q3_2 : List SV × SV := ([.c (.s 14 2118593076047644386086300223958851)], .c (.b true))
theorem r3_2 : aal cy2 60 59 q3_2 = true := by kernel_rfl
def q3_3 : List SV × SV := ([.c (.s 1 116)], .c (.b true))
theorem r3_3 : aal cy2 60 59 q3_3 = true := by kernel_rfl
def q3_4 : List SV × SV := ([.c (.s 2 28500)], .c (.b true))
theorem r3_4 : aal cy2 60 59 q3_4 = true := by kernel_rfl
def q3_5 : List SV × SV := ([.c (.s 2 20308)], .c (.b true))
theorem r3_5 : aal cy2 60 59 q3_5 = true := by kernel_rfl
def q3_6 : List SV × SV := ([.c (.s 7 32760384526120275)], .c (.b true))
theorem r3_6 : aal cy2 60 59 q3_6 = true := by kernel_rfl
def q3_7 : List SV × SV := ([.c (.s 1 107)], .c (.b true))
theorem r3_7 : aal cy2 60 59 q3_7 = true := by kernel_rfl
def q3_8 : List SV × SV := ([.c (.s 9 1851985001289037673811)], .c (.b true))
theorem r3_8 : aal cy2 60 59 q3_8 = true := by kernel_rfl
def q3_9 : List SV × SV := ([.c (.s 1 120)], .c (.b true))
theorem r3_9 : aal cy2 60 59 q3_9 = true := by kernel_rfl
def q3_10 : List SV × SV := ([.c (.s 9 1259374305399513568595)], .c (.b true))
theorem r3_10 : aal cy2 60 59 q3_10 = true := by kernel_rfl
def q3_11 : List SV × SV := ([.c (.s 1 121)], .c (.b true))
theorem r3_11 : aal cy2 60 59 q3_11 = true := by kernel_rfl
def q3_12 : List SV × SV := ([.c (.s 3 6383958)], .c (.b true))
theorem r3_12 : aal cy2 60 59 q3_12 = true := by kernel_rfl
def q3_13 : List SV × SV := ([.c (.s 4 1836020294)], .c (.b true))
theorem r3_13 : aal cy2 60 59 q3_13 = true := by kernel_rfl
def q3_14 : List SV × SV := ([.c (.s 7 19220757857722691)], .c (.b true))
theorem r3_14 : aal cy2 60 59 q3_14 = true := by kernel_rfl
def q3_15 : List SV × SV := ([.c (.s 4 1902465859)], .c (.b true))
theorem r3_15 : aal cy2 60 59 q3_15 = true := by kernel_rfl
def q3_16 : List SV × SV := ([.c (.s 12 35712208859136432295261004109)], .c (.b true))
theorem r3_16 : aal cy2 60 59 q3_16 = true := by kernel_rfl
def q3_17 : List SV × SV := ([.c (.s 3 4544834)], .c (.b true))
theorem r3_17 : aal cy2 60 59 q3_17 = true := by kernel_rfl
def q3_18 : List SV × SV := ([.c (.s 3 5260373)], .c (.b true))
theorem r3_18 : aal cy2 60 59 q3_18 = true := by kernel_rfl
def q3_19 : List SV × SV := ([.c (.s 6 114776262931042)], .c (.b true))
theorem r3_19 : aal cy2 60 59 q3_19 = true := by kernel_rfl
def q3_20 : List SV × SV := ([.c (.s 2 12666)], .c (.b true))
theorem r3_20 : aal cy2 60 59 q3_20 = true := by kernel_rfl
def q3_21 : List SV × SV := ([.c (.s 3 6775156)], .c (.b true))
theorem r3_21 : aal cy2 60 59 q3_21 = true := by kernel_rfl
def q3_22 : List SV × SV := ([.c (.s 1 49)], .c (.b true))
theorem r3_22 : aal cy2 60 59 q3_22 = true := by kernel_rfl
def q3_23 : List SV × SV := ([.c (.s 6 76228309962313)], .c (.b true))
theorem r3_23 : aal cy2 60 59 q3_23 = true := by kernel_rfl
def q3_24 : List SV × SV := ([.c (.s 7 32760367514808131)], .c (.b true))
theorem r3_24 : aal cy2 60 59 q3_24 = true := by kernel_rfl
def q3_25 : List SV × SV := ([.c (.s 3 4932417)], .c (.b true))
theorem r3_25 : aal cy2 60 59 q3_25 = true := by kernel_rfl
def q3_26 : List SV × SV := ([.c (.s 1 105)], .c (.b true))
theorem r3_26 : aal cy2 60 59 q3_26 = true := by kernel_rfl
def q3_27 : List SV × SV := ([.c (.s 1 102)], .c (.b true))
theorem r3_27 : aal cy2 60 59 q3_27 = true := by kernel_rfl
def q3_28 : List SV × SV := ([.c (.s 0 0)], .c (.b false))
theorem r3_28 : aal cy2 60 59 q3_28 = true := by kernel_rfl
def q3_29 : List SV × SV := ([.c (.s 1 118)], .c (.b true))
theorem r3_29 : aal cy2 60 59 q3_29 = true := by kernel_rfl
def q3_30 : List SV × SV := ([.c (.s 1 113)], .c (.b true))
theorem r3_30 : aal cy2 60 59 q3_30 = true := by kernel_rfl
noncomputable def cy3 : Cx := cy2.memo 59 [q3_0, q3_1, q3_2, q3_3, q3_4, q3_5, q3_6, q3_7, q3_8, q3_9, q3_10, q3_11, q3_12, q3_13, q3_14, q3_15, q3_16, q3_17, q3_18, q3_19, q3_20, q3_21, q3_22, q3_23, q3_24, q3_25, q3_26, q3_27, q3_28, q3_29, q3_30]
theorem cy3_ok : Cok cy3 Gl ∧ Xok cy3 Gl := memo_cx cy2_ok ⟨⟨60, r3_0⟩, ⟨⟨60, r3_1⟩, ⟨⟨60, r3_2⟩, ⟨⟨60, r3_3⟩, ⟨⟨60, r3_4⟩, ⟨⟨60, r3_5⟩, ⟨⟨60, r3_6⟩, ⟨⟨60, r3_7⟩, ⟨⟨60, r3_8⟩, ⟨⟨60, r3_9⟩, ⟨⟨60, r3_10⟩, ⟨⟨60, r3_11⟩, ⟨⟨60, r3_12⟩, ⟨⟨60, r3_13⟩, ⟨⟨60, r3_14⟩, ⟨⟨60, r3_15⟩, ⟨⟨60, r3_16⟩, ⟨⟨60, r3_17⟩, ⟨⟨60, r3_18⟩, ⟨⟨60, r3_19⟩, ⟨⟨60, r3_20⟩, ⟨⟨60, r3_21⟩, ⟨⟨60, r3_22⟩, ⟨⟨60, r3_23⟩, ⟨⟨60, r3_24⟩, ⟨⟨60, r3_25⟩, ⟨⟨60, r3_26⟩, ⟨⟨60, r3_27⟩, ⟨⟨60, r3_28⟩, ⟨⟨60, r3_29⟩, ⟨⟨60, r3_30⟩, trivial⟩⟩⟩⟩⟩⟩⟩⟩⟩⟩⟩⟩⟩⟩⟩⟩⟩⟩⟩⟩⟩⟩⟩⟩⟩⟩⟩⟩⟩⟩⟩
def q4_0 : List SV × SV := ([.c (.s 14 2118593076047644386086300223958851), .c (.s 1 120)], .t [.c (.s 0 0), .c (.i .u8 5)])
theorem r4_0 : aal cy3 60 163 q4_0 = true := by kernel_rfl
def q4_1 : List SV × SV := ([.c (.s 2 28500), .c (.s 5 417592273267)], .t [.c (.s 7 17558352178017084), .c (.i .u8 0)])
theorem r4_1 : aal cy3 60 163 q4_1 = true := by kernel_rfl
def q4_2 : List SV × SV := ([.c (.s 14 2118593076047644386086300223958851), .c (.s 1 50)], .t [.c (.s 1 50), .c (.i .u8 0)])
theorem r4_2 : aal cy3 60 163 q4_2 = true := by kernel_rfl
def q4_3 : List SV × SV := ([.c (.s 7 32760384526120275), .c (.s 3 6430817)], .t [.c (.s 3 6430817), .c (.i .u8 0)])
theorem r4_3 : aal cy3 60 163 q4_3 = true := by kernel_rfl
def q4_4 : List SV × SV := ([.c (.s 9 1851985001289037673811), .c (.s 1 120)], .t [.c (.s 1 120), .c (.i .u8 0)])
theorem r4_4 : aal cy3 60 163 q4_4 = true := by kernel_rfl
def q4_5 : List SV × SV := ([.c (.s 9 1851985001289037673811), .c (.s 1 121)], .t [.c (.s 1 121), .c (.i .u8 0)])
theorem r4_5 : aal cy3 60 163 q4_5 = true := by kernel_rfl
def q4_6 : List SV × SV := ([.c (.s 3 6383958), .c (.s 38 13129489373276269791323263511185072344311540262624388685336886561520799013032128485306419539)], .t [.c (.s 38 13129489373276269791323263511185072344311540262624388685336886561520799013032128485306419539), .c (.i .u8 0)])
theorem r4_6 : aal cy3 60 163 q4_6 = true := by kernel_rfl
def q4_7 : List SV × SV := ([.c (.s 4 1836020294), .c (.s 11 59527336553514477758212467)], .t [.c (.s 13 3901183528371115005387169428284), .c (.i .u8 0)])
theorem r4_7 : aal cy3 60 163 q4_7 = true := by kernel_rfl
def q4_8 : List SV × SV := ([.c (.s 2 28500), .c (.s 5 421887240563)], .t [.c (.s 7 17559451689644860), .c (.i .u8 0)])
theorem r4_8 : aal cy3 60 163 q4_8 = true := by kernel_rfl
def q4_9 : List SV × SV := ([.c (.s 7 19220757857722691), .c (.s 1 99)], .t [.c (.s 1 99), .c (.i .u8 0)])
theorem r4_9 : aal cy3 60 163 q4_9 = true := by kernel_rfl
def q4_10 : List SV × SV := ([.c (.s 4 1902465859), .c (.s 5 297850249265)], .t [.c (.s 5 297850249265), .c (.i .u8 0)])
theorem r4_10 : aal cy3 60 163 q4_10 = true := by kernel_rfl
def q4_11 : List SV × SV := ([.c (.s 12 35712208859136432295261004109), .c (.s 2 12343)], .t [.c (.s 2 12343), .c (.i .u8 0)])
theorem r4_11 : aal cy3 60 163 q4_11 = true := by kernel_rfl
def q4_12 : List SV × SV := ([.c (.s 4 1902465859), .c (.s 5 323250888753)], .t [.c (.s 5 323250888753), .c (.i .u8 0)])
theorem r4_12 : aal cy3 60 163 q4_12 = true := by kernel_rfl
def q4_13 : List SV × SV := ([.c (.s 7 19220757857722691), .c (.s 0 0)], .t [.c (.s 0 0), .c (.i .u8 0)])
theorem r4_13 : aal cy3 60 163 q4_13 = true := by kernel_rfl
def q4_14 : List SV × SV := ([.c (.s 4 1836020294), .c (.s 13 3901183528371115005387169428284)], .t [.c (.s 13 3901183528371115005387169428284), .c (.i .u8 0)])
theorem r4_14 : aal cy3 60 163 q4_14 = true := by kernel_rfl
def q4_15 : List SV × SV := ([.c (.s 2 28500), .c (.s 13 8971785929284032612473493877564)], .t [.c (.s 13 8971785929284032612473493877564), .c (.i .u8 0)])
theorem r4_15 : aal cy3 60 163 q4_15 = true := by kernel_rfl
def q4_16 : List SV × SV := ([.c (.s 14 2118593076047644386086300223958851), .c (.s 1 48)], .t [.c (.s 1 48), .c (.i .u8 0)])
theorem r4_16 : aal cy3 60 163 q4_16 = true := by kernel_rfl
def q4_17 : List SV × SV := ([.c (.s 3 6383958), .c (.s 13 8249729458555637672174668499283)], .t [.c (.s 13 8249729458555637672174668499283), .c (.i .u8 0)])
theorem r4_17 : aal cy3 60 163 q4_17 = true := by kernel_rfl
noncomputable def cy4 : Cx := cy3.memo 163 [q4_0, q4_1, q4_2, q4_3, q4_4, q4_5, q4_6, q4_7, q4_8, q4_9, q4_10, q4_11, q4_12, q4_13, q4_14, q4_15, q4_16, q4_17]
theorem cy4_ok : Cok cy4 Gl ∧ Xok cy4 Gl := memo_cx cy3_ok ⟨⟨60, r4_0⟩, ⟨⟨60, r4_1⟩, ⟨⟨60, r4_2⟩, ⟨⟨60, r4_3⟩, ⟨⟨60, r4_4⟩, ⟨⟨60, r4_5⟩, ⟨⟨60, r4_6⟩, ⟨⟨60, r4_7⟩, ⟨⟨60, r4_8⟩, ⟨⟨60, r4_9⟩, ⟨⟨60, r4_10⟩, ⟨⟨60, r4_11⟩, ⟨⟨60, r4_12⟩, ⟨⟨60, r4_13⟩, ⟨⟨60, r4_14⟩, ⟨⟨60, r4_15⟩, ⟨⟨60, r4_16⟩, ⟨⟨60, r4_17⟩, trivial⟩⟩⟩⟩⟩⟩⟩⟩⟩⟩⟩⟩⟩⟩⟩⟩⟩⟩
def q5_0 : List SV × SV := ([.c (.s 0 0), .c (.i .i64 0), .c (.i .u8 6)], .c (.b true))
theorem r5_0 : aal cy4 60 26 q5_0 = true := by kernel_rfl
def q5_1 : List SV × SV := ([.c (.s 17 3420353800370690962191060299153331658817), .c (.i .i64 17), .c (.i .u8 6)], .c (.b true))
theorem r5_1 : aal cy4 60 26 q5_1 = true := by kernel_rfl
def q5_2 : List SV × SV := ([.c (.s 22 3760501092760341667563555183590926693610555314479169), .c (.i .i64 17), .c (.i .u8 5)], .c (.b true))
theorem r5_2 : aal cy4 60 26 q5_2 = true := by kernel_rfl
def q5_3 : List SV × SV := ([.c (.s 11 12150834392261858920964161), .c (.i .i64 0), .c (.i .u8 5)], .c (.b true))
theorem r5_3 : aal cy4 60 26 q5_3 = true := by kernel_rfl
def q5_4 : List SV × SV := ([.c (.s 16 13359983708249417723812011996626307411), .c (.i .i64 0), .c (.i .u8 5)], .c (.b true))
theorem r5_4 : aal cy4 60 26 q5_4 = true := by kernel_rfl
def q5_5 : List SV × SV := ([.c (.s 17 3420155829311840014885322944401906878803), .c (.i .i64 0), .c (.i .u8 3)], .c (.b true))
theorem r5_5 : aal cy4 60 26 q5_5 = true := by kernel_rfl
def q5_6 : List SV × SV := ([.c (.s 20 57380693006392188240057724026960817455058395201), .c (.i .i64 0), .c (.i .u8 15)], .c (.b true))
theorem r5_6 : aal cy4 60 26 q5_6 = true := by kernel_rfl
def q5_7 : List SV × SV := ([.c (.s 22 3760501100339110543626696641847205950330896920027201), .c (.i .i64 17), .c (.i .u8 5)], .c (.b true))
theorem r5_7 : aal cy4 60 26 q5_7 = true := by kernel_rfl
def q5_8 : List SV × SV := ([.c (.s 25 63090739275521589777821278418316199093521421222766487740481), .c (.i .i64 17), .c (.i .u8 5)], .c (.b true))
theorem r5_8 : aal cy4 60 26 q5_8 = true := by kernel_rfl
def q5_9 : List SV × SV := ([.c (.s 40 83861976875307756248345150902058272837707693880311105792825497265069223522512438900619151089729), .c (.i .i64 27), .c (.i .u8 7)], .c (.b true))
theorem r5_9 : aal cy4 60 26 q5_9 = true := by kernel_rfl
def q5_10 : List SV × SV := ([.c (.s 26 192895656050252049540200109155083570563467740863781991445897281), .c (.i .i64 26), .c (.i .u8 6)], .c (.b true))
theorem r5_10 : aal cy4 60 26 q5_10 = true := by kernel_rfl
noncomputable def cy5 : Cx := cy4.memo 26 [q5_0, q5_1, q5_2, q5_3, q5_4, q5_5, q5_6, q5_7, q5_8, q5_9, q5_10]
theorem cy5_ok : Cok cy5 Gl ∧ Xok cy5 Gl := memo_cx cy4_ok ⟨⟨60, r5_0⟩, ⟨⟨60, r5_1⟩, ⟨⟨60, r5_2⟩, ⟨⟨60, r5_3⟩, ⟨⟨60, r5_4⟩, ⟨⟨60, r5_5⟩, ⟨⟨60, r5_6⟩, ⟨⟨60, r5_7⟩, ⟨⟨60, r5_8⟩, ⟨⟨60, r5_9⟩, ⟨⟨60, r5_10⟩, trivial⟩⟩⟩⟩⟩⟩⟩⟩⟩⟩⟩
def q6_0 : List SV × SV := ([], .c (.b true))
theorem r6_0 : aal cy5 60 12 q6_0 = true := by kernel_rfl
noncomputable def cy6 : Cx := cy5.memo 12 [q6_0]
theorem cy6_ok : Cok cy6 Gl ∧ Xok cy6 Gl := memo_cx cy5_ok ⟨⟨60, r6_0⟩, trivial⟩
end Go.Proofs
