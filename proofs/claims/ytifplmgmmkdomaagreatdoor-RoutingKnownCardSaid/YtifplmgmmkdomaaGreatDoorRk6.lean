/-
  The law RoutingKnown (part 6 of 8).
-/
import Derived.Test.YtifplmgmmkdomaaGreatDoorRk5
set_option linter.unusedVariables false
set_option maxRecDepth 100000
namespace Go.Proofs
open Go.Ce
def q0_0 : List SV × SV := ([.c (.s 5 435745550162)], .t [.c (.s 5 435745550162), .c (.i .u8 0)])
theorem r0_0 : aay cx 60 86 q0_0 = true := by kernel_rfl
def q0_1 : List SV × SV := ([.c (.s 3 6383958)], .t [.c (.s 3 6383958), .c (.i .u8 0)])
theorem r0_1 : aay cx 60 86 q0_1 = true := by kernel_rfl
def q0_2 : List SV × SV := ([.c (.s 4 1836020294)], .t [.c (.s 4 1836020294), .c (.i .u8 0)])
theorem r0_2 : aay cx 60 86 q0_2 = true := by kernel_rfl
def q0_3 : List SV × SV := ([.c (.s 2 28500)], .t [.c (.s 2 28500), .c (.i .u8 0)])
theorem r0_3 : aay cx 60 86 q0_3 = true := by kernel_rfl
def q0_4 : List SV × SV := ([.c (.s 7 19220757857722691)], .t [.c (.s 7 19220757857722691), .c (.i .u8 0)])
theorem r0_4 : aay cx 60 86 q0_4 = true := by kernel_rfl
def q0_5 : List SV × SV := ([.c (.s 4 1902465859)], .t [.c (.s 4 1902465859), .c (.i .u8 0)])
theorem r0_5 : aay cx 60 86 q0_5 = true := by kernel_rfl
def q0_6 : List SV × SV := ([.c (.s 12 35712208859136432295261004109)], .t [.c (.s 12 35712208859136432295261004109), .c (.i .u8 0)])
theorem r0_6 : aay cx 60 86 q0_6 = true := by kernel_rfl
def q0_7 : List SV × SV := ([.c (.s 12 31398775957419736383438939474)], .t [.c (.s 12 31398775957419736383438939474), .c (.i .u8 0)])
theorem r0_7 : aay cx 60 86 q0_7 = true := by kernel_rfl
noncomputable def cy0 : Cx := cx.memo 86 [q0_0, q0_1, q0_2, q0_3, q0_4, q0_5, q0_6, q0_7]
theorem cy0_ok : Cok cy0 Gl ∧ Xok cy0 Gl := abo cxx ⟨⟨60, r0_0⟩, ⟨⟨60, r0_1⟩, ⟨⟨60, r0_2⟩, ⟨⟨60, r0_3⟩, ⟨⟨60, r0_4⟩, ⟨⟨60, r0_5⟩, ⟨⟨60, r0_6⟩, ⟨⟨60, r0_7⟩, trivial⟩⟩⟩⟩⟩⟩⟩⟩
def q1_0 : List SV × SV := ([.c (.s 12 35712208859136432295261004109)], .t [.c (.s 12 35712208859136432295261004109), .c (.i .u8 0)])
theorem r1_0 : aay cy0 60 61 q1_0 = true := by kernel_rfl
def q1_1 : List SV × SV := ([.c (.s 5 435745550162)], .t [.c (.s 5 435745550162), .c (.i .u8 0)])
theorem r1_1 : aay cy0 60 61 q1_1 = true := by kernel_rfl
def q1_2 : List SV × SV := ([.c (.s 3 6383958)], .t [.c (.s 3 6383958), .c (.i .u8 0)])
theorem r1_2 : aay cy0 60 61 q1_2 = true := by kernel_rfl
def q1_3 : List SV × SV := ([.c (.s 4 1836020294)], .t [.c (.s 4 1836020294), .c (.i .u8 0)])
theorem r1_3 : aay cy0 60 61 q1_3 = true := by kernel_rfl
def q1_4 : List SV × SV := ([.c (.s 2 28500)], .t [.c (.s 2 28500), .c (.i .u8 0)])
theorem r1_4 : aay cy0 60 61 q1_4 = true := by kernel_rfl
def q1_5 : List SV × SV := ([.c (.s 7 19220757857722691)], .t [.c (.s 7 19220757857722691), .c (.i .u8 0)])
theorem r1_5 : aay cy0 60 61 q1_5 = true := by kernel_rfl
def q1_6 : List SV × SV := ([.c (.s 4 1902465859)], .t [.c (.s 4 1902465859), .c (.i .u8 0)])
theorem r1_6 : aay cy0 60 61 q1_6 = true := by kernel_rfl
def q1_7 : List SV × SV := ([.c (.s 12 31398775957419736383438939474)], .t [.c (.s 12 31398775957419736383438939474), .c (.i .u8 0)])
theorem r1_7 : aay cy0 60 61 q1_7 = true := by kernel_rfl
noncomputable def cy1 : Cx := cy0.memo 61 [q1_0, q1_1, q1_2, q1_3, q1_4, q1_5, q1_6, q1_7]
theorem cy1_ok : Cok cy1 Gl ∧ Xok cy1 Gl := abo cy0_ok ⟨⟨60, r1_0⟩, ⟨⟨60, r1_1⟩, ⟨⟨60, r1_2⟩, ⟨⟨60, r1_3⟩, ⟨⟨60, r1_4⟩, ⟨⟨60, r1_5⟩, ⟨⟨60, r1_6⟩, ⟨⟨60, r1_7⟩, trivial⟩⟩⟩⟩⟩⟩⟩⟩
def q2_0 : List SV × SV := ([.c (.s 5 435745550162)], .c (.b true))
theorem r2_0 : aay cy1 60 82 q2_0 = true := by kernel_rfl
def q2_1 : List SV × SV := ([.c (.s 3 6383958)], .c (.b true))
theorem r2_1 : aay cy1 60 82 q2_1 = true := by kernel_rfl
noncomputable def cy2 : Cx := cy1.memo 82 [q2_0, q2_1]
theorem cy2_ok : Cok cy2 Gl ∧ Xok cy2 Gl := abo cy1_ok ⟨⟨60, r2_0⟩, ⟨⟨60, r2_1⟩, trivial⟩⟩
def q3_0 : List SV × SV := ([.c (.s 5 435745550162)], .c (.b true))
theorem r3_0 : aay cy2 60 87 q3_0 = true := by kernel_rfl
def q3_1 : List SV × SV := ([.c (.s 3 6383958)], .c (.b true))
theorem r3_1 : aay cy2 60 87 q3_1 = true := by kernel_rfl
noncomputable def cy3 : Cx := cy2.memo 87 [q3_0, q3_1]
theorem cy3_ok : Cok cy3 Gl ∧ Xok cy3 Gl := abo cy2_ok ⟨⟨60, r3_0⟩, ⟨⟨60, r3_1⟩, trivial⟩⟩
def q4_0 : List SV × SV := ([.c (.s 15 255667963715329393499128849192547132)], .c (.s 1 49))
theorem r4_0 : aay cy3 60 162 q4_0 = true := by kernel_rfl
def q4_1 : List SV × SV := ([.c (.s 9 1151210244751579771708)], .c (.s 0 0))
theorem r4_1 : aay cy3 60 162 q4_1 = true := by kernel_rfl
noncomputable def cy4 : Cx := cy3.memo 162 [q4_0, q4_1]
theorem cy4_ok : Cok cy4 Gl ∧ Xok cy4 Gl := abo cy3_ok ⟨⟨60, r4_0⟩, ⟨⟨60, r4_1⟩, trivial⟩⟩
def q5_0 : List SV × SV := ([.c (.s 10 294897449712896910652220)], .t [.c (.s 8 8245030371011357043), .c (.i .u8 0)])
theorem r5_0 : aay cy4 60 38 q5_0 = true := by kernel_rfl
def q5_1 : List SV × SV := ([.c (.s 7 17575944364061500)], .t [.c (.s 5 486311750003), .c (.i .u8 0)])
theorem r5_1 : aay cy4 60 38 q5_1 = true := by kernel_rfl
def q5_2 : List SV × SV := ([.c (.s 9 1151210244751579771708)], .t [.c (.s 7 29344188209326451), .c (.i .u8 0)])
theorem r5_2 : aay cy4 60 38 q5_2 = true := by kernel_rfl
def q5_3 : List SV × SV := ([.c (.s 10 294897449713996422279996)], .t [.c (.s 8 8245030375306324339), .c (.i .u8 0)])
theorem r5_3 : aay cy4 60 38 q5_3 = true := by kernel_rfl
noncomputable def cy5 : Cx := cy4.memo 38 [q5_0, q5_1, q5_2, q5_3]
theorem cy5_ok : Cok cy5 Gl ∧ Xok cy5 Gl := abo cy4_ok ⟨⟨60, r5_0⟩, ⟨⟨60, r5_1⟩, ⟨⟨60, r5_2⟩, ⟨⟨60, r5_3⟩, trivial⟩⟩⟩⟩
def q6_0 : List SV × SV := ([.c (.s 1 112)], .t [.c (.s 1 112), .c (.b true)])
theorem r6_0 : aay cy5 60 79 q6_0 = true := by kernel_rfl
def q6_1 : List SV × SV := ([.c (.s 1 80)], .t [.c (.s 1 112), .c (.b true)])
theorem r6_1 : aay cy5 60 79 q6_1 = true := by kernel_rfl
def q6_2 : List SV × SV := ([.c (.s 1 113)], .t [.c (.s 1 113), .c (.b true)])
theorem r6_2 : aay cy5 60 79 q6_2 = true := by kernel_rfl
def q6_3 : List SV × SV := ([.c (.s 1 104)], .t [.c (.s 1 104), .c (.b true)])
theorem r6_3 : aay cy5 60 79 q6_3 = true := by kernel_rfl
def q6_4 : List SV × SV := ([.c (.s 1 99)], .t [.c (.s 1 99), .c (.b true)])
theorem r6_4 : aay cy5 60 79 q6_4 = true := by kernel_rfl
def q6_5 : List SV × SV := ([.c (.s 1 97)], .t [.c (.s 1 97), .c (.b true)])
theorem r6_5 : aay cy5 60 79 q6_5 = true := by kernel_rfl
def q6_6 : List SV × SV := ([.c (.s 25 303758276641062466889863097510102657757123627373378016917882)], .t [.c (.s 25 303758276641062466889863097510102657757123636380577808529786), .c (.b true)])
theorem r6_6 : aay cy5 60 79 q6_6 = true := by kernel_rfl
def q6_7 : List SV × SV := ([.c (.s 25 321535321445542904767091490043379571396591648253923006364026)], .t [.c (.s 25 321535321445542904767091490043379571396591657261122797975930), .c (.b true)])
theorem r6_7 : aay cy5 60 79 q6_7 = true := by kernel_rfl
noncomputable def cy6 : Cx := cy5.memo 79 [q6_0, q6_1, q6_2, q6_3, q6_4, q6_5, q6_6, q6_7]
theorem cy6_ok : Cok cy6 Gl ∧ Xok cy6 Gl := abo cy5_ok ⟨⟨60, r6_0⟩, ⟨⟨60, r6_1⟩, ⟨⟨60, r6_2⟩, ⟨⟨60, r6_3⟩, ⟨⟨60, r6_4⟩, ⟨⟨60, r6_5⟩, ⟨⟨60, r6_6⟩, ⟨⟨60, r6_7⟩, trivial⟩⟩⟩⟩⟩⟩⟩⟩
def q7_0 : List SV × SV := ([.c (.s 12 35712208859136432295261004109)], .c (.b true))
theorem r7_0 : aay cy6 60 92 q7_0 = true := by kernel_rfl
def q7_1 : List SV × SV := ([.c (.s 5 435745550162)], .c (.b true))
theorem r7_1 : aay cy6 60 92 q7_1 = true := by kernel_rfl
def q7_2 : List SV × SV := ([.c (.s 3 6383958)], .c (.b true))
theorem r7_2 : aay cy6 60 92 q7_2 = true := by kernel_rfl
def q7_3 : List SV × SV := ([.c (.s 4 1836020294)], .c (.b true))
theorem r7_3 : aay cy6 60 92 q7_3 = true := by kernel_rfl
def q7_4 : List SV × SV := ([.c (.s 2 28500)], .c (.b true))
theorem r7_4 : aay cy6 60 92 q7_4 = true := by kernel_rfl
def q7_5 : List SV × SV := ([.c (.s 7 19220757857722691)], .c (.b true))
theorem r7_5 : aay cy6 60 92 q7_5 = true := by kernel_rfl
def q7_6 : List SV × SV := ([.c (.s 4 1902465859)], .c (.b true))
theorem r7_6 : aay cy6 60 92 q7_6 = true := by kernel_rfl
def q7_7 : List SV × SV := ([.c (.s 6 76228309962313)], .c (.b true))
theorem r7_7 : aay cy6 60 92 q7_7 = true := by kernel_rfl
def q7_8 : List SV × SV := ([.c (.s 3 5260373)], .c (.b true))
theorem r7_8 : aay cy6 60 92 q7_8 = true := by kernel_rfl
def q7_9 : List SV × SV := ([.c (.s 6 114776262931042)], .c (.b true))
theorem r7_9 : aay cy6 60 92 q7_9 = true := by kernel_rfl
def q7_10 : List SV × SV := ([.c (.s 25 303758276641062466889863097510102657757123627373378016917882)], .c (.b true))
theorem r7_10 : aay cy6 60 92 q7_10 = true := by kernel_rfl
def q7_11 : List SV × SV := ([.c (.s 25 321535321445542904767091490043379571396591648253923006364026)], .c (.b true))
theorem r7_11 : aay cy6 60 92 q7_11 = true := by kernel_rfl
def q7_12 : List SV × SV := ([.c (.s 12 31398775957419736383438939474)], .c (.b true))
theorem r7_12 : aay cy6 60 92 q7_12 = true := by kernel_rfl
noncomputable def cy7 : Cx := cy6.memo 92 [q7_0, q7_1, q7_2, q7_3, q7_4, q7_5, q7_6, q7_7, q7_8, q7_9, q7_10, q7_11, q7_12]
theorem cy7_ok : Cok cy7 Gl ∧ Xok cy7 Gl := abo cy6_ok ⟨⟨60, r7_0⟩, ⟨⟨60, r7_1⟩, ⟨⟨60, r7_2⟩, ⟨⟨60, r7_3⟩, ⟨⟨60, r7_4⟩, ⟨⟨60, r7_5⟩, ⟨⟨60, r7_6⟩, ⟨⟨60, r7_7⟩, ⟨⟨60, r7_8⟩, ⟨⟨60, r7_9⟩, ⟨⟨60, r7_10⟩, ⟨⟨60, r7_11⟩, ⟨⟨60, r7_12⟩, trivial⟩⟩⟩⟩⟩⟩⟩⟩⟩⟩⟩⟩⟩
def q8_0 : List SV × SV := ([.c (.s 23 981172150342249191941203074402093419202878315359660403)], .c (.s 64 2995809488702506059239928954989788500144948725989280061524341437084194798071300769170407537432284048054546127847429370857780414189033681534486930986984758))
theorem r8_0 : aay cy7 60 163 q8_0 = true := by kernel_rfl
def q8_1 : List SV × SV := ([.c (.s 15 52917602091688864796433953139485043)], .c (.s 64 5352243160213610737889153729842453507821890504977222825814301598885140658624071741004708371036159343940525099157353825692069888390554141083229220466997090))
theorem r8_1 : aay cy7 60 163 q8_1 = true := by kernel_rfl
noncomputable def cy8 : Cx := cy7.memo 163 [q8_0, q8_1]
theorem cy8_ok : Cok cy8 Gl ∧ Xok cy8 Gl := abo cy7_ok ⟨⟨60, r8_0⟩, ⟨⟨60, r8_1⟩, trivial⟩⟩
end Go.Proofs
