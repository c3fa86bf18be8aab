/-
  The law ProxyKnown holds: the card of its second form (part 5 of 23).
-/
import Derived.Test.YtogikccgcnhofaaGreatDoorJk4
set_option linter.unusedVariables false
set_option maxRecDepth 100000
set_option maxHeartbeats 0
namespace Go.Proofs
open Go.Ce
def q0_0:List SV×SV:=([.c (.s 3 6383958),.c (.i .i64 0)],.c (.i .i64 3))
theorem r0_0:aae cx 60 235 q0_0=true:=by kernel_rfl
def q0_1:List SV×SV:=([.c (.s 12 35712208859136432295261004109),.c (.i .i64 0)],.c (.i .i64 12))
theorem r0_1:aae cx 60 235 q0_1=true:=by kernel_rfl
def q0_2:List SV×SV:=([.c (.s 4 1836020294),.c (.i .i64 0)],.c (.i .i64 4))
theorem r0_2:aae cx 60 235 q0_2=true:=by kernel_rfl
def q0_3:List SV×SV:=([.c (.s 2 28500),.c (.i .i64 0)],.c (.i .i64 2))
theorem r0_3:aae cx 60 235 q0_3=true:=by kernel_rfl
def q0_4:List SV×SV:=([.c (.s 7 19220757857722691),.c (.i .i64 0)],.c (.i .i64 7))
theorem r0_4:aae cx 60 235 q0_4=true:=by kernel_rfl
def q0_5:List SV×SV:=([.c (.s 4 1902465859),.c (.i .i64 0)],.c (.i .i64 4))
theorem r0_5:aae cx 60 235 q0_5=true:=by kernel_rfl
def q0_6:List SV×SV:=([.c (.s 6 76228309962313),.c (.i .i64 0)],.c (.i .i64 6))
theorem r0_6:aae cx 60 235 q0_6=true:=by kernel_rfl
def q0_7:List SV×SV:=([.c (.s 53 8668575117776974072181795904085234762672281142353026928058466918024307043989594588533323241664066091863864076490184756720322899),.c (.i .i64 8)],.c (.i .i64 11))
theorem r0_7:aae cx 60 235 q0_7=true:=by kernel_rfl
def q0_8:List SV×SV:=([.c (.s 35 388712352013606209304154132544308805103090645004974776953839604377148004844923150907),.c (.i .i64 1)],.c (.i .i64 7))
theorem r0_8:aae cx 60 235 q0_8=true:=by kernel_rfl
def q0_9:List SV×SV:=([.c (.s 35 388712352013606209304154132544308805103090645004974776953839604377148004844923150907),.c (.i .i64 8)],.c (.i .i64 35))
theorem r0_9:aae cx 60 235 q0_9=true:=by kernel_rfl
def q0_10:List SV×SV:=([.c (.s 3 5260373),.c (.i .i64 0)],.c (.i .i64 3))
theorem r0_10:aae cx 60 235 q0_10=true:=by kernel_rfl
def q0_11:List SV×SV:=([.c (.s 6 114776262931042),.c (.i .i64 0)],.c (.i .i64 6))
theorem r0_11:aae cx 60 235 q0_11=true:=by kernel_rfl
def q0_12:List SV×SV:=([.c (.s 27 21072138826255099806816107891482923591047024981108319908683856250),.c (.i .i64 0)],.c (.i .i64 27))
theorem r0_12:aae cx 60 235 q0_12=true:=by kernel_rfl
def q0_13:List SV×SV:=([.c (.s 34 3565861807091194644813620486270233279432126157918586626122231676098622000030828883),.c (.i .i64 8)],.c (.i .i64 11))
theorem r0_13:aae cx 60 235 q0_13=true:=by kernel_rfl
def q0_14:List SV×SV:=([.c (.s 16 159898773576685060838416353988839629371),.c (.i .i64 1)],.c (.i .i64 7))
theorem r0_14:aae cx 60 235 q0_14=true:=by kernel_rfl
def q0_15:List SV×SV:=([.c (.s 16 159898773576685060838416353988839629371),.c (.i .i64 8)],.c (.i .i64 16))
theorem r0_15:aae cx 60 235 q0_15=true:=by kernel_rfl
def q0_16:List SV×SV:=([.c (.s 8 8668129884480485754),.c (.i .i64 0)],.c (.i .i64 8))
theorem r0_16:aae cx 60 235 q0_16=true:=by kernel_rfl
def q0_17:List SV×SV:=([.c (.s 6 54139797206075),.c (.i .i64 1)],.c (.i .i64 4))
theorem r0_17:aae cx 60 235 q0_17=true:=by kernel_rfl
def q0_18:List SV×SV:=([.c (.s 6 54139797206075),.c (.i .i64 5)],.c (.i .i64 6))
theorem r0_18:aae cx 60 235 q0_18=true:=by kernel_rfl
def q0_19:List SV×SV:=([.c (.s 3 6775156),.c (.i .i64 0)],.c (.i .i64 3))
theorem r0_19:aae cx 60 235 q0_19=true:=by kernel_rfl
def q0_20:List SV×SV:=([.c (.s 1 49),.c (.i .i64 0)],.c (.i .i64 1))
theorem r0_20:aae cx 60 235 q0_20=true:=by kernel_rfl
def q0_21:List SV×SV:=([.c (.s 1 116),.c (.i .i64 0)],.c (.i .i64 1))
theorem r0_21:aae cx 60 235 q0_21=true:=by kernel_rfl
def q0_22:List SV×SV:=([.c (.s 6 127807076267067),.c (.i .i64 1)],.c (.i .i64 4))
theorem r0_22:aae cx 60 235 q0_22=true:=by kernel_rfl
def q0_23:List SV×SV:=([.c (.s 6 127807076267067),.c (.i .i64 5)],.c (.i .i64 6))
theorem r0_23:aae cx 60 235 q0_23=true:=by kernel_rfl
def q0_24:List SV×SV:=([.c (.s 53 8668575117776974072181795904085234762672283085021919153787537837486213867508501230940162293803587343676273815394469961928821075),.c (.i .i64 8)],.c (.i .i64 11))
theorem r0_24:aae cx 60 235 q0_24=true:=by kernel_rfl
def q0_25:List SV×SV:=([.c (.s 35 388712352013606209304154132544308805103090732117260708714086251001047507377585283643),.c (.i .i64 1)],.c (.i .i64 7))
theorem r0_25:aae cx 60 235 q0_25=true:=by kernel_rfl
def q0_26:List SV×SV:=([.c (.s 35 388712352013606209304154132544308805103090732117260708714086251001047507377585283643),.c (.i .i64 8)],.c (.i .i64 35))
theorem r0_26:aae cx 60 235 q0_26=true:=by kernel_rfl
def q0_27:List SV×SV:=([.c (.s 27 21072138826255099806816107891482923591047029703474802778329069946),.c (.i .i64 0)],.c (.i .i64 27))
theorem r0_27:aae cx 60 235 q0_27=true:=by kernel_rfl
noncomputable def cy0:Cx:=cx.memo 235 [q0_0,q0_1,q0_2,q0_3,q0_4,q0_5,q0_6,q0_7,q0_8,q0_9,q0_10,q0_11,q0_12,q0_13,q0_14,q0_15,q0_16,q0_17,q0_18,q0_19,q0_20,q0_21,q0_22,q0_23,q0_24,q0_25,q0_26,q0_27]
theorem cy0_ok:Cok cy0 Gl/\Xok cy0 Gl:=aap cxx ⟨⟨60,r0_0⟩,⟨⟨60,r0_1⟩,⟨⟨60,r0_2⟩,⟨⟨60,r0_3⟩,⟨⟨60,r0_4⟩,⟨⟨60,r0_5⟩,⟨⟨60,r0_6⟩,⟨⟨60,r0_7⟩,⟨⟨60,r0_8⟩,⟨⟨60,r0_9⟩,⟨⟨60,r0_10⟩,⟨⟨60,r0_11⟩,⟨⟨60,r0_12⟩,⟨⟨60,r0_13⟩,⟨⟨60,r0_14⟩,⟨⟨60,r0_15⟩,⟨⟨60,r0_16⟩,⟨⟨60,r0_17⟩,⟨⟨60,r0_18⟩,⟨⟨60,r0_19⟩,⟨⟨60,r0_20⟩,⟨⟨60,r0_21⟩,⟨⟨60,r0_22⟩,⟨⟨60,r0_23⟩,⟨⟨60,r0_24⟩,⟨⟨60,r0_25⟩,⟨⟨60,r0_26⟩,⟨⟨60,r0_27⟩,trivial⟩⟩⟩⟩⟩⟩⟩⟩⟩⟩⟩⟩⟩⟩⟩⟩⟩⟩⟩⟩⟩⟩⟩⟩⟩⟩⟩⟩
def q1_0:List SV×SV:=([.c (.s 3 6383958)],.c (.b true))
theorem r1_0:aae cy0 60 149 q1_0=true:=by kernel_rfl
def q1_1:List SV×SV:=([.c (.s 12 35712208859136432295261004109)],.c (.b true))
theorem r1_1:aae cy0 60 149 q1_1=true:=by kernel_rfl
def q1_2:List SV×SV:=([.c (.s 4 1836020294)],.c (.b true))
theorem r1_2:aae cy0 60 149 q1_2=true:=by kernel_rfl
def q1_3:List SV×SV:=([.c (.s 2 28500)],.c (.b true))
theorem r1_3:aae cy0 60 149 q1_3=true:=by kernel_rfl
def q1_4:List SV×SV:=([.c (.s 7 19220757857722691)],.c (.b true))
theorem r1_4:aae cy0 60 149 q1_4=true:=by kernel_rfl
def q1_5:List SV×SV:=([.c (.s 4 1902465859)],.c (.b true))
theorem r1_5:aae cy0 60 149 q1_5=true:=by kernel_rfl
def q1_6:List SV×SV:=([.c (.s 6 76228309962313)],.c (.b true))
theorem r1_6:aae cy0 60 149 q1_6=true:=by kernel_rfl
def q1_7:List SV×SV:=([.c (.s 3 5260373)],.c (.b true))
theorem r1_7:aae cy0 60 149 q1_7=true:=by kernel_rfl
def q1_8:List SV×SV:=([.c (.s 6 114776262931042)],.c (.b true))
theorem r1_8:aae cy0 60 149 q1_8=true:=by kernel_rfl
def q1_9:List SV×SV:=([.c (.s 27 21072138826255099806816107891482923591047024981108319908683856250)],.c (.b true))
theorem r1_9:aae cy0 60 149 q1_9=true:=by kernel_rfl
def q1_10:List SV×SV:=([.c (.s 8 8668129884480485754)],.c (.b true))
theorem r1_10:aae cy0 60 149 q1_10=true:=by kernel_rfl
def q1_11:List SV×SV:=([.c (.s 3 6775156)],.c (.b true))
theorem r1_11:aae cy0 60 149 q1_11=true:=by kernel_rfl
def q1_12:List SV×SV:=([.c (.s 1 49)],.c (.b true))
theorem r1_12:aae cy0 60 149 q1_12=true:=by kernel_rfl
def q1_13:List SV×SV:=([.c (.s 1 116)],.c (.b true))
theorem r1_13:aae cy0 60 149 q1_13=true:=by kernel_rfl
def q1_14:List SV×SV:=([.c (.s 27 21072138826255099806816107891482923591047029703474802778329069946)],.c (.b true))
theorem r1_14:aae cy0 60 149 q1_14=true:=by kernel_rfl
noncomputable def cy1:Cx:=cy0.memo 149 [q1_0,q1_1,q1_2,q1_3,q1_4,q1_5,q1_6,q1_7,q1_8,q1_9,q1_10,q1_11,q1_12,q1_13,q1_14]
theorem cy1_ok:Cok cy1 Gl/\Xok cy1 Gl:=aap cy0_ok ⟨⟨60,r1_0⟩,⟨⟨60,r1_1⟩,⟨⟨60,r1_2⟩,⟨⟨60,r1_3⟩,⟨⟨60,r1_4⟩,⟨⟨60,r1_5⟩,⟨⟨60,r1_6⟩,⟨⟨60,r1_7⟩,⟨⟨60,r1_8⟩,⟨⟨60,r1_9⟩,⟨⟨60,r1_10⟩,⟨⟨60,r1_11⟩,⟨⟨60,r1_12⟩,⟨⟨60,r1_13⟩,⟨⟨60,r1_14⟩,trivial⟩⟩⟩⟩⟩⟩⟩⟩⟩⟩⟩⟩⟩⟩⟩
def q2_0:List SV×SV:=([.c (.s 3 6383958)],.t [.c (.s 3 6383958),.c (.i .u8 0)])
theorem r2_0:aae cy1 60 128 q2_0=true:=by kernel_rfl
def q2_1:List SV×SV:=([.c (.s 12 35712208859136432295261004109)],.t [.c (.s 12 35712208859136432295261004109),.c (.i .u8 0)])
theorem r2_1:aae cy1 60 128 q2_1=true:=by kernel_rfl
def q2_2:List SV×SV:=([.c (.s 4 1836020294)],.t [.c (.s 4 1836020294),.c (.i .u8 0)])
theorem r2_2:aae cy1 60 128 q2_2=true:=by kernel_rfl
def q2_3:List SV×SV:=([.c (.s 2 28500)],.t [.c (.s 2 28500),.c (.i .u8 0)])
theorem r2_3:aae cy1 60 128 q2_3=true:=by kernel_rfl
def q2_4:List SV×SV:=([.c (.s 7 19220757857722691)],.t [.c (.s 7 19220757857722691),.c (.i .u8 0)])
theorem r2_4:aae cy1 60 128 q2_4=true:=by kernel_rfl
def q2_5:List SV×SV:=([.c (.s 4 1902465859)],.t [.c (.s 4 1902465859),.c (.i .u8 0)])
theorem r2_5:aae cy1 60 128 q2_5=true:=by kernel_rfl
noncomputable def cy2:Cx:=cy1.memo 128 [q2_0,q2_1,q2_2,q2_3,q2_4,q2_5]
theorem cy2_ok:Cok cy2 Gl/\Xok cy2 Gl:=aap cy1_ok ⟨⟨60,r2_0⟩,⟨⟨60,r2_1⟩,⟨⟨60,r2_2⟩,⟨⟨60,r2_3⟩,⟨⟨60,r2_4⟩,⟨⟨60,r2_5⟩,trivial⟩⟩⟩⟩⟩⟩
def q3_0:List SV×SV:=([.c (.s 3 6383958)],.c (.b true))
theorem r3_0:aae cy2 60 319 q3_0=true:=by kernel_rfl
def q3_1:List SV×SV:=([.c (.s 4 1836020294)],.c (.b false))
theorem r3_1:aae cy2 60 319 q3_1=true:=by kernel_rfl
def q3_2:List SV×SV:=([.c (.s 2 28500)],.c (.b false))
theorem r3_2:aae cy2 60 319 q3_2=true:=by kernel_rfl
def q3_3:List SV×SV:=([.c (.s 7 19220757857722691)],.c (.b false))
theorem r3_3:aae cy2 60 319 q3_3=true:=by kernel_rfl
def q3_4:List SV×SV:=([.c (.s 4 1902465859)],.c (.b false))
theorem r3_4:aae cy2 60 319 q3_4=true:=by kernel_rfl
def q3_5:List SV×SV:=([.c (.s 12 35712208859136432295261004109)],.c (.b false))
theorem r3_5:aae cy2 60 319 q3_5=true:=by kernel_rfl
noncomputable def cy3:Cx:=cy2.memo 319 [q3_0,q3_1,q3_2,q3_3,q3_4,q3_5]
theorem cy3_ok:Cok cy3 Gl/\Xok cy3 Gl:=aap cy2_ok ⟨⟨60,r3_0⟩,⟨⟨60,r3_1⟩,⟨⟨60,r3_2⟩,⟨⟨60,r3_3⟩,⟨⟨60,r3_4⟩,⟨⟨60,r3_5⟩,trivial⟩⟩⟩⟩⟩⟩
def q4_0:List SV×SV:=([.c (.s 1 99)],.t [.c (.s 1 99),.c (.b true)])
theorem r4_0:aae cy3 60 162 q4_0=true:=by kernel_rfl
def q4_1:List SV×SV:=([.c (.s 1 112)],.t [.c (.s 1 112),.c (.b true)])
theorem r4_1:aae cy3 60 162 q4_1=true:=by kernel_rfl
def q4_2:List SV×SV:=([.c (.s 1 97)],.t [.c (.s 1 97),.c (.b true)])
theorem r4_2:aae cy3 60 162 q4_2=true:=by kernel_rfl
def q4_3:List SV×SV:=([.c (.s 1 104)],.t [.c (.s 1 104),.c (.b true)])
theorem r4_3:aae cy3 60 162 q4_3=true:=by kernel_rfl
def q4_4:List SV×SV:=([.c (.s 1 100)],.t [.c (.s 1 100),.c (.b true)])
theorem r4_4:aae cy3 60 162 q4_4=true:=by kernel_rfl
noncomputable def cy4:Cx:=cy3.memo 162 [q4_0,q4_1,q4_2,q4_3,q4_4]
theorem cy4_ok:Cok cy4 Gl/\Xok cy4 Gl:=aap cy3_ok ⟨⟨60,r4_0⟩,⟨⟨60,r4_1⟩,⟨⟨60,r4_2⟩,⟨⟨60,r4_3⟩,⟨⟨60,r4_4⟩,trivial⟩⟩⟩⟩⟩
def q5_0:List SV×SV:=([.c (.s 5 435745550162),.c (.i .i64 0)],.c (.i .i64 5))
theorem r5_0:aae cy4 60 136 q5_0=true:=by kernel_rfl
def q5_1:List SV×SV:=([.c (.s 3 6383958),.c (.i .i64 0)],.c (.i .i64 3))
theorem r5_1:aae cy4 60 136 q5_1=true:=by kernel_rfl
def q5_2:List SV×SV:=([.c (.s 4 1836020294),.c (.i .i64 0)],.c (.i .i64 4))
theorem r5_2:aae cy4 60 136 q5_2=true:=by kernel_rfl
def q5_3:List SV×SV:=([.c (.s 2 28500),.c (.i .i64 0)],.c (.i .i64 2))
theorem r5_3:aae cy4 60 136 q5_3=true:=by kernel_rfl
def q5_4:List SV×SV:=([.c (.s 7 19220757857722691),.c (.i .i64 0)],.c (.i .i64 7))
theorem r5_4:aae cy4 60 136 q5_4=true:=by kernel_rfl
def q5_5:List SV×SV:=([.c (.s 4 1902465859),.c (.i .i64 0)],.c (.i .i64 4))
theorem r5_5:aae cy4 60 136 q5_5=true:=by kernel_rfl
def q5_6:List SV×SV:=([.c (.s 12 35712208859136432295261004109),.c (.i .i64 0)],.c (.i .i64 12))
theorem r5_6:aae cy4 60 136 q5_6=true:=by kernel_rfl
def q5_7:List SV×SV:=([.c (.s 6 76228309962313),.c (.i .i64 0)],.c (.i .i64 6))
theorem r5_7:aae cy4 60 136 q5_7=true:=by kernel_rfl
def q5_8:List SV×SV:=([.c (.s 34 3565861807091194644813620486270233279432126157918586626122231676098622000030828883),.c (.i .i64 8)],.c (.i .i64 11))
theorem r5_8:aae cy4 60 136 q5_8=true:=by kernel_rfl
def q5_9:List SV×SV:=([.c (.s 16 159898773576685060838416353988839629371),.c (.i .i64 1)],.c (.i .i64 7))
theorem r5_9:aae cy4 60 136 q5_9=true:=by kernel_rfl
def q5_10:List SV×SV:=([.c (.s 16 159898773576685060838416353988839629371),.c (.i .i64 8)],.c (.i .i64 16))
theorem r5_10:aae cy4 60 136 q5_10=true:=by kernel_rfl
def q5_11:List SV×SV:=([.c (.s 3 5260373),.c (.i .i64 0)],.c (.i .i64 3))
theorem r5_11:aae cy4 60 136 q5_11=true:=by kernel_rfl
def q5_12:List SV×SV:=([.c (.s 6 114776262931042),.c (.i .i64 0)],.c (.i .i64 6))
theorem r5_12:aae cy4 60 136 q5_12=true:=by kernel_rfl
def q5_13:List SV×SV:=([.c (.s 8 8668129884480485754),.c (.i .i64 0)],.c (.i .i64 8))
theorem r5_13:aae cy4 60 136 q5_13=true:=by kernel_rfl
def q5_14:List SV×SV:=([.c (.s 6 54139797206075),.c (.i .i64 1)],.c (.i .i64 4))
theorem r5_14:aae cy4 60 136 q5_14=true:=by kernel_rfl
def q5_15:List SV×SV:=([.c (.s 6 54139797206075),.c (.i .i64 5)],.c (.i .i64 6))
theorem r5_15:aae cy4 60 136 q5_15=true:=by kernel_rfl
def q5_16:List SV×SV:=([.c (.s 3 6775156),.c (.i .i64 0)],.c (.i .i64 3))
theorem r5_16:aae cy4 60 136 q5_16=true:=by kernel_rfl
def q5_17:List SV×SV:=([.c (.s 1 49),.c (.i .i64 0)],.c (.i .i64 1))
theorem r5_17:aae cy4 60 136 q5_17=true:=by kernel_rfl
def q5_18:List SV×SV:=([.c (.s 2 14192),.c (.i .i64 0)],.c (.i .i64 2))
theorem r5_18:aae cy4 60 136 q5_18=true:=by kernel_rfl
def q5_19:List SV×SV:=([.c (.s 7 15604532748842043),.c (.i .i64 1)],.c (.i .i64 4))
theorem r5_19:aae cy4 60 136 q5_19=true:=by kernel_rfl
def q5_20:List SV×SV:=([.c (.s 7 15604532748842043),.c (.i .i64 5)],.c (.i .i64 7))
theorem r5_20:aae cy4 60 136 q5_20=true:=by kernel_rfl
def q5_21:List SV×SV:=([.c (.s 25 321535321445542904767091490043379571396592080599487233931642),.c (.i .i64 0)],.c (.i .i64 25))
theorem r5_21:aae cy4 60 136 q5_21=true:=by kernel_rfl
def q5_22:List SV×SV:=([.c (.s 27 21072138826255099806816107891482923591047024981108319908683856250),.c (.i .i64 0)],.c (.i .i64 27))
theorem r5_22:aae cy4 60 136 q5_22=true:=by kernel_rfl
def q5_23:List SV×SV:=([.c (.s 27 21072138826255099806816107891482923591047029703474802778329069946),.c (.i .i64 0)],.c (.i .i64 27))
theorem r5_23:aae cy4 60 136 q5_23=true:=by kernel_rfl
def q5_24:List SV×SV:=([.c (.s 14 2118593076047644386086300223958851),.c (.i .i64 0)],.c (.i .i64 14))
theorem r5_24:aae cy4 60 136 q5_24=true:=by kernel_rfl
def q5_25:List SV×SV:=([.c (.s 53 8668575117776974072181795904085234762672281142353026928058466918024307043989594588533323241664066091863864076490184756720322899),.c (.i .i64 8)],.c (.i .i64 11))
theorem r5_25:aae cy4 60 136 q5_25=true:=by kernel_rfl
def q5_26:List SV×SV:=([.c (.s 35 388712352013606209304154132544308805103090645004974776953839604377148004844923150907),.c (.i .i64 1)],.c (.i .i64 7))
theorem r5_26:aae cy4 60 136 q5_26=true:=by kernel_rfl
def q5_27:List SV×SV:=([.c (.s 35 388712352013606209304154132544308805103090645004974776953839604377148004844923150907),.c (.i .i64 8)],.c (.i .i64 35))
theorem r5_27:aae cy4 60 136 q5_27=true:=by kernel_rfl
def q5_28:List SV×SV:=([.c (.s 53 8668575117776974072181795904085234762672283085021919153787537837486213867508501230940162293803587343676273815394469961928821075),.c (.i .i64 8)],.c (.i .i64 11))
theorem r5_28:aae cy4 60 136 q5_28=true:=by kernel_rfl
def q5_29:List SV×SV:=([.c (.s 35 388712352013606209304154132544308805103090732117260708714086251001047507377585283643),.c (.i .i64 1)],.c (.i .i64 7))
theorem r5_29:aae cy4 60 136 q5_29=true:=by kernel_rfl
def q5_30:List SV×SV:=([.c (.s 35 388712352013606209304154132544308805103090732117260708714086251001047507377585283643),.c (.i .i64 8)],.c (.i .i64 35))
theorem r5_30:aae cy4 60 136 q5_30=true:=by kernel_rfl
noncomputable def cy5:Cx:=cy4.memo 136 [q5_0,q5_1,q5_2,q5_3,q5_4,q5_5,q5_6,q5_7,q5_8,q5_9,q5_10,q5_11,q5_12,q5_13,q5_14,q5_15,q5_16,q5_17,q5_18,q5_19,q5_20,q5_21,q5_22,q5_23,q5_24,q5_25,q5_26,q5_27,q5_28,q5_29,q5_30]
theorem cy5_ok:Cok cy5 Gl/\Xok cy5 Gl:=aap cy4_ok ⟨⟨60,r5_0⟩,⟨⟨60,r5_1⟩,⟨⟨60,r5_2⟩,⟨⟨60,r5_3⟩,⟨⟨60,r5_4⟩,⟨⟨60,r5_5⟩,⟨⟨60,r5_6⟩,⟨⟨60,r5_7⟩,⟨⟨60,r5_8⟩,⟨⟨60,r5_9⟩,⟨⟨60,r5_10⟩,⟨⟨60,r5_11⟩,⟨⟨60,r5_12⟩,⟨⟨60,r5_13⟩,⟨⟨60,r5_14⟩,⟨⟨60,r5_15⟩,⟨⟨60,r5_16⟩,⟨⟨60,r5_17⟩,⟨⟨60,r5_18⟩,⟨⟨60,r5_19⟩,⟨⟨60,r5_20⟩,⟨⟨60,r5_21⟩,⟨⟨60,r5_22⟩,⟨⟨60,r5_23⟩,⟨⟨60,r5_24⟩,⟨⟨60,r5_25⟩,⟨⟨60,r5_26⟩,⟨⟨60,r5_27⟩,⟨⟨60,r5_28⟩,⟨⟨60,r5_29⟩,⟨⟨60,r5_30⟩,trivial⟩⟩⟩⟩⟩⟩⟩⟩⟩⟩⟩⟩⟩⟩⟩⟩⟩⟩⟩⟩⟩⟩⟩⟩⟩⟩⟩⟩⟩⟩⟩
def q6_0:List SV×SV:=([.c (.s 34 3565861807091194644813620486270233279432126157918586626122231676098622000030828883),.c (.i .i64 0)],.c (.i .i64 0))
theorem r6_0:aae cy5 60 137 q6_0=true:=by kernel_rfl
def q6_1:List SV×SV:=([.c (.s 34 3565861807091194644813620486270233279432126157918586626122231676098622000030828883),.c (.i .i64 11)],.c (.i .i64 12))
theorem r6_1:aae cy5 60 137 q6_1=true:=by kernel_rfl
def q6_2:List SV×SV:=([.c (.s 16 159898773576685060838416353988839629371),.c (.i .i64 0)],.c (.i .i64 0))
theorem r6_2:aae cy5 60 137 q6_2=true:=by kernel_rfl
def q6_3:List SV×SV:=([.c (.s 16 159898773576685060838416353988839629371),.c (.i .i64 1)],.c (.i .i64 1))
theorem r6_3:aae cy5 60 137 q6_3=true:=by kernel_rfl
def q6_4:List SV×SV:=([.c (.s 16 159898773576685060838416353988839629371),.c (.i .i64 7)],.c (.i .i64 7))
theorem r6_4:aae cy5 60 137 q6_4=true:=by kernel_rfl
def q6_5:List SV×SV:=([.c (.s 16 159898773576685060838416353988839629371),.c (.i .i64 8)],.c (.i .i64 8))
theorem r6_5:aae cy5 60 137 q6_5=true:=by kernel_rfl
def q6_6:List SV×SV:=([.c (.s 16 159898773576685060838416353988839629371),.c (.i .i64 16)],.c (.i .i64 16))
theorem r6_6:aae cy5 60 137 q6_6=true:=by kernel_rfl
def q6_7:List SV×SV:=([.c (.s 15 255667963715329393499128849192547132),.c (.i .i64 0)],.c (.i .i64 0))
theorem r6_7:aae cy5 60 137 q6_7=true:=by kernel_rfl
def q6_8:List SV×SV:=([.c (.s 6 54139797206075),.c (.i .i64 0)],.c (.i .i64 0))
theorem r6_8:aae cy5 60 137 q6_8=true:=by kernel_rfl
def q6_9:List SV×SV:=([.c (.s 6 54139797206075),.c (.i .i64 1)],.c (.i .i64 1))
theorem r6_9:aae cy5 60 137 q6_9=true:=by kernel_rfl
def q6_10:List SV×SV:=([.c (.s 6 54139797206075),.c (.i .i64 4)],.c (.i .i64 4))
theorem r6_10:aae cy5 60 137 q6_10=true:=by kernel_rfl
def q6_11:List SV×SV:=([.c (.s 6 54139797206075),.c (.i .i64 5)],.c (.i .i64 5))
theorem r6_11:aae cy5 60 137 q6_11=true:=by kernel_rfl
def q6_12:List SV×SV:=([.c (.s 6 54139797206075),.c (.i .i64 6)],.c (.i .i64 6))
theorem r6_12:aae cy5 60 137 q6_12=true:=by kernel_rfl
def q6_13:List SV×SV:=([.c (.s 9 1151210244751579771708),.c (.i .i64 0)],.c (.i .i64 0))
theorem r6_13:aae cy5 60 137 q6_13=true:=by kernel_rfl
def q6_14:List SV×SV:=([.c (.s 0 0),.c (.i .i64 0)],.c (.i .i64 0))
theorem r6_14:aae cy5 60 137 q6_14=true:=by kernel_rfl
def q6_15:List SV×SV:=([.c (.s 8 4995698521690153009),.c (.i .i64 1)],.c (.i .i64 2))
theorem r6_15:aae cy5 60 137 q6_15=true:=by kernel_rfl
def q6_16:List SV×SV:=([.c (.s 16 73690322433973396543805939532863992636),.c (.i .i64 0)],.c (.i .i64 0))
theorem r6_16:aae cy5 60 137 q6_16=true:=by kernel_rfl
def q6_17:List SV×SV:=([.c (.s 7 15604532748842043),.c (.i .i64 0)],.c (.i .i64 0))
theorem r6_17:aae cy5 60 137 q6_17=true:=by kernel_rfl
def q6_18:List SV×SV:=([.c (.s 7 15604532748842043),.c (.i .i64 1)],.c (.i .i64 1))
theorem r6_18:aae cy5 60 137 q6_18=true:=by kernel_rfl
def q6_19:List SV×SV:=([.c (.s 7 15604532748842043),.c (.i .i64 4)],.c (.i .i64 4))
theorem r6_19:aae cy5 60 137 q6_19=true:=by kernel_rfl
def q6_20:List SV×SV:=([.c (.s 7 15604532748842043),.c (.i .i64 5)],.c (.i .i64 5))
theorem r6_20:aae cy5 60 137 q6_20=true:=by kernel_rfl
def q6_21:List SV×SV:=([.c (.s 7 15604532748842043),.c (.i .i64 7)],.c (.i .i64 7))
theorem r6_21:aae cy5 60 137 q6_21=true:=by kernel_rfl
def q6_22:List SV×SV:=([.c (.s 89 10124243933127310110135882475283831834507400816643902617740185303710607820388165652121386968578724025291966443173283541656322677168986795060538858290136676819880203941079420898452286334195819188854966295795373984083),.c (.i .i64 0)],.c (.i .i64 0))
theorem r6_22:aae cy5 60 137 q6_22=true:=by kernel_rfl
def q6_23:List SV×SV:=([.c (.s 89 10124243933127310110135882475283831834507400816643902617740185303710607820388165652121386968578724025291966443173283541656322677168986795060538858290136676819880203941079420898452286334195819188854966295795373984083),.c (.i .i64 54)],.c (.i .i64 55))
theorem r6_23:aae cy5 60 137 q6_23=true:=by kernel_rfl
def q6_24:List SV×SV:=([.c (.s 53 8668575117776974072181795904085234762672281142353026928058466918024307043989594588533323241664066091863864076490184756720322899),.c (.i .i64 11)],.c (.i .i64 12))
theorem r6_24:aae cy5 60 137 q6_24=true:=by kernel_rfl
def q6_25:List SV×SV:=([.c (.s 35 388712352013606209304154132544308805103090645004974776953839604377148004844923150907),.c (.i .i64 0)],.c (.i .i64 0))
theorem r6_25:aae cy5 60 137 q6_25=true:=by kernel_rfl
def q6_26:List SV×SV:=([.c (.s 35 388712352013606209304154132544308805103090645004974776953839604377148004844923150907),.c (.i .i64 1)],.c (.i .i64 1))
theorem r6_26:aae cy5 60 137 q6_26=true:=by kernel_rfl
def q6_27:List SV×SV:=([.c (.s 35 388712352013606209304154132544308805103090645004974776953839604377148004844923150907),.c (.i .i64 7)],.c (.i .i64 7))
theorem r6_27:aae cy5 60 137 q6_27=true:=by kernel_rfl
def q6_28:List SV×SV:=([.c (.s 35 388712352013606209304154132544308805103090645004974776953839604377148004844923150907),.c (.i .i64 8)],.c (.i .i64 8))
theorem r6_28:aae cy5 60 137 q6_28=true:=by kernel_rfl
def q6_29:List SV×SV:=([.c (.s 35 388712352013606209304154132544308805103090645004974776953839604377148004844923150907),.c (.i .i64 35)],.c (.i .i64 35))
theorem r6_29:aae cy5 60 137 q6_29=true:=by kernel_rfl
def q6_30:List SV×SV:=([.c (.s 53 8668575117776974072181795904085234762672281142353026928058466918024307043989594588533323241664066091863864076490184756720322899),.c (.i .i64 0)],.c (.i .i64 0))
theorem r6_30:aae cy5 60 137 q6_30=true:=by kernel_rfl
def q6_31:List SV×SV:=([.c (.s 89 10124243933127310110135882475283831834507400816643902617740185303710607820388165652121386968578724025291966443173283541656322677170929463952764587361056138726703722847721827737504425855447631598593870581000582482259),.c (.i .i64 0)],.c (.i .i64 0))
theorem r6_31:aae cy5 60 137 q6_31=true:=by kernel_rfl
def q6_32:List SV×SV:=([.c (.s 89 10124243933127310110135882475283831834507400816643902617740185303710607820388165652121386968578724025291966443173283541656322677170929463952764587361056138726703722847721827737504425855447631598593870581000582482259),.c (.i .i64 54)],.c (.i .i64 55))
theorem r6_32:aae cy5 60 137 q6_32=true:=by kernel_rfl
def q6_33:List SV×SV:=([.c (.s 53 8668575117776974072181795904085234762672283085021919153787537837486213867508501230940162293803587343676273815394469961928821075),.c (.i .i64 11)],.c (.i .i64 12))
theorem r6_33:aae cy5 60 137 q6_33=true:=by kernel_rfl
def q6_34:List SV×SV:=([.c (.s 35 388712352013606209304154132544308805103090732117260708714086251001047507377585283643),.c (.i .i64 0)],.c (.i .i64 0))
theorem r6_34:aae cy5 60 137 q6_34=true:=by kernel_rfl
def q6_35:List SV×SV:=([.c (.s 35 388712352013606209304154132544308805103090732117260708714086251001047507377585283643),.c (.i .i64 1)],.c (.i .i64 1))
theorem r6_35:aae cy5 60 137 q6_35=true:=by kernel_rfl
def q6_36:List SV×SV:=([.c (.s 35 388712352013606209304154132544308805103090732117260708714086251001047507377585283643),.c (.i .i64 7)],.c (.i .i64 7))
theorem r6_36:aae cy5 60 137 q6_36=true:=by kernel_rfl
def q6_37:List SV×SV:=([.c (.s 35 388712352013606209304154132544308805103090732117260708714086251001047507377585283643),.c (.i .i64 8)],.c (.i .i64 8))
theorem r6_37:aae cy5 60 137 q6_37=true:=by kernel_rfl
def q6_38:List SV×SV:=([.c (.s 35 388712352013606209304154132544308805103090732117260708714086251001047507377585283643),.c (.i .i64 35)],.c (.i .i64 35))
theorem r6_38:aae cy5 60 137 q6_38=true:=by kernel_rfl
def q6_39:List SV×SV:=([.c (.s 53 8668575117776974072181795904085234762672283085021919153787537837486213867508501230940162293803587343676273815394469961928821075),.c (.i .i64 0)],.c (.i .i64 0))
theorem r6_39:aae cy5 60 137 q6_39=true:=by kernel_rfl
noncomputable def cy6:Cx:=cy5.memo 137 [q6_0,q6_1,q6_2,q6_3,q6_4,q6_5,q6_6,q6_7,q6_8,q6_9,q6_10,q6_11,q6_12,q6_13,q6_14,q6_15,q6_16,q6_17,q6_18,q6_19,q6_20,q6_21,q6_22,q6_23,q6_24,q6_25,q6_26,q6_27,q6_28,q6_29,q6_30,q6_31,q6_32,q6_33,q6_34,q6_35,q6_36,q6_37,q6_38,q6_39]
theorem cy6_ok:Cok cy6 Gl/\Xok cy6 Gl:=aap cy5_ok ⟨⟨60,r6_0⟩,⟨⟨60,r6_1⟩,⟨⟨60,r6_2⟩,⟨⟨60,r6_3⟩,⟨⟨60,r6_4⟩,⟨⟨60,r6_5⟩,⟨⟨60,r6_6⟩,⟨⟨60,r6_7⟩,⟨⟨60,r6_8⟩,⟨⟨60,r6_9⟩,⟨⟨60,r6_10⟩,⟨⟨60,r6_11⟩,⟨⟨60,r6_12⟩,⟨⟨60,r6_13⟩,⟨⟨60,r6_14⟩,⟨⟨60,r6_15⟩,⟨⟨60,r6_16⟩,⟨⟨60,r6_17⟩,⟨⟨60,r6_18⟩,⟨⟨60,r6_19⟩,⟨⟨60,r6_20⟩,⟨⟨60,r6_21⟩,⟨⟨60,r6_22⟩,⟨⟨60,r6_23⟩,⟨⟨60,r6_24⟩,⟨⟨60,r6_25⟩,⟨⟨60,r6_26⟩,⟨⟨60,r6_27⟩,⟨⟨60,r6_28⟩,⟨⟨60,r6_29⟩,⟨⟨60,r6_30⟩,⟨⟨60,r6_31⟩,⟨⟨60,r6_32⟩,⟨⟨60,r6_33⟩,⟨⟨60,r6_34⟩,⟨⟨60,r6_35⟩,⟨⟨60,r6_36⟩,⟨⟨60,r6_37⟩,⟨⟨60,r6_38⟩,⟨⟨60,r6_39⟩,trivial⟩⟩⟩⟩⟩⟩⟩⟩⟩⟩⟩⟩⟩⟩⟩⟩⟩⟩⟩⟩⟩⟩⟩⟩⟩⟩⟩⟩⟩⟩⟩⟩⟩⟩⟩⟩⟩⟩⟩⟩
def q7_0:List SV×SV:=([.c (.s 1 112)],.c (.s 1 112))
theorem r7_0:aae cy6 60 90 q7_0=true:=by kernel_rfl
def q7_1:List SV×SV:=([.c (.s 3 7367027)],.c (.s 3 7367027))
theorem r7_1:aae cy6 60 90 q7_1=true:=by kernel_rfl
def q7_2:List SV×SV:=([.c (.s 1 104)],.c (.s 1 104))
theorem r7_2:aae cy6 60 90 q7_2=true:=by kernel_rfl
def q7_3:List SV×SV:=([.c (.s 1 97)],.c (.s 1 97))
theorem r7_3:aae cy6 60 90 q7_3=true:=by kernel_rfl
def q7_4:List SV×SV:=([.c (.s 6 114776262931042)],.c (.s 6 114776262931042))
theorem r7_4:aae cy6 60 90 q7_4=true:=by kernel_rfl
def q7_5:List SV×SV:=([.c (.s 8 8668129884480485754)],.c (.s 8 8677137084272097658))
theorem r7_5:aae cy6 60 90 q7_5=true:=by kernel_rfl
def q7_6:List SV×SV:=([.c (.s 3 6775156)],.c (.s 3 6775156))
theorem r7_6:aae cy6 60 90 q7_6=true:=by kernel_rfl
def q7_7:List SV×SV:=([.c (.s 2 14192)],.c (.s 2 14192))
theorem r7_7:aae cy6 60 90 q7_7=true:=by kernel_rfl
def q7_8:List SV×SV:=([.c (.s 1 99)],.c (.s 1 99))
theorem r7_8:aae cy6 60 90 q7_8=true:=by kernel_rfl
def q7_9:List SV×SV:=([.c (.s 25 321535321445542904767091490043379571396592080599487233931642)],.c (.s 25 321535321445542904767091490043379571396592089606687025543546))
theorem r7_9:aae cy6 60 90 q7_9=true:=by kernel_rfl
def q7_10:List SV×SV:=([.c (.s 1 100)],.c (.s 1 100))
theorem r7_10:aae cy6 60 90 q7_10=true:=by kernel_rfl
def q7_11:List SV×SV:=([.c (.s 27 21072138826255099806816107891482923591047024981108319908683856250)],.c (.s 27 21072138826255099806816107891482923591047024981117327108475468154))
theorem r7_11:aae cy6 60 90 q7_11=true:=by kernel_rfl
def q7_12:List SV×SV:=([.c (.s 27 21072138826255099806816107891482923591047029703474802778329069946)],.c (.s 27 21072138826255099806816107891482923591047029703483809978120681850))
theorem r7_12:aae cy6 60 90 q7_12=true:=by kernel_rfl
noncomputable def cy7:Cx:=cy6.memo 90 [q7_0,q7_1,q7_2,q7_3,q7_4,q7_5,q7_6,q7_7,q7_8,q7_9,q7_10,q7_11,q7_12]
theorem cy7_ok:Cok cy7 Gl/\Xok cy7 Gl:=aap cy6_ok ⟨⟨60,r7_0⟩,⟨⟨60,r7_1⟩,⟨⟨60,r7_2⟩,⟨⟨60,r7_3⟩,⟨⟨60,r7_4⟩,⟨⟨60,r7_5⟩,⟨⟨60,r7_6⟩,⟨⟨60,r7_7⟩,⟨⟨60,r7_8⟩,⟨⟨60,r7_9⟩,⟨⟨60,r7_10⟩,⟨⟨60,r7_11⟩,⟨⟨60,r7_12⟩,trivial⟩⟩⟩⟩⟩⟩⟩⟩⟩⟩⟩⟩⟩
def q8_0:List SV×SV:=([.c (.s 1 112)],.t [.c (.s 1 112),.c (.b true)])
theorem r8_0:aae cy7 60 88 q8_0=true:=by kernel_rfl
def q8_1:List SV×SV:=([.c (.s 1 104)],.t [.c (.s 1 104),.c (.b true)])
theorem r8_1:aae cy7 60 88 q8_1=true:=by kernel_rfl
def q8_2:List SV×SV:=([.c (.s 1 97)],.t [.c (.s 1 97),.c (.b true)])
theorem r8_2:aae cy7 60 88 q8_2=true:=by kernel_rfl
def q8_3:List SV×SV:=([.c (.s 8 8668129884480485754)],.t [.c (.s 8 8677137084272097658),.c (.b true)])
theorem r8_3:aae cy7 60 88 q8_3=true:=by kernel_rfl
def q8_4:List SV×SV:=([.c (.s 1 49)],.t [.c (.s 0 0),.c (.b false)])
theorem r8_4:aae cy7 60 88 q8_4=true:=by kernel_rfl
def q8_5:List SV×SV:=([.c (.s 2 14192)],.t [.c (.s 2 14192),.c (.b true)])
theorem r8_5:aae cy7 60 88 q8_5=true:=by kernel_rfl
def q8_6:List SV×SV:=([.c (.s 1 99)],.t [.c (.s 1 99),.c (.b true)])
theorem r8_6:aae cy7 60 88 q8_6=true:=by kernel_rfl
def q8_7:List SV×SV:=([.c (.s 25 321535321445542904767091490043379571396592080599487233931642)],.t [.c (.s 25 321535321445542904767091490043379571396592089606687025543546),.c (.b true)])
theorem r8_7:aae cy7 60 88 q8_7=true:=by kernel_rfl
def q8_8:List SV×SV:=([.c (.s 1 100)],.t [.c (.s 1 100),.c (.b true)])
theorem r8_8:aae cy7 60 88 q8_8=true:=by kernel_rfl
def q8_9:List SV×SV:=([.c (.s 27 21072138826255099806816107891482923591047024981108319908683856250)],.t [.c (.s 27 21072138826255099806816107891482923591047024981117327108475468154),.c (.b true)])
theorem r8_9:aae cy7 60 88 q8_9=true:=by kernel_rfl
def q8_10:List SV×SV:=([.c (.s 27 21072138826255099806816107891482923591047029703474802778329069946)],.t [.c (.s 27 21072138826255099806816107891482923591047029703483809978120681850),.c (.b true)])
theorem r8_10:aae cy7 60 88 q8_10=true:=by kernel_rfl
noncomputable def cy8:Cx:=cy7.memo 88 [q8_0,q8_1,q8_2,q8_3,q8_4,q8_5,q8_6,q8_7,q8_8,q8_9,q8_10]
theorem cy8_ok:Cok cy8 Gl/\Xok cy8 Gl:=aap cy7_ok ⟨⟨60,r8_0⟩,⟨⟨60,r8_1⟩,⟨⟨60,r8_2⟩,⟨⟨60,r8_3⟩,⟨⟨60,r8_4⟩,⟨⟨60,r8_5⟩,⟨⟨60,r8_6⟩,⟨⟨60,r8_7⟩,⟨⟨60,r8_8⟩,⟨⟨60,r8_9⟩,⟨⟨60,r8_10⟩,trivial⟩⟩⟩⟩⟩⟩⟩⟩⟩⟩⟩
def q9_0:List SV×SV:=([.c (.s 5 435745550162)],.t [.c (.s 5 435745550162),.c (.i .u8 0)])
theorem r9_0:aae cy8 60 198 q9_0=true:=by kernel_rfl
def q9_1:List SV×SV:=([.c (.s 3 6383958)],.t [.c (.s 3 6383958),.c (.i .u8 0)])
theorem r9_1:aae cy8 60 198 q9_1=true:=by kernel_rfl
def q9_2:List SV×SV:=([.c (.s 4 1836020294)],.t [.c (.s 4 1836020294),.c (.i .u8 0)])
theorem r9_2:aae cy8 60 198 q9_2=true:=by kernel_rfl
def q9_3:List SV×SV:=([.c (.s 2 28500)],.t [.c (.s 2 28500),.c (.i .u8 0)])
theorem r9_3:aae cy8 60 198 q9_3=true:=by kernel_rfl
def q9_4:List SV×SV:=([.c (.s 7 19220757857722691)],.t [.c (.s 7 19220757857722691),.c (.i .u8 0)])
theorem r9_4:aae cy8 60 198 q9_4=true:=by kernel_rfl
def q9_5:List SV×SV:=([.c (.s 4 1902465859)],.t [.c (.s 4 1902465859),.c (.i .u8 0)])
theorem r9_5:aae cy8 60 198 q9_5=true:=by kernel_rfl
def q9_6:List SV×SV:=([.c (.s 12 35712208859136432295261004109)],.t [.c (.s 12 35712208859136432295261004109),.c (.i .u8 0)])
theorem r9_6:aae cy8 60 198 q9_6=true:=by kernel_rfl
def q9_7:List SV×SV:=([.c (.s 14 2118593076047644386086300223958851)],.t [.c (.s 14 2118593076047644386086300223958851),.c (.i .u8 0)])
theorem r9_7:aae cy8 60 198 q9_7=true:=by kernel_rfl
noncomputable def cy9:Cx:=cy8.memo 198 [q9_0,q9_1,q9_2,q9_3,q9_4,q9_5,q9_6,q9_7]
theorem cy9_ok:Cok cy9 Gl/\Xok cy9 Gl:=aap cy8_ok ⟨⟨60,r9_0⟩,⟨⟨60,r9_1⟩,⟨⟨60,r9_2⟩,⟨⟨60,r9_3⟩,⟨⟨60,r9_4⟩,⟨⟨60,r9_5⟩,⟨⟨60,r9_6⟩,⟨⟨60,r9_7⟩,trivial⟩⟩⟩⟩⟩⟩⟩⟩
def q10_0:List SV×SV:=([.c (.s 5 435745550162)],.c (.b true))
theorem r10_0:aae cy9 60 115 q10_0=true:=by kernel_rfl
def q10_1:List SV×SV:=([.c (.s 3 6383958)],.c (.b true))
theorem r10_1:aae cy9 60 115 q10_1=true:=by kernel_rfl
def q10_2:List SV×SV:=([.c (.s 4 1836020294)],.c (.b false))
theorem r10_2:aae cy9 60 115 q10_2=true:=by kernel_rfl
def q10_3:List SV×SV:=([.c (.s 2 28500)],.c (.b false))
theorem r10_3:aae cy9 60 115 q10_3=true:=by kernel_rfl
def q10_4:List SV×SV:=([.c (.s 7 19220757857722691)],.c (.b false))
theorem r10_4:aae cy9 60 115 q10_4=true:=by kernel_rfl
def q10_5:List SV×SV:=([.c (.s 4 1902465859)],.c (.b false))
theorem r10_5:aae cy9 60 115 q10_5=true:=by kernel_rfl
def q10_6:List SV×SV:=([.c (.s 12 35712208859136432295261004109)],.c (.b false))
theorem r10_6:aae cy9 60 115 q10_6=true:=by kernel_rfl
noncomputable def cy10:Cx:=cy9.memo 115 [q10_0,q10_1,q10_2,q10_3,q10_4,q10_5,q10_6]
theorem cy10_ok:Cok cy10 Gl/\Xok cy10 Gl:=aap cy9_ok ⟨⟨60,r10_0⟩,⟨⟨60,r10_1⟩,⟨⟨60,r10_2⟩,⟨⟨60,r10_3⟩,⟨⟨60,r10_4⟩,⟨⟨60,r10_5⟩,⟨⟨60,r10_6⟩,trivial⟩⟩⟩⟩⟩⟩⟩
def q11_0:List SV×SV:=([.c (.s 5 435745550162)],.c (.b true))
theorem r11_0:aae cy10 60 102 q11_0=true:=by kernel_rfl
def q11_1:List SV×SV:=([.c (.s 3 6383958)],.c (.b true))
theorem r11_1:aae cy10 60 102 q11_1=true:=by kernel_rfl
def q11_2:List SV×SV:=([.c (.s 4 1836020294)],.c (.b true))
theorem r11_2:aae cy10 60 102 q11_2=true:=by kernel_rfl
def q11_3:List SV×SV:=([.c (.s 2 28500)],.c (.b true))
theorem r11_3:aae cy10 60 102 q11_3=true:=by kernel_rfl
def q11_4:List SV×SV:=([.c (.s 7 19220757857722691)],.c (.b true))
theorem r11_4:aae cy10 60 102 q11_4=true:=by kernel_rfl
def q11_5:List SV×SV:=([.c (.s 4 1902465859)],.c (.b true))
theorem r11_5:aae cy10 60 102 q11_5=true:=by kernel_rfl
def q11_6:List SV×SV:=([.c (.s 12 35712208859136432295261004109)],.c (.b true))
theorem r11_6:aae cy10 60 102 q11_6=true:=by kernel_rfl
def q11_7:List SV×SV:=([.c (.s 6 76228309962313)],.c (.b true))
theorem r11_7:aae cy10 60 102 q11_7=true:=by kernel_rfl
def q11_8:List SV×SV:=([.c (.s 3 5260373)],.c (.b true))
theorem r11_8:aae cy10 60 102 q11_8=true:=by kernel_rfl
def q11_9:List SV×SV:=([.c (.s 6 114776262931042)],.c (.b true))
theorem r11_9:aae cy10 60 102 q11_9=true:=by kernel_rfl
def q11_10:List SV×SV:=([.c (.s 8 8668129884480485754)],.c (.b true))
theorem r11_10:aae cy10 60 102 q11_10=true:=by kernel_rfl
def q11_11:List SV×SV:=([.c (.s 3 6775156)],.c (.b true))
theorem r11_11:aae cy10 60 102 q11_11=true:=by kernel_rfl
def q11_12:List SV×SV:=([.c (.s 1 49)],.c (.b true))
theorem r11_12:aae cy10 60 102 q11_12=true:=by kernel_rfl
def q11_13:List SV×SV:=([.c (.s 2 14192)],.c (.b true))
theorem r11_13:aae cy10 60 102 q11_13=true:=by kernel_rfl
def q11_14:List SV×SV:=([.c (.s 25 321535321445542904767091490043379571396592080599487233931642)],.c (.b true))
theorem r11_14:aae cy10 60 102 q11_14=true:=by kernel_rfl
def q11_15:List SV×SV:=([.c (.s 27 21072138826255099806816107891482923591047024981108319908683856250)],.c (.b true))
theorem r11_15:aae cy10 60 102 q11_15=true:=by kernel_rfl
def q11_16:List SV×SV:=([.c (.s 27 21072138826255099806816107891482923591047029703474802778329069946)],.c (.b true))
theorem r11_16:aae cy10 60 102 q11_16=true:=by kernel_rfl
def q11_17:List SV×SV:=([.c (.s 14 2118593076047644386086300223958851)],.c (.b true))
theorem r11_17:aae cy10 60 102 q11_17=true:=by kernel_rfl
noncomputable def cy11:Cx:=cy10.memo 102 [q11_0,q11_1,q11_2,q11_3,q11_4,q11_5,q11_6,q11_7,q11_8,q11_9,q11_10,q11_11,q11_12,q11_13,q11_14,q11_15,q11_16,q11_17]
theorem cy11_ok:Cok cy11 Gl/\Xok cy11 Gl:=aap cy10_ok ⟨⟨60,r11_0⟩,⟨⟨60,r11_1⟩,⟨⟨60,r11_2⟩,⟨⟨60,r11_3⟩,⟨⟨60,r11_4⟩,⟨⟨60,r11_5⟩,⟨⟨60,r11_6⟩,⟨⟨60,r11_7⟩,⟨⟨60,r11_8⟩,⟨⟨60,r11_9⟩,⟨⟨60,r11_10⟩,⟨⟨60,r11_11⟩,⟨⟨60,r11_12⟩,⟨⟨60,r11_13⟩,⟨⟨60,r11_14⟩,⟨⟨60,r11_15⟩,⟨⟨60,r11_16⟩,⟨⟨60,r11_17⟩,trivial⟩⟩⟩⟩⟩⟩⟩⟩⟩⟩⟩⟩⟩⟩⟩⟩⟩⟩
def q12_0:List SV×SV:=([.c (.s 3 6383958),.c (.s 34 3565861807091194644813620486270233279432126157918586626122231676098622000030828883)],.t [.c (.s 34 3565861807091194644813620486270233279432126157918586626122231676098622000030828883),.c (.i .u8 0)])
theorem r12_0:aae cy11 60 297 q12_0=true:=by kernel_rfl
def q12_1:List SV×SV:=([.c (.s 4 1836020294),.c (.s 15 255667963715329393499128849192547132)],.t [.c (.s 15 255667963715329393499128849192547132),.c (.i .u8 0)])
theorem r12_1:aae cy11 60 297 q12_1=true:=by kernel_rfl
def q12_2:List SV×SV:=([.c (.s 2 28500),.c (.s 9 1151210244751579771708)],.t [.c (.s 9 1151210244751579771708),.c (.i .u8 0)])
theorem r12_2:aae cy11 60 297 q12_2=true:=by kernel_rfl
def q12_3:List SV×SV:=([.c (.s 7 19220757857722691),.c (.s 1 99)],.t [.c (.s 1 99),.c (.i .u8 0)])
theorem r12_3:aae cy11 60 297 q12_3=true:=by kernel_rfl
def q12_4:List SV×SV:=([.c (.s 4 1902465859),.c (.s 8 4995698521690153009)],.t [.c (.s 8 4995698521690153009),.c (.i .u8 0)])
theorem r12_4:aae cy11 60 297 q12_4=true:=by kernel_rfl
def q12_5:List SV×SV:=([.c (.s 12 35712208859136432295261004109),.c (.s 1 53)],.t [.c (.s 1 53),.c (.i .u8 0)])
theorem r12_5:aae cy11 60 297 q12_5=true:=by kernel_rfl
def q12_6:List SV×SV:=([.c (.s 2 28500),.c (.s 16 73690322433973396543805939532863992636)],.t [.c (.s 16 73690322433973396543805939532863992636),.c (.i .u8 0)])
theorem r12_6:aae cy11 60 297 q12_6=true:=by kernel_rfl
noncomputable def cy12:Cx:=cy11.memo 297 [q12_0,q12_1,q12_2,q12_3,q12_4,q12_5,q12_6]
theorem cy12_ok:Cok cy12 Gl/\Xok cy12 Gl:=aap cy11_ok ⟨⟨60,r12_0⟩,⟨⟨60,r12_1⟩,⟨⟨60,r12_2⟩,⟨⟨60,r12_3⟩,⟨⟨60,r12_4⟩,⟨⟨60,r12_5⟩,⟨⟨60,r12_6⟩,trivial⟩⟩⟩⟩⟩⟩⟩
def q13_0:List SV×SV:=([.c (.s 3 6383958),.c (.s 53 8668575117776974072181795904085234762672281142353026928058466918024307043989594588533323241664066091863864076490184756720322899)],.t [.c (.s 53 8668575117776974072181795904085234762672281142353026928058466918024307043989594588533323241664066091863864076490184756720322899),.c (.i .u8 0)])
theorem r13_0:aae cy12 60 238 q13_0=true:=by kernel_rfl
def q13_1:List SV×SV:=([.c (.s 3 6383958),.c (.s 34 3565861807091194644813620486270233279432126157918586626122231676098622000030828883)],.t [.c (.s 34 3565861807091194644813620486270233279432126157918586626122231676098622000030828883),.c (.i .u8 0)])
theorem r13_1:aae cy12 60 238 q13_1=true:=by kernel_rfl
def q13_2:List SV×SV:=([.c (.s 4 1836020294),.c (.s 15 255667963715329393499128849192547132)],.t [.c (.s 15 255667963715329393499128849192547132),.c (.i .u8 0)])
theorem r13_2:aae cy12 60 238 q13_2=true:=by kernel_rfl
def q13_3:List SV×SV:=([.c (.s 2 28500),.c (.s 9 1151210244751579771708)],.t [.c (.s 9 1151210244751579771708),.c (.i .u8 0)])
theorem r13_3:aae cy12 60 238 q13_3=true:=by kernel_rfl
def q13_4:List SV×SV:=([.c (.s 7 19220757857722691),.c (.s 1 99)],.t [.c (.s 1 99),.c (.i .u8 0)])
theorem r13_4:aae cy12 60 238 q13_4=true:=by kernel_rfl
def q13_5:List SV×SV:=([.c (.s 4 1902465859),.c (.s 8 4995698521690153009)],.t [.c (.s 8 4995698521690153009),.c (.i .u8 0)])
theorem r13_5:aae cy12 60 238 q13_5=true:=by kernel_rfl
def q13_6:List SV×SV:=([.c (.s 12 35712208859136432295261004109),.c (.s 1 52)],.t [.c (.s 1 52),.c (.i .u8 0)])
theorem r13_6:aae cy12 60 238 q13_6=true:=by kernel_rfl
def q13_7:List SV×SV:=([.c (.s 3 6383958),.c (.s 89 10124243933127310110135882475283831834507400816643902617740185303710607820388165652121386968578724025291966443173283541656322677168986795060538858290136676819880203941079420898452286334195819188854966295795373984083)],.t [.c (.s 89 10124243933127310110135882475283831834507400816643902617740185303710607820388165652121386968578724025291966443173283541656322677168986795060538858290136676819880203941079420898452286334195819188854966295795373984083),.c (.i .u8 0)])
theorem r13_7:aae cy12 60 238 q13_7=true:=by kernel_rfl
def q13_8:List SV×SV:=([.c (.s 2 28500),.c (.s 15 603551853237162844610673202761921340)],.t [.c (.s 15 603551853237162844610673202761921340),.c (.i .u8 0)])
theorem r13_8:aae cy12 60 238 q13_8=true:=by kernel_rfl
def q13_9:List SV×SV:=([.c (.s 3 6383958),.c (.s 53 8668575117776974072181795904085234762672283085021919153787537837486213867508501230940162293803587343676273815394469961928821075)],.t [.c (.s 53 8668575117776974072181795904085234762672283085021919153787537837486213867508501230940162293803587343676273815394469961928821075),.c (.i .u8 0)])
theorem r13_9:aae cy12 60 238 q13_9=true:=by kernel_rfl
def q13_10:List SV×SV:=([.c (.s 3 6383958),.c (.s 89 10124243933127310110135882475283831834507400816643902617740185303710607820388165652121386968578724025291966443173283541656322677170929463952764587361056138726703722847721827737504425855447631598593870581000582482259)],.t [.c (.s 89 10124243933127310110135882475283831834507400816643902617740185303710607820388165652121386968578724025291966443173283541656322677170929463952764587361056138726703722847721827737504425855447631598593870581000582482259),.c (.i .u8 0)])
theorem r13_10:aae cy12 60 238 q13_10=true:=by kernel_rfl
def q13_11:List SV×SV:=([.c (.s 12 35712208859136432295261004109),.c (.s 1 53)],.t [.c (.s 1 53),.c (.i .u8 0)])
theorem r13_11:aae cy12 60 238 q13_11=true:=by kernel_rfl
noncomputable def cy13:Cx:=cy12.memo 238 [q13_0,q13_1,q13_2,q13_3,q13_4,q13_5,q13_6,q13_7,q13_8,q13_9,q13_10,q13_11]
theorem cy13_ok:Cok cy13 Gl/\Xok cy13 Gl:=aap cy12_ok ⟨⟨60,r13_0⟩,⟨⟨60,r13_1⟩,⟨⟨60,r13_2⟩,⟨⟨60,r13_3⟩,⟨⟨60,r13_4⟩,⟨⟨60,r13_5⟩,⟨⟨60,r13_6⟩,⟨⟨60,r13_7⟩,⟨⟨60,r13_8⟩,⟨⟨60,r13_9⟩,⟨⟨60,r13_10⟩,⟨⟨60,r13_11⟩,trivial⟩⟩⟩⟩⟩⟩⟩⟩⟩⟩⟩⟩
def q14_0:List SV×SV:=([.c (.s 3 6383958),.c (.s 53 8668575117776974072181795904085234762672281142353026928058466918024307043989594588533323241664066091863864076490184756720322899)],.t [.c (.s 53 8668575117776974072181795904085234762672281142353026928058466918024307043989594588533323241664066091863864076490184756720322899),.c (.i .u8 0)])
theorem r14_0:aae cy13 60 320 q14_0=true:=by kernel_rfl
def q14_1:List SV×SV:=([.c (.s 3 6383958),.c (.s 34 3565861807091194644813620486270233279432126157918586626122231676098622000030828883)],.t [.c (.s 34 3565861807091194644813620486270233279432126157918586626122231676098622000030828883),.c (.i .u8 0)])
theorem r14_1:aae cy13 60 320 q14_1=true:=by kernel_rfl
def q14_2:List SV×SV:=([.c (.s 4 1836020294),.c (.s 15 255667963715329393499128849192547132)],.t [.c (.s 15 255667963715329393499128849192547132),.c (.i .u8 0)])
theorem r14_2:aae cy13 60 320 q14_2=true:=by kernel_rfl
def q14_3:List SV×SV:=([.c (.s 2 28500),.c (.s 9 1151210244751579771708)],.t [.c (.s 9 1151210244751579771708),.c (.i .u8 0)])
theorem r14_3:aae cy13 60 320 q14_3=true:=by kernel_rfl
def q14_4:List SV×SV:=([.c (.s 7 19220757857722691),.c (.s 1 99)],.t [.c (.s 1 99),.c (.i .u8 0)])
theorem r14_4:aae cy13 60 320 q14_4=true:=by kernel_rfl
def q14_5:List SV×SV:=([.c (.s 4 1902465859),.c (.s 8 4995698521690153009)],.t [.c (.s 8 4995698521690153009),.c (.i .u8 0)])
theorem r14_5:aae cy13 60 320 q14_5=true:=by kernel_rfl
def q14_6:List SV×SV:=([.c (.s 12 35712208859136432295261004109),.c (.s 1 52)],.t [.c (.s 1 52),.c (.i .u8 0)])
theorem r14_6:aae cy13 60 320 q14_6=true:=by kernel_rfl
def q14_7:List SV×SV:=([.c (.s 2 28500),.c (.s 15 603551853237162844610673202761921340)],.t [.c (.s 15 603551853237162844610673202761921340),.c (.i .u8 0)])
theorem r14_7:aae cy13 60 320 q14_7=true:=by kernel_rfl
def q14_8:List SV×SV:=([.c (.s 3 6383958),.c (.s 53 8668575117776974072181795904085234762672283085021919153787537837486213867508501230940162293803587343676273815394469961928821075)],.t [.c (.s 53 8668575117776974072181795904085234762672283085021919153787537837486213867508501230940162293803587343676273815394469961928821075),.c (.i .u8 0)])
theorem r14_8:aae cy13 60 320 q14_8=true:=by kernel_rfl
def q14_9:List SV×SV:=([.c (.s 12 35712208859136432295261004109),.c (.s 1 53)],.t [.c (.s 1 53),.c (.i .u8 0)])
theorem r14_9:aae cy13 60 320 q14_9=true:=by kernel_rfl
noncomputable def cy14:Cx:=cy13.memo 320 [q14_0,q14_1,q14_2,q14_3,q14_4,q14_5,q14_6,q14_7,q14_8,q14_9]
theorem cy14_ok:Cok cy14 Gl/\Xok cy14 Gl:=aap cy13_ok ⟨⟨60,r14_0⟩,⟨⟨60,r14_1⟩,⟨⟨60,r14_2⟩,⟨⟨60,r14_3⟩,⟨⟨60,r14_4⟩,⟨⟨60,r14_5⟩,⟨⟨60,r14_6⟩,⟨⟨60,r14_7⟩,⟨⟨60,r14_8⟩,⟨⟨60,r14_9⟩,trivial⟩⟩⟩⟩⟩⟩⟩⟩⟩⟩
def q15_0:List SV×SV:=([.c (.s 9 1151210244751579771708),.c (.s 1 116)],.t [.c (.s 15 603551853237162844610673202761921340),.c (.i .u8 0)])
theorem r15_0:aae cy14 60 67 q15_0=true:=by kernel_rfl
noncomputable def cy15:Cx:=cy14.memo 67 [q15_0]
theorem cy15_ok:Cok cy15 Gl/\Xok cy15 Gl:=aap cy14_ok ⟨⟨60,r15_0⟩,trivial⟩
def q16_0:List SV×SV:=([.c (.s 9 1151210244751579771708)],.c (.s 0 0))
theorem r16_0:aae cy15 60 125 q16_0=true:=by kernel_rfl
def q16_1:List SV×SV:=([.c (.s 15 255667963715329393499128849192547132)],.c (.s 1 49))
theorem r16_1:aae cy15 60 125 q16_1=true:=by kernel_rfl
noncomputable def cy16:Cx:=cy15.memo 125 [q16_0,q16_1]
theorem cy16_ok:Cok cy16 Gl/\Xok cy16 Gl:=aap cy15_ok ⟨⟨60,r16_0⟩,⟨⟨60,r16_1⟩,trivial⟩⟩
noncomputable def cy17:Cx:=cy16.memo 46 []
theorem cy17_ok:Cok cy17 Gl/\Xok cy17 Gl:=aap cy16_ok trivial
def q18_0:List SV×SV:=([.c (.s 15 52917602091688864796433953139485043)],.c (.s 64 5352243160213610737889153729842453507821890504977222825814301598885140658624071741004708371036159343940525099157353825692069888390554141083229220466997090))
theorem r18_0:aae cy17 60 190 q18_0=true:=by kernel_rfl
noncomputable def cy18:Cx:=cy17.memo 190 [q18_0]
theorem cy18_ok:Cok cy18 Gl/\Xok cy18 Gl:=aap cy17_ok ⟨⟨60,r18_0⟩,trivial⟩
end Go.Proofs
