/-
  The law HeaderTagged (part 5 of 8).
-/
import Derived.Test.YtpbfkeakaefenaaGreatDoorTg4
import Derived.Laws.Bits64
set_option linter.unusedVariables false
set_option linter.unusedSimpArgs false
set_option maxRecDepth 20000
set_option maxHeartbeats 1000000
namespace Go.Wk
open Go.Px
open Go.Lib renaming cut → zbg, itoa → zaZ, join → zau
open Int renaming toNat → zaj
open List renaming drop → zax, set → zaE
open Sum renaming elim → zaJ
def L_header_Number(fu:Nat)(a0:Str):Option (Int×UInt8):=
 ((aex fu a0).bind fun(y1:Str)=>((agz fu y1).bind fun(y6:(Int×UInt8))=>some (y6.1,y6.2)))
def aui(fu:Nat)(a3:Str):Option ((Str×(List PQ))×UInt8):=
 ((aex fu a3).bind fun(y4:Str)=>((adq fu y4 (0:Int)).bind fun(y9:Int)=>(if y9=(0:Int)then some ((([]:Str),([]:List PQ)),(5:UInt8))else(((((if y9<(y4.length:Int)then(gd (0≤y9∧y9<(y4.length:Int))<|some (decide ((at_ y4 y9)=(47:UInt8))))else some false)).bind fun(a4:Bool)=>(bif a4 then(gd (aay (y9+(1:Int)))<|((adq fu y4 (y9+(1:Int))).bind fun(a2:Int)=>(gd (aay (y9+(1:Int)))<|(if a2=(y9+(1:Int))then some (.inr ((([]:Str),([]:List PQ)),(5:UInt8)))else some (.inl a2)))))else some (.inl y9)))).bind fun(a5:(Int⊕((Str×(List PQ))×UInt8)))=>zaJ (fun(a0:Int)=>(gd (0≤a0∧a0≤(y4.length:Int))<|((aiz fu (zax (zaj a0) y4)).bind fun(a1:((List PQ)×Int×UInt8))=>(if a1.2.2=(0:UInt8)then(gd (0≤a0∧a0≤(y4.length:Int))<|some ((List.take (zaj a0) y4,a1.1),(0:UInt8)))else some ((([]:Str),([]:List PQ)),a1.2.2))))) (fun q=>some q) a5))))
def ash(fu:Nat)(a0:(Str×(List PQ))):Option (Str×UInt8):=
 (gd (a0.1.length≤1000000000)<|((((aft fu ((zbg a0.1 ([47]:Str)).1)).bind fun(a2:Bool)=>(bif (!a2)then some true else(bif ((zbg a0.1 ([47]:Str)).2.2)then((aft fu ((zbg a0.1 ([47]:Str)).2.1)).bind fun(a3:Bool)=>some (!a3))else some false)))).bind fun(a4:Bool)=>(bif a4 then some (([]:Str),(2:UInt8))else((amn fu a0.2).bind fun(a5:List PQ)=>((aeh fu a5).bind fun(a1:(Str×UInt8))=>(if a1.2=(0:UInt8)then(gd (a0.1.length+a1.1.length≤9223372036854775807)<|some (a0.1++a1.1,(0:UInt8)))else some (([]:Str),(2:UInt8))))))))
def auh(fu:Nat)(a8:Str)(a1:Str):Option (Str×UInt8):=
 ((arr fu a8).bind fun(a2:Int)=>(if a2=(1:Int)then(((if a8=([67,111,110,116,97,99,116]:Str)then((aex fu a1).bind fun(b3:Str)=>some (decide (b3=([42]:Str))))else some false)).bind fun(b4:Bool)=>(bif b4 then some (([42]:Str),(0:UInt8))else((afh fu a1).bind fun(a5:((Str×(Str×Str×Str×Int×(List PQ)×(List PQ))×(List PQ))×UInt8))=>(if a5.2=(0:UInt8)then((afp fu a5.1).bind fun(a9:(Str×UInt8))=>some (a9.1,a9.2))else some (([]:Str),a5.2)))))else(if a2=(2:Int)then((L_header_Via fu a1).bind fun(a6:((Str×Str×Int×Str×(List PQ))×UInt8))=>(if a6.2=(0:UInt8)then((atm fu a6.1).bind fun(b0:(Str×UInt8))=>some (b0.1,b0.2))else some (([]:Str),a6.2)))else(if a2=(3:Int)then((aqy fu a1).bind fun(a3:(Int×Str×UInt8))=>(if a3.2.2=(0:UInt8)then(gd (aay a3.1)<|(gd ((zaZ a3.1).length+([32]:Str).length≤9223372036854775807)<|(gd (((zaZ a3.1)++([32]:Str)).length+a3.2.1.length≤9223372036854775807)<|some (((zaZ a3.1)++([32]:Str))++a3.2.1,(0:UInt8)))))else some (([]:Str),a3.2.2)))else(if a2=(4:Int)then((L_header_RAck fu a1).bind fun(a0:(Int×Int×Str×UInt8))=>(if a0.2.2.2=(0:UInt8)then(gd (aay a0.1)<|(gd ((zaZ a0.1).length+([32]:Str).length≤9223372036854775807)<|(gd (aay a0.2.1)<|(gd (((zaZ a0.1)++([32]:Str)).length+(zaZ a0.2.1).length≤9223372036854775807)<|(gd ((((zaZ a0.1)++([32]:Str))++(zaZ a0.2.1)).length+([32]:Str).length≤9223372036854775807)<|(gd (((((zaZ a0.1)++([32]:Str))++(zaZ a0.2.1))++([32]:Str)).length+a0.2.2.1.length≤9223372036854775807)<|some (((((zaZ a0.1)++([32]:Str))++(zaZ a0.2.1))++([32]:Str))++a0.2.2.1,(0:UInt8))))))))else some (([]:Str),a0.2.2.2)))else(if a2=(5:Int)then((L_header_Number fu a1).bind fun(a4:(Int×UInt8))=>(if a4.2=(0:UInt8)then(gd (aay a4.1)<|some (zaZ a4.1,(0:UInt8)))else some (([]:Str),a4.2)))else(((if a2=(6:Int)then some (decide (a2=(6:Int)))else some (decide (a2=(7:Int))))).bind fun(b5:Bool)=>(bif b5 then((aui fu a1).bind fun(a7:((Str×(List PQ))×UInt8))=>(if a7.2=(0:UInt8)then((ash fu a7.1).bind fun(b1:(Str×UInt8))=>some (b1.1,b1.2))else some (([]:Str),a7.2)))else((aex fu a1).bind fun(b2:Str)=>((amw fu b2).bind fun(b6:(Str×UInt8))=>(if b6.2=(0:UInt8)then some (b2,(0:UInt8))else some (([]:Str),(5:UInt8)))))))))))))
def aug(fu:Nat)(s_0:Str)(a1:Int)(a0:Int):Option (Int×Str):=
 ((ajv fu s_0 a1).bind fun(y4:Int)=>(gd (0≤(min y4 a0)∧(min y4 a0)≤a0∧a0≤(s_0.length:Int))<|(gd ((sub s_0 (min y4 a0) a0).length≤1000000000)<|gd (([32,9]:Str).length≤1000∧([32,9]:Str).all (fun b=>decide (b.toNat<128))=true)<|some (min y4 a0,Lib.trimRightS (sub s_0 (min y4 a0) a0) ([32,9]:Str)))))
def L_lexis_Split_lp0B(fu:Nat)(s_0:Str)(a6:UInt8)(a3:(List (Int×Str))→Int→Int→Option (((List (Int×Str))×Int)⊕((List (Int×Str))×Int×UInt8)))(a1:List (Int×Str))(a2:Int)(a0:Int):Option (((List (Int×Str))×Int)⊕((List (Int×Str))×Int×UInt8)):=
 (if a0<(s_0.length:Int)then(gd (0≤a0∧a0<(s_0.length:Int))<|(if(at_ s_0 a0)=(34:UInt8)then((aks fu s_0 a0).bind fun(a4:(Str×Int×UInt8))=>(if a4.2.2=(0:UInt8)then(a3 a1 a2 a4.2.1)else some (.inr (([]:List (Int×Str)),a4.2.1,a4.2.2))))else(if(at_ s_0 a0)=(60:UInt8)then(gd (0≤a0∧a0≤(s_0.length:Int))<|(if(ixb (·==(62:UInt8)) (zax (zaj a0) s_0))<(0:Int)then some (.inr (([]:List (Int×Str)),(s_0.length:Int),(6:UInt8)))else(gd (aay ((ixb (·==(62:UInt8)) (zax (zaj a0) s_0))+(1:Int)))<|(gd (aay (a0+((ixb (·==(62:UInt8)) (zax (zaj a0) s_0))+(1:Int))))<|(a3 a1 a2 (a0+((ixb (·==(62:UInt8)) (zax (zaj a0) s_0))+(1:Int))))))))else(if(at_ s_0 a0)=(62:UInt8)then some (.inr (([]:List (Int×Str)),a0,(5:UInt8)))else(if(at_ s_0 a0)=a6 then((aug fu s_0 a2 a0).bind fun(a5:(Int×Str))=>(gd ((a1.length+([a5]:List (Int×Str)).length)*24≤140737488355328)<|(gd (aay (a0+(1:Int)))<|(a3 (a1++([a5]:List (Int×Str))) (a0+(1:Int)) (a0+(1:Int))))))else(gd (aay (a0+(1:Int)))<|(a3 a1 a2 (a0+(1:Int)))))))))else some (.inl (a1,a2)))
def L_lexis_Split_lp0(fu:Nat)(s_0:Str)(a3:UInt8):Nat→(List (Int×Str))→Int→Int→Option (((List (Int×Str))×Int)⊕((List (Int×Str))×Int×UInt8)):=fun k_ a0 a1 a2=>loopF (fun(g:((List (Int×Str))×Int×Int)→Option (((List (Int×Str))×Int)⊕((List (Int×Str))×Int×UInt8))) v=>L_lexis_Split_lp0B fu s_0 a3 (fun a0 a1 a2=>g (a0,a1,a2)) v.1 v.2.1 v.2.2) k_ (a0,a1,a2)
def L_lexis_Split(fu:Nat)(s_0:Str)(a0:UInt8):Option ((List (Int×Str))×Int×UInt8):=
 ((((ajh fu a0).bind fun(a3:Bool)=>(bif a3 then some true else(if a0=(34:UInt8)then some true else(if a0=(60:UInt8)then some true else some (decide (a0=(62:UInt8)))))))).bind fun(a4:Bool)=>(bif a4 then some (([]:List (Int×Str)),(0:Int),(2:UInt8))else(((L_lexis_Split_lp0 fu s_0 a0 fu ([]:List (Int×Str)) (0:Int) (0:Int))).bind fun(a5:(((List (Int×Str))×Int)⊕((List (Int×Str))×Int×UInt8)))=>zaJ (fun(a1:((List (Int×Str))×Int))=>((aug fu s_0 a1.2 (s_0.length:Int)).bind fun(a2:(Int×Str))=>(gd ((a1.1.length+([a2]:List (Int×Str)).length)*24≤140737488355328)<|some (a1.1++([a2]:List (Int×Str)),(0:Int),(0:UInt8))))) (fun q=>some q) a5)))
def L_header_List_lp0B(fu:Nat)(y1:((List (Int×Str))×Int×UInt8))(a2:(List Str)→Int→Option ((List Str)⊕((List Str)×UInt8)))(a1:List Str)(a0:Int):Option ((List Str)⊕((List Str)×UInt8)):=
 (if a0<(y1.1.length:Int)then(gd (0≤a0∧a0<(y1.1.length:Int))<|(gd (0≤a0∧a0<(y1.1.length:Int))<|(if((el y1.1 a0).2)=([]:Str)then some (.inr (([]:List Str),(5:UInt8)))else(gd ((a1.length+([(el y1.1 a0).2]:List Str).length)*16≤140737488355328)<|(gd (aay (a0+(1:Int)))<|(a2 (a1++([(el y1.1 a0).2]:List Str)) (a0+(1:Int))))))))else some (.inl a1))
def L_header_List_lp0(fu:Nat)(y1:((List (Int×Str))×Int×UInt8)):Nat→(List Str)→Int→Option ((List Str)⊕((List Str)×UInt8)):=fun k_ a0 a1=>loopF (fun(g:((List Str)×Int)→Option ((List Str)⊕((List Str)×UInt8))) v=>L_header_List_lp0B fu y1 (fun a0 a1=>g (a0,a1)) v.1 v.2) k_ (a0,a1)
def L_header_List(fu:Nat)(a0:Str):Option ((List Str)×UInt8):=
 ((L_lexis_Split fu a0 (44:UInt8)).bind fun(y1:((List (Int×Str))×Int×UInt8))=>(if y1.2.2=(0:UInt8)then(((L_header_List_lp0 fu y1 fu ([]:List Str) (0:Int))).bind fun(a1:((List Str)⊕((List Str)×UInt8)))=>zaJ (fun(a2:List Str)=>some (a2,(0:UInt8))) (fun q=>some q) a1)else some (([]:List Str),y1.2.2)))
def L_header_Tidy_lp0B(fu:Nat)(y1:(Str×UInt8))(a3:((List Str)×UInt8))(a4:(List Str)→Int→Option ((List Str)⊕(Str×UInt8)))(a1:List Str)(a0:Int):Option ((List Str)⊕(Str×UInt8)):=
 (if a0<(a3.1.length:Int)then(gd (0≤a0∧a0<(a1.length:Int))<|(gd (0≤a0∧a0<(a1.length:Int))<|((auh fu y1.1 (el a1 a0)).bind fun(a2:(Str×UInt8))=>(gd (0≤a0∧a0<(a1.length:Int))<|(gd (0≤a0∧a0<(a1.length:Int))<|(if a2.2=(0:UInt8)then(gd (aay (a0+(1:Int)))<|(a4 (zaE a1 (zaj a0) a2.1) (a0+(1:Int))))else some (.inr (([]:Str),a2.2))))))))else some (.inl a1))
def L_header_Tidy_lp0(fu:Nat)(y1:(Str×UInt8))(a2:((List Str)×UInt8)):Nat→(List Str)→Int→Option ((List Str)⊕(Str×UInt8)):=fun k_ a0 a1=>loopF (fun(g:((List Str)×Int)→Option ((List Str)⊕(Str×UInt8))) v=>L_header_Tidy_lp0B fu y1 a2 (fun a0 a1=>g (a0,a1)) v.1 v.2) k_ (a0,a1)
def L_header_Tidy(fu:Nat)(a4:Str)(a2:Str):Option (Str×UInt8):=
 ((ast fu a4).bind fun(y1:(Str×UInt8))=>(if y1.2=(0:UInt8)then((L_header_many fu y1.1).bind fun(y7:Bool)=>(bif (!y7)then((auh fu y1.1 a2).bind fun(a3:(Str×UInt8))=>some (a3.1,a3.2))else((L_header_List fu a2).bind fun(a0:((List Str)×UInt8))=>(if a0.2=(0:UInt8)then(((L_header_Tidy_lp0 fu y1 a0 fu a0.1 (0:Int))).bind fun(a5:((List Str)⊕(Str×UInt8)))=>zaJ (fun(a1:List Str)=>(gd (a1.length≤1000000000∧(zau a1 ([44,32]:Str)).length≤100000000000)<|some (zau a1 ([44,32]:Str),(0:UInt8)))) (fun q=>some q) a5)else some (([]:Str),a0.2)))))else some (([]:Str),(5:UInt8))))
def aow(fu:Nat):Option Bool:=
 ((ast fu ([67,65,76,76,45,105,100]:Str)).bind fun(y1:(Str×UInt8))=>((L_header_Tidy fu ([109]:Str) ([66,111,98,60,115,105,112,58,97,64,66,62,32,44,32,60,115,105,112,58,99,59,100,62]:Str)).bind fun(y6:(Str×UInt8))=>((L_header_Via fu ([115,105,112,47,50,46,48,47,117,100,112,32,104,58,53,48,54,48,59,98,114,97,110,99,104,61,122,57]:Str)).bind fun(a0:((Str×Str×Int×Str×(List PQ))×UInt8))=>((aqy fu ([48,48,55,32,73,78,86,73,84,69]:Str)).bind fun(a1:(Int×Str×UInt8))=>(((if y1.2=(0:UInt8)then(if y1.1=([67,97,108,108,45,73,68]:Str)then(if y6.2=(0:UInt8)then(if y6.1=([34,66,111,98,34,32,60,115,105,112,58,97,64,98,62,44,32,60,115,105,112,58,99,59,100,62]:Str)then(if a0.2=(0:UInt8)then(if a0.1.1=([85,68,80]:Str)then(if a0.1.2.1=([104]:Str)then(if a0.1.2.2.1=(5060:Int)then(if a0.1.2.2.2.1=([122,57]:Str)then(if a1.1=(7:Int)then(if a1.2.1=([73,78,86,73,84,69]:Str)then some (decide (a1.2.2=(0:UInt8)))else some false)else some false)else some false)else some false)else some false)else some false)else some false)else some false)else some false)else some false)else some false)).bind fun(a2:Bool)=>some a2)))))
def aqf(fu:Nat)(a1:Str):Option (Str×UInt8):=
 ((afh fu a1).bind fun(y1:((Str×(Str×Str×Str×Int×(List PQ)×(List PQ))×(List PQ))×UInt8))=>(if y1.2=(0:UInt8)then((ams fu y1.1.2.1).bind fun(a0:(Str×UInt8))=>some (a0.1,a0.2))else some (([]:Str),y1.2)))
def ann(fu:Nat)(a0:Str)(a1:Str):Option (Str×Bool):=
 ((afh fu a0).bind fun(y1:((Str×(Str×Str×Str×Int×(List PQ)×(List PQ))×(List PQ))×UInt8))=>(if y1.2=(0:UInt8)then((ajo fu y1.1.2.2 a1).bind fun(a2:(Str×Bool))=>some (a2.1,a2.2))else((aui fu a0).bind fun(a3:((Str×(List PQ))×UInt8))=>(if a3.2=(0:UInt8)then((ajo fu a3.1.2 a1).bind fun(a4:(Str×Bool))=>some (a4.1,a4.2))else some (([]:Str),false)))))
def aqg(fu:Nat)(a0:Str):Option Str:=
 ((afh fu a0).bind fun(y1:((Str×(Str×Str×Str×Int×(List PQ)×(List PQ))×(List PQ))×UInt8))=>(if y1.2=(0:UInt8)then((ajo fu y1.1.2.2 ([116,97,103]:Str)).bind fun(a1:(Str×Bool))=>some a1.1)else some ([]:Str)))
open List renaming set → zaE
def amd(fu:Nat)(a1:List PQ)(a2:Str)(y1:Str)(a3:Int→Option (Unit⊕(List PQ)))(a0:Int):Option (Unit⊕(List PQ)):=
 (if a0<(a1.length:Int)then(gd (0≤a0∧a0<(a1.length:Int))<|(gd (0≤a0∧a0<(a1.length:Int))<|((abn fu ((el a1 a0).1)).bind fun(a4:Str)=>(if a4=y1 then(gd (0≤a0∧a0<(a1.length:Int))<|(gd (0≤a0∧a0<(a1.length:Int))<|(gd (0≤a0∧a0<((zaE a1 (zaj a0) ((el a1 a0).1,a2,((el a1 a0).2.2))).length:Int))<|(gd (0≤a0∧a0<((zaE a1 (zaj a0) ((el a1 a0).1,a2,((el a1 a0).2.2))).length:Int))<|some (.inr (zaE (zaE a1 (zaj a0) ((el a1 a0).1,a2,((el a1 a0).2.2))) (zaj a0) ((el (zaE a1 (zaj a0) ((el a1 a0).1,a2,((el a1 a0).2.2))) a0).1,(el (zaE a1 (zaj a0) ((el a1 a0).1,a2,((el a1 a0).2.2))) a0).2.1,true)))))))else(gd (aay (a0+(1:Int)))<|(a3 (a0+(1:Int))))))))else some (.inl ()))
def anc(fu:Nat)(a1:List PQ)(a2:Str)(y1:Str):Nat→Int→Option (Unit⊕(List PQ)):=fun k_ a0=>loopF (fun(g:Int→Option (Unit⊕(List PQ))) v=>amd fu a1 a2 y1 (fun a0=>g a0) v) k_ a0
theorem ars{fu:Nat}{a0:List PQ}{a1:Str}{y1:Str}{k_:Nat}{a2:Int}:anc fu a0 a1 y1 (k_+1) a2=amd fu a0 a1 y1 (anc fu a0 a1 y1 k_) a2:=rfl
def aqz(fu:Nat)(a0:List PQ)(a2:Str)(a1:Str):Option (List PQ):=
 ((abn fu a2).bind fun(y1:Str)=>(gd ((0+a0.length)*40≤140737488355328)<|(((anc fu a0 a1 y1 fu (0:Int))).bind fun(a3:(Unit⊕(List PQ)))=>zaJ (fun(a4:Unit)=>(gd ((a0.length+([(y1,a1,true)]:List PQ).length)*40≤140737488355328)<|some (a0++([(y1,a1,true)]:List PQ)))) (fun q=>some q) a3)))
def akf(fu:Nat)(a2:Str)(a3:Str):Option Bool:=
 ((afh fu a2).bind fun(y1:((Str×(Str×Str×Str×Int×(List PQ)×(List PQ))×(List PQ))×UInt8))=>((aqf fu a2).bind fun(a1:(Str×UInt8))=>(if y1.2=(0:UInt8)then(if a1.2=(0:UInt8)then((aqz fu y1.1.2.2 ([116,97,103]:Str) a3).bind fun(a6:List PQ)=>((afp fu (y1.1.1,y1.1.2.1,a6)).bind fun(a0:(Str×UInt8))=>(((if a0.2=(0:UInt8)then some (decide ((1024:Int)<(a0.1.length:Int)))else some true)).bind fun(a7:Bool)=>(bif a7 then((aow fu).bind fun(a8:Bool)=>some a8)else((aqf fu a0.1).bind fun(a4:(Str×UInt8))=>((ann fu a0.1 ([84,65,71]:Str)).bind fun(a5:(Str×Bool))=>(((if a4.2=(0:UInt8)then(if a4.1=a1.1 then((aqg fu a0.1).bind fun(a9:Str)=>(if a9=a3 then(if a5.1=a3 then(bif a5.2 then((aow fu).bind fun(b0:Bool)=>some b0)else some false)else some false)else some false))else some false)else some false)).bind fun(b1:Bool)=>some b1)))))))else some false)else(((if a1.2=y1.2 then(if a1.1=([]:Str)then((aqg fu a2).bind fun(b2:Str)=>(if b2=([]:Str)then((aow fu).bind fun(b3:Bool)=>some b3)else some false))else some false)else some false)).bind fun(b4:Bool)=>some b4))))
end Go.Wk
set_option maxRecDepth 100000
namespace Go.Wk
open Go.Px
open Int renaming toNat → zaj
open List renaming drop_eq_nil_of_le → zbp, length_append → zac, length_cons → zad, set → zaE
open Nat renaming add_assoc → zaK, add_comm → zaU
open Option renaming bind_some → zaa
def FU:Nat:=18446744073709551616
theorem amu:FU=18446744073709551616:=rfl
theorem at_mid(p:Str)(c:UInt8)(l:Str):at_ (p++c::l) (p.length:Int)=c:=by simp [at_]
theorem set_mid(p:Str)(c x:UInt8)(l:Str):zaE (p++c::l) (zaj (p.length:Int)) x=(p++[x])++l:=by simp
theorem atq(p:Str)(x:UInt8):((p.length:Int)+1)=((p++[x]).length:Int):=by simp
theorem aen(a:Int)(h0:0≤a)(h:a≤9223372036854775807):aay a:=⟨by omega,by omega⟩
theorem char_token(fu:Nat)(c:UInt8):alz fu c=some (aba c):=by
 show alz 0 c=_
 revert c;exact aae _ (by decide+kernel)
theorem tokEnd_lp{fu:Nat}(s:Str)(hs:s.length≤9223372036854775807)(n:Nat):∀(k fk:Nat),k+n=s.length→n<fk→
  acr fu s fk (k:Int)=some ((k+apv aba (s.drop k):Nat):Int):=by
 induction n with
 |zero=>
  intro k fk hk hf
  obtain⟨fk,rfl⟩:=fkx fk
  rw [aib,acn,if_neg omg,zbp omg]
  simp [apv]
 |succ n ih=>
  intro k fk hk hf
  obtain⟨fk,rfl⟩:=fkx fk
  rw [aib,acn,if_pos omg,aab omg,char_token,drop_at s k omg]
  simp only [zaa]
  cases h:aba (at_ s k)
  ·simp [apv,h]
  ·rw [cond_true]
   rw [aab (aen _ omg omg)]
   have e:((k:Int)+1)=((k+1:Nat):Int):=rfl
   rw [e,ih (k+1) fk omg omg]
   have e2:apv aba (at_ s k::s.drop (k+1))=1+apv aba (s.drop (k+1)):=by simp [apv,h,zaU]
   rw [e2,zaK]
theorem skipTok_eq(s:Str)(hs:s.length≤9223372036854775807)(i:Int):adp FU s i=some ((aax aba s i:Nat):Int):=by
 unfold adp aax
 have h:min (max i 0) (s.length:Int)=((aou i s.length:Nat):Int):=by unfold aou;omega
 have:=clampN_le i s.length
 rw [h,tokEnd_lp s hs (s.length-aou i s.length) _ FU omg (by rw [amu];omega)]
 rfl
theorem tok_cases(s:Str):(if s=[]then some false else some (decide (((aax aba s 0:Nat):Int)=(s.length:Int))))=some (aqq s):=by
 have:=tok_iff s
 by_cases h:s=[]
 ·subst h;rfl
 ·rw [if_neg h];congr 1
  by_cases h2:((aax aba s 0:Nat):Int)=(s.length:Int)
  ·rw [decide_eq_true h2,this.1 ⟨h,h2⟩]
  ·rw [decide_eq_false h2]
   cases h3:aqq s
   ·rfl
   ·exact absurd (this.2 h3).2 h2
theorem token_eq(s:Str)(hs:s.length≤9223372036854775807):aft FU s=some (aqq s):=by
 unfold aft adq
 rw [skipTok_eq s hs]
 simp only [zaa,Option.bind_fun_some]
 exact tok_cases s
theorem mid_lt(p:Str)(c:UInt8)(l:Str):(0:Int)≤(p.length:Int)∧(p.length:Int)<((p++c::l).length:Int):=by
 rw [zac,zad];omega
theorem lowerB_up(c:UInt8)(h1:65≤c)(h2:c≤90):c+32=aer c:=by simp [aer,h1,h2]
theorem lowerB_no(c:UInt8)(h:¬(65≤c∧c≤90)):aer c=c:=by simp only [aer,if_neg h]
open Bool renaming and_eq_true → zak, not_true → zaC
open Go.Lib renaming trimLeftS → zbn
open List renaming all_cons → zbh, cons_append → zaY, length_cons → zad
open Sum renaming elim → zaJ, elim_inl → zaI
theorem gok{α:Type}{p:Prop}[Decidable p]{k:Option α}(h:p:=by first|omega|exact aen _ omg omg|(simp only [List.length_append,List.length_cons,List.length_nil,List.length_singleton];omega)):gd p k=k:=aab h
theorem agc(k:Nat):(k:Int)+1=((k+1:Nat):Int):=rfl
theorem skip_gen(p:UInt8→Bool)(s:Str)(F:Nat→Int→Option Int)
  (h0:∀fk,F (fk+1) (s.length:Int)=some (s.length:Int))
  (h1:∀fk (k:Nat),k<s.length→p (at_ s k)=false→F (fk+1) (k:Int)=some (k:Int))
  (h2:∀fk (k:Nat),k<s.length→p (at_ s k)=true→F (fk+1) (k:Int)=F fk ((k:Int)+1)) (n:Nat):
  ∀(k fk:Nat),k+n=s.length→n<fk→F fk (k:Int)=some ((k+apv p (s.drop k):Nat):Int):=by
 induction n with
 |zero=>
  intro k fk hk hf
  obtain⟨fk,rfl⟩:=fkx fk
  obtain rfl:k=s.length:=by omega
  rw [h0,List.drop_length];rfl
 |succ n ih=>
  intro k fk hk hf
  obtain⟨fk,rfl⟩:=fkx fk
  rw [drop_at s k omg]
  cases h:p (at_ s k)
  ·rw [h1 fk k omg h];simp [apv,h]
  ·rw [h2 fk k omg h,agc,ih (k+1) fk omg omg]
   have e2:apv p (at_ s k::s.drop (k+1))=1+apv p (s.drop (k+1)):=by simp [apv,h,zaU]
   rw [e2,zaK]
theorem clamp_int(i:Int)(n:Nat):min (max i 0) (n:Int)=((aou i n:Nat):Int):=by unfold aou;omega
theorem span_app(p:UInt8→Bool):∀(a b:Str),a.all p=true→apv p (a++b)=a.length+apv p b
 |[],b,_=>by simp
 |c::a,b,h=>by
  rw [zbh,zak]at h
  rw [zaY,apv,if_pos h.1,span_app p a b h.2,zad];omega
theorem span_no(p:UInt8→Bool)(c:UInt8)(l:Str)(h:p c=false):apv p (c::l)=0:=by rw [apv,if_neg (by simp [h])]
theorem char_blank(fu:Nat)(c:UInt8):ajh fu c=some (aah c):=by
 show ajh 0 c=_
 revert c;exact aae _ (by decide+kernel)
theorem char_control(fu:Nat)(c:UInt8):agm fu c=some (aas c):=by
 show agm 0 c=_
 revert c;exact aae _ (by decide+kernel)
theorem char_escaped(fu:Nat)(c:UInt8):ake fu c=some (escapedB c):=by
 show ake 0 c=_
 revert c;exact aae _ (by decide+kernel)
theorem blanks_eq(s:Str)(hs:s.length≤4194304)(i:Int):ajv FU s i=some ((aax aah s i:Nat):Int):=by
 unfold ajv agj
 have hc:=clampN_le i s.length
 rw [clamp_int,skip_gen aah s (acs FU s) ?_ ?_ ?_ (s.length-aou i s.length) _ FU omg (by rw [amu];omega)]
 ·rfl
 ·intro fk;rw [adx,abr,if_neg omg];rfl
 ·intro fk k hk h;rw [adx,abr,if_pos omg,gok,char_blank,h];rfl
 ·intro fk k hk h;rw [adx,abr,if_pos omg,gok,char_blank,h,zaa,zaa,cond_true,gok]
def rdw(p:UInt8→Bool)(l:Str):Str:=(l.reverse.dropWhile p).reverse
theorem rdw_cons(p:UInt8→Bool)(c:UInt8)(l:Str):rdw p (c::l)=if rdw p l=[]then(if p c then []else [c])else c::rdw p l:=by
 unfold rdw
 rw [List.reverse_cons,List.dropWhile_append]
 cases h:l.reverse.dropWhile p with
 |nil=>cases hp:p c<;>simp [hp]
 |cons a t=>simp
theorem rdw_comm(p:UInt8→Bool):∀l:Str,(rdw p l).dropWhile p=rdw p (l.dropWhile p)
 |[]=>rfl
 |c::l=>by
  have ih:=rdw_comm p l
  cases hp:p c
  ·have e:List.dropWhile p (c::l)=c::l:=by simp [hp]
   rw [e,rdw_cons]
   split<;>simp [hp]
  ·have e:List.dropWhile p (c::l)=l.dropWhile p:=by simp [hp]
   rw [e,←ih,rdw_cons]
   split
   ·rename_i h;simp [h,hp]
   ·simp [hp]
def apj(s:Str):Str:=rdw aah (s.dropWhile aah)
theorem blank_set:(fun c=>([32,9]:Str).contains c)=aah:=by
 funext c;revert c;exact aae _ (by decide+kernel)
theorem trimS_eq(s:Str):Lib.trimS s [32,9]=apj s:=by
 unfold Lib.trimS zbn Lib.trimRightS apj
 rw [blank_set];exact rdw_comm aah s
theorem trim_eq(s:Str)(hs:s.length≤4194304):aex FU s=some (apj s):=by
 unfold aex
 rw [gok,aab (by decide),trimS_eq]
theorem skipL_zero(p:UInt8→Bool)(s:Str):aax p s 0=apv p s:=by
 have h0:aou 0 s.length=0:=by unfold aou;omega
 unfold aax;rw [h0];simp
def unqL:Str→Nat→Str→Str×Int×UInt8
 |[],k,_=>([],(k:Int),6)
 |[c],k,acc=>if c=34 then(acc,((k+1:Nat):Int),0)else if c=92 then([],((k+1:Nat):Int),6)else if aas c then([],(k:Int),5)else([],((k+1:Nat):Int),6)
 |c::d::r,k,acc=>
  if c=34 then(acc,((k+1:Nat):Int),0)
  else if c=92 then(if escapedB d then unqL r (k+2) (acc++[d])else([],(k:Int),5))
  else if aas c then([],(k:Int),5)else unqL (d::r) (k+1) (acc++[c])
theorem asw(c:UInt8)(l:Str)(k:Nat)(acc:Str):unqL (c::l) k acc=
  if c=34 then(acc,((k+1:Nat):Int),0)
  else if c=92 then(if l=[]then([],((k+1:Nat):Int),6)else if escapedB (at_ l 0)then unqL (l.drop 1) (k+2) (acc++[at_ l 0])else([],(k:Int),5))
  else if aas c then([],(k:Int),5)else unqL l (k+1) (acc++[c]):=by
 cases l with
 |nil=>simp [unqL]
 |cons d r=>simp [unqL,at_]
def asi(s:Str)(i:Int):Str×Int×UInt8:=
 if i<0∨(s.length:Int)<i then([],0,2)
 else if i=(s.length:Int)∨at_ s i≠34 then([],i,5)
 else unqL (s.drop (i.toNat+1)) (i.toNat+1) []
theorem at_drop1(s:Str)(k:Nat):at_ (s.drop k) 0=at_ s (k:Int):=by simp [at_]
theorem drop_nil_iff(s:Str)(k:Nat):s.drop k=[]↔s.length≤k:=by rw [List.drop_eq_nil_iff]
def unqFin(s:Str)(j:((Str×Int)⊕(Str×Int×UInt8))):Option (Str×Int×UInt8):=
 zaJ (fun(v:(Str×Int))=>(if(s.length:Int)≤v.2 then some (([]:Str),(s.length:Int),(6:UInt8))else(gd (aay (v.2+(1:Int)))<|some (v.1,v.2+(1:Int),(0:UInt8))))) (fun q=>some q) j
theorem unq_lp(s:Str)(hs:s.length≤4194304)(n:Nat):∀(k fk:Nat) (acc:Str),s.length-k≤n→n<fk→k≤s.length→acc.length≤k→
  ((alg FU s fk acc (k:Int)).bind (unqFin s))=some (unqL (s.drop k) k acc):=by
 induction n with
 |zero=>
  intro k fk acc hn hf hk ha
  obtain⟨fk,rfl⟩:=fkx fk
  obtain rfl:k=s.length:=by omega
  rw [amm,agn,if_neg omg,List.drop_length,zaa]
  unfold unqFin
  rw [zaI,if_pos (by simp)];rfl
 |succ n ih=>
  intro k fk acc hn hf hk ha
  obtain⟨fk,rfl⟩:=fkx fk
  by_cases hl:k<s.length
  ·rw [drop_at s k hl,asw,amm,agn,if_pos omg,gok]
   by_cases h1:at_ s (k:Int)=34
   ·rw [if_pos h1,if_pos h1,zaa]
    unfold unqFin
    rw [zaI,if_neg (by simp;omega),aab (aen _ (by simp;omega) (by simp;omega))];rfl
   ·rw [if_neg h1,if_neg h1]
    by_cases h2:at_ s (k:Int)=92
    ·rw [if_pos h2,if_pos h2,gok]
     by_cases h3:k+1=s.length
     ·rw [if_pos omg,if_pos ((drop_nil_iff s (k+1)).2 omg),zaa]
      unfold unqFin
      rw [Sum.elim_inr,h3]
     ·rw [if_neg omg,if_neg (fun h=>h3 (by have:=(drop_nil_iff s (k+1)).1 h;omega)),gok,gok,char_escaped,zaa,at_drop1,agc]
      cases h4:escapedB (at_ s ((k+1:Nat):Int))
      ·rfl
      ·rw [zaC,cond_false,if_pos rfl,gok,gok,gok,gok,List.drop_drop,agc,
        ih (k+1+1) fk _ omg omg omg (by simp;omega)]
    ·rw [if_neg h2,if_neg h2,char_control,zaa]
     cases h4:aas (at_ s (k:Int))
     ·rw [cond_false,if_neg (by decide),gok,gok,gok,agc,ih (k+1) fk _ omg omg omg (by simp;omega)]
     ·rfl
  ·obtain rfl:k=s.length:=by omega
   rw [amm,agn,if_neg omg,List.drop_length,zaa]
   unfold unqFin
   rw [zaI,if_pos (by simp)];rfl
theorem unquote_eq(s:Str)(hs:s.length≤4194304)(i:Int):aks FU s i=some (asi s i):=by
 unfold aks asi
 by_cases h1:i<0
 ·rw [if_pos h1,if_pos (show i<0∨(s.length:Int)<i from .inl h1)];rfl
 ·rw [if_neg h1,zaa]
  by_cases h2:(s.length:Int)<i
  ·rw [decide_eq_true h2,if_pos (show i<0∨(s.length:Int)<i from .inr h2)];rfl
  ·rw [decide_eq_false h2,cond_false,if_neg (show¬(i<0∨(s.length:Int)<i)by omega)]
   by_cases h3:i=(s.length:Int)
   ·rw [if_pos h3,if_pos (show i=(s.length:Int)∨at_ s i≠34 from .inl h3)];rfl
   ·rw [if_neg h3,gok,zaa]
    by_cases h4:at_ s i=34
    ·rw [decide_eq_true h4,zaC,cond_false,if_neg (by simp [h3,h4]),gok]
     obtain⟨k,rfl⟩:∃k:Nat,i=(k:Int):=⟨i.toNat,by omega⟩
     exact unq_lp s hs s.length (k+1) FU [] omg (by rw [amu];omega) omg (by simp)
    ·rw [decide_eq_false h4,if_pos (show i=(s.length:Int)∨at_ s i≠34 from .inr h4)];rfl
open List renaming all_cons → zbh, drop_zero → zbu, length_append → zac, length_cons → zad, length_nil → zal, length_singleton → zae, nil_append → zaB
theorem all_gen{β:Type}(p:UInt8→Bool)(s:Str)(r:β)(F:Nat→Int→Option (Unit⊕β))
  (h0:∀fk,F (fk+1) (s.length:Int)=some (.inl ()))
  (h1:∀fk (k:Nat),k<s.length→p (at_ s k)=false→F (fk+1) (k:Int)=some (.inr r))
  (h2:∀fk (k:Nat),k<s.length→p (at_ s k)=true→F (fk+1) (k:Int)=F fk ((k:Int)+1)) (n:Nat):
  ∀(k fk:Nat),k+n=s.length→n<fk→F fk (k:Int)=some (if(s.drop k).all p=true then .inl ()else .inr r):=by
 induction n with
 |zero=>
  intro k fk hk hf
  obtain⟨fk,rfl⟩:=fkx fk
  obtain rfl:k=s.length:=by omega
  rw [h0,List.drop_length];rfl
 |succ n ih=>
  intro k fk hk hf
  obtain⟨fk,rfl⟩:=fkx fk
  rw [drop_at s k omg,zbh]
  cases h:p (at_ s k)
  ·rw [h1 fk k omg h];rfl
  ·rw [h2 fk k omg h,agc,ih (k+1) fk omg omg];simp
theorem all_gen0{β:Type}(p:UInt8→Bool)(s:Str)(hs:s.length≤4194304)(r:β)(F:Nat→Int→Option (Unit⊕β))
  (h0:∀fk,F (fk+1) (s.length:Int)=some (.inl ()))
  (h1:∀fk (k:Nat),k<s.length→p (at_ s k)=false→F (fk+1) (k:Int)=some (.inr r))
  (h2:∀fk (k:Nat),k<s.length→p (at_ s k)=true→F (fk+1) (k:Int)=F fk ((k:Int)+1)):F FU 0=some (if s.all p=true then .inl ()else .inr r):=by
 have:=all_gen p s r F h0 h1 h2 s.length 0 FU omg (by rw [amu];omega)
 rw [zbu]at this
 exact this
theorem adLower_lp(s:Str)(hs:s.length≤4194304)(l:Str):∀(p:Str) (fk:Nat),p.length+l.length=s.length→l.length<fk→
  alh FU s fk (p++l) (p.length:Int)=some (p++l.map aer):=by
 induction l with
 |nil=>
  intro p fk hk hf
  obtain⟨fk,rfl⟩:=fkx fk
  simp only [zal]at hk
  rw [aqh,akh,if_neg omg];rfl
 |cons c l ih0=>
  intro p fk hk hf
  obtain⟨fk,rfl⟩:=fkx fk
  simp only [zad]at hk hf
  have hb:=mid_lt p c l
  have ih:=ih0 (p++[aer c]) fk (by rw [zac,zae];omega) omg
  have ok:aay ((p.length:Int)+1):=aen _ omg omg
  rw [aqh,akh,if_pos omg]
  simp only [aab hb,at_mid,aab ok,set_mid]
  by_cases h1:65≤c
  ·by_cases h2:c≤90
   ·simp only [if_pos h1,decide_eq_true h2,zaa,cond_true,lowerB_up c h1 h2]
    rw [atq p (aer c),ih];simp
   ·simp only [if_pos h1,decide_eq_false h2,zaa,cond_false]
    rw [lowerB_no c (fun h=>h2 h.2)]at ih
    rw [atq p c,show p++c::l=(p++[c])++l by simp,ih];simp [lowerB_no c (fun h=>h2 h.2)]
  ·simp only [if_neg h1,zaa,cond_false]
   rw [lowerB_no c (fun h=>h1 h.1)]at ih
   rw [atq p c,show p++c::l=(p++[c])++l by simp,ih];simp [lowerB_no c (fun h=>h1 h.1)]
theorem aix(s:Str)(hs:s.length≤4194304):abn FU s=some (aaj s):=by
 unfold abn
 have:=adLower_lp s hs s [] FU (by simp) (by rw [amu];omega)
 simp only [zaB,zal,Int.natCast_zero,Int.cast_ofNat_Int]at this
 rw [this];rfl
theorem ad_letter(c:UInt8):aiy FU c=some (letterB c):=by revert c;exact aae _ (by decide+kernel)
theorem ad_digit(c:UInt8):acl FU c=some (acf c):=by revert c;exact aae _ (by decide+kernel)
theorem ad_hex':∀c:UInt8,(adh FU c).map (·.2)=some (hexB c):=aae _ (by decide+kernel)
theorem ad_hex(c:UInt8):∃v,adh FU c=some (v,hexB c):=by
 obtain⟨⟨v,b⟩,h1,h2⟩:=Option.map_eq_some_iff.1 (ad_hex' c)
 exact⟨v,by rw [h1,←h2]⟩
def psp(y:Str)(l:List Str):List Str:=match l with|x::r=>(y++x)::r|[]=>[y]
theorem ard(c:UInt8)(l:Str):spl c (c::l)=[]::spl c l:=by rw [spl,if_pos rfl]
theorem apl(c b:UInt8)(l:Str)(h:b≠c):spl c (b::l)=psp [b] (spl c l):=by
 rw [spl,if_neg h]
 cases spl c l<;>rfl
theorem sub_self'(s:Str)(k:Nat):sub s (k:Int) (k:Int)=[]:=by unfold sub;simp
open Bool renaming not_false → zaN, not_true → zaC, or_false → zbx
open Go.Lib renaming cut → zbg, index → zaH, join → zau, trimLeftS → zbn
open List renaming length_append → zac, length_cons → zad, length_nil → zal, length_singleton → zae, set → zaE
open Nat renaming le_trans → zaO
open Sum renaming elim_inl → zaI
theorem cnd2{α β:Type}(v:α)(b:Bool)(A B:β):(bif !(v,b).2 then A else B)=bif !b then A else B:=rfl
theorem glist_lp1(l:List Str)(x:Int)(hg:(el l x).length≤4194304):aez FU l x FU 0=some (if(el l x).all hexB=true then .inl ()else .inr ([],false)):=by
 refine all_gen0 hexB (el l x) hg (([]:List Str),false) (aez FU l x) ?_ ?_ ?_
 ·intro fk;rw [ajx,aeg,if_neg omg]
 ·intro fk k hk h
  obtain⟨v,h3⟩:=ad_hex (at_ (el l x) k)
  rw [h]at h3
  rw [ajx,aeg,if_pos omg,gok,h3]
  simp only [zaa,zaN,cond_true]
 ·intro fk k hk h
  obtain⟨v,h3⟩:=ad_hex (at_ (el l x) k)
  rw [h]at h3
  rw [ajx,aeg,if_pos omg,gok,h3,zaa,cnd2,zaC,cond_false,gok]
theorem glist_lp(s:Str)(hs:s.length≤4194304)(n:Nat):∀(k fk:Nat),k+n=(spl 58 s).length→n<fk→((spl 58 s).take k).all aos=true→
  adc FU s fk (ase (spl 58 s) k) (k:Int)=some (if(spl 58 s).all aos=true then .inl ((spl 58 s).map arn)else .inr ([],false)):=by
 have hb:=spl_sum 58 s
 induction n with
 |zero=>
  intro k fk hk hf hp
  obtain⟨fk,rfl⟩:=fkx fk
  obtain rfl:k=(spl 58 s).length:=by omega
  rw [List.take_length]at hp
  rw [ano,agf,if_neg omg,if_pos hp,grpMix_all]
 |succ n ih=>
  intro k fk hk hf hp
  obtain⟨fk,rfl⟩:=fkx fk
  have hlt:k<(spl 58 s).length:=by omega
  have hml:=grpMix_len (spl 58 s) k omg
  have hin:(0:Int)≤(k:Int)∧(k:Int)<((ase (spl 58 s) k).length:Int):=by omega
  have he:=grp_el (spl 58 s) k hlt
  have hel:(el (spl 58 s) (k:Int)).length≤4194304:=zaO (hb.2 _ (el_mem' _ k hlt)) hs
  have fail:aos (el (spl 58 s) (k:Int))=false→(spl 58 s).all aos=false:=fun h=>all_false_at' aos _ k hlt h
  rw [ano,agf,if_pos omg,aab hin,aab hin,he]
  by_cases h1:((el (spl 58 s) (k:Int)).length:Int)<1
  ·rw [if_pos h1,fail (grpOk_no1 _ (.inl h1))];rfl
  ·rw [if_neg h1,zaa]
   by_cases h2:4<((el (spl 58 s) (k:Int)).length:Int)
   ·rw [decide_eq_true h2,fail (grpOk_no1 _ (.inr h2))];rfl
   ·rw [decide_eq_false h2,cond_false,glist_lp1 _ _ (by rw [he];exact hel),he,zaa]
    cases hx:(el (spl 58 s) (k:Int)).all hexB with
    |false=>rw [fail (grpOk_no2 _ hx)];rfl
    |true=>
     have hok:=grpOk_yes _ h1 h2 hx
     rw [if_pos rfl,zaI,aix _ hel,zaa,aab (by simp [aaj];omega),aab (by decide)]
     have step:∀v,v=arn (el (spl 58 s) (k:Int))→adc FU s fk (zaE (ase (spl 58 s) k) (zaj (k:Int)) v) ((k:Int)+1)=some (if(spl 58 s).all aos=true then .inl ((spl 58 s).map arn)else .inr ([],false)):=fun v hv=>by
      rw [←grp_step (spl 58 s) k v hlt hv,agc]
      exact ih (k+1) fk omg omg (all_take_snoc' aos _ k hlt hp hok)
     have ok:aay ((k:Int)+1):=aen _ omg omg
     by_cases hz:zbn (aaj (el (spl 58 s) (k:Int))) [48]=[]
     ·rw [if_pos hz,aab hin,aab hin,zaa,zaI,aab ok,step [48] (grpN_zero _ hz)]
     ·rw [if_neg hz,aab hin,aab hin,zaa,zaI,aab ok,step (zbn (aaj (el (spl 58 s) (k:Int))) [48]) (grpN_else _ hz)]
theorem glist_eq(s:Str)(hs:s.length≤4194304):ady FU s=some (aet s):=by
 have hb:=spl_sum 58 s
 have:=glist_lp s hs (spl 58 s).length 0 FU omg (by rw [amu];omega) rfl
 rw [grpMix_zero]at this
 have this':adc FU s FU (spl 58 s) (0:Int)=_:=this
 unfold ady
 rw [aab omg,this',zaa]
 cases ha:(spl 58 s).all aos with
 |false=>rw [grpList_no s ha];rfl
 |true=>rw [grpList_yes s ha];rfl
theorem glist0(x:Str)(hx:x.length≤4194304):(if x=([]:Str)then some (([]:List Str),true)else((ady FU x).bind fun(y49:((List Str)×Bool))=>some (y49.1,y49.2)))=some (alk x):=by
 by_cases h:x=[]
 ·rw [if_pos h,grpL0_nil x h]
 ·rw [if_neg h,grpL0_else x h,glist_eq x hx];rfl
theorem grpL0_bd(x:Str):(alk x).1.length≤x.length+1∧∀y∈(alk x).1,y.length≤4:=by
 unfold alk
 split
 ·simp
 ·exact ati x
theorem joinL0(x:Str)(h:x.length≤4194304):(zau (alk x).1 [58]).length≤24000000:=by
 have h1:=grpL0_bd x
 have h2:=apx [58] 4 (alk x).1 h1.2
 simp only [zae]at h2
 omega
theorem adGroups_eq(s:Str):ans FU s=some (aor s):=by
 unfold ans aor
 by_cases h39:39<s.length
 ·rw [if_pos omg,if_pos h39]
 ·rw [if_neg omg,if_neg h39,aab omg]
  have hc:=cut_len s [58,58]
  cases hd:(zbg s [58,58]).2.2 with
  |false=>
   have h1:=ati s
   rw [zaN,cond_true,if_pos rfl,glist_eq s omg,zaa,aab ⟨by omega,join_grp s omg⟩]
   cases h2:(aet s).2<;>rfl
  |true=>
   rw [zaC,cond_false,glist0 _ omg,zaa,glist0 _ omg,zaa,if_neg (show¬(true=false)by decide)]
   have b1:=grpL0_bd (zbg s [58,58]).1
   have b2:=grpL0_bd (zbg s [58,58]).2.1
   have j1:=joinL0 (zbg s [58,58]).1 omg
   have j2:=joinL0 (zbg s [58,58]).2.1 omg
   cases h1:(alk (zbg s [58,58]).1).2
   ·simp
   ·cases h2:(alk (zbg s [58,58]).2.1).2
    ·simp
    ·rw [zaC,cond_false,cond_false,gok,zaa,zbx,Bool.false_or]
     by_cases h7:7<((alk (zbg s [58,58]).1).1.length:Int)+((alk (zbg s [58,58]).2.1).1.length:Int)
     ·rw [decide_eq_true h7,if_pos rfl];rfl
     ·rw [decide_eq_false h7,if_neg (by decide),cond_false,aab ⟨by omega,by omega⟩,aab (by simp only [zad,zal];omega),aab ⟨by omega,by omega⟩,aab (by simp only [zac,zad,zal];omega)]
theorem index_ge(p:Str):∀l:Str,-1≤zaH l p
 |[]=>by unfold zaH;split<;>omega
 |b::l=>by
  have:=index_ge p l
  rw [zaH]
  split
  ·omega
  ·split
   ·omega
   ·omega
theorem ath(p:Str)(b:UInt8)(l:Str):zaH (b::l) p=if p.isPrefixOf (b::l)=true then 0 else if zaH l p= -1 then-1 else zaH l p+1:=by
 rw [zaH]
 split
 ·rfl
 ·by_cases h:zaH l p= -1
  ·rw [if_pos h,if_pos (by simpa using h)]
  ·rw [if_neg h,if_neg (by simpa using h)]
theorem cut_eq(s p:Str):zbg s p=if zaH s p= -1 then(s,[],false)else(s.take (zaH s p).toNat,s.drop ((zaH s p).toNat+p.length),true):=by
 unfold zbg
 have:=index_ge p s
 by_cases h:zaH s p= -1
 ·rw [if_pos h,if_neg omg]
 ·rw [if_neg h,if_pos omg]
open Bool renaming not_false → zaN, not_true → zaC, true_and → zaS
open Go.Lib renaming index → zaH, itoa → zaZ
open List renaming all_cons → zbh, any_cons → zbs, append_nil → zam, drop_zero → zbu, eq_nil_of_length_eq_zero → zao, length_append → zac, length_cons → zad, length_drop → zat, length_singleton → zae, length_take → zaP
open Nat renaming le_refl → zap, le_trans → zaO
theorem dig_sub(c:UInt8)(h:acf c=true):(c-48).toNat=c.toNat-48∧c.toNat≤57∧48≤c.toNat:=by
 have hc:=(digitB_iff c).1 h
 have h48:(48:UInt8)≤c:=by rw [UInt8.le_iff_toNat_le];show 48≤c.toNat;omega
 exact⟨by rw [UInt8.toNat_sub_of_le _ _ h48];rfl,by omega,by omega⟩
theorem nums_lp1(s:Str)(x:Int)(hg:(el (spl 46 s) x).length≤15)(l:Str):∀(p:Str) (fk:Nat),el (spl 46 s) x=p++l→l.length<fk→p.all acf=true→
  afw FU s x fk (agy p:Int) (p.length:Int)=some (if l.all acf=true then .inl (agy (el (spl 46 s) x):Int)else .inr false):=by
 induction l with
 |nil=>
  intro p fk h hf hp
  obtain⟨fk,rfl⟩:=fkx fk
  rw [zam]at h
  rw [aoy,aid,if_neg (by rw [h];omega),h];rfl
 |cons c l ih=>
  intro p fk h hf hp
  obtain⟨fk,rfl⟩:=fkx fk
  have hl:=congrArg List.length h
  simp only [zac,zad]at hl hf
  have hb:(0:Int)≤(p.length:Int)∧(p.length:Int)<((el (spl 46 s) x).length:Int):=by omega
  have ha:at_ (el (spl 46 s) x) (p.length:Int)=c:=by rw [h,at_mid]
  have hv:=decVal_lt 14 p omg hp
  rw [aoy,aid,if_pos hb.2,aab hb,ha,ad_digit,zaa,zbh]
  cases hc:acf c with
  |false=>rfl
  |true=>
   have hd:=dig_sub c hc
   rw [zaC,cond_false,hd.1,aab (aen _ omg omg),aab hb,aab (aen _ omg omg),aab (aen _ omg omg),zaS]
   have e:(10:Int)*(agy p:Int)+((c.toNat-48:Nat):Int)=(agy (p++[c]):Int):=by rw [auc];omega
   rw [e,atq p c]
   exact ih (p++[c]) fk (by rw [h];simp) omg (by rw [List.all_append,hp];simpa using hc)
theorem nums_lp(s:Str)(hs:s.length≤15)(n:Nat):∀(k fk:Nat),k+n=(spl 46 s).length→n<fk→
  afx FU s fk (k:Int)=some (if((spl 46 s).drop k).all octOk=true then .inl ()else .inr false):=by
 have hb:=spl_sum 46 s
 induction n with
 |zero=>
  intro k fk hk hf
  obtain⟨fk,rfl⟩:=fkx fk
  obtain rfl:k=(spl 46 s).length:=by omega
  rw [aoz,aie,if_neg omg,List.drop_length];rfl
 |succ n ih=>
  intro k fk hk hf
  obtain⟨fk,rfl⟩:=fkx fk
  have hlt:k<(spl 46 s).length:=by omega
  have hin:(0:Int)≤(k:Int)∧(k:Int)<((spl 46 s).length:Int):=by omega
  have hel:(el (spl 46 s) (k:Int)).length≤15:=zaO (hb.2 _ (el_mem' _ k hlt)) hs
  have hd:(spl 46 s).drop k=el (spl 46 s) (k:Int)::(spl 46 s).drop (k+1):=by rw [el_nat _ _ hlt,List.drop_eq_getElem_cons hlt]
  have h1:=nums_lp1 s (k:Int) hel (el (spl 46 s) (k:Int)) [] FU (by simp) (by rw [amu];omega) rfl
  have h1':afw FU s (k:Int) FU (0:Int) (0:Int)=_:=h1
  rw [aoz,aie,if_pos omg,aab hin,aab hin,h1',zaa,hd,zbh]
  cases hx:(el (spl 46 s) (k:Int)).all acf with
  |false=>rw [octOk_no1 _ hx];rfl
  |true=>
   have hv:=decVal_lt 15 _ hel hx
   rw [if_pos rfl,zaI]
   by_cases h2:el (spl 46 s) (k:Int)=[]
   ·rw [if_pos h2,octOk_no2 _ (.inl (.inl h2))];rfl
   ·rw [if_neg h2]
    by_cases h3:255<(agy (el (spl 46 s) (k:Int)):Int)
    ·rw [if_pos h3,octOk_no2 _ (.inl (.inr h3))];rfl
    ·rw [if_neg h3,aab (aen _ omg omg),zaa]
     by_cases h4:el (spl 46 s) (k:Int)=zaZ (agy (el (spl 46 s) (k:Int)):Int)
     ·rw [decide_eq_true h4,zaC,cond_false,zaa,zaI,aab (aen _ omg omg),octOk_yes _ hx h2 h3 h4,zaS]
      exact ih (k+1) fk omg omg
     ·rw [decide_eq_false h4,octOk_no2 _ (.inr h4)];rfl
theorem adNumbers_eq(s:Str):amz FU s=some (numsP s):=by
 unfold amz
 by_cases h:15<(s.length:Int)
 ·rw [if_pos h,numsP_long s h]
 ·have hb:=spl_sum 46 s
  have:=nums_lp s omg (spl 46 s).length 0 FU omg (by rw [amu];omega)
  rw [zbu]at this
  have this':afx FU s FU (0:Int)=_:=this
  rw [if_neg h,aab omg,this',zaa]
  cases ha:(spl 46 s).all octOk with
  |false=>rw [numsP_no s ha];rfl
  |true=>rw [numsP_fin s h ha];rfl
def labB(c:UInt8):Bool:=letterB c||acf c||c==45
def asm(x:Str):Bool:=decide (1≤x.length)&&decide (x.length≤63)&& !(at_ x 0==45)&& !(at_ x ((x.length:Int)-1)==45)&&x.all labB
def labW(x:Str):Bool:=x.any (fun c=> !acf c)
def badL(x:Str):Bool:=decide ((x.length:Int)<1)||decide (63<(x.length:Int))||(at_ x 0==45)||(at_ x ((x.length:Int)-1)==45)
theorem lab_bad(x:Str):asm x=(!badL x&&x.all labB):=by
 unfold asm badL
 have e1:decide (1≤x.length)= !decide ((x.length:Int)<1):=by rw [Bool.eq_iff_iff];simp;omega
 have e2:decide (x.length≤63)= !decide (63<(x.length:Int)):=by rw [Bool.eq_iff_iff];simp;omega
 rw [e1,e2]
 simp [Bool.not_or,Bool.and_assoc]
theorem badL_eq(x:Str)(hx:x.length≤4194304):(if(x.length:Int)<(1:Int)then some true else(if(63:Int)<(x.length:Int)then some true else(gd (0≤(0:Int)∧(0:Int)<(x.length:Int))<|(if(at_ x (0:Int))=(45:UInt8)then some true else(gd (aay ((x.length:Int)-(1:Int)))<|(gd (0≤((x.length:Int)-(1:Int))∧((x.length:Int)-(1:Int))<(x.length:Int))<|some (decide ((at_ x ((x.length:Int)-(1:Int)))=(45:UInt8)))))))))=some (badL x):=by
 unfold badL
 by_cases h1:(x.length:Int)<1
 ·rw [if_pos h1,decide_eq_true h1];rfl
 ·rw [if_neg h1,decide_eq_false h1,Bool.false_or]
  by_cases h2:63<(x.length:Int)
  ·rw [if_pos h2,decide_eq_true h2];rfl
  ·rw [if_neg h2,decide_eq_false h2,Bool.false_or,aab omg]
   by_cases h3:at_ x 0=45
   ·rw [if_pos h3,show(at_ x 0==45)=true by simpa using h3];rfl
   ·rw [if_neg h3,show(at_ x 0==45)=false by simpa using h3,Bool.false_or,aab (aen _ omg omg),aab omg];rfl
theorem ad_nlab(c:UInt8):((aiy FU c).bind fun(y365:Bool)=>(bif (!y365)then((acl FU c).bind fun(y371:Bool)=>(bif (!y371)then some (!decide (c=(45:UInt8)))else some false))else some false))=some (!labB c):=by
 rw [ad_letter,ad_digit]
 unfold labB
 by_cases h:c=45
 ·subst h;rfl
 ·rw [show(c==45)=false by simpa using h,decide_eq_false h]
  cases letterB c<;>cases acf c<;>rfl
theorem named_lp1(x:Str)(hx:x.length≤4194304)(r:Bool)(l:Str):∀(p:Str) (fk:Nat) (w:Bool),x=p++l→l.length<fk→
  (l.all labB=true→abk FU x r fk (p.length:Int) w=some (0,w||labW l,r))∧(l.all labB=false→∃b,abk FU x r fk (p.length:Int) w=some (1,b,false)):=by
 induction l with
 |nil=>
  intro p fk w h hf
  obtain⟨fk,rfl⟩:=fkx fk
  rw [zam]at h
  refine⟨fun _=> ?_,fun h=>by cases h⟩
  rw [ajw,aef,if_neg (by rw [h];omega)];simp [labW]
 |cons c l ih=>
  intro p fk w h hf
  obtain⟨fk,rfl⟩:=fkx fk
  have hl:=congrArg List.length h
  simp only [zac,zad]at hl hf
  have hb:(0:Int)≤(p.length:Int)∧(p.length:Int)<(x.length:Int):=by omega
  have ha:at_ x (p.length:Int)=c:=by rw [h,at_mid]
  have ok:aay ((p.length:Int)+1):=aen _ omg omg
  have hih:=ih (p++[c]) fk (w|| !acf c) (by rw [h];simp) omg
  rw [←atq p c]at hih
  rw [ajw,aef,if_pos hb.2,aab hb,ha,ad_nlab,zaa,zbh]
  cases hc:labB c with
  |false=>exact⟨fun h=>by simp at h,fun _=>⟨w,by rw [zaN,cond_true]⟩⟩
  |true=>
   rw [zaC,cond_false,zaS]
   have e:(bif w then gd (aay ((p.length:Int)+1)) (abk FU x r fk ((p.length:Int)+1) true)else(acl FU c).bind fun(y388:Bool)=>gd (aay ((p.length:Int)+1)) (abk FU x r fk ((p.length:Int)+1) (!y388)))=abk FU x r fk ((p.length:Int)+1) (w|| !acf c):=by
    cases w with
    |true=>rw [cond_true,aab ok,Bool.true_or]
    |false=>rw [cond_false,ad_digit,zaa,aab ok,Bool.false_or]
   rw [e]
   refine⟨fun h=> ?_,fun h=>hih.2 h⟩
   rw [hih.1 h]
   simp [labW,Bool.or_assoc]
theorem named_rd(x:Str)(hx:x.length≤4194304)(w r:Bool):(asm x=true→ack FU x w r=some (0,w||labW x,r))∧(asm x=false→∃b,ack FU x w r=some (1,b,false)):=by
 have hlp:=named_lp1 x hx r x [] FU w (by simp) (by rw [amu];omega)
 unfold ack
 rw [badL_eq x hx,zaa,lab_bad]
 cases hb:badL x with
 |true=>exact⟨fun h=>by simp at h,fun _=>⟨w,by rw [cond_true]⟩⟩
 |false=>
  rw [cond_false,zaN,zaS]
  exact hlp
theorem index1(c:UInt8)(f:Str):(zaH f [c]= -1∧spl c f=[f])∨(0≤zaH f [c]∧zaH f [c]<(f.length:Int)∧spl c f=f.take (zaH f [c]).toNat::spl c (f.drop ((zaH f [c]).toNat+1))):=by
 induction f with
 |nil=>exact .inl ⟨rfl,rfl⟩
 |cons b l ih=>
  rw [ath]
  have e:([c]:Str).isPrefixOf (b::l)=(c==b):=by simp [List.isPrefixOf]
  rw [e]
  by_cases h:b=c
  ·subst h
   right
   rw [if_pos (by simp),ard]
   refine⟨Int.le_refl _,by simp only [zad];omega,by simp⟩
  ·rw [if_neg (by simpa using fun x=>h x.symm),apl c b l h]
   rcases ih with⟨h1,h2⟩|⟨h1,h2,h3⟩
   ·left;rw [if_pos h1,h2];exact⟨rfl,rfl⟩
   ·right
    rw [if_neg omg,h3]
    have e1:(zaH l [c]+1).toNat=(zaH l [c]).toNat+1:=by omega
    refine⟨by omega,by simp only [zad];omega, ?_⟩
    rw [e1]
    simp [psp]
theorem seq_lp(n:Nat):∀(f:Str) (fk:Nat) (w r:Bool),f.length≤n→n<fk→n≤4194304→
  ∃w' f' k,((abc FU [46] 0 fk w r f).bind fun(j115:((Bool×Bool×Str)⊕(Bool×Bool×Str×Nat)))=>zaJ (fun(v117:(Bool×Bool×Str))=>((ack FU v117.2.2 v117.1 v117.2.1).bind fun(y190:(Nat×Bool×Bool))=>(if y190.1=0 then some (y190.2.1,y190.2.2,v117.2.2,0)else some (y190.2.1,y190.2.2,v117.2.2,y190.1)))) (fun q=>some q) j115)=some (w',(if(spl 46 f).all asm=true then r else false),f',k)∧
   (k=if(spl 46 f).all asm=true then 0 else 1)∧((spl 46 f).all asm=true→w'=(w||(spl 46 f).any labW)):=by
 induction n with
 |zero=>
  intro f fk w r hf hn h20
  obtain⟨fk,rfl⟩:=fkx fk
  obtain rfl:f=[]:=zao omg
  have e:zaH ([]:Str) [46]= -1:=rfl
  rw [ace,aaz,aab (by simp),e,if_pos (by decide),zaa,zaI]
  obtain⟨b,hb⟩:=(named_rd [] (by simp) w r).2 rfl
  simp only
  rw [hb,zaa,if_neg (by simp)]
  exact⟨b,[],1,rfl,rfl,fun h=>absurd h (by decide)⟩
 |succ n ih=>
  intro f fk w r hf hn h20
  obtain⟨fk,rfl⟩:=fkx fk
  rw [ace,aaz,aab omg]
  rcases index1 46 f with⟨h1,h2⟩|⟨h1,h2,h3⟩
  ·rw [if_pos omg,zaa,zaI,h2,zbh,List.all_nil,Bool.and_true]
   simp only
   have hr:=named_rd f omg w r
   cases hl:asm f with
   |true=>
    rw [hr.1 hl,zaa,if_pos rfl]
    exact⟨_,_,0,rfl,rfl,fun _=>by simp⟩
   |false=>
    obtain⟨b,hb⟩:=hr.2 hl
    rw [hb,zaa,if_neg (by simp)]
    exact⟨b,_,1,rfl,rfl,fun h=>by cases h⟩
  ·have e0:zaH f [46]+0=zaH f [46]:=by omega
   have e1:(zaH f [46]+((([46]:Str).length:Nat):Int)).toNat=(zaH f [46]).toNat+1:=by simp only [zae];omega
   rw [if_neg omg,e0,aab (aen _ omg omg),aab omg,h3,zbh]
   have hr:=named_rd (f.take (zaH f [46]).toNat) (by rw [zaP];omega) w r
   cases hl:asm (f.take (zaH f [46]).toNat)with
   |true=>
    rw [hr.1 hl,zaa,if_pos rfl,aab (aen _ (by simp only [zae];omega) (by simp only [zae];omega)),aab (by simp only [zae];omega),e1,zaS]
    obtain⟨w',f',k,g1,g2,g3⟩:=ih (f.drop ((zaH f [46]).toNat+1)) fk (w||labW (f.take (zaH f [46]).toNat)) r (by rw [zat];omega) omg omg
    exact⟨w',f',k,g1,g2,fun h=>by rw [g3 h,zbs,Bool.or_assoc]⟩
   |false=>
    obtain⟨b,hb⟩:=hr.2 hl
    rw [hb,zaa,if_neg (by simp),zaa]
    exact⟨b,_,1,rfl,rfl,fun h=>by cases h⟩
def asy(s:Str):Bool:=decide (1≤s.length)&&decide (s.length≤255)&&(spl 46 s).all asm&&(spl 46 s).any labW
theorem adNamed_eq(s:Str)(hs:s.length≤4194304):aku FU s=some (asy s):=by
 unfold aku asy
 by_cases h1:(s.length:Int)<1
 ·rw [if_pos h1,show decide (1≤s.length)=false by(rw [decide_eq_false_iff_not];omega)];rfl
 ·rw [if_neg h1,show decide (1≤s.length)=true by(rw [decide_eq_true_eq];omega),zaa,zaS]
  by_cases h2:255<(s.length:Int)
  ·rw [decide_eq_true h2,show decide (s.length≤255)=false by(rw [decide_eq_false_iff_not];omega)];rfl
  ·rw [decide_eq_false h2,cond_false,show decide (s.length≤255)=true by(rw [decide_eq_true_eq];omega),zaS]
   obtain⟨w',f',k,g1,g2,g3⟩:=seq_lp s.length s FU false false (zap _) (by rw [amu];omega) hs
   unfold alx alw
   rw [zaa,zaa]
   unfold abw
   rw [if_neg (by simp),zaa,zaI,g1,zaa]
   simp only
   cases ha:(spl 46 s).all asm with
   |true=>rw [g2,ha,if_pos rfl,if_pos rfl,g3 ha];simp
   |false=>rw [ha]at g2;rw [g2];simp
open Bool renaming and_eq_true → zak, not_true → zaC, true_and → zaS
open Go.Lib renaming cut → zbg, itoa → zaZ
open List renaming length_append → zac, length_cons → zad, length_nil → zal, length_singleton → zae, map_congr_left → zaT, mem_cons_of_mem → zaf, mem_cons_self → zah
open UInt8 renaming ofNat → zbm
def numOk(x:Str):Bool:=decide (1≤x.length)&&decide (x.length≤3)&& !(decide (1<x.length)&&(at_ x 0==48))&&x.all acf&&decide (agy x≤255)
def dg(n:Fin 10):UInt8:=zbm (48+n.val)
theorem dg_of:∀c:UInt8,acf c=true→∃n:Fin 10,c=dg n:=aae _ (by decide+kernel)
theorem oct1:∀a:Fin 10,octOk [dg a]=numOk [dg a]:=by decide+kernel
theorem oct2:∀a b:Fin 10,octOk [dg a,dg b]=numOk [dg a,dg b]:=by decide+kernel
theorem oct3:∀a b c:Fin 10,octOk [dg a,dg b,dg c]=numOk [dg a,dg b,dg c]:=by decide+kernel
theorem itoa255:∀n:Fin 256,(zaZ (n.val:Int)).length≤3:=by decide+kernel
theorem oct_num(x:Str):octOk x=numOk x:=by
 cases hd:x.all acf with
 |false=>rw [octOk_no1 x hd,numOk,hd];simp
 |true=>
  have hall:=List.all_eq_true.1 hd
  match x,hd,hall with
  |[],_,_=>rfl
  |[a],_,hall=>
   obtain⟨n,rfl⟩:=dg_of a (hall a (by simp))
   exact oct1 n
  |[a,b],_,hall=>
   obtain⟨n,rfl⟩:=dg_of a (hall a (by simp))
   obtain⟨m,rfl⟩:=dg_of b (hall b (by simp))
   exact oct2 n m
  |[a,b,c],_,hall=>
   obtain⟨n,rfl⟩:=dg_of a (hall a (by simp))
   obtain⟨m,rfl⟩:=dg_of b (hall b (by simp))
   obtain⟨k,rfl⟩:=dg_of c (hall c (by simp))
   exact oct3 n m k
  |a::b::c::d::l,hd,_=>
   have h1:numOk (a::b::c::d::l)=false:=by
    unfold numOk
    rw [show decide ((a::b::c::d::l).length≤3)=false by(rw [decide_eq_false_iff_not];simp only [zad];omega)];simp
   rw [h1]
   by_cases hv:agy (a::b::c::d::l)≤255
   ·refine octOk_no2 _ (.inr fun h=> ?_)
    have:=itoa255 ⟨agy (a::b::c::d::l),by omega⟩
    simp only at this
    rw [←h]at this
    simp only [zad]at this
    omega
   ·exact octOk_no2 _ (.inl (.inr omg))
def brkB(s:Str):Bool:=decide (2≤s.length)&&(at_ s 0==91)&&(at_ s ((s.length:Int)-1)==93)
def afi(s:Str):Str×Bool:=
 if brkB s=true then(if(aor (sub s 1 ((s.length:Int)-1))).2=true then([91]++(aor (sub s 1 ((s.length:Int)-1))).1++[93],true)else([],false))
 else if numsP s=true then(s,true)else if asy s=true then(aaj s,true)else([],false)
theorem brk_eq(s:Str)(hs:s.length≤4194304):(if(2:Int)≤(s.length:Int)then(gd (0≤(0:Int)∧(0:Int)<(s.length:Int))<|(if(at_ s (0:Int))=(91:UInt8)then(gd (aay ((s.length:Int)-(1:Int)))<|(gd (0≤((s.length:Int)-(1:Int))∧((s.length:Int)-(1:Int))<(s.length:Int))<|some (decide ((at_ s ((s.length:Int)-(1:Int)))=(93:UInt8)))))else some false))else some false)=some (brkB s):=by
 unfold brkB
 by_cases h1:(2:Int)≤(s.length:Int)
 ·rw [if_pos h1,show decide (2≤s.length)=true by(rw [decide_eq_true_eq];omega),zaS,aab omg]
  by_cases h2:at_ s 0=91
  ·rw [if_pos h2,show(at_ s 0==91)=true by simpa using h2,zaS,aab (aen _ omg omg),aab omg];rfl
  ·rw [if_neg h2,show(at_ s 0==91)=false by simpa using h2];rfl
 ·rw [if_neg h1,show decide (2≤s.length)=false by(rw [decide_eq_false_iff_not];omega)];rfl
theorem brk_len{s:Str}(h:brkB s=true):2≤s.length:=by
 unfold brkB at h
 simp only [zak,decide_eq_true_eq]at h
 exact h.1.1
theorem grpsP_len(s:Str):(aor s).1.length≤60000000:=by
 unfold aor
 by_cases h39:39<s.length
 ·rw [if_pos h39];simp
 ·rw [if_neg h39]
  have hc:=cut_len s [58,58]
  have j1:=joinL0 (zbg s [58,58]).1 omg
  have j2:=joinL0 (zbg s [58,58]).2.1 omg
  split
  ·have h1:=ati s
   have h2:=apx [58] 4 (aet s).1 h1.2
   simp only [zae]at h2⊢
   omega
  ·split
   ·simp
   ·simp only [zac,zad,zal];omega
theorem adHost_eq(s:Str)(hs:s.length≤4194304):aeq FU s=some (afi s):=by
 unfold aeq afi
 rw [brk_eq s hs,zaa]
 cases hb:brkB s with
 |true=>
  have h2:=brk_len hb
  have hl:=grpsP_len (sub s 1 ((s.length:Int)-1))
  rw [cond_true,aab (aen _ omg omg),aab omg,adGroups_eq,zaa,if_pos rfl]
  cases hg:(aor (sub s 1 ((s.length:Int)-1))).2 with
  |false=>rfl
  |true=>rw [zaC,cond_false,aab (by simp only [zae];omega),aab (by simp only [zac,zae];omega),if_pos rfl]
 |false=>
  rw [cond_false,adNumbers_eq,zaa,if_neg (show¬(false=true)by decide)]
  cases hn:numsP s with
  |true=>rfl
  |false=>
   rw [cond_false,adNamed_eq s hs,zaa,if_neg (show¬(false=true)by decide)]
   cases hm:asy s with
   |true=>rw [cond_true,aix s hs];rfl
   |false=>rfl
theorem aqm(c:UInt8)(p:UInt8→Bool):∀s:Str,(∀x∈spl c s,x.all p=true)→∀b∈s,p b=true∨b=c
 |[],_,b,hb=>by simp at hb
 |d::l,h,b,hb=>by
  by_cases hd:d=c
  ·subst hd
   rw [ard]at h
   rcases List.mem_cons.1 hb with rfl|hb
   ·exact .inr rfl
   ·exact aqm d p l (fun x hx=>h x (zaf _ hx)) b hb
  ·rw [apl c d l hd]at h
   cases hx:spl c l with
   |nil=>exact absurd hx (spl_ne c l)
   |cons y r=>
    rw [hx]at h
    have h0:=h ([d]++y) zah
    rw [List.all_append,zak]at h0
    rcases List.mem_cons.1 hb with rfl|hb
    ·left;simpa using h0.1
    ·refine aqm c p l (fun x hx'=> ?_) b hb
     rw [hx]at hx'
     rcases List.mem_cons.1 hx' with rfl|hx'
     ·exact h0.2
     ·exact h x (zaf _ hx')
theorem num_parts(x:Str)(h:numOk x=true):1≤x.length∧x.length≤3∧x.all acf=true:=by
 unfold numOk at h
 simp only [zak,decide_eq_true_eq]at h
 exact⟨h.1.1.1.1,h.1.1.1.2,h.1.2⟩
theorem at_mem(x:Str)(k:Nat)(h:k<x.length):at_ x (k:Int)∈x:=by
 simp [at_,h]
theorem lowerL_id(s:Str)(h:∀b∈s,aer b=b):aaj s=s:=by
 unfold aaj
 conv=>rhs;rw [←List.map_id s]
 exact zaT fun b hb=>h b hb
theorem hostP_len(s:Str):(afi s).1.length≤60000002+s.length:=by
 have:=grpsP_len (sub s 1 ((s.length:Int)-1))
 unfold afi
 split
 ·split
  ·simp only [zac,zae];omega
  ·simp
 ·split
  ·show s.length≤_;omega
  ·split
   ·simp [aaj]
   ·simp
open Bool renaming and_eq_true → zak, not_false → zaN, not_true → zaC
open Go.Lib renaming indexAny → zbe
open List renaming eq_nil_of_length_eq_zero → zao, length_append → zac, length_cons → zad, length_drop → zat, length_nil → zal, length_singleton → zae
open Nat renaming le_refl → zap
theorem unqL_bd(n:Nat):∀(l:Str) (k:Nat) (acc:Str),l.length≤n→(unqL l k acc).1.length≤acc.length+l.length∧((unqL l k acc).2.2=0→(k:Int)+1≤(unqL l k acc).2.1∧(unqL l k acc).2.1≤((k+l.length:Nat):Int)):=by
 induction n with
 |zero=>
  intro l k acc hl
  obtain rfl:l=[]:=zao omg
  exact⟨by simp [unqL],fun h=>absurd h (show¬((6:UInt8)=0)by decide)⟩
 |succ n ih=>
  intro l k acc hl
  cases l with
  |nil=>exact⟨by simp [unqL],fun h=>absurd h (show¬((6:UInt8)=0)by decide)⟩
  |cons c l=>
   simp only [zad]at hl
   rw [asw]
   by_cases h1:c=34
   ·rw [if_pos h1];exact⟨by simp,fun _=>⟨by simp,by simp only [zad];omega⟩⟩
   ·rw [if_neg h1]
    by_cases h2:c=92
    ·rw [if_pos h2]
     by_cases h3:l=[]
     ·rw [if_pos h3];exact⟨by simp,fun h=>absurd h (show¬((6:UInt8)=0)by decide)⟩
     ·rw [if_neg h3]
      have hpos:0<l.length:=List.length_pos_iff.2 h3
      cases h4:escapedB (at_ l 0)with
      |true=>
       rw [if_pos rfl]
       have:=ih (l.drop 1) (k+2) (acc++[at_ l 0]) (by rw [zat];omega)
       rw [zac,zae,zat]at this
       exact⟨by simp only [zad];omega,fun h=>⟨by have:=(this.2 h).1;omega,by have:=(this.2 h).2;simp only [zad];omega⟩⟩
      |false=>rw [if_neg (by decide)];exact⟨by simp,fun h=>absurd h (show¬((5:UInt8)=0)by decide)⟩
    ·rw [if_neg h2]
     cases h4:aas c with
     |true=>rw [if_pos rfl];exact⟨by simp,fun h=>absurd h (show¬((5:UInt8)=0)by decide)⟩
     |false=>
      rw [if_neg (by decide)]
      have:=ih l (k+1) (acc++[c]) omg
      rw [zac,zae]at this
      exact⟨by simp only [zad];omega,fun h=>⟨by have:=(this.2 h).1;omega,by have:=(this.2 h).2;simp only [zad];omega⟩⟩
theorem unqP8_bd(s:Str)(k:Nat)(h34:at_ s (k:Int)=34)(hk:k<s.length):(asi s (k:Int)).1.length≤s.length∧((asi s (k:Int)).2.2=0→(k:Int)+2≤(asi s (k:Int)).2.1∧(asi s (k:Int)).2.1≤(s.length:Int)):=by
 unfold asi
 rw [if_neg omg,if_neg (by rintro(h|h);omega;exact h h34)]
 have e:((k:Int).toNat+1)=k+1:=by omega
 rw [e]
 have:=unqL_bd _ (s.drop (k+1)) (k+1) [] (zap _)
 rw [zat,zal]at this
 exact⟨by omega,fun h=>⟨by have:=(this.2 h).1;omega,by have:=(this.2 h).2;omega⟩⟩
theorem aof(s:Str)(hs:s.length≤4194304)(i:Int):abi FU (s,i)=some (s,((aax aah s i:Nat):Int)):=by
 unfold abi;simp only;rw [blanks_eq s hs];rfl
theorem ended_eq(s:Str)(i:Int):abz FU (s,i)=some (decide ((s.length:Int)≤i)):=rfl
def aea(s:Str)(k:Nat)(b:UInt8):Bool:=decide (k<s.length)&&(at_ s (k:Int)==b)
theorem anf(s:Str)(k:Nat)(b:UInt8):aad FU (s,(k:Int)) b=some (aea s k b):=by
 unfold aad aea
 rw [ended_eq,zaa]
 by_cases h:k<s.length
 ·rw [decide_eq_false (show¬(s.length:Int)≤(k:Int)by omega),zaN,cond_true,aab (by simp only;omega),decide_eq_true h];rfl
 ·rw [decide_eq_true (show(s.length:Int)≤(k:Int)by omega),decide_eq_false h];rfl
theorem tokEndP_eq(s:Str)(hs:s.length≤4194304)(i:Int):adq FU s i=some ((aax aba s i:Nat):Int):=by
 unfold adq;rw [skipTok_eq s omg];rfl
theorem alu(p:UInt8→Bool)(s:Str)(k:Nat)(h:k≤s.length):k≤aax p s (k:Int):=by
 unfold aax;rw [aue k _ h];omega
theorem token2_eq(s:Str)(hs:s.length≤4194304)(k:Nat)(hk:k≤s.length):adk FU (s,(k:Int))=some (sub s (k:Int) ((aax aba s (k:Int):Nat):Int),(s,((aax aba s (k:Int):Nat):Int))):=by
 have h1:=alu aba s k hk
 have h2:=ada aba s (k:Int)
 unfold adk
 simp only
 rw [tokEndP_eq s hs,zaa,aab omg]
theorem apk(s:Str)(a b:Nat)(h:b≤s.length)(hab:a≤b):sub s (a:Int) (b:Int)=[]↔b=a:=by
 have:=aql s (a:Int) (b:Int)
 constructor
 ·intro h';rw [h']at this;simp at this;omega
 ·intro h';apply zao;rw [this];omega
theorem span_not_ixb(c:UInt8)(l:Str):(if(0:Int)≤ixb (·==c) l then ixb (·==c) l else(l.length:Int))=(apv (fun b=> !(b==c)) l:Int):=by
 rcases ixb_spec (·==c) l with⟨h1,h2⟩|⟨h1,h2,h3⟩
 ·rw [if_neg omg,h2]
 ·rw [if_pos h1,h3]
theorem contains1(c:UInt8):(fun b=>([c]:Str).contains b)=(·==c):=by
 funext b
 simp [List.contains_cons]
 rfl
theorem until1_eq(s:Str)(hs:s.length≤4194304)(k:Nat)(hk:k≤s.length)(c:UInt8)(hc:c.toNat<128):aai FU s (k:Int) [c]=some ((k+apv (fun b=> !(b==c)) (s.drop k):Nat):Int):=by
 have e:((k:Nat):Int).toNat=k:=by omega
 have hd:(s.drop k).length=s.length-k:=zat
 have h1:=span_not_ixb c (s.drop k)
 have hi:zbe (s.drop k) [c]=ixb (·==c) (s.drop k):=by rw [asd,contains1]
 have hsp:=ixb_spec (·==c) (s.drop k)
 unfold aai
 rw [aab omg,e,aab ⟨by omega,by simp,by simpa using hc⟩,hi]
 by_cases h:(0:Int)≤ixb (·==c) (s.drop k)
 ·rw [if_pos h]at h1⊢
  rw [aab (aen _ omg omg),h1];rfl
 ·rw [if_neg h]at h1⊢
  congr 1
  omega
def valP(s:Str)(k:Nat):Str×Int×UInt8:=
 if aea s k 34=true then asi s (k:Int)
 else if aea s k 91=true then
  (if(afi (sub s (k:Int) (min ((k+apv (fun b=> !(b==93)) (s.drop k):Nat)+1:Int) (s.length:Int)))).2=true then
   ((afi (sub s (k:Int) (min ((k+apv (fun b=> !(b==93)) (s.drop k):Nat)+1:Int) (s.length:Int)))).1,((k+apv (fun b=> !(b==93)) (s.drop k):Nat):Int)+1,0)else([],(k:Int),5))
 else if aax aba s (k:Int)=k then([],(k:Int),5)else(sub s (k:Int) ((aax aba s (k:Int):Nat):Int),((aax aba s (k:Int):Nat):Int),0)
theorem akc{s:Str}{k:Nat}{b:UInt8}(h:aea s k b=true):k<s.length∧at_ s (k:Int)=b:=by
 unfold aea at h
 simp only [zak,decide_eq_true_eq,beq_iff_eq]at h
 exact h
theorem valP_bd(s:Str)(hs:s.length≤4194304)(k:Nat)(hk:k≤s.length):(valP s k).1.length≤90000000∧((valP s k).2.2=0→(k:Int)+1≤(valP s k).2.1∧(valP s k).2.1≤(s.length:Int)+1):=by
 unfold valP
 have h1:=alu aba s k hk
 have h2:=ada aba s (k:Int)
 have hsp:=are (fun b=> !(b==93)) (s.drop k)
 rw [zat]at hsp
 split
 ·rename_i h
  have:=unqP8_bd s k (akc h).2 (akc h).1
  exact⟨by omega,fun h=>⟨by have:=(this.2 h).1;omega,by have:=(this.2 h).2;omega⟩⟩
 ·split
  ·split
   ·have hh:=hostP_len (sub s (k:Int) (min ((k+apv (fun b=> !(b==93)) (s.drop k):Nat)+1:Int) (s.length:Int)))
    rw [aql]at hh
    exact⟨by simp only;omega,fun _=>⟨by simp only;omega,by simp only;omega⟩⟩
   ·exact⟨by simp,fun h=>absurd h (show¬((5:UInt8)=0)by decide)⟩
  ·split
   ·exact⟨by simp,fun h=>absurd h (show¬((5:UInt8)=0)by decide)⟩
   ·rename_i h
    exact⟨by simp only [aql];omega,fun _=>⟨by simp only;omega,by simp only;omega⟩⟩
theorem lower_nil(l:Str):aaj l=[]↔l=[]:=by unfold aaj;simp
theorem skip_add1(p:UInt8→Bool)(s:Str)(y:Nat):aax p s ((y:Int)+1)=aax p s ((y+1:Nat):Int):=rfl
def zPrm:Str×Str×Bool:=([],[],false)
def anw(s:Str)(b:Nat):PQ×Int×UInt8×(Str×Int):=
 if aax aba s (b:Int)=b then(zPrm,(b:Int),5,(s,(b:Int)))
 else if aea s (aax aah s ((aax aba s (b:Int):Nat):Int)) 61=false then((aaj (sub s (b:Int) ((aax aba s (b:Int):Nat):Int)),[],false),0,0,(s,((aax aah s ((aax aba s (b:Int):Nat):Int):Nat):Int)))
 else if(valP s (aax aah s ((aax aah s ((aax aba s (b:Int):Nat):Int)+1:Nat):Int))).2.2=0 then((aaj (sub s (b:Int) ((aax aba s (b:Int):Nat):Int)),(valP s (aax aah s ((aax aah s ((aax aba s (b:Int):Nat):Int)+1:Nat):Int))).1,true),0,0,(s,(valP s (aax aah s ((aax aah s ((aax aba s (b:Int):Nat):Int)+1:Nat):Int))).2.1))
 else(zPrm,(valP s (aax aah s ((aax aah s ((aax aba s (b:Int):Nat):Int)+1:Nat):Int))).2.1,(valP s (aax aah s ((aax aah s ((aax aba s (b:Int):Nat):Int)+1:Nat):Int))).2.2,(s,((aax aah s ((aax aah s ((aax aba s (b:Int):Nat):Int)+1:Nat):Int):Nat):Int)))
theorem listed_eq(s:Str)(hs:s.length≤4194304)(b:Nat)(hb:b≤s.length):agx FU (s,(b:Int))=some (anw s b):=by
 unfold agx anw
 have ht1:=alu aba s b hb
 have ht2:=ada aba s (b:Int)
 rw [token2_eq s hs b hb,zaa]
 simp only
 generalize ht:aax aba s (b:Int)=t at ht1 ht2⊢
 have hy2:=ada aah s (t:Int)
 have hy1:=alu aah s t ht2
 rw [aix _ (by rw [aql];omega),zaa]
 by_cases hn:t=b
 ·have:aaj (sub s (b:Int) (t:Int))=[]:=(lower_nil _).2 ((apk s b t ht2 ht1).2 hn)
  rw [if_pos this,if_pos hn,hn];rfl
 ·have:¬aaj (sub s (b:Int) (t:Int))=[]:=fun h=>hn ((apk s b t ht2 ht1).1 ((lower_nil _).1 h))
  rw [if_neg this,if_neg hn,aof s hs,zaa]
  generalize hy:aax aah s (t:Int)=y at hy1 hy2⊢
  rw [anf,zaa]
  cases h61:aea s y 61 with
  |false=>rw [zaN,cond_true,if_pos rfl]
  |true=>
   rw [zaC,cond_false,if_neg (show¬(true=false)by decide),gok,aof s hs,zaa,skip_add1]
   have hz2:=ada aah s ((y+1:Nat):Int)
   generalize hz:aax aah s ((y+1:Nat):Int)=z at hz2⊢
   have hq1:=alu aba s z hz2
   have hq2:=ada aba s (z:Int)
   have hsp:=are (fun b=> !(b==93)) (s.drop z)
   rw [zat]at hsp
   rw [anf,zaa]
   unfold valP
   cases h34:aea s z 34 with
   |true=>
    rw [cond_true,if_pos rfl,unquote_eq s hs,zaa]
    by_cases he:(asi s (z:Int)).2.2=0
    ·rw [if_pos he,if_pos he]
    ·rw [if_neg he,if_neg he];rfl
   |false=>
    rw [cond_false,if_neg (show¬(false=true)by decide),anf,zaa]
    cases h91:aea s z 91 with
    |true=>
     rw [cond_true,if_pos rfl,until1_eq s hs z hz2 93 (by decide),zaa]
     simp only
     rw [gok,aab omg,adHost_eq _ (by rw [aql];omega),zaa]
     cases hh:(afi (sub s (z:Int) (min ((z+apv (fun b=> !(b==93)) (s.drop z):Nat)+1:Int) (s.length:Int)))).2 with
     |false=>rw [zaN,cond_true,if_neg (show¬(false=true)by decide),if_neg (show¬((5:UInt8)=0)by decide)];rfl
     |true=>rw [zaC,cond_false,gok,if_pos rfl,if_pos rfl]
    |false=>
     rw [cond_false,if_neg (show¬(false=true)by decide),token2_eq s hs z hz2,zaa]
     simp only
     by_cases hq:aax aba s (z:Int)=z
     ·rw [if_pos ((apk s z _ hq2 hq1).2 hq),if_pos hq,if_neg (show¬((5:UInt8)=0)by decide),hq];rfl
     ·rw [if_neg (fun h=>hq ((apk s z _ hq2 hq1).1 h)),if_neg hq,if_pos rfl]
open List renaming drop_zero → zbu, length_append → zac, length_map → zaL, length_singleton → zae, map_congr_left → zaT
open Sum renaming elim → zaJ
abbrev PP:=Str×Str×Bool
theorem find_gen{α:Type}[Inhabited α](p:α→Bool)(l:List α)(F:Nat→Int→Option (Unit⊕Int))
  (h0:∀fk,F (fk+1) (l.length:Int)=some (.inl ()))
  (h1:∀fk (k:Nat),k<l.length→p (el l k)=true→F (fk+1) (k:Int)=some (.inr (k:Int)))
  (h2:∀fk (k:Nat),k<l.length→p (el l k)=false→F (fk+1) (k:Int)=F fk ((k:Int)+1)) (n:Nat):
  ∀(k fk:Nat),k+n=l.length→n<fk→F fk (k:Int)=some (match(l.drop k).findIdx? p with|none=>.inl ()|some j=>.inr ((k+j:Nat):Int)):=by
 induction n with
 |zero=>
  intro k fk hk hf
  obtain⟨fk,rfl⟩:=fkx fk
  obtain rfl:k=l.length:=by omega
  rw [h0,List.drop_length];rfl
 |succ n ih=>
  intro k fk hk hf
  obtain⟨fk,rfl⟩:=fkx fk
  have hlt:k<l.length:=by omega
  have hd:l.drop k=el l (k:Int)::l.drop (k+1):=by rw [el_nat _ _ hlt,List.drop_eq_getElem_cons hlt]
  rw [hd,List.findIdx?_cons]
  cases h:p (el l (k:Int))with
  |true=>rw [h1 fk k hlt h];rfl
  |false=>
   rw [h2 fk k hlt h,agc,ih (k+1) fk omg omg]
   cases(l.drop (k+1)).findIdx? p with
   |none=>rfl
   |some j=>
    show some (Sum.inr _)=some (Sum.inr _)
    congr 2
    show((k+1+j:Nat):Int)=((k+(j+1):Nat):Int)
    omega
theorem find_gen0{α:Type}[Inhabited α](p:α→Bool)(l:List α)(hl:l.length≤4194304)(F:Nat→Int→Option (Unit⊕Int))
  (h0:∀fk,F (fk+1) (l.length:Int)=some (.inl ()))
  (h1:∀fk (k:Nat),k<l.length→p (el l k)=true→F (fk+1) (k:Int)=some (.inr (k:Int)))
  (h2:∀fk (k:Nat),k<l.length→p (el l k)=false→F (fk+1) (k:Int)=F fk ((k:Int)+1)):F FU 0=some (match l.findIdx? p with|none=>.inl ()|some j=>.inr ((j:Nat):Int)):=by
 have:=find_gen p l F h0 h1 h2 l.length 0 FU omg (by rw [amu];omega)
 rw [zbu]at this
 have this':F FU (0:Int)=_:=this
 rw [this']
 cases l.findIdx? p with
 |none=>rfl
 |some j=>
  show some (Sum.inr _)=some (Sum.inr _)
  congr 2
  show((0+j:Nat):Int)=_
  omega
def fIdx(o:Option Nat):Int:=match o with|none=> -1|some j=>(j:Int)
theorem fIdx_any{α:Type}(p:α→Bool)(l:List α):decide ((0:Int)≤fIdx (l.findIdx? p))=l.any p:=by
 rw [←List.findIdx?_isSome]
 cases l.findIdx? p with
 |none=>rfl
 |some j=>show decide ((0:Int)≤(j:Int))=true;rw [decide_eq_true_eq];omega
theorem holds_eq(l:List PP)(hl:l.length≤4194304)(name:Str):akw FU l name=some (l.any fun p=>p.1==name):=by
 have h:=find_gen0 (fun p:PP=>p.1==name) l hl (abj FU l name)
  (fun fk=>by rw [aby,aaw,if_neg omg])
  (fun fk k hk h=>by
   have h':(el l (k:Int)).1=name:=by simpa using h
   rw [aby,aaw,if_pos omg,aab omg,aab omg]
   unfold ana
   rw [zaa,decide_eq_true h',cond_true])
  (fun fk k hk h=>by
   have h':¬(el l (k:Int)).1=name:=by simpa using h
   rw [aby,aaw,if_pos omg,aab omg,aab omg]
   unfold ana
   rw [zaa,decide_eq_false h',cond_false,gok])
 unfold akw acj act
 rw [h,zaa]
 have e:zaJ (fun(v38:Unit)=>some (-1:Int)) (fun q=>some q) (match l.findIdx? (fun p:PP=>p.1==name)with|none=>(Sum.inl ():Unit⊕Int)|some j=>Sum.inr ((j:Nat):Int))=some (fIdx (l.findIdx? (fun p:PP=>p.1==name))):=by
  cases l.findIdx? (fun p:PP=>p.1==name)<;>rfl
 rw [e,zaa,fIdx_any];rfl
def apm(l:List PP)(name:Str):UInt8:=if(l.any fun p=>p.1==name)=true then 7 else if 16≤l.length then 4 else 0
theorem room_eq(l:List PP)(hl:l.length≤4194304)(name:Str):alp FU l name=some (apm l name):=by
 unfold alp apm
 rw [holds_eq l hl,zaa]
 cases l.any fun p=>p.1==name with
 |true=>rfl
 |false=>
  rw [cond_false,if_neg (show¬(false=true)by decide)]
  by_cases h:16≤l.length
  ·rw [if_pos omg,if_pos h]
  ·rw [if_neg omg,if_neg h]
theorem el_mem2(l:List PP)(k:Nat)(h:k<l.length):el l (k:Int)∈l:=el_mem' l k h
def parM (s : Str) : Nat → List PP → Nat → List PP × Int × UInt8
  | 0, _, _ => ([], 0, 0)
  | f + 1, l, i =>
    if s.length ≤ aax aah s (i : Int) then (l, 0, 0)
    else if ¬ at_ s ((aax aah s (i : Int) : Nat) : Int) = 59 then ([], ((aax aah s (i : Int) : Nat) : Int), 5)
    else if (anw s (aax aah s ((aax aah s (i : Int) + 1 : Nat) : Int))).2.2.1 = 0 then
      (if apm l (anw s (aax aah s ((aax aah s (i : Int) + 1 : Nat) : Int))).1.1 = 0 then parM s f (l ++ [(anw s (aax aah s ((aax aah s (i : Int) + 1 : Nat) : Int))).1]) (anw s (aax aah s ((aax aah s (i : Int) + 1 : Nat) : Int))).2.2.2.2.toNat
       else ([], ((aax aah s ((aax aah s (i : Int) + 1 : Nat) : Int) : Nat) : Int), apm l (anw s (aax aah s ((aax aah s (i : Int) + 1 : Nat) : Int))).1.1))
    else ([], (anw s (aax aah s ((aax aah s (i : Int) + 1 : Nat) : Int))).2.1, (anw s (aax aah s ((aax aah s (i : Int) + 1 : Nat) : Int))).2.2.1)
theorem low2:∀c:UInt8,aer (aer c)=aer c:=aae _ (by decide+kernel)
theorem lowlowL(l:Str):aaj (aaj l)=aaj l:=by
 unfold aaj
 rw [List.map_map]
 apply zaT
 intro c _
 exact low2 c
theorem listP_bd(s:Str)(hs:s.length≤4194304)(b:Nat)(hb:b≤s.length)(h0:(anw s b).2.2.1=0):(anw s b).2.2.2.1=s∧(b:Int)+1≤(anw s b).2.2.2.2∧(anw s b).2.2.2.2≤(s.length:Int)+1∧aaj (anw s b).1.1=(anw s b).1.1∧(anw s b).1.1.length≤s.length∧(anw s b).1.2.1.length≤90000000:=by
 have ht1:=alu aba s b hb
 have ht2:=ada aba s (b:Int)
 unfold anw at h0⊢
 generalize ht:aax aba s (b:Int)=t at ht1 ht2 h0⊢
 have hy2:=ada aah s (t:Int)
 have hy1:=alu aah s t ht2
 have hlen:(aaj (sub s (b:Int) (t:Int))).length≤s.length:=by
  unfold aaj;rw [zaL,aql];omega
 by_cases hn:t=b
 ·rw [if_pos hn]at h0;exact absurd h0 (show¬((5:UInt8)=0)by decide)
 ·rw [if_neg hn]at h0⊢
  generalize hy:aax aah s (t:Int)=y at hy1 hy2 h0⊢
  cases h61:aea s y 61 with
  |false=>
   rw [if_pos rfl]
   exact⟨rfl,by simp only;omega,by simp only;omega,lowlowL _,hlen,by simp⟩
  |true=>
   have hyl:=(akc h61).1
   rw [h61,if_neg (show¬(true=false)by decide)]at h0
   rw [if_neg (show¬(true=false)by decide)]
   have hz1:=alu aah s (y+1) omg
   have hz2:=ada aah s ((y+1:Nat):Int)
   generalize hz:aax aah s ((y+1:Nat):Int)=z at hz1 hz2 h0⊢
   by_cases hv:(valP s z).2.2=0
   ·have:=valP_bd s hs z hz2
    rw [if_pos hv]
    exact⟨rfl,by simp only;have:=(this.2 hv).1;omega,by simp only;exact(this.2 hv).2,lowlowL _,hlen,this.1⟩
   ·rw [if_neg hv]at h0
    exact absurd h0 hv
theorem params_lp(s:Str)(hs:s.length≤4194304)(n:Nat):∀(k fk:Nat) (l:List PP),s.length-k≤n→n<fk→k≤4194305→l.length≤16→
  akl FU fk l s (k:Int)=some (parM s (n+1) l k):=by
 have ff:¬(false=true):=by decide
 induction n with
 |zero=>
  intro k fk l hn hf hk hl
  obtain⟨fk,rfl⟩:=fkx fk
  have h1:=ada aah s (k:Int)
  have h2:s.length≤aax aah s (k:Int):=by
   unfold aax aou
   omega
  rw [apg,ajn,aof s hs,zaa,ended_eq,zaa,decide_eq_true omg,cond_true,parM,if_pos h2]
 |succ n ih=>
  intro k fk l hn hf hk hl
  obtain⟨fk,rfl⟩:=fkx fk
  have h1:=ada aah s (k:Int)
  have hge:k≤s.length→k≤aax aah s (k:Int):=alu aah s k
  rw [parM,apg,ajn,aof s hs,zaa,ended_eq,zaa]
  generalize hj:aax aah s (k:Int)=j at h1 hge⊢
  by_cases he:s.length≤j
  ·rw [decide_eq_true omg,cond_true,if_pos he]
  ·have hkl:k≤s.length:=by
    rcases Nat.lt_or_ge s.length k with h|h
    ·exfalso
     have:aax aah s (k:Int)=s.length:=by
      have a:=ada aah s (k:Int)
      unfold aax aou at a⊢
      omega
     omega
    ·exact h
   rw [decide_eq_false omg,cond_false,if_neg he,anf,zaa]
   have hjl:j<s.length:=by omega
   unfold aea
   rw [decide_eq_true hjl,zaS]
   by_cases h59:at_ s (j:Int)=59
   ·have e59:(at_ s (j:Int)==59)=true:=by simpa using h59
    rw [e59,zaC,cond_false,if_neg (by simpa using h59)]
    simp only
    rw [gok,aof s hs,zaa,skip_add1]
    have hb2:=ada aah s ((j+1:Nat):Int)
    have hb1:=alu aah s (j+1) omg
    generalize hb:aax aah s ((j+1:Nat):Int)=b at hb1 hb2⊢
    rw [listed_eq s hs b hb2,zaa]
    by_cases h0:(anw s b).2.2.1=0
    ·obtain⟨g1,g2,g3,g4,g5,g6⟩:=listP_bd s hs b hb2 h0
     rw [if_pos h0,if_pos h0,room_eq l omg,zaa,zaa]
     by_cases hr:apm l (anw s b).1.1=0
     ·have hl16:l.length<16:=by
       unfold apm at hr
       split at hr
       ·exact absurd hr (by decide)
       ·split at hr
        ·exact absurd hr (by decide)
        ·omega
      have ee:(anw s b).2.2.2.2=(((anw s b).2.2.2.2.toNat:Nat):Int):=by omega
      rw [if_pos hr]
      try simp only
      rw [if_pos hr,aab (by simp only [zae];omega),g1,ee]
      have:=ih (anw s b).2.2.2.2.toNat fk (l++[(anw s b).1]) omg omg omg (by simp only [zac,zae];omega)
      rw [this]
      congr 2
     ·rw [if_neg hr]
      try simp only
      rw [if_neg hr]
    ·rw [if_neg h0,if_neg h0,zaa]
     simp only
     rw [if_neg h0]
   ·have e59:(at_ s (j:Int)==59)=false:=by simpa using h59
    rw [e59,zaN,cond_true,if_pos h59]
def parP(s:Str):List PP×Int×UInt8:=parM s (s.length+1) [] 0
theorem params_eq(s:Str)(hs:s.length≤4194304):aiz FU s=some (parP s):=by
 unfold aiz
 exact params_lp s hs s.length 0 FU [] omg (by rw [amu];omega) omg (by simp)
open Bool renaming and_eq_true → zak, not_false → zaN, not_true → zaC, true_and → zaS
open Go.Lib renaming join → zau
open List renaming any_cons → zbs, append_nil → zam, flatMap_cons → zar, length_append → zac, length_cons → zad, length_nil → zal, length_singleton → zae, mem_cons_of_mem → zaf, mem_cons_self → zah, nil_append → zaB
open Option renaming bind_some → zaa, map_eq_some_iff → zbk
def quoT(s:Str):Str:=34::(s.flatMap alq++[34])
def quoM(s:Str):Str×UInt8:=if s.any aas=true then([],5)else(quoT s,0)
theorem qstep_len(c:UInt8):(alq c).length≤2:=by unfold alq;split<;>simp
theorem qflat_len:∀s:Str,(s.flatMap alq).length≤2*s.length
 |[]=>by simp
 |c::l=>by
  have h1:=qstep_len c
  have h2:=qflat_len l
  rw [zar,zac,zad];omega
theorem quo_lp(s:Str)(hs:s.length≤4194304)(l:Str):∀(p:Str) (fk:Nat),s=p++l→l.length<fk→
  ahj FU s fk (34::p.flatMap alq) (p.length:Int)=some (if l.any aas=true then .inr ([],5)else .inl (34::s.flatMap alq)):=by
 induction l with
 |nil=>
  intro p fk h hf
  obtain⟨fk,rfl⟩:=fkx fk
  rw [zam]at h
  subst h
  rw [arq,ama,if_neg omg];rfl
 |cons c l ih=>
  intro p fk h hf
  obtain⟨fk,rfl⟩:=fkx fk
  have hl:=congrArg List.length h
  simp only [zac,zad]at hl hf
  have hb:(0:Int)≤(p.length:Int)∧(p.length:Int)<(s.length:Int):=by omega
  have ha:at_ s (p.length:Int)=c:=by rw [h,at_mid]
  have hq:=qflat_len p
  have hih:=ih (p++[c]) fk (by rw [h];simp) omg
  rw [←atq p c,List.flatMap_append,List.flatMap_singleton]at hih
  rw [arq,ama,if_pos hb.2,aab hb,ha,char_control,zaa,zbs]
  cases hc:aas c with
  |true=>rw [cond_true,Bool.true_or,if_pos rfl]
  |false=>
   rw [cond_false,Bool.false_or]
   have hq34:∀b:Bool,alq c=(bif b then [92,c]else [c])→(bif b then gd (((34::p.flatMap alq).length+([(92:UInt8)]:List UInt8).length)*1≤140737488355328) (some ((34::p.flatMap alq)++([(92:UInt8)]:List UInt8)))else some (34::p.flatMap alq))=some ((34::p.flatMap alq)++(bif b then [92]else [])):=by
    intro b _
    cases b with
    |true=>rw [cond_true,cond_true,aab (by simp only [zad,zal];omega)]
    |false=>rw [cond_false,cond_false,zam]
   have fin:∀b:Bool,alq c=(bif b then [92,c]else [c])→((some ((34::p.flatMap alq)++(bif b then [92]else []))).bind fun(v394:List UInt8)=>(gd (0≤(p.length:Int)∧(p.length:Int)<(s.length:Int))<|(gd ((v394.length+([c]:List UInt8).length)*1≤140737488355328)<|(gd (aay ((p.length:Int)+(1:Int)))<|(ahj FU s fk (v394++([c]:List UInt8)) ((p.length:Int)+(1:Int)))))))=some (if l.any aas=true then .inr ([],5)else .inl (34::s.flatMap alq)):=by
    intro b hqb
    rw [zaa,aab hb,aab (by cases b<;>simp only [cond_true,cond_false,zac,zad,zal]<;>omega),aab (aen _ omg omg),←hih,hqb]
    cases b<;>simp
   by_cases h34:c=34
   ·have e:alq c=(bif true then [92,c]else [c]):=by rw [h34];rfl
    rw [if_pos h34,zaa,hq34 true e,fin true e]
   ·rw [if_neg h34,zaa]
    by_cases h92:c=92
    ·have e:alq c=(bif true then [92,c]else [c]):=by rw [h92];rfl
     rw [decide_eq_true h92,hq34 true e,fin true e]
    ·have e:alq c=(bif false then [92,c]else [c]):=by unfold alq;rw [if_neg (by simp [h34,h92])];rfl
     rw [decide_eq_false h92,hq34 false e,fin false e]
theorem gd_mk{α:Type}{p:Prop}{ip:Decidable p}(h:p){x:Option α}: @gd _ p ip x=x:=by unfold gd;exact if_pos h
theorem quote_eq(s:Str)(hs:s.length≤4194304):amw FU s=some (quoM s):=by
 have:=quo_lp s hs s [] FU (by simp) (by rw [amu];omega)
 have this':ahj FU s FU (([]:List UInt8)++([(34:UInt8)]:List UInt8)) (0:Int)=_:=this
 have hq:=qflat_len s
 unfold amw quoM
 rw [aab (aen _ omg omg),gd_mk omg,aab (by decide),this',zaa]
 cases s.any aas with
 |true=>rfl
 |false=>rw [if_neg (show¬(false=true)by decide),zaI,aab (by simp only [zad,zal];omega),if_neg (show¬(false=true)by decide)];rfl
theorem quoT_len(s:Str):(quoT s).length≤2*s.length+2:=by
 have:=qflat_len s
 unfold quoT
 rw [zad,zac,zae];omega
theorem tok_nc:∀c:UInt8,aba c=true→aas c=false:=aae _ (by decide+kernel)
theorem hex_nc:∀c:UInt8,hexB c=true→aas (aer c)=false:=aae _ (by decide+kernel)
theorem lab_nc:∀c:UInt8,labB c=true→aas (aer c)=false:=aae _ (by decide+kernel)
theorem dig_nc:∀c:UInt8,acf c=true→aas c=false:=aae _ (by decide+kernel)
theorem any_f(l:Str)(h:∀c∈l,aas c=false):l.any aas=false:=by
 rw [List.any_eq_false];intro c hc;rw [h c hc];decide
theorem isTok_nc(s:Str)(h:aqq s=true):s.any aas=false:=by
 unfold aqq at h
 rw [zak]at h
 exact any_f s fun c hc=>tok_nc c (List.all_eq_true.1 h.2 c hc)
theorem grpN_nc(g:Str)(h:aos g=true):∀c∈arn g,aas c=false:=by
 have hx:g.all hexB=true:=by unfold aos at h;simp only [zak]at h;exact h.2
 intro c hc
 unfold arn at hc
 split at hc
 ·rw [List.mem_singleton.1 hc];decide
 ·have hm:c∈lowP g:=(List.dropWhile_suffix _).subset hc
  obtain⟨d,hd,rfl⟩:=List.mem_map.1 hm
  exact hex_nc d (List.all_eq_true.1 hx d hd)
theorem join_nc:∀(l:List Str),(∀x∈l,∀c∈x,aas c=false)→∀c∈zau l [58],aas c=false
 |[],_,c,hc=>by simp [zau,List.intercalate]at hc
 |[a],h,c,hc=>by
  simp [zau,List.intercalate]at hc
  exact h a (by simp) c hc
 |a::b::l,h,c,hc=>by
  have e:zau (a::b::l) [58]=a++(58::zau (b::l) [58]):=by simp [zau,List.intercalate,List.intersperse]
  rw [e]at hc
  rcases List.mem_append.1 hc with hc|hc
  ·exact h a (by simp) c hc
  ·rcases List.mem_cons.1 hc with rfl|hc
   ·decide
   ·exact join_nc (b::l) (fun x hx=>h x (zaf _ hx)) c hc
theorem grpList_nc(s:Str):∀x∈(aet s).1,∀c∈x,aas c=false:=by
 intro x hx
 unfold aet at hx
 split at hx
 ·rename_i ha
  obtain⟨y,hy,rfl⟩:=List.mem_map.1 hx
  exact grpN_nc y (List.all_eq_true.1 ha y hy)
 ·simp at hx
theorem grpL0_nc(s:Str):∀x∈(alk s).1,∀c∈x,aas c=false:=by
 intro x hx
 unfold alk at hx
 split at hx
 ·simp at hx
 ·exact grpList_nc s x hx
theorem grpsP_nc(s:Str):∀c∈(aor s).1,aas c=false:=by
 intro c hc
 unfold aor at hc
 split at hc
 ·simp at hc
 ·split at hc
  ·exact join_nc _ (grpList_nc s) c hc
  ·split at hc
   ·simp at hc
   ·rcases List.mem_append.1 hc with hc|hc
    ·rcases List.mem_append.1 hc with hc|hc
     ·exact join_nc _ (grpL0_nc _) c hc
     ·have h58:c=58:=by simpa using hc
      rw [h58];decide
    ·exact join_nc _ (grpL0_nc _) c hc
theorem hostP_nc(s:Str):((afi s).1).any aas=false:=by
 refine any_f _ fun c hc=> ?_
 unfold afi at hc
 split at hc
 ·split at hc
  ·rcases List.mem_append.1 hc with hc|hc
   ·rcases List.mem_append.1 hc with hc|hc
    ·rw [List.mem_singleton.1 hc];decide
    ·exact grpsP_nc _ c hc
   ·rw [List.mem_singleton.1 hc];decide
  ·simp at hc
 ·split at hc
  ·rename_i hn
   unfold numsP at hn
   simp only [zak]at hn
   rcases aqm 46 acf s (fun x hx=>(num_parts x (by rw [←oct_num];exact List.all_eq_true.1 hn.1.2 x hx)).2.2) c hc with h|h
   ·exact dig_nc c h
   ·rw [h];decide
  ·split at hc
   ·rename_i hn
    unfold asy at hn
    simp only [zak]at hn
    obtain⟨d,hd,rfl⟩:=List.mem_map.1 hc
    rcases aqm 46 labB s (fun x hx=>by
     have:=List.all_eq_true.1 hn.1.2 x hx
     unfold asm at this
     simp only [zak]at this
     exact this.2) d hd with h|h
    ·exact lab_nc d h
    ·rw [h];decide
   ·simp at hc
def brV(v:Str):Bool:=(afi v).2&&decide ((afi v).1=v)&&(at_ v 0==91)
def okN(pre:List PP)(p:PP):Bool:=aqq p.1&&decide (aaj p.1=p.1)&& !(pre.any fun q=>q.1==p.1)
def okV(p:PP):Bool:=bif p.2.2 then !p.2.1.any aas else decide (p.2.1=[])
def txt(p:PP):Str:=bif p.2.2 then 61::(bif aqq p.2.1||brV p.2.1 then p.2.1 else quoT p.2.1)else []
def ppL:List PP→List PP→Option Str
 |_,[]=>some []
 |pre,p::r=>bif okN pre p&&okV p then(ppL (pre++[p]) r).map fun t=>59::(p.1++(txt p++t))else none
def ppM(l:List PP):Str×UInt8:=if 16<l.length then([],2)else match ppL [] l with|some t=>(t,0)|none=>([],2)
theorem brV_nc(v:Str)(h:brV v=true):v.any aas=false:=by
 unfold brV at h
 simp only [zak,decide_eq_true_eq]at h
 rw [←h.1.2];exact hostP_nc v
theorem host_ne(v:Str)(h:(afi v).2=true)(h2:(afi v).1=v):v≠[]:=by
 intro e
 subst e
 exact absurd h (by decide)
theorem txt_len(p:PP)(h1:p.2.1.length≤4194304):(txt p).length≤8388611:=by
 have:=quoT_len p.2.1
 unfold txt
 cases p.2.2 with
 |false=>simp
 |true=>
  rw [cond_true,zad]
  cases(aqq p.2.1||brV p.2.1)with
  |true=>rw [cond_true];omega
  |false=>rw [cond_false];omega
theorem pp_lp(l:List PP)(hl:l.length≤16)(hb:∀p∈l,p.1.length≤4194304∧p.2.1.length≤4194304)(r:List PP):∀(pre:List PP) (fk:Nat) (out:Str),l=pre++r→r.length<fk→out.length≤pre.length*16000000→
  acp FU l fk (pre.length:Int) () out=some (match ppL pre r with|some t=>.inl ((),out++t)|none=>.inr ([],2)):=by
 induction r with
 |nil=>
  intro pre fk out h hf ho
  obtain⟨fk,rfl⟩:=fkx fk
  rw [zam]at h
  rw [amr,afl,if_neg (by rw [h];omega)];simp [ppL]
 |cons p r ih=>
  intro pre fk out h hf ho
  obtain⟨fk,rfl⟩:=fkx fk
  have hlen:=congrArg List.length h
  simp only [zac,zad]at hlen hf
  have hin:(0:Int)≤(pre.length:Int)∧(pre.length:Int)<(l.length:Int):=by omega
  have he:el l (pre.length:Int)=p:=by rw [h];simp [el]
  have htk:List.take (zaj (pre.length:Int)) l=pre:=by rw [h];simp
  have hbp:=hb p (by rw [h];simp)
  have ht:=txt_len p hbp.2
  have hok:aay ((pre.length:Int)+1):=aen _ omg omg
  have next:∀o:Str,o=out++(59::(p.1++txt p))→okN pre p=true→okV p=true→acp FU l fk ((pre.length:Int)+1) () o=some (match ppL pre (p::r)with|some t=>.inl ((),out++t)|none=>.inr ([],2)):=by
   intro o ho' h1 h2
   have hih:=ih (pre++[p]) fk o (by rw [h];simp) omg (by rw [ho'];simp only [zac,zad,zal];omega)
   rw [show((pre++[p]).length:Int)=(pre.length:Int)+1 by simp]at hih
   rw [hih,ppL,h1,h2,zaS,cond_true]
   cases ppL (pre++[p]) r with
   |none=>rfl
   |some t=>rw [ho'];simp
  have bad:okN pre p=false∨okV p=false→ppL pre (p::r)=none:=by
   rintro(h|h)
   ·rw [ppL,h];rfl
   ·rw [ppL,h,Bool.and_false];rfl
  rw [amr,afl,if_pos hin.2,aab hin,aab hin,he,token_eq _ omg,zaa]
  cases h1:aqq p.1 with
  |false=>
   rw [bad (.inl (by unfold okN;rw [h1];rfl))];rfl
  |true=>
   rw [zaC,cond_false,aix _ hbp.1,zaa]
   by_cases h2:p.1=aaj p.1
   ·rw [if_pos h2,aab omg,htk,holds_eq pre omg,zaa,zaa]
    cases h3:pre.any fun q=>q.1==p.1 with
    |true=>rw [bad (.inl (by unfold okN;rw [h3];simp))];rfl
    |false=>
     have hN:okN pre p=true:=by unfold okN;rw [h1,h3,decide_eq_true h2.symm];rfl
     rw [cond_false,aab (by simp only [zae];omega)]
     unfold aac
     rw [aab (by simp only [zac,zae];omega),zaa]
     simp only
     cases h4:p.2.2 with
     |false=>
      rw [zaN,cond_true]
      by_cases h5:p.2.1=[]
      ·have hV:okV p=true:=by unfold okV;rw [h4,cond_false];exact decide_eq_true h5
       rw [if_pos h5,aab hok]
       refine next _ ?_ hN hV
       have:txt p=[]:=by unfold txt;rw [h4];rfl
       rw [this];simp
      ·have hV:okV p=false:=by unfold okV;rw [h4,cond_false];exact decide_eq_false h5
       rw [if_neg h5,bad (.inr hV)]
     |true=>
      have hVe:okV p= !p.2.1.any aas:=by unfold okV;rw [h4];rfl
      rw [zaC,cond_false,adHost_eq _ hbp.2,zaa,token_eq _ omg,zaa]
      have e:(bif (!aqq p.2.1)then(bif (afi p.2.1).2 then(if(afi p.2.1).1=p.2.1 then(gd (0≤(0:Int)∧(0:Int)<(p.2.1.length:Int))<|some (!decide ((at_ p.2.1 (0:Int))=(91:UInt8))))else some true)else some true)else some false)=some (!(aqq p.2.1||brV p.2.1)):=by
       unfold brV
       cases aqq p.2.1 with
       |true=>rfl
       |false=>
        rw [zaN,cond_true,Bool.false_or]
        cases h6:(afi p.2.1).2 with
        |false=>rfl
        |true=>
         rw [cond_true,zaS]
         by_cases h7:(afi p.2.1).1=p.2.1
         ·have:=List.length_pos_iff.2 (host_ne p.2.1 h6 h7)
          rw [if_pos h7,decide_eq_true h7,aab omg,zaS];rfl
         ·rw [if_neg h7,decide_eq_false h7];rfl
      rw [e,zaa]
      cases h5:(aqq p.2.1||brV p.2.1)with
      |true=>
       have hnc:p.2.1.any aas=false:=by
        rcases Bool.or_eq_true_iff.1 h5 with h|h
        ·exact isTok_nc _ h
        ·exact brV_nc _ h
       rw [zaC,cond_false,zaa,zaI,aab (by simp only [zae];omega),aab (by simp only [zac,zae];omega),zaa,aab hok]
       refine next _ ?_ hN (by rw [hVe,hnc];rfl)
       have:txt p=61::p.2.1:=by unfold txt;rw [h4,h5];rfl
       rw [this];simp
      |false=>
       rw [zaN,cond_true,quote_eq _ hbp.2,zaa]
       unfold quoM
       have hq:=quoT_len p.2.1
       cases h6:p.2.1.any aas with
       |true=>
        rw [if_pos rfl,if_neg (show¬((5:UInt8)=0)by decide),zaa,Sum.elim_inr,bad (.inr (by rw [hVe,h6];rfl))]
       |false=>
        rw [if_neg (show¬(false=true)by decide),if_pos rfl,zaa,zaI]
        simp only
        rw [aab (by simp only [zae];omega),aab (by simp only [zac,zae];omega),zaa,aab hok]
        refine next _ ?_ hN (by rw [hVe,h6];rfl)
        have:txt p=61::quoT p.2.1:=by unfold txt;rw [h4,h5];rfl
        rw [this];simp
   ·rw [if_neg h2,zaa,cond_true,bad (.inl (by unfold okN;rw [decide_eq_false (fun h=>h2 h.symm)];simp))]
theorem ppL_len:∀(r pre:List PP) (t:Str),(∀p∈r,p.1.length≤4194304∧p.2.1.length≤4194304)→ppL pre r=some t→t.length≤r.length*16000000
 |[],_,t,_,h=>by simp [ppL]at h;subst h;simp
 |p::r,pre,t,hb,h=>by
  rw [ppL]at h
  cases hk:okN pre p&&okV p with
  |false=>rw [hk]at h;cases h
  |true=>
   rw [hk,cond_true,zbk]at h
   obtain⟨u,hu,rfl⟩:=h
   have:=ppL_len r _ u (fun q hq=>hb q (zaf _ hq)) hu
   have hbp:=hb p zah
   have ht:=txt_len p hbp.2
   simp only [zad,zac]
   omega
theorem printParams_eq(l:List PP)(hb:∀p∈l,p.1.length≤4194304∧p.2.1.length≤4194304):aeh FU l=some (ppM l):=by
 unfold aeh ppM
 by_cases h:16<l.length
 ·rw [if_pos omg,if_pos h]
 ·have:=pp_lp l omg hb l [] FU [] (by simp) (by rw [amu];omega) (by simp)
  have this':acp FU l FU (0:Int) () []=_:=this
  rw [if_neg omg,if_neg h,this',zaa]
  cases hp:ppL [] l with
  |none=>rfl
  |some t=>
   have:=ppL_len l [] t hb hp
   rw [zaI]
   simp only [zaB]
   rw [aab omg]
open Go.Op renaming bytesLess → zaF
open List renaming length_cons → zad, singleton_append → zbt
open UInt8 renaming lt_iff_toNat_lt → zbd
theorem room0(pre:List PP)(nm:Str):(apm pre nm=0)↔((pre.any fun q=>q.1==nm)=false∧pre.length<16):=by
 unfold apm
 cases pre.any fun q=>q.1==nm with
 |true=>simp
 |false=>
  rw [if_neg (show¬(false=true)by decide)]
  by_cases h:16≤pre.length
  ·rw [if_pos h];simp;omega
  ·rw [if_neg h];simp;omega
theorem pp_eta(x:PP):(x.1,x.2.1,x.2.2)=x:=rfl
theorem less_tri:∀x y:Str,zaF x y= !(zaF y x||y==x)
 |[],[]=>rfl
 |[],b::y=>rfl
 |a::x,[]=>rfl
 |a::x,b::y=>by
  have ih:=less_tri x y
  rw [zaF,zaF,ih]
  rcases Nat.lt_trichotomy a.toNat b.toNat with h|h|h
  ·have h1:a<b:=h
   have h2:¬b<a:=by rw [zbd];omega
   have h3:¬a=b:=fun e=>by subst e;omega
   have h4:(b::y==a::x)=false:=by simp;intro e;exact absurd e.symm h3
   rw [h4]
   simp [h1,h2,h3]
   exact .inl fun e=>h3 e.symm
  ·have e:a=b:=UInt8.toNat_inj.1 h
   subst e
   have h1:¬a<a:=by rw [zbd];omega
   have h4:(a::y==a::x)=(y==x):=by simp [List.cons_beq_cons]
   rw [h4]
   simp [h1]
  ·have h1:b<a:=h
   have h2:¬a<b:=by rw [zbd];omega
   have h3:¬a=b:=fun e=>by subst e;omega
   simp [h1,h2,h3]
def gtN(a b:Str):Bool:= !(zaF a b||a==b)
def insV(x:PP):List PP→List PP
 |[]=>[x]
 |a::V=>bif gtN a.1 x.1 then a::insV x V else x::a::V
def insR(x:PP)(l:List PP):List PP:=(insV x l.reverse).reverse
theorem insR_snoc(x a:PP)(l:List PP):insR x (l++[a])=bif gtN a.1 x.1 then insR x l++[a]else l++[a,x]:=by
 unfold insR
 rw [List.reverse_append,List.reverse_singleton,zbt,insV]
 cases gtN a.1 x.1<;>simp
theorem insV_len(x:PP):∀V:List PP,(insV x V).length=V.length+1
 |[]=>rfl
 |a::V=>by
  rw [insV]
  cases gtN a.1 x.1 with
  |true=>rw [cond_true,zad,insV_len x V,zad]
  |false=>rfl
theorem insR_len(x:PP)(l:List PP):(insR x l).length=l.length+1:=by
 unfold insR;rw [List.length_reverse,insV_len,List.length_reverse]
theorem insV_mem(x y:PP):∀V:List PP,y∈insV x V→y=x∨y∈V
 |[],h=>by left;simpa [insV] using h
 |a::V,h=>by
  rw [insV]at h
  cases hg:gtN a.1 x.1 with
  |true=>
   rw [hg,cond_true]at h
   rcases List.mem_cons.1 h with rfl|h
   ·right;simp
   ·rcases insV_mem x y V h with h|h
    ·exact .inl h
    ·right;simp [h]
  |false=>
   rw [hg,cond_false]at h
   rcases List.mem_cons.1 h with rfl|h
   ·left;rfl
   ·right;exact h
theorem insR_mem(x y:PP)(l:List PP)(h:y∈insR x l):y=x∨y∈l:=by
 unfold insR at h
 rcases insV_mem x y _ (List.mem_reverse.1 h)with h|h
 ·exact .inl h
 ·exact .inr (List.mem_reverse.1 h)
def agl(l:List PP):List PP:=l.foldl (fun out x=>insR x out) []
theorem fold_len:∀(q p:List PP),(q.foldl (fun out x=>insR x out) p).length=p.length+q.length
 |[],p=>by simp
 |a::q,p=>by rw [List.foldl_cons,fold_len q,insR_len,zad];omega
theorem fold_mem(y:PP):∀(q p:List PP),y∈q.foldl (fun out x=>insR x out) p→y∈p∨y∈q
 |[],p,h=>.inl h
 |a::q,p,h=>by
  rw [List.foldl_cons]at h
  rcases fold_mem y q _ h with h|h
  ·rcases insR_mem a y p h with h|h
   ·right;simp [h]
   ·exact .inl h
  ·right;simp [h]
theorem isort_len(l:List PP):(agl l).length=l.length:=by unfold agl;rw [fold_len];simp
theorem isort_mem(l:List PP)(y:PP)(h:y∈agl l):y∈l:=by
 rcases fold_mem y l [] h with h|h
 ·simp at h
 ·exact h
def cmpV(a b:Str):Int:=bif zaF a b then-1 else bif !(zaF a b||a==b)then 1 else 0
theorem cmp_lt(a b:Str):decide (cmpV a b<0)=zaF a b:=by
 unfold cmpV
 cases zaF a b with
 |true=>rfl
 |false=>
  rw [cond_false]
  cases(!(false||a==b))<;>rfl
theorem el_at(P S:List PP)(x:PP):el (P++x::S) (P.length:Int)=x:=by simp [el]
def Keeps(o:Option (List PP))(n:Nat):Prop:=∃d,o=some d∧d.length=n
open Go.Lib renaming index → zaH
open List renaming length_append → zac, length_cons → zad, length_singleton → zae
theorem idx47(c:UInt8):∀v:Str,(zaH v [c]= -1∧∀b∈v,b≠c)∨(∃f s2,v=f++c::s2∧(∀b∈f,b≠c)∧zaH v [c]=(f.length:Int))
 |[]=>.inl ⟨rfl,by simp⟩
 |b::l=>by
  rw [ath]
  have e:([c]:Str).isPrefixOf (b::l)=(c==b):=by simp [List.isPrefixOf]
  rw [e]
  by_cases h:b=c
  ·subst h
   right
   exact⟨[],l,rfl,by simp,by rw [if_pos (by simp)];rfl⟩
  ·rw [if_neg (by simpa using fun x=>h x.symm)]
   rcases idx47 c l with⟨h1,h2⟩|⟨f,s2,h1,h2,h3⟩
   ·left
    rw [if_pos h1]
    exact⟨rfl,fun x hx=>by rcases List.mem_cons.1 hx with rfl|hx;exact h;exact h2 x hx⟩
   ·right
    refine⟨b::f,s2,by rw [h1];rfl,fun x hx=>by rcases List.mem_cons.1 hx with rfl|hx;exact h;exact h2 x hx, ?_⟩
    rw [if_neg omg,h3,zad];omega
theorem ppM_len(l:List PP)(hb:∀p∈l,p.1.length≤4194304∧p.2.1.length≤4194304):(ppM l).1.length≤256000000:=by
 unfold ppM
 split
 ·simp
 ·rename_i h
  cases hp:ppL [] l with
  |none=>simp
  |some t=>
   have:=ppL_len l [] t hb hp
   simp only
   omega
theorem parM_len(s:Str):∀(f:Nat) (l:List PP) (i:Nat),l.length≤16→(parM s f l i).1.length≤16
 |0,_,_,_=>by simp [parM]
 |f+1,l,i,h=>by
  rw [parM]
  split
  ·exact h
  ·split
   ·simp
   ·split
    ·split
     ·rename_i hr
      have hl16:=((room0 l _).1 hr).2
      exact parM_len s f _ _ (by simp only [zac,zae];omega)
     ·simp
    ·simp
end Go.Wk
set_option maxRecDepth 20000
namespace Go.Wk
open Go.Px
open Bool renaming true_and → zaS
open List renaming all_cons → zbh, append_nil → zam, length_append → zac, length_cons → zad
open Option renaming bind_some → zaa
open Sum renaming elim_inl → zaI
open UInt8 renaming lt_iff_toNat_lt → zbd
theorem digB_no{c:UInt8}(h:acf c=false):c<48∨(57:UInt8)<c:=by
 by_cases h1:c<48
 ·exact .inl h1
 ·by_cases h2:(57:UInt8)<c
  ·exact .inr h2
  ·exfalso
   have:acf c=true:=by
    rw [digitB_iff]
    rw [zbd]at h1 h2
    have e1:(48:UInt8).toNat=48:=rfl
    have e2:(57:UInt8).toNat=57:=rfl
    omega
   rw [this]at h;cases h
theorem digQ_sub{c:UInt8}(h:acf c=true):(c-48).toNat=c.toNat-48∧¬c<48∧¬(57:UInt8)<c∧c.toNat≤57:=by
 have hc:=(digitB_iff c).1 h
 refine⟨?_, ?_, ?_,by omega⟩
 ·have h48:(48:UInt8)≤c:=by rw [UInt8.le_iff_toNat_le];show 48≤c.toNat;omega
  rw [UInt8.toNat_sub_of_le _ _ h48];rfl
 ·rw [zbd];show¬c.toNat<48;omega
 ·rw [zbd];show¬57<c.toNat;omega
def numQ(s:Str):Int×UInt8:=
 if s.length<1∨10<s.length∨s.all acf=false then(0,5)else if 2147483647<agy s then(0,3)else((agy s:Int),0)
theorem numberQ_lp(s:Str)(hs:s.length≤18)(l:Str):∀(p:Str) (fk:Nat),s=p++l→l.length<fk→p.all acf=true→
  aji FU s fk (agy p:Int) (p.length:Int)=some (if l.all acf=true then .inl (agy s:Int)else .inr ((0:Int),(5:UInt8))):=by
 induction l with
 |nil=>
  intro p fk h hf hp
  obtain⟨fk,rfl⟩:=fkx fk
  rw [zam]at h
  subst h
  rw [ang,aic,if_neg omg];rfl
 |cons c l ih=>
  intro p fk h hf hp
  obtain⟨fk,rfl⟩:=fkx fk
  have hb:(0:Int)≤(p.length:Int)∧(p.length:Int)<(s.length:Int):=by rw [h,zac,zad];omega
  have ha:at_ s (p.length:Int)=c:=by rw [h,at_mid]
  simp only [zad]at hf
  cases hc:acf c with
  |false=>
   rw [ang,aic,if_pos hb.2,aab hb,ha,zbh,hc,Bool.false_and,if_neg (show¬false=true by decide)]
   rcases digB_no hc with h1|h1
   ·rw [if_pos h1,zaa,cond_true]
   ·by_cases h2:c<48
    ·rw [if_pos h2,zaa,cond_true]
    ·rw [if_neg h2,aab hb,decide_eq_true h1,zaa,cond_true]
  |true=>
   obtain⟨hx,n1,n2,n3⟩:=digQ_sub hc
   have hv:=decVal_lt 17 p (by have:=congrArg List.length h;rw [zac,zad]at this;omega) hp
   rw [ang,aic,if_pos hb.2,aab hb,ha,if_neg n1,aab hb,decide_eq_false n2,zaa,cond_false,hx,aab (aen _ omg omg),aab hb,aab (aen _ omg omg),aab (aen _ omg omg)]
   have e:(10:Int)*(agy p:Int)+((c.toNat-48:Nat):Int)=(agy (p++[c]):Int):=by rw [auc];omega
   rw [e,atq p c,zbh,hc,zaS]
   exact ih (p++[c]) fk (by rw [h];simp) omg (by rw [List.all_append,hp];simpa using hc)
theorem number_eq(s:Str):agz FU s=some (numQ s):=by
 unfold agz numQ
 by_cases h1:s.length<1
 ·rw [if_pos omg,zaa,cond_true,if_pos (.inl h1)]
 ·rw [if_neg omg,zaa]
  by_cases h2:10<s.length
  ·rw [decide_eq_true omg,cond_true,if_pos (.inr (.inl h2))]
  ·rw [decide_eq_false omg,cond_false]
   have:=numberQ_lp s omg s [] FU (by simp) (by rw [amu];omega) (by simp)
   change aji FU s FU (0:Int) (0:Int)=_ at this
   rw [this,zaa]
   cases h3:s.all acf with
   |false=>rw [if_neg (show¬false=true by decide),Sum.elim_inr,if_pos (.inr (.inr rfl))]
   |true=>
    rw [if_pos rfl,zaI,if_neg (show¬(s.length<1∨10<s.length∨true=false)by rintro(h|h|h)<;>first|omega|cases h)]
    by_cases h4:2147483647<agy s
    ·rw [if_pos omg,if_pos h4]
    ·rw [if_neg omg,if_neg h4]
def portQ(s:Str):Int×UInt8:=if(numQ s).2=0∧((numQ s).1<1∨65535<(numQ s).1)then(0,3)else numQ s
end Go.Wk
set_option maxRecDepth 100000
namespace Go.Wk
open Go.Px
open Go.Lib renaming itoa → zaZ
open Int renaming toNat_natCast → zaw
open UInt8 renaming ofNat → zbm
theorem dig_of:∀n:Fin 10,acf (zbm (48+n.val))=true∧(zbm (48+n.val)).toNat-48=n.val∧sub ([48,49,50,51,52,53,54,55,56,57]:Str) (n.val:Int) ((n.val:Int)+1)=[zbm (48+n.val)]:=by decide+kernel
theorem dig_at(n:Nat)(h:n<10):acf (zbm (48+n))=true∧(zbm (48+n)).toNat-48=n∧sub ([48,49,50,51,52,53,54,55,56,57]:Str) (n:Int) ((n:Int)+1)=[zbm (48+n)]:=dig_of ⟨n,h⟩
theorem dd_ok:∀(k n:Nat),n<10^(k+1)→(Lib.decDigits n).all acf=true∧agy (Lib.decDigits n)=n∧1≤(Lib.decDigits n).length∧(Lib.decDigits n).length≤k+1:=by
 intro k
 induction k with
 |zero=>
  intro n h
  have h:n<10:=by simpa using h
  have:=dig_at n h
  rw [Lib.decDigits,dif_pos h]
  refine⟨by simpa using this.1, ?_,by simp,by simp⟩
  show 10*0+_=n
  omega
 |succ k ih=>
  intro n h
  rw [Lib.decDigits]
  by_cases h1:n<10
  ·have:=dig_at n h1
   rw [dif_pos h1]
   refine⟨by simpa using this.1, ?_,by simp,by simp⟩
   show 10*0+_=n
   omega
  ·have hd:=dig_at (n%10) (Nat.mod_lt _ (by decide))
   have:=ih (n/10) (by rw [Nat.pow_succ]at h;omega)
   rw [dif_neg h1]
   refine⟨by rw [List.all_append,this.1];simpa using hd.1, ?_,by simp,by simp;omega⟩
   rw [auc,this.2.1,hd.2.1]
   omega
theorem itoa_nat(n:Nat):zaZ (n:Int)=Lib.decDigits n:=by
 unfold zaZ
 rw [if_neg (by omega),zaw]
theorem atg(n:Int)(h0:0≤n)(h:n≤65535):numQ (zaZ n)=(n,0)∧1≤(zaZ n).length∧(zaZ n).length≤5∧(zaZ n).all acf=true:=by
 obtain⟨m,rfl⟩:∃m:Nat,n=(m:Int):=⟨n.toNat,by omega⟩
 obtain⟨h1,h2,h3,h4⟩:=dd_ok 4 m (by omega)
 rw [itoa_nat]
 refine⟨?_,h3,h4,h1⟩
 unfold numQ
 rw [h1,h2,if_neg (by rintro(h|h|h)<;>first|omega|cases h),if_neg (by omega)]
open List renaming drop_zero → zbu
open Option renaming bind_some → zaa
theorem get_lp(l:List PP)(hl:l.length≤4194304)(hn:∀p∈l,p.1.length≤4194304)(y:Str)(n:Nat):∀(k fk:Nat),k+n=l.length→n<fk→
  akz FU l y fk (k:Int)=some (match(l.drop k).find? (fun p=>aaj p.1==y)with|none=>.inl ()|some p=>.inr (p.2.1,true)):=by
 induction n with
 |zero=>
  intro k fk hk hf
  obtain⟨fk,rfl⟩:=fkx fk
  obtain rfl:k=l.length:=by omega
  rw [art,ame,if_neg omg,List.drop_length];rfl
 |succ n ih=>
  intro k fk hk hf
  obtain⟨fk,rfl⟩:=fkx fk
  have hlt:k<l.length:=by omega
  have hin:(0:Int)≤(k:Int)∧(k:Int)<(l.length:Int):=by omega
  have hd:l.drop k=el l (k:Int)::l.drop (k+1):=by rw [el_nat _ _ hlt,List.drop_eq_getElem_cons hlt]
  rw [art,ame,if_pos hin.2,aab hin,aab hin,aix _ (hn _ (el_mem2 l k hlt)),zaa,hd,List.find?_cons]
  by_cases h:aaj (el l (k:Int)).1=y
  ·rw [if_pos h,show(aaj (el l (k:Int)).1==y)=true by simpa using h]
  ·rw [if_neg h,show(aaj (el l (k:Int)).1==y)=false by simpa using h,aab (aen _ omg omg),agc,ih (k+1) fk omg omg]
theorem get_eq(l:List PP)(hl:l.length≤4194304)(hn:∀p∈l,p.1.length≤4194304)(name:Str)(hm:name.length≤4194304):ajo FU l name=some (getP l name):=by
 have:=get_lp l hl hn (aaj name) l.length 0 FU omg (by rw [amu];omega)
 rw [zbu]at this
 have this':akz FU l (aaj name) FU (0:Int)=_:=this
 unfold ajo
 rw [aix _ hm,zaa,this',zaa]
 have e:getP l name=(match l.find? (fun p=>aaj p.1==aaj name)with|some p=>(p.2.1,true)|none=>([],false)):=rfl
 rw [e]
 cases l.find? (fun p=>aaj p.1==aaj name)<;>rfl
theorem contains_any(v:Str)(c:UInt8):Lib.contains v [c]=v.any (·==c):=by
 unfold Lib.contains
 rcases idx47 c v with⟨h1,h2⟩|⟨f,s2,h1,h2,h3⟩
 ·rw [h1,decide_eq_false omg]
  symm
  rw [List.any_eq_false]
  intro x hx
  simpa using h2 x hx
 ·rw [h3,decide_eq_true omg,h1]
  simp
def sepB(c:UInt8):Bool:=c==59||aah c
theorem parM_names(s:Str)(hs:s.length≤4194304):∀(f:Nat) (l:List PP) (i:Nat),(∀p∈l,aaj p.1=p.1∧p.1.length≤s.length∧p.2.1.length≤90000000)→∀p∈(parM s f l i).1,aaj p.1=p.1∧p.1.length≤s.length∧p.2.1.length≤90000000
 |0,_,_,_=>by simp [parM]
 |f+1,l,i,h=>by
  rw [parM]
  split
  ·exact h
  ·split
   ·simp
   ·split
    ·rename_i h0
     have hb2:=ada aah s ((aax aah s (i:Int)+1:Nat):Int)
     have hbd:=listP_bd s hs _ hb2 h0
     split
     ·refine parM_names s hs f _ _ fun p hp=> ?_
      rcases List.mem_append.1 hp with hp|hp
      ·exact h p hp
      ·rw [List.mem_singleton.1 hp];exact⟨hbd.2.2.2.1,hbd.2.2.2.2.1,hbd.2.2.2.2.2⟩
     ·simp
    ·simp
theorem parP_names(s:Str)(hs:s.length≤4194304):∀p∈(parP s).1,aaj p.1=p.1∧p.1.length≤s.length∧p.2.1.length≤90000000:=parM_names s hs _ [] 0 (by simp)
theorem parP_len(s:Str):(parP s).1.length≤16:=parM_len s _ [] 0 (by simp)
theorem port_ok(y:Int×UInt8):((if y.2=(0:UInt8)then(if y.1<(1:Int)then some true else some (decide ((65535:Int)<y.1)))else some false).bind fun(b:Bool)=>(bif b then some (3:UInt8)else some y.2))=some (if y.2=0∧(y.1<1∨65535<y.1)then 3 else y.2):=by
 by_cases h0:y.2=0
 ·rw [if_pos h0]
  by_cases h1:y.1<1
  ·rw [if_pos h1,if_pos ⟨h0,.inl h1⟩];rfl
  ·rw [if_neg h1]
   by_cases h2:65535<y.1
   ·rw [decide_eq_true h2,if_pos ⟨h0,.inr h2⟩];rfl
   ·rw [decide_eq_false h2,if_neg (by rintro⟨_,h|h⟩<;>contradiction)];rfl
 ·rw [if_neg h0,if_neg (fun h=>h0 h.1)];rfl
def colF(E:Nat):Str→Nat→Nat→Nat
 |[],_,c=>c
 |x::l,k,c=>colF E l (k+1) (if x=93 then E else if x=58 then k else c)
def cutR(P:Str):Str×Str×Bool:=if colF P.length P 0 P.length=P.length then(P,[],false)else(P.take (colF P.length P 0 P.length),P.drop (colF P.length P 0 P.length+1),true)
open Bool renaming not_false → zaN, not_true → zaC
open List renaming append_nil → zam, drop_eq_nil_of_le → zbp, drop_zero → zbu, length_append → zac, length_drop → zat, length_singleton → zae, length_take → zaP, nil_append → zaB
open Nat renaming add_zero → zaM, le_refl → zap
open Sum renaming elim_inl → zaI
theorem ixb_hasB(l:Str)(c:UInt8):decide ((0:Int)≤ixb (·==c) l)=apy l c:=ixb_has_dec l c
theorem inClass_eq(c:UInt8)(k:Int)(hk:k=0∨k=1∨k=2):akv FU c k=some (inC c k):=by
 unfold akv
 rw [ad_letter,zaa]
 have hin:∀b:Bool,inC c k=(b||apy (classL k) c)→((some b).bind fun(v19:Bool)=>(bif v19 then some true else(((if(0:Int)≤k then(if k≤(2:Int)then(gd (0≤k∧k<(3:Int))<|(gd (0≤k∧k<(alo.length:Int))<|some (decide ((0:Int)≤(ixb (·==c) (el alo k))))))else some false)else some false)).bind fun(v48:Bool)=>some v48)))=some (inC c k):=by
  intro b hb
  rw [hb,zaa]
  cases b with
  |true=>rfl
  |false=>
   have hl:(alo.length:Int)=3:=rfl
   have hc:el alo k=classL k:=by rcases hk with rfl|rfl|rfl<;>rfl
   rw [cond_false,if_pos (by omega),if_pos (by omega),aab (by omega),aab (by omega),hc,ixb_hasB];rfl
 cases h1:letterB c with
 |true=>rw [cond_true];exact hin true (by unfold inC;rw [h1];rfl)
 |false=>
  rw [cond_false,ad_digit,zaa]
  cases h2:acf c with
  |true=>rw [cond_true];exact hin true (by unfold inC;rw [h1,h2];rfl)
  |false=>
   rw [cond_false,ixb_hasB]
   exact hin _ (by unfold inC;rw [h1,h2];rfl)
def hx(c:UInt8):UInt8:=((adh FU c).getD (0,false)).1
theorem hexD_eq:∀c:UInt8,adh FU c=some (hx c,hexB c):=aae _ (by decide+kernel)
theorem hx_lt:∀c:UInt8,(hx c).toNat<16:=aae _ (by decide+kernel)
theorem shl_or:∀a b:Fin 16,(shl8 (zbm a.val) (4:Int))|||zbm b.val=zbm (16*a.val+b.val):=by decide+kernel
def esV(a b:UInt8):UInt8:=zbm (16*(hx a).toNat+(hx b).toNat)
theorem shl_or'(a b:UInt8):(shl8 (hx a) (4:Int))|||hx b=esV a b:=by
 have:=shl_or ⟨(hx a).toNat,hx_lt a⟩ ⟨(hx b).toNat,hx_lt b⟩
 simp only [UInt8.ofNat_toNat]at this
 exact this
def escH(l:Str):Option UInt8:=if 2<l.length∧at_ l 0=37∧hexB (at_ l 1)=true∧hexB (at_ l 2)=true then some (esV (at_ l 1) (at_ l 2))else none
theorem at_drop(s:Str)(i:Nat)(j:Nat):at_ (s.drop i) (j:Int)=at_ s ((i+j:Nat):Int):=by
 simp only [at_,zaw,List.getD_eq_getElem?_getD,List.getElem?_drop]
theorem escAt_eq(s:Str)(hs:s.length≤4194304)(i:Nat)(hi:i<s.length):∃v,ajk FU s (i:Int)=some (v,(escH (s.drop i)).isSome)∧((escH (s.drop i)).isSome=true→escH (s.drop i)=some v):=by
 have a0:=at_drop s i 0
 have a1:=at_drop s i 1
 have a2:=at_drop s i 2
 have e1:(i:Int)+1=((i+1:Nat):Int):=rfl
 have e2:(i:Int)+2=((i+2:Nat):Int):=rfl
 have hl:(s.drop i).length=s.length-i:=zat
 rw [zaM]at a0
 have a0':at_ (s.drop i) 0=at_ s (i:Int):=a0
 have a1':at_ (s.drop i) 1=at_ s ((i+1:Nat):Int):=a1
 have a2':at_ (s.drop i) 2=at_ s ((i+2:Nat):Int):=a2
 unfold ajk escH
 rw [aab (aen _ (by omega) (by omega)),e1,e2,hl,a0',a1',a2']
 by_cases h2:s.length≤i+2
 ·rw [if_pos (by omega),zaa,cond_true,if_neg (by omega)]
  exact⟨0,rfl,fun h=>absurd h (by decide)⟩
 ·rw [if_neg (by omega),aab (by omega),zaa]
  by_cases h37:at_ s (i:Int)=37
  ·rw [decide_eq_true h37,zaC,cond_false,aab (aen _ (by omega) (by omega)),aab (by omega),hexD_eq,zaa,aab (aen _ (by omega) (by omega)),aab (by omega),hexD_eq,zaa,shl_or']
   cases ha:hexB (at_ s ((i+1:Nat):Int))with
   |false=>
    rw [cond_false,zaa,if_neg (fun h=>absurd h.2.2.1 (by decide))]
    exact⟨_,rfl,fun h=>absurd h (by decide)⟩
   |true=>
    rw [cond_true,zaa]
    cases hb:hexB (at_ s ((i+2:Nat):Int))with
    |false=>
     rw [if_neg (fun h=>absurd h.2.2.2 (by decide))]
     exact⟨_,rfl,fun h=>absurd h (by decide)⟩
    |true=>
     rw [if_pos ⟨by omega,h37,rfl,rfl⟩]
     exact⟨_,rfl,fun _=>rfl⟩
  ·rw [decide_eq_false h37,zaN,cond_true,if_neg (fun h=>h37 h.2.1)]
   exact⟨0,rfl,fun h=>absurd h (by decide)⟩
def badF(k:Int):Nat→Str→Option Nat
 |0,_=>none
 |f+1,l=>if l=[]then none else if inC (at_ l 0) k=true then(badF k f (l.drop 1)).map (·+1)
  else match escH l with
   |some v=>if aas v=true then some 0 else(badF k f (l.drop 3)).map (·+3)
   |none=>some 0
def conF(k:Int):Nat→Str→Str
 |0,_=>[]
 |f+1,l=>if l=[]then []else if inC (at_ l 0) k=true then at_ l 0::conF k f (l.drop 1)
  else match escH l with
   |some v=>v::conF k f (l.drop 3)
   |none=>[]
def badP(k:Int)(l:Str):Option Nat:=badF k (l.length+1) l
def conP(k:Int)(l:Str):Str:=conF k (l.length+1) l
theorem inC37(k:Int)(hk:k=0∨k=1∨k=2):inC 37 k=false:=by rcases hk with rfl|rfl|rfl<;>decide
theorem escH_head{l:Str}{v:UInt8}(h:escH l=some v):2<l.length∧at_ l 0=37:=by
 unfold escH at h
 split at h
 ·rename_i hc;exact⟨hc.1,hc.2.1⟩
 ·cases h
theorem ad_control(c:UInt8):anb FU c=some (aas c):=by revert c;exact aae _ (by decide+kernel)
theorem wrong_lp(s:Str)(i0:Int)(e:Nat)(hs:s.length≤4194304)(he:e≤s.length)(k:Int)(hk:k=0∨k=1∨k=2)(n:Nat):∀(i fk f:Nat),e-i≤n→n<fk→i≤e→e-i<f→
  afk FU (s,i0) (e:Int) k fk (i:Int)=some (match badF k f ((s.take e).drop i)with|none=>.inl ()|some j=>.inr (((i+j:Nat):Int),true)):=by
 induction n with
 |zero=>
  intro i fk f hi hf hie hff
  obtain⟨fk,rfl⟩:=fkx fk
  obtain⟨f,rfl⟩:∃m,f=m+1:=⟨f-1,by omega⟩
  rw [agv,acx,if_neg (by omega),badF,if_pos (zbp (by rw [zaP];omega))]
 |succ n ih=>
  intro i fk f hi hf hie hff
  obtain⟨fk,rfl⟩:=fkx fk
  obtain⟨f,rfl⟩:∃m,f=m+1:=⟨f-1,by omega⟩
  by_cases hlt:i<e
  ·have hlen:((s.take e).drop i).length=e-i:=by rw [zat,zaP];omega
   have hne:¬(s.take e).drop i=[]:=fun h=>by rw [h]at hlen;simp at hlen;omega
   have hat:at_ ((s.take e).drop i) 0=at_ s (i:Int):=by
    have:=at_drop (s.take e) i 0
    rw [zaM]at this
    rw [show at_ ((s.take e).drop i) 0=at_ (s.take e) (i:Int)from this]
    simp only [at_,zaw,List.getD_eq_getElem?_getD]
    rw [List.getElem?_take_of_lt hlt]
   have d1:((s.take e).drop i).drop 1=(s.take e).drop (i+1):=by rw [List.drop_drop]
   have d3:((s.take e).drop i).drop 3=(s.take e).drop (i+3):=by rw [List.drop_drop]
   rw [agv,acx,if_pos (by omega),aab (show 0≤(i:Int)∧(i:Int)<(s.length:Int)by omega),inClass_eq _ k hk,zaa,badF,if_neg hne,hat]
   cases hc:inC (at_ s (i:Int)) k with
   |true=>
    rw [cond_true,aab (aen _ (by omega) (by omega)),agc,ih (i+1) fk f (by omega) (by omega) (by omega) (by omega),if_pos rfl,d1]
    cases badF k f ((s.take e).drop (i+1))with
    |none=>rfl
    |some j=>
     show some (Sum.inr _)=some (Sum.inr _)
     congr 3
     try dsimp only
     omega
   |false=>
    have htl:(s.take e).length=e:=by rw [zaP];omega
    obtain⟨v,h1,h2⟩:=escAt_eq (s.take e) (by omega) i (by omega)
    rw [cond_false,aab (show 0≤(e:Int)∧(e:Int)≤(s.length:Int)by omega),zaw,h1,zaa,if_neg (show¬(false=true)by decide)]
    cases hE:escH ((s.take e).drop i)with
    |none=>
     simp only [Option.isSome_none,zaN,cond_true,zaa]
     congr 3
    |some v'=>
     rw [hE]at h2
     obtain rfl:v'=v:=by have:=h2 rfl;simpa using this
     have hl3:=(escH_head hE).1
     simp only [Option.isSome_some,zaC,cond_false]
     rw [ad_control,zaa,zaa]
     cases hcv:aas v' with
     |true=>rw [cond_true,if_pos rfl];rfl
     |false=>
      rw [cond_false,aab (aen _ (by omega) (by omega)),aab (aen _ (by omega) (by omega)),if_neg (show¬(false=true)by decide),d3]
      have e3:(i:Int)+2+1=((i+3:Nat):Int):=by omega
      rw [e3,ih (i+3) fk f (by omega) (by omega) (by omega) (by omega)]
      cases badF k f ((s.take e).drop (i+3))with
      |none=>rfl
      |some j=>
       show some (Sum.inr _)=some (Sum.inr _)
       congr 3
       try dsimp only
       omega
  ·rw [agv,acx,if_neg (by omega),badF,if_pos (zbp (by rw [zaP];omega))]
theorem wrong_eq(s:Str)(hs:s.length≤4194304)(i e:Nat)(hie:i≤e)(he:e≤s.length)(k:Int)(hk:k=0∨k=1∨k=2):
  adj FU (s,(i:Int)) (e:Int) k=some (match badP k (sub s (i:Int) (e:Int))with|none=>((0:Int),false)|some j=>(((i+j:Nat):Int),true)):=by
 have hsub:sub s (i:Int) (e:Int)=(s.take e).drop i:=by unfold sub;rw [zaw,zaw,List.drop_take]
 have hlen:((s.take e).drop i).length=e-i:=by rw [zat,zaP];omega
 have:=wrong_lp s (i:Int) e hs he k hk (e-i) i FU ((sub s (i:Int) (e:Int)).length+1) (zap _) (by rw [amu];omega) hie (by rw [hsub,hlen];omega)
 unfold adj
 simp only
 rw [this,zaa,←hsub]
 unfold badP
 cases badF k ((sub s (i:Int) (e:Int)).length+1) (sub s (i:Int) (e:Int))<;>rfl
theorem unesc_lp(s:Str)(hs:s.length≤4194304)(k:Int)(hk:k=0∨k=1∨k=2)(n:Nat):∀(i fk f:Nat) (b:Str),s.length-i≤n→n<fk→i≤s.length→s.length-i<f→b.length≤i→badF k f (s.drop i)=none→
  afo FU s fk b (i:Int)=some (.inl (b++conF k f (s.drop i))):=by
 induction n with
 |zero=>
  intro i fk f b hi hf hie hff hb hbad
  obtain⟨fk,rfl⟩:=fkx fk
  obtain⟨f,rfl⟩:∃m,f=m+1:=⟨f-1,by omega⟩
  rw [aky,afd,if_neg (by omega),conF,if_pos (zbp (by omega)),zam]
 |succ n ih=>
  intro i fk f b hi hf hie hff hb hbad
  obtain⟨fk,rfl⟩:=fkx fk
  obtain⟨f,rfl⟩:∃m,f=m+1:=⟨f-1,by omega⟩
  by_cases hlt:i<s.length
  ·have hin:0≤(i:Int)∧(i:Int)<(s.length:Int):=by omega
   have hlen:(s.drop i).length=s.length-i:=zat
   have hne:¬s.drop i=[]:=fun h=>by rw [h]at hlen;simp at hlen;omega
   have hat:at_ (s.drop i) 0=at_ s (i:Int):=by
    have:=at_drop s i 0
    rw [zaM]at this;exact this
   have d1:(s.drop i).drop 1=s.drop (i+1):=by rw [List.drop_drop]
   have d3:(s.drop i).drop 3=s.drop (i+3):=by rw [List.drop_drop]
   rw [badF,if_neg hne,hat]at hbad
   rw [aky,afd,if_pos hin.2,aab hin,conF,if_neg hne,hat]
   by_cases hc:inC (at_ s (i:Int)) k=true
   ·have h37:¬at_ s (i:Int)=37:=fun e=>by rw [e,inC37 k hk]at hc;cases hc
    rw [if_pos hc,Option.map_eq_none_iff,d1]at hbad
    rw [if_neg h37,aab hin,aab (by simp only [zae];omega),aab (aen _ (by omega) (by omega)),agc,ih (i+1) fk f _ (by omega) (by omega) (by omega) (by omega) (by simp only [zac,zae];omega) hbad,if_pos hc,d1]
    simp
   ·rw [if_neg hc]at hbad⊢
    cases hE:escH (s.drop i)with
    |none=>rw [hE]at hbad;cases hbad
    |some v=>
     rw [hE]at hbad
     simp only at hbad
     have hl3:=(escH_head hE).1
     have h37:at_ s (i:Int)=37:=by rw [←hat];exact(escH_head hE).2
     obtain⟨v',h1,h2⟩:=escAt_eq s hs i hlt
     rw [hE]at h1 h2
     obtain rfl:v=v':=by have:=h2 rfl;simpa using this
     by_cases hcv:aas v=true
     ·rw [if_pos hcv]at hbad;cases hbad
     ·rw [if_neg hcv,Option.map_eq_none_iff,d3]at hbad
      have e3:(i:Int)+2+1=((i+3:Nat):Int):=by omega
      rw [if_pos h37,h1,zaa]
      simp only [Option.isSome_some,zaC,cond_false]
      rw [aab (by simp only [zae];omega),aab (aen _ (by omega) (by omega)),aab (aen _ (by omega) (by omega)),e3,ih (i+3) fk f _ (by omega) (by omega) (by omega) (by omega) (by simp only [zac,zae];omega) hbad,d3]
      simp
  ·rw [aky,afd,if_neg (by omega),conF,if_pos (zbp (by omega)),zam]
theorem content_eq(s:Str)(hs:s.length≤4194304)(k:Int)(hk:k=0∨k=1∨k=2)(hbad:badP k s=none):ahk FU s=some (conP k s):=by
 have:=unesc_lp s hs k hk s.length 0 FU (s.length+1) [] (by omega) (by rw [amu];omega) (by omega) (by omega) (by simp) (by rw [zbu];exact hbad)
 have this':afo FU s FU ([]:List UInt8) (0:Int)=_:=this
 unfold ahk apa
 rw [gd_mk (by omega),this',zaa,zaI,zaa,zaB,zbu];rfl
open Go.Lib renaming indexAny → zbe
open List renaming length_cons → zad, length_drop → zat
open Option renaming map_eq_some_iff → zbk
def utl(st:Str)(s:Str)(i:Nat):Nat:=i+apv (fun c=> !apy st c) (s.drop i)
theorem utl_ge(st s:Str)(i:Nat):i≤utl st s i:=Nat.le_add_right _ _
theorem arv(st s:Str)(i:Nat)(hi:i≤s.length):utl st s i≤s.length:=by
 have:=are (fun c=> !apy st c) (s.drop i)
 rw [zat]at this
 unfold utl;omega
theorem contains_hasB(st:Str):(fun c=>st.contains c)=apy st:=by
 funext c
 unfold apy
 rw [List.contains_eq_any_beq]
 congr 1
 funext b
 exact Bool.beq_comm
theorem aqu(s:Str)(hs:s.length≤4194304)(i:Nat)(hi:i≤s.length)(st:Str)(h1:st.length≤1000)(h2:st.all (fun b=>decide (b.toNat<128))=true):aai FU s (i:Int) st=some ((utl st s i:Nat):Int):=by
 have hd:(s.drop i).length=s.length-i:=zat
 have hsp:=ixb_spec (apy st) (s.drop i)
 have hi':zbe (s.drop i) st=ixb (apy st) (s.drop i):=by rw [asd,contains_hasB]
 unfold aai utl
 rw [aab (by omega),zaw,aab ⟨by omega,h1,h2⟩,hi']
 rcases hsp with⟨h3,h4⟩|⟨h3,h4,h5⟩
 ·rw [if_neg (by omega),h4,hd]
  congr 1
  try dsimp only
  omega
 ·rw [if_pos h3,aab (aen _ (by omega) (by omega)),h5];rfl
theorem utl_stop(st s:Str)(i:Nat)(hi:i≤s.length)(h:utl st s i<s.length):apy st (at_ s ((utl st s i:Nat):Int))=true:=by
 have hd:(s.drop i).length=s.length-i:=zat
 have key:∀l:Str,apv (fun c=> !apy st c) l<l.length→apy st (at_ l (apv (fun c=> !apy st c) l:Int))=true:=by
  intro l
  induction l with
  |nil=>intro h;simp at h
  |cons a l ih=>
   intro h
   cases ha:apy st a with
   |true=>
    have e:apv (fun c=> !apy st c) (a::l)=0:=span_no _ a l (by simp [ha])
    rw [e];exact ha
   |false=>
    have e:apv (fun c=> !apy st c) (a::l)=apv (fun c=> !apy st c) l+1:=by rw [apv,if_pos (by simp [ha])]
    rw [e]at h⊢
    have:=ih (by simp only [zad]at h;omega)
    simpa [at_] using this
 unfold utl at h⊢
 have:=key (s.drop i) (by omega)
 rw [at_drop]at this
 exact this
theorem badF_len(k:Int):∀(f:Nat) (l:Str) (j:Nat),badF k f l=some j→j<l.length
 |0,_,_,h=>by cases h
 |f+1,l,j,h=>by
  rw [badF]at h
  by_cases hn:l=[]
  ·rw [if_pos hn]at h;cases h
  ·have hl:=List.length_pos_iff.2 hn
   rw [if_neg hn]at h
   split at h
   ·rw [zbk]at h
    obtain⟨x,hx,rfl⟩:=h
    have:=badF_len k f _ x hx
    rw [zat]at this;omega
   ·split at h
    ·rename_i v hE
     split at h
     ·rw [Option.some.injEq]at h;omega
     ·rw [zbk]at h
      obtain⟨x,hx,rfl⟩:=h
      have:=badF_len k f _ x hx
      rw [zat]at this;omega
    ·rw [Option.some.injEq]at h;omega
theorem conF_len(k:Int):∀(f:Nat) (l:Str),(conF k f l).length≤l.length
 |0,_=>by simp [conF]
 |f+1,l=>by
  rw [conF]
  by_cases hn:l=[]
  ·rw [if_pos hn];simp
  ·have hl:=List.length_pos_iff.2 hn
   rw [if_neg hn]
   split
   ·have:=conF_len k f (l.drop 1)
    rw [zat]at this
    rw [zad];omega
   ·split
    ·have:=conF_len k f (l.drop 3)
     rw [zat]at this
     rw [zad];omega
    ·simp
theorem conP_len(k:Int)(l:Str):(conP k l).length≤l.length:=conF_len k _ l
theorem conP_nil(k:Int)(l:Str)(hb:badP k l=none):conP k l=[]↔l=[]:=by
 unfold conP badP at*
 rw [conF]
 rw [badF]at hb
 by_cases hn:l=[]
 ·rw [if_pos hn];simp [hn]
 ·rw [if_neg hn]at hb⊢
  constructor
  ·intro h
   exfalso
   split at h
   ·cases h
   ·rename_i hc
    rw [if_neg hc]at hb
    split at h
    ·cases h
    ·rename_i hE
     rw [hE]at hb;cases hb
  ·intro h;exact absurd h hn
open Bool renaming not_false → zaN, not_true → zaC, or_false → zbx
open List renaming any_cons → zbs, eq_nil_of_length_eq_zero → zao, length_drop → zat
abbrev UU:=Str×Str×Str×Int×List PP×List PP
def usrP(U:Str):UInt8×Str:=match badP 0 U with|some j=>(if at_ U (j:Int)=58 then 15 else 5,[])|none=>if U=[]then(5,[])else(0,conP 0 U)
theorem utl1(b:UInt8)(s:Str)(i:Nat):utl [b] s i=i+apv (fun c=> !(c==b)) (s.drop i):=by
 have e:(fun c=> !apy [b] c)=(fun c=> !(c==b)):=by
  funext c
  unfold apy
  rw [zbs,List.any_nil,zbx,Bool.beq_comm]
 unfold utl
 rw [e]
def hEnd(s:Str)(i:Nat):Nat:=if aea s i 91=true then min (utl [93] s i+1) s.length else utl [58,59,63] s i
def hpP (s : Str) (i : Nat) : UInt8 × Str × Int × Nat :=
  if (afi (sub s (i : Int) (hEnd s i : Int))).2 = false then (5, [], 0, 0)
  else if aea s (hEnd s i) 58 = true then
    (if (portQ (sub s ((hEnd s i + 1 : Nat) : Int) (utl [59, 63] s (hEnd s i + 1) : Int))).2 = 0 then (0, (afi (sub s (i : Int) (hEnd s i : Int))).1, (portQ (sub s ((hEnd s i + 1 : Nat) : Int) (utl [59, 63] s (hEnd s i + 1) : Int))).1, utl [59, 63] s (hEnd s i + 1))
     else ((portQ (sub s ((hEnd s i + 1 : Nat) : Int) (utl [59, 63] s (hEnd s i + 1) : Int))).2, [], 0, 0))
  else if hEnd s i < s.length ∧ aea s (hEnd s i) 59 = false ∧ aea s (hEnd s i) 63 = false then (5, [], 0, 0)
  else (0, (afi (sub s (i : Int) (hEnd s i : Int))).1, 0, hEnd s i)
theorem hEnd_bd(s:Str)(i:Nat)(hi:i≤s.length):i≤hEnd s i∧hEnd s i≤s.length:=by
 have h1:=utl_ge [93] s i
 have h2:=arv [93] s i hi
 have h3:=utl_ge [58,59,63] s i
 have h4:=arv [58,59,63] s i hi
 unfold hEnd
 split
 ·rename_i h
  have:=(akc h).1
  omega
 ·omega
def plP(s:Str)(i:Nat):UInt8×Str×(Str×Int×Nat):=
 if utl [64] s i<s.length then
  (if(usrP (sub s (i:Int) (utl [64] s i:Int))).1=0 then((hpP s (utl [64] s i+1)).1,(usrP (sub s (i:Int) (utl [64] s i:Int))).2,(hpP s (utl [64] s i+1)).2)else((usrP (sub s (i:Int) (utl [64] s i:Int))).1,[],[],0,0))
 else((hpP s i).1,[],(hpP s i).2)
theorem adHp_eq(s:Str)(hs:s.length≤4194304)(i:Nat)(hi:i≤s.length)(sch us:Str):∃a c u,0≤a∧a≤5000000∧((aai FU s (i:Int) ([58,59,63]:Str)).bind fun(y68:Int)=>((((aad FU (s,(i:Int)) (91:UInt8)).bind fun(y91:Bool)=>(bif y91 then((aai FU s (i:Int) ([93]:Str)).bind fun(y97:Int)=>(gd (aay (y97+(1:Int)))<|some (min (y97+(1:Int)) (s.length:Int))))else some y68))).bind fun(v90:Int)=>(gd (0≤(i:Int)∧(i:Int)≤v90∧v90≤(s.length:Int))<|((aeq FU (sub s (i:Int) v90)).bind fun(y108:(Str×Bool))=>(bif (!y108.2)then some ((i:Int),(5:UInt8),(s,(i:Int)),((sch,us,([]:Str),(0:Int),([]:List PP),([]:List PP)):UU))else((aad FU (s,v90) (58:UInt8)).bind fun(y118:Bool)=>(bif y118 then(gd (aay (v90+(1:Int)))<|((aai FU s (v90+(1:Int)) ([59,63]:Str)).bind fun(y127:Int)=>(gd (0≤(v90+(1:Int))∧(v90+(1:Int))≤y127∧y127≤(s.length:Int))<|((agz FU (sub s (v90+(1:Int)) y127)).bind fun(y135:(Int×UInt8))=>(((((if y135.2=(0:UInt8)then(if y135.1<(1:Int)then some true else some (decide ((65535:Int)<y135.1)))else some false)).bind fun(v160:Bool)=>(bif v160 then some (3:UInt8)else some y135.2))).bind fun(v154:UInt8)=>(if v154=(0:UInt8)then some ((0:Int),(0:UInt8),(s,y127),((sch,us,y108.1,y135.1,([]:List PP),([]:List PP)):UU))else some (v90+(1:Int),v154,(s,v90+(1:Int)),((sch,us,y108.1,(0:Int),([]:List PP),([]:List PP)):UU))))))))else((((abz FU (s,v90)).bind fun(y194:Bool)=>(bif (!y194)then((aad FU (s,v90) (59:UInt8)).bind fun(y200:Bool)=>(bif (!y200)then((aad FU (s,v90) (63:UInt8)).bind fun(y206:Bool)=>some (!y206))else some false))else some false))).bind fun(v193:Bool)=>(bif v193 then some (v90,(5:UInt8),(s,v90),((sch,us,y108.1,(0:Int),([]:List PP),([]:List PP)):UU))else some ((0:Int),(0:UInt8),(s,v90),((sch,us,y108.1,(0:Int),([]:List PP),([]:List PP)):UU)))))))))))
  =some (a,(hpP s i).1,c,u)∧((hpP s i).1=0→c=(s,((hpP s i).2.2.2:Int))∧u=(sch,us,(hpP s i).2.1,(hpP s i).2.2.1,[],[])):=by
 have hb:=hEnd_bd s i hi
 have e1:((if aea s i 91=true then some ((min (utl [93] s i+1) s.length:Nat):Int)else some ((utl [58,59,63] s i:Nat):Int)))=some ((hEnd s i:Nat):Int):=by unfold hEnd;split<;>rfl
 have e2:((aad FU (s,(i:Int)) (91:UInt8)).bind fun(y91:Bool)=>(bif y91 then((aai FU s (i:Int) ([93]:Str)).bind fun(y97:Int)=>(gd (aay (y97+(1:Int)))<|some (min (y97+(1:Int)) (s.length:Int))))else some ((utl [58,59,63] s i:Nat):Int)))=some ((hEnd s i:Nat):Int):=by
  have hu:=arv [93] s i hi
  rw [anf,zaa,←e1]
  cases aea s i 91 with
  |false=>rfl
  |true=>
   rw [cond_true,aqu s hs i hi _ (by decide) (by decide),zaa,aab (aen _ (by omega) (by omega)),if_pos rfl]
   congr 1
   try dsimp only
   omega
 rw [aqu s hs i hi _ (by decide) (by decide),zaa,e2,zaa]
 unfold hpP
 generalize hEnd s i=e at hb⊢
 rw [aab (by omega),adHost_eq _ (by rw [aql];omega),zaa]
 cases hh:(afi (sub s (i:Int) (e:Int))).2 with
 |false=>exact⟨_,_,_,(by omega),(by omega),rfl,fun h=>by rw [if_pos rfl]at h;exact absurd h (by decide)⟩
 |true=>
  rw [zaC,cond_false,if_neg (show¬(true=false)by decide),anf,zaa]
  cases h58:aea s e 58 with
  |true=>
   have hel:=(akc h58).1
   have hu1:=utl_ge [59,63] s (e+1)
   have hu2:=arv [59,63] s (e+1) hel
   rw [cond_true,if_pos rfl,aab (aen _ (by omega) (by omega)),agc,aqu s hs (e+1) hel _ (by decide) (by decide),zaa,aab (by omega),number_eq,zaa,port_ok,zaa]
   unfold portQ
   generalize numQ (sub s ((e+1:Nat):Int) ((utl [59,63] s (e+1):Nat):Int))=q
   by_cases hp:q.2=0∧(q.1<1∨65535<q.1)
   ·rw [if_pos hp,if_pos hp,if_neg (by decide),if_neg (by decide)]
    exact⟨_,_,_,(by omega),(by omega),rfl,fun h=>absurd h (by decide)⟩
   ·rw [if_neg hp,if_neg hp]
    by_cases h0:q.2=0
    ·rw [if_pos h0,if_pos h0];exact⟨_,_,_,(by omega),(by omega),rfl,fun _=>⟨rfl,rfl⟩⟩
    ·rw [if_neg h0,if_neg h0];exact⟨_,_,_,(by omega),(by omega),rfl,fun h=>absurd h h0⟩
  |false=>
   have e3:((abz FU (s,(e:Int))).bind fun(y194:Bool)=>(bif (!y194)then((aad FU (s,(e:Int)) (59:UInt8)).bind fun(y200:Bool)=>(bif (!y200)then((aad FU (s,(e:Int)) (63:UInt8)).bind fun(y206:Bool)=>some (!y206))else some false))else some false))=some (decide (e<s.length∧aea s e 59=false∧aea s e 63=false)):=by
    rw [ended_eq,zaa]
    by_cases hlt:e<s.length
    ·rw [decide_eq_false (show¬(s.length:Int)≤(e:Int)by omega),zaN,cond_true,anf,zaa]
     cases h59:aea s e 59 with
     |true=>rw [decide_eq_false (by rintro⟨_,h,_⟩;cases h)];rfl
     |false=>
      rw [zaN,cond_true,anf,zaa]
      cases h63:aea s e 63 with
      |true=>rw [decide_eq_false (by rintro⟨_,_,h⟩;cases h)];rfl
      |false=>rw [decide_eq_true ⟨hlt,rfl,rfl⟩];rfl
    ·rw [decide_eq_true (show(s.length:Int)≤(e:Int)by omega),decide_eq_false (fun h=>hlt h.1)];rfl
   rw [cond_false,if_neg (show¬(false=true)by decide),e3,zaa]
   by_cases hx:e<s.length∧aea s e 59=false∧aea s e 63=false
   ·rw [decide_eq_true hx,cond_true,if_pos hx];exact⟨_,_,_,(by omega),(by omega),rfl,fun h=>absurd h (by decide)⟩
   ·rw [decide_eq_false hx,cond_false,if_neg hx];exact⟨_,_,_,(by omega),(by omega),rfl,fun _=>⟨rfl,rfl⟩⟩
theorem place_eq(s:Str)(hs:s.length≤4194303)(i:Nat)(hi:i≤s.length)(sch:Str):∃a c u,0≤a∧a≤5000000∧aif FU (s,(i:Int)) (sch,[],[],0,[],[])=some (a,(plP s i).1,c,u)∧((plP s i).1=0→c=(s,((plP s i).2.2.2.2:Int))∧u=(sch,(plP s i).2.1,(plP s i).2.2.1,(plP s i).2.2.2.1,[],[])):=by
 have hd:(s.drop i).length=s.length-i:=zat
 have hsp:=ixb_spec (·==(64:UInt8)) (s.drop i)
 have hu:=utl1 64 s i
 unfold aif plP
 simp only
 rw [aab (by omega),zaw]
 rcases hsp with⟨h3,h4⟩|⟨h3,h4,h5⟩
 ·have hun:¬utl [64] s i<s.length:=by omega
  rw [if_neg (by omega),zaa,zaI,if_neg hun]
  exact adHp_eq s (by omega) i hi sch []
 ·have e1:(i:Int)+ixb (·==(64:UInt8)) (s.drop i)=((utl [64] s i:Nat):Int):=by rw [h5,hu];rfl
  have hlt:utl [64] s i<s.length:=by omega
  have hge:=utl_ge [64] s i
  have h0:(ixb (·==(64:UInt8)) (s.drop i)=0)↔utl [64] s i=i:=by omega
  rw [if_pos h3,e1,aab (aen _ (by omega) (by omega)),if_pos hlt,wrong_eq s (by omega) i _ hge (by omega) 0 (.inl rfl),zaa]
  have hsub:(sub s (i:Int) (utl [64] s i:Int)).length=utl [64] s i-i:=by rw [aql];omega
  unfold usrP
  cases hb:badP 0 (sub s (i:Int) (utl [64] s i:Int))with
  |some j=>
   have hj:j<utl [64] s i-i:=by
    have:=badF_len 0 _ _ j hb
    omega
   have hat:at_ s ((i+j:Nat):Int)=at_ (sub s (i:Int) (utl [64] s i:Int)) (j:Int):=by
    unfold sub
    rw [zaw,zaw]
    have:=at_drop s i j
    rw [←this]
    simp only [at_,zaw,List.getD_eq_getElem?_getD]
    rw [List.getElem?_take_of_lt hj]
   simp only
   rw [cond_true,aab (by omega),hat]
   by_cases h58:at_ (sub s (i:Int) (utl [64] s i:Int)) (j:Int)=58
   ·rw [if_pos h58,if_pos h58,zaa,Sum.elim_inr,if_neg (by decide)]
    exact⟨_,_,_,(by omega),(by omega),rfl,fun h=>absurd h (by decide)⟩
   ·rw [if_neg h58,if_neg h58,zaa,Sum.elim_inr,if_neg (by decide)]
    exact⟨_,_,_,(by omega),(by omega),rfl,fun h=>absurd h (by decide)⟩
  |none=>
   simp only
   rw [cond_false]
   by_cases hz:utl [64] s i=i
   ·have hn:sub s (i:Int) (utl [64] s i:Int)=[]:=by
     apply zao;omega
    rw [if_pos (h0.2 hz),if_pos hn,zaa,Sum.elim_inr,if_neg (by decide)]
    exact⟨_,_,_,(by omega),(by omega),rfl,fun h=>absurd h (by decide)⟩
   ·have hn:¬sub s (i:Int) (utl [64] s i:Int)=[]:=fun h=>by rw [h]at hsub;simp at hsub;omega
    rw [if_neg (fun h=>hz (h0.1 h)),if_neg hn,aab (by omega),content_eq _ (by omega) 0 (.inl rfl) hb,zaa,aab (aen _ (by omega) (by omega)),zaa,zaI,agc,if_pos rfl]
    exact adHp_eq s (by omega) _ (by omega) sch _
open List renaming eq_nil_of_length_eq_zero → zao, length_append → zac, length_cons → zad, length_drop → zat, length_nil → zal, length_take → zaP
theorem sub_take(s:Str)(i e n:Nat)(h:i+n≤e):sub s (i:Int) ((i+n:Nat):Int)=(sub s (i:Int) (e:Int)).take n:=by
 unfold sub
 simp only [zaw]
 rw [List.take_take]
 congr 1
 try dsimp only
 omega
theorem sub_drop2(s:Str)(i e n:Nat):sub s ((i+n+1:Nat):Int) (e:Int)=(sub s (i:Int) (e:Int)).drop (n+1):=by
 unfold sub
 simp only [zaw]
 rw [List.drop_take,List.drop_drop]
 congr 1
 try dsimp only
 omega
def aqr(T:Str):Nat:=apv (fun c=> !(c==61)) T
def fldP(k:Int)(l:List PP)(T:Str):UInt8×PP:=
 match badP k (T.take (aqr T))with
 |some _=>(5,([],[],false))
 |none=>if aqr T=0 then(5,([],[],false))else if aqr T<T.length then
   (match badP k (T.drop (aqr T+1))with
   |some _=>(5,([],[],false))
   |none=>if T.drop (aqr T+1)=[]∧k=1 then(5,([],[],false))else(apm l (aaj (conP k (T.take (aqr T)))),(aaj (conP k (T.take (aqr T))),conP k (T.drop (aqr T+1)),true)))
  else if k=2 then(5,([],[],false))else(apm l (aaj (conP k (T.take (aqr T)))),(aaj (conP k (T.take (aqr T))),[],false))
theorem field_eq(s:Str)(hs:s.length≤4194303)(i e:Nat)(hie:i≤e)(he:e≤s.length)(l:List PP)(hl:l.length≤16)(k:Int)(hk:k=1∨k=2):
  ∃l' a c,0≤a∧a≤5000000∧afn FU (s,(i:Int)) l (e:Int) k=some (l',a,(fldP k l (sub s (i:Int) (e:Int))).1,c)∧
   ((fldP k l (sub s (i:Int) (e:Int))).1=0→l'=l++[(fldP k l (sub s (i:Int) (e:Int))).2]∧c=(s,(e:Int))):=by
 have hk3:k=0∨k=1∨k=2:=.inr hk
 have hT:(sub s (i:Int) (e:Int)).length=e-i:=by rw [aql];omega
 have hst:=fun n h=>sub_take s i e n h
 have hsd:=fun n=>sub_drop2 s i e n
 have hroom:∀(nm v:Str) (h:Bool),∃l' a c,0≤a∧a≤5000000∧((alp FU l nm).bind fun(y112:UInt8)=>(if y112=(0:UInt8)then(gd ((l.length+([(nm,v,h)]:List PP).length)*40≤140737488355328)<|some (l++([(nm,v,h)]:List PP),(0:Int),(0:UInt8),(s,(e:Int))))else some (([]:List PP),(i:Int),y112,(s,(e:Int)))))=some (l',a,apm l nm,c)∧(apm l nm=0→l'=l++[(nm,v,h)]∧c=(s,(e:Int))):=by
  intro nm v h
  rw [room_eq l (by omega),zaa]
  by_cases h0:apm l nm=0
  ·rw [if_pos h0,aab (by simp only [zad,zal];omega),h0]
   exact⟨_,_,_,(by omega),(by omega),rfl,fun _=>⟨rfl,rfl⟩⟩
  ·rw [if_neg h0]
   exact⟨_,_,_,(by omega),(by omega),rfl,fun h=>absurd h h0⟩
 unfold afn
 simp only
 rw [aab (by omega)]
 generalize hTT:sub s (i:Int) (e:Int)=T at hT hst hsd⊢
 have hn:aqr T≤T.length:=are _ _
 have hix:=ixb_spec (·==(61:UInt8)) T
 have e10:(if(0:Int)≤(ixb (·==(61:UInt8)) T)then(gd (aay ((i:Int)+(ixb (·==(61:UInt8)) T)))<|some ((i:Int)+(ixb (·==(61:UInt8)) T)))else some (e:Int))=some ((i+aqr T:Nat):Int):=by
  unfold aqr at hn⊢
  rcases hix with⟨h1,h2⟩|⟨h1,h2,h3⟩
  ·rw [if_neg (by omega)];congr 1;omega
  ·rw [if_pos h1,aab (aen _ (by omega) (by omega))];congr 1;omega
 have hiff:(0:Int)≤ixb (·==(61:UInt8)) T↔aqr T<T.length:=by
  unfold aqr
  rcases hix with⟨h1,h2⟩|⟨h1,h2,h3⟩<;>constructor<;>intro h<;>omega
 rw [e10,zaa,wrong_eq s (by omega) i (i+aqr T) (by omega) (by omega) k hk3,zaa,hst (aqr T) (by omega)]
 unfold fldP
 cases hb:badP k (T.take (aqr T))with
 |some j=>
  have hj:=badF_len _ _ _ j hb
  rw [zaP]at hj
  simp only
  rw [cond_true]
  exact⟨_,_,_,(by omega),(by omega),rfl,fun h=>absurd h (by decide)⟩
 |none=>
  simp only
  rw [cond_false]
  by_cases h0:aqr T=0
  ·rw [if_pos (by omega),if_pos h0]
   exact⟨_,_,_,(by omega),(by omega),rfl,fun h=>absurd h (by decide)⟩
  ·have htl:(T.take (aqr T)).length≤4194304:=by rw [zaP];omega
   have hcl:=conP_len k (T.take (aqr T))
   rw [if_neg (by omega),if_neg h0,aab (by omega),content_eq _ htl k hk3 hb,zaa,aix _ (by omega),zaa]
   by_cases hlt:aqr T<T.length
   ·have h61:(0:Int)≤ixb (·==(61:UInt8)) T:=hiff.2 hlt
    rw [if_pos hlt]
    simp only [h61,decide_true,if_true]
    rw [aab (aen _ (by omega) (by omega)),agc,wrong_eq s (by omega) (i+aqr T+1) e (by omega) (by omega) k hk3,zaa,hsd]
    cases hb2:badP k (T.drop (aqr T+1))with
    |some j=>
     have hj:=badF_len _ _ _ j hb2
     rw [zat]at hj
     simp only
     rw [cond_true,zaa]
     exact⟨_,_,_,(by omega),(by omega),rfl,fun h=>absurd h (by decide)⟩
    |none=>
     have hdl:(T.drop (aqr T+1)).length=T.length-(aqr T+1):=zat
     have e92:(if((i+aqr T+1:Nat):Int)=(e:Int)then some (decide (k=(1:Int)))else some false)=some (decide (T.drop (aqr T+1)=[]∧k=1)):=by
      by_cases hz:T.drop (aqr T+1)=[]
      ·rw [hz]at hdl
       rw [if_pos (by simp at hdl;omega)]
       congr 1
       simp [hz]
      ·have:¬(T.drop (aqr T+1)).length=0:=fun h=>hz (zao h)
       rw [if_neg (by omega),decide_eq_false (fun h=>hz h.1)]
     simp only
     rw [cond_false,e92,zaa]
     by_cases hx:T.drop (aqr T+1)=[]∧k=1
     ·rw [decide_eq_true hx,cond_true,zaa,if_pos hx]
      exact⟨_,_,_,(by omega),(by omega),rfl,fun h=>absurd h (by decide)⟩
     ·rw [decide_eq_false hx,cond_false,aab (by omega),content_eq _ (by omega) k hk3 hb2,zaa,zaa,if_neg hx]
      exact hroom _ _ _
   ·have h61:¬(0:Int)≤ixb (·==(61:UInt8)) T:=fun h=>hlt (hiff.1 h)
    have hend:((i+aqr T:Nat):Int)=(e:Int):=by omega
    rw [if_neg hlt]
    simp only [h61,decide_false,if_false]
    by_cases h2:k=2
    ·rw [if_pos h2,if_pos h2,zaa]
     exact⟨_,_,_,(by omega),(by omega),rfl,fun h=>absurd h (by decide)⟩
    ·rw [if_neg h2,if_neg h2,zaa]
     exact hroom _ _ _
def plL (st : Str) (s : Str) : Nat → Nat → List PP → UInt8 × Nat × List PP
  | 0, i, l => (0, i, l)
  | f + 1, i, l => if aea s i 59 = true then
      (if (fldP 1 l (sub s ((i + 1 : Nat) : Int) (utl st s (i + 1) : Int))).1 = 0 then plL st s f (utl st s (i + 1)) (l ++ [(fldP 1 l (sub s ((i + 1 : Nat) : Int) (utl st s (i + 1) : Int))).2])
       else ((fldP 1 l (sub s ((i + 1 : Nat) : Int) (utl st s (i + 1) : Int))).1, 0, []))
    else (0, i, l)
def hdL (s : Str) : Nat → Nat → List PP → UInt8 × List PP
  | 0, i, l => (0, l)
  | f + 1, i, l => if i < s.length then
      (if (fldP 2 l (sub s ((i + 1 : Nat) : Int) (utl [38] s (i + 1) : Int))).1 = 0 then hdL s f (utl [38] s (i + 1)) (l ++ [(fldP 2 l (sub s ((i + 1 : Nat) : Int) (utl [38] s (i + 1) : Int))).2])
       else ((fldP 2 l (sub s ((i + 1 : Nat) : Int) (utl [38] s (i + 1) : Int))).1, []))
    else (0, l)
theorem room_len{l:List PP}{nm:Str}(h:apm l nm=0):l.length<16:=by
 unfold apm at h
 split at h
 ·exact absurd h (by decide)
 ·split at h
  ·exact absurd h (by decide)
  ·omega
theorem fld_len{k:Int}{l:List PP}{T:Str}(h:(fldP k l T).1=0):l.length<16:=by
 unfold fldP at h
 split at h
 ·exact absurd h (by decide)
 ·split at h
  ·exact absurd h (by decide)
  ·split at h
   ·split at h
    ·exact absurd h (by decide)
    ·split at h
     ·exact absurd h (by decide)
     ·exact room_len h
   ·split at h
    ·exact absurd h (by decide)
    ·exact room_len h
theorem plLoop_eq(s:Str)(hs:s.length≤4194303)(v:Int×UInt8×Str×Str×Int×Str×Str×Str×Int×List PP×List PP)(h1:v.2.2.1.length≤1000)(h2:v.2.2.1.all (fun b=>decide (b.toNat<128))=true)(n:Nat):
  ∀(i fk f:Nat) (l:List PP) (a:Int),0≤a→a≤5000000→s.length-i≤n→n+1<fk→n<f→i≤s.length→l.length≤16→
  ∃a' x' i' l',0≤a'∧a'≤5000000∧afs FU v fk a 0 s (i:Int) l=some (a',(plL v.2.2.1 s f i l).1,x',i',l')∧((plL v.2.2.1 s f i l).1=0→x'=s∧i'=((plL v.2.2.1 s f i l).2.1:Int)∧l'=(plL v.2.2.1 s f i l).2.2):=by
 induction n with
 |zero=>
  intro i fk f l a ha0 ha1 hi hf hff hil hl
  obtain⟨fk,rfl⟩:=fkx fk
  obtain⟨f,rfl⟩:∃m,f=m+1:=⟨f-1,by omega⟩
  have hz:aea s i 59=false:=by unfold aea;rw [decide_eq_false (by omega)];rfl
  rw [ajm,aff,if_pos rfl,anf,zaa,hz,zaa,cond_false,plL,hz,if_neg (by decide)]
  exact⟨_,_,_,_,(by omega),(by omega),rfl,fun _=>⟨rfl,rfl,rfl⟩⟩
 |succ n ih=>
  intro i fk f l a ha0 ha1 hi hf hff hil hl
  obtain⟨fk,rfl⟩:=fkx fk
  obtain⟨f,rfl⟩:∃m,f=m+1:=⟨f-1,by omega⟩
  rw [ajm,aff,if_pos rfl,anf,zaa,zaa,plL]
  cases hz:aea s i 59 with
  |false=>
   rw [cond_false,if_neg (by decide)]
   exact⟨_,_,_,_,(by omega),(by omega),rfl,fun _=>⟨rfl,rfl,rfl⟩⟩
  |true=>
   have hlt:=(akc hz).1
   have hu1:=utl_ge v.2.2.1 s (i+1)
   have hu2:=arv v.2.2.1 s (i+1) hlt
   rw [cond_true,if_pos rfl,aab (aen _ (by omega) (by omega)),agc,aqu s (by omega) (i+1) hlt _ h1 h2,zaa]
   obtain⟨l',a',c,b1,b2,e1,e2⟩:=field_eq s hs (i+1) (utl v.2.2.1 s (i+1)) hu1 hu2 l hl 1 (.inl rfl)
   rw [e1,zaa]
   by_cases h0:(fldP 1 l (sub s ((i+1:Nat):Int) (utl v.2.2.1 s (i+1):Int))).1=0
   ·obtain⟨rfl,rfl⟩:=e2 h0
    have:=fld_len h0
    rw [if_pos h0,h0]
    exact ih (utl v.2.2.1 s (i+1)) fk f _ _ (by omega) (by omega) (by omega) (by omega) (by omega) hu2 (by simp only [zac,zad,zal];omega)
   ·rw [if_neg h0]
    simp only
    obtain⟨fk,rfl⟩:=fkx fk
    rw [ajm,aff,if_neg h0,zaa,cond_false]
    exact⟨_,_,_,_,(by omega),(by omega),rfl,fun h=>absurd h h0⟩
theorem hdLoop_eq(s:Str)(hs:s.length≤4194303)(n:Nat):
  ∀(i fk f:Nat) (l:List PP) (a:Int),0≤a→a≤5000000→s.length-i≤n→n+1<fk→n<f→i≤s.length→l.length≤16→
  ∃a' x' i' l',0≤a'∧a'≤5000000∧afr FU fk a 0 s (i:Int) l=some (a',(hdL s f i l).1,x',i',l')∧((hdL s f i l).1=0→l'=(hdL s f i l).2):=by
 induction n with
 |zero=>
  intro i fk f l a ha0 ha1 hi hf hff hil hl
  obtain⟨fk,rfl⟩:=fkx fk
  obtain⟨f,rfl⟩:∃m,f=m+1:=⟨f-1,by omega⟩
  rw [ajl,afe,if_pos rfl,ended_eq,zaa,decide_eq_true (by omega),zaa,zaC,cond_false,hdL,if_neg (by omega)]
  exact⟨_,_,_,_,(by omega),(by omega),rfl,fun _=>rfl⟩
 |succ n ih=>
  intro i fk f l a ha0 ha1 hi hf hff hil hl
  obtain⟨fk,rfl⟩:=fkx fk
  obtain⟨f,rfl⟩:∃m,f=m+1:=⟨f-1,by omega⟩
  rw [ajl,afe,if_pos rfl,ended_eq,zaa,zaa,hdL]
  by_cases hlt:i<s.length
  ·have hu1:=utl_ge [38] s (i+1)
   have hu2:=arv [38] s (i+1) hlt
   rw [decide_eq_false (by omega),zaN,cond_true,if_pos hlt,aab (aen _ (by omega) (by omega)),agc,aqu s (by omega) (i+1) hlt _ (by decide) (by decide),zaa]
   obtain⟨l',a',c,b1,b2,e1,e2⟩:=field_eq s hs (i+1) (utl [38] s (i+1)) hu1 hu2 l hl 2 (.inr rfl)
   rw [e1,zaa]
   by_cases h0:(fldP 2 l (sub s ((i+1:Nat):Int) (utl [38] s (i+1):Int))).1=0
   ·obtain⟨rfl,rfl⟩:=e2 h0
    have:=fld_len h0
    rw [if_pos h0,h0]
    exact ih (utl [38] s (i+1)) fk f _ _ (by omega) (by omega) (by omega) (by omega) (by omega) hu2 (by simp only [zac,zad,zal];omega)
   ·rw [if_neg h0]
    simp only
    obtain⟨fk,rfl⟩:=fkx fk
    rw [ajl,afe,if_neg h0,zaa,cond_false]
    exact⟨_,_,_,_,(by omega),(by omega),rfl,fun h=>absurd h h0⟩
  ·rw [decide_eq_true (by omega),zaC,cond_false,if_neg hlt]
   exact⟨_,_,_,_,(by omega),(by omega),rfl,fun _=>rfl⟩
open Bool renaming not_true → zaC
open Go.Op renaming bytesLess → zaF
open List renaming append_assoc → zaq, eq_nil_of_length_eq_zero → zao, length_append → zac, length_cons → zad, length_singleton → zae, set → zaE
theorem hs1_eqA(fu:Nat)(x y:PP):aey fu x y=some (cmpV x.1 y.1):=by
 unfold aey akg amc cmpV
 rw [zaa,zaa,decide_eq_true rfl,decide_eq_true rfl,zaC,cond_false,cond_false]
 cases zaF x.1 y.1 with
 |true=>rfl
 |false=>
  rw [cond_false,cond_false]
  cases(!(false||x.1==y.1))<;>rfl
theorem ins_lp1A(n:Nat):∀(P S:List PP) (x:PP) (fk:Nat),P.length=n→n<fk→P.length+S.length≤1048575→
  aau FU 0 fk (P++x::S) (P.length:Int)=some (insR x P++S):=by
 induction n with
 |zero=>
  intro P S x fk hP hf hl
  obtain⟨fk,rfl⟩:=fkx fk
  obtain rfl:P=[]:=zao hP
  rw [acd,aat,if_neg (by simp)];rfl
 |succ n ih=>
  intro P S x fk hP hf hl
  obtain⟨fk,rfl⟩:=fkx fk
  rcases List.eq_nil_or_concat P with rfl|⟨P',a,rfl⟩
  ·simp at hP
  ·simp only [List.concat_eq_append]at*
   have hP':P'.length=n:=by simp at hP;omega
   have e1:(((P'++[a]).length:Int)-1)=(P'.length:Int):=by simp
   have hj:el (P'++[a]++x::S) ((P'++[a]).length:Int)=x:=el_at _ _ _
   have hj1:el (P'++[a]++x::S) (P'.length:Int)=a:=by rw [zaq];exact el_at P' (x::S) a
   have hlen:(P'++[a]++x::S).length=P'.length+2+S.length:=by simp;omega
   have hin:(0:Int)≤((P'++[a]).length:Int)∧((P'++[a]).length:Int)<((P'++[a]++x::S).length:Int):=by rw [hlen];simp;omega
   have hin1:(0:Int)≤(P'.length:Int)∧(P'.length:Int)<((P'++[a]++x::S).length:Int):=by rw [hlen];omega
   have hok:aay (P'.length:Int):=aen _ (by omega) (by simp at hl;omega)
   have ht1:((P'++[a]).length:Int).toNat=P'.length+1:=by simp
   have ht2:((P'.length:Nat):Int).toNat=P'.length:=by omega
   rw [acd,aat,e1]
   simp only [hj,hj1,pp_eta,hs1_eqA,zaa,cmp_lt,aab hin,aab hin1,aab hok]
   rw [if_pos (by rw [zac,zae];omega),zaa,less_tri x.1 a.1,insR_snoc]
   have hg:(!(zaF a.1 x.1||a.1==x.1))=gtN a.1 x.1:=rfl
   rw [hg]
   cases gtN a.1 x.1 with
   |false=>rw [cond_false,cond_false];simp
   |true=>
    have hset:zaE (P'++[a]++x::S) ((P'++[a]).length:Int).toNat a=P'++a::a::S:=by
     rw [ht1,zaq,List.set_append_right _ _ (by omega)]
     simp
    have hset2:zaE (P'++a::a::S) ((P'.length:Nat):Int).toNat x=P'++x::a::S:=by
     rw [ht2,List.set_append_right _ _ (by omega)]
     simp
    rw [cond_true,cond_true,hset,hset2,aab (by simp;omega),aab (by simp;omega),ih P' (a::S) x fk hP' (by omega) (by simp at hl⊢;omega)]
    simp
theorem ins_lp0A(R:List PP):∀(P:List PP) (fk:Nat) (n:Int),n=((P++R).length:Int)→(P++R).length≤1048575→R.length<fk→
  aaf FU 0 n fk (P++R) (P.length:Int)=some (R.foldl (fun out x=>insR x out) P):=by
 induction R with
 |nil=>
  intro P fk n hn hl hf
  obtain⟨fk,rfl⟩:=fkx fk
  rw [abh,aak,if_neg (by rw [hn];simp)];simp
 |cons a R ih=>
  intro P fk n hn hl hf
  obtain⟨fk,rfl⟩:=fkx fk
  simp only [zac,zad]at hl hf
  rw [abh,aak,if_pos (by rw [hn];simp;omega),ins_lp1A P.length P R a FU rfl (by rw [amu];omega) (by omega),zaa,aab (aen _ (by omega) (by omega))]
  have hil:=insR_len a P
  have:=ih (insR a P) fk n (by rw [hn];simp [hil];omega) (by simp only [zac,hil];omega) (by omega)
  rw [hil]at this
  have e:((P.length:Int)+1)=((P.length+1:Nat):Int):=rfl
  rw [e,this];rfl
theorem ins_eqA(l:List PP)(hl:l.length≤1048575):aao FU l 0 (l.length:Int)=some (agl l):=by
 unfold aao
 rw [aab (aen _ (by omega) (by omega))]
 cases l with
 |nil=>
  obtain⟨m,hm⟩:∃m,FU=m+1:=⟨FU-1,by rw [amu]⟩
  rw [show(aaf FU 0 (([]:List PP).length:Int) FU [] (0+1))=aaf FU 0 (([]:List PP).length:Int) (m+1) [] (0+1)by rw [←hm]]
  rw [abh,aak,if_neg (by simp)];rfl
 |cons a l=>
  have:=ins_lp0A l [a] FU ((a::l).length:Int) rfl hl (by rw [amu];simp at hl;omega)
  exact this
theorem asorted_eq(l:List PP)(hl:l.length<20):adr FU l=some (agl l):=by
 unfold adr abx aca
 obtain⟨m,hm⟩:∃m,FU=m+1:=⟨FU-1,by rw [amu]⟩
 have g1:aar FU (l.length:Int) FU l (0:Int) (20:Int)=some (l,0):=by
  have:∀k,aar FU (l.length:Int) (k+1) l (0:Int) (20:Int)=some (l,0):=fun k=>by
   rw [aia,abq,if_neg (by omega)]
  have:=this m
  rw [←hm]at this
  exact this
 have g2:aaq FU (l.length:Int) FU (agl l) (20:Int)=some (agl l):=by
  have:∀k,aaq FU (l.length:Int) (k+1) (agl l) (20:Int)=some (agl l):=fun k=>by
   rw [ahz,abp,if_neg (by omega)]
  have:=this m
  rw [←hm]at this
  exact this
 rw [aab (by omega),g1,zaa]
 simp only
 rw [ins_eqA l (by omega),zaa,g2];rfl
open Go.Lib renaming hasPrefix → zba, trimPrefix → zas
open List renaming append_assoc → zaq, append_nil → zam, drop_zero → zbu, length_append → zac, length_cons → zad, length_nil → zal, length_take → zaP, nil_append → zaB
open Nat renaming zero_add → zbb, zero_le → zan
open Option renaming bind_some → zaa, map_some → zaR
def dialB(sg:Bool)(c:UInt8):Bool:=acf c||(!sg&&(c==42||c==35))
def gapB(c:UInt8):Bool:=c==45||c==46||c==40||c==41
def asq(sg:Bool):Str→Option Str
 |[]=>some []
 |c::T=>if dialB sg c=true then(asq sg T).map (c::·)else if gapB c=true then asq sg T else none
theorem dial_eq(sg:Bool)(c:UInt8):(((if(48:UInt8)≤c then some (decide (c≤(57:UInt8)))else some false)).bind fun(v764:Bool)=>(bif v764 then some v764 else(bif (!sg)then(if c=(42:UInt8)then some true else some (decide (c=(35:UInt8))))else some false)))=some (dialB sg c):=by
 revert c
 cases sg<;>exact aae _ (by decide+kernel)
theorem gap_eq(c:UInt8):(if c=(45:UInt8)then some false else(if c=(46:UInt8)then some false else(if c=(40:UInt8)then some false else some (!decide (c=(41:UInt8))))))=some (!gapB c):=by
 revert c
 exact aae _ (by decide+kernel)
theorem telN_lp(s:Str)(hs:s.length≤4194303)(i0:Int)(u:UU)(e:Nat)(he:e≤s.length)(sg:Bool)(n:Nat):∀(k fk:Nat) (b:Str),k+n=e→n<fk→b.length≤k→
  ∃j,afc FU (s,i0) u (e:Int) sg fk b (k:Int)=some j∧
   (match asq sg (sub s (k:Int) (e:Int))with
   |some d=>j=.inl (b++d,(e:Int))
   |none=>∃a c w,0≤a∧a≤5000000∧j=.inr (a,5,c,w)):=by
 induction n with
 |zero=>
  intro k fk b hk hf hb
  obtain⟨fk,rfl⟩:=fkx fk
  obtain rfl:k=e:=by omega
  rw [aln,aei,if_neg (by omega),sub_self']
  exact⟨_,rfl,by simp only [asq,zam]⟩
 |succ n ih=>
  intro k fk b hk hf hb
  obtain⟨fk,rfl⟩:=fkx fk
  have hsp:sub s (k:Int) (e:Int)=at_ s (k:Int)::sub s ((k+1:Nat):Int) (e:Int):=by
   unfold sub
   simp only [zaw]
   rw [drop_at s k (by omega),show e-k=(e-(k+1))+1 by omega,List.take_succ_cons]
  rw [aln,aei,if_pos (by omega),gok,dial_eq,zaa,hsp]
  unfold asq
  cases hd:dialB sg (at_ s (k:Int))with
  |true=>
   rw [cond_true,aab (by simp only [zad,zal];omega),zaa,zaI,aab (aen _ (by omega) (by omega)),agc,if_pos rfl]
   obtain⟨j,h1,h2⟩:=ih (k+1) fk (b++[at_ s (k:Int)]) (by omega) (by omega) (by simp only [zac,zad,zal];omega)
   refine⟨j,h1, ?_⟩
   cases hk2:asq sg (sub s ((k+1:Nat):Int) (e:Int))with
   |none=>rw [hk2]at h2;exact h2
   |some d=>
    rw [hk2]at h2
    simp only [zaR]
    rw [h2,zaq];rfl
  |false=>
   rw [cond_false,gap_eq,zaa,if_neg (by decide)]
   cases hg:gapB (at_ s (k:Int))with
   |true=>
    rw [zaC,cond_false,zaa,zaI,aab (aen _ (by omega) (by omega)),agc,if_pos rfl]
    exact ih (k+1) fk b (by omega) (by omega) (by omega)
   |false=>
    rw [zaN,cond_true,zaa,Sum.elim_inr,if_neg (by decide)]
    exact⟨_,rfl,_,_,_,(by omega),(by omega),rfl⟩
def telP(s:Str)(i:Nat):UInt8×Str:=
 match asq (aea s i 43) (sub s ((if aea s i 43=true then i+1 else i:Nat):Int) (utl [59] s i:Int))with
 |none=>(5,[])
 |some d=>if d=[]then(5,[])else if 30<d.length then(4,[])else(0,if aea s i 43=true then 43::d else d)
theorem keepN_head(T d:Str)(h:asq false T=some d):zas d ([43]:Str)=d:=by
 have key:∀(T d:Str),asq false T=some d→∀c∈d,c≠43:=by
  intro T
  induction T with
  |nil=>intro d h;simp only [asq,Option.some.injEq]at h;subst h;simp
  |cons a T ih=>
   intro d h
   unfold asq at h
   split at h
   ·rename_i hd
    cases hk:asq false T with
    |none=>rw [hk]at h;cases h
    |some d'=>
     rw [hk]at h
     simp only [zaR,Option.some.injEq]at h
     subst h
     intro c hc
     rcases List.mem_cons.1 hc with rfl|hc
     ·intro e;subst e;exact absurd hd (by decide)
     ·exact ih d' hk c hc
   ·split at h
    ·exact ih d h
    ·cases h
 cases d with
 |nil=>rfl
 |cons c d=>
  have:=key T (c::d) h c (by simp)
  have h2:¬(43:UInt8)=c:=fun e=>this e.symm
  unfold zas zba
  simp [h2]
theorem utl_step(st s:Str)(i:Nat)(hi:i<s.length)(h:apy st (at_ s (i:Int))=false):utl st s i=utl st s (i+1):=by
 unfold utl
 rw [drop_at s i hi,apv,if_pos (by rw [h];rfl)]
 omega
theorem tel_eq(s:Str)(hs:s.length≤4194303)(i:Nat)(hi:i≤s.length)(sch:Str):∃a c u,0≤a∧a≤5000000∧agw FU (s,(i:Int)) (sch,[],[],0,[],[])=some (a,(telP s i).1,c,u)∧
  ((telP s i).1=0→c=(s,(utl [59] s i:Int))∧u=(sch,(telP s i).2,[],0,[],[])):=by
 have hu1:=utl_ge [59] s i
 have hu2:=arv [59] s i hi
 have hfin:∀(d v:Str) (u0:Str),zas v ([43]:Str)=d→∃a c u,0≤a∧a≤5000000∧
   (if(zas v ([43]:Str))=([]:Str)then some ((i:Int),(5:UInt8),(s,(utl [59] s i:Int)),((sch,v,([]:Str),(0:Int),([]:List PP),([]:List PP)):UU))else(if(30:Int)<((zas v ([43]:Str)).length:Int)then some ((i:Int),(4:UInt8),(s,(utl [59] s i:Int)),((sch,v,([]:Str),(0:Int),([]:List PP),([]:List PP)):UU))else some ((0:Int),(0:UInt8),(s,(utl [59] s i:Int)),((sch,v,([]:Str),(0:Int),([]:List PP),([]:List PP)):UU))))=
   some (a,(if d=[]then((5,[]):UInt8×Str)else if 30<d.length then(4,[])else(0,v)).1,c,u)∧((if d=[]then((5,[]):UInt8×Str)else if 30<d.length then(4,[])else(0,v)).1=0→c=(s,(utl [59] s i:Int))∧u=(sch,(if d=[]then((5,[]):UInt8×Str)else if 30<d.length then(4,[])else(0,v)).2,[],0,[],[])):=by
  intro d v u0 hd
  rw [hd]
  by_cases h0:d=[]
  ·rw [if_pos h0,if_pos h0]
   exact⟨_,_,_,(by omega),(by omega),rfl,fun h=>absurd h (by decide)⟩
  ·rw [if_neg h0,if_neg h0]
   by_cases h30:30<d.length
   ·rw [if_pos (by omega),if_pos h30]
    exact⟨_,_,_,(by omega),(by omega),rfl,fun h=>absurd h (by decide)⟩
   ·rw [if_neg (by omega),if_neg h30]
    exact⟨_,_,_,(by omega),(by omega),rfl,fun _=>⟨rfl,rfl⟩⟩
 unfold agw telP
 simp only
 rw [aqu s (by omega) i hi _ (by decide) (by decide),zaa,anf,zaa]
 cases hsg:aea s i 43 with
 |true=>
  have hlt:=(akc hsg).1
  have hat:=(akc hsg).2
  have hst:=utl_step [59] s i hlt (by rw [hat];decide)
  have hu3:=utl_ge [59] s (i+1)
  rw [cond_true,aab (by decide),aab (aen _ (by omega) (by omega)),zaa,agc,if_pos rfl]
  simp only
  obtain⟨j,h1,h2⟩:=telN_lp s hs (i:Int) (sch,[],[],0,[],[]) (utl [59] s i) hu2 true (utl [59] s i-(i+1)) (i+1) FU ([]++[43]) (by omega) (by rw [amu];omega) (by simp only [zaB,zad,zal];omega)
  rw [h1,zaa]
  cases hk:asq true (sub s ((i+1:Nat):Int) ((utl [59] s i:Nat):Int))with
  |none=>
   rw [hk]at h2
   obtain⟨a,c,w,q1,q2,rfl⟩:=h2
   rw [Sum.elim_inr]
   exact⟨_,_,_,(by omega),(by omega),rfl,fun h=>absurd h (by decide)⟩
  |some d=>
   rw [hk]at h2
   simp only at h2
   subst h2
   rw [zaI]
   simp only [if_true]
   exact hfin d _ [] (by
    show zas (43::d) [43]=d
    unfold zas zba
    simp)
 |false=>
  rw [cond_false,zaa,if_neg (show¬(false=true)by decide)]
  simp only
  obtain⟨j,h1,h2⟩:=telN_lp s hs (i:Int) (sch,[],[],0,[],[]) (utl [59] s i) hu2 false (utl [59] s i-i) i FU [] (by omega) (by rw [amu];omega) (by simp)
  rw [h1,zaa]
  cases hk:asq false (sub s (i:Int) ((utl [59] s i:Nat):Int))with
  |none=>
   rw [hk]at h2
   obtain⟨a,c,w,q1,q2,rfl⟩:=h2
   rw [Sum.elim_inr]
   exact⟨_,_,_,(by omega),(by omega),rfl,fun h=>absurd h (by decide)⟩
  |some d=>
   rw [hk]at h2
   simp only at h2
   subst h2
   rw [zaI]
   simp only
   try rw [if_neg (show¬(false=true)by decide)]
   try simp only [Bool.false_eq_true,if_false]
   rw [zaB]
   exact hfin d d [] (keepN_head _ _ hk)
def nilU:UU:=([],[],[],0,[],[])
theorem plL_len(st s:Str):∀(f i:Nat) (l:List PP),l.length≤16→(plL st s f i l).2.2.length≤16
 |0,i,l,h=>h
 |f+1,i,l,h=>by
  unfold plL
  split
  ·split
   ·rename_i h0
    have:=fld_len h0
    exact plL_len st s f _ _ (by simp only [zac,zad,zal];omega)
   ·exact zan _
  ·exact h
theorem hdL_len(s:Str):∀(f i:Nat) (l:List PP),l.length≤16→(hdL s f i l).2.length≤16
 |0,i,l,h=>h
 |f+1,i,l,h=>by
  unfold hdL
  split
  ·split
   ·rename_i h0
    have:=fld_len h0
    exact hdL_len s f _ _ (by simp only [zac,zad,zal];omega)
   ·exact zan _
  ·exact h
theorem plL_le(st s:Str):∀(f i:Nat) (l:List PP),i≤s.length→(plL st s f i l).1=0→(plL st s f i l).2.1≤s.length
 |0,i,l,h,_=>h
 |f+1,i,l,h,h0=>by
  unfold plL at h0⊢
  split
  ·rename_i hz
   rw [if_pos hz]at h0
   split
   ·rename_i h1
    rw [if_pos h1]at h0
    exact plL_le st s f _ _ (arv st s _ (akc hz).1) h0
   ·exact zan _
  ·exact h
def restP (st s sch us h : Str) (port : Int) (i : Nat) : UInt8 × UU :=
  if (plL st s (s.length + 1) i []).1 = 0 then
    (if (hdL s (s.length + 1) (plL st s (s.length + 1) i []).2.1 []).1 = 0 then (0, (sch, us, h, port, agl (plL st s (s.length + 1) i []).2.2, agl (hdL s (s.length + 1) (plL st s (s.length + 1) i []).2.1 []).2))
     else ((hdL s (s.length + 1) (plL st s (s.length + 1) i []).2.1 []).1, nilU))
  else ((plL st s (s.length + 1) i []).1, nilU)
abbrev PV:=Int×UInt8×Str×Str×Int×Str×Str×Str×Int×List PP×List PP
def restL(v:PV):Option (UU×Int×UInt8):=((afs FU v FU v.1 v.2.1 v.2.2.2.1 v.2.2.2.2.1 v.2.2.2.2.2.2.2.2.2.1)).bind fun(v287:(Int×UInt8×Str×Int×(List PP)))=>(((afr FU FU v287.1 v287.2.1 v287.2.2.1 v287.2.2.2.1 v.2.2.2.2.2.2.2.2.2.2)).bind fun(v568:(Int×UInt8×Str×Int×(List PP)))=>(if v568.2.1=(0:UInt8)then((adr FU v287.2.2.2.2).bind fun(y709:List PP)=>((adr FU v568.2.2.2.2).bind fun(y719:List PP)=>some ((v.2.2.2.2.2.1,v.2.2.2.2.2.2.1,v.2.2.2.2.2.2.2.1,v.2.2.2.2.2.2.2.2.1,y709,y719),(0:Int),(0:UInt8))))else some ((([]:Str),([]:Str),([]:Str),(0:Int),([]:List PP),([]:List PP)),v568.1,v568.2.1)))
theorem lp1_no(fk:Nat)(hf:0<fk)(a:Int)(e:UInt8)(he:¬e=0)(x:Str)(i:Int)(l:List PP):afr FU fk a e x i l=some (a,e,x,i,l):=by
 obtain⟨fk,rfl⟩:=fkx fk
 rw [ajl,afe,if_neg he,zaa,cond_false]
theorem lp0_no(v:PV)(fk:Nat)(hf:0<fk)(a:Int)(e:UInt8)(he:¬e=0)(x:Str)(i:Int)(l:List PP):afs FU v fk a e x i l=some (a,e,x,i,l):=by
 obtain⟨fk,rfl⟩:=fkx fk
 rw [ajm,aff,if_neg he,zaa,cond_false]
theorem rest_no(v:PV)(he:¬v.2.1=0):restL v=some (nilU,v.1,v.2.1):=by
 unfold restL
 rw [lp0_no v FU (by rw [amu];omega) _ _ he,zaa]
 simp only
 rw [lp1_no FU (by rw [amu];omega) _ _ he,zaa]
 simp only
 rw [if_neg he];rfl
theorem rest_eq(s:Str)(hs:s.length≤4194303)(st:Str)(h1:st.length≤1000)(h2:st.all (fun b=>decide (b.toNat<128))=true)(a:Int)(ha0:0≤a)(ha1:a≤5000000)(sch us h:Str)(port:Int)(i:Nat)(hi:i≤s.length):
  ∃a',0≤a'∧a'≤5000000∧restL (a,0,st,s,(i:Int),sch,us,h,port,[],[])=some ((restP st s sch us h port i).2,a',(restP st s sch us h port i).1):=by
 unfold restL restP
 simp only
 obtain⟨a1,x1,i1,l1,b1,b2,e1,e2⟩:=plLoop_eq s hs (a,0,st,s,(i:Int),sch,us,h,port,[],[]) h1 h2 s.length i FU (s.length+1) [] a ha0 ha1 (by omega) (by rw [amu];omega) (by omega) hi (by simp)
 rw [e1,zaa]
 simp only at e2⊢
 by_cases h0:(plL st s (s.length+1) i []).1=0
 ·obtain⟨rfl,rfl,rfl⟩:=e2 h0
  have hle:=plL_le st x1 (x1.length+1) i [] hi h0
  have hl1:=plL_len st x1 (x1.length+1) i [] (by simp)
  have hl2:=hdL_len x1 (x1.length+1) (plL st x1 (x1.length+1) i []).2.1 [] (by simp)
  obtain⟨a2,x2,i2,l2,b3,b4,g1,g2⟩:=hdLoop_eq x1 hs x1.length (plL st x1 (x1.length+1) i []).2.1 FU (x1.length+1) [] a1 b1 b2 (by omega) (by rw [amu];omega) (by omega) hle (by simp)
  rw [h0,g1,zaa,if_pos rfl]
  simp only
  by_cases h3:(hdL x1 (x1.length+1) (plL st x1 (x1.length+1) i []).2.1 []).1=0
  ·rw [if_pos h3,if_pos h3,g2 h3,asorted_eq _ (by omega),zaa,asorted_eq _ (by omega),zaa]
   exact⟨_,(by omega),(by omega),rfl⟩
  ·rw [if_neg h3,if_neg h3]
   exact⟨_,(by omega),(by omega),rfl⟩
 ·rw [if_neg h0,lp1_no FU (by rw [amu];omega) _ _ h0,zaa]
  simp only
  rw [if_neg h0]
  exact⟨_,(by omega),(by omega),rfl⟩
def SIP:Str:=[115,105,112]
def SIPS:Str:=[115,105,112,115]
def TEL:Str:=[116,101,108]
def ape (s : Str) : UInt8 × UU :=
  if 1024 < s.length then (4, nilU) else if utl [58] s 0 < s.length then
    (if aaj (s.take (utl [58] s 0)) = SIP ∨ aaj (s.take (utl [58] s 0)) = SIPS then
      (if (plP s (utl [58] s 0 + 1)).1 = 0 then restP [59, 63] s (aaj (s.take (utl [58] s 0))) (plP s (utl [58] s 0 + 1)).2.1 (plP s (utl [58] s 0 + 1)).2.2.1 (plP s (utl [58] s 0 + 1)).2.2.2.1 (plP s (utl [58] s 0 + 1)).2.2.2.2 else ((plP s (utl [58] s 0 + 1)).1, nilU))
     else if aaj (s.take (utl [58] s 0)) = TEL then
      (if (telP s (utl [58] s 0 + 1)).1 = 0 then restP [59] s (aaj (s.take (utl [58] s 0))) (telP s (utl [58] s 0 + 1)).2 [] 0 (utl [59] s (utl [58] s 0 + 1)) else ((telP s (utl [58] s 0 + 1)).1, nilU))
     else (15, nilU))
  else (5, nilU)
theorem hpP_le(s:Str)(i:Nat)(hi:i≤s.length):(hpP s i).2.2.2≤s.length:=by
 have hb:=hEnd_bd s i hi
 unfold hpP
 split
 ·exact zan _
 ·split
  ·rename_i h58
   split
   ·exact arv [59,63] s _ (akc h58).1
   ·exact zan _
  ·split
   ·exact zan _
   ·exact hb.2
theorem plP_le(s:Str)(i:Nat)(hi:i≤s.length):(plP s i).2.2.2.2≤s.length:=by
 unfold plP
 split
 ·split
  ·exact hpP_le s _ (by omega)
  ·exact zan _
 ·exact hpP_le s i hi
theorem parse_eq(s:Str):∃a,0≤a∧a≤5000000∧amt FU s=some ((ape s).2,a,(ape s).1):=by
 unfold amt ape
 by_cases hl:1024<s.length
 ·rw [if_pos (by omega),if_pos hl]
  exact⟨_,(by omega),(by omega),rfl⟩
 ·rw [if_neg (by omega),if_neg hl]
  have hu:=utl1 58 s 0
  rw [zbu,zbb]at hu
  rcases ixb_spec (·==(58:UInt8)) s with⟨h1,h2⟩|⟨h1,h2,h3⟩
  ·rw [if_pos (by omega),if_neg (by omega)]
   exact⟨_,(by omega),(by omega),rfl⟩
  ·have hix:ixb (·==(58:UInt8)) s=((utl [58] s 0:Nat):Int):=by omega
   rw [hix]
   have hc:utl [58] s 0<s.length:=by omega
   generalize utl [58] s 0=c at hc⊢
   rw [if_neg (by omega),if_pos hc,aab (aen _ (by omega) (by omega)),aab (by omega),zaw,aix _ (by rw [zaP];omega),zaa,agc]
   generalize aaj (s.take c)=sch
   have e98:(if sch=([115,105,112]:Str)then some (decide (sch=([115,105,112]:Str)))else some (decide (sch=([115,105,112,115]:Str))))=some (decide (sch=SIP∨sch=SIPS)):=by
    by_cases hA:sch=SIP
    ·rw [if_pos (show sch=([115,105,112]:Str)from hA),decide_eq_true (show sch=([115,105,112]:Str)from hA),decide_eq_true (Or.inl hA)]
    ·rw [if_neg (show¬sch=([115,105,112]:Str)from hA)]
     congr 1
     rw [decide_eq_decide]
     exact⟨Or.inr,fun h=>h.resolve_left hA⟩
   rw [e98,zaa]
   by_cases hsip:sch=SIP∨sch=SIPS
   ·obtain⟨a,cc,u,b1,b2,g1,g2⟩:=place_eq s (by omega) (c+1) hc sch
    rw [decide_eq_true hsip,cond_true,if_pos hsip,g1,zaa,zaa]
    by_cases h0:(plP s (c+1)).1=0
    ·obtain⟨rfl,rfl⟩:=g2 h0
     rw [if_pos h0,h0]
     have hnx:(plP s (c+1)).2.2.2.2≤s.length:=plP_le s (c+1) hc
     exact rest_eq s (by omega) [59,63] (by decide) (by decide) a b1 b2 sch _ _ _ _ hnx
    ·rw [if_neg h0]
     exact⟨_,b1,b2,rest_no (a,(plP s (c+1)).1,[59,63],cc.1,cc.2,u) h0⟩
   ·rw [decide_eq_false hsip,cond_false,if_neg hsip]
    by_cases htel:sch=TEL
    ·obtain⟨a,cc,u,b1,b2,g1,g2⟩:=tel_eq s (by omega) (c+1) hc sch
     rw [if_pos (show sch=([116,101,108]:Str)from htel),if_pos htel,g1,zaa,zaa]
     by_cases h0:(telP s (c+1)).1=0
     ·obtain⟨rfl,rfl⟩:=g2 h0
      rw [if_pos h0,h0]
      exact rest_eq s (by omega) [59] (by decide) (by decide) a b1 b2 sch _ _ _ _ (arv [59] s (c+1) hc)
     ·rw [if_neg h0]
      exact⟨_,b1,b2,rest_no (a,(telP s (c+1)).1,[59],cc.1,cc.2,u) h0⟩
    ·rw [if_neg (show¬sch=([116,101,108]:Str)from htel),if_neg htel,zaa]
     exact⟨_,Int.le_refl 0,(show(0:Int)≤5000000 by decide),rest_no (0,15,[59,63],s,((c+1:Nat):Int),sch,[],[],0,[],[]) (show¬(15:UInt8)=0 by decide)⟩
open Bool renaming and_eq_true → zak, or_false → zbx, true_and → zaS
open Go.Lib renaming join → zau
open List renaming all_cons → zbh, any_cons → zbs, append_assoc → zaq, append_nil → zam, cons_append → zaY, flatMap_cons → zar, length_append → zac, length_cons → zad, length_nil → zal, length_singleton → zae, mem_cons_of_mem → zaf, nil_append → zaB, singleton_append → zbt
open Nat renaming le_refl → zap, zero_le → zan
theorem skipA(p:UInt8→Bool)(s A B:Str)(h:s=A++B):aax p s (A.length:Int)=A.length+apv p B:=by
 subst h
 unfold aax
 rw [aue _ _ (by rw [zac];omega),List.drop_left]
theorem atA(s A B:Str)(c:UInt8)(h:s=A++c::B):at_ s (A.length:Int)=c:=by rw [h,at_mid]
theorem seesA(s A B:Str)(b:UInt8)(h:s=A++B):aea s A.length b=decide (B.head? =some b):=by
 subst h
 unfold aea
 cases B with
 |nil=>simp
 |cons c B=>
  rw [at_mid,decide_eq_true (by rw [zac,zad];omega),zaS,List.head?_cons]
  by_cases h:c=b
  ·subst h;simp
  ·simp [h]
theorem subA(s A B C:Str)(h:s=A++(B++C)):sub s (A.length:Int) ((A.length+B.length:Nat):Int)=B:=by
 subst h
 unfold sub
 rw [zaw,zaw,List.drop_left,Nat.add_sub_cancel_left,List.take_left]
theorem aqa(p:UInt8→Bool)(B:Str)(h:∀c,B.head? =some c→p c=false):apv p B=0:=by
 cases B with
 |nil=>rfl
 |cons c B=>exact span_no p c B (h c rfl)
theorem head_app(a b:Str)(h:a≠[]):(a++b).head? =a.head? :=by
 cases a with
 |nil=>exact absurd rfl h
 |cons x a=>rfl
theorem head_all(p:UInt8→Bool)(a:Str)(h:a.all p=true)(c:UInt8)(hc:a.head? =some c):p c=true:=by
 cases a with
 |nil=>cases hc
 |cons x a=>
  rw [List.head?_cons,Option.some.injEq]at hc
  rw [zbh,zak]at h
  rw [←hc];exact h.1
theorem isTok_ne{v:Str}(h:aqq v=true):v≠[]∧v.all aba=true:=by
 unfold aqq at h
 rw [zak]at h
 refine⟨fun e=> ?_,h.2⟩
 subst e
 exact absurd h.1 (by decide)
theorem qs_yes(c:UInt8)(h:c=34∨c=92):alq c=[92,c]:=by unfold alq;rw [if_pos h]
theorem qs_no(c:UInt8)(h:¬(c=34∨c=92)):alq c=[c]:=by unfold alq;rw [if_neg h]
theorem unq_flat:∀(v rest:Str) (k:Nat) (acc:Str),v.any aas=false→unqL (v.flatMap alq++34::rest) k acc=(acc++v,((k+(v.flatMap alq).length+1:Nat):Int),0)
 |[],rest,k,acc,_=>by
  rw [List.flatMap_nil,zaB,asw,if_pos rfl,zam,zal]
 |c::v,rest,k,acc,h=>by
  rw [zbs,Bool.or_eq_false_iff]at h
  by_cases hq:c=34∨c=92
  ·have he:escapedB c=true:=by rcases hq with rfl|rfl<;>decide
   have e:(c::v).flatMap alq++34::rest=92::c::(v.flatMap alq++34::rest):=by rw [zar,qs_yes c hq];rfl
   rw [e,asw,if_neg (by decide),if_pos rfl,if_neg (by simp)]
   have ha:at_ (c::(v.flatMap alq++34::rest)) 0=c:=by simp [at_]
   rw [ha,if_pos he,List.drop_one,List.tail_cons,unq_flat v rest (k+2) _ h.2,zar,qs_yes c hq]
   simp only [zaq,zbt,zac,zad,zal]
   congr 2
   omega
  ·have e:(c::v).flatMap alq++34::rest=c::(v.flatMap alq++34::rest):=by rw [zar,qs_no c hq];rfl
   rw [e,asw,if_neg (fun h=>hq (.inl h)),if_neg (fun h=>hq (.inr h)),if_neg (by rw [h.1];decide),unq_flat v rest (k+1) _ h.2,zar,qs_no c hq]
   simp only [zaq,zbt,zac,zad,zal]
   congr 2
   omega
theorem unqA(s A v C:Str)(h:s=A++(quoT v++C))(hv:v.any aas=false):asi s (A.length:Int)=(v,((A.length+(quoT v).length:Nat):Int),0):=by
 have e:quoT v++C=34::(v.flatMap alq++34::C):=by unfold quoT;simp
 have hs:s=A++34::(v.flatMap alq++34::C):=by rw [h,e]
 have hl:s.length=A.length+(v.flatMap alq++34::C).length+1:=by rw [hs,zac,zad];omega
 have ha:=atA s A _ 34 hs
 have hd:s.drop (A.length+1)=v.flatMap alq++34::C:=by
  rw [hs,show A++34::(v.flatMap alq++34::C)=(A++[34])++(v.flatMap alq++34::C)by simp,show A.length+1=(A++[34]).length by simp,List.drop_left]
 unfold asi
 rw [if_neg (by omega),if_neg (by rintro(h|h);omega;exact h ha),zaw,hd,unq_flat v C _ [] hv,zaB]
 have hq:(quoT v).length=(v.flatMap alq).length+2:=by unfold quoT;simp
 rw [hq]
 congr 2
 omega
section
variable (q : UInt8 → Bool) (h1 : ∀ c, hexB c = true → q (aer c) = true) (h2 : q 58 = true) (h3 : q 48 = true)
include h1 h2 h3
omit h2 in
theorem grpN_q (g:Str) (h:aos g=true):∀c∈arn g,q c=true:=by
 have hx:g.all hexB=true:=by unfold aos at h;simp only [zak]at h;exact h.2
 intro c hc
 unfold arn at hc
 split at hc
 ·rw [List.mem_singleton.1 hc];exact h3
 ·have hm:c∈lowP g:=(List.dropWhile_suffix _).subset hc
  obtain⟨d,hd,rfl⟩:=List.mem_map.1 hm
  exact h1 d (List.all_eq_true.1 hx d hd)
omit h1 h3 in
theorem join_q:∀(l:List Str),(∀x∈l,∀c∈x,q c=true)→∀c∈zau l [58],q c=true
 |[],_,c,hc=>by simp [zau,List.intercalate]at hc
 |[a],h,c,hc=>by
  simp [zau,List.intercalate]at hc
  exact h a (by simp) c hc
 |a::b::l,h,c,hc=>by
  have e:zau (a::b::l) [58]=a++(58::zau (b::l) [58]):=by simp [zau,List.intercalate,List.intersperse]
  rw [e]at hc
  rcases List.mem_append.1 hc with hc|hc
  ·exact h a (by simp) c hc
  ·rcases List.mem_cons.1 hc with rfl|hc
   ·exact h2
   ·exact join_q (b::l) (fun x hx=>h x (zaf _ hx)) c hc
omit h2 in
theorem grpList_q (s:Str):∀x∈(aet s).1,∀c∈x,q c=true:=by
 intro x hx
 unfold aet at hx
 split at hx
 ·rename_i ha
  obtain⟨y,hy,rfl⟩:=List.mem_map.1 hx
  exact grpN_q q h1 h3 y (List.all_eq_true.1 ha y hy)
 ·simp at hx
omit h2 in
theorem grpL0_q (s:Str):∀x∈(alk s).1,∀c∈x,q c=true:=by
 intro x hx
 unfold alk at hx
 split at hx
 ·simp at hx
 ·exact grpList_q q h1 h3 s x hx
theorem grpsP_q(s:Str):∀c∈(aor s).1,q c=true:=by
 intro c hc
 unfold aor at hc
 split at hc
 ·simp at hc
 ·split at hc
  ·exact join_q q h2 _ (grpList_q q h1 h3 s) c hc
  ·split at hc
   ·simp at hc
   ·rcases List.mem_append.1 hc with hc|hc
    ·rcases List.mem_append.1 hc with hc|hc
     ·exact join_q q h2 _ (grpL0_q q h1 h3 _) c hc
     ·have h58:c=58:=by simpa using hc
      rw [h58];exact h2
    ·exact join_q q h2 _ (grpL0_q q h1 h3 _) c hc
end
theorem hex_n93:∀c:UInt8,hexB c=true→(!(aer c==93))=true:=aae _ (by decide+kernel)
theorem dig_n91:∀c:UInt8,acf c=true→c≠91:=aae _ (by decide+kernel)
theorem lab_n91:∀c:UInt8,labB c=true→c≠91:=aae _ (by decide+kernel)
theorem brV_form(v:Str)(h:brV v=true):∃g:Str,v=91::(g++[93])∧(∀c∈g,(!(c==93))=true):=by
 unfold brV at h
 simp only [zak,decide_eq_true_eq,beq_iff_eq]at h
 obtain⟨⟨h1,h2⟩,h3⟩:=h
 have hm:0<v.length→(91:UInt8)∈v:=fun hl=>by
  have:=at_mem v 0 hl
  have e:at_ v ((0:Nat):Int)=91:=h3
  rw [e]at this;exact this
 have hne:=host_ne v h1 h2
 have hl:=List.length_pos_iff.2 hne
 unfold afi at h1 h2
 split at h1
 ·rename_i hb
  rw [if_pos hb]at h2
  split at h1
  ·rename_i hg
   rw [if_pos hg]at h2
   refine⟨(aor (sub v 1 ((v.length:Int)-1))).1, ?_,grpsP_q (fun c=> !(c==93)) hex_n93 (by decide) (by decide) _⟩
   exact h2.symm
  ·cases h1
 ·exfalso
  split at h1
  ·rename_i hn
   unfold numsP at hn
   simp only [zak]at hn
   rcases aqm 46 acf v (fun x hx=>(num_parts x (by rw [←oct_num];exact List.all_eq_true.1 hn.1.2 x hx)).2.2) 91 (hm hl)with h|h
   ·exact dig_n91 91 h rfl
   ·exact absurd h (by decide)
  ·split at h1
   ·rename_i hn
    unfold asy at hn
    simp only [zak]at hn
    rcases aqm 46 labB v (fun x hx=>by
     have:=List.all_eq_true.1 hn.1.2 x hx
     unfold asm at this
     simp only [zak]at this
     exact this.2) 91 (hm hl)with h|h
    ·exact lab_n91 91 h rfl
    ·exact absurd h (by decide)
   ·cases h1
theorem valP_tok(s A v C:Str)(h:s=A++(v++C))(hv:aqq v=true)(hC:∀c,C.head? =some c→aba c=false):valP s A.length=(v,((A.length+v.length:Nat):Int),0):=by
 obtain⟨hne,hall⟩:=isTok_ne hv
 have hsk:aax aba s (A.length:Int)=A.length+v.length:=by rw [skipA aba s A _ h,span_app aba v C hall,aqa aba C hC];rfl
 have hh:∀c:UInt8,aba c=false→aea s A.length c=false:=fun c hc=>by
  rw [seesA s A _ c h,head_app v C hne,decide_eq_false_iff_not]
  intro e
  rw [head_all aba v hall c e]at hc;cases hc
 have hl:=List.length_pos_iff.2 hne
 unfold valP
 rw [hh 34 (by decide),if_neg (by decide),hh 91 (by decide),if_neg (by decide),hsk,if_neg (by omega),subA s A v C h]
theorem valP_quo(s A v C:Str)(h:s=A++(quoT v++C))(hv:v.any aas=false):valP s A.length=(v,((A.length+(quoT v).length:Nat):Int),0):=by
 unfold valP
 rw [seesA s A _ 34 h,decide_eq_true (by unfold quoT;rfl),if_pos rfl,unqA s A v C h hv]
theorem valP_brk(s A v C:Str)(h:s=A++(v++C))(hv:brV v=true):valP s A.length=(v,((A.length+v.length:Nat):Int),0):=by
 obtain⟨g,hg,hq⟩:=brV_form v hv
 have hhead:(v++C).head? =some 91:=by rw [hg];rfl
 have hsp:apv (fun b=> !(b==93)) (s.drop A.length)=v.length-1:=by
  rw [h,List.drop_left,hg,show(91::(g++[93]))++C=(91::g)++93::C by simp,span_app _ _ _ (by
   rw [List.all_eq_true]
   intro c hc
   rcases List.mem_cons.1 hc with rfl|hc
   ·decide
   ·exact hq c hc),span_no _ 93 C (by decide)]
  simp
 have hl:2≤v.length:=by rw [hg];simp
 have hsl:s.length=A.length+v.length+C.length:=by rw [h,zac,zac];omega
 have hb:=hv
 unfold brV at hb
 simp only [zak,decide_eq_true_eq]at hb
 have hmin:(min ((A.length+(v.length-1):Nat)+1:Int) (s.length:Int))=((A.length+v.length:Nat):Int):=by omega
 unfold valP
 rw [seesA s A _ 34 h,hhead,decide_eq_false (by decide),if_neg (by decide),seesA s A _ 91 h,hhead,decide_eq_true rfl,if_pos rfl,hsp,hmin,subA s A v C h,if_pos hb.1.1,hb.1.2]
 congr 2
 omega
theorem tok_nblank:∀c:UInt8,aba c=true→aah c=false:=aae _ (by decide+kernel)
theorem head_tok(v B:Str)(hv:aqq v=true):∀c,(v++B).head? =some c→aba c=true:=fun c hc=>by
 obtain⟨hne,hall⟩:=isTok_ne hv
 rw [head_app v B hne]at hc
 exact head_all aba v hall c hc
def vtx(v:Str):Str:=bif aqq v||brV v then v else quoT v
theorem vtx_val(s A v C:Str)(h:s=A++(vtx v++C))(hv:v.any aas=false)(hC:∀c,C.head? =some c→aba c=false):valP s A.length=(v,((A.length+(vtx v).length:Nat):Int),0):=by
 unfold vtx at h⊢
 cases h1:aqq v with
 |true=>rw [h1,Bool.true_or,cond_true]at h;rw [Bool.true_or,cond_true];exact valP_tok s A v C h h1 hC
 |false=>
  cases h2:brV v with
  |true=>rw [h1,h2,Bool.or_true,cond_true]at h;rw [Bool.or_true,cond_true];exact valP_brk s A v C h h2
  |false=>rw [h1,h2,zbx,cond_false]at h;rw [zbx,cond_false];exact valP_quo s A v C h hv
theorem vtx_blank(v C:Str):∀c,(vtx v++C).head? =some c→aah c=false:=by
 intro c hc
 unfold vtx at hc
 cases h1:aqq v with
 |true=>rw [h1,Bool.true_or,cond_true]at hc;exact tok_nblank c (head_tok v C h1 c hc)
 |false=>
  cases h2:brV v with
  |true=>
   obtain⟨g,hg,_⟩:=brV_form v h2
   rw [h1,h2,Bool.or_true,cond_true,hg]at hc
   have:c=91:=by simpa using hc.symm
   rw [this];decide
  |false=>
   rw [h1,h2,zbx,cond_false]at hc
   have:c=34:=by unfold quoT at hc;simpa using hc.symm
   rw [this];decide
theorem txt_eq(p:PP)(h:p.2.2=true):txt p=61::vtx p.2.1:=by unfold txt vtx;rw [h];rfl
theorem txt_no(p:PP)(h:p.2.2=false):txt p=[]:=by unfold txt;rw [h];rfl
theorem listA(s A C:Str)(p:PP)(h:s=A++(p.1++(txt p++C)))(hn:aqq p.1=true)(hlow:aaj p.1=p.1)(hv:okV p=true)(hC:∀c,C.head? =some c→c=59):
  anw s A.length=(p,0,0,(s,((A.length+(p.1.length+(txt p).length):Nat):Int))):=by
 obtain⟨hne,hall⟩:=isTok_ne hn
 have hl:=List.length_pos_iff.2 hne
 have hC':∀f:UInt8→Bool,f 59=false→∀c,C.head? =some c→f c=false:=fun f hf c hc=>by rw [hC c hc];exact hf
 have hstop:∀f:UInt8→Bool,f 59=false→f 61=false→∀c,(txt p++C).head? =some c→f c=false:=by
  intro f h59 h61 c hc
  cases h2:p.2.2 with
  |true=>
   rw [txt_eq p h2,zaY,List.head?_cons,Option.some.injEq]at hc
   rw [←hc];exact h61
  |false=>rw [txt_no p h2,zaB]at hc;exact hC' f h59 c hc
 have ht:aax aba s (A.length:Int)=A.length+p.1.length:=by
  rw [skipA aba s A _ h,span_app aba p.1 _ hall,aqa aba _ (hstop aba (by decide) (by decide))];rfl
 have hsub:=subA s A p.1 _ h
 have h':s=(A++p.1)++(txt p++C):=by rw [h,zaq]
 have hlen:(A++p.1).length=A.length+p.1.length:=zac
 have hy:aax aah s ((A.length+p.1.length:Nat):Int)=A.length+p.1.length:=by
  rw [←hlen,skipA aah s (A++p.1) _ h',aqa aah _ (hstop aah (by decide) (by decide))];rfl
 have hsee:=seesA s (A++p.1) _ 61 h'
 rw [hlen]at hsee
 unfold anw
 rw [ht,if_neg (by omega),hy,hsee,hsub,hlow]
 cases h2:p.2.2 with
 |false=>
  have hnil:p.2.1=[]:=by unfold okV at hv;rw [h2,cond_false]at hv;exact of_decide_eq_true hv
  have h61:¬(txt p++C).head? =some 61:=fun e=>by
   rw [txt_no p h2,zaB]at e
   exact absurd (hC 61 e) (by decide)
  rw [decide_eq_false h61,if_pos rfl,txt_no p h2]
  have ep:(p.1,([]:Str),false)=p:=by rw [←hnil,←h2]
  rw [ep];rfl
 |true=>
  have hnc:p.2.1.any aas=false:=by unfold okV at hv;rw [h2,cond_true]at hv;simpa using hv
  have h61:(txt p++C).head? =some 61:=by rw [txt_eq p h2];rfl
  have h3:s=(A++p.1++[61])++(vtx p.2.1++C):=by rw [h',txt_eq p h2];simp
  have hlen3:(A++p.1++[61]).length=A.length+p.1.length+1:=by simp;omega
  have hz:aax aah s ((A.length+p.1.length+1:Nat):Int)=A.length+p.1.length+1:=by
   rw [←hlen3,skipA aah s (A++p.1++[61]) _ h3,aqa aah _ (vtx_blank p.2.1 C)];rfl
  have hval:=vtx_val s (A++p.1++[61]) p.2.1 C h3 hnc (hC' aba (by decide))
  rw [hlen3]at hval
  rw [decide_eq_true h61,if_neg (by decide),hz,hval,if_pos rfl]
  have ep:(p.1,p.2.1,true)=p:=by rw [←h2]
  have el:(txt p).length=(vtx p.2.1).length+1:=by rw [txt_eq p h2];rfl
  rw [ep,el]
  show(p,(0:Int),(0:UInt8),(s,((A.length+p.1.length+1+(vtx p.2.1).length:Nat):Int)))=_
  rw [show A.length+p.1.length+1+(vtx p.2.1).length=A.length+(p.1.length+((vtx p.2.1).length+1))by omega]
theorem ppL_head:∀(r pre:List PP) (u:Str),ppL pre r=some u→∀c,u.head? =some c→c=59
 |[],pre,u,h,c,hc=>by
  rw [ppL,Option.some.injEq]at h
  subst h;cases hc
 |p::r,pre,u,h,c,hc=>by
  rw [ppL]at h
  cases hk:okN pre p&&okV p with
  |false=>rw [hk]at h;cases h
  |true=>
   rw [hk,cond_true,zbk]at h
   obtain⟨t,_,rfl⟩:=h
   rw [List.head?_cons,Option.some.injEq]at hc
   exact hc.symm
theorem parA(s:Str):∀(r pre:List PP) (u A:Str) (f:Nat),ppL pre r=some u→s=A++u→r.length<f→pre.length+r.length≤16→parM s f pre A.length=(pre++r,0,0)
 |[],pre,u,A,f,h,hs,hf,hl=>by
  obtain⟨f,rfl⟩:∃m,f=m+1:=⟨f-1,by omega⟩
  rw [ppL,Option.some.injEq]at h
  subst h
  rw [zam]at hs
  subst hs
  rw [parM,if_pos (by rw [skipL_end];exact zap _),zam]
 |p::r,pre,u,A,f,h,hs,hf,hl=>by
  obtain⟨f,rfl⟩:∃m,f=m+1:=⟨f-1,by omega⟩
  rw [ppL]at h
  cases hk:okN pre p&&okV p with
  |false=>rw [hk]at h;cases h
  |true=>
   rw [hk,cond_true,zbk]at h
   obtain⟨t,ht,rfl⟩:=h
   rw [zak]at hk
   obtain⟨hN,hV⟩:=hk
   unfold okN at hN
   simp only [zak,decide_eq_true_eq,Bool.not_eq_true']at hN
   obtain⟨⟨hn,hlow⟩,hany⟩:=hN
   simp only [zad]at hf hl
   have hsl:s.length=A.length+((p.1++(txt p++t)).length+1):=by rw [hs,zac,zad]
   have hsk:aax aah s (A.length:Int)=A.length:=by
    rw [skipA aah s A _ hs,span_no aah 59 _ (by decide)];rfl
   have hat:=atA s A _ 59 hs
   have hs2:s=(A++[59])++(p.1++(txt p++t)):=by rw [hs];simp
   have hlen2:(A++[59]).length=A.length+1:=by simp
   have hsk2:aax aah s ((A.length+1:Nat):Int)=A.length+1:=by
    rw [←hlen2,skipA aah s (A++[59]) _ hs2,aqa aah _ (fun c hc=>tok_nblank c (head_tok p.1 _ hn c hc))];rfl
   have hlist:=listA s (A++[59]) t p hs2 hn hlow hV (ppL_head r _ t ht)
   rw [hlen2]at hlist
   have hroom:apm pre p.1=0:=by
    unfold apm
    rw [hany,if_neg (by decide),if_neg (by omega)]
   have hs3:s=(A++[59]++p.1++txt p)++t:=by rw [hs];simp
   have hlen3:(A++[59]++p.1++txt p).length=A.length+1+(p.1.length+(txt p).length):=by simp;omega
   have ih:=parA s r (pre++[p]) t (A++[59]++p.1++txt p) f ht hs3 (by omega) (by simp only [zac,zae];omega)
   rw [hlen3,zaq,zbt]at ih
   have h59:at_ s ((A.length:Nat):Int)=59:=hat
   rw [parM,hsk,if_neg (by omega),if_neg (not_not_intro h59),hsk2,hlist,if_pos rfl]
   show(if apm pre p.1=0 then _ else _)=_
   rw [if_pos hroom]
   exact ih
theorem ppL_rl:∀(r pre:List PP) (u:Str),ppL pre r=some u→r.length≤u.length
 |[],_,_,_=>zan _
 |p::r,pre,u,h=>by
  rw [ppL]at h
  cases hk:okN pre p&&okV p with
  |false=>rw [hk]at h;cases h
  |true=>
   rw [hk,cond_true,zbk]at h
   obtain⟨t,ht,rfl⟩:=h
   have:=ppL_rl r _ t ht
   simp only [zad,zac];omega
theorem par_back(l:List PP)(t:Str)(h:ppM l=(t,0)):parP t=(l,0,0)∧(∀c,t.head? =some c→c=59)∧ppL [] l=some t∧l.length≤16:=by
 unfold ppM at h
 by_cases h16:16<l.length
 ·rw [if_pos h16]at h;exact absurd (congrArg Prod.snd h) (by simp)
 ·rw [if_neg h16]at h
  cases hp:ppL [] l with
  |none=>rw [hp]at h;exact absurd (congrArg Prod.snd h) (by simp)
  |some u=>
   rw [hp]at h
   have e:u=t:=congrArg Prod.fst h
   subst e
   have hl:=ppL_rl l [] u hp
   exact⟨parA u l [] u [] (u.length+1) hp rfl (by omega) (by simp only [zal];omega),ppL_head l [] u hp,rfl,by omega⟩
open Go.Px
open Bool renaming and_eq_true → zak, true_and → zaS
open Go.Lib renaming cut → zbg, index → zaH, join → zau, trimLeftS → zbn
open Int renaming toNat_natCast → zaw
open List renaming append_nil → zam, cons_append → zaY, length_append → zac, length_cons → zad, length_map → zaL, length_nil → zal, map_congr_left → zaT, map_cons → zaG, mem_cons_of_mem → zaf, nil_append → zaB
theorem join_two(a b:Str)(l:List Str):zau (a::b::l) [58]=a++(58::zau (b::l) [58]):=by simp [zau,List.intercalate,List.intersperse]
theorem join_one(a:Str):zau [a] [58]=a:=by simp [zau,List.intercalate]
theorem spl_app(c:UInt8):∀(a z:Str),(∀b∈a,b≠c)→spl c (a++c::z)=a::spl c z
 |[],z,_=>ard c z
 |b::a,z,h=>by
  rw [zaY,apl c b _ (h b (by simp)),spl_app c a z (fun x hx=>h x (zaf _ hx))];rfl
theorem spl_no(c:UInt8):∀(a:Str),(∀b∈a,b≠c)→spl c a=[a]
 |[],_=>rfl
 |b::a,h=>by
  rw [apl c b _ (h b (by simp)),spl_no c a (fun x hx=>h x (zaf _ hx))];rfl
theorem spl_join:∀gs:List Str,gs≠[]→(∀g∈gs,∀b∈g,b≠58)→spl 58 (zau gs [58])=gs
 |[],h,_=>absurd rfl h
 |[a],_,h=>by rw [join_one,spl_no 58 a (h a (by simp))]
 |a::b::l,_,h=>by
  rw [join_two,spl_app 58 a _ (h a (by simp)),spl_join (b::l) (by simp) (fun g hg=>h g (zaf _ hg))]
def spc:Str→Bool
 |[]=>true
 |c::l=>(if c=58 then !(l.head? ==none)&& !(l.head? ==some 58)else true)&&spc l
theorem spc_index:∀l:Str,spc l=true→zaH l [58,58]= -1∧∀r,zaH (l++58::58::r) [58,58]=(l.length:Int)
 |[],_=>⟨by decide,fun r=>by rw [zaB,ath,if_pos (by simp [List.isPrefixOf])];rfl⟩
 |c::l,h=>by
  rw [spc,zak]at h
  obtain⟨i1,i2⟩:=spc_index l h.2
  have key:∀r:Str,(r=[]∨l≠[]∨c≠58)→([58,58]:Str).isPrefixOf (c::(l++r))=false:=by
   intro r hr
   by_cases h58:c=58
   ·subst h58
    cases l with
    |nil=>simp at h
    |cons d l=>
     have hd:¬d=58:=by simpa using h.1
     have hd':((58:UInt8)==d)=false:=by simpa using fun e:(58:UInt8)=d=>hd e.symm
     simp [List.isPrefixOf,hd']
   ·have:((58:UInt8)==c)=false:=by simpa using fun e:(58:UInt8)=c=>h58 e.symm
    simp [List.isPrefixOf,this]
  constructor
  ·have:=key [] (.inl rfl)
   rw [zam]at this
   rw [ath,this,if_neg (by decide),if_pos i1]
  ·intro r
   have:=key (58::58::r) (by
    by_cases h58:c=58
    ·right;left
     intro e
     subst e h58
     simp at h
    ·exact .inr (.inr h58))
   rw [zaY,ath,this,if_neg (by decide),i2 r,if_neg (by omega),zad]
   omega
theorem spc_no:∀a:Str,(∀b∈a,b≠58)→spc a=true
 |[],_=>rfl
 |c::a,h=>by rw [spc,if_neg (h c (by simp)),spc_no a (fun x hx=>h x (zaf _ hx))];rfl
theorem spc_app:∀(a:Str) (d:UInt8) (z:Str),(∀b∈a,b≠58)→d≠58→spc (d::z)=true→spc (a++58::d::z)=true
 |[],d,z,_,hd,hz=>by
  have:(d==58)=false:=by simpa using hd
  rw [zaB,spc,if_pos rfl,hz]
  simp [this]
 |c::a,d,z,h,hd,hz=>by
  rw [zaY,spc,if_neg (h c (by simp)),spc_app a d z (fun x hx=>h x (zaf _ hx)) hd hz];rfl
theorem spc_join:∀gs:List Str,(∀g∈gs,g≠[]∧∀b∈g,b≠58)→spc (zau gs [58])=true
 |[],_=>by simp [Lib.join_nil,spc]
 |[a],h=>by rw [join_one];exact spc_no a (h a (by simp)).2
 |a::b::l,h=>by
  have ih:=spc_join (b::l) (fun g hg=>h g (zaf _ hg))
  have hb:=h b (by simp)
  obtain⟨d,z,hz⟩:∃d z,zau (b::l) [58]=d::z∧d≠58:=by
   cases hbb:b with
   |nil=>exact absurd hbb hb.1
   |cons d b'=>
    have hd:d≠58:=hb.2 d (by rw [hbb];simp)
    cases l with
    |nil=>exact⟨d,b',by rw [join_one],hd⟩
    |cons x l=>exact⟨d,b'++(58::zau (x::l) [58]),by rw [join_two];rfl,hd⟩
  rw [join_two,hz.1]
  rw [hz.1]at ih
  exact spc_app a d z (h a (by simp)).2 hz.2 ih
theorem dw_idem(p:UInt8→Bool):∀l:Str,(l.dropWhile p).dropWhile p=l.dropWhile p
 |[]=>rfl
 |c::l=>by
  cases h:p c with
  |true=>rw [List.dropWhile_cons_of_pos h];exact dw_idem p l
  |false=>rw [List.dropWhile_cons_of_neg (by rw [h];decide),List.dropWhile_cons_of_neg (by rw [h];decide)]
theorem hex_low:∀c:UInt8,hexB c=true→hexB (aer c)=true:=aae _ (by decide+kernel)
theorem hex_n58:∀c:UInt8,hexB c=true→(!(aer c==58))=true:=aae _ (by decide+kernel)
theorem grpN_idem(g:Str)(h:aos g=true):aos (arn g)=true∧arn (arn g)=arn g∧arn g≠[]∧∀b∈arn g,b≠58:=by
 have hx:g.all hexB=true:=by unfold aos at h;simp only [zak]at h;exact h.2
 have hlen:=grpN_len g h
 have h58:∀b∈arn g,b≠58:=fun b hb=>by
  have:=grpN_q (fun c=> !(c==58)) hex_n58 (by decide) g h b hb
  simpa using this
 have hhex:∀b∈arn g,hexB b=true:=grpN_q hexB hex_low (by decide) g h
 have hne:arn g≠[]:=by
  unfold arn
  split
  ·simp
  ·assumption
 refine⟨?_, ?_,hne,h58⟩
 ·have:=List.length_pos_iff.2 hne
  unfold aos
  rw [decide_eq_true (by omega),decide_eq_true hlen,zaS,zaS,List.all_eq_true]
  exact hhex
 ·have hlow:lowP (arn g)=arn g:=by
   show aaj (arn g)=arn g
   refine lowerL_id _ fun b hb=> ?_
   unfold arn at hb
   split at hb
   ·rw [List.mem_singleton.1 hb];decide
   ·have hm:b∈lowP g:=(List.dropWhile_suffix _).subset hb
    obtain⟨d,hd,rfl⟩:=List.mem_map.1 hm
    exact low2 d
  have htr:zbn (arn g) [48]=[]∨zbn (arn g) [48]=arn g:=by
   unfold arn
   split
   ·left;decide
   ·right;unfold zbn;exact dw_idem _ _
  have e:arn (arn g)=if zbn (arn g) [48]=[]then [48]else zbn (arn g) [48]:=by
   conv=>lhs;unfold arn
   rw [show lowP (if zbn (lowP g) [48]=[]then [48]else zbn (lowP g) [48])=arn g from hlow]
  rw [e]
  rcases htr with h0|h0
  ·rw [if_pos h0]
   have:arn g=[48]:=by
    unfold arn at h0⊢
    split
    ·rfl
    ·rename_i hn
     rw [if_neg hn]at h0
     unfold zbn at h0 hn
     rw [dw_idem]at h0
     exact absurd h0 hn
   rw [this]
  ·rw [h0,if_neg hne]
def gdG(gs:List Str):Prop:=∀g∈gs,aos g=true∧arn g=g∧g≠[]∧∀b∈g,b≠58
theorem grpList_gd(s:Str):gdG (aet s).1:=by
 intro x hx
 unfold aet at hx
 split at hx
 ·rename_i ha
  obtain⟨y,hy,rfl⟩:=List.mem_map.1 hx
  exact grpN_idem y (List.all_eq_true.1 ha y hy)
 ·simp at hx
theorem grpL0_gd(s:Str):gdG (alk s).1:=by
 unfold alk
 split
 ·intro x hx;simp at hx
 ·exact grpList_gd s
theorem grpList_join(gs:List Str)(h:gdG gs)(hne:gs≠[]):aet (zau gs [58])=(gs,true):=by
 unfold aet
 rw [spl_join gs hne (fun g hg=>(h g hg).2.2.2),if_pos (List.all_eq_true.2 fun g hg=>(h g hg).1)]
 congr 1
 conv=>rhs;rw [←List.map_id gs]
 exact zaT fun g hg=>(h g hg).2.1
theorem join_ne(gs:List Str)(h:gdG gs)(hne:gs≠[]):zau gs [58]≠[]:=by
 intro e
 have:=spl_join gs hne (fun g hg=>(h g hg).2.2.2)
 rw [e]at this
 cases gs with
 |nil=>exact hne rfl
 |cons g l=>
  have e2:([]:Str)=g:=by
   have:=congrArg List.head? this
   simpa [spl] using this
  exact(h g (by simp)).2.2.1 e2.symm
theorem grpL0_join(gs:List Str)(h:gdG gs):alk (zau gs [58])=(gs,true):=by
 unfold alk
 by_cases hne:gs=[]
 ·subst hne;rw [if_pos (by simp [Lib.join_nil])]
 ·rw [if_neg (join_ne gs h hne),grpList_join gs h hne]
theorem join_len1:∀gs:List Str,(∀g∈gs,g.length≤4)→gs≠[]→(zau gs [58]).length+1≤gs.length*5
 |[],_,h=>absurd rfl h
 |[a],h,_=>by rw [join_one];have:=h a (by simp);simp;omega
 |a::b::l,h,_=>by
  have ih:=join_len1 (b::l) (fun g hg=>h g (zaf _ hg)) (by simp)
  have:=h a (by simp)
  rw [join_two]
  simp only [zac,zad]at ih⊢
  omega
theorem gdG_len{gs:List Str}(h:gdG gs):∀g∈gs,g.length≤4:=fun g hg=>by
 have:=(h g hg).1
 unfold aos at this
 simp only [zak,decide_eq_true_eq]at this
 exact this.1.2
theorem grps_idem(x:Str)(h:(aor x).2=true):aor (aor x).1=((aor x).1,true):=by
 unfold aor at h
 by_cases h39:39<x.length
 ·rw [if_pos h39]at h;cases h
 rw [if_neg h39]at h
 by_cases hc:(zbg x [58,58]).2.2=false
 ·rw [if_pos hc]at h
  simp only [zak,decide_eq_true_eq]at h
  have e:(aor x).1=zau (aet x).1 [58]:=by unfold aor;rw [if_neg h39,if_pos hc]
  rw [e]
  have hg:=grpList_gd x
  generalize(aet x).1=gs at h hg⊢
  have hne:gs≠[]:=by intro e;rw [e]at h;exact absurd h.2 (by decide)
  have hl:=join_len1 gs (gdG_len hg) hne
  have hi:=(spc_index _ (spc_join gs fun g hg'=>(hg g hg').2.2)).1
  unfold aor
  rw [if_neg (by omega),cut_eq,if_pos hi,if_pos rfl,grpList_join gs hg hne,decide_eq_true h.2];rfl
 ·rw [if_neg hc]at h
  by_cases hb:(!(alk (zbg x [58,58]).1).2|| !(alk (zbg x [58,58]).2.1).2||decide (7<((alk (zbg x [58,58]).1).1.length:Int)+((alk (zbg x [58,58]).2.1).1.length:Int)))=true
  ·rw [if_pos hb]at h;cases h
  ·have e:(aor x).1=zau (alk (zbg x [58,58]).1).1 [58]++[58,58]++zau (alk (zbg x [58,58]).2.1).1 [58]:=by unfold aor;rw [if_neg h39,if_neg hc,if_neg hb]
   rw [e]
   have gA:=grpL0_gd (zbg x [58,58]).1
   have gB:=grpL0_gd (zbg x [58,58]).2.1
   simp only [Bool.or_eq_true,Bool.not_eq_true',decide_eq_true_eq,not_or]at hb
   have h7:=hb.2
   generalize(alk (zbg x [58,58]).1).1=A at gA h7⊢
   generalize(alk (zbg x [58,58]).2.1).1=B at gB h7⊢
   have lA:(zau A [58]).length≤A.length*5:=apx [58] 4 A (gdG_len gA)
   have lB:(zau B [58]).length≤B.length*5:=apx [58] 4 B (gdG_len gB)
   have hi:=(spc_index _ (spc_join A fun g hg'=>(gA g hg').2.2)).2 (zau B [58])
   have e2:zau A [58]++[58,58]++zau B [58]=zau A [58]++58::58::zau B [58]:=by simp
   have hcut:zbg (zau A [58]++[58,58]++zau B [58]) [58,58]=(zau A [58],zau B [58],true):=by
    rw [e2,cut_eq,hi,if_neg (by omega),zaw,List.take_left]
    congr 2
    rw [show zau A [58]++58::58::zau B [58]=(zau A [58]++[58,58])++zau B [58]by simp,show(zau A [58]).length+([58,58]:Str).length=(zau A [58]++[58,58]).length by simp,List.drop_left]
   unfold aor
   rw [if_neg (by simp only [zac,zad,zal];omega),hcut,if_neg (show¬(true=false)by decide)]
   simp only
   rw [grpL0_join A gA,grpL0_join B gB,if_neg (by
    simp only [Bool.or_eq_true,Bool.not_eq_true',decide_eq_true_eq]
    rintro((h|h)|h)
    ·cases h
    ·cases h
    ·omega)]
theorem spl_map(c:UInt8)(f:UInt8→UInt8)(hf:∀b,f b=c↔b=c):∀s:Str,spl c (s.map f)=(spl c s).map (List.map f)
 |[]=>rfl
 |b::l=>by
  have ih:=spl_map c f hf l
  by_cases h:b=c
  ·have hb:f b=c:=(hf b).2 h
   rw [zaG,h,ard]
   rw [h]at hb
   rw [hb,ard,ih];rfl
  ·rw [zaG,apl c b l h,apl c (f b) _ (fun e=>h ((hf b).1 e)),ih]
   cases spl c l with
   |nil=>rfl
   |cons x r=>rfl
theorem low46':∀c:UInt8,(decide (aer c=46))=decide (c=46):=aae _ (by decide+kernel)
theorem low46(b:UInt8):aer b=46↔b=46:=by
 have:=low46' b
 by_cases h:b=46
 ·simp [h];decide
 ·rw [decide_eq_false h,decide_eq_false_iff_not]at this
  simp [h,this]
theorem low_lab:∀c:UInt8,labB (aer c)=labB c:=aae _ (by decide+kernel)
theorem low_dig:∀c:UInt8,acf (aer c)=acf c:=aae _ (by decide+kernel)
theorem low_dig2:∀c:UInt8,acf (aer c)=true→aer c=c:=aae _ (by decide+kernel)
theorem low_45':∀c:UInt8,(aer c==45)=(c==45):=aae _ (by decide+kernel)
theorem at_low(x:Str)(i:Int):(at_ (aaj x) i==45)=(at_ x i==45):=by
 unfold aaj at_
 rw [List.getD_eq_getElem?_getD,List.getD_eq_getElem?_getD,List.getElem?_map]
 cases x[i.toNat]? with
 |none=>rfl
 |some c=>exact low_45' c
theorem labOk_low(x:Str):asm (aaj x)=asm x:=by
 have hl:(aaj x).length=x.length:=by unfold aaj;exact zaL ..
 have ha:(aaj x).all labB=x.all labB:=by
  unfold aaj
  rw [List.all_map]
  congr 1
  funext c
  exact low_lab c
 unfold asm
 rw [hl,at_low,at_low,ha]
theorem labW_low(x:Str):labW (aaj x)=labW x:=by
 unfold labW aaj
 rw [List.any_map]
 congr 1
 funext c
 show(!acf (aer c))=_
 rw [low_dig]
theorem named_low(s:Str):asy (aaj s)=asy s:=by
 have hl:(aaj s).length=s.length:=by unfold aaj;exact zaL ..
 have hs:spl 46 (aaj s)=(spl 46 s).map aaj:=spl_map 46 aer low46 s
 have h1:((spl 46 s).map aaj).all asm=(spl 46 s).all asm:=by rw [List.all_map];congr 1;funext x;exact labOk_low x
 have h2:((spl 46 s).map aaj).any labW=(spl 46 s).any labW:=by rw [List.any_map];congr 1;funext x;exact labW_low x
 unfold asy
 rw [hl,hs,h1,h2]
theorem brk_form(g:Str):brkB ([91]++g++[93])=true∧sub ([91]++g++[93]) 1 ((([91]++g++[93]).length:Int)-1)=g:=by
 have hl:([91]++g++[93]).length=g.length+2:=by simp
 have e:(((g.length+2:Nat):Int)-1)=(([91]++g).length:Int):=by simp;omega
 constructor
 ·unfold brkB
  rw [hl,decide_eq_true (by omega),zaS,e]
  have h1:at_ ([91]++g++[93]) (([91]++g).length:Int)=93:=at_mid ([91]++g) 93 []
  have h0:at_ ([91]++g++[93]) 0=91:=rfl
  rw [h1,h0];rfl
 ·rw [hl]
  have:=subA ([91]++g++[93]) [91] g [93] (by simp)
  have e2:(((g.length+2:Nat):Int)-1)=((([91]:Str).length+g.length:Nat):Int):=by simp;omega
  rw [e2]
  exact this
theorem host_idem(s:Str)(h:(afi s).2=true):afi (afi s).1=((afi s).1,true):=by
 by_cases hb:brkB s=true
 ·unfold afi at h
  rw [if_pos hb]at h
  by_cases hg:(aor (sub s 1 ((s.length:Int)-1))).2=true
  ·have e:(afi s).1=[91]++(aor (sub s 1 ((s.length:Int)-1))).1++[93]:=by unfold afi;rw [if_pos hb,if_pos hg]
   rw [e]
   have hi:=grps_idem _ hg
   generalize(aor (sub s 1 ((s.length:Int)-1))).1=g at hi⊢
   obtain⟨f1,f2⟩:=brk_form g
   unfold afi
   rw [if_pos f1,f2,hi,if_pos rfl]
  ·rw [if_neg hg]at h;cases h
 ·by_cases hn:numsP s=true
  ·have e:afi s=(s,true):=by unfold afi;rw [if_neg hb,if_pos hn]
   rw [e];exact e
  ·by_cases hm:asy s=true
   ·have e:afi s=(aaj s,true):=by unfold afi;rw [if_neg hb,if_neg hn,if_pos hm]
    rw [e]
    have hl:(aaj s).length=s.length:=by unfold aaj;exact zaL ..
    have hch:∀b∈s,labB b=true∨b=46:=by
     unfold asy at hm
     simp only [zak]at hm
     exact aqm 46 labB s (fun x hx=>by
      have:=List.all_eq_true.1 hm.1.2 x hx
      unfold asm at this
      simp only [zak]at this
      exact this.2)
    have nb:brkB (aaj s)=false:=by
     cases hx:brkB (aaj s)with
     |false=>rfl
     |true=>
      exfalso
      unfold brkB at hx
      simp only [zak,decide_eq_true_eq,beq_iff_eq]at hx
      have:=at_mem (aaj s) 0 (by omega)
      have e0:at_ (aaj s) ((0:Nat):Int)=91:=hx.1.2
      rw [e0]at this
      obtain⟨d,hd,he⟩:=List.mem_map.1 this
      rcases hch d hd with h1|h1
      ·have:labB (aer d)=true:=by rw [low_lab];exact h1
       rw [he]at this
       exact lab_n91 91 this rfl
      ·rw [h1]at he;exact absurd he (by decide)
    have nn:numsP (aaj s)=false:=by
     cases hx:numsP (aaj s)with
     |false=>rfl
     |true=>
      exfalso
      have hx':=hx
      unfold numsP at hx'
      simp only [zak]at hx'
      have:=aqm 46 acf (aaj s) (fun x hx=>(num_parts x (by rw [←oct_num];exact List.all_eq_true.1 hx'.1.2 x hx)).2.2)
      have hid:aaj s=s:=lowerL_id s fun b hb=>by
       rcases this (aer b) (List.mem_map_of_mem hb)with h1|h1
       ·exact low_dig2 b h1
       ·rw [h1];exact((low46 b).1 h1).symm
      rw [hid]at hx
      exact hn hx
    show afi (aaj s)=(aaj s,true)
    unfold afi
    rw [nb,if_neg (by decide),nn,if_neg (by decide),named_low,hm,if_pos rfl,lowlowL]
   ·unfold afi at h
    rw [if_neg hb,if_neg hn,if_neg hm]at h;cases h
open Bool renaming and_eq_true → zak, or_false → zbx
open List renaming append_nil → zam
open Option renaming map_eq_some_iff → zbk
def lastOk(l:Str):Prop:=∀c,l.getLast? =some c→aah c=false
theorem lastOk_app(a b:Str)(hb:b≠[])(h:lastOk b):lastOk (a++b):=by
 intro c hc
 refine h c ?_
 cases hl:b.getLast? with
 |none=>exact absurd (List.getLast?_eq_none_iff.1 hl) hb
 |some d=>
  rw [List.getLast?_append,hl]at hc
  exact hc
theorem lastOk_all(p:UInt8→Bool)(hp:∀c,p c=true→aah c=false)(b:Str)(h:b.all p=true):lastOk b:=
 fun c hc=>hp c (List.all_eq_true.1 h c (List.mem_of_getLast? hc))
theorem att(a:Str)(d:UInt8)(h:aah d=false):lastOk (a++[d]):=by
 intro c hc
 rw [List.getLast?_concat,Option.some.injEq]at hc
 rw [←hc];exact h
theorem trim_id(s:Str)(h1:∀c,s.head? =some c→aah c=false)(h2:lastOk s):apj s=s:=by
 have e1:s.dropWhile aah=s:=by
  cases s with
  |nil=>rfl
  |cons c l=>exact List.dropWhile_cons_of_neg (by rw [h1 c rfl];decide)
 have e2:s.reverse.dropWhile aah=s.reverse:=by
  cases hr:s.reverse with
  |nil=>rfl
  |cons c l=>
   refine List.dropWhile_cons_of_neg ?_
   have:s.getLast? =some c:=by rw [←List.head?_reverse,hr];rfl
   rw [h2 c this];decide
 unfold apj rdw
 rw [e1,e2,List.reverse_reverse]
theorem vtx_last(v:Str)(hne:vtx v≠[]):lastOk (vtx v):=by
 unfold vtx at hne⊢
 cases h1:aqq v with
 |true=>rw [Bool.true_or,cond_true];exact lastOk_all aba tok_nblank v (isTok_ne h1).2
 |false=>
  cases h2:brV v with
  |true=>
   obtain⟨g,hg,_⟩:=brV_form v h2
   rw [Bool.or_true,cond_true,hg]
   exact att (91::g) 93 (by decide)
  |false=>
   rw [zbx,cond_false]
   unfold quoT
   exact att (34::v.flatMap alq) 34 (by decide)
theorem ppL_last:∀(r pre:List PP) (u V:Str),ppL pre r=some u→lastOk V→lastOk (V++u)
 |[],pre,u,V,h,hV=>by
  rw [ppL,Option.some.injEq]at h
  subst h;rw [zam];exact hV
 |p::r,pre,u,V,h,hV=>by
  rw [ppL]at h
  cases hk:okN pre p&&okV p with
  |false=>rw [hk]at h;cases h
  |true=>
   rw [hk,cond_true,zbk]at h
   obtain⟨t,ht,rfl⟩:=h
   rw [zak]at hk
   have hn:aqq p.1=true:=by
    have:=hk.1
    unfold okN at this
    simp only [zak]at this
    exact this.1.1
   have e:V++59::(p.1++(txt p++t))=(V++59::(p.1++txt p))++t:=by simp
   rw [e]
   refine ppL_last r _ t _ ht ?_
   have hp1:=lastOk_all aba tok_nblank p.1 (isTok_ne hn).2
   cases h2:p.2.2 with
   |false=>
    rw [txt_no p h2,zam,show V++59::p.1=(V++[59])++p.1 by simp]
    exact lastOk_app _ _ (isTok_ne hn).1 hp1
   |true=>
    rw [txt_eq p h2,show V++59::(p.1++61::vtx p.2.1)=(V++59::p.1++[61])++vtx p.2.1 by simp]
    by_cases hv:vtx p.2.1=[]
    ·rw [hv,zam]
     exact att _ 61 (by decide)
    ·exact lastOk_app _ _ hv (vtx_last _ hv)
open Go.Op renaming bytesLess → zaF
open List renaming append_assoc → zaq, nil_append → zaB, singleton_append → zbt
open UInt8 renaming lt_iff_toNat_lt → zbd
theorem gtN_less(a b:Str):gtN a b=zaF b a:=by unfold gtN;rw [←less_tri b a]
theorem less_trans:∀a b c:Str,zaF b a=false→zaF c b=false→zaF c a=false
 |[],b,c,_,_=>by cases c<;>rfl
 |x::a,[],c,h,_=>by cases h
 |x::a,y::b,[],_,h=>by cases h
 |x::a,y::b,z::c,h1,h2=>by
  rw [zaF,Bool.or_eq_false_iff]at h1 h2⊢
  have n1:¬y<x:=of_decide_eq_false h1.1
  have n2:¬z<y:=of_decide_eq_false h2.1
  rw [zbd]at n1 n2
  refine⟨decide_eq_false (by rw [zbd];omega), ?_⟩
  by_cases h:z=x
  ·have e:y=x:=by
    apply UInt8.toNat_inj.1
    rw [h]at n2
    omega
   subst h e
   have e1:(y==y)=true:=by simp
   rw [e1,zaS]at h1 h2⊢
   exact less_trans a b c h1.2 h2.2
  ·have:(z==x)=false:=by simpa using h
   rw [this];rfl
theorem less_asym(a b:Str)(h:zaF a b=true):zaF b a=false:=by rw [less_tri b a,h];rfl
def leP(a b:PP):Prop:=zaF b.1 a.1=false
theorem leP_anti(a b:PP)(h1:leP a b)(h2:leP b a):a.1=b.1:=by
 unfold leP at h1 h2
 rw [less_tri b.1 a.1,h2,Bool.false_or]at h1
 have:(a.1==b.1)=true:=by simpa using h1
 exact eq_of_beq this
theorem insV_dsc(x:PP):∀V:List PP,V.Pairwise (fun a b=>leP b a)→(insV x V).Pairwise (fun a b=>leP b a)
 |[],_=>by simp [insV]
 |a::V,h=>by
  rw [List.pairwise_cons]at h
  rw [insV]
  cases hg:gtN a.1 x.1 with
  |true=>
   rw [cond_true,List.pairwise_cons]
   refine⟨fun y hy=> ?_,insV_dsc x V h.2⟩
   rcases insV_mem x y V hy with rfl|hy
   ·exact less_asym _ _ (by rw [←gtN_less];exact hg)
   ·exact h.1 y hy
  |false=>
   have hax:leP a x:=by unfold leP;rw [←gtN_less];exact hg
   rw [cond_false,List.pairwise_cons,List.pairwise_cons]
   refine⟨fun y hy=> ?_,h.1,h.2⟩
   rcases List.mem_cons.1 hy with rfl|hy
   ·exact hax
   ·exact less_trans _ _ _ (h.1 y hy) hax
theorem insV_perm(x:PP):∀V:List PP,(insV x V).Perm (x::V)
 |[]=>List.Perm.refl _
 |a::V=>by
  rw [insV]
  cases gtN a.1 x.1 with
  |true=>rw [cond_true];exact((insV_perm x V).cons a).trans (List.Perm.swap x a V)
  |false=>rw [cond_false]
theorem insR_srt(x:PP)(l:List PP)(h:l.Pairwise leP):(insR x l).Pairwise leP:=by
 unfold insR
 rw [List.pairwise_reverse]
 exact insV_dsc x _ (List.pairwise_reverse.2 (by simpa using h))
theorem insR_perm(x:PP)(l:List PP):(insR x l).Perm (l++[x]):=by
 unfold insR
 refine(List.reverse_perm _).trans ((insV_perm x _).trans ?_)
 exact(((List.reverse_perm l).cons x).trans (List.perm_append_comm (l₁:=[x]) (l₂:=l)))
theorem fold_srt:∀(q p:List PP),p.Pairwise leP→(q.foldl (fun out x=>insR x out) p).Pairwise leP∧(q.foldl (fun out x=>insR x out) p).Perm (p++q)
 |[],p,h=>⟨h,by simp⟩
 |a::q,p,h=>by
  rw [List.foldl_cons]
  obtain⟨h1,h2⟩:=fold_srt q (insR a p) (insR_srt a p h)
  refine⟨h1,h2.trans ?_⟩
  have:=(insR_perm a p).append_right q
  rw [zaq,zbt]at this
  exact this
theorem isort_srt(l:List PP):(agl l).Pairwise leP:=(fold_srt l [] List.Pairwise.nil).1
theorem apr(l:List PP):(agl l).Perm l:=by
 have:=(fold_srt l [] List.Pairwise.nil).2
 rw [zaB]at this
 exact this
def dstN(l:List PP):Prop:=l.Pairwise fun a b=>a.1≠b.1
theorem dst_inj:∀(l:List PP),dstN l→∀a∈l,∀b∈l,a.1=b.1→a=b
 |[],_,a,h,_,_,_=>absurd h (by simp)
 |x::l,hd,a,ha,b,hb,e=>by
  unfold dstN at hd
  rw [List.pairwise_cons]at hd
  rcases List.mem_cons.1 ha with rfl|ha'
  ·rcases List.mem_cons.1 hb with rfl|hb'
   ·rfl
   ·exact absurd e (hd.1 b hb')
  ·rcases List.mem_cons.1 hb with rfl|hb'
   ·exact absurd e.symm (hd.1 a ha')
   ·exact dst_inj l hd.2 a ha' b hb' e
theorem dst_perm{l m:List PP}(h:l.Perm m)(hd:dstN l):dstN m:=h.pairwise hd fun h e=>h e.symm
theorem isort_uniq(l m:List PP)(h:l.Perm m)(hd:dstN l):agl l=agl m:=by
 have hp:(agl l).Perm (agl m):=(apr l).trans (h.trans (apr m).symm)
 have hdi:=dst_perm (apr l).symm hd
 refine List.Perm.eq_of_pairwise (fun a b ha hb h1 h2=> ?_) (isort_srt l) (isort_srt m) hp
 exact dst_inj _ hdi a ha b (hp.mem_iff.2 hb) (leP_anti a b h1 h2)
theorem ppL_dst:∀(r pre:List PP) (u:Str),ppL pre r=some u→dstN r∧∀p∈r,(∀q∈pre,q.1≠p.1)∧aaj p.1=p.1
 |[],pre,u,_=>⟨List.Pairwise.nil,by simp⟩
 |p::r,pre,u,h=>by
  rw [ppL]at h
  cases hk:okN pre p&&okV p with
  |false=>rw [hk]at h;cases h
  |true=>
   rw [hk,cond_true,zbk]at h
   obtain⟨t,ht,rfl⟩:=h
   rw [zak]at hk
   have hN:=hk.1
   unfold okN at hN
   simp only [zak,decide_eq_true_eq,Bool.not_eq_true']at hN
   obtain⟨i1,i2⟩:=ppL_dst r _ t ht
   have hpre:∀q∈pre,q.1≠p.1:=fun q hq e=>by
    have:=List.any_eq_false.1 hN.2 q hq
    exact this (by simpa using e)
   refine⟨List.pairwise_cons.2 ⟨fun q hq=>(i2 q hq).1 p (by simp),i1⟩,fun q hq=> ?_⟩
   rcases List.mem_cons.1 hq with rfl|hq
   ·exact⟨hpre,hN.1.2⟩
   ·exact⟨fun z hz=>(i2 q hq).1 z (by simp [hz]),(i2 q hq).2⟩
theorem get_mem(l:List PP)(hd:dstN l)(hlow:∀p∈l,aaj p.1=p.1)(p:PP)(hp:p∈l):getP l p.1=(p.2.1,true):=by
 have e:getP l p.1=(match l.find? (fun q=>aaj q.1==aaj p.1)with|some p=>(p.2.1,true)|none=>([],false)):=rfl
 rw [e]
 cases hf:l.find? (fun q=>aaj q.1==aaj p.1)with
 |none=>
  have:=List.find?_eq_none.1 hf p hp
  exact absurd (by simp) this
 |some q=>
  have h1:=List.find?_some hf
  have h2:=List.mem_of_find?_eq_some hf
  have h3:aaj q.1=aaj p.1:=by simpa using h1
  rw [hlow q h2,hlow p hp]at h3
  rw [dst_inj l hd q h2 p hp h3]
theorem hostP_q(q:UInt8→Bool)(h1:∀c,hexB c=true→q (aer c)=true)(h2:q 58=true)(h3:q 48=true)(h4:q 91=true)(h5:q 93=true)(h6:q 46=true)(h7:∀c,acf c=true→q c=true)(h8:∀c,labB c=true→q (aer c)=true)(s:Str):∀c∈(afi s).1,q c=true:=by
 intro c hc
 unfold afi at hc
 split at hc
 ·split at hc
  ·rcases List.mem_append.1 hc with hc|hc
   ·rcases List.mem_append.1 hc with hc|hc
    ·rw [List.mem_singleton.1 hc];exact h4
    ·exact grpsP_q q h1 h2 h3 _ c hc
   ·rw [List.mem_singleton.1 hc];exact h5
  ·simp at hc
 ·split at hc
  ·rename_i hn
   unfold numsP at hn
   simp only [zak]at hn
   rcases aqm 46 acf s (fun x hx=>(num_parts x (by rw [←oct_num];exact List.all_eq_true.1 hn.1.2 x hx)).2.2) c hc with h|h
   ·exact h7 c h
   ·rw [h];exact h6
  ·split at hc
   ·rename_i hn
    unfold asy at hn
    simp only [zak]at hn
    obtain⟨d,hd,rfl⟩:=List.mem_map.1 hc
    rcases aqm 46 labB s (fun x hx=>by
     have:=List.all_eq_true.1 hn.1.2 x hx
     unfold asm at this
     simp only [zak]at this
     exact this.2) d hd with h|h
    ·exact h8 d h
    ·rw [h];exact h6
   ·simp at hc
theorem host_sep(s:Str):∀c∈(afi s).1,(!sepB c)=true:=hostP_q _ (aae _ (by decide+kernel)) (by decide) (by decide) (by decide) (by decide) (by decide) (aae _ (by decide+kernel)) (aae _ (by decide+kernel)) s
theorem host_form(s:Str)(h:(afi s).2=true):(∃g,(afi s).1=[91]++g++[93])∨(∀c∈(afi s).1,c≠58∧c≠91∧c≠93):=by
 by_cases hb:brkB s=true
 ·left
  unfold afi at h⊢
  rw [if_pos hb]at h⊢
  by_cases hg:(aor (sub s 1 ((s.length:Int)-1))).2=true
  ·rw [if_pos hg];exact⟨_,rfl⟩
  ·rw [if_neg hg]at h;cases h
 ·right
  intro c hc
  unfold afi at hc
  rw [if_neg hb]at hc
  split at hc
  ·rename_i hn
   unfold numsP at hn
   simp only [zak]at hn
   rcases aqm 46 acf s (fun x hx=>(num_parts x (by rw [←oct_num];exact List.all_eq_true.1 hn.1.2 x hx)).2.2) c hc with h|h
   ·revert h;revert c;exact fun c _=>(aae (fun c=>acf c=true→c≠58∧c≠91∧c≠93) (by decide+kernel)) c
   ·rw [h];decide
  ·split at hc
   ·rename_i hn
    unfold asy at hn
    simp only [zak]at hn
    obtain⟨d,hd,rfl⟩:=List.mem_map.1 hc
    rcases aqm 46 labB s (fun x hx=>by
     have:=List.all_eq_true.1 hn.1.2 x hx
     unfold asm at this
     simp only [zak]at this
     exact this.2) d hd with h|h
    ·exact(aae (fun c=>labB c=true→aer c≠58∧aer c≠91∧aer c≠93) (by decide+kernel)) d h
    ·rw [h];decide
   ·simp at hc
theorem host_ne'(s:Str)(h:(afi s).2=true):(afi s).1≠[]:=by
 intro e
 have:=host_idem s h
 rw [e]at this
 exact absurd (congrArg Prod.snd this) (by decide)
open Bool renaming and_eq_true → zak, not_false → zaN, not_true → zaC
open Go.Lib renaming hasPrefix → zba, trimPrefix → zas
open List renaming all_cons → zbh, length_nil → zal, length_take → zaP
open Option renaming bind_some → zaa, map_some → zaR
def aoe(s:Str):Bool:=s.all fun c=> !aas c
theorem inC_clean(k:Int)(hk:k=0∨k=1∨k=2):∀c:UInt8,inC c k=true→aas c=false:=by
 rcases hk with rfl|rfl|rfl<;>exact aae _ (by decide+kernel)
theorem lower_control:∀c:UInt8,aas (aer c)=aas c:=aae _ (by decide+kernel)
theorem clean_lower(s:Str):aoe (aaj s)=aoe s:=by
 unfold aoe aaj
 rw [List.all_map]
 congr 1
 funext c
 simp only [Function.comp_apply,lower_control]
theorem clean_eq(s:Str)(hs:s.length≤4194304):akx FU s=some (aoe s):=by
 have h:=all_gen0 (fun c=> !aas c) s hs false (ali FU s)
  (fun fk=>by rw [amq,agp,if_neg (by omega)])
  (fun fk k hk h=>by
   have h':aas (at_ s (k:Int))=true:=by simpa using h
   rw [amq,agp,if_pos (by omega),gok,ad_control,zaa,h',cond_true])
  (fun fk k hk h=>by
   have h':aas (at_ s (k:Int))=false:=by simpa using h
   rw [amq,agp,if_pos (by omega),gok,ad_control,zaa,h',cond_false,gok])
 unfold akx
 rw [h,zaa]
 unfold aoe
 cases s.all (fun c=> !aas c)<;>rfl
theorem conF_clean(k:Int)(hk:k=0∨k=1∨k=2):∀(f:Nat) (l:Str),badF k f l=none→aoe (conF k f l)=true
 |0,l,_=>rfl
 |f+1,l,h=>by
  unfold badF at h
  unfold conF
  by_cases hl:l=[]
  ·rw [if_pos hl];rfl
  ·rw [if_neg hl]at h⊢
   cases hc:inC (at_ l 0) k with
   |true=>
    rw [hc,if_pos rfl,Option.map_eq_none_iff]at h
    rw [if_pos rfl]
    have:=conF_clean k hk f (l.drop 1) h
    unfold aoe at this⊢
    rw [zbh,inC_clean k hk _ hc,this];rfl
   |false=>
    rw [hc,if_neg (by decide)]at h
    rw [if_neg (by decide)]
    cases hE:escH l with
    |none=>rw [hE]at h;cases h
    |some v=>
     rw [hE]at h
     simp only at h⊢
     cases hv:aas v with
     |true=>rw [hv,if_pos rfl]at h;cases h
     |false=>
      rw [hv,if_neg (by decide),Option.map_eq_none_iff]at h
      have:=conF_clean k hk f (l.drop 3) h
      unfold aoe at this⊢
      rw [zbh,hv,this];rfl
theorem conP_clean(k:Int)(hk:k=0∨k=1∨k=2)(l:Str)(h:badP k l=none):aoe (conP k l)=true:=conF_clean k hk _ l h
def okQ(k:Int)(p:PP):Prop:=p.1≠[]∧aaj p.1=p.1∧aoe p.1=true∧aoe p.2.1=true∧(k=1→p.2.2= !decide (p.2.1=[]))∧(k=2→p.2.2=true)
theorem room_no{l:List PP}{nm:Str}(h:apm l nm=0):∀q∈l,q.1≠nm:=by
 unfold apm at h
 split at h
 ·exact absurd h (by decide)
 ·rename_i hn
  intro q hq e
  exact hn (List.any_eq_true.2 ⟨q,hq,by simpa using e⟩)
theorem fld_ok(k:Int)(hk:k=1∨k=2)(l:List PP)(T:Str)(h:(fldP k l T).1=0):okQ k (fldP k l T).2∧∀q∈l,q.1≠(fldP k l T).2.1:=by
 have hk3:k=0∨k=1∨k=2:=.inr hk
 unfold fldP at h⊢
 cases hb:badP k (T.take (aqr T))with
 |some j=>rw [hb]at h;exact absurd h (show¬(5:UInt8)=0 by decide)
 |none=>
  rw [hb]at h
  simp only at h⊢
  by_cases h0:aqr T=0
  ·rw [if_pos h0]at h;exact absurd h (by decide)
  ·rw [if_neg h0]at h⊢
   have hne:∀_:aqr T≤T.length,T.take (aqr T)≠[]:=fun hle e=>by
    have:=congrArg List.length e
    rw [zaP,zal]at this
    omega
   have hne':=hne (are _ _)
   have hN:aaj (conP k (T.take (aqr T)))≠[]:=fun e=>hne' ((conP_nil k _ hb).1 ((lower_nil _).1 e))
   have hNc:aoe (aaj (conP k (T.take (aqr T))))=true:=by rw [clean_lower];exact conP_clean k hk3 _ hb
   by_cases hlt:aqr T<T.length
   ·rw [if_pos hlt]at h⊢
    cases hb2:badP k (T.drop (aqr T+1))with
    |some j=>rw [hb2]at h;exact absurd h (show¬(5:UInt8)=0 by decide)
    |none=>
     rw [hb2]at h
     simp only at h⊢
     by_cases hx:T.drop (aqr T+1)=[]∧k=1
     ·rw [if_pos hx]at h;exact absurd h (by decide)
     ·rw [if_neg hx]at h⊢
      refine⟨⟨hN,lowlowL _,hNc,conP_clean k hk3 _ hb2,fun h1=> ?_,fun _=>rfl⟩,room_no h⟩
      have:¬conP k (T.drop (aqr T+1))=[]:=fun e=>hx ⟨(conP_nil k _ hb2).1 e,h1⟩
      show true= !decide (conP k (T.drop (aqr T+1))=[])
      rw [decide_eq_false this];rfl
   ·rw [if_neg hlt]at h⊢
    by_cases h2:k=2
    ·rw [if_pos h2]at h;exact absurd h (by decide)
    ·rw [if_neg h2]at h⊢
     exact⟨⟨hN,lowlowL _,hNc,rfl,fun _=>rfl,fun e=>absurd e h2⟩,room_no h⟩
def LS(k:Int)(l:List PP):Prop:=dstN l∧∀p∈l,okQ k p
theorem LS.nil(k:Int):LS k []:=⟨List.Pairwise.nil,by simp⟩
theorem LS.snoc{k:Int}{l:List PP}(h:LS k l)(p:PP)(hp:okQ k p)(hn:∀q∈l,q.1≠p.1):LS k (l++[p]):=by
 refine⟨List.pairwise_append.2 ⟨h.1,List.pairwise_singleton _ _,fun a ha b hb=> ?_⟩,fun q hq=> ?_⟩
 ·rw [List.mem_singleton.1 hb];exact hn a ha
 ·rcases List.mem_append.1 hq with hq|hq
  ·exact h.2 q hq
  ·rw [List.mem_singleton.1 hq];exact hp
theorem LS.sort{k:Int}{l:List PP}(h:LS k l):LS k (agl l):=⟨dst_perm (apr l).symm h.1,fun p hp=>h.2 p ((apr l).mem_iff.1 hp)⟩
theorem isort_isort(l:List PP)(h:dstN l):agl (agl l)=agl l:=(isort_uniq l (agl l) (apr l).symm h).symm
theorem plL_ok(st s:Str):∀(f i:Nat) (l:List PP),LS 1 l→LS 1 (plL st s f i l).2.2
 |0,i,l,h=>h
 |f+1,i,l,h=>by
  unfold plL
  split
  ·split
   ·rename_i h0
    obtain⟨h1,h2⟩:=fld_ok 1 (.inl rfl) _ _ h0
    exact plL_ok st s f _ _ (h.snoc _ h1 h2)
   ·exact LS.nil 1
  ·exact h
theorem hdL_ok(s:Str):∀(f i:Nat) (l:List PP),LS 2 l→LS 2 (hdL s f i l).2
 |0,i,l,h=>h
 |f+1,i,l,h=>by
  unfold hdL
  split
  ·split
   ·rename_i h0
    obtain⟨h1,h2⟩:=fld_ok 2 (.inr rfl) _ _ h0
    exact hdL_ok s f _ _ (h.snoc _ h1 h2)
   ·exact LS.nil 2
  ·exact h
def dialL(u:Str):Bool:= !decide (zas u [43]=[])&&decide ((zas u [43]).length≤30)&&(zas u [43]).all (dialB (zba u [43]))
theorem dialed_step(sg:Bool)(c:UInt8):((acl FU c).bind fun(y170:Bool)=>(bif (!y170)then(bif sg then some true else(if c=(42:UInt8)then some false else some (!decide (c=(35:UInt8)))))else some false))=some (!dialB sg c):=by
 rw [ad_digit,zaa]
 revert c
 cases sg<;>exact aae _ (by decide+kernel)
theorem dialed_eq(u:Str)(hu:u.length≤4194304):ant FU u=some (dialL u):=by
 have hlen:=trimPrefix_len u [43]
 have h:=all_gen0 (dialB (zba u [43])) (zas u [43]) (by omega) false (aki FU u)
  (fun fk=>by rw [alt,afy,if_neg (by omega)])
  (fun fk k hk h=>by rw [alt,afy,if_pos (by omega),gok,dialed_step,zaa,h,zaN,cond_true])
  (fun fk k hk h=>by rw [alt,afy,if_pos (by omega),gok,dialed_step,zaa,h,zaC,cond_false,gok])
 unfold ant dialL
 by_cases h0:zas u [43]=[]
 ·rw [if_pos h0,zaa,cond_true,decide_eq_true h0];rfl
 ·rw [if_neg h0,zaa,decide_eq_false h0]
  by_cases h30:30<(zas u [43]).length
  ·rw [decide_eq_true (by omega),cond_true,decide_eq_false (show¬(zas u [43]).length≤30 by omega)];rfl
  ·rw [decide_eq_false (by omega),cond_false,h,zaa,decide_eq_true (show(zas u [43]).length≤30 by omega)]
   cases(zas u [43]).all (dialB (zba u [43]))<;>rfl
theorem keepN_all(sg:Bool):∀(T d:Str),asq sg T=some d→d.all (dialB sg)=true
 |[],d,h=>by simp only [asq,Option.some.injEq]at h;subst h;rfl
 |c::T,d,h=>by
  unfold asq at h
  split at h
  ·rename_i hd
   cases hk:asq sg T with
   |none=>rw [hk]at h;cases h
   |some d'=>
    rw [hk]at h
    simp only [zaR,Option.some.injEq]at h
    subst h
    rw [zbh,hd,keepN_all sg T d' hk];rfl
  ·split at h
   ·exact keepN_all sg T d h
   ·cases h
theorem telP_ok(s:Str)(i:Nat)(h:(telP s i).1=0):dialL (telP s i).2=true:=by
 unfold telP at h⊢
 cases hk:asq (aea s i 43) (sub s ((if aea s i 43=true then i+1 else i:Nat):Int) (utl [59] s i:Int))with
 |none=>rw [hk]at h;exact absurd h (show¬(5:UInt8)=0 by decide)
 |some d=>
  rw [hk]at h
  simp only at h⊢
  by_cases h0:d=[]
  ·rw [if_pos h0]at h;exact absurd h (by decide)
  ·rw [if_neg h0]at h⊢
   by_cases h30:30<d.length
   ·rw [if_pos h30]at h;exact absurd h (by decide)
   ·rw [if_neg h30]
    have ha:=keepN_all _ _ _ hk
    simp only
    cases hsg:aea s i 43 with
    |true=>
     rw [hsg]at ha
     rw [if_pos rfl]
     have e1:zas (43::d) [43]=d:=by unfold zas zba;simp
     have e2:zba (43::d) [43]=true:=by unfold zba;simp
     unfold dialL
     rw [e1,e2,ha,decide_eq_false h0,decide_eq_true (show d.length≤30 by omega)];rfl
    |false=>
     rw [hsg]at ha hk
     rw [if_neg (by decide)]
     have e1:=keepN_head _ _ hk
     have e2:zba d [43]=false:=by
      cases d with
      |nil=>exact absurd rfl h0
      |cons c d=>
       have hc:dialB false c=true:=by rw [zbh,zak]at ha;exact ha.1
       have:c≠43:=fun e=>by subst e;exact absurd hc (by decide)
       have h2:¬(43:UInt8)=c:=fun e=>this e.symm
       show((43:UInt8)==c&&([]:Str).isPrefixOf d)=false
       rw [beq_eq_false_iff_ne.2 h2];rfl
     unfold dialL
     rw [e1,e2,ha,decide_eq_false h0,decide_eq_true (show d.length≤30 by omega)];rfl
structure Good (u:UU):Prop where
 sch:((u.1=SIP∨u.1=SIPS)∧afi u.2.2.1=(u.2.2.1,true)∧0≤u.2.2.2.1∧u.2.2.2.1≤65535∧aoe u.2.1=true)∨(u.1=TEL∧u.2.2.1=[]∧u.2.2.2.1=0∧u.2.2.2.2.2=[]∧dialL u.2.1=true)
 ps:LS 1 u.2.2.2.2.1
 hs:LS 2 u.2.2.2.2.2
 pl:u.2.2.2.2.1.length≤16
 hl:u.2.2.2.2.2.length≤16
 pi:agl u.2.2.2.2.1=u.2.2.2.2.1
 hi:agl u.2.2.2.2.2=u.2.2.2.2.2
theorem restP_ok(st s sch us h:Str)(port:Int)(i:Nat)(h0:(restP st s sch us h port i).1=0):
  ∃P H,(restP st s sch us h port i).2=(sch,us,h,port,P,H)∧LS 1 P∧LS 2 H∧P.length≤16∧H.length≤16∧agl P=P∧agl H=H∧H=agl (hdL s (s.length+1) (plL st s (s.length+1) i []).2.1 []).2:=by
 unfold restP at h0⊢
 have a1:=plL_ok st s (s.length+1) i [] (LS.nil 1)
 have a2:=hdL_ok s (s.length+1) (plL st s (s.length+1) i []).2.1 [] (LS.nil 2)
 have b1:=plL_len st s (s.length+1) i [] (by simp)
 have b2:=hdL_len s (s.length+1) (plL st s (s.length+1) i []).2.1 [] (by simp)
 split
 ·rename_i h1
  rw [if_pos h1]at h0
  split
  ·exact⟨_,_,rfl,a1.sort,a2.sort,by rw [isort_len];exact b1,by rw [isort_len];exact b2,isort_isort _ a1.1,isort_isort _ a2.1,rfl⟩
  ·rename_i h2
   rw [if_neg h2]at h0
   exact absurd h0 h2
 ·rename_i h1
  rw [if_neg h1]at h0
  exact absurd h0 h1
theorem portQ_ok(q:Str)(h:(portQ q).2=0):1≤(portQ q).1∧(portQ q).1≤65535:=by
 unfold portQ at h⊢
 split
 ·rename_i hx
  rw [if_pos hx]at h
  exact absurd h (by decide)
 ·rename_i hx
  rw [if_neg hx]at h
  have h1:¬((numQ q).1<1∨65535<(numQ q).1):=fun e=>hx ⟨h,e⟩
  omega
theorem hpP_ok(s:Str)(i:Nat)(h:(hpP s i).1=0):afi (hpP s i).2.1=((hpP s i).2.1,true)∧0≤(hpP s i).2.2.1∧(hpP s i).2.2.1≤65535:=by
 unfold hpP at h⊢
 split
 ·rename_i hh
  rw [if_pos hh]at h
  exact absurd h (by decide)
 ·rename_i hh
  rw [if_neg hh]at h
  have hid:=host_idem _ (by simpa using hh)
  split
  ·rename_i h58
   rw [if_pos h58]at h
   split
   ·rename_i hp
    have:=portQ_ok _ hp
    exact⟨hid,by simp only;omega,by simp only;omega⟩
   ·rename_i hp
    rw [if_neg hp]at h
    exact absurd h hp
  ·rename_i h58
   rw [if_neg h58]at h
   split
   ·rename_i hx
    rw [if_pos hx]at h
    exact absurd h (by decide)
   ·exact⟨hid,show(0:Int)≤0 by decide,show(0:Int)≤65535 by decide⟩
theorem usrP_ok(U:Str)(h:(usrP U).1=0):aoe (usrP U).2=true∧(usrP U).2≠[]:=by
 unfold usrP at h⊢
 cases hb:badP 0 U with
 |some j=>
  rw [hb]at h
  simp only at h
  split at h<;>exact absurd h (by decide)
 |none=>
  rw [hb]at h
  simp only at h⊢
  by_cases hU:U=[]
  ·rw [if_pos hU]at h;exact absurd h (by decide)
  ·rw [if_neg hU]
   exact⟨conP_clean 0 (.inl rfl) U hb,fun e=>hU ((conP_nil 0 U hb).1 e)⟩
theorem plP_ok(s:Str)(i:Nat)(h:(plP s i).1=0):afi (plP s i).2.2.1=((plP s i).2.2.1,true)∧0≤(plP s i).2.2.2.1∧(plP s i).2.2.2.1≤65535∧aoe (plP s i).2.1=true:=by
 unfold plP at h⊢
 split
 ·rename_i hlt
  rw [if_pos hlt]at h
  split
  ·rename_i hu
   rw [if_pos hu]at h
   have:=hpP_ok s _ h
   exact⟨this.1,this.2.1,this.2.2,(usrP_ok _ hu).1⟩
  ·rename_i hu
   rw [if_neg hu]at h
   exact absurd h hu
 ·rename_i hlt
  rw [if_neg hlt]at h
  have:=hpP_ok s _ h
  exact⟨this.1,this.2.1,this.2.2,rfl⟩
open Bool renaming and_eq_true → zak, not_true → zaC, or_false → zbx, true_and → zaS
open List renaming all_cons → zbh, any_cons → zbs, append_nil → zam, drop_zero → zbu, flatMap_cons → zar, length_append → zac, length_cons → zad, length_nil → zal, length_singleton → zae, singleton_append → zbt
open Nat renaming le_refl → zap, lt_succ_self → zaX
open Option renaming bind_some → zaa
open Sum renaming elim_inl → zaI
open UInt8 renaming toNat_lt → zbw
theorem plL_end(s:Str):∀(f i:Nat) (l:List PP),i≤s.length→s.length-i<f→(i=s.length∨aea s i 59=true)→(plL [59] s f i l).1=0→(plL [59] s f i l).2.1=s.length
 |0,i,l,h1,h2,h3,h4=>by omega
 |f+1,i,l,h1,h2,h3,h4=>by
  unfold plL at h4⊢
  by_cases hz:aea s i 59=true
  ·rw [if_pos hz]at h4⊢
   have hlt:=(akc hz).1
   have hu1:=utl_ge [59] s (i+1)
   have hu2:=arv [59] s (i+1) hlt
   by_cases h0:(fldP 1 l (sub s ((i+1:Nat):Int) (utl [59] s (i+1):Int))).1=0
   ·rw [if_pos h0]at h4⊢
    refine plL_end s f _ _ hu2 (by omega) ?_ h4
    by_cases he:utl [59] s (i+1)=s.length
    ·exact .inl he
    ·have hst:=utl_stop [59] s (i+1) hlt (by omega)
     refine .inr ?_
     unfold aea
     rw [decide_eq_true (by omega),zaS]
     unfold apy at hst
     rw [zbs,List.any_nil,zbx]at hst
     have e2:=eq_of_beq hst
     rw [←e2];rfl
   ·rw [if_neg h0]at h4
    exact absurd h4 h0
  ·rw [if_neg hz]
   exact h3.resolve_right hz
theorem parse_good(s:Str)(h:(ape s).1=0):Good (ape s).2:=by
 unfold ape at h⊢
 by_cases hl:1024<s.length
 ·rw [if_pos hl]at h;exact absurd h (by decide)
 ·rw [if_neg hl]at h⊢
  by_cases hc:utl [58] s 0<s.length
  ·rw [if_pos hc]at h⊢
   generalize utl [58] s 0=c at hc h⊢
   generalize aaj (s.take c)=sch at h⊢
   by_cases hsip:sch=SIP∨sch=SIPS
   ·rw [if_pos hsip]at h⊢
    by_cases h0:(plP s (c+1)).1=0
    ·rw [if_pos h0]at h⊢
     obtain⟨P,H,e,a1,a2,a3,a4,a5,a6,_⟩:=restP_ok _ _ _ _ _ _ _ h
     rw [e]
     obtain⟨g1,g2,g3,g4⟩:=plP_ok s (c+1) h0
     exact⟨.inl ⟨hsip,g1,g2,g3,g4⟩,a1,a2,a3,a4,a5,a6⟩
    ·rw [if_neg h0]at h;exact absurd h h0
   ·rw [if_neg hsip]at h⊢
    by_cases htel:sch=TEL
    ·rw [if_pos htel]at h⊢
     by_cases h0:(telP s (c+1)).1=0
     ·rw [if_pos h0]at h⊢
      have hu1:=utl_ge [59] s (c+1)
      have hu2:=arv [59] s (c+1) hc
      have hp0:(plL [59] s (s.length+1) (utl [59] s (c+1)) []).1=0:=by
       unfold restP at h
       by_cases hx:(plL [59] s (s.length+1) (utl [59] s (c+1)) []).1=0
       ·exact hx
       ·rw [if_neg hx]at h;exact absurd h hx
      have hend:=plL_end s (s.length+1) (utl [59] s (c+1)) [] hu2 (by omega) (by
       by_cases he:utl [59] s (c+1)=s.length
       ·exact .inl he
       ·have hst:=utl_stop [59] s (c+1) hc (by omega)
        refine .inr ?_
        unfold aea
        rw [decide_eq_true (by omega),zaS]
        unfold apy at hst
        rw [zbs,List.any_nil,zbx]at hst
        have e2:=eq_of_beq hst
        rw [←e2];rfl) hp0
      obtain⟨P,H,e,a1,a2,a3,a4,a5,a6,a7⟩:=restP_ok _ _ _ _ _ _ _ h
      rw [e]
      have hH:H=[]:=by
       rw [a7,hend,hdL,if_neg (Nat.lt_irrefl _)];rfl
      exact⟨.inr ⟨htel,rfl,rfl,hH,telP_ok s (c+1) h0⟩,a1,a2,a3,a4,a5,a6⟩
     ·rw [if_neg h0]at h;exact absurd h h0
    ·rw [if_neg htel]at h;exact absurd h (by decide)
  ·rw [if_neg hc]at h;exact absurd h (by decide)
theorem fields_lp(k:Int)(hk:k=1∨k=2)(l:List PP)(hl:l.length≤16)(hL:LS k l)(hb:∀p∈l,p.1.length≤4194304∧p.2.1.length≤4194304)(q:List PP):∀(p:List PP) (fk:Nat),l=p++q→q.length<fk→
  ago FU l k fk p (p.length:Int)=some (.inl l):=by
 induction q with
 |nil=>
  intro p fk h hf
  obtain⟨fk,rfl⟩:=fkx fk
  rw [apf,ajj,if_neg (by rw [h];simp),h,zam]
 |cons a q ih=>
  intro p fk h hf
  obtain⟨fk,rfl⟩:=fkx fk
  have hlen:=congrArg List.length h
  simp only [zac,zad]at hlen hf
  have hin:(0:Int)≤(p.length:Int)∧(p.length:Int)<(l.length:Int):=by omega
  have he:el l (p.length:Int)=a:=by rw [h];simp [el]
  have ha:a∈l:=by rw [h];simp
  obtain⟨o1,o2,o3,o4,o5,o6⟩:=hL.2 a ha
  obtain⟨b1,b2⟩:=hb a ha
  have hno:(p.any fun x=>x.1==a.1)=false:=by
   rw [List.any_eq_false]
   intro x hx e
   have hd:=hL.1
   rw [h]at hd
   exact(List.pairwise_append.1 hd).2.2 x hx a (by simp) (by simpa using e)
  have hih:=ih (p++[a]) fk (by rw [h];simp) (by omega)
  rw [show((p++[a]).length:Int)=(p.length:Int)+1 by simp]at hih
  rw [apf,ajj,if_pos hin.2,aab hin,aab hin,he,aix _ b1,zaa,o2,if_neg o1,clean_eq _ b1,zaa,o3,zaC,cond_false,clean_eq _ b2,zaa,o4,zaC,cond_false,holds_eq p (by omega),hno,zaa,zaa,cond_false]
  have e9:(if k=(2:Int)then(bif (!(a.2.2))then some true else(if k=(1:Int)then some (!((a.2.2)==(!decide ((a.2.1)=([]:Str)))))else some false))else(if k=(1:Int)then some (!((a.2.2)==(!decide ((a.2.1)=([]:Str)))))else some false))=some false:=by
   rcases hk with rfl|rfl
   ·rw [if_neg (by decide),if_pos rfl,o5 rfl];simp
   ·rw [if_pos rfl,o6 rfl,zaC,cond_false,if_neg (by decide)]
  rw [e9,zaa,cond_false]
  simp only [pp_eta]
  rw [aab (by simp only [zae];omega),aab (aen _ (by omega) (by omega))]
  exact hih
theorem fields_eq(k:Int)(hk:k=1∨k=2)(l:List PP)(hl:l.length≤16)(hL:LS k l)(hb:∀p∈l,p.1.length≤4194304∧p.2.1.length≤4194304):alm FU l k=some (agl l,true):=by
 unfold alm
 have h:ago FU l k FU [] (0:Int)=some (.inl l):=fields_lp k hk l hl hL hb l [] FU rfl (by rw [amu];omega)
 rw [if_neg (by omega),h,zaa,zaI,asorted_eq l (by omega),zaa]
def Sml(u:UU):Prop:=u.1.length≤4194304∧u.2.1.length≤4194304∧u.2.2.1.length≤4194304∧(∀p∈u.2.2.2.2.1,p.1.length≤4194304∧p.2.1.length≤4194304)∧(∀p∈u.2.2.2.2.2,p.1.length≤4194304∧p.2.1.length≤4194304)
theorem normal_eq(u:UU)(hg:Good u)(hs:Sml u):anu FU u=some (u,0):=by
 obtain⟨sch,us,h,port,P,H⟩:=u
 obtain⟨g1,g2,g3,g4,g5,g6,g7⟩:=hg
 obtain⟨s1,s2,s3,s4,s5⟩:=hs
 simp only at g1 g2 g3 g4 g5 g6 g7 s1 s2 s3 s4 s5
 have hlow:aaj sch=sch:=by
  rcases g1 with⟨h1,_⟩|⟨h1,_⟩
  ·rcases h1 with rfl|rfl<;>decide
  ·rw [h1];decide
 unfold anu
 simp only
 rw [aix _ s1,zaa,hlow]
 have e98:(if sch=([115,105,112]:Str)then some (decide (sch=([115,105,112]:Str)))else some (decide (sch=([115,105,112,115]:Str))))=some (decide (sch=SIP∨sch=SIPS)):=by
  by_cases hA:sch=SIP
  ·rw [if_pos (show sch=([115,105,112]:Str)from hA),decide_eq_true (show sch=([115,105,112]:Str)from hA),decide_eq_true (Or.inl hA)]
  ·rw [if_neg (show¬sch=([115,105,112]:Str)from hA)]
   congr 1
   rw [decide_eq_decide]
   exact⟨Or.inr,fun h=>h.resolve_left hA⟩
 rw [e98,zaa]
 rcases g1 with⟨h1,h2,h3,h4,h5⟩|⟨h1,h2,h3,h4,h5⟩
 ·rw [decide_eq_true h1,cond_true,adHost_eq _ s3,zaa,h2,cond_true,if_pos h3,if_pos h4,clean_eq _ s2,zaa,h5,zaa]
  rw [fields_eq 1 (.inl rfl) P g4 g2 s4,zaa,fields_eq 2 (.inr rfl) H g5 g3 s5,zaa,g6,g7];rfl
 ·subst h2 h3 h4
  have hns:¬(sch=SIP∨sch=SIPS):=by rw [h1];decide
  rw [decide_eq_false hns,cond_false,if_pos (show sch=([116,101,108]:Str)from h1),if_pos rfl,if_pos rfl,if_pos (show(([]:List PP).length:Int)=0 from rfl),dialed_eq _ s2,zaa,h5,zaa]
  rw [fields_eq 1 (.inl rfl) P g4 g2 s4,zaa,fields_eq 2 (.inr rfl) [] g5 g3 s5,zaa,g6,g7];rfl
def aty(n:Nat):UInt8:=at_ [48,49,50,51,52,53,54,55,56,57,65,66,67,68,69,70] (n:Int)
def esc1(k:Int)(c:UInt8):Str:=if inC c k=true then [c]else [37,aty (c.toNat/16),aty (c.toNat%16)]
def aoc(k:Int)(s:Str):Str:=s.flatMap (esc1 k)
theorem shr4:∀c:UInt8,(shr8 c (4:Int)).toNat=c.toNat/16:=aae _ (by decide+kernel)
theorem mask15:∀c:UInt8,(c&&&(15:UInt8)).toNat=c.toNat%16:=aae _ (by decide+kernel)
theorem aro(k:Int)(s:Str):(aoc k s).length≤3*s.length:=by
 unfold aoc
 induction s with
 |nil=>exact zap _
 |cons c s ih=>
  rw [zar,zac,zad]
  have:(esc1 k c).length≤3:=by unfold esc1;split<;>simp
  omega
theorem esc_lp(s:Str)(hs:s.length≤4194304)(k:Int)(hk:k=0∨k=1∨k=2)(q:Str):∀(p:Str) (fk:Nat),s=p++q→q.length<fk→
  agq FU s k fk (aoc k p) (p.length:Int)=some (aoc k s):=by
 induction q with
 |nil=>
  intro p fk h hf
  obtain⟨fk,rfl⟩:=fkx fk
  rw [aph,ajp,if_neg (by rw [h];simp),h,zam]
 |cons c q ih=>
  intro p fk h hf
  obtain⟨fk,rfl⟩:=fkx fk
  have hlen:=congrArg List.length h
  simp only [zac,zad]at hlen hf
  have hin:(0:Int)≤(p.length:Int)∧(p.length:Int)<(s.length:Int):=by omega
  have he:at_ s (p.length:Int)=c:=by rw [h];simp [at_]
  have hih:=ih (p++[c]) fk (by rw [h];simp) (by omega)
  have hel:=aro k p
  have e2:aoc k (p++[c])=aoc k p++esc1 k c:=by unfold aoc;rw [List.flatMap_append,List.flatMap_singleton]
  rw [show((p++[c]).length:Int)=(p.length:Int)+1 by simp,e2]at hih
  rw [aph,ajp,if_pos hin.2,aab hin,inClass_eq _ k hk,he,zaa]
  unfold esc1 at hih
  cases hc:inC c k with
  |true=>
   rw [hc,if_pos rfl]at hih
   rw [cond_true,aab hin,aab (by simp only [zae];omega),aab (aen _ (by omega) (by omega))]
   exact hih
  |false=>
   rw [hc,if_neg (by decide)]at hih
   have hn:=zbw c
   have l16:(([48,49,50,51,52,53,54,55,56,57,65,66,67,68,69,70]:Str).length:Int)=16:=rfl
   rw [cond_false,aab hin,shr4,mask15,l16,aab (by omega),aab hin,aab (by omega),aab (by simp only [zad,zal];omega),aab (aen _ (by omega) (by omega))]
   exact hih
theorem escape_eq(s:Str)(hs:s.length≤4194304)(k:Int)(hk:k=0∨k=1∨k=2):acm FU s k=some (aoc k s):=by
 unfold acm
 have h:agq FU s k FU [] (0:Int)=some (aoc k s):=esc_lp s hs k hk s [] FU rfl (by rw [amu];omega)
 rw [gd_mk (by omega),h,zaa]
theorem esc_hex:∀c:UInt8,hexB (aty (c.toNat/16))=true∧hexB (aty (c.toNat%16))=true∧esV (aty (c.toNat/16)) (aty (c.toNat%16))=c:=aae _ (by decide+kernel)
theorem escH_esc(c:UInt8)(t:Str):escH (37::aty (c.toNat/16)::aty (c.toNat%16)::t)=some c:=by
 obtain⟨h1,h2,h3⟩:=esc_hex c
 unfold escH
 have a0:at_ (37::aty (c.toNat/16)::aty (c.toNat%16)::t) 0=37:=rfl
 have a1:at_ (37::aty (c.toNat/16)::aty (c.toNat%16)::t) 1=aty (c.toNat/16):=rfl
 have a2:at_ (37::aty (c.toNat/16)::aty (c.toNat%16)::t) 2=aty (c.toNat%16):=rfl
 rw [a0,a1,a2,if_pos ⟨by simp,rfl,h1,h2⟩,h3]
theorem esc_back(k:Int)(hk:k=0∨k=1∨k=2):∀(s:Str) (f:Nat),aoe s=true→(aoc k s).length<f→badF k f (aoc k s)=none∧conF k f (aoc k s)=s
 |[],f,_,hf=>by
  obtain⟨f,rfl⟩:∃m,f=m+1:=⟨f-1,by omega⟩
  exact⟨rfl,rfl⟩
 |c::s,f,hc,hf=>by
  obtain⟨f,rfl⟩:∃m,f=m+1:=⟨f-1,by omega⟩
  unfold aoe at hc
  rw [zbh,zak]at hc
  have e:aoc k (c::s)=esc1 k c++aoc k s:=by unfold aoc;rw [zar]
  rw [e]at hf⊢
  unfold esc1 at hf⊢
  cases hi:inC c k with
  |true=>
   rw [hi,if_pos rfl]at hf
   obtain⟨h1,h2⟩:=esc_back k hk s f hc.2 (by simp at hf;omega)
   have a0:at_ (c::aoc k s) 0=c:=rfl
   rw [if_pos rfl,zbt]
   have hne:¬(c::aoc k s=[]):=by simp
   unfold badF conF
   rw [if_neg hne,if_neg hne,a0,hi,if_pos rfl,if_pos rfl,List.drop_succ_cons,zbu,h1,h2]
   exact⟨rfl,rfl⟩
  |false=>
   rw [hi,if_neg (by decide)]at hf
   obtain⟨h1,h2⟩:=esc_back k hk s f hc.2 (by simp at hf;omega)
   rw [if_neg (by decide)]
   have hE:=escH_esc c (aoc k s)
   have hcc:aas c=false:=by simpa using hc.1
   show badF k (f+1) (37::aty (c.toNat/16)::aty (c.toNat%16)::aoc k s)=none∧conF k (f+1) (37::aty (c.toNat/16)::aty (c.toNat%16)::aoc k s)=c::s
   have a0:at_ (37::aty (c.toNat/16)::aty (c.toNat%16)::aoc k s) 0=37:=rfl
   have hne:¬(37::aty (c.toNat/16)::aty (c.toNat%16)::aoc k s=[]):=by simp
   unfold badF conF
   rw [if_neg hne,if_neg hne,a0,inC37 k hk,if_neg (by decide),if_neg (by decide),hE]
   simp only
   rw [hcc,if_neg (by decide)]
   simp only [List.drop_succ_cons,zbu]
   rw [h1,h2]
   exact⟨rfl,rfl⟩
theorem esc_ok(k:Int)(hk:k=0∨k=1∨k=2)(s:Str)(h:aoe s=true):badP k (aoc k s)=none∧conP k (aoc k s)=s:=esc_back k hk s _ h (zaX _)
theorem esc_mem(k:Int)(q:UInt8→Bool)(h1:∀c,inC c k=true→q c=true)(h2:q 37=true)(h3:∀c:UInt8,q (aty (c.toNat/16))=true∧q (aty (c.toNat%16))=true)(s:Str):∀c∈aoc k s,q c=true:=by
 intro c hc
 unfold aoc at hc
 rw [List.mem_flatMap]at hc
 obtain⟨x,_,hx⟩:=hc
 unfold esc1 at hx
 split at hx
 ·rename_i hi
  rw [List.mem_singleton.1 hx];exact h1 x hi
 ·simp only [List.mem_cons,List.not_mem_nil,or_false]at hx
  rcases hx with rfl|rfl|rfl
  ·exact h2
  ·exact(h3 x).1
  ·exact(h3 x).2
open Go.Lib renaming itoa → zaZ
open List renaming append_nil → zam, eq_nil_of_length_eq_zero → zao, flatMap_cons → zar, length_append → zac, length_cons → zad, length_nil → zal, length_singleton → zae, mem_cons_of_mem → zaf, mem_cons_self → zah
open Nat renaming le_refl → zap, zero_le → zan
theorem ws_eq(out s:Str)(h:out.length+s.length≤140737488355328):aac FU ((),out) s=some ((s.length:Int),(),(),out++s):=by
 unfold aac
 simp only
 rw [aab (by omega)]
theorem wb_eq(out:Str)(c:UInt8)(h:out.length+1≤140737488355328):acw FU ((),out) c=some ((),(),out++[c]):=by
 unfold acw
 simp only
 rw [aab (by simp only [zae];omega)]
def par1(p:PP):Str:=aoc 1 p.1++(bif p.2.2 then 61::aoc 1 p.2.1 else [])
def hd1T(p:PP):Str:=aoc 2 p.1++61::aoc 2 p.2.1
def amf(l:List PP):Str:=l.flatMap fun p=>59::par1 p
def hds2(l:List PP):Str:=l.flatMap fun p=>38::hd1T p
def hdsT:List PP→Str
 |[]=>[]
 |p::r=>63::(hd1T p++hds2 r)
def usT(u:UU):Str:=if u.1=TEL then u.2.1 else if u.2.1=[]then []else aoc 0 u.2.1++[64]
def ptT(n:Int):Str:=if n=0 then []else 58::zaZ n
def prU(u:UU):Str:=u.1++(58::(usT u++(u.2.2.1++(ptT u.2.2.2.1++(amf u.2.2.2.2.1++hdsT u.2.2.2.2.2)))))
theorem par1_len(p:PP)(h:p.1.length≤4194304∧p.2.1.length≤4194304):(par1 p).length≤25165830:=by
 have h1:=aro 1 p.1
 have h2:=aro 1 p.2.1
 unfold par1
 rw [zac]
 cases p.2.2 with
 |true=>rw [cond_true,zad];omega
 |false=>rw [cond_false,zal];omega
theorem hd1_len(p:PP)(h:p.1.length≤4194304∧p.2.1.length≤4194304):(hd1T p).length≤25165830:=by
 have h1:=aro 2 p.1
 have h2:=aro 2 p.2.1
 unfold hd1T
 rw [zac,zad];omega
theorem print_lp0(u:UU)(hb:∀p∈u.2.2.2.2.1,p.1.length≤4194304∧p.2.1.length≤4194304)(hl:u.2.2.2.2.1.length≤16)(r:List PP):∀(pre:List PP) (fk:Nat) (out:Str),u.2.2.2.2.1=pre++r→r.length<fk→out.length≤100000000+pre.length*30000000→
  afq FU (u,0) fk (pre.length:Int) () out=some ((),out++amf r):=by
 induction r with
 |nil=>
  intro pre fk out h hf ho
  obtain⟨fk,rfl⟩:=fkx fk
  rw [zam]at h
  rw [aqj,akk,if_neg (by rw [h];simp)]
  simp [amf]
 |cons p r ih=>
  intro pre fk out h hf ho
  obtain⟨fk,rfl⟩:=fkx fk
  have hlen:=congrArg List.length h
  simp only [zac,zad]at hlen hf
  have hin:(0:Int)≤(pre.length:Int)∧(pre.length:Int)<(u.2.2.2.2.1.length:Int):=by omega
  have he:el u.2.2.2.2.1 (pre.length:Int)=p:=by rw [h];simp [el]
  have hbp:=hb p (by rw [h];simp)
  have e1:=aro 1 p.1
  have e2:=aro 1 p.2.1
  have hok:aay ((pre.length:Int)+1):=aen _ (by omega) (by omega)
  have next:∀o:Str,o=out++(59::par1 p)→afq FU (u,0) fk ((pre.length:Int)+1) () o=some ((),out++amf (p::r)):=by
   intro o ho'
   have hp1:=par1_len p hbp
   have hih:=ih (pre++[p]) fk o (by rw [h];simp) (by omega) (by rw [ho'];simp only [zac,zad,zal];omega)
   rw [show((pre++[p]).length:Int)=(pre.length:Int)+1 by simp]at hih
   rw [hih,ho']
   simp [amf]
  rw [aqj,akk,if_pos hin.2]
  simp only
  rw [aab hin,aab hin,he,escape_eq _ hbp.1 1 (.inr (.inl rfl)),zaa,aab (by simp only [zae];omega),ws_eq _ _ (by simp only [zac,zae];omega),zaa]
  cases hh:p.2.2 with
  |true=>
   rw [cond_true,escape_eq _ hbp.2 1 (.inr (.inl rfl)),zaa,aab (by simp only [zae];omega),ws_eq _ _ (by simp only [zac,zae];omega),zaa,aab hok]
   refine next _ ?_
   unfold par1
   rw [hh]
   simp
  |false=>
   rw [cond_false,aab hok]
   refine next _ ?_
   unfold par1
   rw [hh]
   simp
theorem print_lp1(u:UU)(hb:∀p∈u.2.2.2.2.2,p.1.length≤4194304∧p.2.1.length≤4194304)(hl:u.2.2.2.2.2.length≤16)(r:List PP):∀(pre:List PP) (fk:Nat) (out:Str),u.2.2.2.2.2=pre++r→r.length<fk→out.length≤1000000000+pre.length*30000000→
  adz FU (u,0) fk (pre.length:Int) () out=some ((),out++(if pre=[]then hdsT r else hds2 r)):=by
 induction r with
 |nil=>
  intro pre fk out h hf ho
  obtain⟨fk,rfl⟩:=fkx fk
  rw [zam]at h
  rw [aqi,akj,if_neg (by rw [h];simp)]
  split<;>simp [hdsT,hds2]
 |cons p r ih=>
  intro pre fk out h hf ho
  obtain⟨fk,rfl⟩:=fkx fk
  have hlen:=congrArg List.length h
  simp only [zac,zad]at hlen hf
  have hin:(0:Int)≤(pre.length:Int)∧(pre.length:Int)<(u.2.2.2.2.2.length:Int):=by omega
  have he:el u.2.2.2.2.2 (pre.length:Int)=p:=by rw [h];simp [el]
  have hbp:=hb p (by rw [h];simp)
  have e1:=aro 2 p.1
  have e2:=aro 2 p.2.1
  have hp1:=hd1_len p hbp
  have hok:aay ((pre.length:Int)+1):=aen _ (by omega) (by omega)
  have next:∀(c:UInt8) (o:Str),o=out++(c::hd1T p)→adz FU (u,0) fk ((pre.length:Int)+1) () o=some ((),out++(c::(hd1T p++hds2 r))):=by
   intro c o ho'
   have hih:=ih (pre++[p]) fk o (by rw [h];simp) (by omega) (by rw [ho'];simp only [zac,zad,zal];omega)
   rw [show((pre++[p]).length:Int)=(pre.length:Int)+1 by simp,if_neg (by simp)]at hih
   rw [hih,ho']
   simp
  have tail:∀(c:UInt8),((acm FU p.1 (2:Int)).bind fun(y972:Str)=>(gd (y972.length+([61]:Str).length≤9223372036854775807)<|((acm FU p.2.1 (2:Int)).bind fun(y978:Str)=>(gd ((y972++([61]:Str)).length+y978.length≤9223372036854775807)<|((aac FU ((),out++[c]) ((y972++([61]:Str))++y978)).bind fun(y986:(Int×Unit×(Unit×(List UInt8))))=>(gd (aay ((pre.length:Int)+(1:Int)))<|(adz FU (u,0) fk ((pre.length:Int)+(1:Int)) () y986.2.2.2)))))))=some ((),out++(c::(hd1T p++hds2 r))):=by
   intro c
   rw [escape_eq _ hbp.1 2 (.inr (.inr rfl)),zaa,aab (by simp only [zae];omega),escape_eq _ hbp.2 2 (.inr (.inr rfl)),zaa,aab (by simp only [zac,zae];omega),ws_eq _ _ (by simp only [zac,zae];omega),zaa,aab hok]
   refine next c _ ?_
   unfold hd1T
   simp
  rw [aqi,akj,if_pos hin.2]
  simp only
  rw [aab hin,aab hin,he]
  by_cases h0:pre=[]
  ·have hz:(pre.length:Int)=0:=by rw [h0];rfl
   rw [if_pos hz,if_pos h0,wb_eq _ _ (by omega),zaa,zaa]
   simp only
   rw [tail 63];rfl
  ·have hz:¬(pre.length:Int)=0:=fun e=>h0 (zao (by omega))
   rw [if_neg hz,if_neg h0,wb_eq _ _ (by omega),zaa,zaa]
   simp only
   rw [tail 38]
   unfold hds2
   rw [zar];rfl
theorem parsT_len:∀(l:List PP),(∀p∈l,p.1.length≤4194304∧p.2.1.length≤4194304)→(amf l).length≤l.length*30000000
 |[],_=>zap _
 |p::l,h=>by
  have h1:=par1_len p (h p zah)
  have h2:=parsT_len l (fun q hq=>h q (zaf _ hq))
  unfold amf at h2⊢
  rw [zar,zac,zad,zad]
  omega
theorem hds2_len:∀(l:List PP),(∀p∈l,p.1.length≤4194304∧p.2.1.length≤4194304)→(hds2 l).length≤l.length*30000000
 |[],_=>zap _
 |p::l,h=>by
  have h1:=hd1_len p (h p zah)
  have h2:=hds2_len l (fun q hq=>h q (zaf _ hq))
  unfold hds2 at h2⊢
  rw [zar,zac,zad,zad]
  omega
theorem hdsT_len(l:List PP)(h:∀p∈l,p.1.length≤4194304∧p.2.1.length≤4194304):(hdsT l).length≤l.length*30000000:=by
 have:=hds2_len l h
 cases l with
 |nil=>exact zan _
 |cons p l=>
  unfold hds2 at this
  rw [zar,zac,zad]at this
  unfold hdsT hds2
  rw [zad,zac];omega
theorem print_eq(u:UU)(hg:Good u)(hs:Sml u):ams FU u=some (prU u,0):=by
 have hpo:0≤u.2.2.2.1∧u.2.2.2.1≤65535:=by
  rcases hg.sch with⟨_,_,h1,h2,_⟩|⟨_,_,h,_⟩
  ·exact⟨h1,h2⟩
  ·omega
 have hit:=atg u.2.2.2.1 hpo.1 hpo.2
 have hpl:=hg.pl
 have hhl:=hg.hl
 have hus:=aro 0 u.2.1
 obtain⟨s1,s2,s3,s4,s5⟩:=hs
 have l1:=parsT_len _ s4
 have l2:=hdsT_len _ s5
 unfold ams
 rw [normal_eq u hg ⟨s1,s2,s3,s4,s5⟩,zaa,if_pos rfl]
 simp only
 rw [aab (by simp only [zae];omega),ws_eq _ _ (by simp only [zac,zae,zal];omega),zaa]
 simp only
 have eus:(if u.1=([116,101,108]:Str)then((aac FU ((),([]:Str)++(u.1++([58]:Str))) u.2.1).bind fun(y74:(Int×Unit×(Unit×(List UInt8))))=>some ((),y74.2.2.2))else(if u.2.1=([]:Str)then some ((),([]:Str)++(u.1++([58]:Str)))else((acm FU u.2.1 (0:Int)).bind fun(y85:Str)=>(gd (y85.length+([64]:Str).length≤9223372036854775807)<|((aac FU ((),([]:Str)++(u.1++([58]:Str))) (y85++([64]:Str))).bind fun(y91:(Int×Unit×(Unit×(List UInt8))))=>some ((),y91.2.2.2))))))=some ((),u.1++([58]:Str)++usT u):=by
  unfold usT
  by_cases ht:u.1=TEL
  ·rw [if_pos (show u.1=([116,101,108]:Str)from ht),if_pos ht,ws_eq _ _ (by simp only [zac,zae,zal];omega),zaa];simp
  ·rw [if_neg (show¬u.1=([116,101,108]:Str)from ht),if_neg ht]
   by_cases hn:u.2.1=[]
   ·rw [if_pos hn,if_pos hn];simp
   ·rw [if_neg hn,if_neg hn,escape_eq _ s2 0 (.inl rfl),zaa,aab (by simp only [zae];omega),ws_eq _ _ (by simp only [zac,zae,zal];omega),zaa];simp
 rw [eus,zaa]
 have hul:(usT u).length≤12582913:=by
  unfold usT
  split
  ·omega
  ·split
   ·exact zan _
   ·rw [zac,zae];omega
 simp only
 rw [ws_eq _ _ (by simp only [zac,zae];omega),zaa]
 simp only
 have ept:∀o:Str,o.length≤50000000→(if u.2.2.2.1=(0:Int)then some ((),o)else(gd (aay u.2.2.2.1)<|(gd (([58]:Str).length+(zaZ u.2.2.2.1).length≤9223372036854775807)<|((aac FU ((),o) (([58]:Str)++(zaZ u.2.2.2.1))).bind fun(y144:(Int×Unit×(Unit×(List UInt8))))=>some ((),y144.2.2.2)))))=some ((),o++ptT u.2.2.2.1):=by
  intro o ho
  unfold ptT
  by_cases h0:u.2.2.2.1=0
  ·rw [if_pos h0,if_pos h0,zam]
  ·rw [if_neg h0,if_neg h0,aab (aen _ (by omega) (by omega)),aab (by simp only [zae];omega),ws_eq _ _ (by simp only [zac,zae];omega),zaa];simp
 rw [ept _ (by simp only [zac,zae];omega),zaa]
 have hptl:(ptT u.2.2.2.1).length≤6:=by
  unfold ptT
  split
  ·exact zan _
  ·rw [zad];omega
 simp only
 have h0:afq FU (u,0) FU (0:Int) () _=_:=print_lp0 u s4 hpl u.2.2.2.2.1 [] FU (u.1++([58]:Str)++usT u++u.2.2.1++ptT u.2.2.2.1) rfl (by rw [amu];omega) (by simp only [zac,zae,zal];omega)
 rw [h0,zaa]
 simp only
 have h1:adz FU (u,0) FU (0:Int) () _=_:=print_lp1 u s5 hhl u.2.2.2.2.2 [] FU (u.1++([58]:Str)++usT u++u.2.2.1++ptT u.2.2.2.1++amf u.2.2.2.2.1) rfl (by rw [amu];omega) (by simp only [zac,zae,zal];omega)
 rw [h1,zaa,if_pos rfl]
 simp only
 rw [aab (by simp only [zac,zae];omega)]
 unfold prU
 simp
end Go.Wk
