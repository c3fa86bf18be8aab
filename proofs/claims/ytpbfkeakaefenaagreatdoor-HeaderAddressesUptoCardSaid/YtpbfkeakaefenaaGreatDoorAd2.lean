/-
  The law HeaderAddresses (part 2 of 8).
-/
import Derived.Test.YtpbfkeakaefenaaGreatDoorAd1
import Derived.RangeFuncRecord
import Derived.Lib.AppendStr
import Derived.Lib.Builder
import Derived.OrdersIn
set_option linter.constructorNameAsVariable false
set_option linter.unusedVariables false
set_option linter.unusedSimpArgs false
set_option maxRecDepth 20000
set_option maxHeartbeats 1000000
namespace Go.Wk
open Go.Px
open Int renaming toNat → zai
open List renaming drop → zaA, take → zaW
open Sum renaming elim → zaD
def amk(fu:Nat)(y2:List Str)(a4:Str→Int→Option (Str⊕(Str×Int×Bool)))(a1:Str)(a0:Int):Option (Str⊕(Str×Int×Bool)):=
 (if a0<(y2.length:Int)then(gd (0≤a0∧a0<(y2.length:Int))<|(gd (0≤a0∧a0<(y2.length:Int))<|((avi fu (el y2 a0)).bind fun(a2:(Str×Bool))=>(bif (!a2.2)then some (.inr (([]:Str),(0:Int),false))else(((if(0:Int)<a0 then(gd (a1.length+([58]:Str).length≤9223372036854775807)<|some (a1++([58]:Str)))else some a1)).bind fun(a3:Str)=>(gd (a3.length+a2.1.length≤9223372036854775807)<|(gd (aap (a0+(1:Int)))<|(a4 (a3++a2.1) (a0+(1:Int))))))))))else some (.inl a1))
def ajs(fu:Nat)(y2:List Str):Nat→Str→Int→Option (Str⊕(Str×Int×Bool)):=fun k_ a0 a1=>loopF (fun(g:(Str×Int)→Option (Str⊕(Str×Int×Bool))) v=>amk fu y2 (fun a0 a1=>g (a0,a1)) v.1 v.2) k_ (a0,a1)
theorem auy{fu:Nat}{y2:List Str}{k_:Nat}{a0:Str}{a1:Int}:ajs fu y2 (k_+1) a0 a1=amk fu y2 (ajs fu y2 k_) a0 a1:=rfl
def anb(fu:Nat)(a0:Str):Option (Str×Int×Bool):=
 (if a0=([]:Str)then some (([]:Str),(0:Int),true)else((aqj fu a0 (58:UInt8)).bind fun(y2:List Str)=>(((ajs fu y2 fu ([]:Str) (0:Int))).bind fun(a1:(Str⊕(Str×Int×Bool)))=>zaD (fun(a2:Str)=>some (a2,(y2.length:Int),true)) (fun q=>some q) a1)))
def aqs(fu:Nat)(a1:Str)(a4:Int→Option (Unit⊕(Str×Bool)))(a0:Int):Option (Unit⊕(Str×Bool)):=
 (gd (aap (a0+(1:Int)))<|(if(a0+(1:Int))<(a1.length:Int)then(((gd (0≤a0∧a0<(a1.length:Int))<|(if(at_ a1 a0)=(58:UInt8)then(gd (aap (a0+(1:Int)))<|(gd (0≤(a0+(1:Int))∧(a0+(1:Int))<(a1.length:Int))<|some (!decide ((at_ a1 (a0+(1:Int)))=(58:UInt8)))))else some true))).bind fun(a5:Bool)=>(bif a5 then(gd (aap (a0+(1:Int)))<|(a4 (a0+(1:Int))))else(gd (0≤a0∧a0≤(a1.length:Int))<|((anb fu (zaW (zai a0) a1)).bind fun(a2:(Str×Int×Bool))=>(gd (aap (a0+(2:Int)))<|(gd (0≤(a0+(2:Int))∧(a0+(2:Int))≤(a1.length:Int))<|((anb fu (zaA (zai (a0+(2:Int))) a1)).bind fun(a3:(Str×Int×Bool))=>(((bif (!a2.2.2)then some true else(bif (!a3.2.2)then some true else(gd (aap (a2.2.1+a3.2.1))<|some (decide ((7:Int)<(a2.2.1+a3.2.1))))))).bind fun(a6:Bool)=>(bif a6 then some (.inr (([]:Str),false))else(gd (a2.1.length+([58,58]:Str).length≤9223372036854775807)<|(gd ((a2.1++([58,58]:Str)).length+a3.1.length≤9223372036854775807)<|some (.inr ((a2.1++([58,58]:Str))++a3.1,true)))))))))))))else some (.inl ())))
def alq(fu:Nat)(a1:Str):Nat→Int→Option (Unit⊕(Str×Bool)):=fun k_ a0=>loopF (fun(g:Int→Option (Unit⊕(Str×Bool))) v=>aqs fu a1 (fun a0=>g a0) v) k_ a0
theorem ayq{fu:Nat}{a0:Str}{k_:Nat}{a1:Int}:alq fu a0 (k_+1) a1=aqs fu a0 (alq fu a0 k_) a1:=rfl
def azu(fu:Nat)(a1:Str):Option (Str×Bool):=
 (((alq fu a1 fu (0:Int))).bind fun(a2:(Unit⊕(Str×Bool)))=>zaD (fun(a4:Unit)=>((anb fu a1).bind fun(a0:(Str×Int×Bool))=>(((bif a0.2.2 then some (decide (a0.2.1=(8:Int)))else some false)).bind fun(a3:Bool)=>some (a0.1,a3)))) (fun q=>some q) a2)
def anq(fu:Nat)(a1:Str)(a2:Bool→Int→Option (Bool⊕(Bool×Bool)))(a3:Bool)(a0:Int):Option (Bool⊕(Bool×Bool)):=
 (if a0<(a1.length:Int)then(((gd (0≤a0∧a0<(a1.length:Int))<|((aqk fu (at_ a1 a0)).bind fun(a4:Bool)=>(bif (!a4)then(gd (0≤a0∧a0<(a1.length:Int))<|((adn fu (at_ a1 a0)).bind fun(a5:Bool)=>(bif (!a5)then(gd (0≤a0∧a0<(a1.length:Int))<|some (!decide ((at_ a1 a0)=(45:UInt8))))else some false)))else some false)))).bind fun(a6:Bool)=>(bif a6 then some (.inr (false,false))else(bif a3 then(gd (aap (a0+(1:Int)))<|(a2 true (a0+(1:Int))))else(gd (0≤a0∧a0<(a1.length:Int))<|((adn fu (at_ a1 a0)).bind fun(a7:Bool)=>(gd (aap (a0+(1:Int)))<|(a2 (!a7) (a0+(1:Int)))))))))else some (.inl a3))
def aer(fu:Nat)(a2:Str):Nat→Bool→Int→Option (Bool⊕(Bool×Bool)):=fun k_ a0 a1=>loopF (fun(g:(Bool×Int)→Option (Bool⊕(Bool×Bool))) v=>anq fu a2 (fun a0 a1=>g (a0,a1)) v.1 v.2) k_ (a0,a1)
theorem awn{fu:Nat}{a0:Str}{k_:Nat}{a1:Bool}{a2:Int}:aer fu a0 (k_+1) a1 a2=anq fu a0 (aer fu a0 k_) a1 a2:=rfl
def avh(fu:Nat)(a0:Str):Option (Bool×Bool):=
 (((if(a0.length:Int)<(1:Int)then some true else(if(63:Int)<(a0.length:Int)then some true else(gd (0≤(0:Int)∧(0:Int)<(a0.length:Int))<|(if(at_ a0 (0:Int))=(45:UInt8)then some true else(gd (aap ((a0.length:Int)-(1:Int)))<|(gd (0≤((a0.length:Int)-(1:Int))∧((a0.length:Int)-(1:Int))<(a0.length:Int))<|some (decide ((at_ a0 ((a0.length:Int)-(1:Int)))=(45:UInt8)))))))))).bind fun(a1:Bool)=>(bif a1 then some (false,false)else(((aer fu a0 fu false (0:Int))).bind fun(a2:(Bool⊕(Bool×Bool)))=>zaD (fun(a3:Bool)=>some (true,a3)) (fun q=>some q) a2)))
def amj(fu:Nat)(a1:Str)(a3:Int→Int→Option (Int⊕Bool))(a2:Int)(a0:Int):Option (Int⊕Bool):=
 (if a0<(a1.length:Int)then(gd (0≤a0∧a0<(a1.length:Int))<|((adn fu (at_ a1 a0)).bind fun(a4:Bool)=>(bif (!a4)then some (.inr false)else(gd (aap ((10:Int)*a2))<|(gd (0≤a0∧a0<(a1.length:Int))<|(gd (aap (((10:Int)*a2)+(((at_ a1 a0)-(48:UInt8)).toNat:Int)))<|(gd (aap (a0+(1:Int)))<|(a3 (((10:Int)*a2)+(((at_ a1 a0)-(48:UInt8)).toNat:Int)) (a0+(1:Int))))))))))else some (.inl a2))
def agv(fu:Nat)(a2:Str):Nat→Int→Int→Option (Int⊕Bool):=fun k_ a0 a1=>loopF (fun(g:(Int×Int)→Option (Int⊕Bool)) v=>amj fu a2 (fun a0 a1=>g (a0,a1)) v.1 v.2) k_ (a0,a1)
theorem aux{fu:Nat}{a0:Str}{k_:Nat}{a1:Int}{a2:Int}:agv fu a0 (k_+1) a1 a2=amj fu a0 (agv fu a0 k_) a1 a2:=rfl
def att(fu:Nat)(a0:Str):Option Bool:=
 (((if(a0.length:Int)<(1:Int)then some true else(if(3:Int)<(a0.length:Int)then some true else(if(1:Int)<(a0.length:Int)then(gd (0≤(0:Int)∧(0:Int)<(a0.length:Int))<|some (decide ((at_ a0 (0:Int))=(48:UInt8))))else some false)))).bind fun(v8:Bool)=>(bif v8 then some false else(((agv fu a0 fu (0:Int) (0:Int))).bind fun(a1:(Int⊕Bool))=>zaD (fun(a2:Int)=>some (decide (a2≤(255:Int)))) (fun q=>some q) a1)))
def aph(fu:Nat)(a1:List Str)(a2:Bool→Bool→Int→Option ((Bool×Bool)⊕(Str×Bool)))(a3:Bool)(a4:Bool)(a0:Int):Option ((Bool×Bool)⊕(Str×Bool)):=
 (if a0<(a1.length:Int)then(gd (0≤a0∧a0<(a1.length:Int))<|(gd (0≤a0∧a0<(a1.length:Int))<|((avh fu (el a1 a0)).bind fun(a5:(Bool×Bool))=>(bif (!a5.1)then some (.inr (([]:Str),false))else(((bif a4 then some true else some a5.2)).bind fun(a6:Bool)=>(bif a3 then(gd (0≤a0∧a0<(a1.length:Int))<|(gd (0≤a0∧a0<(a1.length:Int))<|((att fu (el a1 a0)).bind fun(a7:Bool)=>(gd (aap (a0+(1:Int)))<|(a2 a7 a6 (a0+(1:Int)))))))else(gd (aap (a0+(1:Int)))<|(a2 false a6 (a0+(1:Int))))))))))else some (.inl (a3,a4)))
def amx(fu:Nat)(a3:List Str):Nat→Bool→Bool→Int→Option ((Bool×Bool)⊕(Str×Bool)):=fun k_ a0 a1 a2=>loopF (fun(g:(Bool×Bool×Int)→Option ((Bool×Bool)⊕(Str×Bool))) v=>aph fu a3 (fun a0 a1 a2=>g (a0,a1,a2)) v.1 v.2.1 v.2.2) k_ (a0,a1,a2)
theorem axi{fu:Nat}{a0:List Str}{k_:Nat}{a1:Bool}{a2:Bool}{a3:Int}:amx fu a0 (k_+1) a1 a2 a3=aph fu a0 (amx fu a0 k_) a1 a2 a3:=rfl
def art(fu:Nat)(a0:Str):Option (Str×Bool):=
 (((if(2:Int)≤(a0.length:Int)then(gd (0≤(0:Int)∧(0:Int)<(a0.length:Int))<|(if(at_ a0 (0:Int))=(91:UInt8)then(gd (aap ((a0.length:Int)-(1:Int)))<|(gd (0≤((a0.length:Int)-(1:Int))∧((a0.length:Int)-(1:Int))<(a0.length:Int))<|some (decide ((at_ a0 ((a0.length:Int)-(1:Int)))=(93:UInt8)))))else some false))else some false)).bind fun(v9:Bool)=>(bif v9 then(gd (aap ((a0.length:Int)-(1:Int)))<|(gd (0≤(1:Int)∧(1:Int)≤((a0.length:Int)-(1:Int))∧((a0.length:Int)-(1:Int))≤(a0.length:Int))<|((azu fu (sub a0 (1:Int) ((a0.length:Int)-(1:Int)))).bind fun(a1:(Str×Bool))=>(bif (!a1.2)then some (([]:Str),false)else(gd (([91]:Str).length+a1.1.length≤9223372036854775807)<|(gd ((([91]:Str)++a1.1).length+([93]:Str).length≤9223372036854775807)<|some ((([91]:Str)++a1.1)++([93]:Str),true)))))))else((aqj fu a0 (46:UInt8)).bind fun(a2:List Str)=>(((amx fu a2 fu (decide ((a2.length:Int)=(4:Int))) false (0:Int))).bind fun(a4:((Bool×Bool)⊕(Str×Bool)))=>zaD (fun(a3:(Bool×Bool))=>(((if(255:Int)<(a0.length:Int)then some true else(bif (!a3.2)then some (!a3.1)else some false))).bind fun(a5:Bool)=>(bif a5 then some (([]:Str),false)else((aec fu a0).bind fun(a6:Str)=>some (a6,true))))) (fun q=>some q) a4))))
def acs(fu:Nat)(a0:(Str×Int×Int×UInt8)):Option (Str×(Str×Int×Int×UInt8)):=
 (if a0.2.2.2=(0:UInt8)then((abk fu a0 ([58,59,63]:Str)).bind fun(y2:Int)=>((((abj fu a0 (91:UInt8)).bind fun(a6:Bool)=>(bif a6 then((abk fu a0 ([93]:Str)).bind fun(a4:Int)=>(gd (aap (a4+(1:Int)))<|some (min (a4+(1:Int)) (a0.1.length:Int))))else some y2))).bind fun(a1:Int)=>(gd (0≤a0.2.1∧a0.2.1≤a1∧a1≤(a0.1.length:Int))<|((art fu (sub a0.1 a0.2.1 a1)).bind fun(a5:(Str×Bool))=>(((bif (!a5.2)then((aag fu a0 a0.2.1 (5:UInt8)).bind fun(a2:(Str×Int×Int×UInt8))=>some (a2.1,a2.2.1,a2.2.2.1,a2.2.2.2))else some (a0.1,a0.2.1,a0.2.2.1,a0.2.2.2))).bind fun(a3:(Str×Int×Int×UInt8))=>some (a5.1,(a3.1,a1,a3.2.2.1,a3.2.2.2)))))))else some (([]:Str),a0))
def ais(fu:Nat)(a1:Str)(a3:Int→Int→Option (Int⊕(Int×UInt8)))(a2:Int)(a0:Int):Option (Int⊕(Int×UInt8)):=
 (if a0<(a1.length:Int)then(((gd (0≤a0∧a0<(a1.length:Int))<|(if(at_ a1 a0)<(48:UInt8)then some true else(gd (0≤a0∧a0<(a1.length:Int))<|(if(57:UInt8)<(at_ a1 a0)then some true else some (decide ((10:Int)≤a0))))))).bind fun(a4:Bool)=>(bif a4 then some (.inr ((0:Int),(5:UInt8)))else(gd (aap ((10:Int)*a2))<|(gd (0≤a0∧a0<(a1.length:Int))<|(gd (aap (((10:Int)*a2)+(((at_ a1 a0)-(48:UInt8)).toNat:Int)))<|(gd (aap (a0+(1:Int)))<|(a3 (((10:Int)*a2)+(((at_ a1 a0)-(48:UInt8)).toNat:Int)) (a0+(1:Int)))))))))else some (.inl a2))
def ajy(fu:Nat)(a2:Str):Nat→Int→Int→Option (Int⊕(Int×UInt8)):=fun k_ a0 a1=>loopF (fun(g:(Int×Int)→Option (Int⊕(Int×UInt8))) v=>ais fu a2 (fun a0 a1=>g (a0,a1)) v.1 v.2) k_ (a0,a1)
theorem apv{fu:Nat}{a0:Str}{k_:Nat}{a1:Int}{a2:Int}:ajy fu a0 (k_+1) a1 a2=ais fu a0 (ajy fu a0 k_) a1 a2:=rfl
def atw(fu:Nat)(a0:Str):Option (Int×UInt8):=
 (((ajy fu a0 fu (0:Int) (0:Int))).bind fun(a2:(Int⊕(Int×UInt8)))=>zaD (fun(a1:Int)=>(if a0=([]:Str)then some ((0:Int),(5:UInt8))else(if(2147483647:Int)<a1 then some ((0:Int),(3:UInt8))else some (a1,(0:UInt8))))) (fun q=>some q) a2)
def acb(fu:Nat)(a0:(Str×Int×Int×UInt8)):Option (Int×(Str×Int×Int×UInt8)):=
 ((abj fu a0 (58:UInt8)).bind fun(y1:Bool)=>(bif (!y1)then(((((if a0.2.1<(a0.1.length:Int)then((abj fu a0 (59:UInt8)).bind fun(a8:Bool)=>(bif (!a8)then((abj fu a0 (63:UInt8)).bind fun(a9:Bool)=>some (!a9))else some false))else some false)).bind fun(b0:Bool)=>(bif b0 then((aag fu a0 a0.2.1 (5:UInt8)).bind fun(a3:(Str×Int×Int×UInt8))=>some (a3.1,a3.2.1,a3.2.2.1,a3.2.2.2))else some (a0.1,a0.2.1,a0.2.2.1,a0.2.2.2)))).bind fun(b1:(Str×Int×Int×UInt8))=>some ((0:Int),b1))else(gd (aap (a0.2.1+(1:Int)))<|((abk fu (a0.1,a0.2.1+(1:Int),a0.2.2.1,a0.2.2.2) ([59,63]:Str)).bind fun(a4:Int)=>(gd (0≤(a0.2.1+(1:Int))∧(a0.2.1+(1:Int))≤a4∧a4≤(a0.1.length:Int))<|((atw fu (sub a0.1 (a0.2.1+(1:Int)) a4)).bind fun(a2:(Int×UInt8))=>(((if a2.2=(0:UInt8)then some (a0.1,a0.2.1+(1:Int),a0.2.2.1,a0.2.2.2)else((aag fu (a0.1,a0.2.1+(1:Int),a0.2.2.1,a0.2.2.2) (a0.2.1+(1:Int)) a2.2).bind fun(a5:(Str×Int×Int×UInt8))=>some (a5.1,a5.2.1,a5.2.2.1,a5.2.2.2)))).bind fun(a1:(Str×Int×Int×UInt8))=>(((((if a2.1<(1:Int)then some true else some (decide ((65535:Int)<a2.1)))).bind fun(b2:Bool)=>(bif b2 then((aag fu a1 a1.2.1 (3:UInt8)).bind fun(a6:(Str×Int×Int×UInt8))=>some (a6.1,a6.2.1,a6.2.2.1,a6.2.2.2))else some (a1.1,a1.2.1,a1.2.2.1,a1.2.2.2)))).bind fun(a7:(Str×Int×Int×UInt8))=>some (a2.1,(a7.1,a4,a7.2.2.1,a7.2.2.2))))))))))
open Go.Op renaming bytesLess → zaL
def agd(fu:Nat)(a1:(Str×Int×Int×UInt8))(a2:Int)(a3:Int→Option Int)(a0:Int):Option Int:=
 (((if a0<a2 then(gd (0≤a0∧a0<(a1.1.length:Int))<|some (!decide ((at_ a1.1 a0)=(61:UInt8))))else some false)).bind fun(a4:Bool)=>(bif a4 then(gd (aap (a0+(1:Int)))<|(a3 (a0+(1:Int))))else some a0))
def agt(fu:Nat)(a1:(Str×Int×Int×UInt8))(a2:Int):Nat→Int→Option Int:=fun k_ a0=>loopF (fun(g:Int→Option Int) v=>agd fu a1 a2 (fun a0=>g a0) v) k_ a0
theorem apq{fu:Nat}{a0:(Str×Int×Int×UInt8)}{a1:Int}{k_:Nat}{a2:Int}:agt fu a0 a1 (k_+1) a2=agd fu a0 a1 (agt fu a0 a1 k_) a2:=rfl
def akz(fu:Nat)(a7:(Str×Int×Int×UInt8))(a4:Int)(a8:Int):Option (PQ×(Str×Int×Int×UInt8)):=
 (((agt fu a7 a4 fu a7.2.1)).bind fun(a1:Int)=>((acg fu a7 a1 a8).bind fun(a2:(Str×(Str×Int×Int×UInt8)))=>(((if a2.1=([]:Str)then((aag fu a2.2 a7.2.1 (5:UInt8)).bind fun(a9:(Str×Int×Int×UInt8))=>some (a9.1,a9.2.1,a9.2.2.1,a9.2.2.2))else some (a2.2.1,a2.2.2.1,a2.2.2.2.1,a2.2.2.2.2))).bind fun(a5:(Str×Int×Int×UInt8))=>((aec fu a2.1).bind fun(b2:Str)=>(((((if a8=(2:Int)then some (decide (a1=a4))else some false)).bind fun(b3:Bool)=>(bif b3 then((aag fu a5 a4 (5:UInt8)).bind fun(b0:(Str×Int×Int×UInt8))=>some (b0.1,b0.2.1,b0.2.2.1,b0.2.2.2))else some (a5.1,a5.2.1,a5.2.2.1,a5.2.2.2)))).bind fun(a3:(Str×Int×Int×UInt8))=>(((if a1<a4 then(gd (aap (a1+(1:Int)))<|((acg fu (a3.1,a1+(1:Int),a3.2.2.1,a3.2.2.2) a4 a8).bind fun(a0:(Str×(Str×Int×Int×UInt8)))=>(((if a8=(1:Int)then some (decide (a0.1=([]:Str)))else some false)).bind fun(b4:Bool)=>(bif b4 then(gd (aap (a1+(1:Int)))<|((aag fu a0.2 (a1+(1:Int)) (5:UInt8)).bind fun(b1:(Str×Int×Int×UInt8))=>some (b1.1,b1.2.1,b1.2.2.1,b1.2.2.2,a0.1,true)))else some (a0.2.1,a0.2.2.1,a0.2.2.2.1,a0.2.2.2.2,a0.1,true)))))else some (a3.1,a3.2.1,a3.2.2.1,a3.2.2.2,([]:Str),false))).bind fun(a6:(Str×Int×Int×UInt8×Str×Bool))=>some ((b2,a6.2.2.2.2.1,a6.2.2.2.2.2),(a6.1,a4,a6.2.2.1,a6.2.2.2.1))))))))
def als(fu:Nat)(a1:LQ)(a2:Str)(a3:Int→Option (Unit⊕Int))(a0:Int):Option (Unit⊕Int):=
 (if a0<(a1.length:Int)then(gd (0≤a0∧a0<(a1.length:Int))<|(gd (0≤a0∧a0<(a1.length:Int))<|((aec fu ((el a1 a0).1)).bind fun(a4:Str)=>((aec fu a2).bind fun(a5:Str)=>(if a4=a5 then some (.inr a0)else(gd (aap (a0+(1:Int)))<|(a3 (a0+(1:Int)))))))))else some (.inl ()))
def aqt(fu:Nat)(a1:LQ)(a2:Str):Nat→Int→Option (Unit⊕Int):=fun k_ a0=>loopF (fun(g:Int→Option (Unit⊕Int)) v=>als fu a1 a2 (fun a0=>g a0) v) k_ a0
theorem asq{fu:Nat}{a0:LQ}{a1:Str}{k_:Nat}{a2:Int}:aqt fu a0 a1 (k_+1) a2=als fu a0 a1 (aqt fu a0 a1 k_) a2:=rfl
def auf(fu:Nat)(a0:LQ)(a1:Str):Option Int:=
 (((aqt fu a0 a1 fu (0:Int))).bind fun(a2:(Unit⊕Int))=>zaD (fun(a3:Unit)=>some (-1:Int)) (fun q=>some q) a2)
def aeq(fu:Nat)(a0:LQ)(a1:Str):Option UInt8:=
 ((auf fu a0 a1).bind fun(y1:Int)=>(if(0:Int)≤y1 then some (7:UInt8)else(if(16:Int)≤(a0.length:Int)then some (4:UInt8)else some (0:UInt8))))
def aiq(fu:Nat)(a2:LQ)(a3:LQ)(a1:Int)(a4:Int→Option Int)(a0:Int):Option Int:=
 (((if(0:Int)<a0 then(gd (aap (a0-(1:Int)))<|(gd (0≤(a0-(1:Int))∧(a0-(1:Int))<(a3.length:Int))<|(gd (0≤(a0-(1:Int))∧(a0-(1:Int))<(a3.length:Int))<|(gd (0≤a1∧a1<(a2.length:Int))<|(gd (0≤a1∧a1<(a2.length:Int))<|some (!(zaL ((el a3 (a0-(1:Int))).1) ((el a2 a1).1)||((el a3 (a0-(1:Int))).1)==((el a2 a1).1))))))))else some false)).bind fun(a5:Bool)=>(bif a5 then(gd (aap (a0-(1:Int)))<|(a4 (a0-(1:Int))))else some a0))
def aju(fu:Nat)(a1:LQ)(a2:LQ)(a3:Int):Nat→Int→Option Int:=fun k_ a0=>loopF (fun(g:Int→Option Int) v=>aiq fu a1 a2 a3 (fun a0=>g a0) v) k_ a0
theorem apt{fu:Nat}{a0:LQ}{a1:LQ}{a2:Int}{k_:Nat}{a3:Int}:aju fu a0 a1 a2 (k_+1) a3=aiq fu a0 a1 a2 (aju fu a0 a1 a2 k_) a3:=rfl
def air(fu:Nat)(a1:LQ)(a4:LQ→Int→Option LQ)(a2:LQ)(a0:Int):Option LQ:=
 (if a0<(a1.length:Int)then(((((aju fu a1 a2 a0 fu (a2.length:Int))).bind fun(a3:Int)=>(gd (0≤a3∧a3≤(a2.length:Int))<|(gd ((([]:LQ).length+(zaW (zai a3) a2).length)*40≤140737488355328)<|(gd (0≤a0∧a0<(a1.length:Int))<|(gd (0≤a0∧a0<(a1.length:Int))<|(gd (((([]:LQ)++(zaW (zai a3) a2)).length+([((el a1 a0).1,(el a1 a0).2.1,((el a1 a0).2.2))]:LQ).length)*40≤140737488355328)<|(gd (0≤a3∧a3≤(a2.length:Int))<|(gd ((((([]:LQ)++(zaW (zai a3) a2))++([((el a1 a0).1,(el a1 a0).2.1,((el a1 a0).2.2))]:LQ)).length+(zaA (zai a3) a2).length)*40≤140737488355328)<|some (((([]:LQ)++(zaW (zai a3) a2))++([((el a1 a0).1,(el a1 a0).2.1,((el a1 a0).2.2))]:LQ))++(zaA (zai a3) a2))))))))))).bind fun(a5:LQ)=>(gd (aap (a0+(1:Int)))<|(a4 a5 (a0+(1:Int)))))else some a2)
def agw(fu:Nat)(a2:LQ):Nat→LQ→Int→Option LQ:=fun k_ a0 a1=>loopF (fun(g:(LQ×Int)→Option LQ) v=>air fu a2 (fun a0 a1=>g (a0,a1)) v.1 v.2) k_ (a0,a1)
theorem apu{fu:Nat}{a0:LQ}{k_:Nat}{a1:LQ}{a2:Int}:agw fu a0 (k_+1) a1 a2=air fu a0 (agw fu a0 k_) a1 a2:=rfl
def akm(fu:Nat)(a0:LQ):Option LQ:=
 (((agw fu a0 fu ([]:LQ) (0:Int))).bind fun(a1:LQ)=>some a1)
def agu(fu:Nat)(a9:UInt8)(b0:Str)(b1:Int)(b2:LQ→UInt8→Str→Int→Int→UInt8→Option (LQ×Str×Int×Int×UInt8))(a2:LQ)(b3:UInt8)(a3:Str)(a1:Int)(a4:Int)(a5:UInt8):Option (LQ×Str×Int×Int×UInt8):=
 ((abj fu (a3,a1,a4,a5) b3).bind fun(b4:Bool)=>(bif b4 then(gd (aap (a1+(1:Int)))<|((abk fu (a3,a1+(1:Int),a4,a5) b0).bind fun(b5:Int)=>((akz fu (a3,a1+(1:Int),a4,a5) b5 b1).bind fun(a0:(PQ×(Str×Int×Int×UInt8)))=>((aeq fu a2 a0.1.1).bind fun(a8:UInt8)=>(((if a8=(0:UInt8)then some (a0.2.1,a0.2.2.1,a0.2.2.2.1,a0.2.2.2.2)else((aag fu a0.2 (a1+(1:Int)) a8).bind fun(a6:(Str×Int×Int×UInt8))=>some (a6.1,a6.2.1,a6.2.2.1,a6.2.2.2)))).bind fun(a7:(Str×Int×Int×UInt8))=>(gd ((a2.length+([a0.1]:LQ).length)*40≤140737488355328)<|(b2 (a2++([a0.1]:LQ)) a9 a7.1 a7.2.1 a7.2.2.1 a7.2.2.2)))))))else some (a2,a3,a1,a4,a5)))
def abq(fu:Nat)(a6:UInt8)(a7:Str)(a8:Int):Nat→LQ→UInt8→Str→Int→Int→UInt8→Option (LQ×Str×Int×Int×UInt8):=fun k_ a0 a1 a2 a3 a4 a5=>loopF (fun(g:(LQ×UInt8×Str×Int×Int×UInt8)→Option (LQ×Str×Int×Int×UInt8)) v=>agu fu a6 a7 a8 (fun a0 a1 a2 a3 a4 a5=>g (a0,a1,a2,a3,a4,a5)) v.1 v.2.1 v.2.2.1 v.2.2.2.1 v.2.2.2.2.1 v.2.2.2.2.2) k_ (a0,a1,a2,a3,a4,a5)
theorem aqi{fu:Nat}{a0:UInt8}{a1:Str}{a2:Int}{k_:Nat}{a3:LQ}{a4:UInt8}{a5:Str}{a6:Int}{a7:Int}{a8:UInt8}:abq fu a0 a1 a2 (k_+1) a3 a4 a5 a6 a7 a8=agu fu a0 a1 a2 (abq fu a0 a1 a2 k_) a3 a4 a5 a6 a7 a8:=rfl
def aam(fu:Nat)(a0:(Str×Int×Int×UInt8))(a2:UInt8)(a3:UInt8)(a4:Str)(a5:Int):Option (LQ×(Str×Int×Int×UInt8)):=
 (((abq fu a3 a4 a5 fu ([]:LQ) a2 a0.1 a0.2.1 a0.2.2.1 a0.2.2.2)).bind fun(a1:(LQ×Str×Int×Int×UInt8))=>((akm fu a1.1).bind fun(a6:LQ)=>some (a6,a1.2)))
def acv(fu:Nat)(a1:(Str×Int×Int×UInt8))(y1:Int)(y6:Bool)(a3:(List UInt8)→Int→Option ((List UInt8)⊕(Str×(Str×Int×Int×UInt8))))(a2:List UInt8)(a0:Int):Option ((List UInt8)⊕(Str×(Str×Int×Int×UInt8))):=
 (if a0<y1 then(gd (0≤a0∧a0<(a1.1.length:Int))<|((((adn fu (at_ a1.1 a0)).bind fun(a4:Bool)=>(bif a4 then some true else(bif (!y6)then(if(at_ a1.1 a0)=(42:UInt8)then some true else(if(at_ a1.1 a0)=(35:UInt8)then some true else(bif y6 then some (decide (a0=a1.2.1))else some false)))else(bif y6 then some (decide (a0=a1.2.1))else some false))))).bind fun(a5:Bool)=>(bif a5 then(gd ((a2.length+([at_ a1.1 a0]:List UInt8).length)*1≤140737488355328)<|(gd (aap (a0+(1:Int)))<|(a3 (a2++([at_ a1.1 a0]:List UInt8)) (a0+(1:Int)))))else((aci fu ([45,46,40,41]:Str) (at_ a1.1 a0)).bind fun(a6:Bool)=>(bif (!a6)then((aag fu a1 a0 (5:UInt8)).bind fun(a7:(Str×Int×Int×UInt8))=>some (.inr (([]:Str),a7)))else(gd (aap (a0+(1:Int)))<|(a3 a2 (a0+(1:Int)))))))))else some (.inl a2))
def abi(fu:Nat)(a2:(Str×Int×Int×UInt8))(y1:Int)(y6:Bool):Nat→(List UInt8)→Int→Option ((List UInt8)⊕(Str×(Str×Int×Int×UInt8))):=fun k_ a0 a1=>loopF (fun(g:((List UInt8)×Int)→Option ((List UInt8)⊕(Str×(Str×Int×Int×UInt8)))) v=>acv fu a2 y1 y6 (fun a0 a1=>g (a0,a1)) v.1 v.2) k_ (a0,a1)
theorem agj{fu:Nat}{a0:(Str×Int×Int×UInt8)}{y1:Int}{y6:Bool}{k_:Nat}{a1:List UInt8}{a2:Int}:abi fu a0 y1 y6 (k_+1) a1 a2=acv fu a0 y1 y6 (abi fu a0 y1 y6 k_) a1 a2:=rfl
def adf(fu:Nat)(a0:(Str×Int×Int×UInt8)):Option (Str×(Str×Int×Int×UInt8)):=
 ((abk fu a0 ([59]:Str)).bind fun(y1:Int)=>((abj fu a0 (43:UInt8)).bind fun(y6:Bool)=>(((abi fu a0 y1 y6 fu ([]:List UInt8) a0.2.1)).bind fun(a7:((List UInt8)⊕(Str×(Str×Int×Int×UInt8))))=>zaD (fun(a2:List UInt8)=>(((bif y6 then(gd (aap ((a2.length:Int)-(1:Int)))<|some ((a2.length:Int)-(1:Int)))else some (a2.length:Int))).bind fun(a6:Int)=>(((if a6<(1:Int)then((aag fu a0 a0.2.1 (5:UInt8)).bind fun(a3:(Str×Int×Int×UInt8))=>some (a3.1,a3.2.1,a3.2.2.1,a3.2.2.2))else some (a0.1,a0.2.1,a0.2.2.1,a0.2.2.2))).bind fun(a1:(Str×Int×Int×UInt8))=>(((if(30:Int)<a6 then((aag fu a1 a0.2.1 (4:UInt8)).bind fun(a4:(Str×Int×Int×UInt8))=>some (a4.1,a4.2.1,a4.2.2.1,a4.2.2.2))else some (a1.1,a1.2.1,a1.2.2.1,a1.2.2.2))).bind fun(a5:(Str×Int×Int×UInt8))=>some (a2,(a5.1,y1,a5.2.2.1,a5.2.2.2)))))) (fun q=>some q) a7)))
def avk(fu:Nat)(a0:Str):Option (UQ×Int×UInt8):=
 (if(1024:Int)<(a0.length:Int)then some ((([]:Str),([]:Str),([]:Str),(0:Int),([]:LQ),([]:LQ)),(1024:Int),(4:UInt8))else((abk fu (a0,(0:Int),(0:Int),(0:UInt8)) ([58]:Str)).bind fun(a2:Int)=>(if a2=(a0.length:Int)then some ((([]:Str),([]:Str),([]:Str),(0:Int),([]:LQ),([]:LQ)),(a0.length:Int),(5:UInt8))else(gd (0≤a2∧a2≤(a0.length:Int))<|((aec fu (zaW (zai a2) a0)).bind fun(a3:Str)=>(gd (aap (a2+(1:Int)))<|(((((if a3=([115,105,112]:Str)then some (decide (a3=([115,105,112]:Str)))else some (decide (a3=([115,105,112,115]:Str))))).bind fun(b1:Bool)=>(bif b1 then((ain fu (a0,a2+(1:Int),(0:Int),(0:UInt8))).bind fun(a6:(Str×(Str×Int×Int×UInt8)))=>((acs fu a6.2).bind fun(a7:(Str×(Str×Int×Int×UInt8)))=>((acb fu a7.2).bind fun(a8:(Int×(Str×Int×Int×UInt8)))=>((aam fu a8.2 (59:UInt8) (59:UInt8) ([59,63]:Str) (1:Int)).bind fun(a9:(LQ×(Str×Int×Int×UInt8)))=>((aam fu a9.2 (63:UInt8) (38:UInt8) ([38]:Str) (2:Int)).bind fun(a4:(LQ×(Str×Int×Int×UInt8)))=>some (.inl (a4.2.1,a4.2.2.1,a4.2.2.2.1,a4.2.2.2.2,a6.1,a7.1,a8.1,a9.1,a4.1)))))))else(if a3=([116,101,108]:Str)then((adf fu (a0,a2+(1:Int),(0:Int),(0:UInt8))).bind fun(b0:(Str×(Str×Int×Int×UInt8)))=>((aam fu b0.2 (59:UInt8) (59:UInt8) ([59]:Str) (1:Int)).bind fun(a5:(LQ×(Str×Int×Int×UInt8)))=>some (.inl (a5.2.1,a5.2.2.1,a5.2.2.2.1,a5.2.2.2.2,b0.1,([]:Str),(0:Int),a5.1,([]:LQ)))))else some (.inr ((([]:Str),([]:Str),([]:Str),(0:Int),([]:LQ),([]:LQ)),(0:Int),(15:UInt8))))))).bind fun(b2:((Str×Int×Int×UInt8×Str×Str×Int×LQ×LQ)⊕(UQ×Int×UInt8)))=>zaD (fun(a1:(Str×Int×Int×UInt8×Str×Str×Int×LQ×LQ))=>(if a1.2.2.2.1=(0:UInt8)then some ((a3,a1.2.2.2.2.1,a1.2.2.2.2.2.1,a1.2.2.2.2.2.2.1,a1.2.2.2.2.2.2.2.1,a1.2.2.2.2.2.2.2.2),(0:Int),(0:UInt8))else some ((([]:Str),([]:Str),([]:Str),(0:Int),([]:LQ),([]:LQ)),a1.2.2.1,a1.2.2.2.1))) (fun q=>some q) b2)))))))
def L_ref01_TokenChar_lp0B(fu:Nat)(a1:UInt8)(a2:Int→Option (Unit⊕Bool))(a0:Int):Option (Unit⊕Bool):=
 (if a0<(([45,46,33,37,42,95,43,39,126]:Str).length:Int)then(gd (0≤a0∧a0<(([45,46,33,37,42,95,43,39,126]:Str).length:Int))<|(if(at_ ([45,46,33,37,42,95,43,39,126]:Str) a0)=a1 then some (.inr true)else(gd (aap (a0+(1:Int)))<|(a2 (a0+(1:Int))))))else some (.inl ()))
def L_ref01_TokenChar_lp0(fu:Nat)(a1:UInt8):Nat→Int→Option (Unit⊕Bool):=fun k_ a0=>loopF (fun(g:Int→Option (Unit⊕Bool)) v=>L_ref01_TokenChar_lp0B fu a1 (fun a0=>g a0) v) k_ a0
def apj(fu:Nat)(a0:UInt8):Option Bool:=
 (((if(65:UInt8)≤a0 then(if a0≤(90:UInt8)then some true else(if(97:UInt8)≤a0 then(if a0≤(122:UInt8)then some true else(if(48:UInt8)≤a0 then some (decide (a0≤(57:UInt8)))else some false))else(if(48:UInt8)≤a0 then some (decide (a0≤(57:UInt8)))else some false)))else(if(97:UInt8)≤a0 then(if a0≤(122:UInt8)then some true else(if(48:UInt8)≤a0 then some (decide (a0≤(57:UInt8)))else some false))else(if(48:UInt8)≤a0 then some (decide (a0≤(57:UInt8)))else some false)))).bind fun(a1:Bool)=>(bif a1 then some true else(((L_ref01_TokenChar_lp0 fu a0 fu (0:Int))).bind fun(a2:(Unit⊕Bool))=>zaD (fun(a3:Unit)=>some (decide (a0=(96:UInt8)))) (fun q=>some q) a2)))
open List renaming drop → zaA
def ajx(fu:Nat)(a1:Str)(a2:Int→Option Int)(a0:Int):Option Int:=
 (((if a0<(a1.length:Int)then(gd (0≤a0∧a0<(a1.length:Int))<|((apj fu (at_ a1 a0)).bind fun(a3:Bool)=>some a3))else some false)).bind fun(a4:Bool)=>(bif a4 then(gd (aap (a0+(1:Int)))<|(a2 (a0+(1:Int))))else some a0))
def alc(fu:Nat)(a1:Str):Nat→Int→Option Int:=fun k_ a0=>loopF (fun(g:Int→Option Int) v=>ajx fu a1 (fun a0=>g a0) v) k_ a0
theorem atb{fu:Nat}{a0:Str}{k_:Nat}{a1:Int}:alc fu a0 (k_+1) a1=ajx fu a0 (alc fu a0 k_) a1:=rfl
def afn(fu:Nat)(a0:Str)(a1:Int):Option Int:=
 (((alc fu a0 fu (min (max a1 (0:Int)) (a0.length:Int)))).bind fun(a2:Int)=>some a2)
def azv(fu:Nat)(a1:Str)(a0:Int)(a2:UInt8):Option (Int×UInt8):=
 (((if a0<(0:Int)then some true else some (decide ((a1.length:Int)<a0)))).bind fun(v5:Bool)=>(bif v5 then some ((0:Int),(2:UInt8))else(((if a0=(a1.length:Int)then some true else(gd (0≤a0∧a0<(a1.length:Int))<|some (!decide ((at_ a1 a0)=a2))))).bind fun(a3:Bool)=>(bif a3 then some (a0,(5:UInt8))else some ((0:Int),(0:UInt8))))))
def axj(fu:Nat)(a1:Str)(a0:Int):Option (Int×Int×UInt8):=
 (if(a1.length:Int)≤a0 then some ((0:Int),(a1.length:Int),(6:UInt8))else(gd (0≤a0∧a0<(a1.length:Int))<|((alu fu (at_ a1 a0)).bind fun(y3:Bool)=>(bif y3 then some ((0:Int),a0,(5:UInt8))else(gd (0≤a0∧a0<(a1.length:Int))<|(if(at_ a1 a0)=(92:UInt8)then(gd (aap (a0+(1:Int)))<|(if(a1.length:Int)≤(a0+(1:Int))then some ((0:Int),(a1.length:Int),(6:UInt8))else(((gd (aap (a0+(1:Int)))<|(gd (0≤(a0+(1:Int))∧(a0+(1:Int))<(a1.length:Int))<|(if(at_ a1 (a0+(1:Int)))<(32:UInt8)then some true else(gd (aap (a0+(1:Int)))<|(gd (0≤(a0+(1:Int))∧(a0+(1:Int))<(a1.length:Int))<|some (decide ((126:UInt8)<(at_ a1 (a0+(1:Int))))))))))).bind fun(a2:Bool)=>(bif a2 then some ((0:Int),a0,(5:UInt8))else some ((2:Int),(0:Int),(0:UInt8))))))else some ((1:Int),(0:Int),(0:UInt8))))))))
def abx(fu:Nat)(a2:Str)(a4:(List UInt8)→Int→Option (Str×Int×UInt8))(a3:List UInt8)(a0:Int):Option (Str×Int×UInt8):=
 ((axj fu a2 a0).bind fun(a1:(Int×Int×UInt8))=>(if a1.2.2=(0:UInt8)then(((if a1.1=(1:Int)then(gd (0≤a0∧a0<(a2.length:Int))<|some (decide ((at_ a2 a0)=(34:UInt8))))else some false)).bind fun(a5:Bool)=>(bif a5 then(gd (aap (a0+(1:Int)))<|some (a3,a0+(1:Int),(0:UInt8)))else(gd (aap (a0+a1.1))<|(gd (aap ((a0+a1.1)-(1:Int)))<|(gd (0≤((a0+a1.1)-(1:Int))∧((a0+a1.1)-(1:Int))<(a2.length:Int))<|(gd ((a3.length+([at_ a2 ((a0+a1.1)-(1:Int))]:List UInt8).length)*1≤140737488355328)<|(gd (aap (a0+a1.1))<|(a4 (a3++([at_ a2 ((a0+a1.1)-(1:Int))]:List UInt8)) (a0+a1.1)))))))))else some (([]:Str),a1.2.1,a1.2.2)))
def amo(fu:Nat)(a2:Str):Nat→(List UInt8)→Int→Option (Str×Int×UInt8):=fun k_ a0 a1=>loopF (fun(g:((List UInt8)×Int)→Option (Str×Int×UInt8)) v=>abx fu a2 (fun a0 a1=>g (a0,a1)) v.1 v.2) k_ (a0,a1)
theorem acn{fu:Nat}{a0:Str}{k_:Nat}{a1:List UInt8}{a2:Int}:amo fu a0 (k_+1) a1 a2=abx fu a0 (amo fu a0 k_) a1 a2:=rfl
def aon(fu:Nat)(a1:Str)(a0:Int):Option (Str×Int×UInt8):=
 ((azv fu a1 a0 (34:UInt8)).bind fun(y1:(Int×UInt8))=>(if y1.2=(0:UInt8)then(gd (aap (a0+(1:Int)))<|(amo fu a1 fu ([]:List UInt8) (a0+(1:Int))))else some (([]:Str),y1.1,y1.2)))
def ajp(fu:Nat)(a1:Str)(a2:Int→Option Int)(a0:Int):Option Int:=
 (((if a0<(a1.length:Int)then(gd (0≤a0∧a0<(a1.length:Int))<|some (!decide ((at_ a1 a0)=(93:UInt8))))else some false)).bind fun(a3:Bool)=>(bif a3 then(gd (aap (a0+(1:Int)))<|(a2 (a0+(1:Int))))else some a0))
def alp(fu:Nat)(a1:Str):Nat→Int→Option Int:=fun k_ a0=>loopF (fun(g:Int→Option Int) v=>ajp fu a1 (fun a0=>g a0) v) k_ a0
theorem arm{fu:Nat}{a0:Str}{k_:Nat}{a1:Int}:alp fu a0 (k_+1) a1=ajp fu a0 (alp fu a0 k_) a1:=rfl
def avg(fu:Nat)(a1:Str)(a0:Int):Option (Str×Int×UInt8):=
 (((if a0<(a1.length:Int)then(gd (0≤a0∧a0<(a1.length:Int))<|some (decide ((at_ a1 a0)=(34:UInt8))))else some false)).bind fun(v6:Bool)=>(bif v6 then((aon fu a1 a0).bind fun(a4:(Str×Int×UInt8))=>some (a4.1,a4.2.1,a4.2.2))else(((((if a0<(a1.length:Int)then(gd (0≤a0∧a0<(a1.length:Int))<|some (decide ((at_ a1 a0)=(91:UInt8))))else some false)).bind fun(a6:Bool)=>(bif a6 then(((alp fu a1 fu a0)).bind fun(a2:Int)=>(gd (aap (a2+(1:Int)))<|(gd (0≤a0∧a0≤(min (a2+(1:Int)) (a1.length:Int))∧(min (a2+(1:Int)) (a1.length:Int))≤(a1.length:Int))<|((art fu (sub a1 a0 (min (a2+(1:Int)) (a1.length:Int)))).bind fun(a5:(Str×Bool))=>(bif (!a5.2)then some (.inr (([]:Str),a0,(5:UInt8)))else(gd (aap (a2+(1:Int)))<|some (.inr (a5.1,a2+(1:Int),(0:UInt8)))))))))else some (.inl ())))).bind fun(a7:(Unit⊕(Str×Int×UInt8)))=>zaD (fun(a8:Unit)=>((afn fu a1 a0).bind fun(a3:Int)=>(if a3=a0 then some (([]:Str),a0,(5:UInt8))else(gd (0≤a0∧a0≤a3∧a3≤(a1.length:Int))<|some (sub a1 a0 a3,a3,(0:UInt8)))))) (fun q=>some q) a7)))
def amm(fu:Nat)(a0:Str)(b0:LQ→Int→Option (LQ⊕(LQ×Int×UInt8)))(a7:LQ)(a1:Int):Option (LQ⊕(LQ×Int×UInt8)):=
 (if a1<(a0.length:Int)then(gd (0≤a1∧a1<(a0.length:Int))<|(if(at_ a0 a1)=(59:UInt8)then(gd (aap (a1+(1:Int)))<|((adk fu a0 (a1+(1:Int))).bind fun(a2:Int)=>((afn fu a0 a2).bind fun(a4:Int)=>(if a4=a2 then some (.inr (([]:LQ),a2,(5:UInt8)))else(gd (0≤a2∧a2≤a4∧a4≤(a0.length:Int))<|((aec fu (sub a0 a2 a4)).bind fun(a8:Str)=>((adk fu a0 a4).bind fun(a3:Int)=>(((((if a3<(a0.length:Int)then(gd (0≤a3∧a3<(a0.length:Int))<|some (decide ((at_ a0 a3)=(61:UInt8))))else some false)).bind fun(b1:Bool)=>(bif b1 then(gd (aap (a3+(1:Int)))<|((adk fu a0 (a3+(1:Int))).bind fun(b2:Int)=>((avg fu a0 b2).bind fun(a5:(Str×Int×UInt8))=>(if a5.2.2=(0:UInt8)then((adk fu a0 a5.2.1).bind fun(b3:Int)=>some (.inl (b3,a5.1,true)))else some (.inr (([]:LQ),a5.2.1,a5.2.2))))))else some (.inl (a3,([]:Str),false))))).bind fun(b4:((Int×Str×Bool)⊕(LQ×Int×UInt8)))=>zaD (fun(a6:(Int×Str×Bool))=>((aeq fu a7 a8).bind fun(a9:UInt8)=>(if a9=(0:UInt8)then(gd ((a7.length+([(a8,a6.2.1,a6.2.2)]:LQ).length)*40≤140737488355328)<|(b0 (a7++([(a8,a6.2.1,a6.2.2)]:LQ)) a6.1))else some (.inr (([]:LQ),a2,a9))))) (fun q=>some (.inr q)) b4))))))))else some (.inr (([]:LQ),a1,(5:UInt8)))))else some (.inl a7))
def ajv(fu:Nat)(a2:Str):Nat→LQ→Int→Option (LQ⊕(LQ×Int×UInt8)):=fun k_ a0 a1=>loopF (fun(g:(LQ×Int)→Option (LQ⊕(LQ×Int×UInt8))) v=>amm fu a2 (fun a0 a1=>g (a0,a1)) v.1 v.2) k_ (a0,a1)
theorem auz{fu:Nat}{a0:Str}{k_:Nat}{a1:LQ}{a2:Int}:ajv fu a0 (k_+1) a1 a2=amm fu a0 (ajv fu a0 k_) a1 a2:=rfl
def aql(fu:Nat)(a0:Str):Option (LQ×Int×UInt8):=
 ((adk fu a0 (0:Int)).bind fun(y1:Int)=>(((ajv fu a0 fu ([]:LQ) y1)).bind fun(a1:(LQ⊕(LQ×Int×UInt8)))=>zaD (fun(a2:LQ)=>some (a2,(0:Int),(0:UInt8))) (fun q=>some q) a1))
def ars(fu:Nat)(a3:Str)(a5:Str)(a0:Int)(a4:Int)(a1:Int):Option (AQ×Int×UInt8):=
 (gd (0≤a0∧a0≤a4∧a4≤(a3.length:Int))<|((avk fu (sub a3 a0 a4)).bind fun(y5:(UQ×Int×UInt8))=>(if y5.2.2=(0:UInt8)then(gd (0≤a1∧a1≤(a3.length:Int))<|((aql fu (zaA (zai a1) a3)).bind fun(a2:(LQ×Int×UInt8))=>(if a2.2.2=(0:UInt8)then some ((a5,y5.1,a2.1),(0:Int),(0:UInt8))else(gd (aap (a1+a2.2.1))<|some ((([]:Str),(([]:Str),([]:Str),([]:Str),(0:Int),([]:LQ),([]:LQ)),([]:LQ)),a1+a2.2.1,a2.2.2)))))else(gd (aap (a0+y5.2.1))<|some ((([]:Str),(([]:Str),([]:Str),([]:Str),(0:Int),([]:LQ),([]:LQ)),([]:LQ)),a0+y5.2.1,y5.2.2)))))
def apf(fu:Nat)(a1:Str)(a2:Int→Option Int)(a0:Int):Option Int:=
 (((if a0<(a1.length:Int)then(gd (0≤a0∧a0<(a1.length:Int))<|(if(at_ a1 a0)=(59:UInt8)then some false else(gd (0≤a0∧a0<(a1.length:Int))<|((amq fu (at_ a1 a0)).bind fun(a3:Bool)=>some (!a3)))))else some false)).bind fun(a4:Bool)=>(bif a4 then(gd (aap (a0+(1:Int)))<|(a2 (a0+(1:Int))))else some a0))
def aqv(fu:Nat)(a1:Str):Nat→Int→Option Int:=fun k_ a0=>loopF (fun(g:Int→Option Int) v=>apf fu a1 (fun a0=>g a0) v) k_ a0
theorem axg{fu:Nat}{a0:Str}{k_:Nat}{a1:Int}:aqv fu a0 (k_+1) a1=apf fu a0 (aqv fu a0 k_) a1:=rfl
def ape(fu:Nat)(a1:Str)(a2:Int)(a3:Int→Option (Unit⊕(AQ×Int×UInt8)))(a0:Int):Option (Unit⊕(AQ×Int×UInt8)):=
 (if a0<a2 then(((gd (0≤a0∧a0<(a1.length:Int))<|(if(at_ a1 a0)=(63:UInt8)then some true else(gd (0≤a0∧a0<(a1.length:Int))<|some (decide ((at_ a1 a0)=(44:UInt8))))))).bind fun(a4:Bool)=>(bif a4 then some (.inr ((([]:Str),(([]:Str),([]:Str),([]:Str),(0:Int),([]:LQ),([]:LQ)),([]:LQ)),a0,(5:UInt8)))else(gd (aap (a0+(1:Int)))<|(a3 (a0+(1:Int))))))else some (.inl ()))
def aqu(fu:Nat)(a1:Str)(a2:Int):Nat→Int→Option (Unit⊕(AQ×Int×UInt8)):=fun k_ a0=>loopF (fun(g:Int→Option (Unit⊕(AQ×Int×UInt8))) v=>ape fu a1 a2 (fun a0=>g a0) v) k_ a0
theorem axf{fu:Nat}{a0:Str}{a1:Int}{k_:Nat}{a2:Int}:aqu fu a0 a1 (k_+1) a2=ape fu a0 a1 (aqu fu a0 a1 k_) a2:=rfl
def axh(fu:Nat)(a0:Str)(a1:Int):Option (AQ×Int×UInt8):=
 (((aqv fu a0 fu a1)).bind fun(a2:Int)=>(((aqu fu a0 a2 fu a1)).bind fun(a4:(Unit⊕(AQ×Int×UInt8)))=>zaD (fun(a5:Unit)=>((ars fu a0 ([]:Str) a1 a2 a2).bind fun(a3:(AQ×Int×UInt8))=>some (a3.1,a3.2.1,a3.2.2))) (fun q=>some q) a4))
open Go.Lib renaming hasPrefix → zaO, trimPrefix → zaq
def ahb(fu:Nat)(a2:Str)(a5:Int)(a6:Int→Str→Option (Str⊕(Str×Int×Int×UInt8)))(a0:Int)(a3:Str):Option (Str⊕(Str×Int×Int×UInt8)):=
 (if a0<a5 then((afn fu a2 a0).bind fun(a1:Int)=>(if a1=a0 then some (.inr (([]:Str),(0:Int),a0,(5:UInt8)))else(((if a3=([]:Str)then some a3 else(gd (a3.length+([32]:Str).length≤9223372036854775807)<|some (a3++([32]:Str))))).bind fun(a4:Str)=>(gd (0≤a0∧a0≤a1∧a1≤(a2.length:Int))<|(gd (a4.length+(sub a2 a0 a1).length≤9223372036854775807)<|((adk fu a2 a1).bind fun(a7:Int)=>(a6 a7 (a4++(sub a2 a0 a1)))))))))else some (.inl a3))
def aip(fu:Nat)(a2:Str)(a3:Int):Nat→Int→Str→Option (Str⊕(Str×Int×Int×UInt8)):=fun k_ a0 a1=>loopF (fun(g:(Int×Str)→Option (Str⊕(Str×Int×Int×UInt8))) v=>ahb fu a2 a3 (fun a0 a1=>g (a0,a1)) v.1 v.2) k_ (a0,a1)
theorem aom{fu:Nat}{a0:Str}{a1:Int}{k_:Nat}{a2:Int}{a3:Str}:aip fu a0 a1 (k_+1) a2 a3=ahb fu a0 a1 (aip fu a0 a1 k_) a2 a3:=rfl
def asr(fu:Nat)(a0:Str)(a1:Int)(a2:Int):Option (Str×Int×Int×UInt8):=
 (gd (0≤a1∧a1<(a0.length:Int))<|(if(at_ a0 a1)=(34:UInt8)then((aon fu a0 a1).bind fun(y3:(Str×Int×UInt8))=>(if y3.2.2=(0:UInt8)then((adk fu a0 y3.2.1).bind fun(y9:Int)=>(((if y9=(a0.length:Int)then some true else(gd (0≤y9∧y9<(a0.length:Int))<|some (!decide ((at_ a0 y9)=(60:UInt8)))))).bind fun(a3:Bool)=>(bif a3 then some (([]:Str),(0:Int),y9,(5:UInt8))else some (y3.1,y9,(0:Int),(0:UInt8)))))else some (([]:Str),(0:Int),y3.2.1,y3.2.2)))else(((aip fu a0 a2 fu a1 ([]:Str))).bind fun(a4:(Str⊕(Str×Int×Int×UInt8)))=>zaD (fun(a5:Str)=>some (a5,a2,(0:Int),(0:UInt8))) (fun q=>some q) a4)))
def ahc(fu:Nat)(a0:Str):Option (AQ×Int×UInt8):=
 (if(1024:Int)<(a0.length:Int)then some ((([]:Str),(([]:Str),([]:Str),([]:Str),(0:Int),([]:LQ),([]:LQ)),([]:LQ)),(1024:Int),(4:UInt8))else((adk fu a0 (0:Int)).bind fun(y7:Int)=>((apb fu a0 y7 (60:UInt8)).bind fun(a5:Int)=>(((if a5<(0:Int)then(if y7=(a0.length:Int)then some true else(gd (0≤y7∧y7<(a0.length:Int))<|some (!decide ((at_ a0 y7)=(34:UInt8)))))else some false)).bind fun(a6:Bool)=>(bif a6 then((axh fu a0 y7).bind fun(a3:(AQ×Int×UInt8))=>some (a3.1,a3.2.1,a3.2.2))else((asr fu a0 y7 a5).bind fun(a1:(Str×Int×Int×UInt8))=>(if a1.2.2.2=(0:UInt8)then((apb fu a0 a1.2.1 (62:UInt8)).bind fun(a2:Int)=>(if a2<(0:Int)then some ((([]:Str),(([]:Str),([]:Str),([]:Str),(0:Int),([]:LQ),([]:LQ)),([]:LQ)),(a0.length:Int),(5:UInt8))else(gd (aap (a1.2.1+(1:Int)))<|(gd (aap (a2+(1:Int)))<|((ars fu a0 a1.1 (a1.2.1+(1:Int)) a2 (a2+(1:Int))).bind fun(a4:(AQ×Int×UInt8))=>some (a4.1,a4.2.1,a4.2.2))))))else some ((([]:Str),(([]:Str),([]:Str),([]:Str),(0:Int),([]:LQ),([]:LQ)),([]:LQ)),a1.2.2.1,a1.2.2.2))))))))
def aim(fu:Nat)(a0:Str):Option (AQ×UInt8):=
 ((aug fu a0).bind fun(y4:Str)=>((ahc fu y4).bind fun(y9:(AQ×Int×UInt8))=>some (y9.1,y9.2.2)))
def ahg(fu:Nat)(a1:Str)(a2:Int→Option (Unit⊕Bool))(a0:Int):Option (Unit⊕Bool):=
 (if a0<(a1.length:Int)then(gd (0≤a0∧a0<(a1.length:Int))<|((apo fu (at_ a1 a0)).bind fun(a3:Bool)=>(bif a3 then some (.inr false)else(gd (aap (a0+(1:Int)))<|(a2 (a0+(1:Int)))))))else some (.inl ()))
def amt(fu:Nat)(a1:Str):Nat→Int→Option (Unit⊕Bool):=fun k_ a0=>loopF (fun(g:Int→Option (Unit⊕Bool)) v=>ahg fu a1 (fun a0=>g a0) v) k_ a0
theorem aos{fu:Nat}{a0:Str}{k_:Nat}{a1:Int}:amt fu a0 (k_+1) a1=ahg fu a0 (amt fu a0 k_) a1:=rfl
def aly(fu:Nat)(a0:Str):Option Bool:=
 (((amt fu a0 fu (0:Int))).bind fun(a1:(Unit⊕Bool))=>zaD (fun(a2:Unit)=>some true) (fun q=>some q) a1)
def agn(fu:Nat)(a1:Str)(a2:Int→Option (Unit⊕Bool))(a0:Int):Option (Unit⊕Bool):=
 (if a0<((zaq a1 ([43]:Str)).length:Int)then(gd (0≤a0∧a0<((zaq a1 ([43]:Str)).length:Int))<|((((acw fu (at_ (zaq a1 ([43]:Str)) a0)).bind fun(a3:Bool)=>(bif (!a3)then(bif (zaO a1 ([43]:Str))then some true else(if(at_ (zaq a1 ([43]:Str)) a0)=(42:UInt8)then some false else some (!decide ((at_ (zaq a1 ([43]:Str)) a0)=(35:UInt8)))))else some false))).bind fun(a4:Bool)=>(bif a4 then some (.inr false)else(gd (aap (a0+(1:Int)))<|(a2 (a0+(1:Int)))))))else some (.inl ()))
def alf(fu:Nat)(a1:Str):Nat→Int→Option (Unit⊕Bool):=fun k_ a0=>loopF (fun(g:Int→Option (Unit⊕Bool)) v=>agn fu a1 (fun a0=>g a0) v) k_ a0
theorem ang{fu:Nat}{a0:Str}{k_:Nat}{a1:Int}:alf fu a0 (k_+1) a1=agn fu a0 (alf fu a0 k_) a1:=rfl
def aqy(fu:Nat)(a0:Str):Option Bool:=
 (((if(zaq a0 ([43]:Str))=([]:Str)then some true else some (decide ((30:Int)<((zaq a0 ([43]:Str)).length:Int))))).bind fun(v8:Bool)=>(bif v8 then some false else(((alf fu a0 fu (0:Int))).bind fun(a1:(Unit⊕Bool))=>zaD (fun(a2:Unit)=>some true) (fun q=>some q) a1)))
def akc(fu:Nat)(a1:LQ)(a4:Int)(a5:LQ→Int→Option (LQ⊕(LQ×Bool)))(a3:LQ)(a0:Int):Option (LQ⊕(LQ×Bool)):=
 (if a0<(a1.length:Int)then(gd (0≤a0∧a0<(a1.length:Int))<|(gd (0≤a0∧a0<(a1.length:Int))<|((ack fu ((el a1 a0).1)).bind fun(a2:Str)=>(((if a2=([]:Str)then some true else((aly fu a2).bind fun(a6:Bool)=>(bif (!a6)then some true else((aly fu ((el a1 a0).2.1)).bind fun(a7:Bool)=>(bif (!a7)then some true else((alx fu a3 a2).bind fun(a8:Bool)=>some a8))))))).bind fun(a9:Bool)=>(bif a9 then some (.inr (([]:LQ),false))else(((if a4=(2:Int)then(bif (!((el a1 a0).2.2))then some true else(if a4=(1:Int)then some (!(((el a1 a0).2.2)==(!decide (((el a1 a0).2.1)=([]:Str)))))else some false))else(if a4=(1:Int)then some (!(((el a1 a0).2.2)==(!decide (((el a1 a0).2.1)=([]:Str)))))else some false))).bind fun(b0:Bool)=>(bif b0 then some (.inr (([]:LQ),false))else(gd ((a3.length+([(a2,(el a1 a0).2.1,((el a1 a0).2.2))]:LQ).length)*40≤140737488355328)<|(gd (aap (a0+(1:Int)))<|(a5 (a3++([(a2,(el a1 a0).2.1,((el a1 a0).2.2))]:LQ)) (a0+(1:Int))))))))))))else some (.inl a3))
def ahf(fu:Nat)(a2:LQ)(a3:Int):Nat→LQ→Int→Option (LQ⊕(LQ×Bool)):=fun k_ a0 a1=>loopF (fun(g:(LQ×Int)→Option (LQ⊕(LQ×Bool))) v=>akc fu a2 a3 (fun a0 a1=>g (a0,a1)) v.1 v.2) k_ (a0,a1)
theorem atc{fu:Nat}{a0:LQ}{a1:Int}{k_:Nat}{a2:LQ}{a3:Int}:ahf fu a0 a1 (k_+1) a2 a3=akc fu a0 a1 (ahf fu a0 a1 k_) a2 a3:=rfl
def amy(fu:Nat)(a0:LQ)(a1:Int):Option (LQ×Bool):=
 (if(16:Int)<(a0.length:Int)then some (([]:LQ),false)else(((ahf fu a0 a1 fu ([]:LQ) (0:Int))).bind fun(a2:(LQ⊕(LQ×Bool)))=>zaD (fun(a3:LQ)=>((aee fu a3).bind fun(a4:LQ)=>some (a4,true))) (fun q=>some q) a2))
def aqz(fu:Nat)(a0:UQ):Option (UQ×UInt8):=
 ((ack fu a0.1).bind fun(y7:Str)=>(((((if y7=([115,105,112]:Str)then some (decide (y7=([115,105,112]:Str)))else some (decide (y7=([115,105,112,115]:Str))))).bind fun(a5:Bool)=>(bif a5 then((age fu a0.2.2.1).bind fun(a1:(Str×Bool))=>(bif a1.2 then(if(0:Int)≤a0.2.2.2.1 then(if a0.2.2.2.1≤(65535:Int)then((aly fu a0.2.1).bind fun(a6:Bool)=>some (a6,a1.1))else some (false,a1.1))else some (false,a1.1))else some (false,a1.1)))else(if y7=([116,101,108]:Str)then(if a0.2.2.1=([]:Str)then(if a0.2.2.2.1=(0:Int)then(if(a0.2.2.2.2.2.length:Int)=(0:Int)then((aqy fu a0.2.1).bind fun(a7:Bool)=>some (a7,([]:Str)))else some (false,([]:Str)))else some (false,([]:Str)))else some (false,([]:Str)))else some (false,([]:Str)))))).bind fun(a2:(Bool×Str))=>((amy fu a0.2.2.2.2.1 (1:Int)).bind fun(a3:(LQ×Bool))=>((amy fu a0.2.2.2.2.2 (2:Int)).bind fun(a4:(LQ×Bool))=>(((bif (!a2.1)then some true else(bif (!a3.2)then some true else some (!a4.2)))).bind fun(a8:Bool)=>(bif a8 then some ((([]:Str),([]:Str),([]:Str),(0:Int),([]:LQ),([]:LQ)),(2:UInt8))else some ((y7,a0.2.1,a2.2,a0.2.2.2.1,a3.1,a4.1),(0:UInt8))))))))
def aac(fu:Nat)(a1:(Unit×(List UInt8)))(a0:Str):Option (Int×Unit×(Unit×(List UInt8))):=
 (gd ((a1.2.length+a0.length)*1≤140737488355328)<|some ((a0.length:Int),(),((),a1.2++a0)))
open List renaming take → zaW
def aki(fu:Nat)(a1:Str)(a4:Int)(a3:(List UInt8)→Int→Option (List UInt8))(a2:List UInt8)(a0:Int):Option (List UInt8):=
 (if a0<(a1.length:Int)then(gd (0≤a0∧a0<(a1.length:Int))<|((alw fu (at_ a1 a0) a4).bind fun(a5:Bool)=>(bif a5 then(gd (0≤a0∧a0<(a1.length:Int))<|(gd ((a2.length+([at_ a1 a0]:List UInt8).length)*1≤140737488355328)<|(gd (aap (a0+(1:Int)))<|(a3 (a2++([at_ a1 a0]:List UInt8)) (a0+(1:Int))))))else(gd (0≤a0∧a0<(a1.length:Int))<|(gd (0≤((shr8 (at_ a1 a0) (4:Int)).toNat:Int)∧((shr8 (at_ a1 a0) (4:Int)).toNat:Int)<(([48,49,50,51,52,53,54,55,56,57,65,66,67,68,69,70]:Str).length:Int))<|(gd (0≤a0∧a0<(a1.length:Int))<|(gd (0≤(((at_ a1 a0)&&&(15:UInt8)).toNat:Int)∧(((at_ a1 a0)&&&(15:UInt8)).toNat:Int)<(([48,49,50,51,52,53,54,55,56,57,65,66,67,68,69,70]:Str).length:Int))<|(gd ((a2.length+([(37:UInt8),at_ ([48,49,50,51,52,53,54,55,56,57,65,66,67,68,69,70]:Str) ((shr8 (at_ a1 a0) (4:Int)).toNat:Int),at_ ([48,49,50,51,52,53,54,55,56,57,65,66,67,68,69,70]:Str) (((at_ a1 a0)&&&(15:UInt8)).toNat:Int)]:List UInt8).length)*1≤140737488355328)<|(gd (aap (a0+(1:Int)))<|(a3 (a2++([(37:UInt8),at_ ([48,49,50,51,52,53,54,55,56,57,65,66,67,68,69,70]:Str) ((shr8 (at_ a1 a0) (4:Int)).toNat:Int),at_ ([48,49,50,51,52,53,54,55,56,57,65,66,67,68,69,70]:Str) (((at_ a1 a0)&&&(15:UInt8)).toNat:Int)]:List UInt8)) (a0+(1:Int))))))))))))else some a2)
def ahh(fu:Nat)(a2:Str)(a3:Int):Nat→(List UInt8)→Int→Option (List UInt8):=fun k_ a0 a1=>loopF (fun(g:((List UInt8)×Int)→Option (List UInt8)) v=>aki fu a2 a3 (fun a0 a1=>g (a0,a1)) v.1 v.2) k_ (a0,a1)
theorem atf{fu:Nat}{a0:Str}{a1:Int}{k_:Nat}{a2:List UInt8}{a3:Int}:ahh fu a0 a1 (k_+1) a2 a3=aki fu a0 a1 (ahh fu a0 a1 k_) a2 a3:=rfl
def acx(fu:Nat)(a0:Str)(a1:Int):Option Str:=
 (@gd _ (0≤(a0.length:Int)∧(1:Int)*(a0.length:Int)≤281474976710656) (dMk 1 (a0.length:Int))<|(((ahh fu a0 a1 fu ([]:List UInt8) (0:Int))).bind fun(a2:List UInt8)=>some a2))
def adh(fu:Nat)(a0:(Unit×(List UInt8)))(a1:UInt8):Option (Unit×(Unit×(List UInt8))):=
 (gd ((a0.2.length+([a1]:List UInt8).length)*1≤140737488355328)<|some ((),((),a0.2++([a1]:List UInt8))))
def alh(fu:Nat)(y4:(UQ×UInt8))(a1:Int→Unit→(List UInt8)→Option (Unit×(List UInt8)))(a0:Int)(a7:Unit)(a2:List UInt8):Option (Unit×(List UInt8)):=
 (if a0<(y4.1.2.2.2.2.1.length:Int)then(gd (0≤a0∧a0<(y4.1.2.2.2.2.1.length:Int))<|(gd (0≤a0∧a0<(y4.1.2.2.2.2.1.length:Int))<|((acx fu ((el y4.1.2.2.2.2.1 a0).1) (1:Int)).bind fun(a3:Str)=>(gd (([59]:Str).length+a3.length≤9223372036854775807)<|((aac fu ((),a2) (([59]:Str)++a3)).bind fun(a4:(Int×Unit×(Unit×(List UInt8))))=>(bif ((el y4.1.2.2.2.2.1 a0).2.2)then((acx fu ((el y4.1.2.2.2.2.1 a0).2.1) (1:Int)).bind fun(a5:Str)=>(gd (([61]:Str).length+a5.length≤9223372036854775807)<|((aac fu ((),a4.2.2.2) (([61]:Str)++a5)).bind fun(a6:(Int×Unit×(Unit×(List UInt8))))=>(gd (aap (a0+(1:Int)))<|(a1 (a0+(1:Int)) () a6.2.2.2)))))else(gd (aap (a0+(1:Int)))<|(a1 (a0+(1:Int)) () a4.2.2.2))))))))else some ((),a2))
def aga(fu:Nat)(y4:(UQ×UInt8)):Nat→Int→Unit→(List UInt8)→Option (Unit×(List UInt8)):=fun k_ a0 a1 a2=>loopF (fun(g:(Int×Unit×(List UInt8))→Option (Unit×(List UInt8))) v=>alh fu y4 (fun a0 a1 a2=>g (a0,a1,a2)) v.1 v.2.1 v.2.2) k_ (a0,a1,a2)
theorem auj{fu:Nat}{y4:(UQ×UInt8)}{k_:Nat}{a0:Int}{a1:Unit}{a2:List UInt8}:aga fu y4 (k_+1) a0 a1 a2=alh fu y4 (aga fu y4 k_) a0 a1 a2:=rfl
def alg(fu:Nat)(y4:(UQ×UInt8))(a4:Int→Unit→(List UInt8)→Option (Unit×(List UInt8)))(a0:Int)(a9:Unit)(a1:List UInt8):Option (Unit×(List UInt8)):=
 (if a0<(y4.1.2.2.2.2.2.length:Int)then(gd (0≤a0∧a0<(y4.1.2.2.2.2.2.length:Int))<|(gd (0≤a0∧a0<(y4.1.2.2.2.2.2.length:Int))<|(((if a0=(0:Int)then((adh fu ((),a1) (63:UInt8)).bind fun(a5:(Unit×(Unit×(List UInt8))))=>some ((),a5.2.2))else((adh fu ((),a1) (38:UInt8)).bind fun(a6:(Unit×(Unit×(List UInt8))))=>some ((),a6.2.2)))).bind fun(a7:(Unit×(List UInt8)))=>((acx fu ((el y4.1.2.2.2.2.2 a0).1) (2:Int)).bind fun(a2:Str)=>(gd (a2.length+([61]:Str).length≤9223372036854775807)<|((acx fu ((el y4.1.2.2.2.2.2 a0).2.1) (2:Int)).bind fun(a3:Str)=>(gd ((a2++([61]:Str)).length+a3.length≤9223372036854775807)<|((aac fu ((),a7.2) ((a2++([61]:Str))++a3)).bind fun(a8:(Int×Unit×(Unit×(List UInt8))))=>(gd (aap (a0+(1:Int)))<|(a4 (a0+(1:Int)) () a8.2.2.2))))))))))else some ((),a1))
def aej(fu:Nat)(y4:(UQ×UInt8)):Nat→Int→Unit→(List UInt8)→Option (Unit×(List UInt8)):=fun k_ a0 a1 a2=>loopF (fun(g:(Int×Unit×(List UInt8))→Option (Unit×(List UInt8))) v=>alg fu y4 (fun a0 a1 a2=>g (a0,a1,a2)) v.1 v.2.1 v.2.2) k_ (a0,a1,a2)
theorem aui{fu:Nat}{y4:(UQ×UInt8)}{k_:Nat}{a0:Int}{a1:Unit}{a2:List UInt8}:aej fu y4 (k_+1) a0 a1 a2=alg fu y4 (aej fu y4 k_) a0 a1 a2:=rfl
def aot(fu:Nat)(a4:UQ):Option (Str×UInt8):=
 ((aqz fu a4).bind fun(y4:(UQ×UInt8))=>(if y4.2=(0:UInt8)then(gd (y4.1.1.length+([58]:Str).length≤9223372036854775807)<|((aac fu ((),([]:List UInt8)) (y4.1.1++([58]:Str))).bind fun(a0:(Int×Unit×(Unit×(List UInt8))))=>(((if y4.1.1=([116,101,108]:Str)then((aac fu ((),a0.2.2.2) y4.1.2.1).bind fun(a5:(Int×Unit×(Unit×(List UInt8))))=>some ((),a5.2.2.2))else(if y4.1.2.1=([]:Str)then some ((),a0.2.2.2)else((acx fu y4.1.2.1 (0:Int)).bind fun(a1:Str)=>(gd (a1.length+([64]:Str).length≤9223372036854775807)<|((aac fu ((),a0.2.2.2) (a1++([64]:Str))).bind fun(a6:(Int×Unit×(Unit×(List UInt8))))=>some ((),a6.2.2.2))))))).bind fun(a7:(Unit×(List UInt8)))=>((aac fu ((),a7.2) y4.1.2.2.1).bind fun(a2:(Int×Unit×(Unit×(List UInt8))))=>(((if y4.1.2.2.2.1=(0:Int)then some ((),a2.2.2.2)else(gd (aap y4.1.2.2.2.1)<|(gd (([58]:Str).length+(Lib.itoa y4.1.2.2.2.1).length≤9223372036854775807)<|((aac fu ((),a2.2.2.2) (([58]:Str)++(Lib.itoa y4.1.2.2.2.1))).bind fun(a8:(Int×Unit×(Unit×(List UInt8))))=>some ((),a8.2.2.2)))))).bind fun(a9:(Unit×(List UInt8)))=>(((aga fu y4 fu (0:Int) () a9.2)).bind fun(b0:(Unit×(List UInt8)))=>(((aej fu y4 fu (0:Int) () b0.2)).bind fun(a3:(Unit×(List UInt8)))=>(gd (a3.2.length≤140737488355328)<|some (a3.2,(0:UInt8))))))))))else some (([]:Str),y4.2)))
def axl(fu:Nat)(a1:Str):Option (Str×UInt8):=
 ((afp fu a1).bind fun(y1:(AQ×UInt8))=>(if y1.2=(0:UInt8)then((aot fu y1.1.2.1).bind fun(a0:(Str×UInt8))=>some (a0.1,a0.2))else some (([]:Str),y1.2)))
def ajq(fu:Nat)(a1:Str)(a2:Int→Option (Unit⊕Bool))(a0:Int):Option (Unit⊕Bool):=
 (if a0<(a1.length:Int)then(gd (0≤a0∧a0<(a1.length:Int))<|((alu fu (at_ a1 a0)).bind fun(a3:Bool)=>(bif a3 then some (.inr false)else(gd (aap (a0+(1:Int)))<|(a2 (a0+(1:Int)))))))else some (.inl ()))
def aoy(fu:Nat)(a1:Str):Nat→Int→Option (Unit⊕Bool):=fun k_ a0=>loopF (fun(g:Int→Option (Unit⊕Bool)) v=>ajq fu a1 (fun a0=>g a0) v) k_ a0
theorem arn{fu:Nat}{a0:Str}{k_:Nat}{a1:Int}:aoy fu a0 (k_+1) a1=ajq fu a0 (aoy fu a0 k_) a1:=rfl
def aoz(fu:Nat)(a0:Str):Option Bool:=
 (((aoy fu a0 fu (0:Int))).bind fun(a1:(Unit⊕Bool))=>zaD (fun(a2:Unit)=>some true) (fun q=>some q) a1)
def anp(fu:Nat)(a1:LQ)(a2:Int)(a3:Int→Option (Unit⊕Bool))(a0:Int):Option (Unit⊕Bool):=
 (if a0<(a1.length:Int)then(gd (0≤a0∧a0<(a1.length:Int))<|(gd (0≤a0∧a0<(a1.length:Int))<|(((if((el a1 a0).1)=([]:Str)then some true else((aoz fu ((el a1 a0).1)).bind fun(a4:Bool)=>(bif (!a4)then some true else((aoz fu ((el a1 a0).2.1)).bind fun(a5:Bool)=>(bif (!a5)then some true else(bif (!((el a1 a0).2.2))then(if((el a1 a0).2.1)=([]:Str)then(if a2=(2:Int)then some true else(bif ((el a1 a0).2.2)then(if((el a1 a0).2.1)=([]:Str)then(if a2=(1:Int)then some true else(gd (0≤a0∧a0≤(a1.length:Int))<|((aeq fu (zaW (zai a0) a1) ((el a1 a0).1)).bind fun(a6:UInt8)=>some (!decide (a6=(0:UInt8))))))else(gd (0≤a0∧a0≤(a1.length:Int))<|((aeq fu (zaW (zai a0) a1) ((el a1 a0).1)).bind fun(a7:UInt8)=>some (!decide (a7=(0:UInt8))))))else(gd (0≤a0∧a0≤(a1.length:Int))<|((aeq fu (zaW (zai a0) a1) ((el a1 a0).1)).bind fun(a8:UInt8)=>some (!decide (a8=(0:UInt8)))))))else some true)else(bif ((el a1 a0).2.2)then(if((el a1 a0).2.1)=([]:Str)then(if a2=(1:Int)then some true else(gd (0≤a0∧a0≤(a1.length:Int))<|((aeq fu (zaW (zai a0) a1) ((el a1 a0).1)).bind fun(a9:UInt8)=>some (!decide (a9=(0:UInt8))))))else(gd (0≤a0∧a0≤(a1.length:Int))<|((aeq fu (zaW (zai a0) a1) ((el a1 a0).1)).bind fun(b0:UInt8)=>some (!decide (b0=(0:UInt8))))))else(gd (0≤a0∧a0≤(a1.length:Int))<|((aeq fu (zaW (zai a0) a1) ((el a1 a0).1)).bind fun(b1:UInt8)=>some (!decide (b1=(0:UInt8))))))))))))).bind fun(b2:Bool)=>(bif b2 then some (.inr false)else(gd (aap (a0+(1:Int)))<|(a3 (a0+(1:Int))))))))else some (.inl ()))
def alr(fu:Nat)(a1:LQ)(a2:Int):Nat→Int→Option (Unit⊕Bool):=fun k_ a0=>loopF (fun(g:Int→Option (Unit⊕Bool)) v=>anp fu a1 a2 (fun a0=>g a0) v) k_ a0
theorem awm{fu:Nat}{a0:LQ}{a1:Int}{k_:Nat}{a2:Int}:alr fu a0 a1 (k_+1) a2=anp fu a0 a1 (alr fu a0 a1 k_) a2:=rfl
def asp(fu:Nat)(a0:LQ)(a1:Int):Option Bool:=
 (((alr fu a0 a1 fu (0:Int))).bind fun(a2:(Unit⊕Bool))=>zaD (fun(a3:Unit)=>some true) (fun q=>some q) a2)
def ala(fu:Nat)(a1:LQ)(a4:LQ→Int→Option LQ)(a2:LQ)(a0:Int):Option LQ:=
 (if a0<(a1.length:Int)then(gd (0≤a0∧a0<(a1.length:Int))<|(gd (0≤a0∧a0<(a1.length:Int))<|((aec fu ((el a1 a0).1)).bind fun(a3:Str)=>(gd ((a2.length+([(a3,(el a1 a0).2.1,((el a1 a0).2.2))]:LQ).length)*40≤140737488355328)<|(gd (aap (a0+(1:Int)))<|(a4 (a2++([(a3,(el a1 a0).2.1,((el a1 a0).2.2))]:LQ)) (a0+(1:Int))))))))else some a2)
def aio(fu:Nat)(a2:LQ):Nat→LQ→Int→Option LQ:=fun k_ a0 a1=>loopF (fun(g:(LQ×Int)→Option LQ) v=>ala fu a2 (fun a0 a1=>g (a0,a1)) v.1 v.2) k_ (a0,a1)
theorem aue{fu:Nat}{a0:LQ}{k_:Nat}{a1:LQ}{a2:Int}:aio fu a0 (k_+1) a1 a2=ala fu a0 (aio fu a0 k_) a1 a2:=rfl
def aol(fu:Nat)(a0:LQ):Option LQ:=
 (((aio fu a0 fu ([]:LQ) (0:Int))).bind fun(a1:LQ)=>((akm fu a1).bind fun(a2:LQ)=>some a2))
def ano(fu:Nat)(a0:Str):Option Bool:=
 ((adf fu (a0,(0:Int),(0:Int),(0:UInt8))).bind fun(y4:(Str×(Str×Int×Int×UInt8)))=>(((if y4.2.2.2.2=(0:UInt8)then some (decide (y4.1=a0))else some false)).bind fun(a1:Bool)=>some a1))
def atv(fu:Nat)(a0:UQ):Option (UQ×UInt8):=
 ((aec fu a0.1).bind fun(y7:Str)=>((((asp fu a0.2.2.2.2.1 (1:Int)).bind fun(a4:Bool)=>(bif (!a4)then some true else((asp fu a0.2.2.2.2.2 (2:Int)).bind fun(a5:Bool)=>(bif (!a5)then some true else((aoz fu a0.2.1).bind fun(a6:Bool)=>some (!a6))))))).bind fun(a7:Bool)=>(bif a7 then some ((([]:Str),([]:Str),([]:Str),(0:Int),([]:LQ),([]:LQ)),(2:UInt8))else((aol fu a0.2.2.2.2.1).bind fun(a2:LQ)=>((aol fu a0.2.2.2.2.2).bind fun(a1:LQ)=>(((if y7=([115,105,112]:Str)then some (decide (y7=([115,105,112]:Str)))else some (decide (y7=([115,105,112,115]:Str))))).bind fun(a8:Bool)=>(bif a8 then((art fu a0.2.2.1).bind fun(a3:(Str×Bool))=>(((bif (!a3.2)then some true else(if a0.2.2.2.1<(0:Int)then some true else some (decide ((65535:Int)<a0.2.2.2.1))))).bind fun(a9:Bool)=>(bif a9 then some ((([]:Str),([]:Str),([]:Str),(0:Int),([]:LQ),([]:LQ)),(2:UInt8))else some ((y7,a0.2.1,a3.1,a0.2.2.2.1,a2,a1),(0:UInt8)))))else(if y7=([116,101,108]:Str)then(((if a0.2.2.1=([]:Str)then(if a0.2.2.2.1=(0:Int)then(if(a1.length:Int)=(0:Int)then((ano fu a0.2.1).bind fun(b0:Bool)=>some b0)else some false)else some false)else some false)).bind fun(b1:Bool)=>(bif b1 then some ((y7,a0.2.1,a0.2.2.1,a0.2.2.2.1,a2,a1),(0:UInt8))else some ((([]:Str),([]:Str),([]:Str),(0:Int),([]:LQ),([]:LQ)),(2:UInt8))))else some ((([]:Str),([]:Str),([]:Str),(0:Int),([]:LQ),([]:LQ)),(2:UInt8))))))))))
def amn(fu:Nat)(a1:Str)(a4:Int)(a3:(List UInt8)→Int→Option (List UInt8))(a2:List UInt8)(a0:Int):Option (List UInt8):=
 (if a0<(a1.length:Int)then(gd (0≤a0∧a0<(a1.length:Int))<|((ayr fu (at_ a1 a0) a4).bind fun(a5:Bool)=>(bif a5 then(gd (0≤a0∧a0<(a1.length:Int))<|(gd ((a2.length+([at_ a1 a0]:List UInt8).length)*1≤140737488355328)<|(gd (aap (a0+(1:Int)))<|(a3 (a2++([at_ a1 a0]:List UInt8)) (a0+(1:Int))))))else(gd (0≤a0∧a0<(a1.length:Int))<|(gd ((16:UInt8)≠0)<|(gd (0≤(((at_ a1 a0)/(16:UInt8)).toNat:Int)∧(((at_ a1 a0)/(16:UInt8)).toNat:Int)<(([48,49,50,51,52,53,54,55,56,57,65,66,67,68,69,70]:Str).length:Int))<|(gd (0≤a0∧a0<(a1.length:Int))<|(gd ((16:UInt8)≠0)<|(gd (0≤(((at_ a1 a0)%(16:UInt8)).toNat:Int)∧(((at_ a1 a0)%(16:UInt8)).toNat:Int)<(([48,49,50,51,52,53,54,55,56,57,65,66,67,68,69,70]:Str).length:Int))<|(gd ((a2.length+([(37:UInt8),at_ ([48,49,50,51,52,53,54,55,56,57,65,66,67,68,69,70]:Str) (((at_ a1 a0)/(16:UInt8)).toNat:Int),at_ ([48,49,50,51,52,53,54,55,56,57,65,66,67,68,69,70]:Str) (((at_ a1 a0)%(16:UInt8)).toNat:Int)]:List UInt8).length)*1≤140737488355328)<|(gd (aap (a0+(1:Int)))<|(a3 (a2++([(37:UInt8),at_ ([48,49,50,51,52,53,54,55,56,57,65,66,67,68,69,70]:Str) (((at_ a1 a0)/(16:UInt8)).toNat:Int),at_ ([48,49,50,51,52,53,54,55,56,57,65,66,67,68,69,70]:Str) (((at_ a1 a0)%(16:UInt8)).toNat:Int)]:List UInt8)) (a0+(1:Int))))))))))))))else some a2)
def ajw(fu:Nat)(a2:Str)(a3:Int):Nat→(List UInt8)→Int→Option (List UInt8):=fun k_ a0 a1=>loopF (fun(g:((List UInt8)×Int)→Option (List UInt8)) v=>amn fu a2 a3 (fun a0 a1=>g (a0,a1)) v.1 v.2) k_ (a0,a1)
theorem ava{fu:Nat}{a0:Str}{a1:Int}{k_:Nat}{a2:List UInt8}{a3:Int}:ajw fu a0 a1 (k_+1) a2 a3=amn fu a0 a1 (ajw fu a0 a1 k_) a2 a3:=rfl
def akn(fu:Nat)(a0:Str)(a1:Int):Option Str:=
 (((ajw fu a0 a1 fu ([]:List UInt8) (0:Int))).bind fun(a2:List UInt8)=>some a2)
def ann(fu:Nat)(a1:LQ)(a5:Str)(a6:Int)(a7:Str→Str→Int→Option Str)(a2:Str)(a3:Str)(a0:Int):Option Str:=
 (if a0<(a1.length:Int)then(gd (a2.length+a3.length≤9223372036854775807)<|(gd (0≤a0∧a0<(a1.length:Int))<|(gd (0≤a0∧a0<(a1.length:Int))<|((akn fu ((el a1 a0).1) a6).bind fun(a4:Str)=>(gd ((a2++a3).length+a4.length≤9223372036854775807)<|(gd (0≤a0∧a0<(a1.length:Int))<|(gd (0≤a0∧a0<(a1.length:Int))<|(bif ((el a1 a0).2.2)then(gd (((a2++a3)++a4).length+([61]:Str).length≤9223372036854775807)<|(gd (0≤a0∧a0<(a1.length:Int))<|(gd (0≤a0∧a0<(a1.length:Int))<|((akn fu ((el a1 a0).2.1) a6).bind fun(a8:Str)=>(gd ((((a2++a3)++a4)++([61]:Str)).length+a8.length≤9223372036854775807)<|(gd (aap (a0+(1:Int)))<|(a7 ((((a2++a3)++a4)++([61]:Str))++a8) a5 (a0+(1:Int)))))))))else(gd (aap (a0+(1:Int)))<|(a7 ((a2++a3)++a4) a5 (a0+(1:Int))))))))))))else some a2)
def aib(fu:Nat)(a3:LQ)(a4:Str)(a5:Int):Nat→Str→Str→Int→Option Str:=fun k_ a0 a1 a2=>loopF (fun(g:(Str×Str×Int)→Option Str) v=>ann fu a3 a4 a5 (fun a0 a1 a2=>g (a0,a1,a2)) v.1 v.2.1 v.2.2) k_ (a0,a1,a2)
theorem awl{fu:Nat}{a0:LQ}{a1:Str}{a2:Int}{k_:Nat}{a3:Str}{a4:Str}{a5:Int}:aib fu a0 a1 a2 (k_+1) a3 a4 a5=ann fu a0 a1 a2 (aib fu a0 a1 a2 k_) a3 a4 a5:=rfl
def ajo(fu:Nat)(a0:LQ)(a1:Str)(a2:Str)(a3:Int):Option Str:=
 (((aib fu a0 a2 a3 fu ([]:Str) a1 (0:Int))).bind fun(a4:Str)=>some a4)
def afd:Nat→Int→Option Str
 |0,_=>none
 |fu+1,a0=>(if a0<(10:Int)then(gd (aap (a0+(1:Int)))<|(gd (0≤a0∧a0≤(a0+(1:Int))∧(a0+(1:Int))≤(([48,49,50,51,52,53,54,55,56,57]:Str).length:Int))<|some (sub ([48,49,50,51,52,53,54,55,56,57]:Str) a0 (a0+(1:Int)))))else(gd (0≤a0∧0<(10:Int)∧aap (a0))<|((afd fu (a0/(10:Int))).bind fun(y5:Str)=>(gd (0≤a0∧0<(10:Int)∧aap (a0))<|(gd (0≤a0∧0<(10:Int)∧aap (a0))<|(gd (aap ((a0%(10:Int))+(1:Int)))<|(gd (0≤(a0%(10:Int))∧(a0%(10:Int))≤((a0%(10:Int))+(1:Int))∧((a0%(10:Int))+(1:Int))≤(([48,49,50,51,52,53,54,55,56,57]:Str).length:Int))<|(gd (y5.length+(sub ([48,49,50,51,52,53,54,55,56,57]:Str) (a0%(10:Int)) ((a0%(10:Int))+(1:Int))).length≤9223372036854775807)<|some (y5++(sub ([48,49,50,51,52,53,54,55,56,57]:Str) (a0%(10:Int)) ((a0%(10:Int))+(1:Int))))))))))))
def avj(fu:Nat)(a7:UQ):Option (Str×UInt8):=
 ((atv fu a7).bind fun(y4:(UQ×UInt8))=>(if y4.2=(0:UInt8)then(if y4.1.1=([116,101,108]:Str)then(gd (([116,101,108,58]:Str).length+y4.1.2.1.length≤9223372036854775807)<|((ajo fu y4.1.2.2.2.2.1 ([59]:Str) ([59]:Str) (1:Int)).bind fun(a4:Str)=>(gd ((([116,101,108,58]:Str)++y4.1.2.1).length+a4.length≤9223372036854775807)<|some ((([116,101,108,58]:Str)++y4.1.2.1)++a4,(0:UInt8)))))else(gd (y4.1.1.length+([58]:Str).length≤9223372036854775807)<|(((if y4.1.2.1=([]:Str)then some (y4.1.1++([58]:Str))else((akn fu y4.1.2.1 (0:Int)).bind fun(a1:Str)=>(gd ((y4.1.1++([58]:Str)).length+a1.length≤9223372036854775807)<|(gd (((y4.1.1++([58]:Str))++a1).length+([64]:Str).length≤9223372036854775807)<|some (((y4.1.1++([58]:Str))++a1)++([64]:Str))))))).bind fun(a0:Str)=>(gd (a0.length+y4.1.2.2.1.length≤9223372036854775807)<|(((if(0:Int)<y4.1.2.2.2.1 then(gd ((a0++y4.1.2.2.1).length+([58]:Str).length≤9223372036854775807)<|((afd fu y4.1.2.2.2.1).bind fun(a5:Str)=>(gd (((a0++y4.1.2.2.1)++([58]:Str)).length+a5.length≤9223372036854775807)<|some (((a0++y4.1.2.2.1)++([58]:Str))++a5))))else some (a0++y4.1.2.2.1))).bind fun(a2:Str)=>((ajo fu y4.1.2.2.2.2.1 ([59]:Str) ([59]:Str) (1:Int)).bind fun(a3:Str)=>(gd (a2.length+a3.length≤9223372036854775807)<|((ajo fu y4.1.2.2.2.2.2 ([63]:Str) ([38]:Str) (2:Int)).bind fun(a6:Str)=>(gd ((a2++a3).length+a6.length≤9223372036854775807)<|some ((a2++a3)++a6,(0:UInt8)))))))))))else some (([]:Str),y4.2)))
def azs(fu:Nat)(a1:Str):Option (Str×UInt8):=
 ((aim fu a1).bind fun(y1:(AQ×UInt8))=>(if y1.2=(0:UInt8)then((avj fu y1.1.2.1).bind fun(a0:(Str×UInt8))=>some (a0.1,a0.2))else some (([]:Str),y1.2)))
def anz(fu:Nat)(a1:LQ)(y1:Str)(a2:Int→Option (Unit⊕(Str×Bool)))(a0:Int):Option (Unit⊕(Str×Bool)):=
 (if a0<(a1.length:Int)then(gd (0≤a0∧a0<(a1.length:Int))<|(gd (0≤a0∧a0<(a1.length:Int))<|((ack fu ((el a1 a0).1)).bind fun(a3:Str)=>(if a3=y1 then some (.inr ((el a1 a0).2.1,true))else(gd (aap (a0+(1:Int)))<|(a2 (a0+(1:Int))))))))else some (.inl ()))
def ama(fu:Nat)(a1:LQ)(y1:Str):Nat→Int→Option (Unit⊕(Str×Bool)):=fun k_ a0=>loopF (fun(g:Int→Option (Unit⊕(Str×Bool))) v=>anz fu a1 y1 (fun a0=>g a0) v) k_ a0
theorem awr{fu:Nat}{a0:LQ}{y1:Str}{k_:Nat}{a1:Int}:ama fu a0 y1 (k_+1) a1=anz fu a0 y1 (ama fu a0 y1 k_) a1:=rfl
def akh(fu:Nat)(a0:LQ)(a1:Str):Option (Str×Bool):=
 ((ack fu a1).bind fun(y1:Str)=>(((ama fu a0 y1 fu (0:Int))).bind fun(a2:(Unit⊕(Str×Bool)))=>zaD (fun(a3:Unit)=>some (([]:Str),false)) (fun q=>some q) a2))
def avl(fu:Nat)(a3:Str):Option ((Str×LQ)×UInt8):=
 ((akb fu a3).bind fun(y4:Str)=>((afo fu y4 (0:Int)).bind fun(y9:Int)=>(if y9=(0:Int)then some ((([]:Str),([]:LQ)),(5:UInt8))else(((((if y9<(y4.length:Int)then(gd (0≤y9∧y9<(y4.length:Int))<|some (decide ((at_ y4 y9)=(47:UInt8))))else some false)).bind fun(a4:Bool)=>(bif a4 then(gd (aap (y9+(1:Int)))<|((afo fu y4 (y9+(1:Int))).bind fun(a2:Int)=>(gd (aap (y9+(1:Int)))<|(if a2=(y9+(1:Int))then some (.inr ((([]:Str),([]:LQ)),(5:UInt8)))else some (.inl a2)))))else some (.inl y9)))).bind fun(a5:(Int⊕((Str×LQ)×UInt8)))=>zaD (fun(a0:Int)=>(gd (0≤a0∧a0≤(y4.length:Int))<|((agz fu (zaA (zai a0) y4)).bind fun(a1:(LQ×Int×UInt8))=>(if a1.2.2=(0:UInt8)then(gd (0≤a0∧a0≤(y4.length:Int))<|some ((zaW (zai a0) y4,a1.1),(0:UInt8)))else some ((([]:Str),([]:LQ)),a1.2.2))))) (fun q=>some q) a5))))
def atx(fu:Nat)(a0:Str)(a1:Str):Option (Str×Bool):=
 ((afp fu a0).bind fun(y1:(AQ×UInt8))=>(if y1.2=(0:UInt8)then((akh fu y1.1.2.2 a1).bind fun(a2:(Str×Bool))=>some (a2.1,a2.2))else((avl fu a0).bind fun(a3:((Str×LQ)×UInt8))=>(if a3.2=(0:UInt8)then((akh fu a3.1.2 a1).bind fun(a4:(Str×Bool))=>some (a4.1,a4.2))else some (([]:Str),false)))))
def atq(fu:Nat)(a0:LQ)(a1:Str):Option (Str×Bool):=
 ((auf fu a0 a1).bind fun(y1:Int)=>(if y1<(0:Int)then some (([]:Str),false)else(gd (0≤y1∧y1<(a0.length:Int))<|(gd (0≤y1∧y1<(a0.length:Int))<|some ((el a0 y1).2.1,true)))))
def aso(fu:Nat)(a0:Str):Option Int:=
 ((afn fu a0 (0:Int)).bind fun(y1:Int)=>(((if y1=(0:Int)then some true else(if y1=(a0.length:Int)then some true else(gd (0≤y1∧y1<(a0.length:Int))<|some (!decide ((at_ a0 y1)=(47:UInt8))))))).bind fun(a2:Bool)=>(bif a2 then some y1 else(gd (aap (y1+(1:Int)))<|((afn fu a0 (y1+(1:Int))).bind fun(a1:Int)=>(gd (aap (y1+(1:Int)))<|(if a1=(y1+(1:Int))then some (0:Int)else some a1)))))))
def axe(fu:Nat)(a1:Str):Option ((Str×LQ)×UInt8):=
 ((aug fu a1).bind fun(y4:Str)=>((aso fu y4).bind fun(y9:Int)=>(if y9=(0:Int)then some ((([]:Str),([]:LQ)),(5:UInt8))else(gd (0≤y9∧y9≤(y4.length:Int))<|((aql fu (zaA (zai y9) y4)).bind fun(a0:(LQ×Int×UInt8))=>(if a0.2.2=(0:UInt8)then(gd (0≤y9∧y9≤(y4.length:Int))<|some ((zaW (zai y9) y4,a0.1),(0:UInt8)))else some ((([]:Str),([]:LQ)),a0.2.2)))))))
def avf(fu:Nat)(a0:Str)(a1:Str):Option (Str×Bool):=
 ((aim fu a0).bind fun(y1:(AQ×UInt8))=>(if y1.2=(0:UInt8)then((atq fu y1.1.2.2 a1).bind fun(a2:(Str×Bool))=>some (a2.1,a2.2))else((axe fu a0).bind fun(a4:((Str×LQ)×UInt8))=>((atq fu a4.1.2 a1).bind fun(a3:(Str×Bool))=>some (a3.1,a3.2)))))
def afe(fu:Nat)(a1:LQ)(a2:LQ)(a3:Int→Option (Unit⊕Bool))(a0:Int):Option (Unit⊕Bool):=
 (if a0<(a1.length:Int)then(gd (0≤a0∧a0<(a1.length:Int))<|(gd (0≤a0∧a0<(a1.length:Int))<|(gd (0≤a0∧a0<(a2.length:Int))<|(gd (0≤a0∧a0<(a2.length:Int))<|(if((el a1 a0).1,(el a1 a0).2.1,((el a1 a0).2.2))=((el a2 a0).1,(el a2 a0).2.1,((el a2 a0).2.2))then(gd (aap (a0+(1:Int)))<|(a3 (a0+(1:Int))))else some (.inr false))))))else some (.inl ()))
def adw(fu:Nat)(a1:LQ)(a2:LQ):Nat→Int→Option (Unit⊕Bool):=fun k_ a0=>loopF (fun(g:Int→Option (Unit⊕Bool)) v=>afe fu a1 a2 (fun a0=>g a0) v) k_ a0
theorem alt{fu:Nat}{a0:LQ}{a1:LQ}{k_:Nat}{a2:Int}:adw fu a0 a1 (k_+1) a2=afe fu a0 a1 (adw fu a0 a1 k_) a2:=rfl
def adt(fu:Nat)(a0:LQ)(a1:LQ):Option Bool:=
 (if(a0.length:Int)=(a1.length:Int)then(((adw fu a0 a1 fu (0:Int))).bind fun(a2:(Unit⊕Bool))=>zaD (fun(a3:Unit)=>some true) (fun q=>some q) a2)else some false)
def L_ref02_Same(fu:Nat)(a0:UQ)(a1:UQ):Option Bool:=
 (((if a0.1=a1.1 then(if a0.2.1=a1.2.1 then(if a0.2.2.1=a1.2.2.1 then(if a0.2.2.2.1=a1.2.2.2.1 then((adt fu a0.2.2.2.2.1 a1.2.2.2.2.1).bind fun(a2:Bool)=>(bif a2 then((adt fu a0.2.2.2.2.2 a1.2.2.2.2.2).bind fun(a3:Bool)=>some a3)else some false))else some false)else some false)else some false)else some false)).bind fun(a4:Bool)=>some a4)
def aml(fu:Nat)(a0:AQ)(a1:AQ):Option Bool:=
 (((if a0.1=a1.1 then((L_ref02_Same fu a0.2.1 a1.2.1).bind fun(a2:Bool)=>(bif a2 then((adt fu a0.2.2 a1.2.2).bind fun(a3:Bool)=>some a3)else some false))else some false)).bind fun(a4:Bool)=>some a4)
open List renaming set → zbj
def axm(fu:Nat)(a0:Str):Option Str:=
 ((afp fu a0).bind fun(y1:(AQ×UInt8))=>(if y1.2=(0:UInt8)then((akh fu y1.1.2.2 ([116,97,103]:Str)).bind fun(a1:(Str×Bool))=>some a1.1)else some ([]:Str)))
def azt(fu:Nat)(a0:Str):Option Str:=
 ((aim fu a0).bind fun(y1:(AQ×UInt8))=>((atq fu y1.1.2.2 ([116,97,103]:Str)).bind fun(a1:(Str×Bool))=>some a1.1))
def ass(fu:Nat)(a0:Str):Option Bool:=
 (((if a0=([]:Str)then some false else((afo fu a0 (0:Int)).bind fun(a1:Int)=>some (decide (a1=(a0.length:Int)))))).bind fun(a2:Bool)=>some a2)
def anw(fu:Nat)(a0:UInt8):Option UInt8:=
 (((if(65:UInt8)≤a0 then some (decide (a0≤(90:UInt8)))else some false)).bind fun(v5:Bool)=>(bif v5 then some (a0+(32:UInt8))else some a0))
def ayt(fu:Nat)(a0:UInt8):Option Str:=
 (if a0=(98:UInt8)then none else(if a0=(99:UInt8)then none else(if a0=(101:UInt8)then none else(if a0=(102:UInt8)then none else(if a0=(105:UInt8)then none else(if a0=(107:UInt8)then none else(if a0=(108:UInt8)then none else(if a0=(109:UInt8)then some ([67,111,110,116,97,99,116]:Str)else none))))))))
def aor(fu:Nat)(a2:Str)(a3:Str→Int→Option Str)(a1:Str)(a0:Int):Option Str:=
 (if a0<(a2.length:Int)then(gd (0≤a0∧a0<(a1.length:Int))<|(gd (0≤a0∧a0<(a1.length:Int))<|((anw fu (at_ a1 a0)).bind fun(a4:UInt8)=>(gd (0≤a0∧a0<(a1.length:Int))<|(gd (0≤a0∧a0<(a1.length:Int))<|(gd (aap (a0+(1:Int)))<|(a3 (zbj a1 (zai a0) a4) (a0+(1:Int)))))))))else some a1)
def apl(fu:Nat)(a2:Str):Nat→Str→Int→Option Str:=fun k_ a0 a1=>loopF (fun(g:(Str×Int)→Option Str) v=>aor fu a2 (fun a0 a1=>g (a0,a1)) v.1 v.2) k_ (a0,a1)
def aew(fu:Nat)(a0:Str):Option Str:=
 (((apl fu a0 fu a0 (0:Int))).bind fun(a1:Str)=>some a1)
def ast(fu:Nat)(a0:UInt8):Option UInt8:=
 (((if(97:UInt8)≤a0 then some (decide (a0≤(122:UInt8)))else some false)).bind fun(v5:Bool)=>(bif v5 then some (a0-(32:UInt8))else some a0))
def L_header_Canon_1(fu:Nat)(a0:UInt8)(a1:Bool):Option (UInt8×Bool):=
 (bif a1 then((ast fu a0).bind fun(y2:UInt8)=>some (y2,(decide (y2=(45:UInt8)))))else((anw fu a0).bind fun(y9:UInt8)=>some (y9,(decide (y9=(45:UInt8))))))
open List renaming drop → zaA, set → zbj
def apy(fu:Nat)(a4:Str)(a5:Str→Int→Bool→Option (Str×Bool))(a1:Str)(a0:Int)(a2:Bool):Option (Str×Bool):=
 (if a0<(a4.length:Int)then(gd (0≤a0∧a0<(a1.length:Int))<|(gd (0≤a0∧a0<(a1.length:Int))<|((L_header_Canon_1 fu (at_ a1 a0) a2).bind fun(a3:(UInt8×Bool))=>(gd (0≤a0∧a0<(a1.length:Int))<|(gd (0≤a0∧a0<(a1.length:Int))<|(gd (aap (a0+(1:Int)))<|(a5 (zbj a1 (zai a0) a3.1) (a0+(1:Int)) a3.2)))))))else some (a1,a2))
def aqm(fu:Nat)(a3:Str):Nat→Str→Int→Bool→Option (Str×Bool):=fun k_ a0 a1 a2=>loopF (fun(g:(Str×Int×Bool)→Option (Str×Bool)) v=>apy fu a3 (fun a0 a1 a2=>g (a0,a1,a2)) v.1 v.2.1 v.2.2) k_ (a0,a1,a2)
def akt(fu:Nat)(a0:Str)(a2:Bool):Option (Str×Bool):=
 (((aqm fu a0 fu a0 (0:Int) a2)).bind fun(a1:(Str×Bool))=>some (a1.1,a1.2))
def L_header_Canon_lp0B(fu:Nat)(a1:Str)(a2:Int→Option (Unit⊕(Str×UInt8)))(a0:Int):Option (Unit⊕(Str×UInt8)):=
 (if a0<(7:Int)then(gd (0≤a0∧a0<(ark.length:Int))<|((aew fu (el ark a0)).bind fun(a3:Str)=>(if a3=a1 then some (.inr (el ark a0,(0:UInt8)))else(gd (aap (a0+(1:Int)))<|(a2 (a0+(1:Int)))))))else some (.inl ()))
def L_header_Canon_lp0(fu:Nat)(a1:Str):Nat→Int→Option (Unit⊕(Str×UInt8)):=fun k_ a0=>loopF (fun(g:Int→Option (Unit⊕(Str×UInt8))) v=>L_header_Canon_lp0B fu a1 (fun a0=>g a0) v) k_ a0
def axv(fu:Nat)(a0:Str):Option (Str×UInt8):=
 ((((ass fu a0).bind fun(a2:Bool)=>(bif (!a2)then some true else some (decide ((64:Int)<(a0.length:Int)))))).bind fun(a3:Bool)=>(bif a3 then some (([]:Str),(5:UInt8))else(((if(a0.length:Int)=(1:Int)then(gd (0≤(0:Int)∧(0:Int)<(a0.length:Int))<|((anw fu (at_ a0 (0:Int))).bind fun(a4:UInt8)=>((ayt fu a4).bind fun(a1:Str)=>(if a1=([]:Str)then some (.inl ())else some (.inr (a1,(0:UInt8)))))))else some (.inl ()))).bind fun(a5:(Unit⊕(Str×UInt8)))=>zaD (fun(a9:Unit)=>((aew fu a0).bind fun(a6:Str)=>(((L_header_Canon_lp0 fu a6 fu (0:Int))).bind fun(a7:(Unit⊕(Str×UInt8)))=>zaD (fun(b0:Unit)=>((akt fu a0 true).bind fun(a8:(Str×Bool))=>some (a8.1,(0:UInt8)))) (fun q=>some q) a7))) (fun q=>some q) a5)))
def L_header_many(fu:Nat)(a0:Str):Option Bool:=
 (if a0=([67,111,110,116,97,99,116]:Str)then(if a0=([67,111,110,116,97,99,116]:Str)then some true else none)else none)
def azw(fu:Nat)(a1:Str)(a2:Int)(a0:Int):Option (Int×Str):=
 ((akp fu a1 a2).bind fun(y4:Int)=>(gd (0≤(min y4 a0)∧(min y4 a0)≤a0∧a0≤(a1.length:Int))<|(gd ((sub a1 (min y4 a0) a0).length≤1000000000)<|gd (([32,9]:Str).length≤1000∧([32,9]:Str).all (fun b=>decide (b.toNat<128))=true)<|some (min y4 a0,Lib.trimRightS (sub a1 (min y4 a0) a0) ([32,9]:Str)))))
def L_lexis_Split_lp0B(fu:Nat)(a1:Str)(a6:UInt8)(a4:(List (Int×Str))→Int→Int→Option ((List (Int×Str))×Int))(a2:List (Int×Str))(a3:Int)(a0:Int):Option ((List (Int×Str))×Int):=
 (if a0<(a1.length:Int)then(gd (0≤a0∧a0<(a1.length:Int))<|(if(at_ a1 a0)=(34:UInt8)then none else(if(at_ a1 a0)=(60:UInt8)then(gd (0≤a0∧a0≤(a1.length:Int))<|(if(ixb (·==(62:UInt8)) (zaA (zai a0) a1))<(0:Int)then none else(gd (aap ((ixb (·==(62:UInt8)) (zaA (zai a0) a1))+(1:Int)))<|(gd (aap (a0+((ixb (·==(62:UInt8)) (zaA (zai a0) a1))+(1:Int))))<|(a4 a2 a3 (a0+((ixb (·==(62:UInt8)) (zaA (zai a0) a1))+(1:Int))))))))else(if(at_ a1 a0)=(62:UInt8)then none else(if(at_ a1 a0)=a6 then((azw fu a1 a3 a0).bind fun(a5:(Int×Str))=>(gd ((a2.length+([a5]:List (Int×Str)).length)*24≤140737488355328)<|(gd (aap (a0+(1:Int)))<|(a4 (a2++([a5]:List (Int×Str))) (a0+(1:Int)) (a0+(1:Int))))))else(gd (aap (a0+(1:Int)))<|(a4 a2 a3 (a0+(1:Int)))))))))else some (a2,a3))
def L_lexis_Split_lp0(fu:Nat)(a3:Str)(a4:UInt8):Nat→(List (Int×Str))→Int→Int→Option ((List (Int×Str))×Int):=fun k_ a0 a1 a2=>loopF (fun(g:((List (Int×Str))×Int×Int)→Option ((List (Int×Str))×Int)) v=>L_lexis_Split_lp0B fu a3 a4 (fun a0 a1 a2=>g (a0,a1,a2)) v.1 v.2.1 v.2.2) k_ (a0,a1,a2)
def L_lexis_Split(fu:Nat)(a1:Str)(a0:UInt8):Option ((List (Int×Str))×Int×UInt8):=
 ((((ajz fu a0).bind fun(a4:Bool)=>(bif a4 then some true else(if a0=(34:UInt8)then some true else(if a0=(60:UInt8)then some true else some (decide (a0=(62:UInt8)))))))).bind fun(a5:Bool)=>(bif a5 then none else(((L_lexis_Split_lp0 fu a1 a0 fu ([]:List (Int×Str)) (0:Int) (0:Int))).bind fun(a2:((List (Int×Str))×Int))=>((azw fu a1 a2.2 (a1.length:Int)).bind fun(a3:(Int×Str))=>(gd ((a2.1.length+([a3]:List (Int×Str)).length)*24≤140737488355328)<|some (a2.1++([a3]:List (Int×Str)),(0:Int),(0:UInt8)))))))
def L_header_List_lp0B(fu:Nat)(y1:((List (Int×Str))×Int×UInt8))(a2:(List Str)→Int→Option (List Str))(a1:List Str)(a0:Int):Option (List Str):=
 (if a0<(y1.1.length:Int)then(gd (0≤a0∧a0<(y1.1.length:Int))<|(gd (0≤a0∧a0<(y1.1.length:Int))<|(if((el y1.1 a0).2)=([]:Str)then none else(gd ((a1.length+([(el y1.1 a0).2]:List Str).length)*16≤140737488355328)<|(gd (aap (a0+(1:Int)))<|(a2 (a1++([(el y1.1 a0).2]:List Str)) (a0+(1:Int))))))))else some a1)
def L_header_List_lp0(fu:Nat)(y1:((List (Int×Str))×Int×UInt8)):Nat→(List Str)→Int→Option (List Str):=fun k_ a0 a1=>loopF (fun(g:((List Str)×Int)→Option (List Str)) v=>L_header_List_lp0B fu y1 (fun a0 a1=>g (a0,a1)) v.1 v.2) k_ (a0,a1)
def L_header_List(fu:Nat)(a0:Str):Option ((List Str)×UInt8):=
 ((L_lexis_Split fu a0 (44:UInt8)).bind fun(y1:((List (Int×Str))×Int×UInt8))=>(if y1.2.2=(0:UInt8)then(((L_header_List_lp0 fu y1 fu ([]:List Str) (0:Int))).bind fun(a1:List Str)=>some (a1,(0:UInt8)))else none))
def L_header_kindOf_lp0B(fu:Nat)(a1:Str)(a2:Int→Option Int)(a0:Int):Option Int:=
 (if a0<(31:Int)then(gd (0≤a0∧a0<(31:Int))<|(gd (0≤a0∧a0<(axc.length:Int))<|(if((el axc a0).1)=a1 then(gd (0≤a0∧a0<(31:Int))<|(gd (0≤a0∧a0<(axc.length:Int))<|some ((el axc a0).2)))else(gd (aap (a0+(1:Int)))<|(a2 (a0+(1:Int)))))))else none)
def L_header_kindOf_lp0(fu:Nat)(a1:Str):Nat→Int→Option Int:=fun k_ a0=>loopF (fun(g:Int→Option Int) v=>L_header_kindOf_lp0B fu a1 (fun a0=>g a0) v) k_ a0
def L_header_kindOf(fu:Nat)(a0:Str):Option Int:=
 (L_header_kindOf_lp0 fu a0 fu (0:Int))
def L_lexis_Quote_lp0B(fu:Nat)(a1:Str)(a3:(List UInt8)→Int→Option (List UInt8))(a2:List UInt8)(a0:Int):Option (List UInt8):=
 (if a0<(a1.length:Int)then(gd (0≤a0∧a0<(a1.length:Int))<|((ahd fu (at_ a1 a0)).bind fun(a4:Bool)=>(bif a4 then none else(((if(at_ a1 a0)=(34:UInt8)then some true else some (decide ((at_ a1 a0)=(92:UInt8))))).bind fun(a5:Bool)=>(bif a5 then none else(gd (0≤a0∧a0<(a1.length:Int))<|(gd ((a2.length+([at_ a1 a0]:List UInt8).length)*1≤140737488355328)<|(gd (aap (a0+(1:Int)))<|(a3 (a2++([at_ a1 a0]:List UInt8)) (a0+(1:Int)))))))))))else some a2)
def L_lexis_Quote_lp0(fu:Nat)(a2:Str):Nat→(List UInt8)→Int→Option (List UInt8):=fun k_ a0 a1=>loopF (fun(g:((List UInt8)×Int)→Option (List UInt8)) v=>L_lexis_Quote_lp0B fu a2 (fun a0 a1=>g (a0,a1)) v.1 v.2) k_ (a0,a1)
def azx(fu:Nat)(a0:Str):Option (Str×UInt8):=
 (gd (aap ((a0.length:Int)+(2:Int)))<|(@gd _ (0≤((a0.length:Int)+(2:Int))∧(1:Int)*((a0.length:Int)+(2:Int))≤281474976710656) (dMk 1 ((a0.length:Int)+(2:Int)))<|(gd ((([]:List UInt8).length+([(34:UInt8)]:List UInt8).length)*1≤140737488355328)<|(((L_lexis_Quote_lp0 fu a0 fu (([]:List UInt8)++([(34:UInt8)]:List UInt8)) (0:Int))).bind fun(a1:List UInt8)=>(gd ((a1.length+([(34:UInt8)]:List UInt8).length)*1≤140737488355328)<|some (a1++([(34:UInt8)]:List UInt8),(0:UInt8)))))))
open Go.Lib renaming indexAny → zaX, join → zar
open List renaming drop → zaA, set → zbj, take → zaW
def awt(fu:Nat)(a1:LQ)(a2:Int→Unit→(List UInt8)→Option ((Unit×(List UInt8))⊕(Str×UInt8)))(a0:Int)(b6:Unit)(a3:List UInt8):Option ((Unit×(List UInt8))⊕(Str×UInt8)):=
 (if a0<(a1.length:Int)then(gd (0≤a0∧a0<(a1.length:Int))<|(gd (0≤a0∧a0<(a1.length:Int))<|((((ass fu ((el a1 a0).1)).bind fun(a8:Bool)=>(bif (!a8)then some true else((ack fu ((el a1 a0).1)).bind fun(a9:Str)=>(if((el a1 a0).1)=a9 then(gd (0≤a0∧a0≤(a1.length:Int))<|((alx fu (zaW (zai a0) a1) ((el a1 a0).1)).bind fun(b0:Bool)=>some b0))else some true))))).bind fun(b1:Bool)=>(bif b1 then some (.inr (([]:Str),(2:UInt8)))else(gd (([59]:Str).length+((el a1 a0).1).length≤9223372036854775807)<|((aac fu ((),a3) (([59]:Str)++((el a1 a0).1))).bind fun(a4:(Int×Unit×(Unit×(List UInt8))))=>(bif (!((el a1 a0).2.2))then(if((el a1 a0).2.1)=([]:Str)then(gd (aap (a0+(1:Int)))<|(a2 (a0+(1:Int)) () a4.2.2.2))else some (.inr (([]:Str),(2:UInt8))))else((((age fu ((el a1 a0).2.1)).bind fun(a5:(Str×Bool))=>((((ass fu ((el a1 a0).2.1)).bind fun(b2:Bool)=>(bif (!b2)then(bif a5.2 then(if a5.1=((el a1 a0).2.1)then(gd (0≤(0:Int)∧(0:Int)<(((el a1 a0).2.1).length:Int))<|some (!decide ((at_ ((el a1 a0).2.1) (0:Int))=(91:UInt8))))else some true)else some true)else some false))).bind fun(b3:Bool)=>(bif b3 then((azx fu ((el a1 a0).2.1)).bind fun(a6:(Str×UInt8))=>(if a6.2=(0:UInt8)then some (.inl a6.1)else some (.inr (([]:Str),(2:UInt8)))))else some (.inl ((el a1 a0).2.1)))))).bind fun(b4:(Str⊕(Str×UInt8)))=>zaD (fun(a7:Str)=>(gd (([61]:Str).length+a7.length≤9223372036854775807)<|((aac fu ((),a4.2.2.2) (([61]:Str)++a7)).bind fun(b5:(Int×Unit×(Unit×(List UInt8))))=>(gd (aap (a0+(1:Int)))<|(a2 (a0+(1:Int)) () b5.2.2.2))))) (fun q=>some (.inr q)) b4))))))))else some (.inl ((),a3)))
def axw(fu:Nat)(a3:LQ):Nat→Int→Unit→(List UInt8)→Option ((Unit×(List UInt8))⊕(Str×UInt8)):=fun k_ a0 a1 a2=>loopF (fun(g:(Int×Unit×(List UInt8))→Option ((Unit×(List UInt8))⊕(Str×UInt8))) v=>awt fu a3 (fun a0 a1 a2=>g (a0,a1,a2)) v.1 v.2.1 v.2.2) k_ (a0,a1,a2)
def auk(fu:Nat)(a0:LQ):Option (Str×UInt8):=
 (if(16:Int)<(a0.length:Int)then some (([]:Str),(2:UInt8))else(((axw fu a0 fu (0:Int) () ([]:List UInt8))).bind fun(a2:((Unit×(List UInt8))⊕(Str×UInt8)))=>zaD (fun(a1:(Unit×(List UInt8)))=>(gd (a1.2.length≤140737488355328)<|some (a1.2,(0:UInt8)))) (fun q=>some q) a2))
def atd(fu:Nat)(a2:AQ):Option (Str×UInt8):=
 ((azx fu a2.1).bind fun(y4:(Str×UInt8))=>(if y4.2=(0:UInt8)then((aot fu a2.2.1).bind fun(a0:(Str×UInt8))=>(if a0.2=(0:UInt8)then((aee fu a2.2.2).bind fun(a3:LQ)=>((auk fu a3).bind fun(a1:(Str×UInt8))=>(if a1.2=(0:UInt8)then(if a2.1=([]:Str)then(gd (([60]:Str).length+a0.1.length≤9223372036854775807)<|(gd ((([60]:Str)++a0.1).length+([62]:Str).length≤9223372036854775807)<|(gd (((([60]:Str)++a0.1)++([62]:Str)).length+a1.1.length≤9223372036854775807)<|some (((([60]:Str)++a0.1)++([62]:Str))++a1.1,(0:UInt8)))))else(gd (y4.1.length+([32,60]:Str).length≤9223372036854775807)<|(gd ((y4.1++([32,60]:Str)).length+a0.1.length≤9223372036854775807)<|(gd (((y4.1++([32,60]:Str))++a0.1).length+([62]:Str).length≤9223372036854775807)<|(gd ((((y4.1++([32,60]:Str))++a0.1)++([62]:Str)).length+a1.1.length≤9223372036854775807)<|some ((((y4.1++([32,60]:Str))++a0.1)++([62]:Str))++a1.1,(0:UInt8)))))))else none)))else none))else none))
def L_header_tidy(fu:Nat)(a0:Str)(a1:Str):Option (Str×UInt8):=
 ((L_header_kindOf fu a0).bind fun(a4:Int)=>(if a4=(1:Int)then(((if a0=([67,111,110,116,97,99,116]:Str)then((akb fu a1).bind fun(a5:Str)=>some (decide (a5=([42]:Str))))else some false)).bind fun(a6:Bool)=>(bif a6 then none else((afp fu a1).bind fun(a2:(AQ×UInt8))=>(if a2.2=(0:UInt8)then((atd fu a2.1).bind fun(a3:(Str×UInt8))=>some (a3.1,a3.2))else none))))else none))
def L_header_Tidy_lp0B(fu:Nat)(y1:(Str×UInt8))(a3:((List Str)×UInt8))(a4:(List Str)→Int→Option (List Str))(a1:List Str)(a0:Int):Option (List Str):=
 (if a0<(a3.1.length:Int)then(gd (0≤a0∧a0<(a1.length:Int))<|(gd (0≤a0∧a0<(a1.length:Int))<|((L_header_tidy fu y1.1 (el a1 a0)).bind fun(a2:(Str×UInt8))=>(gd (0≤a0∧a0<(a1.length:Int))<|(gd (0≤a0∧a0<(a1.length:Int))<|(if a2.2=(0:UInt8)then(gd (aap (a0+(1:Int)))<|(a4 (zbj a1 (zai a0) a2.1) (a0+(1:Int))))else none))))))else some a1)
def L_header_Tidy_lp0(fu:Nat)(y1:(Str×UInt8))(a2:((List Str)×UInt8)):Nat→(List Str)→Int→Option (List Str):=fun k_ a0 a1=>loopF (fun(g:((List Str)×Int)→Option (List Str)) v=>L_header_Tidy_lp0B fu y1 a2 (fun a0 a1=>g (a0,a1)) v.1 v.2) k_ (a0,a1)
def L_header_Tidy(fu:Nat)(a2:Str)(a3:Str):Option (Str×UInt8):=
 ((axv fu a2).bind fun(y1:(Str×UInt8))=>(if y1.2=(0:UInt8)then((L_header_many fu y1.1).bind fun(y7:Bool)=>(bif (!y7)then none else((L_header_List fu a3).bind fun(a0:((List Str)×UInt8))=>(if a0.2=(0:UInt8)then(((L_header_Tidy_lp0 fu y1 a0 fu a0.1 (0:Int))).bind fun(a1:List Str)=>(gd (a1.length≤1000000000∧(zar a1 ([44,32]:Str)).length≤100000000000)<|some (zar a1 ([44,32]:Str),(0:UInt8))))else none))))else none))
def aoq(fu:Nat)(a2:Str)(a3:Str→Int→Option Str)(a1:Str)(a0:Int):Option Str:=
 (if a0<(a2.length:Int)then(gd (0≤a0∧a0<(a1.length:Int))<|(gd (0≤a0∧a0<(a1.length:Int))<|((ast fu (at_ a1 a0)).bind fun(a4:UInt8)=>(gd (0≤a0∧a0<(a1.length:Int))<|(gd (0≤a0∧a0<(a1.length:Int))<|(gd (aap (a0+(1:Int)))<|(a3 (zbj a1 (zai a0) a4) (a0+(1:Int)))))))))else some a1)
def apk(fu:Nat)(a2:Str):Nat→Str→Int→Option Str:=fun k_ a0 a1=>loopF (fun(g:(Str×Int)→Option Str) v=>aoq fu a2 (fun a0 a1=>g (a0,a1)) v.1 v.2) k_ (a0,a1)
def aev(fu:Nat)(a0:Str):Option Str:=
 (((apk fu a0 fu a0 (0:Int))).bind fun(a1:Str)=>some a1)
def L_header_cutPort(fu:Nat)(a0:Str):Option PQ:=
 (gd (a0.length≤1000000000)<|(((if(lixb (·==(58:UInt8)) a0)<(0:Int)then some true else(gd (0≤(lixb (·==(58:UInt8)) a0)∧(lixb (·==(58:UInt8)) a0)≤(a0.length:Int))<|(gd ((zaW (zai (lixb (·==(58:UInt8)) a0)) a0).length≤1000000000)<|(bif (Lib.contains (zaW (zai (lixb (·==(58:UInt8)) a0)) a0) ([91]:Str))then(gd (0≤(lixb (·==(58:UInt8)) a0)∧(lixb (·==(58:UInt8)) a0)≤(a0.length:Int))<|(gd ((zaA (zai (lixb (·==(58:UInt8)) a0)) a0).length≤1000000000)<|some (Lib.contains (zaA (zai (lixb (·==(58:UInt8)) a0)) a0) ([93]:Str))))else some false))))).bind fun(a1:Bool)=>(bif a1 then none else(gd (0≤(lixb (·==(58:UInt8)) a0)∧(lixb (·==(58:UInt8)) a0)≤(a0.length:Int))<|(gd (aap ((lixb (·==(58:UInt8)) a0)+(1:Int)))<|(gd (0≤((lixb (·==(58:UInt8)) a0)+(1:Int))∧((lixb (·==(58:UInt8)) a0)+(1:Int))≤(a0.length:Int))<|some (zaW (zai (lixb (·==(58:UInt8)) a0)) a0,zaA (zai ((lixb (·==(58:UInt8)) a0)+(1:Int))) a0,true)))))))
def L_header_Via(fu:Nat)(a6:Str):Option ((Str×Str×Int×Str×LQ)×UInt8):=
 ((akb fu a6).bind fun(y4:Str)=>(((if(y4.length:Int)<(8:Int)then some true else(gd (0≤(8:Int)∧(8:Int)≤(y4.length:Int))<|((aev fu (zaW (zai (8:Int)) y4)).bind fun(a7:Str)=>some (!decide (a7=([83,73,80,47,50,46,48,47]:Str))))))).bind fun(a8:Bool)=>(bif a8 then none else((afo fu y4 (8:Int)).bind fun(a1:Int)=>((akp fu y4 a1).bind fun(a0:Int)=>(((if a1=(8:Int)then some true else some (decide (a0=a1)))).bind fun(a9:Bool)=>(bif a9 then none else(gd (0≤(8:Int)∧(8:Int)≤a1∧a1≤(y4.length:Int))<|((aev fu (sub y4 (8:Int) a1)).bind fun(b0:Str)=>(gd (0≤a0∧a0≤(y4.length:Int))<|(gd ((zaA (zai a0) y4).length≤1000000000∧([59,32,9]:Str).length≤1000∧([59,32,9]:Str).all (fun b=>decide (b.toNat<128))=true)<|(if(0:Int)≤(zaX (zaA (zai a0) y4) ([59,32,9]:Str))then(gd (0≤(zaX (zaA (zai a0) y4) ([59,32,9]:Str))∧(zaX (zaA (zai a0) y4) ([59,32,9]:Str))≤((zaA (zai a0) y4).length:Int))<|(gd (0≤(zaX (zaA (zai a0) y4) ([59,32,9]:Str))∧(zaX (zaA (zai a0) y4) ([59,32,9]:Str))≤((zaA (zai a0) y4).length:Int))<|((L_header_cutPort fu (zaW (zai (zaX (zaA (zai a0) y4) ([59,32,9]:Str))) (zaA (zai a0) y4))).bind fun(a3:PQ)=>((age fu a3.1).bind fun(a5:(Str×Bool))=>(bif (!a5.2)then none else(bif a3.2.2 then((ako fu a3.2.1).bind fun(a2:(Int×UInt8))=>(((if a2.2=(0:UInt8)then(if a2.1<(1:Int)then some true else some (decide ((65535:Int)<a2.1)))else some false)).bind fun(b1:Bool)=>(bif b1 then none else(if a2.2=(0:UInt8)then((agz fu (zaA (zai (zaX (zaA (zai a0) y4) ([59,32,9]:Str))) (zaA (zai a0) y4))).bind fun(a4:(LQ×Int×UInt8))=>(if a4.2.2=(0:UInt8)then((akh fu a4.1 ([98,114,97,110,99,104]:Str)).bind fun(b2:(Str×Bool))=>some ((b0,a5.1,a2.1,b2.1,a4.1),(0:UInt8)))else none))else none))))else none))))))else none))))))))))))
def ays(fu:Nat)(a0:Str):Option (Int×Str×UInt8):=
 (gd (a0.length≤1000000000∧([32,9]:Str).length≤1000∧([32,9]:Str).all (fun b=>decide (b.toNat<128))=true)<|(if(zaX a0 ([32,9]:Str))<(0:Int)then none else(gd (0≤(zaX a0 ([32,9]:Str))∧(zaX a0 ([32,9]:Str))≤(a0.length:Int))<|((ako fu (zaW (zai (zaX a0 ([32,9]:Str))) a0)).bind fun(y8:(Int×UInt8))=>((akp fu a0 (zaX a0 ([32,9]:Str))).bind fun(a1:Int)=>(gd (0≤a1∧a1≤(a0.length:Int))<|some (y8.1,zaA (zai a1) a0,y8.2)))))))
def L_header_CSeq(fu:Nat)(a0:Str):Option (Int×Str×UInt8):=
 ((akb fu a0).bind fun(y1:Str)=>((ays fu y1).bind fun(y6:(Int×Str×UInt8))=>(if y6.2.2=(0:UInt8)then((ass fu y6.2.1).bind fun(a1:Bool)=>(bif (!a1)then none else some (y6.1,y6.2.1,(0:UInt8))))else none)))
def azy(fu:Nat):Option Bool:=
 ((axv fu ([67,65,76,76,45,105,100]:Str)).bind fun(y1:(Str×UInt8))=>((L_header_Tidy fu ([109]:Str) ([66,111,98,60,115,105,112,58,97,64,66,62,32,44,32,60,115,105,112,58,99,59,100,62]:Str)).bind fun(y6:(Str×UInt8))=>((L_header_Via fu ([115,105,112,47,50,46,48,47,117,100,112,32,104,58,53,48,54,48,59,98,114,97,110,99,104,61,122,57]:Str)).bind fun(a0:((Str×Str×Int×Str×LQ)×UInt8))=>((L_header_CSeq fu ([48,48,55,32,73,78,86,73,84,69]:Str)).bind fun(a1:(Int×Str×UInt8))=>(((if y1.2=(0:UInt8)then(if y1.1=([67,97,108,108,45,73,68]:Str)then(if y6.2=(0:UInt8)then(if y6.1=([34,66,111,98,34,32,60,115,105,112,58,97,64,98,62,44,32,60,115,105,112,58,99,59,100,62]:Str)then(if a0.2=(0:UInt8)then(if a0.1.1=([85,68,80]:Str)then(if a0.1.2.1=([104]:Str)then(if a0.1.2.2.1=(5060:Int)then(if a0.1.2.2.2.1=([122,57]:Str)then(if a1.1=(7:Int)then(if a1.2.1=([73,78,86,73,84,69]:Str)then some (decide (a1.2.2=(0:UInt8)))else some false)else some false)else some false)else some false)else some false)else some false)else some false)else some false)else some false)else some false)else some false)).bind fun(a2:Bool)=>some a2)))))
def aho(fu:Nat)(a0:Str)(a1:Str):Option Bool:=
 ((afp fu a0).bind fun(y1:(AQ×UInt8))=>((aim fu a0).bind fun(a2:(AQ×UInt8))=>((axl fu a0).bind fun(a3:(Str×UInt8))=>((azs fu a0).bind fun(a4:(Str×UInt8))=>((atx fu a0 a1).bind fun(a5:(Str×Bool))=>((avf fu a0 a1).bind fun(a6:(Str×Bool))=>((((aml fu y1.1 a2.1).bind fun(a7:Bool)=>(bif a7 then(if y1.2=a2.2 then(if a3.1=a4.1 then(if a3.2=a4.2 then((axm fu a0).bind fun(a8:Str)=>((azt fu a0).bind fun(a9:Str)=>(if a8=a9 then(if a5.1=a6.1 then(bif (a5.2==a6.2)then((azy fu).bind fun(b0:Bool)=>some b0)else some false)else some false)else some false)))else some false)else some false)else some false)else some false))).bind fun(b1:Bool)=>some b1)))))))
open List renaming mem_cons_self → zah
open Option renaming bind_some → zaa
def jmp:Nat→Option Code
 |0=>none
 |1=>some .ret
 |n+2=>some (.exit n)
def lst(j:Nat):LoopState:=if j=0 then .ready else .done
def aoi(l j:Nat)(rc:Loop):Res:=⟨some l,fun o=>o=some (.loop {rc with state:=lst j,pending:=jmp j})⟩
def lbusy(l:Nat)(rc:Loop):Res:=⟨some l,fun o=>∃pd,o=some (.loop {rc with state:=.busy,pending:=pd})⟩
def dfr(r:Nat):Res:=⟨some r,fun o=>o=some (.deferred (some []))⟩
def gone(r:Nat):Res:=⟨some r,fun _=>True⟩
theorem Hp.put{w0 w:World}{S:List Nat}{L:List Res}(h:Hp w0 S L w)(k b:Nat)(r r':Res)(o:Obj)(hk:L[k]? =some r)(hr:r.own=some b)(hr':r'.own=some b)(ho:r'.ok (some o)):Hp w0 S (L.set k r') (w.putObj b o):=by
 have hb:=((h.res _ (List.mem_of_getElem? hk)).2 b hr).1
 refine h.change k _ _ hk rfl rfl rfl (by simp) (fun j hj hne=>World.putObj_heap_other (fun e=>hne (by rw [hr,e]))) ?_ (fun c hc=> ?_)
 ·unfold Res.holds
  rw [hr']
  simp only [zaa]
  rw [World.putObj_heap_same hb];exact ho
 ·rw [hr']at hc
  cases hc
  exact⟨.inl hr,by simpa using hb⟩
theorem Hp.allocR{w0 w:World}{S:List Nat}{L:List Res}(h:Hp w0 S L w)(o:Obj)(r:Res)(ho:r.own=some w.heap.size)(hr:r.ok (some o)):Hp w0 S (r::L) (w.alloc o):=by
 have h2:Hp w [] [r] (w.alloc o):=by
  refine⟨rfl,rfl,rfl,by simp,fun k hk _=>RowKit.Below.heap_alloc w _ k hk,fun x hx=> ?_,by simp⟩
  simp at hx
  subst hx
  refine⟨?_,fun b hb=> ?_⟩
  ·unfold Res.holds
   rw [ho]
   show x.ok ((w.heap.push o)[w.heap.size]?)
   simpa using hr
  ·rw [ho]at hb
   cases hb
   simp
 exact h.callL h2
def YR(P:Program)(l:Nat)(args:List Value)(w:World)(R:Value→World→Prop):Prop:=
 ∃f tmps azq bd,(Instr.yield l args.toArray).run P w=.ok (.round l f tmps azq bd) w∧RoundIn Fence.wide 0 P l f tmps azq bd w (fun e w'=>∃v,e=.returned v∧R v w')
theorem YR.mono{P:Program}{l:Nat}{args:List Value}{w:World}{R R':Value→World→Prop}(h:YR P l args w R)(hr:∀v w',R v w'→R' v w'):YR P l args w R':=by
 obtain⟨f,tmps,azq,bd,h1,h2⟩:=h
 exact⟨f,tmps,azq,bd,h1,h2.mono fun e w' ⟨v,hv,hq⟩=>⟨v,hv,hr v w' hq⟩⟩
section
variable {P : Program} {ops : Array Oper} {Q : Exit → Act → World → Prop} {F : Nat → Value} {w w0 : World} {S : List Nat} {L : List Res}
variable {d : Nat} {ty : TypeId} {pos : String} {after : Array Edge} {rest : List Oper} {k : Nat} {D : List Deferred} {ro : Option Nat}
theorem w_yield{fo:Operand}{azq:Array Operand}{ats:Array TypeId}(l:Nat)(vs:List Value)(R:Value→World→Prop)
  (hf:evn ⟨k,D,some ro⟩ F fo=.func (.yield l) #[] #[]) (ha: #[]++azq.map (evn ⟨k,D,some ro⟩ F)++ #[]=vs.toArray) (hc:YR P l vs w R) (h:∀v w',R v w'→W P ⟨k,D,some ro⟩ ops Q rest (upd F d v) w'):
  W P ⟨k,D,some ro⟩ ops Q (⟨some d,.call ⟨.value fo,azq,ats⟩,ty,pos,after,none⟩::rest) F w:=by
 obtain⟨f,tmps,asg,bd,h1,h2⟩:=hc
 have hrun:(execOp (evn ⟨k,D,some ro⟩ F) (⟨some d,.call ⟨.value fo,azq,ats⟩,ty,pos,after,none⟩:Oper)).run P w=.ok (.round l f tmps asg bd) w:=by
  simp only [execOp,resolve,hf,Deferred.ofValue]
  show Sem.run P (Instr.yield l (#[]++azq.map (evn ⟨k,D,some ro⟩ F)++ #[])) w=_
  rw [ha];exact h1
 unfold W WR
 refine wpListIn_plain rfl fun K hK=>⟨fun _ _=>trivial, ?_⟩
 rw [ash,semAt_run _ hrun (fun d e=>by cases e),hrun,Oper.uponIn_round]
 refine⟨fun h=>absurd h Bool.false_ne_true, ?_⟩
 refine RoundIn.mono (F:=Fence.wide) (n:=0) h2 ?_
 rintro e w' ⟨v,rfl,hv⟩
 refine hK _ _ ?_
 have:=h v w' hv
 unfold W WR at this
 rw [←fr_put]at this
 exact this
theorem enterF{f:FuncId}{fn:Func}{c:Code}{args:List Value}{R:Value→World→Prop}(hf:P.funcs[f]? =some fn)(hb:fn.body=some c)(hn:fn.ntmps=k)(hl:args.length≤k)
  (h:C P ⟨k,[],some none⟩ (bodyPost P fn fun e w'=>∃v,e=.returned v∧R v w') c (argF args) w):CR P f args w R:=by
 refine(callsIn_wide (n:=0)).1 (callsIn_of_wp hf hb trivial ?_)
 rw [hn,fr_args args k hl]
 unfold C CC at h
 exact h
theorem enterM{f:FuncId}{fn:Func}{c:Code}{args:List Value}{R:Value→World→Prop}(hf:P.funcs[f]? =some fn)(hb:fn.body=some c)(hn:fn.ntmps=k)(hl:args.length≤k)
  (h:C P ⟨k,[],some none⟩ (bodyPostM Fence.wide 0 P fn fun e w'=>∃v,e=.returned v∧R v w') c (argF args) w):CR P f args w R:=by
 refine(callsIn_wide (n:=0)).1 (callsIn_of_wp_marks hf hb trivial ?_)
 rw [hn,fr_args args k hl]
 unfold C CC at h
 exact h
def mark(r:Nat):Deferred:={target:=.collected r,args:= #[]}
theorem m_res0{fn:Func}{R:Value→World→Prop}(h:∃v,(results fn (fr ⟨k,[],none⟩ F).tmps).run P w=.ok v w∧R v w):
  bodyPostM Fence.wide 0 P fn (fun e w'=>∃v,e=.returned v∧R v w') .ret (fr ⟨k,[],some none⟩ F) w:=by
 obtain⟨v,h1,h2⟩:=h
 exact⟨v,h1,v,rfl,h2⟩
theorem m_res1{fn:Func}{R:Value→World→Prop}(hH:Hp w0 S L w)(kd r:Nat)(hk:L[kd]? =some (dfr r))(h:∀w',Hp w0 S (L.set kd (gone r)) w'→∃v,(results fn (fr ⟨k,[],none⟩ F).tmps).run P w'=.ok v w'∧R v w'):
  bodyPostM Fence.wide 0 P fn (fun e w'=>∃v,e=.returned v∧R v w') .ret (fr ⟨k,[mark r],some none⟩ F) w:=by
 have hb:w.heap[r]? =some (.deferred (some [])):=(hH.res _ (List.mem_of_getElem? hk)).1
 obtain⟨v,h1,h2⟩:=h _ (hH.put kd r (dfr r) (gone r) (.deferred none) hk rfl rfl trivial)
 exact⟨by simp,.inl ⟨r,_,rfl,run_takeDeferred hb,v,h1,v,rfl,h2⟩⟩
theorem res_fin{kk:Nat}{fn:Func}{R:Value→World→Prop}(l:List ResultVar)(vs:List Value)(v:Value)(hr:fn.results=l.toArray)(hl:l.length=vs.length)
  (hv:∀(i:Nat) (x:ResultVar) (v:Value),l[i]? =some x→vs[i]? =some v→ROk P kk F w x v) (hone:(match vs with|[u]=>u|us=>.tuple us.toArray)=v) (h:R v w):
  ∃v,(results fn (fr ⟨kk,[],none⟩ F).tmps).run P w=.ok v w∧R v w:=⟨v,results_run l vs hr hl hv v (by cases vs with|nil=>exact hone|cons a azq=>cases azq<;>exact hone),h⟩
theorem m_fin0{fn:Func}{R:Value→World→Prop}(l:List ResultVar)(vs:List Value)(v:Value)(hr:fn.results=l.toArray)(hl:l.length=vs.length)
  (hv:∀(i:Nat) (x:ResultVar) (v:Value),l[i]? =some x→vs[i]? =some v→ROk P k F w x v) (hone:(match vs with|[u]=>u|us=>.tuple us.toArray)=v) (h:R v w):
  bodyPostM Fence.wide 0 P fn (fun e w'=>∃v,e=.returned v∧R v w') .ret (fr ⟨k,[],some none⟩ F) w:=
 m_res0 (res_fin l vs v hr hl hv (by cases vs with|nil=>exact hone|cons a azq=>cases azq<;>exact hone) h)
theorem m_fin1{fn:Func}{R:Value→World→Prop}(hH:Hp w0 S L w)(kd r:Nat)(hk:L[kd]? =some (dfr r))(l:List ResultVar)(vs:List Value)(v:Value)(hr:fn.results=l.toArray)(hl:l.length=vs.length)
  (hv:∀w',Hp w0 S (L.set kd (gone r)) w'→∀(i:Nat) (x:ResultVar) (v:Value),l[i]? =some x→vs[i]? =some v→ROk P k F w' x v) (hone:(match vs with|[u]=>u|us=>.tuple us.toArray)=v) (h:∀w',Hp w0 S (L.set kd (gone r)) w'→R v w'):
  bodyPostM Fence.wide 0 P fn (fun e w'=>∃v,e=.returned v∧R v w') .ret (fr ⟨k,[mark r],some none⟩ F) w:=
 m_res1 hH kd r hk fun w' hw=>res_fin l vs v hr hl (hv w' hw) (by cases vs with|nil=>exact hone|cons a azq=>cases azq<;>exact hone) (h w' hw)
def RgQ(P:Program)(k r:Nat)(Q:Exit→Act→World→Prop)(F:Nat→Value)(j:Nat)(w:World):Prop:=
 match jmp j with
 |none=>Q .normal (fr ⟨k,[mark r],some none⟩ F) w
 |some c=>C P ⟨k,[mark r],some none⟩ Q c F w
theorem rg0{r j:Nat}(hj:j=0)(h:Q .normal (fr ⟨k,[mark r],some none⟩ F) w):RgQ P k r Q F j w:=by subst hj;exact h
theorem rg1{r j:Nat}(hj:j=1)(h:C P ⟨k,[mark r],some none⟩ Q .ret F w):RgQ P k r Q F j w:=by subst hj;exact h
theorem c_rangeFunc{g:Operand}{ps:Array Tmp}{assign body:Code}(hH:Hp w0 S L w)(f:Nat)(cap:List Value)(hg:evn ⟨k,[],some none⟩ F g=.func (.func f) #[] cap.toArray)(hE:Enters P f)
  (h:∀(r l:Nat) (rc:Loop) (w2:World),rc.assign=assign→rc.body=body→rc.params=ps→rc.tmps=(fr ⟨k,[],some none⟩ F).tmps→Hp w0 S (aoi l 0 rc::dfr r::L) w2→
   CR P f (.func (.yield l) #[] #[]::cap) w2 fun _ w3=>∃j L3,Hp w0 S (aoi l j rc::L3) w3∧∀w4,Hp w0 S L3 w4→RgQ P k r Q F j w4):
  C P ⟨k,[],some none⟩ Q (.rangeFunc g ps assign body) F w:=by
 unfold C CC
 refine wpIn_rangeFunc fun fn _=> ?_
 have hH1:=hH.allocR (.deferred (some [])) (dfr w.heap.size) rfl rfl
 have hH2:=hH1.allocR (.loop {state:=.ready,pending:=none,fn:=fn,tmps:=(fr ⟨k,[],some none⟩ F).tmps,params:=ps,assign:=assign,body:=body,defers:=w.heap.size}) (aoi (w.heap.size+1) 0 {state:=.ready,pending:=none,fn:=fn,tmps:=(fr ⟨k,[],some none⟩ F).tmps,params:=ps,assign:=assign,body:=body,defers:=w.heap.size}) (by simp [aoi]) rfl
 have hc:=h w.heap.size (w.heap.size+1) _ _ rfl rfl rfl rfl hH2
 refine⟨w.heap.size+1,[mark w.heap.size],((w.alloc (.deferred (some []))).alloc (.loop {state:=.ready,pending:=none,fn:=fn,tmps:=(fr ⟨k,[],some none⟩ F).tmps,params:=ps,assign:=assign,body:=body,defers:=w.heap.size})),{target:=.fn (.func f) cap.toArray,args:= #[]++ #[.func (.yield (w.heap.size+1)) #[] #[]]},((w.alloc (.deferred (some []))).alloc (.loop {state:=.ready,pending:=none,fn:=fn,tmps:=(fr ⟨k,[],some none⟩ F).tmps,params:=ps,assign:=assign,body:=body,defers:=w.heap.size})),f,(Value.func (.yield (w.heap.size+1)) #[] #[]::cap).toArray,((w.alloc (.deferred (some []))).alloc (.loop {state:=.ready,pending:=none,fn:=fn,tmps:=(fr ⟨k,[],some none⟩ F).tmps,params:=ps,assign:=assign,body:=body,defers:=w.heap.size})),run_enterLoop_outer fn _ _ _ _, ?_,fun _ _=>trivial, ?_,fun h=>absurd h Bool.false_ne_true, ?_⟩
 ·rw [ash]
  simp only [resolve,rangeCall,hg,Deferred.ofValue]
  simp
  rfl
 ·have e:(#[]++ #[Value.func (.yield (w.heap.size+1)) #[] #[]]:Array Value)++cap.toArray=(Value.func (.yield (w.heap.size+1)) #[] #[]::cap).toArray:=by simp
  rw [←e]
  exact hE.run _ _
 ·refine(callsIn_wide (n:=0)).2 (Calls.mono hc ?_)
  rintro e w3 ⟨v,rfl,j,L3,h3,h4⟩
  have hl:w3.heap[w.heap.size+1]? =_:=(h3.res _ (zah)).1
  have hb:lst j≠.busy:=by unfold lst;split<;>simp
  refine⟨jmp j,_,run_endLoop hl hb, ?_⟩
  have h5:=(h3.put 0 (w.heap.size+1) _ (gone (w.heap.size+1)) (.loop {({state:=.ready,pending:=none,fn:=fn,tmps:=(fr ⟨k,[],some none⟩ F).tmps,params:=ps,assign:=assign,body:=body,defers:=w.heap.size}:Loop)with state:=.exhausted,pending:=jmp j}) rfl rfl rfl trivial).tail
  have h6:=h4 _ h5
  unfold RgQ at h6
  revert h6
  generalize jmp j=pd
  intro h6
  cases pd with
  |none=>exact h6
  |some c=>unfold C CC at h6;exact h6
def updL(F:Nat→Value):List Nat→List Value→Nat→Value
 |p::ps,v::vs=>updL (upd F p v) ps vs
 |_,_=>F
theorem updL_tmps(m:Md):∀(ps:List Nat) (vs:List Value) (F:Nat→Value),(ps.zip vs).foldl (fun t (x:Nat×Value)=>t.setIfInBounds x.1 x.2) (fr m F).tmps=(fr m (updL F ps vs)).tmps
 |[],_,F=>by simp [updL]
 |_::_,[],F=>by simp [updL]
 |p::ps,v::vs,F=>by
  simp only [List.zip_cons_cons,List.foldl_cons,updL]
  rw [←updL_tmps m ps vs (upd F p v)]
  congr 1
  have:=fr_put m F p v
  unfold Act.put at this
  exact congrArg Act.tmps this
def AsgQ(P:Program)(l:Nat)(bd:Code)(R:Value→World→Prop):Exit→Act→World→Prop:=
 Exit.then (fun a1 w1=>∃w2,(Instr.beginRound l).run P w1=.ok () w2∧bd.wpIn (fen (some l)) 0 P (roundPost P l fun e w'=>∃v,e=.returned v∧R v w') a1 w2) (fun _ _ _=>False)
def RndQ(P:Program)(l:Nat)(R:Value→World→Prop):Exit→Act→World→Prop:=roundPost P l fun e w'=>∃v,e=.returned v∧R v w'
theorem yr_intro{l:Nat}{rc:Loop}{R:Value→World→Prop}{ps:List Nat}{vs:List Value}{m:Option (Option Nat)}{asg bd:Code}(hH:Hp w0 S L w)(kl:Nat)(hk:L[kl]? =some (aoi l 0 rc))(ha:rc.assign=asg)(hb:rc.body=bd)(hp:rc.params=ps.toArray)(ht:rc.tmps=(fr ⟨k,[],m⟩ F).tmps)(hl:ps.length=vs.length)
  (h:C P ⟨k,[],some (some l)⟩ (AsgQ P l bd R) asg (updL F ps vs) w):YR P l vs w R:=by
 have hr:w.heap[l]? =some (.loop {rc with state:=lst 0,pending:=jmp 0}):=(hH.res _ (List.mem_of_getElem? hk)).1
 subst ha
 subst hb
 refine⟨rc.fn,_,rc.assign,rc.body,run_yield (r:={rc with state:=lst 0,pending:=jmp 0}) hr (by simp [hp,hl]), ?_⟩
 refine roundIn_of_wpIn trivial ?_
 have e:(({rc with state:=lst 0,pending:=jmp 0}:Loop).params.zip vs.toArray).foldl (fun tmps (x:Nat×Value)=>tmps.setIfInBounds x.1 x.2) ({rc with state:=lst 0,pending:=jmp 0}:Loop).tmps=(fr ⟨k,[],some (some l)⟩ (updL F ps vs)).tmps:=by
  show((rc.params.zip vs.toArray).foldl _ rc.tmps)=_
  rw [hp,ht]
  have:=updL_tmps ⟨k,[],m⟩ ps vs F
  rw [show(fr ⟨k,[],some (some l)⟩ (updL F ps vs)).tmps=(fr ⟨k,[],m⟩ (updL F ps vs)).tmps from rfl,←this]
  simp
 unfold C CC at h
 have e2:fr ⟨k,[],some (some l)⟩ (updL F ps vs)={tmps:=(fr ⟨k,[],some (some l)⟩ (updL F ps vs)).tmps,defers:=[]}:=rfl
 rw [e2,←e]at h
 exact h
theorem asg_next{l:Nat}{rc:Loop}{R:Value→World→Prop}{bd:Code}(hH:Hp w0 S L w)(kl:Nat)(hk:L[kl]? =some (aoi l 0 rc))(h:∀w2,Hp w0 S (L.set kl (lbusy l rc)) w2→C P ⟨k,[],some (some l)⟩ (RndQ P l R) bd F w2):
  AsgQ P l bd R .normal (fr ⟨k,[],some (some l)⟩ F) w:=by
 have hr:w.heap[l]? =some (.loop {rc with state:=lst 0,pending:=jmp 0}):=(hH.res _ (List.mem_of_getElem? hk)).1
 have h2:=h _ (hH.put kl l (aoi l 0 rc) (lbusy l rc) (.loop {rc with state:=.busy,pending:=jmp 0}) hk rfl rfl ⟨_,rfl⟩)
 unfold C CC RndQ at h2
 exact⟨_,run_beginRound hr rfl,h2⟩
theorem rnd_end{l:Nat}{rc:Loop}{R:Value→World→Prop}(j:Nat)(hH:Hp w0 S L w)(kl:Nat)(hk:L[kl]? =some (lbusy l rc))(h:∀w',Hp w0 S (L.set kl (aoi l j rc)) w'→R (.bool (decide (j=0))) w'):
  ∃v w',(Instr.endRound l (jmp j)).run P w=.ok v w'∧∃u,Ending.returned v=.returned u∧R u w':=by
 obtain⟨pd,hr⟩:=(hH.res _ (List.mem_of_getElem? hk)).1
 have hr':w.heap[l]? =some (.loop {rc with state:=.busy,pending:=pd}):=hr
 have e1:(jmp j).isNone=decide (j=0):=by
  cases j with
  |zero=>rfl
  |succ n=>cases n<;>rfl
 have e2:(if(jmp j).isNone=true then LoopState.ready else .done)=lst j:=by
  rw [e1];unfold lst;simp
 refine⟨_,_,run_endRound (jmp j) hr',_,rfl, ?_⟩
 rw [e1]
 refine h _ ?_
 have h3:=hH.put kl l (lbusy l rc) (aoi l j rc) (.loop {rc with state:=lst j,pending:=jmp j}) hk rfl rfl rfl
 rw [←e1,e2]
 exact h3
theorem rnd_normal{l:Nat}{rc:Loop}{R:Value→World→Prop}(hH:Hp w0 S L w)(kl:Nat)(hk:L[kl]? =some (lbusy l rc))(h:∀w',Hp w0 S (L.set kl (aoi l 0 rc)) w'→R (.bool true) w'):RndQ P l R .normal (fr ⟨k,[],some (some l)⟩ F) w:=rnd_end 0 hH kl hk h
theorem rnd_ret{l:Nat}{rc:Loop}{R:Value→World→Prop}(hH:Hp w0 S L w)(kl:Nat)(hk:L[kl]? =some (lbusy l rc))(h:∀w',Hp w0 S (L.set kl (aoi l 1 rc)) w'→R (.bool false) w'):RndQ P l R .ret (fr ⟨k,[],some (some l)⟩ F) w:=rnd_end 1 hH kl hk h
end
attribute [irreducible] RgQ AsgQ RndQ
open Go.Lib
open Go.Value renaming ownBlock → zaQ
open List renaming eq_nil_of_length_eq_zero → zao, flatMap_append → zbp, length_append → zab, map_cons → zaE
open Nat renaming beq → zau, le_refl → zam, zero_add → zba, zero_le → zak
theorem strCells_eq(l:Str):strCells (⟨l.toArray⟩:ByteArray)=l.flatMap eB:=by
 rw [flat_eB]
 simp [strCells,bt]
section
variable {P : Program} {n : Md} {ops : Array Oper} {Q : Exit → Act → World → Prop} {F : Nat → Value} {w w0 : World} {S : List Nat} {L : List Res}
variable {d : Nat} {ty : TypeId} {pos : String} {after : Array Edge} {rest : List Oper}
theorem run_appS{a:Option Addr}{m cap e:Nat}{xs:List Value}(t u:TypeId)(ht:P.underlying t=some (.slice e))(hu:P.underlying u=some .string)(hT:TI P e 1 1)(hz:(P.info? e).bind (·.zero)=some (.int .u8 0))(hown:w.ownsRow 0 e 1 (.slice a m cap) m xs)(l:Str)
  (hb:m+l.length≤140737488355328):
  ∃a' cap' w',(Builtin.append_ #[t,u] ty #[.slice a m cap,str l]).run P w=.ok (.slice a' (m+l.length) cap') w'∧w'.ownsRow 0 e 1 (.slice a' (m+l.length) cap') (m+l.length) (xs++l.flatMap eB)∧
   w.grownBy w' (Value.slice a m cap).ownBlock∧∀p,a'=some p→(∃q,a=some q∧q.block=p.block)∨w.heap.size≤p.block:=by
 obtain⟨i,z,hi,hz0,hs,hby,hzs⟩:=hT.parts
 have hz1:i.zero=some (.int .u8 0):=by rw [hi]at hz;simpa using hz
 have hm:m+l.length≤maxLen:=by unfold maxLen;omega
 obtain⟨v',w',hr,ho,hg,hnil⟩:=run_append_own_string (P:=P) w 0 t u ty e i ht hu hi hz1 hs hby (.slice a m cap) m xs hown ⟨l.toArray⟩ (by show m+l.length≤_;exact hm) (by show m+l.length≤_;exact hb) (zak _)
 rw [strCells_eq]at ho
 have hsz:(⟨l.toArray⟩:ByteArray).size=l.length:=rfl
 have hv':∃a' cap',v'=.slice a' (m+l.length) cap'∧∀p,a'=some p→(∃q,a=some q∧q.block=p.block)∨w.heap.size≤p.block:=by
  have hxl:xs.length=m:=by simpa using hown.1
  rcases hown.2 with⟨hv,hm0⟩|⟨g,c,cur,hv,_,hgb,hc,_,hcs,_⟩
  ·simp only [Value.slice.injEq]at hv
   obtain⟨rfl,rfl,rfl⟩:=hv
   by_cases h0:l.length=0
   ·have:=hnil.2 ⟨rfl,by rw [hsz];exact h0⟩
    exact⟨none,0,by rw [this,h0],fun p hp=>by cases hp⟩
   ·have:=run_append_nil_string (P:=P) w t u ty e i (.int .u8 0) ht hu hi hz1 ⟨l.toArray⟩ (by omega) (by rw [hsz];omega) (by rw [hby,hsz];omega)
    rw [this]at hr
    simp only [Result.ok.injEq]at hr
    refine⟨_,_,by rw [←hr.1,zba,hsz],fun p hp=>.inr ?_⟩
    simp at hp
    subst hp
    simp
  ·simp only [Value.slice.injEq]at hv
   obtain⟨rfl,-,rfl⟩:=hv
   by_cases hroom:m+l.length≤cap
   ·have:=run_append_room_string (P:=P) w t u ty e i ht hu hi hs g m cap cur hgb ⟨l.toArray⟩ hroom (by rw [hsz];simp at hcs;omega)
    rw [this]at hr
    simp only [Result.ok.injEq]at hr
    refine⟨_,_,by rw [←hr.1,hsz],fun p hp=>.inl ?_⟩
    simp at hp
    subst hp
    exact⟨_,rfl,rfl⟩
   ·have holds:∀j u,xs[j]? =some u→w.cell? ((⟨g,0,none⟩:Addr).add j)=some u:=hown.cells (g:=g) rfl
    have:=run_append_grow_string (P:=P) w t u ty e i (.int .u8 0) ht hu hi hz1 ⟨g,0,none⟩ m cap xs (by rw [hs];simpa using hxl) holds ⟨l.toArray⟩ (by rw [hsz];omega) (by rw [hsz];omega) (by rw [hby,hsz];exact growslice_fits (by omega) (by omega))
    rw [this]at hr
    simp only [Result.ok.injEq]at hr
    refine⟨_,_,by rw [←hr.1,hsz],fun p hp=>.inr ?_⟩
    simp at hp
    subst hp
    simp
 obtain⟨a',cap',rfl,hn⟩:=hv'
 exact⟨a',cap',w',hr,ho,hg,hn⟩
theorem w_appS{x y:Operand}{t u:TypeId}(hH:Hp w0 S L w)(k:Nat)(o:Option Nat)(a:Option Addr)(cap e:Nat)(l l2:Str)(hk:L[k]? =some (rwt eB e 1 o a cap l))(ht:P.underlying t=some (.slice e))(hu:P.underlying u=some .string)(hT:TI P e 1 1)(hz:(P.info? e).bind (·.zero)=some (.int .u8 0))
  (hx:evn n F x=.slice a l.length cap) (hy:evn n F y=str l2) (hb:(l.length+l2.length)*1≤140737488355328)
  (h:∀o' a' cap' w',Hp w0 S (L.set k (rwt eB e 1 o' a' cap' (l++l2))) w'→W P n ops Q rest (upd F d (.slice a' (l++l2).length cap')) w'):
  W P n ops Q (⟨some d,.call ⟨.builtin .append, #[x,y], #[t,u]⟩,ty,pos,after,none⟩::rest) F w:=by
 have hlt:k<L.length:=(List.getElem?_eq_some_iff.1 hk).1
 have fin:∀a0:Option Addr,Hp w0 S (L.set k (row (.slice a0 l.length cap) e 1 l.length (l.flatMap eB))) w→∃a' cap' w',(Builtin.append_ #[t,u] ty #[.slice a0 l.length cap,str l2]).run P w=.ok (.slice a' (l++l2).length cap') w'∧∃o',Hp w0 S (L.set k (rwt eB e 1 o' a' cap' (l++l2))) w':=by
  intro a0 hrow
  obtain⟨a',cap',w',hr,ho,hg,hn⟩:=run_appS (P:=P) (ty:=ty) t u ht hu hT hz (hrow.ownsRow (k:=k) (List.getElem?_set_self hlt)) l2 (by omega)
  have h2:=hrow.grown (k:=k) (List.getElem?_set_self hlt) hg ho hn
  rw [ajk,←zab,←zbp]at h2
  obtain⟨o',h3⟩:=h2.rowrw k (List.getElem?_set_self hlt)
  rw [ajk]at h3
  rw [←zab]at hr
  exact⟨a',cap',w',hr,o',h3⟩
 have go:∀a' cap' w',(Builtin.append_ #[t,u] ty #[.slice a l.length cap,str l2]).run P w=.ok (.slice a' (l++l2).length cap') w'→(∃o',Hp w0 S (L.set k (rwt eB e 1 o' a' cap' (l++l2))) w')→
   W P n ops Q (⟨some d,.call ⟨.builtin .append, #[x,y], #[t,u]⟩,ty,pos,after,none⟩::rest) F w:=by
  rintro a' cap' w' hr ⟨o',h3⟩
  refine aht (w':=w') rfl rfl ?_ (h o' a' cap' w' h3)
  simp only [execOp,resolve,invoke,builtin,List.map_toArray,zaE,List.map_nil,hx,hy,Sem.run_bind,Sem.run_pure,Result.andThen_ok,hr]
 cases o with
 |some g=>
  obtain⟨a',cap',w',hr,h3⟩:=fin a (hH.rwrow enc_B k hk).2
  exact go a' cap' w' hr h3
 |none=>
  obtain⟨h1,_⟩:=hH.res _ (List.mem_of_getElem? hk)
  have h1':l=[]∧cap=0:=by
   rcases h1 with⟨_,h2,h3,_⟩|⟨g,cur,h2,_⟩
   ·exact⟨h2,h3⟩
   ·cases h2
  obtain⟨rfl,rfl⟩:=h1'
  have hnil:Hp w0 S (L.set k (row (.slice none 0 0) e 1 0 [])) w:=hH.change k _ _ hk rfl rfl rfl (zam _) (fun _ _ _=>rfl) ⟨by simp,.inl ⟨rfl,rfl⟩⟩ (fun b hb=>by simp [row,zaQ]at hb)
  obtain⟨a',cap',w',hr,h3⟩:=fin none hnil
  cases a with
  |none=>exact go a' cap' w' hr h3
  |some p=>
   obtain⟨i,z,hi,hz0,hs,hby,hzs⟩:=hT.parts
   have hz1:i.zero=some (.int .u8 0):=by rw [hi]at hz;simpa using hz
   have hsz:(⟨l2.toArray⟩:ByteArray).size=l2.length:=rfl
   by_cases hm:l2.length=0
   ·have h0:l2=[]:=zao hm
    subst h0
    have hf:=run_firstCells_string (P:=P) w 1 ⟨#[]⟩
    have hf':(Builtin.firstCells 1 0 (.string ⟨#[]⟩)).run P w=.ok #[] w:=hf
    refine go (some p) 0 w ?_ ⟨none, ?_⟩
    ·show(Builtin.append_ #[t,u] ty #[.slice (some p) 0 0,.string ⟨#[]⟩]).run P w=.ok (.slice (some p) 0 0) w
     have h0:(⟨#[]⟩:ByteArray).size=0:=rfl
     simp [Builtin.append_,run_underlying ht,run_underlying hu,sizeOf,typeInfo,hi,hs,Builtin.lenOf,storeCells,h0,hf']
    ·have e:L.set k (rwt eB e 1 none (some p) 0 ([]++[]))=L:=by
      apply List.ext_getElem?
      intro j
      by_cases hjk:j=k
      ·subst hjk
       rw [List.getElem?_set_self hlt,hk];rfl
      ·rw [List.getElem?_set_ne (fun e=>hjk e.symm)]
     rw [e];exact hH
   ·refine go a' cap' w' ?_ h3
    rw [←hr]
    have h5:=run_append_grow_string (P:=P) w t u ty e i (.int .u8 0) ht hu hi hz1 p 0 0 [] (by simp) (fun j u hu=>by simp at hu) ⟨l2.toArray⟩ (by rw [hsz];omega) (by rw [hsz];simp at hb;omega) (by rw [hby,hsz];exact growslice_fits (by omega) (by simp at hb;omega))
    have h6:=run_append_nil_string (P:=P) w t u ty e i (.int .u8 0) ht hu hi hz1 ⟨l2.toArray⟩ (by rw [hsz];omega) (by rw [hsz];simp at hb;omega) (by rw [hby,hsz];simp at hb;omega)
    show(Builtin.append_ #[t,u] ty #[.slice (some p) 0 0,.string ⟨l2.toArray⟩]).run P w=(Builtin.append_ #[t,u] ty #[.slice none 0 0,.string ⟨l2.toArray⟩]).run P w
    rw [h5,h6]
    simp [hsz,strCells]
theorem x_pnil{x y:Operand}{t t' e:TypeId}(p:Option Addr)(ht:P.underlying t=some (.pointer e))(hx:evn n F x=.pointer p)(hy:evn n F y=.pointer none):(execOp (evn n F) (⟨some d,.binOp .eql t x y t',ty,pos,after,none⟩:Oper)).run P w=.ok (.value (.bool p.isNone)) w:=by
 have he:P.pointee t=e:=by simp [Program.pointee,ht]
 have e1:=run_equal_pointer_nil (P:=P) w t p (by rw [he];exact ht)
 have e2:(binOp .eql t (.pointer p) (.pointer none)).run P w=.ok (.bool p.isNone) w:=by simp only [binOp];simp [e1]
 simp [execOp,hx,hy,eqGuard,e2]
theorem w_pnil{x y:Operand}{t t' e:TypeId}(p:Option Addr)(ht:P.underlying t=some (.pointer e))(hx:evn n F x=.pointer p)(hy:evn n F y=.pointer none)(h:W P n ops Q rest (upd F d (.bool p.isNone)) w):W P n ops Q (⟨some d,.binOp .eql t x y t',ty,pos,after,none⟩::rest) F w:=aht rfl rfl (x_pnil p ht hx hy) h
theorem w_pself{x y:Operand}{t t' e:TypeId}(a:Addr)(ht:P.underlying t=some (.pointer e))(hi:(P.info? e).isSome=true)(hx:evn n F x=.pointer (some a))(hy:evn n F y=.pointer (some a))(h:W P n ops Q rest (upd F d (.bool false)) w):W P n ops Q (⟨some d,.binOp .neq t x y t',ty,pos,after,none⟩::rest) F w:=by
 obtain⟨j,hj⟩:=Option.isSome_iff_exists.1 hi
 have e2:=run_neq_ptr_same (P:=P) w a ht hj
 refine aht (v:=.bool false) (w':=w) rfl rfl ?_ h
 simp [execOp,hx,hy,eqGuard,e2]
theorem w_toUns{x:Operand}{s t u:TypeId}(hH:Hp w0 S L w)(k b off e:Nat)(cs:List Value)(hk:L[k]? =some (blk b cs e))(hs:P.underlying s=some (.pointer u))(ht:P.underlying t=some .unsafePointer)(hi:((P.info? u).map (fun i=>zau i.size 0))=some false)(ho:off<cs.length)(hx:evn n F x=.pointer (some ⟨b,off,none⟩))
  (h:W P n ops Q rest (upd F d (.pointer (some ⟨b,off,none⟩))) w):W P n ops Q (⟨some d,.convert s t x,ty,pos,after,none⟩::rest) F w:=by
 obtain⟨j,hj,hj2⟩:=Option.map_eq_some_iff.1 hi
 have hj0:j.size≠0:=fun e0=>by rw [e0]at hj2;cases hj2
 have hb:=hH.blkAt k hk
 have hsh:w.shape? b=some (e,cs.length):=by simp [World.shape?,hb]
 have e1:=run_to_unsafe (P:=P) w ⟨b,off,none⟩ hs ht hj hj0 hsh ho
 refine aht (w':=w) rfl rfl ?_ h
 simp [execOp,hx,e1]
theorem w_ofUns{x:Operand}{s t u:TypeId}(hH:Hp w0 S L w)(k b off e:Nat)(cs:List Value)(hk:L[k]? =some (blk b cs e))(hs:P.underlying s=some .unsafePointer)(ht:P.underlying t=some (.pointer u))(hi:(P.info? u).isSome=true)(hl:liesAt P P.depth e (cs.length/P.cellsOf e) off u 1=true)(hx:evn n F x=.pointer (some ⟨b,off,none⟩))
  (h:W P n ops Q rest (upd F d (.pointer (some ⟨b,off,none⟩))) w):W P n ops Q (⟨some d,.convert s t x,ty,pos,after,none⟩::rest) F w:=by
 obtain⟨j,hj⟩:=Option.isSome_iff_exists.1 hi
 have hb:=hH.blkAt k hk
 have hsh:w.shape? b=some (e,cs.length):=by simp [World.shape?,hb]
 have e1:=run_from_unsafe (P:=P) w ⟨b,off,none⟩ hs ht hj hsh hl
 refine aht (w':=w) rfl rfl ?_ h
 simp [execOp,hx,e1]
theorem w_noEsc{fo : Operand}{azq : Array Operand}{ats : Array TypeId}{fn : Func}(hH : Hp w0 S L w)(f : FuncId)(v : Value)(hf : evn n F fo = .func (.func f) #[] #[])(ha : #[] ++ azq.map (evn n F) ++ #[] = #[v])(h1 : P.funcs[f]? = some fn)(h2 : (fn.name == "runtime.NumGoroutine") = false)(h3 : fn.body.isNone = true)(h4 : Extern.findNext fn = none)(h5 : Extern.find fn = some Extern.AbiNoEscape.same)
  (h:∀w',Hp w0 S L w'→W P n ops Q rest (upd F d v) w'):W P n ops Q (⟨some d,.call ⟨.value fo,azq,ats⟩,ty,pos,after,none⟩::rest) F w:=by
 have e1:=run_callFunc_extern (P:=P) h1 h2 h3 h4 (e:=Extern.AbiNoEscape.same) h5 (args:= #[v]) (w:=w)
 rw [run_noEscape]at e1
 refine aht (v:=v) (w':=w) rfl rfl ?_ (h w hH)
 simp only [execOp,resolve,hf,Deferred.ofValue]
 show Sem.run P (callFunc f (#[]++azq.map (evn n F)++ #[])) w=_
 rw [ha,e1]
 rfl
end
open Bool renaming and_eq_true → zas
open Go.Op renaming bytesLess → zaL
open Nat renaming blt → zbf, lt_succ_self → zbc
open Option renaming map_some → zaP
def sval{α:Type}(P:Program):Sem α→Option α
 |.pure a=>some a
 |.program k=>sval P (k P)
 |.mark _ k=>sval P k
 |_=>none
theorem sval_run{α:Type}{P:Program}:∀{s:Sem α} {a:α},sval P s=some a→∀w,s.run P w=.ok a w:=by
 intro s
 induction s with
 |pure a=>intro b h w;simp only [sval,Option.some.injEq]at h;subst h;rfl
 |program k ih=>intro b h w;exact ih P h w
 |mark m k ih=>intro b h w;exact ih h w
 |_=>intro b h;simp [sval]at h
def pbin(b:BinOp)(x y:Value):Option Value:=
 match x,y with
 |.string s,.string t=>
  match b with
  |.eql=>some (.bool (decide (s.data.toList=t.data.toList)))
  |.neq=>some (.bool (!decide (s.data.toList=t.data.toList)))
  |.lss=>some (.bool (zaL s.data.toList t.data.toList))
  |.gtr=>some (.bool (!(zaL s.data.toList t.data.toList||s.data.toList==t.data.toList)))
  |_=>none
 |.int k a,.int k' c=>
  if k=k' then
   match b with
   |.lss=>some (.bool (decide (a<c)))
   |.leq=>some (.bool (decide (a≤c)))
   |.gtr=>some (.bool (decide (c<a)))
   |.geq=>some (.bool (decide (c≤a)))
   |.eql=>some (.bool (decide (a=c)))
   |.neq=>some (.bool (!decide (a=c)))
   |_=>none
  else none
 |_,_=>none
def isLen:Callee→Bool
 |.builtin .len=>true
 |_=>false
def plen(P:Program)(n:Md)(F:Nat→Value)(c:Call):Option Value:=
 bif isLen c.callee then
  match c.args.toList with
  |[x]=>match c.argTypes.toList with
   |[t]=>match P.underlying t with
    |some .string=>match evn n F x with|.string s=>some (.int .i64 (s.data.toList.length:Int))|_=>none
    |some (.slice _)=>match evn n F x with|.slice _ m _=>some (.int .i64 (m:Int))|_=>none
    |_=>none
   |_=>none
  |_=>none
 else none
def pval(P:Program)(n:Md)(F:Nat→Value)(o:Oper):Option Value:=
 match o.op with
 |.move x=>some (evn n F x)
 |.assign x=>some (evn n F x)
 |.pick c a b=>match evn n F c with|.bool t=>some (bif t then evn n F a else evn n F b)|_=>none
 |.unOp .not _ x=>match evn n F x with|.bool b=>some (.bool (!b))|_=>none
 |.extract x i=>match evn n F x with|.tuple vs=>vs[i]? |_=>none
 |.binOp b _ x y _=>pbin b (evn n F x) (evn n F y)
 |.call c=>plen P n F c
 |_=>match sval P (execOp (evn n F) o)with|some (.value v)=>some v|_=>none
section
variable {P : Program} {n : Md} {ops : Array Oper} {Q : Exit → Act → World → Prop} {F : Nat → Value} {w : World}
theorem ex_eq(ρ : Operand → Value)(dst : Option Nat)(op : Op)(ty : TypeId)(pos : String)(after : Array Edge)(g : Option (Nat × Bool)) : execOp ρ ⟨dst, op, ty, pos, after, g⟩ = execOp ρ ⟨some 0, op, ty, "", #[], none⟩ := rfl
theorem pbin_run{b:BinOp}{t t':TypeId}{x y:Operand}{dst:Option Nat}{ty:TypeId}{pos:String}{after:Array Edge}{g:Option (Nat×Bool)}{v:Value}(h:pbin b (evn n F x) (evn n F y)=some v)(w:World):
  (execOp (evn n F) (⟨dst,.binOp b t x y t',ty,pos,after,g⟩:Oper)).run P w=.ok (.value v) w:=by
 rw [ex_eq]
 generalize hx:evn n F x=a at h
 generalize hy:evn n F y=c at h
 cases a with
 |string s=>
  cases c with
  |string t2=>
   have hx':evn n F x=str s.data.toList:=hx
   have hy':evn n F y=str t2.data.toList:=hy
   cases b<;>simp only [pbin,Option.some.injEq,reduceCtorEq]at h<;>subst h
   ·exact x_streq _ _ hx' hy'
   ·exact x_strne _ _ hx' hy'
   ·exact x_strlt _ _ hx' hy'
   ·exact x_strgt _ _ hx' hy'
  |_=>simp [pbin]at h
 |int k a=>
  cases c with
  |int k' c=>
   by_cases hk:k=k'
   ·subst hk
    cases b<;>simp only [pbin,if_true,Option.some.injEq,reduceCtorEq]at h<;>subst h
    ·exact x_eql k _ _ hx hy
    ·exact x_neq k _ _ hx hy
    ·exact x_lss k _ _ hx hy
    ·exact x_leq k _ _ hx hy
    ·exact x_gtr k _ _ hx hy
    ·exact x_geq k _ _ hx hy
   ·simp [pbin,hk]at h
  |_=>simp [pbin]at h
 |_=>simp [pbin]at h
theorem plen_run{c:Call}{dst:Option Nat}{ty:TypeId}{pos:String}{after:Array Edge}{g:Option (Nat×Bool)}{v:Value}(h:plen P n F c=some v)(w:World):
  (execOp (evn n F) (⟨dst,.call c,ty,pos,after,g⟩:Oper)).run P w=.ok (.value v) w:=by
 rw [ex_eq]
 obtain⟨cl,azq,ts⟩:=c
 unfold plen at h
 cases hl:isLen cl with
 |false=>rw [hl]at h;cases h
 |true=>
  obtain rfl:cl=.builtin .len:=by
   unfold isLen at hl
   split at hl
   ·rfl
   ·cases hl
  rw [hl]at h
  simp only [cond_true]at h
  obtain⟨azq⟩:=azq
  obtain⟨ts⟩:=ts
  match azq,ts,h with
  |[x],[t],h=>
   dsimp only at h
   split at h
   ·rename_i ht
    split at h
    ·rename_i s hx
     cases h
     exact x_len s.data.toList ht hx
    ·cases h
   ·rename_i e ht
    split at h
    ·rename_i a m c hx
     cases h
     exact x_lenS a m c e ht hx
    ·cases h
   ·cases h
  |[],_,h=>cases h
  |[_],[],h=>cases h
  |[_],_::_::_,h=>cases h
  |_::_::_,_,h=>cases h
theorem pval_run{o:Oper}{v:Value}(h:pval P n F o=some v)(w:World):(execOp (evn n F) o).run P w=.ok (.value v) w:=by
 obtain⟨dst,op,ty,pos,after,g⟩:=o
 unfold pval at h
 dsimp only at h
 split at h
 ·cases h;rfl
 ·cases h;rfl
 ·rename_i c a b
  rw [ex_eq]
  split at h
  ·rename_i t hc
   cases h
   exact x_pick t _ hc rfl
  ·cases h
 ·rw [ex_eq]
  split at h
  ·rename_i b hx
   cases h
   exact x_not b hx
  ·cases h
 ·rw [ex_eq]
  split at h
  ·rename_i vs hx
   exact x_extract vs v hx h
  ·cases h
 ·exact pbin_run h w
 ·exact plen_run h w
 ·split at h
  ·rename_i v' hs
   cases h
   exact sval_run hs w
  ·cases h
def gof(ops:Array Oper)(g:Nat):Option Nat:=(ops[g]?).bind (·.dst)
def pvl(P:Program)(n:Md)(ops:Array Oper)(F:Nat→Value)(o:Oper):Value:=
 match o.guard with
 |none=>(pval P n F o).getD undef
 |some (g,b)=>match gof ops g with
  |none=>undef
  |some dg=>match F dg with
   |.bool c=>bif c==b then(pval P n F o).getD undef else undef
   |_=>undef
def pput(P:Program)(n:Md)(ops:Array Oper)(F:Nat→Value)(o:Oper):Nat→Value:=
 match o.dst with
 |none=>F
 |some d=>upd F d (pvl P n ops F o)
def isUndef:Value→Bool
 |.tuple vs=>vs.toList.isEmpty
 |_=>false
theorem isUndef_eq{v:Value}(h:isUndef v=true):v=undef:=by
 unfold isUndef at h
 split at h
 ·rename_i vs
  obtain⟨l⟩:=vs
  cases l with
  |nil=>rfl
  |cons a l=>cases h
 ·cases h
def pok(P:Program)(n:Md)(ops:Array Oper)(F:Nat→Value)(o:Oper):Bool:=
 match o.dst with
 |none=>false
 |some d=>match o.guard with
  |none=>(pval P n F o).isSome
  |some (g,b)=>match gof ops g with
   |none=>false
   |some dg=>zbf dg n.n&&match F dg with
    |.bool c=>bif c==b then(pval P n F o).isSome else true
    |v=>isUndef v
def pF(P:Program)(n:Md)(ops:Array Oper):Nat→List Oper→(Nat→Value)→Nat→Value
 |0,_,F=>F
 |_+1,[],F=>F
 |m+1,o::l,F=>pF P n ops m l (pput P n ops F o)
def pOK(P:Program)(n:Md)(ops:Array Oper):Nat→List Oper→(Nat→Value)→Bool
 |0,_,_=>true
 |_+1,[],_=>false
 |m+1,o::l,F=>pok P n ops F o&&pOK P n ops m l (pput P n ops F o)
theorem w_pok{o:Oper}{rest:List Oper}(hok:pok P n ops F o=true)(h:W P n ops Q rest (pput P n ops F o) w):W P n ops Q (o::rest) F w:=by
 obtain⟨dst,op,ty,pos,after,gd⟩:=o
 cases dst with
 |none=>simp [pok]at hok
 |some d=>
  cases gd with
  |none=>
   simp only [pok]at hok
   cases hv:pval P n F ⟨some d,op,ty,pos,after,none⟩with
   |none=>rw [hv]at hok;cases hok
   |some v=>
    simp only [pput,pvl,hv,Option.getD_some]at h
    exact aht rfl rfl (pval_run hv w) h
  |some gb=>
   obtain⟨g,b⟩:=gb
   simp only [pok]at hok
   cases hg:gof ops g with
   |none=>rw [hg]at hok;cases hok
   |some dg=>
    rw [hg]at hok
    simp only [zas]at hok
    simp only [pput,pvl,hg]at h
    cases hF:F dg with
    |bool c=>
     rw [hF]at hok h
     cases hc:c==b with
     |true=>
      have hcb:c=b:=by simpa using hc
      subst hcb
      simp only [hc,cond_true]at hok h
      cases hv:pval P n F ⟨some d,op,ty,pos,after,some (g,c)⟩with
      |none=>rw [hv]at hok;exact absurd hok.2 (by simp)
      |some v=>
       rw [hv]at h
       exact w_gyes dg hg hok.1 hF (aht rfl rfl (pval_run (o:=⟨some d,op,ty,pos,after,none⟩) hv w) h)
     |false=>
      have hcb:c= !b:=by cases c<;>cases b<;>simp_all
      subst hcb
      simp only [hc,cond_false]at h
      exact w_gno dg hg hok.1 hF h
    |tuple vs=>
     rw [hF]at hok h
     have hu:F dg=undef:=by
      rw [hF]
      have h2:isUndef (.tuple vs)=true:=hok.2
      exact isUndef_eq h2
     exact w_gun dg hg hok.1 hu h
    |_=>rw [hF]at hok;exact absurd hok.2 (by simp [isUndef])
theorem wp_aux:∀(m:Nat) (l:List Oper) (F:Nat→Value),pOK P n ops m l F=true→W P n ops Q (l.drop m) (pF P n ops m l F) w→W P n ops Q l F w
 |0,l,F,_,h=>h
 |m+1,[],F,hok,_=>by simp [pOK]at hok
 |m+1,o::l,F,hok,h=>by
  simp only [pOK,zas]at hok
  exact w_pok hok.1 (wp_aux m l _ hok.2 h)
theorem wp{l:List Oper}(m:Nat)(h:W P n ops Q (l.drop m) (pF P n ops m l F) w)(hok:pOK P n ops m l F=true:=by kernel_rfl):W P n ops Q l F w:=wp_aux m l F hok h
theorem y_pok{kn:Nat}{kD:List Deferred}{o:Oper}(hok:pok P ⟨kn,kD,none⟩ ops F o=true):YieldsIf P ops (fun _=>True) o (pvl P ⟨kn,kD,none⟩ ops F o) (fr ⟨kn,kD,none⟩ F):=by
 obtain⟨dst,op,ty,pos,after,gd⟩:=o
 cases dst with
 |none=>simp [pok]at hok
 |some d=>
  cases gd with
  |none=>
   simp only [pok]at hok
   cases hv:pval P ⟨kn,kD,none⟩ F ⟨some d,op,ty,pos,after,none⟩with
   |none=>rw [hv]at hok;cases hok
   |some v=>
    simp only [pvl,hv,Option.getD_some]
    exact y_val rfl fun w _=>pval_run hv w
  |some gb=>
   obtain⟨g,b⟩:=gb
   simp only [pok]at hok
   cases hg:gof ops g with
   |none=>rw [hg]at hok;cases hok
   |some dg=>
    rw [hg]at hok
    simp only [zas]at hok
    simp only [pvl,hg]
    cases hF:F dg with
    |bool c=>
     rw [hF]at hok
     cases hc:c==b with
     |true=>
      have hcb:c=b:=by simpa using hc
      subst hcb
      simp only [hc,cond_true]at hok⊢
      cases hv:pval P ⟨kn,kD,none⟩ F ⟨some d,op,ty,pos,after,some (g,c)⟩with
      |none=>rw [hv]at hok;exact absurd hok.2 (by simp)
      |some v=>exact y_gyes dg hg hok.1 hF fun w _=>pval_run (o:=⟨some d,op,ty,pos,after,none⟩) hv w
     |false=>
      have hcb:c= !b:=by cases c<;>cases b<;>simp_all
      subst hcb
      simp only [hc,cond_false]
      exact y_gno dg hg hok.1 hF
    |tuple vs=>
     rw [hF]at hok
     have h2:isUndef (.tuple vs)=true:=hok.2
     have hu:F dg=undef:=by rw [hF];exact isUndef_eq h2
     exact y_gun dg hg hok.1 hu
    |_=>rw [hF]at hok;exact absurd hok.2 (by simp [isUndef])
def rF(P:Program)(n:Md)(ops:Array Oper):List Nat→(Nat→Value)→Nat→Value
 |[],F=>F
 |i::is,F=>rF P n ops is (match ops[i]? with|some o=>pput P n ops F o|none=>F)
def rL:List Nat→List Bool→List Bool
 |[],l=>l
 |i::is,l=>rL is (l.set i true)
def rOK(P:Program)(n:Md)(ops:Array Oper)(k:Nat):List Nat→List Bool→(Nat→Value)→Bool
 |[],_,_=>true
 |i::is,l,F=>(match ops[i]? with|some o=>pok P n ops F o|none=>false)&&Region.free .any ops l.toArray i&&(Region.ready .any ops l.toArray).contains i&&zbf i k&&
   rOK P n ops k is (l.set i true) (match ops[i]? with|some o=>pput P n ops F o|none=>F)
theorem rp_aux{kn:Nat}{kD:List Deferred}{S:Nat→World→World→Prop}{k f':Nat}(hs:auv ops k=true):∀(is:List Nat) (l:List Bool) (F:Nat→Value),rOK P ⟨kn,kD,none⟩ ops k is l F=true→
  R P ⟨kn,kD,none⟩ ops Q S k f' (rL is l) (rF P ⟨kn,kD,none⟩ ops is F) w→R P ⟨kn,kD,none⟩ ops Q S k (f'+is.length) l F w
 |[],l,F,_,h=>h
 |i::is,l,F,hok,h=>by
  simp only [rOK,zas]at hok
  obtain⟨⟨⟨⟨h1,h2⟩,h3⟩,h4⟩,h5⟩:=hok
  cases ho:ops[i]? with
  |none=>rw [ho]at h1;cases h1
  |some o=>
   rw [ho]at h1 h5
   simp only [rL,rF,ho]at h
   have hd:∃d,o.dst=some d:=by
    cases hd:o.dst with
    |none=>simp [pok,hd]at h1
    |some d=>exact⟨d,rfl⟩
   obtain⟨d,hd⟩:=hd
   have e:pput P ⟨kn,kD,none⟩ ops F o=upd F d (pvl P ⟨kn,kD,none⟩ ops F o):=by simp [pput,hd]
   refine r_take _ i d (pvl P ⟨kn,kD,none⟩ ops F o) o ho hd hs h2 h3 h4 rfl (y_pok h1) ?_
   rw [←e]
   exact rp_aux hs is (l.set i true) (pput P ⟨kn,kD,none⟩ ops F o) h5 h
theorem rp{kn:Nat}{kD:List Deferred}{S:Nat→World→World→Prop}{k f:Nat}{l:List Bool}(f':Nat)(is:List Nat)(h:R P ⟨kn,kD,none⟩ ops Q S k f' (rL is l) (rF P ⟨kn,kD,none⟩ ops is F) w)
  (hf:f=f'+is.length:=by kernel_rfl) (hs:auv ops k=true:=by kernel_rfl) (hok:rOK P ⟨kn,kD,none⟩ ops k is l F=true:=by kernel_rfl):R P ⟨kn,kD,none⟩ ops Q S k f l F w:=by
 subst hf;exact rp_aux hs is l F hok h
theorem rt{kn:Nat}{kD:List Deferred}{S:Nat→World→World→Prop}{k f d:Nat}{l:List Bool}{o:Oper}(i:Nat)(v:Value)(ho:ops[i]? =some o)(hd:o.dst=some d)(hy:YieldsIf P ops (fun _=>True) o v (fr ⟨kn,kD,none⟩ F))
  (h:R P ⟨kn,kD,none⟩ ops Q S k f (l.set i true) (upd F d v) w) (hs:auv ops k=true:=by kernel_rfl) (hfree:Region.free .any ops l.toArray i=true:=by kernel_rfl)
  (hr:(Region.ready .any ops l.toArray).contains i=true:=by kernel_rfl) (hik:zbf i k=true:=by kernel_rfl):R P ⟨kn,kD,none⟩ ops Q S k (f+1) l F w:=r_take _ i d v o ho hd hs hfree hr hik rfl hy h
theorem ro{kn:Nat}{kD:List Deferred}{S:Nat→World→World→Prop}{k f:Nat}{l:List Bool}{o:Oper}(i:Nat)(ho:ops[i]? =some o)(h:W P ⟨kn,kD,none⟩ ops (RK P ⟨kn,kD,none⟩ ops Q S k f (l.set i true) i w) [o] F w)
  (hr:Region.ready .any ops l.toArray=[i]:=by kernel_rfl) (hik:zbf i k=true:=by kernel_rfl):R P ⟨kn,kD,none⟩ ops Q S k (f+1) l F w:=r_one1 _ i o ho hr hik rfl h
theorem cdr{kn:Nat}{kD:List Deferred}{w0:World}{S0:List Nat}{L:List Res}{id:Nat}{l:List Oper}(k:Nat)(hH:Hp w0 S0 L w)(hQ:NoP Q)
  (h:∀w',Hp w0 S0 L w'→R P ⟨kn,kD,none⟩ l.toArray Q (fun _ _ _=>True) k k (List.replicate l.length false) F w') (hm:P.follows .mixedOrders=true:=by kernel_rfl) (hs:auv l.toArray k=true:=by kernel_rfl):
  C P ⟨kn,kD,none⟩ Q (.region id l.toArray true) F w:=c_drawn k _ _ (fun _ _=>trivial) hm hs hH rfl hQ h
section
variable {α : Type} {c : Operand} {x y : Code} {p : Prop} {ip : Decidable p} {a b r : α} {t : Bool}
theorem cd(hr:(if p then a else b)=r)(ht:p→a=r→C P n Q x F w)(hf:¬p→b=r→C P n Q y F w)(hc:evn n F c=.bool (decide p):=by kernel_rfl):C P n Q (.cond c x y) F w:=
 c_dec hc (fun h=>ht h (ift h hr)) (fun h=>hf h (ifn h hr))
theorem cn(hr:(if p then a else b)=r)(ht:¬p→b=r→C P n Q x F w)(hf:p→a=r→C P n Q y F w)(hc:evn n F c=.bool (!decide p):=by kernel_rfl):C P n Q (.cond c x y) F w:=
 c_ndec hc (fun h=>ht h (ifn h hr)) (fun h=>hf h (ift h hr))
theorem cb(hr:cond t a b=r)(ht:t=true→a=r→C P n Q x F w)(hf:t=false→b=r→C P n Q y F w)(hc:evn n F c=.bool t:=by kernel_rfl):C P n Q (.cond c x y) F w:=
 c_bool hc (fun h=>ht h (cft h hr)) (fun h=>hf h (cff h hr))
variable {d : Nat} {ty : TypeId} {pos : String} {after : Array Edge} {rest : List Oper} {o : Operand}
theorem wd(hr:(if p then a else b)=r)(ht:p→a=r→W P n ops Q rest (upd F d (.bool true)) w)(hf:¬p→b=r→W P n ops Q rest (upd F d (.bool false)) w)(hc:evn n F o=.bool (decide p):=by kernel_rfl):W P n ops Q (⟨some d,.move o,ty,pos,after,none⟩::rest) F w:=
 w_move_dec p hc (fun h=>ht h (ift h hr)) (fun h=>hf h (ifn h hr))
theorem wb(hr:cond t a b=r)(ht:t=true→a=r→W P n ops Q rest (upd F d (.bool true)) w)(hf:t=false→b=r→W P n ops Q rest (upd F d (.bool false)) w)(hc:evn n F o=.bool t:=by kernel_rfl):W P n ops Q (⟨some d,.move o,ty,pos,after,none⟩::rest) F w:=
 w_move_bool t hc (fun h=>ht h (cft h hr)) (fun h=>hf h (cff h hr))
end
theorem cut0{x y:Code}{w0:World}{S:List Nat}{R:List Res}(hH:Hp w0 S R w)(lv:List Nat)(L:List (Nat×Value))
  (hx:C P n (Exit.then (fun a' w'=>∃F',a'=fr n F'∧lv.map F'=lv.map (app L F)∧Hp w0 S R w') Q) x F w)
  (hy:∀w G,Hp w0 S R w→C P n Q y (keepL lv (app L F) G) w):C P n Q (.seq x y) F w:=
 cut (σ:=Unit) lv (fun _=>L) (fun _ w'=>Hp w0 S R w') (c_mono hx fun e a w' h=>by
  cases e with
  |normal=>obtain⟨F',h1,h2,h3⟩:=h;exact⟨(),F',h1,h2,h3⟩
  |exit id=>exact h
  |goto l=>exact h
  |ret=>exact h
  |panic ch=>exact h
  |outgrown=>exact h) (fun _ w G h=>hy w G h)
theorem je{w0 w1:World}{S:List Nat}{R:List Res}{lv:List Nat}{A F':Nat→Value}(hH:Hp w0 S R w1)(h:lv.map F'=lv.map A:=by kernel_rfl):∃F'',fr n F'=fr n F''∧lv.map F''=lv.map A∧Hp w0 S R w1:=⟨_,rfl,h,hH⟩
theorem cut1{σ ρ:Type}{x y:Code}{w0:World}{S:List Nat}{R:List Res}(hH:Hp w0 S R w)(j:σ⊕ρ)(lv:List Nat)(L:σ→List (Nat×Value))
  (hx:C P n (Exit.then (fun a' w'=>∃s' F',a'=fr n F'∧lv.map F'=lv.map (app (L s') F)∧Hp w0 S R w'∧j=.inl s') Q) x F w)
  (hy:∀s w G,Hp w0 S R w→j=.inl s→C P n Q y (keepL lv (app (L s) F) G) w):C P n Q (.seq x y) F w:=
 cut lv L (fun s w'=>Hp w0 S R w'∧j=.inl s) hx (fun s w G h=>hy s w G h.1 h.2)
theorem je1{σ ρ:Type}{w0 w1:World}{S:List Nat}{R:List Res}{j:σ⊕ρ}{s:σ}{lv:List Nat}{A F':Nat→Value}{L:σ→List (Nat×Value)}(hj:j=.inl s)(hH:Hp w0 S R w1)(h:lv.map F'=lv.map (app (L s) A):=by kernel_rfl):
  ∃s' F'',fr n F'=fr n F''∧lv.map F''=lv.map (app (L s') A)∧Hp w0 S R w1∧j=.inl s':=⟨s,_,rfl,h,hH,hj⟩
theorem mc{A B:Nat→Value}{t:Nat}{lv:List Nat}(h:A t=B t)(h':lv.map A=lv.map B):(t::lv).map A=(t::lv).map B:=by simp [h,h']
theorem lpS{τ ρ:Type}{c:Code}{w0:World}{S:List Nat}{R:List Res}{r:ρ}{fu:Nat}(g:Nat→τ→Option ρ)(s0:τ)(hH:Hp w0 S R w)(hr:g fu s0=some r)(lv:List Nat)(L:τ→List (Nat×Value))(g0:∀s,g 0 s=none)
  (round:∀fk s w G,Hp w0 S R w→g (fk+1) s=some r→C P n (Exit.then (fun a' w'=>∃s' F',a'=fr n F'∧lv.map F'=lv.map (app (L s') F)∧Hp w0 S R w'∧g fk s'=some r) Q) c (keepL lv (app (L s) F) G) w)
  (h0:lv.map F=lv.map (app (L s0) F):=by kernel_rfl):C P n Q (.loop c) F w:=by
 refine lpG (σ:=Nat×τ) lv (fun s=>L s.2) (fun s w'=>Hp w0 S R w'∧g s.1 s.2=some r) (fun s=>s.1) (fu,s0) ⟨hH,hr⟩ (fun s w G h=> ?_) h0
 obtain⟨fk,s⟩:=s
 obtain⟨h1,h2⟩:=h
 cases fk with
 |zero=>rw [g0]at h2;cases h2
 |succ fk=>
  refine c_mono (round fk s w G h1 h2) fun e a w' h=> ?_
  cases e with
  |normal=>
   obtain⟨s',F',h1,h2,h3,h4⟩:=h
   exact⟨(fk,s'),F',h1,h2,⟨h3,h4⟩,zbc _⟩
  |exit id=>exact h
  |goto l=>exact h
  |ret=>exact h
  |panic ch=>exact h
  |outgrown=>exact h
theorem le'{τ ρ:Type}{w0 w1:World}{S:List Nat}{R:List Res}{r:ρ}{lv:List Nat}{A F':Nat→Value}{L:τ→List (Nat×Value)}{g:τ→Option ρ}(s:τ)(hH:Hp w0 S R w1)(hr:g s=some r)(h:lv.map F'=lv.map (app (L s) A):=by kernel_rfl):
  ∃s' F'',fr n F'=fr n F''∧lv.map F''=lv.map (app (L s') A)∧Hp w0 S R w1∧g s'=some r:=⟨s,_,rfl,h,hH,hr⟩
theorem Hp.kp{w0 w:World}{S:List Nat}{L L1:List Res}(h:Hp w0 S L w)(hL:L.take L1.length=L1:=by kernel_rfl):Hp w0 S L1 w:=h.sub (by rw [←hL];exact List.take_sublist _ _)
theorem oi{α:Type}{a b:α}(h:some a=some b):a=b:=Option.some.inj h
section
variable {d : Nat} {ty : TypeId} {pos : String} {after : Array Edge} {rest : List Oper} {w0 : World} {S : List Nat} {L : List Res}
theorem wc{fo:Operand}{azq:Array Operand}{ats:Array TypeId}{f:FuncId}{vs:List Value}{V:Value}(hE:Enters P f)(hH:Hp w0 S L w)(hc:CR P f vs w fun v w'=>v=V∧Hp w [] [] w')
  (h:∀w',Hp w0 S L w'→W P n ops Q rest (upd F d V) w') (hf:evn n F fo=.func (.func f) #[] #[]:=by kernel_rfl) (ha: #[]++azq.map (evn n F)++ #[]=vs.toArray:=by kernel_rfl):
  W P n ops Q (⟨some d,.call ⟨.value fo,azq,ats⟩,ty,pos,after,none⟩::rest) F w:=by
 refine w_call f #[] vs _ hE hf ha hc ?_
 rintro _ w' ⟨rfl,hq⟩
 exact h w' (hH.call hq)
end
def rone(n:Md)(F:Nat→Value):ResultVar→Value
 |.tmp t=>evn n F (.tmp t)
 |.cell _ _=>undef
def rval(n:Md)(F:Nat→Value)(fn:Func):Value:=
 match fn.results.toList.map (rone n F)with
 |[u]=>u
 |us=>.tuple us.toArray
def allTmp(fn:Func):Bool:=fn.results.toList.all fun|.tmp _=>true|.cell _ _=>false
theorem rx_aux{kk:Nat}{ro:Option (Option Nat)}{fn:Func}(h:allTmp fn=true):(results fn (fr ⟨kk,[],ro⟩ F).tmps).run P w=.ok (rval ⟨kk,[],ro⟩ F fn) w:=by
 have key:∀vs:List Value,vs=fn.results.toList.map (rone ⟨kk,[],none⟩ F)→(results fn (fr ⟨kk,[],none⟩ F).tmps).run P w=.ok (match vs with|[u]=>u|us=>.tuple us.toArray) w:=by
  intro vs e
  refine results_run (kk:=kk) (F:=F) fn.results.toList vs rfl (by simp [e]) ?_ _ (by cases vs with|nil=>rfl|cons a azq=>cases azq<;>rfl)
  intro i x v hx hv
  subst e
  simp only [List.getElem?_map,hx,zaP,Option.some.injEq]at hv
  have:=List.all_eq_true.1 h x (List.mem_of_getElem? hx)
  cases x with
  |tmp t=>exact rok_tmp hv
  |cell a t=>cases this
 exact key _ rfl
theorem rx{kk:Nat}{ro:Option (Option Nat)}{fn:Func}{R:Value→World→Prop}(h:R (rval ⟨kk,[],ro⟩ F fn) w)(ha:allTmp fn=true:=by kernel_rfl):
  bodyPost P fn (fun e w'=>∃v,e=.returned v∧R v w') .ret (fr ⟨kk,[],ro⟩ F) w:=⟨rfl,_,rx_aux ha,_,rfl,h⟩
theorem rv{kk:Nat}{ro:Option (Option Nat)}{fn:Func}{V:Value}{w0:World}{S:List Nat}{L:List Res}(h:Hp w0 S L w)(hv:rval ⟨kk,[],ro⟩ F fn=V:=by kernel_rfl)(ha:allTmp fn=true:=by kernel_rfl):
  bodyPost P fn (fun e w'=>∃v,e=.returned v∧v=V∧Hp w0 S L w') .ret (fr ⟨kk,[],ro⟩ F) w:=rx ⟨hv,h⟩ ha
theorem bi{α β:Type}{o:Option α}{f:α→Option β}{r:β}{g:Prop}(h:o.bind f=some r)(k:∀y,o=some y→f y=some r→g):g:=let ⟨y,a,b⟩:=bind_inv h;k y a b
theorem gi{α:Type}{p:Prop}{ip:Decidable p}{o:Option α}{r:α}{g:Prop}(h:gd p o=some r)(k:p→o=some r→g):g:=let ⟨a,b⟩:=gd_inv h;k a b
theorem cs{x y:Code}(h:C P n (SeqQ P n y Q) x F w):C P n Q (.seq x y) F w:=c_seq h
theorem cr{id:Nat}{l:List Oper}(h:W P n l.toArray Q l F w):C P n Q (.region id l.toArray false) F w:=asm h
theorem wl(h:Q .normal (fr n F) w):W P n ops Q [] F w:=w_nil h
theorem qn{k k':Nat}{D D':List Deferred}{ro:Option (Option Nat)}{y:Code}(h:C P ⟨k,D,ro⟩ Q y F w):SeqQ P ⟨k',D',ro⟩ y Q .normal (fr ⟨k,D,ro⟩ F) w:=q_next h
theorem ct(h:Q .ret (fr n F) w):C P n Q .ret F w:=c_ret h
theorem ck(h:Q .normal (fr n F) w):C P n Q .skip F w:=c_skip h
theorem ce{id:Nat}{c:Code}(h:C P n (Exit.inBlock id Q) c F w):C P n Q (.block id c) F w:=c_block h
theorem ql{K:Act→World→Prop}(h:K (fr n F) w):Exit.then K Q .normal (fr n F) w:=h
theorem st{m:Md}{y:Code}(h:Q .ret (fr n F) w):SeqQ P m y Q .ret (fr n F) w:=s_ret h
theorem bt_{id:Nat}(h:Q .ret (fr n F) w):Exit.inBlock id Q .ret (fr n F) w:=h
theorem bn{id:Nat}(h:Q .normal (fr n F) w):Exit.inBlock id Q .normal (fr n F) w:=h
theorem gy{dst:Option Nat}{op:Op}{ty:TypeId}{pos:String}{after:Array Edge}{g:Nat}{b:Bool}{rest:List Oper}(dg:Nat)(h:W P n ops Q (⟨dst,op,ty,pos,after,none⟩::rest) F w)
  (h1:(ops[g]?).bind (·.dst)=some dg:=by kernel_rfl) (h3:zbf dg n.n=true:=by kernel_rfl) (hv:F dg=.bool b:=by kernel_rfl):W P n ops Q (⟨dst,op,ty,pos,after,some (g,b)⟩::rest) F w:=w_gyes dg h1 h3 hv h
theorem sr{y:Code}{id:Nat}{l:List Oper}(h:W P n l.toArray (SeqQ P n y Q) l F w):C P n Q (.seq (.region id l.toArray false) y) F w:=c_seq (asm h)
theorem nq{k k':Nat}{D D':List Deferred}{ro:Option (Option Nat)}{y:Code}(h:C P ⟨k,D,ro⟩ Q y F w):W P ⟨k,D,ro⟩ ops (SeqQ P ⟨k',D',ro⟩ y Q) [] F w:=w_nil (q_next h)
end
def NoD(ops:Array Oper):Prop:=∀(j:Nat) (o:Oper) c,ops[j]? =some o→o.op≠.defer c
def NoPD(ops:Array Oper)(Q:Exit→Act→World→Prop):Prop:=NoP Q∧NoD ops
section
variable {P : Program} {ops : Array Oper} {Q : Exit → Act → World → Prop} {md : Region.Mode} {S : Nat → World → World → Prop} {x : Option Nat}
def wpPreI(x:Option Nat)(P:Program)(md:Region.Mode)(ops:Array Oper)(Q:Exit→Act→World→Prop)(S:Nat→World→World→Prop)(k:Nat)(Z:Act→World→Prop):Nat→Array Bool→Act→World→Prop
 |0,listed,a,w=>Region.seqB md ops (ops.size-k) k listed=true∧Z a w
 |f+1,listed,a,w=>Region.ready md ops listed≠[]∧∀i∈Region.ready md ops listed,i<k∧wpOpIn (fen x) 0 P ops Q i (fun a' w'=>S i w w'∧wpPreI x P md ops Q S k Z f (listed.setIfInBounds i true) a' w') a w
end
section
variable {P : Program} {kn : Nat} {kD : List Deferred} {ops : Array Oper} {Q : Exit → Act → World → Prop} {S : Nat → World → World → Prop} {Si : World → Prop} {F : Nat → Value} {w : World} {x : Option Nat}
def RI(x:Option Nat)(P:Program)(n:Md)(ops:Array Oper)(Q:Exit→Act→World→Prop)(S:Nat→World→World→Prop)(k f:Nat)(listed:List Bool)(F:Nat→Value)(w:World):Prop:=
 HeadInv .any ops k listed.toArray→(∀j w,S j w w)→NoPD ops Q→wpPreI x P .any ops Q S k (fun a w=>wpListIn (fen x) 0 P ops Q (ops.toList.drop k) a w) f listed.toArray (fr n F) w
end
section
variable {P : Program} {kn : Nat} {kD : List Deferred} {ro : Option (Option Nat)} {ops : Array Oper} {Q : Exit → Act → World → Prop} {S : Nat → World → World → Prop} {Si : World → Prop} {F : Nat → Value} {w : World}
def RO(P:Program)(n:Md)(ops:Array Oper)(Q:Exit→Act→World→Prop)(S:Nat→World→World→Prop)(k f:Nat)(listed:List Bool)(F:Nat→Value)(w:World):Prop:=
 match n.ro with
 |none=>R P n ops Q S k f listed F w
 |some x=>RI x P n ops Q S k f listed F w
end
end Go.Wk
namespace Go.Ce
open Go.Wk
open Nat renaming beq → zau, succ → zbh
open UInt8 renaming ofNat → zbi
noncomputable def bi{α:Type}(c:Bool)(x y:α):α:=Bool.rec y x c
noncomputable def ob{α β:Type}(x:Option α)(f:α→Option β):Option β:=Option.rec none f x
inductive Pk where
 |h
 |o (p:Pk)
 |i (p:Pk)
noncomputable def pkF(f:Nat):Nat→Pk:=
 Nat.rec (fun _=>.h) (fun _ r k=>bi (zau k (nat_lit 0)) .h (bi (zau (Nat.mod k (nat_lit 2)) (nat_lit 1)) (.i (r (Nat.div k (nat_lit 2)))) (.o (r (Nat.sub (Nat.div k (nat_lit 2)) (nat_lit 1)))))) f
noncomputable def pk(k:Nat):Pk:=pkF (zbh k) k
inductive Tr (α:Type) where
 |e
 |n (l:Tr α) (v:Option α) (r:Tr α)
noncomputable def Tr.L{α:Type}(t:Tr α):Tr α:=Tr.rec .e (fun l _ _ _ _=>l) t
noncomputable def Tr.V{α:Type}(t:Tr α):Option α:=Tr.rec none (fun _ v _ _ _=>v) t
noncomputable def Tr.R{α:Type}(t:Tr α):Tr α:=Tr.rec .e (fun _ _ r _ _=>r) t
noncomputable def Tr.getP{α:Type}(p:Pk):Tr α→Option α:=Pk.rec Tr.V (fun _ g t=>g t.R) (fun _ g t=>g t.L) p
noncomputable def Tr.setP{α:Type}(x:α)(p:Pk):Tr α→Tr α:=Pk.rec (fun t=>.n t.L (some x) t.R) (fun _ s t=>.n t.L t.V (s t.R)) (fun _ s t=>.n (s t.L) t.V t.R) p
noncomputable def Tr.get{α:Type}(t:Tr α)(k:Nat):Option α:=Tr.getP (pk k) t
noncomputable def Tr.set{α:Type}(t:Tr α)(k:Nat)(x:α):Tr α:=Tr.setP x (pk k) t
def dec:Nat→Nat→List UInt8
 |0,_=>[]
 |l+1,x=>zbi (x%256)::dec l (x/256)
inductive Cp where
 |k (c:Nat)
 |r (off:Nat)
inductive SC where
 |b (x:Bool)
 |i (k:IntKind) (n:Nat)
 |s (l x:Nat)
 |np
 |ns
 |nf
 |ni
 |p (i off:Nat)
 |g (i off:Nat)
 |sl (i base n:Nat) (c:Cp)
 |fn (f:Nat) (cs:List Nat)
 |y (i:Nat)
 |m (i:Nat)
 |z (i base d off:Nat)
inductive SA where
 |c (x:SC)
 |a (l:List SC)
inductive SV where
 |c (x:SC)
 |a (l:List SC)
 |t (l:List SA)
 |u
inductive Mo where
 |ex
 |rw (sz m:Nat)
 |bw
 |fb
inductive HB where
 |cl (t:Nat) (md:Mo) (xs:List SC)
 |it (l x pos:Nat)
 |lp (busy:Bool) (j k:Nat) (ps:List Nat) (asg body:Code) (F:Tr SV)
 |df
 |gn
 |mp (es:List (SC×SC))
structure Hs where
 nx:Nat
 t:Tr HB
structure T where
 F:Tr SV
 H:Hs
 D:Option Nat
structure M where
 n:Nat
 m:Option (Option Nat)
structure Cx where
 P:Program
 G:Nat→Option (List SC)
 X:Nat→Option (List SV→Hs→Option (SV×Hs))
 pure:Nat→Bool
 V:Nat→Bool
noncomputable def SV.cells:SV→Option (List SC):=SV.rec (fun x=>some [x]) some (fun _=>none) none
noncomputable def km:IntKind→Nat:=IntKind.rec (nat_lit 256) (nat_lit 65536) (nat_lit 4294967296) (nat_lit 18446744073709551616) (nat_lit 256) (nat_lit 65536) (nat_lit 4294967296) (nat_lit 18446744073709551616)
noncomputable def kh:IntKind→Nat:=IntKind.rec (nat_lit 128) (nat_lit 32768) (nat_lit 2147483648) (nat_lit 9223372036854775808) (nat_lit 256) (nat_lit 65536) (nat_lit 4294967296) (nat_lit 18446744073709551616)
noncomputable def ures(k:IntKind)(m:Nat):Int:=bi (Nat.ble (kh k) m) (.negSucc (Nat.sub (Nat.sub (km k) (nat_lit 1)) m)) (.ofNat m)
noncomputable def SC.v:SC→Option Value
 |.b x=>some (.bool x)
 |.i k n=>some (.int k (ures k (Nat.mod n (km k))))
 |.s l x=>some (str (dec l x))
 |.np=>some (.pointer none)
 |.ns=>some (.slice none 0 0)
 |.nf=>some .nilFunc
 |.ni=>some .nilIface
 |_=>none
noncomputable def vcs:List SC→Option (List Value)
 |[]=>some []
 |x::l=>ob x.v fun v=>ob (vcs l) fun vs=>some (v::vs)
noncomputable def SV.v:SV→Option Value
 |.c x=>x.v
 |.a l=>ob (vcs l) fun vs=>some (.agg vs.toArray)
 |_=>none
section
variable (C : Cx)
end
section
variable (C : Cx) (m : M) (S : T)
noncomputable def only{α:Type}(l:List α):Option α:=List.rec none (fun x xs _=>bi xs.isEmpty (some x) none) l
end
section
variable (C : Cx) (m : M) (S : T)
end
section
variable (C : Cx)
end
end Go.Ce
namespace Go.Oe
open Go.Wk
open Go.Ce (Tr)
open Go.IntKind renaming wrap → zae
open Go.Op renaming bytesLess → zaL
open Int renaming toNat → zai
open List renaming drop → zaA, set → zbj, take → zaW
open Nat renaming beq → zau, blt → zbf, eq_of_beq_eq_true → zaf, succ → zbh
open Sum renaming elim → zaD
open UInt8 renaming ofNat → zbi
noncomputable section
inductive Ty where
 |i' (k:IntKind)
 |c'
 |s'
 |b'
 |u'
 |w' (x:Ty)
 |pr (x y:Ty)
 |sm (x y:Ty)
 |l' (e by_:Nat) (x:Ty)
 |y'
 |r' (x:Ty)
 |p' (e:Nat) (x:Ty)
 |z'
 |o' (j:Nat)
 |f' (k:Nat) (x:Ty)
@[reducible] def Ty.T:Ty→Type
 |.i' _=>Int
 |.c'=>UInt8
 |.s'=>Str
 |.b'=>Bool
 |.u'=>Unit
 |.w' x=>x.T
 |.pr x y=>x.T×y.T
 |.sm x y=>x.T⊕y.T
 |.l' _ _ x=>List x.T
 |.y'=>Str
 |.r' x=>List x.T
 |.p' _ x=>x.T
 |.z'=>Unit
 |.o' _=>Unit
 |.f' _ x=>x.T
def kN:IntKind→Nat
 |.i8=>0
 |.i16=>1
 |.i32=>2
 |.i64=>3
 |.u8=>4
 |.u16=>5
 |.u32=>6
 |.u64=>7
def keq(a b:IntKind):Bool:=zau (kN a) (kN b)
def Ty.eqb:Ty→Ty→Bool
 |.i' k,.i' k'=>keq k k'
 |.c',.c'=>true
 |.s',.s'=>true
 |.b',.b'=>true
 |.u',.u'=>true
 |.w' x,.w' x'=>x.eqb x'
 |.pr x y,.pr xx yy=>bif x.eqb xx then y.eqb yy else false
 |.sm x y,.sm xx yy=>bif x.eqb xx then y.eqb yy else false
 |.l' e h x,.l' ee hh x'=>bif zau e ee then bif zau h hh then x.eqb x' else false else false
 |.y',.y'=>true
 |.r' x,.r' x'=>x.eqb x'
 |.p' e x,.p' ee x'=>bif zau e ee then x.eqb x' else false
 |.z',.z'=>true
 |.o' j,.o' j'=>zau j j'
 |.f' k x,.f' k' x'=>bif zau k k' then x.eqb x' else false
 |_,_=>false
theorem aex{a b:Bool}(h:(bif a then b else false)=true):a=true∧b=true:=by cases a<;>cases b<;>simp_all
theorem keq_eq{a b:IntKind}(h:keq a b=true):a=b:=by
 revert h;cases a<;>cases b<;>first|(intro _;rfl)|(intro h;exact absurd h (by decide+kernel))
theorem Ty.eqb_eq:∀{a b:Ty},a.eqb b=true→a=b:=by
 intro a
 induction a with
 |i' k=>intro b h;cases b with
  |i' k'=>rw [keq_eq h]
  |_=>cases h
 |w' x ih=>intro b h;cases b with
  |w' y=>rw [ih h]
  |_=>cases h
 |pr x y ih ih'=>intro b h;cases b with
  |pr xx yy=>have h:=aex h;rw [ih h.1,ih' h.2]
  |_=>cases h
 |sm x y ih ih'=>intro b h;cases b with
  |sm xx yy=>have h:=aex h;rw [ih h.1,ih' h.2]
  |_=>cases h
 |l' e bb x ih=>intro b h;cases b with
  |l' e' b' y=>have h:=aex h;have h':=aex h.2;rw [ih h'.2,zaf h.1,zaf h'.1]
  |_=>cases h
 |r' x ih=>intro b h;cases b with
  |r' y=>rw [ih h]
  |_=>cases h
 |p' e x ih=>intro b h;cases b with
  |p' e' y=>have h:=aex h;rw [ih h.2,zaf h.1]
  |_=>cases h
 |o' j=>intro b h;cases b with
  |o' k=>rw [zaf h]
  |_=>cases h
 |f' k x ih=>intro b h;cases b with
  |f' k' y=>have h:=aex h;rw [ih h.2,zaf h.1]
  |_=>cases h
 |_=>intro b h;cases b<;>first|rfl|cases h
def castL{a b:Ty}(h:a.eqb b=true)(l:List a.T):List b.T:=(Ty.eqb_eq h)▸l
@[reducible] def tupT:List Ty→Ty
 |[]=>.u'
 |[x]=>x
 |x::y::l=>.pr x (tupT (y::l))
def Ty.flat:Ty→Bool
 |.i' _=>true
 |.c'=>true
 |.s'=>true
 |.b'=>true
 |.w' x=>x.flat
 |.pr x y=>bif x.flat then y.flat else false
 |_=>false
def Ty.sz:Ty→Nat
 |.w' x=>x.sz
 |.pr x y=>x.sz+y.sz
 |_=>1
def Ty.enc:(t:Ty)→t.T→List Value
 |.i' k,n=>[.int k n]
 |.c',x=>[bt x]
 |.s',x=>[str x]
 |.b',x=>[.bool x]
 |.w' t,x=>t.enc x
 |.pr a b,x=>a.enc x.1++b.enc x.2
 |_,_=>[]
def Ty.agg:Ty→Bool
 |.w' _=>true
 |.pr _ _=>true
 |_=>false
inductive SC where
 |i' (k:IntKind) (n:Int)
 |c' (x:UInt8)
 |s' (x:Str)
 |b' (x:Bool)
 |d' (p:Prop) (h:Decidable p)
 |e' (p:Prop) (h:Decidable p)
 |o' (j:Nat)
 |n'
 |p' (id off:Nat)
 |q' (id:Nat) (j:Int) (sz off:Nat)
 |l' (id:Nat)
 |k' (id n:Nat)
 |f' (k:Nat) (ids:List Nat)
 |z' (id fl:Nat)
 |u'
inductive SA where
 |c' (x:SC)
 |a' (l:List SC)
inductive SV where
 |c' (x:SC)
 |a' (l:List SC)
 |t' (l:List SA)
 |n'
 |u'
inductive Ob where
 |bl (e:Nat) (cs:List SC)
 |rw (e by_:Nat) (t:Ty) (l:List t.T)
 |ro (t:Ty) (l:List t.T)
 |br (n:Nat) (l:Str)
 |dd (n:Nat)
structure Ad where
 o:Option Nat
 a:Option Addr
 cap:Nat
 z:Bool
 ln:Nat
def Ad.b(d:Ad):Nat:=d.o.getD 0
def Ob.len:Ob→Nat
 |.rw _ _ _ l=>l.length
 |.ro _ l=>l.length
 |.br n _=>n
 |.dd n=>n
 |_=>0
def amb{α:Type}:List α→Nat→Option α
 |[],_=>none
 |x::l,k=>match k with
  |0=>some x
  |k+1=>amb l k
def lenH(H:List Ob)(id:Nat):Nat:=match amb H id with
 |some o=>o.len
 |none=>0
def nilV:Nat→Value
 |0=>.pointer none
 |1=>.nilFunc
 |_=>.nilIface
def bptr(b off:Nat):Value:=.pointer (some ⟨b,off,none⟩)
def SC.v(ρ:Nat→Ad):SC→Value
 |.i' k n=>.int k n
 |.c' x=>bt x
 |.s' x=>str x
 |.b' x=>.bool x
 |.d' p h=>.bool (@decide p h)
 |.e' p h=>.bool (!@decide p h)
 |.o' j=>nilV j
 |.n'=>.slice none 0 0
 |.p' id off=>bptr (ρ id).b off
 |.q' id j sz off=>.pointer (some (ea (ρ id).a (j.toNat*sz+off)))
 |.l' id=>.slice (ρ id).a (ρ id).ln (ρ id).cap
 |.k' id n=>.slice (some ⟨(ρ id).b,0,none⟩) n n
 |.f' k ids=>.func (.func k) #[] (ids.map fun id=>bptr (ρ id).b 0).toArray
 |.z' id fl=>.pointer (bif (ρ fl).z then some ⟨(ρ id).b,0,none⟩else none)
 |.u'=>.bool false
def SC.kn:SC→Bool
 |.u'=>false
 |_=>true
def knL:List SC→Bool
 |[]=>true
 |x::l=>bif x.kn then knL l else false
def SA.v(ρ:Nat→Ad):SA→Value
 |.c' x=>x.v ρ
 |.a' l=>.agg (l.map (SC.v ρ)).toArray
def SV.v(ρ:Nat→Ad):SV→Option Value
 |.c' x=>some (x.v ρ)
 |.a' l=>some (.agg (l.map (SC.v ρ)).toArray)
 |.t' l=>some (.tuple (l.map (SA.v ρ)).toArray)
 |.n'=>some undef
 |.u'=>none
def SA.sv:SA→SV
 |.c' x=>.c' x
 |.a' l=>.a' l
def SV.cells:SV→Option (List SC)
 |.c' x=>some [x]
 |.a' l=>some l
 |_=>none
def SV.sa:SV→Option SA
 |.c' x=>some (.c' x)
 |.a' l=>some (.a' l)
 |_=>none
def Ty.sv(t:Ty)(cs:List SC):SV:=bif t.agg then .a' cs else match cs with
 |[x]=>.c' x
 |_=>.u'
def Ty.sa(t:Ty)(cs:List SC):SA:=bif t.agg then .a' cs else match cs with
 |[x]=>.c' x
 |_=>.a' cs
def ptrL:List SC→List Nat
 |[]=>[]
 |x::l=>match x with
  |.p' id _=>id::ptrL l
  |_=>ptrL l
def Ty.no:Ty→Nat
 |.w' x=>x.no
 |.pr x y=>x.no+y.no
 |.l' _ _ _=>1
 |.y'=>1
 |.r' _=>1
 |.p' _ x=>x.no+1
 |.z'=>1
 |.f' _ x=>x.no
 |_=>0
def Ty.lay:(t:Ty)→(self n:Nat)→t.T→List SC×List Ob
 |.i' k,_,_,x=>([.i' k x],[])
 |.c',_,_,x=>([.c' x],[])
 |.s',_,_,x=>([.s' x],[])
 |.b',_,_,x=>([.b' x],[])
 |.u',_,_,_=>([],[])
 |.w' t,s,n,x=>t.lay s n x
 |.pr a b,s,n,x=>((a.lay s n x.1).1++(b.lay s (n+a.no) x.2).1,(a.lay s n x.1).2++(b.lay s (n+a.no) x.2).2)
 |.sm _ _,_,_,_=>([],[])
 |.l' e b t,_,n,x=>([.l' n],[.rw e b t x])
 |.y',_,n,x=>([.l' n],[.br x.length x])
 |.r' t,_,n,x=>([.l' n],[.ro t x])
 |.p' e t,_,n,x=>([.p' n 0],.bl e (t.lay n (n+1) x).1::(t.lay n (n+1) x).2)
 |.z',s,n,_=>([.z' s n],[.dd 0])
 |.o' j,_,_,_=>([.o' j],[])
 |.f' k t,s,n,x=>([.f' k (ptrL (t.lay s n x).1)],(t.lay s n x).2)
inductive Src where
 |o' (id:Nat) (w:Bool)
 |n'
 |k' (id m:Nat) (w:Bool)
 |z' (t:Bool)
def Src.own:Src→List Nat
 |.o' id w=>bif w then [id]else []
 |.k' id _ w=>bif w then [id]else []
 |_=>[]
def Src.bor:Src→List Nat
 |.o' id w=>bif w then []else [id]
 |.k' id _ w=>bif w then []else [id]
 |_=>[]
def hd1{α:Type}(f:SC→Option α):List SC→Option (α×List SC×List Src)
 |[]=>none
 |x::l=>match f x with
  |some y=>some (y,l,[])
  |none=>none
def SC.rI(k:IntKind):SC→Option Int
 |.i' kk n=>bif keq k kk then some n else none
 |_=>none
def SC.rC:SC→Option UInt8
 |.c' x=>some x
 |_=>none
def SC.rS:SC→Option Str
 |.s' x=>some x
 |_=>none
def SC.rB:SC→Option Bool
 |.b' x=>some x
 |.d' p h=>some (@decide p h)
 |.e' p h=>some (!@decide p h)
 |_=>none
def Ty.rd0:(t:Ty)→List SC→Option (t.T×List SC)
 |.i' k,l=>match l with
  |x::l=>match x.rI k with
   |some y=>some (y,l)
   |none=>none
  |[]=>none
 |.c',l=>match l with
  |x::l=>match x.rC with
   |some y=>some (y,l)
   |none=>none
  |[]=>none
 |.s',l=>match l with
  |x::l=>match x.rS with
   |some y=>some (y,l)
   |none=>none
  |[]=>none
 |.b',l=>match l with
  |x::l=>match x.rB with
   |some y=>some (y,l)
   |none=>none
  |[]=>none
 |.w' t,l=>t.rd0 l
 |.pr a b,l=>match a.rd0 l with
  |some (x,l1)=>match b.rd0 l1 with
   |some (y,l2)=>some ((x,y),l2)
   |none=>none
  |none=>none
 |_,_=>none
def rdAll(t:Ty):Nat→List SC→Option (List t.T)
 |0,l=>match l with
  |[]=>some []
  |_=>none
 |m+1,l=>match t.rd0 l with
  |some (x,l1)=>match rdAll t m l1 with
   |some q=>some (x::q)
   |none=>none
  |none=>none
def rowOf(t:Ty)(o:Option Ob):Option (List t.T):=match o with
 |some (.rw _ _ t' l)=>if h:t'.eqb t=true then some (castL h l)else none
 |_=>none
def strOf(t:Ty)(l:Str):Option (List t.T):=if h:Ty.c'.eqb t=true then some (castL h l)else none
def anyOf(t:Ty)(o:Option Ob):Option (List t.T):=match o with
 |some (.rw _ _ t' l)=>if h:t'.eqb t=true then some (castL h l)else none
 |some (.ro t' l)=>if h:t'.eqb t=true then some (castL h l)else none
 |some (.br _ l)=>strOf t l
 |_=>none
def roOf(t:Ty)(o:Option Ob):Option (List t.T):=match o with
 |some (.ro t' l)=>if h:t'.eqb t=true then some (castL h l)else none
 |_=>none
def rwE:Option Ob→Option (Nat×Nat)
 |some (.rw e b _ _)=>some (e,b)
 |_=>none
def Ty.tz:Ty→Bool
 |.w' x=>x.tz
 |.pr x y=>bif x.tz then true else y.tz
 |.z'=>true
 |.f' _ x=>x.tz
 |_=>false
def Ty.ptrs:Ty→Bool
 |.u'=>true
 |.p' _ _=>true
 |.pr x y=>bif x.ptrs then y.ptrs else false
 |_=>false
def Ty.rd(any:Bool)(H:List Ob):(t:Ty)→(self:Nat)→List SC→Option (t.T×List SC×List Src)
 |.i' k,_,l=>hd1 (SC.rI k) l
 |.c',_,l=>hd1 SC.rC l
 |.s',_,l=>hd1 SC.rS l
 |.b',_,l=>hd1 SC.rB l
 |.u',_,l=>some ((),l,[])
 |.w' t,s,l=>t.rd any H s l
 |.pr a b,s,l=>match a.rd any H s l with
  |some (x,l1,s1)=>match b.rd any H s l1 with
   |some (y,l2,s2)=>some ((x,y),l2,s1++s2)
   |none=>none
  |none=>none
 |.sm _ _,_,_=>none
 |.l' e b t,_,l=>match l with
  |.n'::l=>some ([],l,[.n'])
  |.l' id::l=>match rwE (amb H id)with
   |some q=>bif zau q.1 e then(bif zau q.2 b then(match rowOf t (amb H id)with
    |some x=>some (x,l,[.o' id true])
    |none=>none)else none)else none
   |none=>none
  |.k' id m::l=>match amb H id with
   |some (.bl e' cs)=>bif zau e' e then(bif t.flat then(bif Nat.ble m 1048576 then(match rdAll t m cs with
    |some x=>some (x,l,[.k' id m true])
    |none=>none)else none)else none)else none
   |_=>none
  |_=>none
 |.y',_,l=>match l with
  |.l' id::l=>match amb H id with
   |some (.br _ x)=>some (x,l,[.o' id true])
   |_=>none
  |_=>none
 |.r' t,_,l=>match l with
  |.n'::l=>some ([],l,[.n'])
  |.l' id::l=>match(bif any then anyOf t (amb H id)else roOf t (amb H id))with
   |some x=>some (x,l,[.o' id false])
   |none=>none
  |.k' id m::l=>match(bif any then amb H id else none)with
   |some (.bl _ cs)=>match rdAll t m cs with
    |some x=>some (x,l,[.k' id m false])
    |none=>none
   |_=>none
  |_=>none
 |.p' e t,_,l=>match l with
  |.p' id off::l=>match amb H id with
   |some (.bl e' cs)=>bif zau off 0 then(bif zau e' e then(match t.rd any H id cs with
    |some (x,[],ss)=>some (x,l,.o' id true::ss)
    |_=>none)else none)else none
   |_=>none
  |_=>none
 |.z',s,l=>match l with
  |.o' j::l=>bif zau j 0 then some ((),l,[.z' false])else none
  |.p' id off::l=>bif zau off 0 then(bif zau id s then some ((),l,[.z' true])else none)else none
  |.z' id fl::l=>bif zau id s then(match amb H fl with
   |some (.dd 0)=>some ((),l,[.o' fl false])
   |_=>none)else none
  |_=>none
 |.o' j,_,l=>match l with
  |.o' j'::l=>bif zau j j' then some ((),l,[])else none
  |_=>none
 |.f' k t,s,l=>match l with
  |.f' k' ids::l=>bif zau k k' then(match(bif t.ptrs then t.rd any H s (ids.map fun id=>.p' id 0)else none)with
   |some (x,[],ss)=>some (x,l,ss)
   |_=>none)else none
  |_=>none
def Ty.cn:Ty→Nat
 |.u'=>0
 |.w' x=>x.cn
 |.pr x y=>x.cn+y.cn
 |.sm _ _=>0
 |_=>1
def ldrop{α:Type}:List α→Nat→List α
 |[],_=>[]
 |x::l,k=>match k with
  |0=>x::l
  |k+1=>ldrop l k
def ltake{α:Type}:List α→Nat→Option (List α)
 |_,0=>some []
 |[],_+1=>none
 |x::l,k+1=>match ltake l k with
  |some q=>some (x::q)
  |none=>none
def asx{α:Type}:List α→Nat→α→List α
 |[],_,_=>[]
 |x::l,k,y=>match k with
  |0=>y::l
  |k+1=>x::asx l k y
def putC:List SC→Nat→List SC→Option (List SC)
 |l,0,[]=>some l
 |_::l,0,v::vs=>match putC l 0 vs with
  |some q=>some (v::q)
  |none=>none
 |x::l,k+1,vs=>match putC l k vs with
  |some q=>some (x::q)
  |none=>none
 |[],_,_=>none
def putD(l:List SC)(k:Nat)(vs:List SC):List SC:=match putC l k vs with
 |some q=>q
 |none=>l
inductive Key where
 |s' (t:Nat) (x:Ty)
 |o' (t off:Nat) (x:Ty)
 |w' (t:Nat) (x:Ty)
def Key.ty:Key→Ty
 |.s' _ x=>x
 |.o' _ _ x=>x
 |.w' _ x=>x
abbrev keyT(l:List Key):Ty:=tupT (l.map Key.ty)
def wOf(H:List Ob)(id:Nat):(x:Ty)→Option x.T
 |.l' e b t=>match rwE (amb H id)with
  |some q=>bif zau q.1 e then(bif zau q.2 b then rowOf t (amb H id)else none)else none
  |none=>none
 |.y'=>match amb H id with
  |some (.br _ x)=>some x
  |_=>none
 |_=>none
def fulL{α:Type}:Option (α×List SC×List Src)→Option (α×List Src)
 |some (x,[],ss)=>some (x,ss)
 |_=>none
def rdV(any:Bool)(H:List Ob)(x:Ty):SV→Option (x.T×List Src)
 |.c' c=>bif x.tz then none else(bif x.agg then none else fulL (x.rd any H 0 [c]))
 |.a' l=>bif x.tz then none else(bif x.agg then fulL (x.rd any H 0 l)else none)
 |_=>none
def rdB(H:List Ob)(id off:Nat)(x:Ty):Option (x.T×List Src):=match amb H id with
 |some (.bl _ cs)=>match ltake (ldrop cs off) x.cn with
  |some q=>fulL (x.rd false H id q)
  |none=>none
 |_=>none
def rdW(H:List Ob)(id:Nat)(x:Ty):Option (x.T×List Src):=match wOf H id x with
 |some y=>some (y,[])
 |none=>none
def Key.rd(ix:Nat→Nat)(F:Nat→SV)(H:List Ob):(k:Key)→Option (k.ty.T×List Src)
 |.s' t x=>rdV false H x (F t)
 |.o' t off x=>rdB H (ix t) off x
 |.w' t x=>rdW H (ix t) x
def rdK(ix:Nat→Nat)(F:Nat→SV)(H:List Ob):(l:List Key)→Option ((keyT l).T×List Src)
 |[]=>some ((),[])
 |[k]=>k.rd ix F H
 |k::k2::l=>match k.rd ix F H with
  |some (x,s1)=>match rdK ix F H (k2::l)with
   |some (y,s2)=>some ((x,y),s1++s2)
   |none=>none
  |none=>none
def wPut(n:Nat):(x:Ty)→x.T→Option Ob
 |.l' e b t,v=>some (.rw e b t v)
 |.y',v=>some (.br n v)
 |_,_=>none
abbrev Fr:=Tr SV×List Ob
def putV(F:Tr SV)(H:List Ob)(t:Nat)(x:Ty)(v:x.T):Fr:=(F.set t (x.sv (x.lay 0 H.length v).1),H++(x.lay 0 H.length v).2)
def putB(H:List Ob)(id off:Nat)(x:Ty)(v:x.T):List Ob:=match amb H id with
 |some (.bl e cs)=>asx H id (.bl e (putD cs off (x.lay id H.length v).1))++(x.lay id H.length v).2
 |_=>H++(x.lay id H.length v).2
def putW(H:List Ob)(id:Nat)(x:Ty)(v:x.T):List Ob:=match wPut (lenH H id) x v with
 |some o=>asx H id o
 |none=>H
def Key.put(ix:Nat→Nat)(S:Fr):(k:Key)→k.ty.T→Fr
 |.s' t x,v=>putV S.1 S.2 t x v
 |.o' t off x,v=>(S.1,putB S.2 (ix t) off x v)
 |.w' t x,v=>(S.1,putW S.2 (ix t) x v)
def putK(ix:Nat→Nat)(S:Fr):(l:List Key)→(keyT l).T→Fr
 |[],_=>S
 |[k],v=>k.put ix S v
 |k::k2::l,v=>putK ix (k.put ix S v.1) (k2::l) v.2
inductive Rk where
 |r' (x:Ty)
 |o' (id e:Nat) (x:Ty)
 |w' (id:Nat) (x:Ty)
def Rk.ty:Rk→Ty
 |.r' x=>x
 |.o' _ _ x=>x
 |.w' _ x=>x
abbrev resT(l:List Rk):Ty:=tupT (l.map Rk.ty)
def rdO(H:List Ob)(id e:Nat)(x:Ty):Option (x.T×List Src):=match amb H id with
 |some (.bl ee cs)=>bif zau ee e then fulL (x.rd false H id cs)else none
 |_=>none
def Rk.rd(H:List Ob):(k:Rk)→List SV→Option (k.ty.T×List Src×List SV)
 |.r' x,vs=>match vs with
  |v::vs=>match rdV false H x v with
   |some (x,ss)=>some (x,ss,vs)
   |none=>none
  |[]=>none
 |.o' id e x,vs=>match rdO H id e x with
  |some (x,ss)=>some (x,ss,vs)
  |none=>none
 |.w' id x,vs=>match rdW H id x with
  |some (x,ss)=>some (x,ss,vs)
  |none=>none
def rdR(H:List Ob):(l:List Rk)→List SV→Option ((resT l).T×List Src)
 |[],vs=>match vs with
  |[]=>some ((),[])
  |_=>none
 |[k],vs=>match k.rd H vs with
  |some (x,ss,[])=>some (x,ss)
  |_=>none
 |k::k2::l,vs=>match k.rd H vs with
  |some (x,s1,vs)=>match rdR H (k2::l) vs with
   |some (y,s2)=>some ((x,y),s1++s2)
   |none=>none
  |none=>none
def putO(H:List Ob)(id e:Nat)(x:Ty)(v:x.T):List Ob:=asx H id (.bl e (x.lay id H.length v).1)++(x.lay id H.length v).2
def Rk.put(ix:Nat→Nat)(S:List SA×List Ob):(k:Rk)→k.ty.T→List SA×List Ob
 |.r' x,v=>(S.1++[x.sa (x.lay 0 S.2.length v).1],S.2++(x.lay 0 S.2.length v).2)
 |.o' id e x,v=>(S.1,putO S.2 (ix id) e x v)
 |.w' id x,v=>(S.1,putW S.2 (ix id) x v)
def putR(ix:Nat→Nat)(S:List SA×List Ob):(l:List Rk)→(resT l).T→List SA×List Ob
 |[],_=>S
 |[k],v=>k.put ix S v
 |k::k2::l,v=>putR ix (k.put ix S v.1) (k2::l) v.2
def resV:List SA→SV
 |[x]=>x.sv
 |l=>.t' l
def rdA(H:List Ob):(l:List Ty)→List SV→Option ((tupT l).T×List Src)
 |[],vs=>match vs with
  |[]=>some ((),[])
  |_=>none
 |[x],vs=>match vs with
  |[v]=>rdV true H x v
  |_=>none
 |x::y::l,vs=>match vs with
  |v::vs=>match rdV true H x v with
   |some (a,s1)=>match rdA H (y::l) vs with
    |some (b,s2)=>some ((a,b),s1++s2)
    |none=>none
   |none=>none
  |[]=>none
def ata(H:List Ob):(l:List Ty)→(tupT l).T→List SV×List Ob
 |[],_=>([],H)
 |[x],v=>([x.sv (x.lay 0 H.length v).1],H++(x.lay 0 H.length v).2)
 |x::y::l,v=>(x.sv (x.lay 0 H.length v.1).1::(ata (H++(x.lay 0 H.length v.1).2) (y::l) v.2).1,(ata (H++(x.lay 0 H.length v.1).2) (y::l) v.2).2)
structure PD where
 p:Prop
 h:Decidable p
inductive Gv (α:Type) where
 |one (x:Option α)
 |gs (l:List PD) (x:α)
structure Con where
 a:List Ty
 r:List Rk
 f:(tupT a).T→Gv (resT r).T
def gdL{ρ:Type}(l:List PD)(x:Option ρ):Option ρ:=match l with
 |[]=>x
 |⟨p,h⟩::l=> @gd ρ p h (gdL l x)
def Gv.bd{α ρ:Type}(g:Gv α)(k:α→Option ρ):Option ρ:=match g with
 |.one x=>x.bind k
 |.gs l x=>gdL l (k x)
structure Cx where
 P:Program
 X:Nat→List Con
 E:Nat→Option (Nat×Nat×Ty)
 G:Nat→Option Nat
 nn:Nat
 fu:Nat
structure St where
 F:Tr SV
 H:List Ob
 nb:Nat
 al:List (Nat×Nat×Nat)
 m:List (Nat×Nat×Nat)
def St.at(S:St)(t:Nat):SV:=match S.F.get t with
 |some v=>v
 |none=>.u'
def St.set(S:St)(d:Nat)(v:SV):St:=⟨S.F.set d v,S.H,S.nb,S.al,S.m⟩
def St.setO(S:St)(d:Option Nat)(v:SV):St:=match d with
 |some d=>S.set d v
 |none=>S
def cvC:Value→Option SC
 |.bool b=>some (.b' b)
 |.int k n=>bif keq k .u8 then(if 0≤n∧n<256 then some (.c' (zbi n.toNat))else none)else some (.i' k n)
 |.string s=>some (.s' s.data.toList)
 |.slice none 0 0=>some .n'
 |.pointer none=>some (.o' 0)
 |.nilFunc=>some (.o' 1)
 |.nilIface=>some (.o' 2)
 |_=>none
def cvL:List Value→Option (List SC)
 |[]=>some []
 |v::l=>match cvC v with
  |some x=>match cvL l with
   |some q=>some (x::q)
   |none=>none
  |none=>none
def cv:Value→SV
 |.agg cs=>match cvL cs.toList with
  |some l=>.a' l
  |none=>.u'
 |v=>match cvC v with
  |some x=>.c' x
  |none=>.u'
section
variable (C : Cx)
def St.ev(S:St):Operand→SV
 |.tmp t=>bif zbf t C.nn then S.at t else .u'
 |.const v=>cv v
 |.global g=>match C.G g with
  |some id=>.c' (.q' id 0 0 0)
  |none=>.u'
 |.func k=>.c' (.f' k [])
end
structure Ro where
 g:List PD
 v:SV
 H:List Ob
 m:List (Nat×Nat×Nat)
abbrev Rv:=Option (List PD×SV)
def okC(x:SC):Rv:=some ([],.c' x)
def gdC(p:Prop)[h:Decidable p](x:SC):Rv:=some ([⟨p,h⟩],.c' x)
def i64(k:IntKind):Bool:=keq k .i64
def bI(b:BinOp)(k:IntKind)(u v:Int):Rv:=
 match b with
 |.lss=>okC (.d' (u<v) inferInstance)
 |.leq=>okC (.d' (u≤v) inferInstance)
 |.gtr=>okC (.d' (v<u) inferInstance)
 |.geq=>okC (.d' (v≤u) inferInstance)
 |.eql=>okC (.d' (u=v) inferInstance)
 |.neq=>okC (.e' (u=v) inferInstance)
 |.add=>bif i64 k then gdC (aap (u+v)) (.i' k (u+v))else okC (.i' k (k.wrap (u+v)))
 |.sub=>bif i64 k then gdC (aap (u-v)) (.i' k (u-v))else okC (.i' k (k.wrap (u-v)))
 |.mul=>bif i64 k then gdC (aap (u*v)) (.i' k (u*v))else okC (.i' k (k.wrap (u*v)))
 |.quo=>bif i64 k then gdC (0≤u∧0<v∧aap u) (.i' k (u/v))else none
 |.rem=>bif i64 k then gdC (0≤u∧0<v∧aap u) (.i' k (u%v))else none
 |.and=>okC (.i' k (andI k u v))
 |.or=>okC (.i' k (orI k u v))
 |_=>none
def bC(b:BinOp)(u v:UInt8):Rv:=
 match b with
 |.lss=>okC (.d' (u<v) inferInstance)
 |.leq=>okC (.d' (u≤v) inferInstance)
 |.gtr=>okC (.d' (v<u) inferInstance)
 |.geq=>okC (.d' (v≤u) inferInstance)
 |.eql=>okC (.d' (u=v) inferInstance)
 |.neq=>okC (.e' (u=v) inferInstance)
 |.add=>okC (.c' (u+v))
 |.sub=>okC (.c' (u-v))
 |.mul=>okC (.c' (u*v))
 |.quo=>gdC (v≠0) (.c' (u/v))
 |.rem=>gdC (v≠0) (.c' (u%v))
 |.and=>okC (.c' (u&&&v))
 |.or=>okC (.c' (u|||v))
 |_=>none
def bS(b:BinOp)(u v:Str):Rv:=
 match b with
 |.eql=>okC (.d' (u=v) inferInstance)
 |.neq=>okC (.e' (u=v) inferInstance)
 |.lss=>okC (.b' (zaL u v))
 |.gtr=>okC (.b' (!(zaL u v||u==v)))
 |.add=>gdC (u.length+v.length≤9223372036854775807) (.s' (u++v))
 |_=>none
def bB(b:BinOp)(u v:Bool):Rv:=match b with
 |.eql=>okC (.b' (u==v))
 |.neq=>okC (.b' (!(u==v)))
 |_=>none
def sh8(z:Bool)(b:BinOp)(u:UInt8)(v:Int):Rv:=
 match b with
 |.shl=>bif z then okC (.c' (shl8 u v))else gdC (0≤v) (.c' (shl8 u v))
 |.shr=>bif z then okC (.c' (shr8 u v))else gdC (0≤v) (.c' (shr8 u v))
 |_=>none
def asI:SC→Option Int
 |.i' _ n=>some n
 |.c' x=>some (x.toNat:Int)
 |_=>none
def shI(k:IntKind)(u v:Int):Rv:=match v with
 |.ofNat n=>okC (.i' k (u/((2^(min n k.bits):Nat):Int)))
 |_=>none
def isShr:BinOp→Bool
 |.shr=>true
 |_=>false
def shlI(k:IntKind)(u v:Int):Rv:=match v with
 |.ofNat n=>okC (.i' k (zae k (u*((2^(min n k.bits):Nat):Int))))
 |_=>none
def isShl:BinOp→Bool
 |.shl=>true
 |_=>false
def bin(z:Bool)(b:BinOp)(x y:SC):Rv:=
 match x,y with
 |.i' k u,.i' kk v=>bif isShr b then shI k u v else bif isShl b then shlI k u v else bif keq k kk then bI b k u v else none
 |.c' u,.c' v=>bC b u v
 |.c' u,.i' _ v=>sh8 z b u v
 |.s' u,.s' v=>bS b u v
 |_,_=>none
def notC:SC→Rv
 |.b' x=>okC (.b' (!x))
 |.d' p h=>okC (.e' p h)
 |.e' p h=>okC (.d' p h)
 |_=>none
def ixC(x ix:SC):Rv:=
 match x with
 |.s' l=>match asI ix with
  |some i=>gdC (0≤i∧i<(l.length:Int)) (.c' (at_ l i))
  |none=>none
 |_=>none
def cutC(x:SC)(lo hi:Option SC):Rv:=
 match x with
 |.s' l=>match lo,hi with
  |some a,some b=>match asI a,asI b with
   |some i,some j=>gdC (0≤i∧i≤j∧j≤(l.length:Int)) (.s' (sub l i j))
   |_,_=>none
  |some a,none=>match asI a with
   |some i=>gdC (0≤i∧i≤(l.length:Int)) (.s' (zaA (zai i) l))
   |none=>none
  |none,some b=>match asI b with
   |some j=>gdC (0≤j∧j≤(l.length:Int)) (.s' (zaW (zai j) l))
   |none=>none
  |none,none=>none
 |_=>none
section
variable (C : Cx)
def kindOf(t:Nat):Option IntKind:=match C.P.underlying t with
 |some (.int k)=>some k
 |_=>none
def aqe(t:Nat):Bool:=match C.P.underlying t with
 |some .string=>true
 |_=>false
def slE(t:Nat):Option Nat:=match C.P.underlying t with
 |some (.slice e)=>some e
 |_=>none
def arE(t:Nat):Option (Nat×Nat):=match C.P.underlying t with
 |some (.array n e)=>some (n,e)
 |_=>none
def tSz(t:Nat):Option Nat:=sval C.P (sizeOf t)
def tAg(t:Nat):Option Bool:=sval C.P (isAgg t)
def isU8(e:Nat):Bool:=match C.P.underlying e with
 |some (.int k)=>keq k .u8
 |_=>false
def isK(e:Nat)(k:IntKind):Bool:=match kindOf C e with
 |some k2=>keq k2 k
 |none=>false
def conC(s t:Nat)(x:SC):Rv:=
 match x with
 |.c' u=>bif isU8 C s then(match kindOf C t with
  |some .u8=>okC (.c' u)
  |some .i64=>okC (.i' .i64 (u.toNat:Int))
  |some .i32=>okC (.i' .i32 (u.toNat:Int))
  |_=>none)else none
 |.i' k n=>bif isK C s k then(match kindOf C t with
  |some .u8=>okC (.c' (u8i n))
  |some k'=>bif keq k k' then(bif i64 k then gdC (aap n) (.i' k n)else gdC (zae k' n=n) (.i' k n))else okC (.i' k' (k'.wrap n))
  |none=>bif aqe C t then okC (.s' (Utf8.encode n).data.toList)else none)else none
 |.s' l=>bif aqe C s then(bif aqe C t then okC (.s' l)else none)else none
 |_=>none
def zC(t:Nat):Option (List SC):=match sval C.P (zeroValue t)with
 |some v=>cvL v.cells.toList
 |none=>none
def fldAt(t f:Nat):Option (Nat×Nat×Bool):=match C.P.underlying t with
 |some (.struct fs)=>match amb fs.toList f with
  |some fd=>match tSz C fd.type,tAg C fd.type with
   |some n,some a=>some (fd.offset,n,a)
   |_,_=>none
  |none=>none
 |_=>none
def partC(l:List SC)(off n:Nat)(a:Bool):Option SV:=
 bif a then(match ltake (ldrop l off) n with
  |some q=>bif knL q then some (.a' q)else none
  |none=>none)else match amb l off with
  |some x=>bif x.kn then some (.c' x)else none
  |none=>none
def pur(H:List Ob)(r:Rv):Option Ro:=match r with
 |some (g,v)=>some ⟨g,v,H,[]⟩
 |none=>none
def val1(H:List Ob)(v:Option SV):Option Ro:=match v with
 |some v=>some ⟨[],v,H,[]⟩
 |none=>none
def on1{α:Type}(x:SV)(f:SC→Option α):Option α:=match x with
 |.c' x=>f x
 |_=>none
def onO{α:Type}(ev:Operand→SV)(x:Option Operand)(f:Option SC→Option α):Option α:=match x with
 |none=>f none
 |some o=>on1 (ev o) fun a=>f (some a)
end
@[reducible] def Ty.inh:(t:Ty)→Inhabited t.T
 |.i' _=>⟨(0:Int)⟩
 |.c'=>⟨(0:UInt8)⟩
 |.s'=>⟨([]:Str)⟩
 |.b'=>⟨false⟩
 |.u'=>⟨()⟩
 |.w' x=>x.inh
 |.pr x y=>⟨(x.inh.default,y.inh.default)⟩
 |.sm x _=>⟨.inl x.inh.default⟩
 |.l' _ _ x=>⟨([]:List x.T)⟩
 |.y'=>⟨([]:Str)⟩
 |.r' x=>⟨([]:List x.T)⟩
 |.p' _ x=>x.inh
 |.z'=>⟨()⟩
 |.o' _=>⟨()⟩
 |.f' _ x=>x.inh
def elT:(t:Ty)→List t.T→Int→t.T
 |.c',l,j=>at_ l j
 |t,l,j=> @el t.T t.inh l j
def elC(t:Ty)(l:List t.T)(j:Int):List SC:=(t.lay 0 0 (elT t l j)).1
section
variable (C : Cx)
def contE(H:List Ob)(t:Ty)(x:SC):Option (List t.T):=match x with
 |.n'=>some []
 |.l' id=>anyOf t (amb H id)
 |.k' id m=>match amb H id with
  |some (.bl _ cs)=>rdAll t m cs
  |_=>none
 |_=>none
def szOk(sz:Nat)(j:Int)(t:Ty):Bool:=bif zau sz t.sz then true else match j with
 |.ofNat 0=>true
 |_=>false
def partE(H:List Ob)(t:Ty)(l:List t.T)(j:Int)(sz off n:Nat)(a:Bool):Option Ro:=
 match partC (elC t l j) off n a with
 |some v=>bif (bif szOk sz j t then t.flat else false)then some ⟨[⟨0≤j∧j<(l.length:Int),inferInstance⟩],v,H,[]⟩else none
 |none=>none
def allC(t:Ty):List t.T→List SC
 |[]=>[]
 |x::l=>(t.lay 0 0 x).1++allC t l
def wholeE(H:List Ob)(t:Ty)(l:List t.T)(j:Int)(off n:Nat)(a:Bool):Option Ro:=match j with
 |.ofNat 0=>bif t.flat then val1 H (partC (allC t l) off n a)else none
 |_=>none
def opLoad(H:List Ob)(t:Nat)(x:SC):Option Ro:=match tSz C t,tAg C t with
 |some n,some a=>bif zau n 0 then none else match x with
  |.p' id off=>match amb H id with
   |some (.bl _ cs)=>val1 H (partC cs off n a)
   |_=>none
  |.q' id j sz off=>match amb H id with
   |some (.rw _ _ t' l)=>partE H t' l j sz off n a
   |some (.ro t' l)=>(match partE H t' l j sz off n a with
    |some r=>some r
    |none=>wholeE H t' l j off n a)
   |some (.br _ l)=>partE H .c' l j sz off n a
   |_=>none
  |_=>none
 |_,_=>none
def setE(t:Ty)(l:List t.T)(j:Int)(off:Nat)(vs:List SC):Option (List t.T):=match putC (elC t l j) off vs with
 |some cs=>match t.rd0 cs with
  |some (x,[])=>some (zbj l (zai j) x)
  |_=>none
 |none=>none
def stoE(H:List Ob)(id:Nat)(j:Int)(len:Nat)(o:Ob):Option Ro:=some ⟨[⟨0≤j∧j<(len:Int),inferInstance⟩],.u',asx H id o,[(id,0,1)]⟩
def opStore(H:List Ob)(t:Nat)(x:SC)(v:SV):Option Ro:=match tSz C t,v.cells with
 |some n,some vs=>bif zau vs.length n then(match x with
  |.p' id off=>match amb H id with
   |some (.bl e cs)=>match putC cs off vs with
    |some cs'=>some ⟨[],.u',asx H id (.bl e cs'),[(id,off,off+n)]⟩
    |none=>none
   |_=>none
  |.q' id j sz off=>bif zau n 0 then none else match amb H id with
   |some (.rw e b t' l)=>match setE t' l j off vs with
    |some l'=>bif (bif szOk sz j t' then t'.flat else false)then stoE H id j l.length (.rw e b t' l')else none
    |none=>none
   |some (.br m l)=>match v with
    |.c' y=>match y.rC with
     |some c=>bif (bif szOk sz j .c' then zau off 0 else false)then stoE H id j l.length (.br m (zbj l (zai j) c))else none
     |none=>none
    |_=>none
   |_=>none
  |_=>none)else none
 |_,_=>none
def avv(t f:Nat)(x:SC):Option SV:=match fldAt C t f with
 |some q=>bif zau q.2.1 0 then none else match x with
  |.p' id off=>some (.c' (.p' id (off+q.1)))
  |.q' id j sz off=>some (.c' (.q' id j sz (off+q.1)))
  |_=>none
 |none=>none
def lenX(H:List Ob)(id:Nat):Option Nat:=match amb H id with
 |some (.rw _ _ t l)=>bif t.flat then some l.length else none
 |some (.ro t l)=>bif t.flat then some l.length else none
 |some (.br _ l)=>some l.length
 |_=>none
def aog(H:List Ob)(t:Nat)(x ix:SC):Option Ro:=match asI ix with
 |some j=>match slE C t with
  |some e=>match tSz C e with
   |some sz=>match x with
    |.l' id=>match lenX H id with
     |some m=>some ⟨[⟨0≤j∧j<(m:Int),inferInstance⟩],.c' (.q' id j sz 0),H,[]⟩
     |none=>none
    |.k' id m=>some ⟨[⟨0≤j∧j<(m:Int),inferInstance⟩],.c' (.p' id (j.toNat*sz)),H,[]⟩
    |_=>none
   |none=>none
  |none=>match arE C t with
   |some q=>match tSz C q.2 with
    |some sz=>match x with
     |.p' id off=>bif Nat.ble 2 q.1 then some ⟨[⟨0≤j∧j<(q.1:Int),inferInstance⟩],.c' (.p' id (off+j.toNat*sz)),H,[]⟩else none
     |.q' id j0 sz0 off0=>bif Nat.ble 2 q.1 then(bif zau sz0 0 then(bif zau off0 0 then some ⟨[⟨0≤j∧j<(q.1:Int),inferInstance⟩],.c' (.q' id j sz 0),H,[]⟩else none)else none)else none
     |_=>none
    |none=>none
   |none=>none
 |none=>none
def conS(H:List Ob)(s t:Nat)(x:SC):Option Ro:=match slE C s with
 |some e=>bif aqe C t then(bif isU8 C e then(match contE H .c' x with
  |some l=>some ⟨[],.c' (.s' l),H,[]⟩
  |none=>none)else none)else none
 |none=>match x with
  |.s' l=>match slE C t with
   |some e=>bif aqe C s then(bif isU8 C e then some ⟨[],.c' (.l' H.length),H++[.br l.length l],[]⟩else none)else none
   |none=>pur H (conC C s t x)
  |_=>pur H (conC C s t x)
def lenC(H:List Ob)(t:Nat)(x:SC):Rv:=match x with
 |.s' l=>bif aqe C t then okC (.i' .i64 (l.length:Int))else none
 |x=>match slE C t with
  |some _=>(match x with
   |.l' id=>(match amb H id with
    |some o=>okC (.i' .i64 (o.len:Int))
    |none=>none)
   |.k' _ m=>okC (.i' .i64 (m:Int))
   |.n'=>okC (.i' .i64 (0:Int))
   |_=>none)
  |none=>none
def mmC(b:Builtin)(x y:SC):Rv:=match b,x,y with
 |.min,.i' k u,.i' k' v=>bif keq k k' then okC (.i' k (min u v))else none
 |.max,.i' k u,.i' k' v=>bif keq k k' then okC (.i' k (max u v))else none
 |_,_,_=>none
def blL:Option Ob→Nat
 |some (.bl _ cs)=>zbh cs.length
 |_=>1
def opAppend(H:List Ob)(t:Nat)(x y:SC):Option Ro:=match C.E t with
 |some (e,b,τ)=>match x with
  |.n'=>match contE H τ y with
   |some l2=>some ⟨[⟨(([]:List τ.T).length+l2.length)*b≤140737488355328,inferInstance⟩],.c' (.l' H.length),H++[.rw e b τ ([]++l2)],[]⟩
   |none=>none
  |.l' id=>match wOf H id (.l' e b τ),contE H τ y with
   |some l,some l2=>some ⟨[⟨(l.length+l2.length)*b≤140737488355328,inferInstance⟩],.c' (.l' H.length),asx H id (.dd l.length)++[.rw e b τ (l++l2)],[(id,0,1)]⟩
   |_,_=>none
  |.k' id m=>match Ty.rd false H (.l' e b τ) 0 [.k' id m],contE H τ y with
   |some (l,_,_),some l2=>some ⟨[⟨(l.length+l2.length)*b≤140737488355328,inferInstance⟩],.c' (.l' H.length),asx H id (.dd 0)++[.rw e b τ (l++l2)],[(id,0,blL (amb H id))]⟩
   |_,_=>none
  |_=>none
 |none=>none
def zU8(e:Nat):Bool:=match C.P.info? e with
 |some i=>(match i.zero with
  |some (.int .u8 (.ofNat 0))=>true
  |_=>false)
 |none=>false
def opAppendS(H:List Ob)(t s:Nat)(x:SC)(l2:Str):Option Ro:=bif aqe C s then(match C.E t with
 |some (e,b,.c')=>bif zau b 1 then(bif zU8 C e then(match x with
  |.n'=>some ⟨[⟨(([]:Str).length+l2.length)*1≤140737488355328,inferInstance⟩],.c' (.l' H.length),H++[.rw e 1 .c' ([]++l2)],[]⟩
  |.l' id=>(match wOf H id (.l' e 1 .c')with
   |some l=>some ⟨[⟨(l.length+l2.length)*1≤140737488355328,inferInstance⟩],.c' (.l' H.length),asx H id (.dd l.length)++[.rw e 1 .c' (l++l2)],[(id,0,1)]⟩
   |none=>none)
  |_=>none)else none)else none
 |_=>none)else none
def strSrc(H:List Ob)(t s:Nat)(x:SC):SC→Option Ro
 |.s' l2=>opAppendS C H t s x l2
 |_=>none
def aid(ev:Operand→SV)(H:List Ob)(b:Builtin)(azq:List Operand)(ts:List Nat):Option Ro:=match b,azq,ts with
 |.len,[x],[t]=>pur H (on1 (ev x) (lenC C H t))
 |.append,[x,y],[t,t']=>bif zau t t' then on1 (ev x) fun a=>on1 (ev y) fun c=>opAppend C H t a c else on1 (ev x) fun a=>on1 (ev y) fun c=>strSrc C H t t' a c
 |b,[x,y],_=>pur H (on1 (ev x) fun a=>on1 (ev y) fun c=>mmC b a c)
 |_,_,_=>none
def fillP(sz:Nat→Option (Nat×Nat))(ev:Operand→SV):List (Nat×Operand)→List SC→Option (List SC)
 |[],l=>some l
 |p::ps,l=>match sz p.1,(ev p.2).cells with
  |some q,some vs=>bif zau vs.length q.2 then(match putC l q.1 vs with
   |some l'=>fillP sz ev ps l'
   |none=>none)else none
  |_,_=>none
def repC(z:List SC):Nat→List SC
 |0=>[]
 |n+1=>z++repC z n
def placesO:List Field→Option (List (Nat×Nat))
 |[]=>some []
 |f::fs=>match tSz C f.type with
  |some n=>match placesO fs with
   |some l=>some ((f.offset,n)::l)
   |none=>none
  |none=>none
def plOf(t:Nat):Option (Nat→Option (Nat×Nat)):=match C.P.underlying t with
 |some (.struct fs)=>match placesO C fs.toList with
  |some l=>some (amb l)
  |none=>none
 |some (.array _ e)=>match tSz C e with
  |some n=>some fun i=>some (i*n,n)
  |none=>none
 |_=>none
def opBuild(ev:Operand→SV)(t:Nat)(ps:List (Nat×Operand)):Option SV:=match zC C t,plOf C t with
 |some z,some pl=>match fillP pl ev ps z with
  |some cs=>some (.a' cs)
  |none=>none
 |_,_=>none
def aoh(ev:Operand→SV)(H:List Ob)(t len:Nat)(ps:List (Nat×Operand)):Option Ro:=match slE C t with
 |some e=>match zC C e,tSz C e with
  |some z,some n=>bif zau z.length n then(bif Nat.ble (len*n) 100000 then(match fillP (fun i=>some (i*n,n)) ev ps (repC z len)with
   |some cs=>some ⟨[],.c' (.k' H.length len),H++[.bl e cs],[]⟩
   |none=>none)else none)else none
  |_,_=>none
 |none=>none
def isZ:Operand→Bool
 |.const (.int _ (.ofNat 0))=>true
 |_=>false
def isNN:Operand→Bool
 |.const (.int _ (.ofNat _))=>true
 |_=>false
def opMake(H:List Ob)(t:Nat)(z:Bool)(x y:SC):Option Ro:=match C.E t with
 |some (e,b,τ)=>bif z then(match asI y with
   |some c=>some ⟨[⟨0≤c∧(b:Int)*c≤281474976710656,dMk b c⟩],.c' (.l' H.length),H++[.rw e b τ []],[]⟩
   |_=>none)else none
 |none=>none
def capI:List SV→Option (List Nat)
 |[]=>some []
 |v::l=>match v with
  |.c' (.p' id off)=>bif zau off 0 then(match capI l with
   |some q=>some (id::q)
   |none=>none)else none
  |_=>none
def opFunc(ev:Operand→SV)(f:Fn)(first cap:List Operand):Option SV:=match f with
 |.func k=>match first with
  |[]=>match capI (cap.map ev)with
   |some ids=>some (.c' (.f' k ids))
   |none=>none
  |_=>none
 |_=>none
def opNil(x:SC):Option SV:=match x with
 |.p' id off=>some (.c' (.p' id off))
 |.q' id j sz off=>some (.c' (.q' id j sz off))
 |.f' k ids=>some (.c' (.f' k ids))
 |_=>none
def isPtr(t:Nat):Bool:=match C.P.underlying t with
 |some (.pointer _)=>true
 |_=>false
def isBool(t:Nat):Bool:=match C.P.underlying t with
 |some .bool=>true
 |_=>false
def isSl(t:Nat):Bool:=match C.P.underlying t with
 |some (.slice _)=>true
 |_=>false
def isEql:BinOp→Bool
 |.eql=>true
 |_=>false
def binN(z:Bool)(t:Nat)(b:BinOp)(x y:SC):Rv:=
 match x,y with
 |.p' _ _,.o' j=>bif zau j 0 then(bif isPtr C t then(bif isEql b then okC (.b' false)else none)else none)else none
 |.o' j,.o' j2=>bif zau j 0 then(bif zau j2 0 then(bif isPtr C t then(bif isEql b then okC (.b' true)else none)else none)else none)else none
 |.k' _ _,.n'=>bif isSl C t then(bif isEql b then okC (.b' false)else none)else none
 |.n',.n'=>bif isSl C t then(bif isEql b then okC (.b' true)else none)else none
 |x,y=>match x.rB,y.rB with
  |some u,some v=>bif isBool C t then bB b u v else none
  |_,_=>bin z b x y
def opSl(H:List Ob)(t:Nat)(x:SC)(lo hi:Option SC):Option Ro:=match x with
 |.l' id=>(match amb H id with
  |some (.ro τ l)=>(match slE C t with
   |some e=>(match tSz C e with
    |some sz=>bif zau sz τ.sz then(bif τ.flat then(match lo,hi with
     |none,some b=>(match asI b with
      |some j=>some ⟨[⟨0≤j∧j≤(l.length:Int),inferInstance⟩],.c' (.l' H.length),H++[.ro τ (zaW (zai j) l)],[]⟩
      |none=>none)
     |some a,none=>(match asI a with
      |some j=>some ⟨[⟨0≤j∧j≤(l.length:Int),inferInstance⟩],.c' (.l' H.length),H++[.ro τ (zaA (zai j) l)],[]⟩
      |none=>none)
     |_,_=>none)else none)else none
    |none=>none)
   |none=>none)
  |_=>none)
 |_=>none
def ixTab(t:Nat)(cs:List SC)(i:SC):Rv:=match arE C t with
 |some q=>bif aqe C q.2 then(match tSz C q.2,tAg C q.2 with
  |some 1,some false=>(match rdAll .s' q.1 cs,asI i with
   |some l,some j=>gdC (0≤j∧j<(l.length:Int)) (.s' (elT .s' l j))
   |_,_=>none)
  |_,_=>none)else none
 |none=>none
def opM(ev:Operand→SV)(H:List Ob):Op→Option Ro
 |.move x=>val1 H (match ev x with
  |.u'=>none
  |v=>some v)
 |.assign x=>val1 H (match ev x with
  |.u'=>none
  |v=>some v)
 |.pick c a b=>on1 (ev c) fun x=>match x with
  |.b' t=>val1 H (match(bif t then ev a else ev b)with
   |.u'=>none
   |v=>some v)
  |_=>none
 |.binOp b t x y _=>pur H (on1 (ev x) fun a=>on1 (ev y) fun c=>binN C (isNN y) t b a c)
 |.unOp .not _ x=>pur H (on1 (ev x) notC)
 |.convert s t x=>on1 (ev x) (conS C H s t)
 |.index t x ix=>bif aqe C t then pur H (on1 (ev x) fun a=>on1 (ev ix) fun i=>ixC a i)else(match ev x with
  |.a' cs=>pur H (on1 (ev ix) fun i=>ixTab C t cs i)
  |_=>none)
 |.slice t x lo hi none=>bif aqe C t then pur H (on1 (ev x) fun a=>onO ev lo fun i=>onO ev hi fun j=>cutC a i j)else on1 (ev x) fun a=>onO ev lo fun i=>onO ev hi fun j=>opSl C H t a i j
 |.extract x i=>match ev x with
  |.t' l=>match amb l i with
   |some y=>some ⟨[],y.sv,H,[]⟩
   |none=>none
  |_=>none
 |.field t x f=>match ev x with
  |.a' l=>match fldAt C t f with
   |some q=>val1 H (partC l q.1 q.2.1 q.2.2)
   |none=>none
  |_=>none
 |.build t ps=>val1 H (opBuild C ev t ps.toList)
 |.alloc e=>match zC C e with
  |some z=>some ⟨[],.c' (.p' H.length 0),H++[.bl e z],[]⟩
  |none=>none
 |.box e v=>match(ev v).cells with
  |some cs=>some ⟨[],.c' (.p' H.length 0),H++[.bl e cs],[]⟩
  |none=>none
 |.buildSlice t n ps=>aoh C ev H t n ps.toList
 |.load t x=>on1 (ev x) fun a=>opLoad C H t a
 |.store t x v=>on1 (ev x) fun a=>opStore C H t a (ev v)
 |.fieldAddr t x f=>on1 (ev x) fun a=>val1 H (avv C t f a)
 |.indexAddr t x ix=>on1 (ev x) fun a=>on1 (ev ix) fun i=>aog C H t a i
 |.makeSlice t n c=>on1 (ev n) fun a=>on1 (ev c) fun i=>opMake C H t (isZ n) a i
 |.makeFunc f a b=>val1 H (opFunc ev f a.toList b.toList)
 |.nilCheck x=>on1 (ev x) fun a=>val1 H (opNil a)
 |.call c=>match c.callee with
  |.builtin b=>aid C ev H b c.args.toList c.argTypes.toList
  |_=>none
 |_=>none
def opP(ev:Operand→SV)(H:List Ob)(op:Op):Option Ro:=match op with
 |.convert s t x=>pur H (on1 (ev x) (conC C s t))
 |.slice t x lo hi mx=>bif aqe C t then opM C ev H (.slice t x lo hi mx)else none
 |op=>opM C ev H op
end
inductive Ex where
 |nm
 |xt (id:Nat)
abbrev Rg:=Nat×Nat×Nat
inductive Sc where
 |n'
 |s' (a b:Sc)
 |j' (J:List Key) (R:List Nat) (a b:Sc)
 |r' (J:List Key) (R:List Nat) (a b:Sc)
 |l' (J:List Key) (a:Sc)
 |y' (a:Sc)
 |z' (a:Sc)
def Sc.A:Sc→Sc
 |.s' a _=>a
 |.j' _ _ a _=>a
 |.r' _ _ a _=>a
 |.l' _ a=>a
 |.y' a=>a
 |_=>.n'
def Sc.B:Sc→Sc
 |.s' _ b=>b
 |.j' _ _ _ b=>b
 |.r' _ _ _ b=>b
 |.z' b=>b
 |_=>.n'
def aws(t:Nat):List Nat→Bool
 |[]=>false
 |x::l=>bif zau t x then true else aws t l
def disN(l r:List Nat):Bool:=match l with
 |[]=>true
 |x::l=>bif aws x r then false else disN l r
def nodN:List Nat→Bool
 |[]=>true
 |x::l=>bif aws x l then false else nodN l
def cov(id j:Nat):List Rg→Bool
 |[]=>false
 |q::l=>bif zau q.1 id then(bif Nat.ble q.2.1 j then(bif zbf j q.2.2 then true else cov id j l)else cov id j l)else cov id j l
def covs(id lo:Nat)(al:List Rg):Nat→Bool
 |0=>true
 |n+1=>bif cov id (lo+n) al then covs id lo al n else false
def St.ok(S:St)(q:Rg):Bool:=bif zbf q.1 S.nb then covs q.1 q.2.1 S.al (q.2.2-q.2.1)else true
def St.oks(S:St):List Rg→Bool
 |[]=>true
 |x::l=>bif S.ok x then S.oks l else false
def ownS:List Src→List Nat
 |[]=>[]
 |s::l=>s.own++ownS l
def borS:List Src→List Nat
 |[]=>[]
 |s::l=>s.bor++borS l
def wholeO(H:List Ob)(id:Nat):Rg:=(id,0,match amb H id with
 |some (.bl _ cs)=>zbh cs.length
 |_=>1)
def cellsO(H:List Ob)(id:Nat):Rg:=(id,0,match amb H id with
 |some (.bl _ cs)=>cs.length
 |_=>1)
def cellsL(H:List Ob):List Nat→List Rg
 |[]=>[]
 |x::l=>cellsO H x::cellsL H l
def aod(H:List Ob):List Nat→List Rg
 |[]=>[]
 |x::l=>wholeO H x::aod H l
def St.take(S:St)(ss:List Src):Bool:=bif nodN (ownS ss)then S.oks (aod S.H (ownS ss))else false
def kill(H:List Ob):List Nat→List Ob
 |[]=>H
 |x::l=>kill (asx H x (.dd (lenH H x))) l
def unk:List SC→Nat→Nat→List SC
 |[],_,_=>[]
 |x::l,lo,n=>match lo with
  |lo+1=>x::unk l lo n
  |0=>match n with
   |0=>x::l
   |n+1=>.u'::unk l 0 n
def arp(H:List Ob):List Rg→List Ob
 |[]=>H
 |q::l=>match amb H q.1 with
  |some (.bl e cs)=>arp (asx H q.1 (.bl e (unk cs q.2.1 (q.2.2-q.2.1)))) l
  |_=>arp (asx H q.1 (.dd (lenH H q.1))) l
def rgK(ix:Nat→Nat):List Key→List Rg
 |[]=>[]
 |k::l=>match k with
  |.s' _ _=>rgK ix l
  |.o' t off x=>(ix t,off,off+x.cn)::rgK ix l
  |.w' t _=>(ix t,0,1)::rgK ix l
def aqf:Option Ob→Bool
 |some (.rw _ _ _ _)=>true
 |some (.br _ _)=>true
 |_=>false
def rowsC(H:List Ob):List SC→List Nat
 |[]=>[]
 |x::l=>match x with
  |.l' id=>bif aqf (amb H id)then id::rowsC H l else rowsC H l
  |.k' id _=>match amb H id with
   |some (.bl _ _)=>id::rowsC H l
   |_=>rowsC H l
  |_=>rowsC H l
def Ty.hasR:Ty→Bool
 |.w' x=>x.hasR
 |.pr x y=>bif x.hasR then true else y.hasR
 |.l' _ _ _=>true
 |.y'=>true
 |_=>false
def eatK(ix:Nat→Nat)(F:Nat→SV)(H:List Ob):List Key→List Nat
 |[]=>[]
 |k::l=>(match k with
  |.s' t x=>bif x.hasR then(match(F t).cells with
   |some cs=>rowsC H cs
   |none=>[])else []
  |.o' t off x=>bif x.hasR then(match amb H (ix t)with
   |some (.bl _ cs)=>match ltake (ldrop cs off) x.cn with
    |some q=>rowsC H q
    |none=>[]
   |_=>[])else []
  |.w' _ _=>[])++eatK ix F H l
def Key.slots:List Key→List Nat
 |[]=>[]
 |k::l=>match k with
  |.s' t _=>t::Key.slots l
  |_=>Key.slots l
def del(F:Tr SV):List Nat→Tr SV
 |[]=>F
 |x::l=>del (F.set x .u') l
def wrO:List Oper→List Nat
 |[]=>[]
 |o::l=>match o.dst with
  |some d=>d::wrO l
  |none=>wrO l
noncomputable def wr(c:Code):List Nat:=Code.rec [] (fun _ ops _=>wrO ops.toList) (fun _ _ a b=>a++b) (fun _ _ _ a b=>a++b) (fun _ _ a=>a) (fun _ a=>a) (fun _ ps _ _ a b=>ps.toList++(a++b))
 (fun _=>[]) (fun _ a=>a) (fun _=>[]) (fun _=>[]) [] (fun _=>[]) c
def SV.pid:SV→Nat
 |.c' (.p' id _)=>id
 |.c' (.l' id)=>id
 |.c' (.k' id _)=>id
 |.c' (.f' _ (id::_))=>id
 |_=>0
def St.ix(S:St)(t:Nat):Nat:=(S.at t).pid
def St.eat(S:St)(J:List Key):List Nat:=eatK S.ix S.at S.H J
def St.rgs(S:St)(J:List Key):List Rg:=rgK S.ix J++aod S.H (S.eat J)
def disR:List Rg→Bool
 |[]=>true
 |q::l=>bif (disQ q l)then disR l else false
where disQ (q:Rg):List Rg→Bool
 |[]=>true
 |r::l=>bif zau q.1 r.1 then(bif Nat.ble q.2.2 r.2.1 then disQ q l else(bif Nat.ble r.2.2 q.2.1 then disQ q l else false))else disQ q l
def chkK(S:St):List Key→Bool
 |[]=>true
 |k::l=>bif (match k with
  |.o' t off x=>(match amb S.H (S.ix t)with
   |some (.bl _ cs)=>Nat.ble (off+x.cn) cs.length
   |_=>false)
  |.w' t x=>aqf (amb S.H (S.ix t))
  |_=>true)then chkK S l else false
def St.okJ(S:St)(J:List Key):Bool:=bif S.oks (S.rgs J)then(bif disR (S.rgs J)then(bif nodN (Key.slots J)then chkK S J else false)else false)else false
def St.into(S:St):St:=⟨S.F,S.H,S.nb,S.al,[]⟩
def subR(n:Nat)(al:List Rg):List Rg→Bool
 |[]=>true
 |q::l=>bif (bif zbf q.1 n then covs q.1 q.2.1 al (q.2.2-q.2.1)else true)then subR n al l else false
def tk(S:St)(J:List Key)(ss:List Src):Bool:=bif nodN (ownS ss)then tkI S.H.length (S.eat J) (ownS ss)else false
where tkI (n:Nat) (e:List Nat):List Nat→Bool
 |[]=>true
 |id::l=>bif (bif Nat.ble n id then true else aws id e)then tkI n e l else false
def leaf(S:St)(J:List Key)(S2:St):Option (keyT J).T:=match rdK S.ix S2.at S2.H J with
 |some (v,ss)=>bif tk S J ss then(bif subR S.H.length (S.rgs J) S2.m then some v else none)else none
 |none=>none
def St.out(S:St)(J:List Key)(w:List Nat)(v:(keyT J).T):St:=match putK S.ix (del S.F w,kill (arp S.H (rgK S.ix J)) (S.eat J)) J v with
 |(F,H)=>⟨F,H,S.nb,S.al,S.rgs J++S.m⟩
def St.head(S:St)(J:List Key)(w:List Nat)(v:(keyT J).T):St:=match putK S.ix (del S.F w,kill (arp S.H (rgK S.ix J)) (S.eat J)) J v with
 |(F,H)=>⟨F,H,S.nb,S.al,[]⟩
def St.as(S2 S:St)(J:List Key):St:=⟨S2.F,S2.H,S2.nb,S2.al,S2.m++(S.rgs J++S.m)⟩
section
variable (C : Cx) (τ : Ty) (res : St → Option τ.T)
def dstOk(d:Option Nat)(v:SV):Bool:=match d,v with
 |none,.u'=>true
 |none,_=>false
 |some _,.u'=>false
 |some _,_=>true
def St.run(S:St)(d:Option Nat)(v:SV)(H:List Ob)(m:List Rg):Option St:=bif dstOk d v then(bif S.oks m then some (St.setO ⟨S.F,H,S.nb,S.al,m++S.m⟩ d v)else none)else none
def ixS(ss:List Src)(j:Nat):Nat:=match amb ss j with
 |some (.o' id _)=>id
 |_=>0
def Rk.ids:List Rk→List Nat
 |[]=>[]
 |k::l=>match k with
  |.r' _=>Rk.ids l
  |.o' id _ _=>id::Rk.ids l
  |.w' id _=>id::Rk.ids l
def azo(outs:List Nat):List Ob→Nat→List Src→List Nat
 |[],_,_=>[]
 |_::_,_,[]=>[]
 |o::obs,j,s::ss=>(bif aqf (some o)then(bif aws j outs then []else s.own)else [])++azo outs obs (j+1) ss
def outIds(ss:List Src):List Nat→List Nat
 |[]=>[]
 |j::l=>ixS ss j::outIds ss l
def callM(c:Con)(S:St)(a:(tupT c.a).T)(ss:List Src):List Rg:=aod S.H (azo (Rk.ids c.r) (ata [] c.a a).2 0 ss)++cellsL S.H (outIds ss (Rk.ids c.r))
def callS(c:Con)(S:St)(d:Option Nat)(a:(tupT c.a).T)(ss:List Src)(y:(resT c.r).T):St:=
 match putR (ixS ss) ([],kill S.H (azo (Rk.ids c.r) (ata [] c.a a).2 0 ss)) c.r y with
 |(l,H)=>St.setO ⟨S.F,H,S.nb,S.al,callM c S a ss++S.m⟩ d (resV l)
def Ty.nb:Ty→Bool
 |.w' x=>x.nb
 |.pr x y=>bif x.nb then y.nb else false
 |.r' _=>false
 |.p' _ x=>x.nb
 |.f' _ x=>x.nb
 |_=>true
def rkOk(H:List Ob)(ss:List Src):List Rk→Bool
 |[]=>true
 |k::l=>bif (match k with
  |.r' x=>bif x.tz then false else x.nb
  |.o' j e x=>bif x.nb then(match amb ss j with
   |some (.o' id w)=>bif w then(match amb H id with
    |some (.bl e2 cs)=>bif zau e2 e then zau cs.length x.cn else false
    |_=>false)else false
   |_=>false)else false
  |.w' j x=>(match amb ss j with
   |some (.o' id w)=>bif w then aqf (amb H id)else false
   |_=>false))then rkOk H ss l else false
def callOk(c:Con)(S:St)(a:(tupT c.a).T)(ss:List Src):Bool:=
 bif nodN (ownS ss)then(bif disN (borS ss) (ownS ss)then(bif rkOk S.H ss c.r then S.oks (callM c S a ss)else false)else false)else false
def callL{ρ:Ty}(S:St)(d:Option Nat)(vs:List SV)(κ:St→Option ρ.T):List Con→Option ρ.T
 |[]=>none
 |c::l=>match rdA S.H c.a vs with
  |some (a,ss)=>bif callOk c S a ss then(c.f a).bd fun y=>κ (callS c S d a ss y)else none
  |none=>callL S d vs κ l
def callD{ρ:Ty}(S:St)(d:Option Nat)(k:Nat)(vs:List SV)(κ:St→Option ρ.T):Option ρ.T:=callL S d vs κ (C.X k)
def fnV:SV→Option (Nat×List Nat)
 |.c' (.f' k ids)=>some (k,ids)
 |_=>none
def capV:List Nat→List SV
 |[]=>[]
 |id::l=>.c' (.p' id 0)::capV l
def run1{ρ:Ty}(S:St)(d:Option Nat)(op:Op)(κ:St→Option ρ.T):Option ρ.T:=
 match opM C (S.ev C) S.H op with
 |some ⟨g,v,H,m⟩=>match S.run d v H m with
  |some S2=>gdL g (κ S2)
  |none=>none
 |none=>match op with
  |.call c=>match c.callee with
   |.value f=>match fnV (S.ev C f)with
    |some (k,ids)=>callD C S d k (c.args.toList.map (S.ev C)++capV ids) κ
    |none=>none
   |_=>none
  |_=>none
def isG(ops:List Oper)(i:Nat):Bool:=match ops with
 |[]=>false
 |o::l=>match o.guard with
  |some q=>bif zau q.1 i then true else isG l i
  |none=>isG l i
def brB{ρ:Type}(v:SV)(y n:Option ρ):Option ρ:=match v with
 |.c' (.b' x)=>bif x then y else n
 |.c' (.d' p h)=> @ite _ p h y n
 |.c' (.e' p h)=> @ite _ p h n y
 |_=>none
def isMove:Op→Option Operand
 |.move x=>some x
 |.assign x=>some x
 |_=>none
def run2{ρ:Ty}(ops:List Oper)(i:Nat)(S:St)(o:Oper)(κ:St→Option ρ.T):Option ρ.T:=
 bif isG ops i then(match isMove o.op with
  |some x=>match o.dst with
   |some d=>brB (S.ev C x) (κ (S.set d (.c' (.b' true)))) (κ (S.set d (.c' (.b' false))))
   |none=>none
  |none=>run1 C S o.dst o.op κ)
 else run1 C S o.dst o.op κ
def beqB(a b:Bool):Bool:=bif a then b else !b
def gdst(ops:List Oper)(i:Nat):Option Nat:=match amb ops i with
 |some o=>o.dst
 |none=>none
def run3{ρ:Ty}(ops:List Oper)(i:Nat)(S:St)(o:Oper)(κ:St→Option ρ.T):Option ρ.T:=
 match o.guard with
 |none=>run2 C ops i S o κ
 |some q=>match gdst ops q.1 with
  |some dg=>bif zbf dg C.nn then(match S.at dg with
   |.c' (.b' x)=>bif beqB x q.2 then run2 C ops i S o κ else(match o.dst with
    |some d=>κ (S.set d .n')
    |none=>none)
   |.n'=>(match o.dst with
    |some d=>κ (S.set d .n')
    |none=>none)
   |_=>none)else none
  |none=>none
def opsD{ρ:Ty}(ops:List Oper):List Oper→Nat→St→(St→Option ρ.T)→Option ρ.T
 |[],_,S,κ=>κ S
 |o::l,i,S,κ=>run3 C ops i S o fun S2=>opsD ops l (zbh i) S2 κ
def opndS:List Operand→List Nat
 |[]=>[]
 |x::l=>match x with
  |.tmp t=>t::opndS l
  |_=>opndS l
def quietO:Op→Bool
 |.move _=>true
 |.assign _=>true
 |.pick _ _ _=>true
 |.binOp _ _ _ _ _=>true
 |.unOp _ _ _=>true
 |.convert _ t _=> !isSl C t
 |.index _ _ _=>true
 |.slice t _ _ _ _=>aqe C t
 |.extract _ _=>true
 |.field _ _ _=>true
 |.build _ _=>true
 |.fieldAddr _ _ _=>true
 |.load _ _=>true
 |.indexAddr _ _ _=>true
 |.makeFunc _ _ _=>true
 |.nilCheck _=>true
 |.call c=>match c.callee with
  |.builtin .len=>true
  |.builtin .min=>true
  |.builtin .max=>true
  |_=>false
 |_=>false
def axt:SV→List Nat
 |.c' (.p' id _)=>[id]
 |.c' (.q' id _ _ _)=>[id]
 |.c' (.l' id)=>[id]
 |.c' (.k' id _)=>[id]
 |_=>[]
def footL(ev:Operand→SV):List Operand→List Nat
 |[]=>[]
 |x::l=>axt (ev x)++footL ev l
def footO(ev:Operand→SV):Op→List Nat
 |.load _ x=>axt (ev x)
 |.indexAddr _ x _=>axt (ev x)
 |.convert _ _ x=>axt (ev x)
 |.call c=>footL ev c.args.toList
 |_=>[]
def fsts(n:Nat):List Rg→List Nat
 |[]=>[]
 |q::l=>match n with
  |0=>[]
  |n+1=>q.1::fsts n l
def lenR:List Rg→Nat
 |[]=>0
 |_::l=>zbh (lenR l)
def flatA:List Ty→Bool
 |[]=>true
 |x::l=>bif zau x.no 0 then flatA l else false
def flatR:List Rk→Bool
 |[]=>true
 |k::l=>match k with
  |.r' x=>bif zau x.no 0 then flatR l else false
  |_=>false
def flatX:List Con→Bool
 |[]=>true
 |c::l=>bif flatA c.a then(bif flatR c.r then flatX l else false)else false
def qt(op:Op):Bool:=bif quietO C op then true else(match op with
 |.call c=>(match c.callee with
  |.value (.func k)=>flatX (C.X k)
  |_=>false)
 |_=>false)
def entry(S S2:St)(o:Oper):Bool×List Nat:=bif qt C o.op then(false,footO (S.ev C) o.op)else(true,fsts (Nat.sub (lenR S2.m) (lenR S.m)) S2.m)
def opsT{ρ:Ty}(ops:List Oper):List Oper→Nat→St→List (Bool×List Nat)→(St→List (Bool×List Nat)→Option ρ.T)→Option ρ.T
 |[],_,S,tr,κ=>κ S tr
 |o::l,i,S,tr,κ=>run3 C ops i S o fun S2=>opsT ops l (zbh i) S2 (tr++[entry C S S2 o]) κ
def uniN:List Nat→List Nat→List Nat
 |[],r=>r
 |x::l,r=>bif aws x r then uniN l r else uniN l (x::r)
def ancO(A:List (List Nat)):List Edge→List Nat
 |[]=>[]
 |e::l=>bif Region.binds .any e then uniN (e.on::(match amb A e.on with
  |some a=>a
  |none=>[])) (ancO A l)else ancO A l
def ancs:List Oper→List (List Nat)→List (List Nat)
 |[],A=>A
 |o::l,A=>ancs l (A++[ancO A o.after.toList])
def asz(A:List (List Nat))(i:Nat):List Nat:=match amb A i with
 |some a=>a
 |none=>[]
def backE:List Oper→Nat→Bool
 |[],_=>true
 |o::l,i=>bif o.after.toList.all (fun e=>bif Region.binds .any e then zbf e.on i else true)then backE l (zbh i)else false
def gslot(ops:List Oper)(o:Oper):List Nat:=match o.guard with
 |some q=>(match gdst ops q.1 with
  |some d=>[d]
  |none=>[])
 |none=>[]
def ordd(A:List (List Nat))(i j:Nat):Bool:=bif aws i (asz A j)then true else aws j (asz A i)
def opndOk(A:List (List Nat))(i:Nat)(rd:List Nat):List Oper→Nat→Bool
 |[],_=>true
 |o::l,j=>bif (match o.dst with
  |some d=>bif aws d rd then(bif zau i j then true else ordd A i j)else true
  |none=>true)then opndOk A i rd l (zbh j)else false
def opndsOk(ops:List Oper)(A:List (List Nat))(all:List Oper):List Oper→Nat→Bool
 |[],_=>true
 |o::l,i=>bif opndOk A i (opndS o.op.operands.toList++gslot ops o) all 0 then opndsOk ops A all l (zbh i)else false
def memOk1(A:List (List Nat))(i:Nat)(q:Bool×List Nat):List (Bool×List Nat)→Nat→Bool
 |[],_=>true
 |p::l,j=>bif (bif zau i j then true else(bif ordd A i j then true else(bif p.1 then(bif q.1 then false else disN q.2 p.2)else true)))then memOk1 A i q l (zbh j)else false
def memOk(A:List (List Nat))(all:List (Bool×List Nat)):List (Bool×List Nat)→Nat→Bool
 |[],_=>true
 |q::l,i=>bif memOk1 A i q all 0 then memOk A all l (zbh i)else false
def atz{α:Type}:List α→Nat→List α
 |[],_=>[]
 |x::l,k=>match k with
  |0=>[]
  |k+1=>x::atz l k
def drawK(ops:Array Oper):Nat→Option Nat
 |0=>bif auv ops 0 then some 0 else none
 |k+1=>bif auv ops (zbh k)then(match drawK ops k with
  |some j=>some j
  |none=>some (zbh k))else none
def drawnD{ρ:Ty}(ops:Array Oper)(S:St)(κ:St→Option ρ.T):Option ρ.T:=bif C.P.follows .mixedOrders then(match drawK ops ops.size with
 |some k=>(fun l=>(fun A=>bif Region.seqB .any ops (Nat.sub ops.size k) k (List.replicate k true++List.replicate (Nat.sub ops.size k) false).toArray then(bif backE l 0 then(bif nodN (wrO l)then(bif opndsOk ops.toList A l l 0 then
   opsT C ops.toList l 0 S [] (fun S2 tr=>bif memOk A tr tr 0 then opsD C ops.toList (ldrop ops.toList k) k S2 κ else none)else none)else none)else none)else none) (ancs l [])) (atz ops.toList k)
 |none=>none)else none
abbrev Dn(τ:Ty):=Sc→St→(ρ:Ty)→(τ.T→Option ρ.T)→(Ex→St→Option ρ.T)→Option ρ.T
def dSkip:Dn τ:=fun _ S _ _ κ=>κ .nm S
def dNone:Dn τ:=fun _ _ _ _ _=>none
def dRegion(ops:Array Oper)(d:Bool):Dn τ:=fun _ S _ _ κ=>bif d then drawnD C ops S (fun S2=>κ .nm S2)else opsD C ops.toList ops.toList 0 S fun S2=>κ .nm S2
def thenK{ρ:Type}(κ:Ex→St→Option ρ)(f:St→Option ρ):Ex→St→Option ρ
 |.nm,S=>f S
 |.xt i,S=>κ (.xt i) S
def noK{ρ:Type}:Ex→St→Option ρ:=fun _ _=>none
def leafR(S:St)(J:List Key)(S2:St):Option (Ty.sm (keyT J) τ).T:=match leaf S J S2 with
 |some v=>some (.inl v)
 |none=>none
def azr(ops:List Oper):List Nat→St→St
 |[],S=>S
 |i::R,S=>azr ops R (match amb ops i with
  |some o=>(match o.dst with
   |some d=>(match opP C (S.ev C) S.H o.op with
    |some ⟨[],v,_,_⟩=>S.set d v
    |_=>S)
   |none=>S)
  |none=>S)
def ayc:Code→List Oper
 |.region _ ops d=>bif d then []else ops.toList
 |_=>[]
def isPure:Op→Bool
 |.move _=>true
 |.assign _=>true
 |.binOp _ _ _ _ _=>true
 |.unOp _ _ _=>true
 |.convert _ _ _=>true
 |.index _ _ _=>true
 |.extract _ _=>true
 |.field _ _ _=>true
 |.build _ _=>true
 |.fieldAddr _ _ _=>true
 |.slice _ _ _ _ _=>true
 |_=>false
def okR1(ops:List Oper)(i:Nat):Bool:=match amb ops i with
 |some o=>bif o.guard.isNone then(bif isPure o.op then(match o.dst with
  |some d=>(bif aws d (wrO (ldrop ops (zbh i)))then false else disN (opndS o.op.operands.toList) (d::wrO (ldrop ops (zbh i))))
  |none=>false)else false)else false
 |none=>false
def okR(ops:List Oper):List Nat→Bool
 |[]=>true
 |i::R=>bif okR1 ops i then okR ops R else false
def dSeq(x:Code)(w:List Nat)(a b:Dn τ):Dn τ:=fun sc S ρ ps κ=>match sc with
 |.j' J R sa sb=>bif S.okJ J then(bif okR (ayc x) R then Option.bind (a sa S.into (keyT J) (fun _=>none) (thenK noK (leaf S J))) fun v=>b sb (azr C (ayc x) R (S.out J w v)) ρ ps κ else none)else none
 |.r' J R sa sb=>bif S.okJ J then(bif okR (ayc x) R then Option.bind (a sa S.into (.sm (keyT J) τ) (fun r=>some (.inr r)) (thenK noK (leafR τ S J))) fun j=>zaD (fun v=>b sb (azr C (ayc x) R (S.out J w v)) ρ ps κ) (fun q=>ps q) j else none)else none
 |sc=>a sc.A S ρ ps (thenK κ fun S2=>b sc.B S2 ρ ps κ)
def dCond(c:Operand)(a b:Dn τ):Dn τ:=fun sc S ρ ps κ=>match sc with
 |.y' sa=>brB (S.ev C c) (a sa S ρ ps κ) none
 |.z' sb=>brB (S.ev C c) none (b sb S ρ ps κ)
 |sc=>brB (S.ev C c) (a sc.A S ρ ps κ) (b sc.B S ρ ps κ)
def hereK{ρ:Type}(id:Nat)(κ:Ex→St→Option ρ):Ex→St→Option ρ
 |.nm,S=>κ .nm S
 |.xt i,S=>bif zau i id then κ .nm S else κ (.xt i) S
def dBlock(id:Nat)(a:Dn τ):Dn τ:=fun sc S ρ ps κ=>a sc S ρ ps (hereK id κ)
def backK{ρ:Type}{T:Type}(lf:St→Option T)(g:T→Option ρ)(S:St):Option ρ:=match lf S with
 |some v=>g v
 |none=>none
def dLoop(w:List Nat)(a:Dn τ):Dn τ:=fun sc S ρ ps κ=>match sc with
 |.l' J sa=>bif S.okJ J then(match leaf S J S.into with
  |some v=>loopF (fun g v=>a sa (S.head J w v) ρ ps (thenK (fun e S2=>κ e (S2.as S J)) (backK (leaf S J) g))) C.fu v
  |none=>none)else none
 |_=>none
def dRet:Dn τ:=fun _ S _ ps _=>match res S with
 |some r=>ps r
 |none=>none
noncomputable def den(c:Code):Dn τ:=Code.rec (motive:=fun _=>Dn τ) (dSkip τ) (fun _ ops d=>dRegion C τ ops d) (fun x _ a b=>dSeq C τ x (wr x) a b) (fun c _ _ a b=>dCond C τ c a b) (fun id _ a=>dBlock τ id a) (fun x a=>dLoop C τ (wr x) a) (fun _ _ _ _ _ _=>dNone τ)
 (fun id _ S _ _ κ=>κ (.xt id) S) (fun _ a=>a) (fun _=>dSkip τ) (fun _=>dNone τ) (dRet τ res) (fun _=>dNone τ) c
end
def resOf(C:Cx)(S:St):ResultVar→SV
 |.tmp t=>bif zbf t C.nn then S.at t else .u'
 |.cell a t=>match bif zbf a C.nn then S.at a else .u' with
  |.c' x=>match opLoad C S.H t x with
   |some ⟨[],v,_,_⟩=>v
   |_=>.u'
  |_=>.u'
def resD(C:Cx)(nb:Nat)(al:List Rg)(rs:List ResultVar)(r:List Rk)(S:St):Option (resT r).T:=match rdR S.H r (rs.map (resOf C S))with
 |some (x,ss)=>bif St.take ⟨S.F,S.H,nb,al,[]⟩ ss then(bif disN (ownS ss) (Rk.ids r)then some x else none)else none
 |none=>none
def endK{ρ:Type}(res:St→Option ρ):Ex→St→Option ρ
 |.nm,S=>res S
 |.xt _,_=>none
def setL(F:Tr SV):Nat→List SV→Tr SV
 |_,[]=>F
 |t,v::vs=>setL (F.set t v) (t+1) vs
def alOf(r:List Rk):List Ob→List Ob→Nat→List Rg
 |_,[],_=>[]
 |H,o::l,j=>(bif aqf (some o)then [(j,0,1)]else(bif aws j (Rk.ids r)then [cellsO H j]else []))++alOf r H l (j+1)
def st0(gs:List Ob)(a:List Ty)(r:List Rk)(x:(tupT a).T):St:=match ata [] a x with
 |(vs,H)=>⟨setL Tr.e 0 vs,H++gs,(H++gs).length,alOf r H H 0,[]⟩
def isRowT:Ty→Bool
 |.l' _ _ _=>true
 |.y'=>true
 |_=>false
def outsK(H:List Ob):List Rk→Bool
 |[]=>true
 |k::l=>bif (match k with
  |.r' _=>true
  |.o' id e x=>(match amb H id with
   |some (.bl e2 cs)=>bif zau e2 e then zau cs.length x.cn else false
   |_=>false)
  |.w' id x=>bif aqf (amb H id)then isRowT x else false)then outsK H l else false
def noTz:List Ty→Bool
 |[]=>true
 |x::l=>bif x.tz then false else noTz l
def denF(C:Cx)(gs:List Ob)(c:Code)(rs:List ResultVar)(sc:Sc)(a:List Ty)(r:List Rk)(x:(tupT a).T):Option (resT r).T:=
 match st0 gs a r x with
 |⟨F,H,nb,al,m⟩=>bif (bif noTz a then(bif nodN (Rk.ids r)then outsK (ata [] a x).2 r else false)else false)then den C (resT r) (resD C nb al rs r) c sc ⟨F,H,nb,al,m⟩ (resT r) some (endK (resD C nb al rs r))else none
end
end Go.Oe
namespace Go.Ce
open Go.Wk
open List renaming length_map → zaF
open Nat renaming beq → zau, eq_of_beq_eq_true → zaf, lt_succ_self → zbc
theorem bi_ite{α:Type}(c:Bool)(x y:α):bi c x y=if c=true then x else y:=by cases c<;>rfl
theorem beq_dec(a b:Nat):(zau a b=true)=(a=b):=propext ⟨zaf,fun h=>by subst h;exact Nat.beq_refl a⟩
def Pk.val:Pk→Nat
 |.h=>0
 |.o p=>2*p.val+2
 |.i p=>2*p.val+1
theorem pkF_val:∀(f k:Nat),k<f→(pkF f k).val=k
 |0,k,h=>by omega
 |f+1,k,h=>by
  show(bi (zau k 0) Pk.h (bi (zau (k%2) 1) (Pk.i (pkF f (k/2))) (Pk.o (pkF f (k/2-1))))).val=k
  simp only [bi_ite,beq_dec]
  by_cases h0:k=0
  ·rw [if_pos h0,h0];rfl
  ·rw [if_neg h0]
   by_cases h1:k%2=1
   ·rw [if_pos h1]
    show 2*(pkF f (k/2)).val+1=k
    rw [pkF_val f _ (by omega)];omega
   ·rw [if_neg h1]
    show 2*(pkF f (k/2-1)).val+2=k
    rw [pkF_val f _ (by omega)];omega
theorem pk_val(k:Nat):(pk k).val=k:=pkF_val (k+1) k (zbc k)
theorem pk_inj{k k':Nat}(h:pk k=pk k'):k=k':=by rw [←pk_val k,h,pk_val]
theorem azm{α:Type}(x:α):∀(p:Pk) (t:Tr α),Tr.getP p (Tr.setP x p t)=some x
 |.h,t=>rfl
 |.o p,t=>azm x p t.R
 |.i p,t=>azm x p t.L
theorem get_setP_ne{α:Type}(x:α):∀(p q:Pk) (t:Tr α),q≠p→Tr.getP q (Tr.setP x p t)=Tr.getP q t
 |.h,.h,t,h=>absurd rfl h
 |.h,.o q,t,_=>rfl
 |.h,.i q,t,_=>rfl
 |.o p,.h,t,_=>rfl
 |.o p,.o q,t,h=>get_setP_ne x p q t.R fun e=>h (by rw [e])
 |.o p,.i q,t,_=>rfl
 |.i p,.h,t,_=>rfl
 |.i p,.o q,t,_=>rfl
 |.i p,.i q,t,h=>get_setP_ne x p q t.L fun e=>h (by rw [e])
theorem Tr.get_set{α:Type}(t:Tr α)(k k':Nat)(x:α):(t.set k x).get k'=if k'=k then some x else t.get k':=by
 by_cases h:k'=k
 ·subst h
  rw [if_pos rfl]
  exact azm x _ _
 ·rw [if_neg h]
  exact get_setP_ne x _ _ _ fun e=>h (pk_inj e)
theorem getP_e{α:Type}:∀p:Pk,Tr.getP p (.e:Tr α)=none
 |.h=>rfl
 |.o p=>getP_e p
 |.i p=>getP_e p
theorem Tr.get_e{α:Type}(k:Nat):(Tr.e:Tr α).get k=none:=getP_e _
section
variable {α : Type}
end
abbrev En:=Nat→Nat×Nat
def Cp.re(E:En)(j:Nat):Cp→Nat
 |.k c=>c
 |.r off=>(E j).2-off
def SC.re(E:En):SC→Value
 |.b x=>.bool x
 |.i k n=>.int k (k.wrap (n:Int))
 |.s l x=>str (dec l x)
 |.np=>.pointer none
 |.ns=>.slice none 0 0
 |.nf=>.nilFunc
 |.ni=>.nilIface
 |.p j off=>.pointer (some ⟨(E j).1,off,none⟩)
 |.g j off=>.pointer (some ⟨j,off,none⟩)
 |.sl j base n c=>.slice (some ⟨(E j).1,base,none⟩) n (c.re E j)
 |.fn f cs=>.func (.func f) #[] (cs.map fun j=>Value.pointer (some ⟨(E j).1,0,none⟩)).toArray
 |.y j=>.func (.yield (E j).1) #[] #[]
 |.m j=>.map (some (E j).1)
 |.z j base dd off=>.slice (some ⟨(E j).1,if(E j).2-off=0 then base else base+dd,none⟩) 0 ((E j).2-off)
def SA.re(E:En):SA→Value
 |.c x=>x.re E
 |.a l=>.agg (l.map (SC.re E)).toArray
def SV.re(E:En):SV→Value
 |.c x=>x.re E
 |.a l=>.agg (l.map (SC.re E)).toArray
 |.t l=>.tuple (l.map (SA.re E)).toArray
 |.u=>undef
def SC.ok(n:Nat):SC→Prop
 |.p j _=>j<n
 |.sl j _ _ _=>j<n
 |.fn _ cs=>∀j∈cs,j<n
 |.y j=>j<n
 |.m j=>j<n
 |.z j _ _ _=>j<n
 |_=>True
def SA.ok(n:Nat):SA→Prop
 |.c x=>x.ok n
 |.a l=>∀x∈l,x.ok n
def SV.ok(n:Nat):SV→Prop
 |.c x=>x.ok n
 |.a l=>∀x∈l,x.ok n
 |.t l=>∀x∈l,x.ok n
 |.u=>True
noncomputable def tv(F:Tr SV)(t:Nat):SV:=(F.get t).getD .u
noncomputable def rF(E:En)(F:Tr SV):Nat→Value:=fun t=>(tv F t).re E
def Fok(n:Nat)(F:Tr SV):Prop:=∀t v,F.get t=some v→v.ok n
theorem Fok.set{n:Nat}{F:Tr SV}(h:Fok n F)(d:Nat){v:SV}(hv:v.ok n):Fok n (F.set d v):=by
 intro t x hx
 rw [Tr.get_set]at hx
 split at hx
 ·cases hx;exact hv
 ·exact h t x hx
def Mo.ok(md:Mo)(cap len size:Nat)(fz:Nat×Nat):Prop:=
 match md with
 |.ex=>size=len∧fz=(0,0)
 |.rw sz m=>len=m*sz∧m≤cap∧cap≤maxLen∧size=cap*sz∧fz=(0,0)
 |.bw=>len≤cap∧cap≤size∧size≤fz.1
 |.fb=>size=len∧size≤fz.1
def cres(b cap t:Nat)(md:Mo)(xs:List Value):Res:=
 ⟨some b,fun o=>∃cur t' fz,o=some (.cells cur t' fz)∧(md=.bw∨t'=t)∧xs.length≤cur.size∧cur.toList.take xs.length=xs∧md.ok cap xs.length cur.size fz⟩
def lpres(b:Nat)(busy:Bool)(j k:Nat)(ps:List Nat)(asg body:Code)(F:Nat→Value):Res:=
 ⟨some b,fun o=>∃rc:Loop,rc.assign=asg∧rc.body=body∧rc.params=ps.toArray∧rc.tmps=(fr ⟨k,[],some none⟩ F).tmps∧
  (match busy with
  |false=>o=some (.loop {rc with state:=lst j,pending:=jmp j})
  |true=>∃pd,o=some (.loop {rc with state:=.busy,pending:=pd}))⟩
def mpres(b:Nat)(l:List (Value×Value)):Res:=⟨some b,fun o=>∃es clock,o=some (.map es clock)∧es.toList.map (fun e=>(e.key,e.val))=l⟩
noncomputable def resOf(E:En)(i:Nat):HB→Res
 |.cl t md xs=>cres (E i).1 (E i).2 t md (xs.map (SC.re E))
 |.it l x pos=>sit (E i).1 (dec l x) pos
 |.lp busy j k ps asg body F=>lpres (E i).1 busy j k ps asg body (rF E F)
 |.df=>dfr (E i).1
 |.gn=>⟨none,fun _=>True⟩
 |.mp es=>mpres (E i).1 (es.map fun p=>(p.1.re E,p.2.re E))
def HB.ok(n:Nat):HB→Prop
 |.cl _ _ xs=>∀x∈xs,x.ok n
 |.lp _ _ _ _ _ _ F=>Fok n F
 |.mp es=>∀p∈es,p.1.ok n∧p.2.ok n
 |_=>True
noncomputable def hat(H:Hs)(i:Nat):HB:=(H.t.get i).getD .gn
noncomputable def resLs(E:En)(H:Hs):List Res:=(List.range H.nx).map fun i=>resOf E i (hat H i)
structure Inv (w0:World) (E:En) (H:Hs) (w:World):Prop where
 hp:Hp w0 [] (resLs E H) w
 lt:∀i b,H.t.get i=some b→i<H.nx
 ok:∀i b,H.t.get i=some b→b.ok H.nx
section
variable {w0 w : World} {E : En} {H : Hs}
theorem resLs_at{i:Nat}(hi:i<H.nx):(resLs E H)[i]? =some (resOf E i (hat H i)):=by simp [resLs,hi]
theorem Inv.at(h:Inv w0 E H w){i:Nat}{b:HB}(hb:H.t.get i=some b):(resLs E H)[i]? =some (resOf E i b):=by
 rw [resLs_at (h.lt i b hb)];simp [hat,hb]
theorem Inv.cells(h:Inv w0 E H w){i t:Nat}{md:Mo}{xs:List SC}(hb:H.t.get i=some (.cl t md xs)):
  ∃cur t' fz,w.heap[(E i).1]? =some (.cells cur t' fz)∧(md=.bw∨t'=t)∧xs.length≤cur.size∧cur.toList.take xs.length=xs.map (SC.re E)∧md.ok (E i).2 xs.length cur.size fz:=by
 have h1:=(h.hp.res _ (List.mem_of_getElem? (h.at hb))).1
 obtain⟨cur,t',fz,h2,h3,h4,h5,h6⟩:=h1
 simp only [zaF]at h4 h5 h6
 exact⟨cur,t',fz,h2,h3,h4,h5,h6⟩
end
end Go.Ce
namespace Go.Oe
open Go.Wk
open Go.Ce (Tr)
open List renaming append_assoc → zav, length_append → zab, map_append → zbg, map_congr_left → zbq, map_cons → zaE
open Nat renaming lt_of_lt_of_le → zbn, one_pos → zbr
theorem aau{α:Type}:∀(l:List α) (k:Nat),amb l k=l[k]?
 |[],_=>rfl
 |x::l,0=>rfl
 |x::l,k+1=>by rw [List.getElem?_cons_succ];exact aau l k
theorem lset_eq{α:Type}:∀(l:List α) (k:Nat) (y:α),asx l k y=l.set k y
 |[],_,_=>rfl
 |x::l,0,y=>rfl
 |x::l,k+1,y=>by simp [asx,lset_eq l k y]
theorem ldrop_eq{α:Type}:∀(l:List α) (k:Nat),ldrop l k=l.drop k
 |[],k=>by simp [ldrop]
 |x::l,0=>rfl
 |x::l,k+1=>by rw [List.drop_succ_cons];exact ldrop_eq l k
theorem ltake_some{α:Type}:∀{l:List α} {k:Nat} {q:List α},ltake l k=some q→q=l.take k∧k≤l.length
 |l,0,q,h=>by
  have:ltake l 0=some []:=by cases l<;>rfl
  rw [this]at h;cases h;simp
 |[],k+1,q,h=>by cases h
 |x::l,k+1,q,h=>by
  simp only [ltake]at h
  split at h
  ·rename_i q' h'
   cases h
   obtain⟨h1,h2⟩:=ltake_some h'
   exact⟨by simp [h1],by simpa using h2⟩
  ·cases h
theorem avu:∀{l:List SC} {k:Nat} {vs q:List SC},putC l k vs=some q→k+vs.length≤l.length∧q=l.take k++vs++l.drop (k+vs.length)
 |l,0,[],q,h=>by
  have:putC l 0 []=some l:=by cases l<;>rfl
  rw [this]at h;cases h;simp
 |[],0,v::vs,q,h=>by cases h
 |[],k+1,vs,q,h=>by cases vs<;>cases h
 |x::l,0,v::vs,q,h=>by
  simp only [putC]at h
  split at h
  ·rename_i q' h'
   cases h
   obtain⟨h1,h2⟩:=avu h'
   simp at h1 h2⊢
   exact⟨by omega,h2⟩
  ·cases h
 |x::l,k+1,vs,q,h=>by
  simp only [putC]at h
  split at h
  ·rename_i q' h'
   cases h
   obtain⟨h1,h2⟩:=avu h'
   refine⟨by simp;omega, ?_⟩
   rw [h2]
   simp [Nat.add_right_comm]
  ·cases h
theorem putC_get{l vs q:List SC}{k:Nat}(h:putC l k vs=some q)(j:Nat):q[j]? =if k≤j∧j<k+vs.length then vs[j-k]? else l[j]? :=by
 obtain⟨h1,rfl⟩:=avu h
 by_cases hj:j<k
 ·rw [if_neg (by omega),zav,List.getElem?_append_left (by simp;omega),List.getElem?_take,if_pos hj]
 ·by_cases hj2:j<k+vs.length
  ·rw [if_pos ⟨by omega,hj2⟩,List.getElem?_append_left (by simp;omega),List.getElem?_append_right (by simp;omega)]
   simp;congr 1;omega
  ·rw [if_neg (by omega),List.getElem?_append_right (by simp;omega),List.getElem?_drop]
   congr 1;simp;omega
theorem putC_len{l vs q:List SC}{k:Nat}(h:putC l k vs=some q):q.length=l.length:=by
 obtain⟨h1,rfl⟩:=avu h
 simp;omega
theorem knL_all:∀{l:List SC},knL l=true→∀x∈l,x.kn=true
 |[],_,x,hx=>by cases hx
 |y::l,h,x,hx=>by
  have h:=aex h
  rcases List.mem_cons.1 hx with rfl|hx
  ·exact h.1
  ·exact knL_all h.2 x hx
theorem nilV_one(j:Nat):(nilV j).oneCell'=true:=by
 unfold nilV;split<;>rfl
theorem SC.one(ρ:Nat→Ad)(c:SC):(c.v ρ).oneCell'=true:=by
 cases c<;>first|rfl|exact nilV_one _
theorem aun(H:List Ob)(id:Nat):lenH H id=(H[id]?.map Ob.len).getD 0:=by
 unfold lenH
 rw [aau]
 cases H[id]? <;>rfl
def SC.ids:SC→List Nat
 |.p' id _=>[id]
 |.q' id _ _ _=>[id]
 |.l' id=>[id]
 |.k' id _=>[id]
 |.f' _ ids=>ids
 |.z' id fl=>[id,fl]
 |_=>[]
theorem SC.v_ext{ρ ρ2:Nat→Ad}{c:SC}(h:∀id∈c.ids,ρ2 id=ρ id):c.v ρ2=c.v ρ:=by
 cases c<;>simp only [SC.v]
 case p' id off=>rw [h id (by simp [SC.ids])]
 case q' id j sz off=>rw [h id (by simp [SC.ids])]
 case l' id=>rw [h id (by simp [SC.ids])]
 case k' id n=>rw [h id (by simp [SC.ids])]
 case f' k ids=>
  have:(ids.map fun id=>bptr (ρ2 id).b 0)=ids.map fun id=>bptr (ρ id).b 0:=zbq fun id hid=>by rw [h id hid]
  rw [this]
 case z' id fl=>rw [h id (by simp [SC.ids]),h fl (by simp [SC.ids])]
def SC.ok(n:Nat)(c:SC):Prop:=∀id∈c.ids,id<n
def SA.ok(n:Nat):SA→Prop
 |.c' x=>x.ok n
 |.a' l=>∀x∈l,x.ok n
def SV.ok(n:Nat):SV→Prop
 |.c' x=>x.ok n
 |.a' l=>∀x∈l,x.ok n
 |.t' l=>∀x∈l,x.ok n
 |_=>True
def Up(n:Nat)(ρ ρ2:Nat→Ad):Prop:=∀id,id<n→ρ2 id=ρ id
theorem Up.refl{n:Nat}{ρ:Nat→Ad}:Up n ρ ρ:=fun _ _=>rfl
theorem Up.trans{n m:Nat}{ρ ρ2 ρ3:Nat→Ad}(h:Up n ρ ρ2)(h':Up m ρ2 ρ3)(hn:n≤m):Up n ρ ρ3:=
 fun id hi=>(h' id (by omega)).trans (h id hi)
theorem SC.up{n:Nat}{ρ ρ2:Nat→Ad}{c:SC}(hu:Up n ρ ρ2)(h:c.ok n):c.v ρ2=c.v ρ:=SC.v_ext fun id hi=>hu id (h id hi)
theorem scs_up{n:Nat}{ρ ρ2:Nat→Ad}{l:List SC}(hu:Up n ρ ρ2)(h:∀x∈l,x.ok n):l.map (SC.v ρ2)=l.map (SC.v ρ):=zbq fun x hx=>SC.up hu (h x hx)
theorem SA.up{n:Nat}{ρ ρ2:Nat→Ad}{c:SA}(hu:Up n ρ ρ2)(h:c.ok n):c.v ρ2=c.v ρ:=by
 cases c with
 |c' x=>exact SC.up hu h
 |a' l=>simp only [SA.v];rw [scs_up hu h]
theorem SV.up{n:Nat}{ρ ρ2:Nat→Ad}{c:SV}(hu:Up n ρ ρ2)(h:c.ok n):c.v ρ2=c.v ρ:=by
 cases c with
 |c' x=>simp only [SV.v];rw [SC.up hu h]
 |a' l=>simp only [SV.v];rw [scs_up hu h]
 |t' l=>
  simp only [SV.v]
  rw [zbq fun x hx=>SA.up hu (h x hx)]
 |_=>rfl
theorem SC.ok_mono{n m:Nat}{c:SC}(h:c.ok n)(hn:n≤m):c.ok m:=fun id hi=>zbn (h id hi) hn
theorem SV.ok_mono{n m:Nat}{c:SV}(h:c.ok n)(hn:n≤m):c.ok m:=by
 cases c with
 |c' x=>exact SC.ok_mono h hn
 |a' l=>exact fun x hx=>SC.ok_mono (h x hx) hn
 |t' l=>
  intro x hx
  have:=h x hx
  cases x with
  |c' y=>exact SC.ok_mono this hn
  |a' l=>exact fun y hy=>SC.ok_mono (this y hy) hn
 |_=>trivial
theorem SA.sv_v(ρ:Nat→Ad)(x:SA):x.sv.v ρ=some (x.v ρ):=by cases x<;>rfl
theorem SA.sv_ok{n:Nat}{x:SA}(h:x.ok n):x.sv.ok n:=by cases x<;>exact h
theorem SV.cells_v{ρ:Nat→Ad}{x:SV}{cs:List SC}(h:x.cells=some cs):∃v,x.v ρ=some v∧v.cells=(cs.map (SC.v ρ)).toArray:=by
 cases x with
 |c' x=>
  cases h
  refine⟨_,rfl, ?_⟩
  have:=SC.one ρ x
  rw [zaE,List.map_nil]
  generalize x.v ρ=v at this⊢
  cases v<;>first|rfl|simp [Value.oneCell']at this
 |a' l=>cases h;exact⟨_,rfl,rfl⟩
 |_=>cases h
theorem SV.cells_ok{n:Nat}{x:SV}{cs:List SC}(h:x.cells=some cs)(hx:x.ok n):∀c∈cs,c.ok n:=by
 cases x with
 |c' x=>cases h;intro c hc;simp at hc;subst hc;exact hx
 |a' l=>cases h;exact hx
 |_=>cases h
theorem Ty.enc_len:∀(t:Ty) (x:t.T),t.flat=true→(t.enc x).length=t.sz:=by
 intro t
 induction t with
 |w' t ih=>intro x h;exact ih x h
 |pr a b iha ihb=>
  intro x h
  have h:=aex h
  show(a.enc x.1++b.enc x.2).length=a.sz+b.sz
  rw [zab,iha _ h.1,ihb _ h.2]
 |i' k=>intro x h;rfl
 |c'=>intro x h;rfl
 |s'=>intro x h;rfl
 |b'=>intro x h;rfl
 |_=>intro x h;cases h
theorem Ty.enc_one:∀(t:Ty) (x:t.T),∀v∈t.enc x,v.oneCell'=true:=by
 intro t
 induction t with
 |w' t ih=>intro x;exact ih x
 |pr a b iha ihb=>
  intro x v hv
  rcases List.mem_append.1 (show v∈a.enc x.1++b.enc x.2 from hv)with h|h
  ·exact iha _ v h
  ·exact ihb _ v h
 |i' k=>intro x v hv;have:v=_:=List.mem_singleton.1 hv;subst this;rfl
 |c'=>intro x v hv;have:v=_:=List.mem_singleton.1 hv;subst this;rfl
 |s'=>intro x v hv;have:v=_:=List.mem_singleton.1 hv;subst this;rfl
 |b'=>intro x v hv;have:v=_:=List.mem_singleton.1 hv;subst this;rfl
 |_=>intro x v hv;cases hv
theorem Ty.encOk{t:Ty}(h:t.flat=true):Enc t.enc t.sz:=⟨fun x=>t.enc_len x h,fun x=>t.enc_one x⟩
theorem Ty.sz_pos:∀{t:Ty},t.flat=true→0<t.sz:=by
 intro t
 induction t with
 |w' t ih=>intro h;exact ih h
 |pr a b iha ihb=>intro h;have h:=aex h;have:=iha h.1;show 0<a.sz+b.sz;omega
 |_=>intro h;exact zbr
theorem Ty.lay_flat:∀(t:Ty) (s n:Nat) (x:t.T),t.flat=true→(t.lay s n x).2=[]∧∀ρ,(t.lay s n x).1.map (SC.v ρ)=t.enc x:=by
 intro t
 induction t with
 |w' t ih=>intro s n x h;exact ih s n x h
 |pr a b iha ihb=>
  intro s n x h
  have h:=aex h
  have h1:=iha s n x.1 h.1
  have h2:=ihb s (n+a.no) x.2 h.2
  refine⟨?_,fun ρ=> ?_⟩
  ·show(a.lay s n x.1).2++(b.lay s (n+a.no) x.2).2=[]
   rw [h1.1,h2.1];rfl
  ·show((a.lay s n x.1).1++(b.lay s (n+a.no) x.2).1).map (SC.v ρ)=a.enc x.1++b.enc x.2
   rw [zbg,h1.2,h2.2]
 |i' k=>intro s n x h;exact⟨rfl,fun _=>rfl⟩
 |c'=>intro s n x h;exact⟨rfl,fun _=>rfl⟩
 |s'=>intro s n x h;exact⟨rfl,fun _=>rfl⟩
 |b'=>intro s n x h;exact⟨rfl,fun _=>rfl⟩
 |_=>intro s n x h;cases h
theorem Ty.lay_plain:∀(t:Ty) (s n:Nat) (x:t.T),t.flat=true→∀c∈(t.lay s n x).1,c.ids=[]∧c.kn=true:=by
 intro t
 induction t with
 |w' t ih=>intro s n x h;exact ih s n x h
 |pr a b iha ihb=>
  intro s n x h c hc
  have h:=aex h
  rcases List.mem_append.1 (show c∈(a.lay s n x.1).1++(b.lay s (n+a.no) x.2).1 from hc)with hc|hc
  ·exact iha s n x.1 h.1 c hc
  ·exact ihb s _ x.2 h.2 c hc
 |i' k=>intro s n x h c hc;have:c=_:=List.mem_singleton.1 hc;subst this;exact⟨rfl,rfl⟩
 |c'=>intro s n x h c hc;have:c=_:=List.mem_singleton.1 hc;subst this;exact⟨rfl,rfl⟩
 |s'=>intro s n x h c hc;have:c=_:=List.mem_singleton.1 hc;subst this;exact⟨rfl,rfl⟩
 |b'=>intro s n x h c hc;have:c=_:=List.mem_singleton.1 hc;subst this;exact⟨rfl,rfl⟩
 |_=>intro s n x h c hc;cases h
theorem rI_v{k:IntKind}{x:SC}{y:Int}(h:x.rI k=some y)(ρ:Nat→Ad):x.v ρ=.int k y:=by
 cases x<;>simp only [SC.rI,reduceCtorEq]at h
 rename_i kk n
 cases hk:keq k kk with
 |true=>rw [hk]at h;cases h;rw [keq_eq hk];rfl
 |false=>rw [hk]at h;cases h
theorem rC_v{x:SC}{y:UInt8}(h:x.rC=some y)(ρ:Nat→Ad):x.v ρ=bt y:=by
 cases x<;>simp only [SC.rC,reduceCtorEq]at h;cases h;rfl
theorem rS_v{x:SC}{y:Str}(h:x.rS=some y)(ρ:Nat→Ad):x.v ρ=str y:=by
 cases x<;>simp only [SC.rS,reduceCtorEq]at h;cases h;rfl
theorem rB_v{x:SC}{y:Bool}(h:x.rB=some y)(ρ:Nat→Ad):x.v ρ=.bool y:=by
 cases x<;>simp only [SC.rB,reduceCtorEq]at h<;>cases h<;>rfl
theorem rd0_ok:∀(t:Ty) (l:List SC) (x:t.T) (r:List SC),t.rd0 l=some (x,r)→t.flat=true∧∀ρ,l.map (SC.v ρ)=t.enc x++r.map (SC.v ρ):=by
 intro t
 induction t with
 |w' t ih=>intro l x r h;exact ih l x r h
 |pr a b iha ihb=>
  intro l x r h
  simp only [Ty.rd0]at h
  split at h
  ·rename_i y1 l1 hp
   split at h
   ·rename_i y2 l2 hq
    cases h
    have h1:=iha l y1 l1 hp
    have h2:=ihb l1 y2 _ hq
    refine⟨by simp [Ty.flat,h1.1,h2.1],fun ρ=> ?_⟩
    rw [h1.2,h2.2,←zav];rfl
   ·cases h
  ·cases h
 |i' k=>
  intro l x r h
  cases l with
  |nil=>cases h
  |cons c l=>
   simp only [Ty.rd0]at h
   split at h
   ·rename_i y hy;cases h;exact⟨rfl,fun ρ=>by rw [zaE,rI_v hy];rfl⟩
   ·cases h
 |c'=>
  intro l x r h
  cases l with
  |nil=>cases h
  |cons c l=>
   simp only [Ty.rd0]at h
   split at h
   ·rename_i y hy;cases h;exact⟨rfl,fun ρ=>by rw [zaE,rC_v hy];rfl⟩
   ·cases h
 |s'=>
  intro l x r h
  cases l with
  |nil=>cases h
  |cons c l=>
   simp only [Ty.rd0]at h
   split at h
   ·rename_i y hy;cases h;exact⟨rfl,fun ρ=>by rw [zaE,rS_v hy];rfl⟩
   ·cases h
 |b'=>
  intro l x r h
  cases l with
  |nil=>cases h
  |cons c l=>
   simp only [Ty.rd0]at h
   split at h
   ·rename_i y hy;cases h;exact⟨rfl,fun ρ=>by rw [zaE,rB_v hy];rfl⟩
   ·cases h
 |_=>intro l x r h;cases h
theorem atr{t:Ty}:∀{m:Nat} {l:List SC} {xs:List t.T},rdAll t m l=some xs→xs.length=m∧(m≠0→t.flat=true)∧∀ρ,l.map (SC.v ρ)=xs.flatMap t.enc
 |0,l,xs,h=>by
  cases l with
  |nil=>cases h;exact⟨rfl,fun h=>absurd rfl h,fun _=>rfl⟩
  |cons c l=>cases h
 |m+1,l,xs,h=>by
  simp only [rdAll]at h
  split at h
  ·rename_i y l1 hp
   split at h
   ·rename_i q hq
    cases h
    obtain⟨h1,h2,h3⟩:=atr hq
    obtain⟨h4,h5⟩:=rd0_ok t l y l1 hp
    exact⟨by simp [h1],fun _=>h4,fun ρ=>by rw [h5,h3];rfl⟩
   ·cases h
  ·cases h
theorem elT_el(t:Ty)(l:List t.T)(j:Int):elT t l j= @el t.T t.inh l j:=by
 cases t<;>first|rfl|(show at_ _ _=_;rfl)
open List renaming append_assoc → zav, append_nil → zan, length_append → zab, length_cons → zac, map_append → zbg, map_cons → zaE, mem_cons_of_mem → zag, mem_cons_self → zah
open Nat renaming add_assoc → zaN, add_zero → zaK, beq → zau, eq_of_beq_eq_true → zaf, le_of_ble_eq_true → zaG, le_refl → zam, lt_succ_self → zbc
def Mat(ρ:Nat→Ad)(cs:List SC)(vs:List Value):Prop:=vs.length=cs.length∧∀(j:Nat) (c:SC),cs[j]? =some c→c.kn=true→vs[j]? =some (c.v ρ)
def ROk(w0:World)(S0:List Nat)(d:Ad)(t:Ty)(l:List t.T):Prop:=
 Rd w0 d.a (l.flatMap t.enc)∧(l.flatMap t.enc≠[]→∀p,d.a=some p→p.block∉S0)∧l.length≤d.cap
def RO(w0:World)(S0:List Nat)(ρ:Nat→Ad)(id:Nat):Ob→Res→Prop
 |.bl e cs,r=>∃vs,r=blk (ρ id).b vs e∧Mat ρ cs vs
 |.rw e _ t l,r=>r=rwt t.enc e t.sz (ρ id).o (ρ id).a (ρ id).cap l
 |.ro t l,r=>r.own=none∧ROk w0 S0 (ρ id) t l
 |.br n l,r=>r=brow (.slice (ρ id).a n (ρ id).cap) n l
 |.dd _,r=>True
def Mt(w0:World)(S0:List Nat)(ρ:Nat→Ad)(H:List Ob)(L:List Res):Prop:=
 L.length=H.length∧∀(id:Nat) (o:Ob),H[id]? =some o→o.len=(ρ id).ln∧∃r,L[id]? =some r∧RO w0 S0 ρ id o r
def Src.ad(ρ:Nat→Ad):Src→Ad
 |.o' id _=>ρ id
 |.n'=>⟨none,none,0,false,0⟩
 |.k' id m _=>⟨some (ρ id).b,some ⟨(ρ id).b,0,none⟩,m,false,m⟩
 |.z' t=>⟨none,none,0,t,0⟩
def SOk(any:Bool)(ρ:Nat→Ad)(H:List Ob)(ρ2:Nat→Ad):Src→Ob→Prop
 |s,.bl e cs2=>∃id cs,s=.o' id true∧H[id]? =some (.bl e cs)∧cs.map (SC.v ρ)=cs2.map (SC.v ρ2)∧(∀c∈cs,c.kn=true)∧∀c∈cs2,c.kn=true
 |s,.rw e b t l=>(∃id,s=.o' id true∧H[id]? =some (.rw e b t l))∨(s=.n'∧l=[])∨(∃id m cs,s=.k' id m true∧H[id]? =some (.bl e cs)∧rdAll t m cs=some l∧t.flat=true∧m≤1048576)
 |s,.br n l=>n=l.length∧∃id m,s=.o' id true∧H[id]? =some (.br m l)
 |s,.ro t l=>(∃id,s=.o' id false∧(bif any then anyOf t H[id]? else roOf t H[id]?)=some l)∨(s=.n'∧l=[])∨(any=true∧∃id m e cs,s=.k' id m false∧H[id]? =some (.bl e cs)∧rdAll t m cs=some l)
 |s,.dd n=>n=0∧((∃t,s=.z' t)∨∃fl,s=.o' fl false∧H[fl]? =some (.dd 0))
structure At (t:Ty) (ρ:Nat→Ad) (me:Nat) (ss:List Src) (ρ2:Nat→Ad) (self2 n:Nat):Prop where
 sf:t.tz=true→(ρ2 self2).b=(ρ me).b
 ad:∀(j:Nat) (s:Src),ss[j]? =some s→ρ2 (n+j)=s.ad ρ
theorem At.left{a b:Ty}{ρ:Nat→Ad}{self:Nat}{s1 s2:List Src}{ρ2:Nat→Ad}{self2 n:Nat}(h:At (.pr a b) ρ self (s1++s2) ρ2 self2 n):At a ρ self s1 ρ2 self2 n:=
 ⟨fun ht=>h.sf (by simp [Ty.tz,ht]),fun j s hj=>h.ad j s (by rw [List.getElem?_append_left (List.getElem?_eq_some_iff.1 hj).1];exact hj)⟩
theorem At.right{a b:Ty}{ρ:Nat→Ad}{self:Nat}{s1 s2:List Src}{ρ2:Nat→Ad}{self2 n:Nat}(h:At (.pr a b) ρ self (s1++s2) ρ2 self2 n):At b ρ self s2 ρ2 self2 (n+s1.length):=
 ⟨fun ht=>h.sf (by simp [Ty.tz,ht]),fun j s hj=>by
  rw [zaN]
  exact h.ad (s1.length+j) s (by rw [List.getElem?_append_right (by omega),←hj];congr 1;omega)⟩
theorem Ty.lay_len:∀(t:Ty) (s n:Nat) (x:t.T),(t.lay s n x).1.length=t.cn:=by
 intro t
 induction t with
 |w' t ih=>intro s n x;exact ih s n x
 |pr a b iha ihb=>
  intro s n x
  show((a.lay s n x.1).1++(b.lay s (n+a.no) x.2).1).length=a.cn+b.cn
  rw [zab,iha,ihb]
 |_=>intro s n x;rfl
theorem Ty.lay_no:∀(t:Ty) (s n:Nat) (x:t.T),(t.lay s n x).2.length=t.no:=by
 intro t
 induction t with
 |w' t ih=>intro s n x;exact ih s n x
 |pr a b iha ihb=>
  intro s n x
  show((a.lay s n x.1).2++(b.lay s (n+a.no) x.2).2).length=a.no+b.no
  rw [zab,iha,ihb]
 |p' e t ih=>
  intro s n x
  show(_::(t.lay n (n+1) x).2).length=t.no+1
  rw [zac,ih]
 |f' k t ih=>intro s n x;exact ih s n x
 |_=>intro s n x;rfl
theorem mem_ptrL:∀{l:List SC} {id:Nat},id∈ptrL l→∃c∈l,id∈c.ids
 |[],id,h=>by cases h
 |x::l,id,h=>by
  cases x
  case p' i off=>
   rcases List.mem_cons.1 (show id∈i::ptrL l from h)with h|h
   ·subst h;exact⟨_,zah,by simp [SC.ids]⟩
   ·obtain⟨c,h1,h2⟩:=mem_ptrL h;exact⟨c,zag _ h1,h2⟩
  all_goals
   obtain⟨c,h1,h2⟩:=mem_ptrL (show id∈ptrL l from h)
   exact⟨c,zag _ h1,h2⟩
theorem Ty.lay_ok:∀(t:Ty) (s n:Nat) (x:t.T),∀c∈(t.lay s n x).1,c.kn=true∧∀id∈c.ids,id=s∨(n≤id∧id<n+(t.lay s n x).2.length):=by
 intro t
 induction t with
 |w' t ih=>intro s n x;exact ih s n x
 |pr a b iha ihb=>
  intro s n x c hc
  have hl:((Ty.pr a b).lay s n x).2.length=a.no+(b.lay s (n+a.no) x.2).2.length:=by
   show((a.lay s n x.1).2++(b.lay s (n+a.no) x.2).2).length=_
   rw [zab,Ty.lay_no]
  have hla:=a.lay_no s n x.1
  rcases List.mem_append.1 (show c∈(a.lay s n x.1).1++(b.lay s (n+a.no) x.2).1 from hc)with hc|hc
  ·obtain⟨h1,h2⟩:=iha s n x.1 c hc
   refine⟨h1,fun id hi=> ?_⟩
   rcases h2 id hi with h|h
   ·exact .inl h
   ·right;rw [hl];omega
  ·obtain⟨h1,h2⟩:=ihb s _ x.2 c hc
   refine⟨h1,fun id hi=> ?_⟩
   rcases h2 id hi with h|h
   ·exact .inl h
   ·right;rw [hl];omega
 |f' k t ih=>
  intro s n x c hc
  have:c=_:=List.mem_singleton.1 hc
  subst this
  refine⟨rfl,fun id hi=> ?_⟩
  obtain⟨c2,h1,h2⟩:=mem_ptrL (show id∈ptrL (t.lay s n x).1 from hi)
  exact(ih s n x c2 h1).2 id h2
 |p' e t ih=>
  intro s n x c hc
  have:c=_:=List.mem_singleton.1 hc
  subst this
  refine⟨rfl,fun id hi=> ?_⟩
  have:id=n:=List.mem_singleton.1 hi
  subst this
  exact .inr ⟨zam _,by show id<id+(_::_:List Ob).length;simp⟩
 |l' e b t ih=>
  intro s n x c hc
  have:c=_:=List.mem_singleton.1 hc
  subst this
  refine⟨rfl,fun id hi=> ?_⟩
  have:id=n:=List.mem_singleton.1 hi
  subst this
  exact .inr ⟨zam _,zbc _⟩
 |r' t ih=>
  intro s n x c hc
  have:c=_:=List.mem_singleton.1 hc
  subst this
  refine⟨rfl,fun id hi=> ?_⟩
  have:id=n:=List.mem_singleton.1 hi
  subst this
  exact .inr ⟨zam _,zbc _⟩
 |y'=>
  intro s n x c hc
  have:c=_:=List.mem_singleton.1 hc
  subst this
  refine⟨rfl,fun id hi=> ?_⟩
  have:id=n:=List.mem_singleton.1 hi
  subst this
  exact .inr ⟨zam _,zbc _⟩
 |z'=>
  intro s n x c hc
  have:c=_:=List.mem_singleton.1 hc
  subst this
  refine⟨rfl,fun id hi=> ?_⟩
  have:id=s∨id=n:=by simpa [SC.ids] using hi
  rcases this with h|h
  ·exact .inl h
  ·subst h;exact .inr ⟨zam _,zbc _⟩
 |u'=>intro s n x c hc;cases hc
 |sm a b _ _=>intro s n x c hc;cases hc
 |_=>
  intro s n x c hc
  have:c=_:=List.mem_singleton.1 hc
  subst this
  exact⟨rfl,fun id hi=>by cases hi⟩
theorem ptrL_app:∀(a b:List SC),ptrL (a++b)=ptrL a++ptrL b
 |[],b=>rfl
 |x::a,b=>by
  have:=ptrL_app a b
  cases x<;>simp [ptrL,this]
theorem ptrs_lay:∀(t:Ty) (s n:Nat) (x:t.T),t.ptrs=true→(t.lay s n x).1=(ptrL (t.lay s n x).1).map fun id=>.p' id 0:=by
 intro t
 induction t with
 |pr a b iha ihb=>
  intro s n x h
  have h:=aex h
  show(a.lay s n x.1).1++(b.lay s (n+a.no) x.2).1=(ptrL ((a.lay s n x.1).1++(b.lay s (n+a.no) x.2).1)).map _
  rw [ptrL_app,zbg,←iha s n x.1 h.1,←ihb _ _ _ h.2]
 |p' e t ih=>intro s n x h;rfl
 |u'=>intro s n x h;rfl
 |_=>intro s n x h;cases h
theorem lenH_get{H:List Ob}{id:Nat}{o:Ob}(h:H[id]? =some o):lenH H id=o.len:=by rw [aun,h];rfl
theorem anyOf_len{t:Ty}{o:Option Ob}{l:List t.T}(hb:∀m x,o=some (.br m x)→x.length=m)(h:anyOf t o=some l):∃ob,o=some ob∧ob.len=l.length:=by
 unfold anyOf at h
 split at h
 ·rename_i e b t2 l2
  split at h
  ·rename_i hq
   obtain rfl:=Ty.eqb_eq hq
   cases h;exact⟨_,rfl,rfl⟩
  ·cases h
 ·rename_i t2 l2
  split at h
  ·rename_i hq
   obtain rfl:=Ty.eqb_eq hq
   cases h;exact⟨_,rfl,rfl⟩
  ·cases h
 ·rename_i m l2
  have:=hb m l2 rfl
  unfold strOf at h
  split at h
  ·rename_i hq
   obtain rfl:=Ty.eqb_eq hq
   cases h;exact⟨_,rfl,this.symm⟩
  ·cases h
 ·cases h
theorem roOf_some{t:Ty}{o:Option Ob}{l:List t.T}(h:roOf t o=some l):o=some (.ro t l):=by
 unfold roOf at h
 split at h
 ·rename_i t2 l2
  split at h
  ·rename_i hq
   obtain rfl:=Ty.eqb_eq hq
   cases h;rfl
  ·cases h
 ·cases h
theorem rwE_rowOf{t:Ty}{o:Option Ob}{q:Nat×Nat}{l:List t.T}(h:rwE o=some q)(h2:rowOf t o=some l):o=some (.rw q.1 q.2 t l):=by
 unfold rwE at h
 split at h
 ·rename_i e b t2 l2
  cases h
  unfold rowOf at h2
  simp only at h2
  split at h2
  ·rename_i hq
   obtain rfl:=Ty.eqb_eq hq
   cases h2;rfl
  ·cases h2
 ·cases h
theorem hd1_some{α:Type}{f:SC→Option α}{l r:List SC}{x:α}{ss:List Src}(h:hd1 f l=some (x,r,ss)):∃c,l=c::r∧f c=some x∧ss=[]:=by
 cases l with
 |nil=>cases h
 |cons c l=>
  simp only [hd1]at h
  split at h
  ·rename_i y hy;cases h;exact⟨c,rfl,hy,rfl⟩
  ·cases h
structure RdOk (any:Bool) (H:List Ob) (t:Ty) (me:Nat) (l:List SC) (x:t.T) (r:List SC) (ss:List Src):Prop where
 no:ss.length=t.no
 kn:∃us,l=us++r∧∀c∈us,c.kn=true
 to:∀(ρ ρ2:Nat→Ad) (self2 n:Nat),At t ρ me ss ρ2 self2 n→
  l.map (SC.v ρ)=(t.lay self2 n x).1.map (SC.v ρ2)++r.map (SC.v ρ)∧∀(j:Nat) (s:Src) (o:Ob),ss[j]? =some s→(t.lay self2 n x).2[j]? =some o→SOk any ρ H ρ2 s o
theorem rd_one{any:Bool}{H:List Ob}{t:Ty}{self:Nat}{c:SC}{x:t.T}{r:List SC}{s:Src}{o:Ob}{g:Nat→SC}(hk:c.kn=true)(hno:t.no=1)(hl:∀s2 n,t.lay s2 n x=([g n],[o]))
  (hv:∀(ρ ρ2:Nat→Ad) (n:Nat),ρ2 n=s.ad ρ→c.v ρ=(g n).v ρ2) (hs:∀(ρ ρ2:Nat→Ad),SOk any ρ H ρ2 s o):RdOk any H t self (c::r) x r [s]:=by
 refine⟨by rw [hno];rfl,⟨[c],rfl,fun c2 h=>by rw [List.mem_singleton.1 h];exact hk⟩,fun ρ ρ2 self2 n h=> ?_⟩
 rw [hl]
 refine⟨?_,fun j s2 o2 h1 h2=> ?_⟩
 ·have:=hv ρ ρ2 n (h.ad 0 s rfl)
  simp [this]
 ·cases j with
  |zero=>cases h1;cases h2;exact hs ρ ρ2
  |succ j=>simp at h1
def Brk(H:List Ob):Prop:=∀(id m:Nat) (x:Str),H[id]? =some (.br m x)→x.length=m
theorem aaj{α:Type}{c:Bool}{a:Option α}{r:α}(h:(bif c then a else none)=some r):c=true∧a=some r:=by
 cases c with
 |true=>exact⟨rfl,h⟩
 |false=>cases h
theorem rd_ok(any:Bool)(H:List Ob)(hbr:Brk H):∀(t:Ty) (self:Nat) (l:List SC) (x:t.T) (r:List SC) (ss:List Src),t.rd any H self l=some (x,r,ss)→RdOk any H t self l x r ss:=by
 intro t
 induction t with
 |i' k=>
  intro self l x r ss h
  obtain⟨c,rfl,hc,rfl⟩:=hd1_some h
  exact⟨rfl,⟨[c],rfl,fun c2 h=>by rw [List.mem_singleton.1 h];cases c<;>first|rfl|cases hc⟩,fun ρ ρ2 self2 n h=>⟨by rw [zaE,rI_v hc];rfl,fun j s o h1=>by simp at h1⟩⟩
 |c'=>
  intro self l x r ss h
  obtain⟨c,rfl,hc,rfl⟩:=hd1_some h
  exact⟨rfl,⟨[c],rfl,fun c2 h=>by rw [List.mem_singleton.1 h];cases c<;>first|rfl|cases hc⟩,fun ρ ρ2 self2 n h=>⟨by rw [zaE,rC_v hc];rfl,fun j s o h1=>by simp at h1⟩⟩
 |s'=>
  intro self l x r ss h
  obtain⟨c,rfl,hc,rfl⟩:=hd1_some h
  exact⟨rfl,⟨[c],rfl,fun c2 h=>by rw [List.mem_singleton.1 h];cases c<;>first|rfl|cases hc⟩,fun ρ ρ2 self2 n h=>⟨by rw [zaE,rS_v hc];rfl,fun j s o h1=>by simp at h1⟩⟩
 |b'=>
  intro self l x r ss h
  obtain⟨c,rfl,hc,rfl⟩:=hd1_some h
  exact⟨rfl,⟨[c],rfl,fun c2 h=>by rw [List.mem_singleton.1 h];cases c<;>first|rfl|cases hc⟩,fun ρ ρ2 self2 n h=>⟨by rw [zaE,rB_v hc];rfl,fun j s o h1=>by simp at h1⟩⟩
 |u'=>
  intro self l x r ss h
  cases h
  exact⟨rfl,⟨[],rfl,fun c h=>by cases h⟩,fun ρ ρ2 self2 n h=>⟨rfl,fun j s o h1=>by simp at h1⟩⟩
 |w' t ih=>intro self l x r ss h;exact⟨(ih self l x r ss h).no,(ih self l x r ss h).kn,fun ρ ρ2 self2 n hat=>(ih self l x r ss h).to ρ ρ2 self2 n ⟨hat.sf,hat.ad⟩⟩
 |pr a b iha ihb=>
  intro self l x r ss h
  simp only [Ty.rd]at h
  split at h
  ·rename_i y1 l1 s1 hp
   split at h
   ·rename_i y2 l2 s2 hq
    cases h
    have ha:=iha self l y1 l1 s1 hp
    have hb:=ihb self l1 y2 _ s2 hq
    obtain⟨us,hu1,hu2⟩:=ha.kn
    obtain⟨ws,hw1,hw2⟩:=hb.kn
    refine⟨by rw [zab,ha.no,hb.no];rfl,⟨us++ws,by rw [hu1,hw1,zav],fun c hc=>(List.mem_append.1 hc).elim (hu2 c) (hw2 c)⟩,fun ρ ρ2 self2 n hat=> ?_⟩
    have hl:s1.length=(a.lay self2 n y1).2.length:=by rw [ha.no,Ty.lay_no]
    obtain⟨h1,h2⟩:=ha.to ρ ρ2 self2 n hat.left
    obtain⟨h3,h4⟩:=hb.to ρ ρ2 self2 (n+a.no) (by have:=hat.right;rwa [ha.no]at this)
    refine⟨?_,fun j s o hs ho=> ?_⟩
    ·show _=((a.lay self2 n y1).1++(b.lay self2 (n+a.no) y2).1).map _++_
     rw [h1,h3,zbg,zav]
    ·have ho':((a.lay self2 n y1).2++(b.lay self2 (n+a.no) y2).2)[j]? =some o:=ho
     by_cases hj:j<s1.length
     ·rw [List.getElem?_append_left hj]at hs
      rw [List.getElem?_append_left (by omega)]at ho'
      exact h2 j s o hs ho'
     ·rw [List.getElem?_append_right (by omega)]at hs
      rw [List.getElem?_append_right (by omega),←hl]at ho'
      exact h4 _ s o hs ho'
   ·cases h
  ·cases h
 |sm a b _ _=>intro self l x r ss h;cases h
 |l' e b t ih=>
  intro self l x r ss h
  simp only [Ty.rd]at h
  split at h
  ·cases h
   exact rd_one (g:=fun n=>.l' n) rfl rfl (fun _ _=>rfl) (fun ρ ρ2 n h1=>by simp [SC.v,h1,Src.ad]) (fun _ _=>.inr (.inl ⟨rfl,rfl⟩))
  ·rename_i id l2
   split at h
   ·rename_i q hq
    cases he:zau q.1 e with
    |false=>rw [he]at h;cases h
    |true=>
     cases hb:zau q.2 b with
     |false=>rw [he,hb]at h;cases h
     |true=>
      rw [he,hb]at h
      simp only [cond_true]at h
      split at h
      ·rename_i y hy
       cases h
       have hg:=rwE_rowOf hq hy
       rw [aau,zaf he,zaf hb]at hg
       exact rd_one (g:=fun n=>.l' n) rfl rfl (fun _ _=>rfl) (fun ρ ρ2 n h1=>by simp [SC.v,h1,Src.ad]) (fun _ _=>.inl ⟨id,rfl,hg⟩)
      ·cases h
   ·cases h
  ·rename_i id m l2
   split at h
   ·rename_i e2 cs hg
    rw [aau]at hg
    cases he:zau e2 e with
    |false=>rw [he]at h;cases h
    |true=>
     rw [he]at h
     simp only [cond_true]at h
     have h:=aaj h
     have hm:=aaj h.2
     have h2:=hm.2
     split at h2
     ·rename_i y hy
      cases h2
      rw [zaf he]at hg
      refine rd_one (g:=fun n=>.l' n) rfl rfl (fun _ _=>rfl) (fun ρ ρ2 n h1=> ?_) (fun _ _=>.inr (.inr ⟨id,m,cs,rfl,hg,hy,h.1,zaG hm.1⟩))
      have:=(atr hy).1
      simp [SC.v,h1,Src.ad]
     ·cases h2
   ·cases h
  ·cases h
 |y'=>
  intro self l x r ss h
  simp only [Ty.rd]at h
  split at h
  ·rename_i id l2
   split at h
   ·rename_i m y hg
    cases h
    rw [aau]at hg
    have hm:=hbr id m x hg
    exact rd_one (g:=fun n=>.l' n) rfl rfl (fun _ _=>rfl) (fun ρ ρ2 n h1=>by simp [SC.v,h1,Src.ad]) (fun _ _=>⟨rfl,id,m,rfl,hg⟩)
   ·cases h
  ·cases h
 |r' t ih=>
  intro self l x r ss h
  simp only [Ty.rd]at h
  split at h
  ·cases h
   exact rd_one (g:=fun n=>.l' n) rfl rfl (fun _ _=>rfl) (fun ρ ρ2 n h1=>by simp [SC.v,h1,Src.ad]) (fun _ _=>.inr (.inl ⟨rfl,rfl⟩))
  ·rename_i id l2
   split at h
   ·rename_i y hy
    cases h
    rw [aau]at hy
    have hlen:lenH H id=x.length:=by
     cases any with
     |true=>obtain⟨ob,h1,h2⟩:=anyOf_len (fun m x hx=>hbr id m x hx) (show anyOf t H[id]? =some x from hy);rw [lenH_get h1,h2]
     |false=>have h1:=roOf_some (show roOf t H[id]? =some x from hy);rw [lenH_get h1];rfl
    exact rd_one (g:=fun n=>.l' n) rfl rfl (fun _ _=>rfl) (fun ρ ρ2 n h1=>by simp [SC.v,h1,Src.ad]) (fun _ _=>.inl ⟨id,rfl,hy⟩)
   ·cases h
  ·rename_i id m l2
   cases any with
   |false=>cases h
   |true=>
    simp only [cond_true]at h
    split at h
    ·rename_i e2 cs hg
     rw [aau]at hg
     split at h
     ·rename_i y hy
      cases h
      refine rd_one (g:=fun n=>.l' n) rfl rfl (fun _ _=>rfl) (fun ρ ρ2 n h1=> ?_) (fun _ _=>.inr (.inr ⟨rfl,id,m,e2,cs,rfl,hg,hy⟩))
      have:=(atr hy).1
      simp [SC.v,h1,Src.ad]
     ·cases h
    ·cases h
  ·cases h
 |p' e t ih=>
  intro self l x r ss h
  simp only [Ty.rd]at h
  split at h
  ·rename_i id off l2
   split at h
   ·rename_i e2 cs hg
    rw [aau]at hg
    cases ho:zau off 0 with
    |false=>rw [ho]at h;cases h
    |true=>
     cases he:zau e2 e with
     |false=>rw [ho,he]at h;cases h
     |true=>
      rw [ho,he]at h
      simp only [cond_true]at h
      split at h
      ·rename_i y ss2 hy
       cases h
       rw [zaf he]at hg
       have hr:=ih id cs x [] ss2 hy
       obtain⟨us,hu1,hu2⟩:=hr.kn
       rw [zan]at hu1
       subst hu1
       refine⟨by rw [zac,hr.no];rfl,⟨[_],rfl,fun c hc=>by rw [List.mem_singleton.1 hc];rfl⟩,fun ρ ρ2 self2 n hat=> ?_⟩
       have had:ρ2 n=ρ id:=hat.ad 0 _ rfl
       have hat2:At t ρ id ss2 ρ2 n (n+1):=⟨fun _=>by rw [had],fun j s hj=>by rw [Nat.add_right_comm];exact hat.ad (j+1) s (by simpa using hj)⟩
       obtain⟨h1,h2⟩:=hr.to ρ ρ2 n (n+1) hat2
       refine⟨?_,fun j s o hs hoo=> ?_⟩
       ·show(SC.p' id off).v ρ::_=[(SC.p' n 0).v ρ2]++_
        simp [SC.v,had,zaf ho]
       ·cases j with
        |zero=>
         cases hs
         have:Ob.bl e (t.lay n (n+1) x).1=o:=Option.some.inj hoo
         subst this
         refine⟨id,cs,rfl,hg,by simpa using h1,hu2,fun c hc=>(Ty.lay_ok t n (n+1) x c hc).1⟩
        |succ j=>exact h2 j s o (by simpa using hs) (by simpa [Ty.lay] using hoo)
      ·cases h
   ·cases h
  ·cases h
 |z'=>
  intro self l x r ss h
  simp only [Ty.rd]at h
  split at h
  ·rename_i j l2
   cases hj:zau j 0 with
   |false=>rw [hj]at h;cases h
   |true=>
    rw [hj]at h;cases h
    refine⟨rfl,⟨[_],rfl,fun c hc=>by rw [List.mem_singleton.1 hc];rfl⟩,fun ρ ρ2 self2 n hat=>⟨?_,fun i s o hs ho=> ?_⟩⟩
    ·have:=hat.ad 0 _ rfl
     simp only [zaK]at this
     simp [Ty.lay,SC.v,this,Src.ad,zaf hj,nilV]
    ·cases i with
     |zero=>cases hs;cases(Option.some.inj ho);exact⟨rfl,.inl ⟨_,rfl⟩⟩
     |succ i=>simp at hs
  ·rename_i id off l2
   cases ho:zau off 0 with
   |false=>rw [ho]at h;cases h
   |true=>
    cases hi:zau id self with
    |false=>rw [ho,hi]at h;cases h
    |true=>
     rw [ho,hi]at h;cases h
     refine⟨rfl,⟨[_],rfl,fun c hc=>by rw [List.mem_singleton.1 hc];rfl⟩,fun ρ ρ2 self2 n hat=>⟨?_,fun i s o hs ho=> ?_⟩⟩
     ·have:=hat.ad 0 _ rfl
      simp only [zaK]at this
      have hsf:=hat.sf rfl
      rw [←zaf hi]at hsf
      simp [Ty.lay,SC.v,this,Src.ad,zaf ho,bptr,hsf]
     ·cases i with
      |zero=>cases hs;cases(Option.some.inj ho);exact⟨rfl,.inl ⟨_,rfl⟩⟩
      |succ i=>simp at hs
  ·rename_i id fl l2
   cases hi:zau id self with
   |false=>rw [hi]at h;cases h
   |true=>
    rw [hi]at h
    simp only [cond_true]at h
    split at h
    ·rename_i hfl
     cases h
     rw [aau]at hfl
     refine⟨rfl,⟨[_],rfl,fun c hc=>by rw [List.mem_singleton.1 hc];rfl⟩,fun ρ ρ2 self2 n hat=>⟨?_,fun i s o hs ho=> ?_⟩⟩
     ·have:=hat.ad 0 _ rfl
      simp only [zaK]at this
      have hsf:=hat.sf rfl
      rw [←zaf hi]at hsf
      simp [Ty.lay,SC.v,this,Src.ad,hsf]
     ·cases i with
      |zero=>cases hs;cases(Option.some.inj ho);exact⟨rfl,.inr ⟨fl,rfl,hfl⟩⟩
      |succ i=>simp at hs
    ·cases h
  ·cases h
 |o' j=>
  intro self l x r ss h
  simp only [Ty.rd]at h
  split at h
  ·rename_i j2 l2
   cases hj:zau j j2 with
   |false=>rw [hj]at h;cases h
   |true=>
    rw [hj]at h;cases h
    exact⟨rfl,⟨[_],rfl,fun c hc=>by rw [List.mem_singleton.1 hc];rfl⟩,fun ρ ρ2 self2 n hat=>⟨by simp [Ty.lay,SC.v,zaf hj],fun i s o hs ho=>by simp at hs⟩⟩
  ·cases h
 |f' k t ih=>
  intro self l x r ss h
  simp only [Ty.rd]at h
  split at h
  ·rename_i k2 ids l2
   cases hk:zau k k2 with
   |false=>rw [hk]at h;cases h
   |true=>
    cases hp:t.ptrs with
    |false=>rw [hk,hp]at h;cases h
    |true=>
     rw [hk,hp]at h
     simp only [cond_true]at h
     split at h
     ·rename_i y ss2 hy
      cases h
      have hr:=ih self _ x [] ss hy
      refine⟨hr.no,⟨[_],rfl,fun c hc=>by rw [List.mem_singleton.1 hc];rfl⟩,fun ρ ρ2 self2 n hat=> ?_⟩
      obtain⟨h1,h2⟩:=hr.to ρ ρ2 self2 n ⟨hat.sf,hat.ad⟩
      refine⟨?_,h2⟩
      have h3:=ptrs_lay t self2 n x hp
      rw [h3,List.map_nil,zan,List.map_map,List.map_map]at h1
      have h4:(ids.map fun id=>bptr (ρ id).b 0)=(ptrL (t.lay self2 n x).1).map fun id=>bptr (ρ2 id).b 0:=h1
      simp [Ty.lay,SC.v,zaf hk,h4]
     ·cases h
  ·cases h
end Go.Oe
