/-
  The law BodiesApart holds (part 4 of 8).
-/
import Derived.Test.YtbljlpflaehacaaGreatDoorYc3
import Derived.Laws.Bits64
set_option linter.unusedVariables false
set_option linter.unusedSimpArgs false
set_option maxRecDepth 20000
set_option maxHeartbeats 1000000
namespace Go.Wk
open Go.Px
open Go.Lib renaming indexAny → yL, join → dM
open Int renaming toNat → aR
open List renaming drop → bK, set → eA
open Sum renaming elim → eF
def Cv(fu:Nat)(a:(aA×Int))(d:UInt8):Option Bool:=
 ((((V3 fu a).bind fun(c:Bool)=>(bif (!c)then(gd (0<=a.2/\a.2<(a.1.length:Int))<|some (decide ((at_ a.1 a.2)=d)))else some false))).bind fun(b:Bool)=>some b)
def anu(fu:Nat)(a:UInt8):Option Bool:=
 (((if(32:UInt8)<=a then some (decide (a<=(126:UInt8)))else some false)).bind fun(b:Bool)=>some b)
def vn(fu:Nat)(s_0:aA)(c:(List UInt8)->Int->Option (((List UInt8)×Int)⊕(aA×Int×UInt8)))(b:List UInt8)(a:Int):Option (((List UInt8)×Int)⊕(aA×Int×UInt8)):=
 (if a<(s_0.length:Int)then(gd (0<=a/\a<(s_0.length:Int))<|(if(at_ s_0 a)=(34:UInt8)then some (.inl (b,a))else(if(at_ s_0 a)=(92:UInt8)then(gd (bJ (a+(1:Int)))<|(if(a+(1:Int))=(s_0.length:Int)then some (.inr (([]:aA),(s_0.length:Int),(6:UInt8)))else(gd (bJ (a+(1:Int)))<|(gd (0<=(a+(1:Int))/\(a+(1:Int))<(s_0.length:Int))<|((anu fu (at_ s_0 (a+(1:Int)))).bind fun(e:Bool)=>(bif (!e)then some (.inr (([]:aA),a,(5:UInt8)))else(gd (bJ (a+(1:Int)))<|(gd (0<=(a+(1:Int))/\(a+(1:Int))<(s_0.length:Int))<|(gd ((b.length+([at_ s_0 (a+(1:Int))]:List UInt8).length)*1<=140737488355328)<|(gd (bJ ((a+(1:Int))+(1:Int)))<|(c (b++([at_ s_0 (a+(1:Int))]:List UInt8)) ((a+(1:Int))+(1:Int)))))))))))))else((kz fu (at_ s_0 a)).bind fun(d:Bool)=>(bif d then some (.inr (([]:aA),a,(5:UInt8)))else(gd (0<=a/\a<(s_0.length:Int))<|(gd ((b.length+([at_ s_0 a]:List UInt8).length)*1<=140737488355328)<|(gd (bJ (a+(1:Int)))<|(c (b++([at_ s_0 a]:List UInt8)) (a+(1:Int)))))))))))else some (.inl (b,a)))
def apq(fu:Nat)(s_0:aA):Nat->(List UInt8)->Int->Option (((List UInt8)×Int)⊕(aA×Int×UInt8)):=fun c b a=>bM (fun(g:((List UInt8)×Int)->Option (((List UInt8)×Int)⊕(aA×Int×UInt8))) v=>vn fu s_0 (fun b a=>g (b,a)) v.1 v.2) c (b,a)
theorem aro{fu:Nat}{s_0:aA}{a:Nat}{c:List UInt8}{b:Int}:apq fu s_0 (a+1) c b=vn fu s_0 (apq fu s_0 a) c b:=rfl
def jz(fu:Nat)(s_0:aA)(a:Int):Option (aA×Int×UInt8):=
 (((if a<(0:Int)then some true else some (decide ((s_0.length:Int)<a)))).bind fun(c:Bool)=>(bif c then some (([]:aA),(0:Int),(2:UInt8))else(((if a=(s_0.length:Int)then some true else(gd (0<=a/\a<(s_0.length:Int))<|some (!decide ((at_ s_0 a)=(34:UInt8)))))).bind fun(e:Bool)=>(bif e then some (([]:aA),a,(5:UInt8))else(gd (bJ (a+(1:Int)))<|(((apq fu s_0 fu ([]:List UInt8) (a+(1:Int)))).bind fun(d:(((List UInt8)×Int)⊕(aA×Int×UInt8)))=>eF (fun(b:((List UInt8)×Int))=>(if(s_0.length:Int)<=b.2 then some (([]:aA),(s_0.length:Int),(6:UInt8))else(gd (bJ (b.2+(1:Int)))<|some (b.1,b.2+(1:Int),(0:UInt8))))) (fun q=>some q) d))))))
def aib(fu:Nat)(d:(aA×Int))(b:AQ):Option (Int×UInt8×(aA×Int)×AQ):=
 ((jz fu d.1 d.2).bind fun(a:(aA×Int×UInt8))=>(if a.2.2=(0:UInt8)then((YC fu (d.1,a.2.1)).bind fun(c:(aA×Int))=>((Cv fu c (60:UInt8)).bind fun(e:Bool)=>(bif (!e)then some (c.2,(5:UInt8),c,(a.1,b.2.1,b.2.2))else some ((0:Int),(0:UInt8),c,(a.1,b.2.1,b.2.2)))))else some (a.2.1,a.2.2,d,b)))
def lf(fu:Nat)(a:(aA×Int)):Option (aA×(aA×Int)):=
 ((M0 fu a.1 a.2).bind fun(b:Int)=>(gd (0<=a.2/\a.2<=b/\b<=(a.1.length:Int))<|some (sub a.1 a.2 b,(a.1,b))))
def afy(fu:Nat)(h:AQ)(g:(List aA)->aA->Int->Option (((List aA)×aA×Int)⊕(Int×UInt8×(aA×Int)×AQ)))(d:List aA)(c:aA)(b:Int):Option (((List aA)×aA×Int)⊕(Int×UInt8×(aA×Int)×AQ)):=
 ((Cv fu (c,b) (60:UInt8)).bind fun(f:Bool)=>(bif (!f)then((lf fu (c,b)).bind fun(a:(aA×(aA×Int)))=>(if a.1=([]:aA)then some (.inr (a.2.2,(5:UInt8),a.2,h))else(gd ((d.length+([a.1]:List aA).length)*16<=140737488355328)<|((YC fu a.2).bind fun(e:(aA×Int))=>(g (d++([a.1]:List aA)) e.1 e.2)))))else some (.inl (d,c,b))))
def age(fu:Nat)(e:AQ):Nat->(List aA)->aA->Int->Option (((List aA)×aA×Int)⊕(Int×UInt8×(aA×Int)×AQ)):=fun d c b a=>bM (fun(g:((List aA)×aA×Int)->Option (((List aA)×aA×Int)⊕(Int×UInt8×(aA×Int)×AQ))) v=>afy fu e (fun c b a=>g (c,b,a)) v.1 v.2.1 v.2.2) d (c,b,a)
theorem anr{fu:Nat}{a:AQ}{b:Nat}{e:List aA}{d:aA}{c:Int}:age fu a (b+1) e d c=afy fu a (age fu a b) e d c:=rfl
def lu(fu:Nat)(c:(aA×Int))(b:AQ):Option (Int×UInt8×(aA×Int)×AQ):=
 (((age fu b fu ([]:List aA) c.1 c.2)).bind fun(d:(((List aA)×aA×Int)⊕(Int×UInt8×(aA×Int)×AQ)))=>eF (fun(a:((List aA)×aA×Int))=>(gd (a.1.length<=1000000000/\(dM a.1 ([32]:aA)).length<=100000000000)<|some ((0:Int),(0:UInt8),a.2,(dM a.1 ([32]:aA),b.2.1,b.2.2)))) (fun q=>some q) d)
def Sx(fu:Nat)(c:aA)(a:Int)(d:aA):Option Int:=
 (gd (0<=a/\a<=(c.length:Int))<|(gd ((bK (aR a) c).length<=1000000000/\d.length<=1000/\d.all (fun b=>decide (b.toNat<128))=true)<|(if(0:Int)<=(yL (bK (aR a) c) d)then(gd (bJ (a+(yL (bK (aR a) c) d)))<|some (a+(yL (bK (aR a) c) d)))else some (c.length:Int))))
def anw(fu:Nat)(s_0:aA)(c:aA->Int->Option aA)(b:aA)(a:Int):Option aA:=
 (if a<(s_0.length:Int)then(gd (0<=a/\a<(b.length:Int))<|(gd (0<=a/\a<(b.length:Int))<|(((if(65:UInt8)<=(at_ b a)then some (decide ((at_ b a)<=(90:UInt8)))else some false)).bind fun(d:Bool)=>(bif d then(gd (0<=a/\a<(b.length:Int))<|(gd (0<=a/\a<(b.length:Int))<|(gd (bJ (a+(1:Int)))<|(c (eA b (aR a) ((at_ b a)+(32:UInt8))) (a+(1:Int))))))else(gd (bJ (a+(1:Int)))<|(c b (a+(1:Int))))))))else some b)
def apw(fu:Nat)(s_0:aA):Nat->aA->Int->Option aA:=fun c b a=>bM (fun(g:(aA×Int)->Option aA) v=>anw fu s_0 (fun b a=>g (b,a)) v.1 v.2) c (b,a)
theorem awg{fu:Nat}{s_0:aA}{a:Nat}{c:aA}{b:Int}:apw fu s_0 (a+1) c b=anw fu s_0 (apw fu s_0 a) c b:=rfl
def LJ(fu:Nat)(s_0:aA):Option aA:=
 (((apw fu s_0 fu s_0 (0:Int))).bind fun(a:aA)=>some a)
open List renaming take → kO
def kb(fu:Nat)(a:UInt8):Option Bool:=
 (((if(97:UInt8)<=a then(if a<=(122:UInt8)then some true else(if(65:UInt8)<=a then some (decide (a<=(90:UInt8)))else some false))else(if(65:UInt8)<=a then some (decide (a<=(90:UInt8)))else some false))).bind fun(b:Bool)=>some b)
def MS(fu:Nat)(a:UInt8):Option Bool:=
 (((if(48:UInt8)<=a then some (decide (a<=(57:UInt8)))else some false)).bind fun(b:Bool)=>some b)
def uh(fu:Nat)(b:UInt8)(a:Int):Option Bool:=
 ((((kb fu b).bind fun(f:Bool)=>(bif f then some true else((MS fu b).bind fun(e:Bool)=>(bif e then some true else some (decide ((0:Int)<=(dJ (·==b) ([45,95,46,33,126,42,39,40,41]:aA))))))))).bind fun(d:Bool)=>(bif d then some true else(((if(0:Int)<=a then(if a<=(2:Int)then(gd (0<=a/\a<(3:Int))<|(gd (0<=a/\a<(XZ.length:Int))<|some (decide ((0:Int)<=(dJ (·==b) (el XZ a))))))else some false)else some false)).bind fun(c:Bool)=>some c)))
def V0(fu:Nat)(a:UInt8):Option (UInt8×Bool):=
 ((MS fu a).bind fun(b:Bool)=>(bif b then some (a-(48:UInt8),true)else(((if(97:UInt8)<=a then some (decide (a<=(102:UInt8)))else some false)).bind fun(d:Bool)=>(bif d then some ((a-(97:UInt8))+(10:UInt8),true)else(((if(65:UInt8)<=a then some (decide (a<=(70:UInt8)))else some false)).bind fun(c:Bool)=>(bif c then some ((a-(65:UInt8))+(10:UInt8),true)else some ((0:UInt8),false)))))))
def uu(fu:Nat)(s_0:aA)(a:Int):Option (UInt8×Bool):=
 (((gd (bJ (a+(2:Int)))<|(if(s_0.length:Int)<=(a+(2:Int))then some true else(gd (0<=a/\a<(s_0.length:Int))<|some (!decide ((at_ s_0 a)=(37:UInt8))))))).bind fun(d:Bool)=>(bif d then some ((0:UInt8),false)else(gd (bJ (a+(1:Int)))<|(gd (0<=(a+(1:Int))/\(a+(1:Int))<(s_0.length:Int))<|((V0 fu (at_ s_0 (a+(1:Int)))).bind fun(c:(UInt8×Bool))=>(gd (bJ (a+(2:Int)))<|(gd (0<=(a+(2:Int))/\(a+(2:Int))<(s_0.length:Int))<|((V0 fu (at_ s_0 (a+(2:Int)))).bind fun(b:(UInt8×Bool))=>(((bif c.2 then some b.2 else some false)).bind fun(e:Bool)=>some ((AO c.1 (4:Int))|||b.1,e))))))))))
def zq(fu:Nat)(a:UInt8):Option Bool:=
 (((if a<(32:UInt8)then(if a=(9:UInt8)then some (decide (a=(127:UInt8)))else some true)else some (decide (a=(127:UInt8))))).bind fun(v6:Bool)=>some v6)
def wx(fu:Nat)(c:(aA×Int))(b:Int)(i:Int)(e:Int->Option (Unit⊕(Int×Bool)))(a:Int):Option (Unit⊕(Int×Bool)):=
 (if a<b then(gd (0<=a/\a<(c.1.length:Int))<|((uh fu (at_ c.1 a) i).bind fun(h:Bool)=>(bif h then(gd (bJ (a+(1:Int)))<|(e (a+(1:Int))))else(gd (0<=b/\b<=(c.1.length:Int))<|((uu fu (kO (aR b) c.1) a).bind fun(d:(UInt8×Bool))=>(((bif (!d.2)then some true else((zq fu d.1).bind fun(g:Bool)=>some g))).bind fun(f:Bool)=>(bif f then some (.inr (a,true))else(gd (bJ (a+(2:Int)))<|(gd (bJ ((a+(2:Int))+(1:Int)))<|(e ((a+(2:Int))+(1:Int))))))))))))else some (.inl ()))
def ain(fu:Nat)(e:(aA×Int))(d:Int)(c:Int):Nat->Int->Option (Unit⊕(Int×Bool)):=fun b a=>bM (fun(g:Int->Option (Unit⊕(Int×Bool))) v=>wx fu e d c (fun a=>g a) v) b a
theorem aki{fu:Nat}{c:(aA×Int)}{b:Int}{a:Int}{d:Nat}{e:Int}:ain fu c b a (d+1) e=wx fu c b a (ain fu c b a d) e:=rfl
def lh(fu:Nat)(a:(aA×Int))(d:Int)(c:Int):Option (Int×Bool):=
 (((ain fu a d c fu a.2)).bind fun(b:(Unit⊕(Int×Bool)))=>eF (fun(e:Unit)=>some ((0:Int),false)) (fun q=>some q) b)
def we(fu:Nat)(s_0:aA)(d:(List UInt8)->Int->Option ((List UInt8)⊕(aA×Int×UInt8)))(b:List UInt8)(a:Int):Option ((List UInt8)⊕(aA×Int×UInt8)):=
 (if a<(s_0.length:Int)then(gd (0<=a/\a<(s_0.length:Int))<|(if(at_ s_0 a)=(37:UInt8)then((uu fu s_0 a).bind fun(c:(UInt8×Bool))=>(bif (!c.2)then some (.inr (([]:aA),a,(5:UInt8)))else(gd ((b.length+([c.1]:List UInt8).length)*1<=140737488355328)<|(gd (bJ (a+(2:Int)))<|(gd (bJ ((a+(2:Int))+(1:Int)))<|(d (b++([c.1]:List UInt8)) ((a+(2:Int))+(1:Int))))))))else(gd (0<=a/\a<(s_0.length:Int))<|(gd ((b.length+([at_ s_0 a]:List UInt8).length)*1<=140737488355328)<|(gd (bJ (a+(1:Int)))<|(d (b++([at_ s_0 a]:List UInt8)) (a+(1:Int))))))))else some (.inl b))
def vx(fu:Nat)(s_0:aA):Nat->(List UInt8)->Int->Option ((List UInt8)⊕(aA×Int×UInt8)):=fun c b a=>bM (fun(g:((List UInt8)×Int)->Option ((List UInt8)⊕(aA×Int×UInt8))) v=>we fu s_0 (fun b a=>g (b,a)) v.1 v.2) c (b,a)
theorem aow{fu:Nat}{s_0:aA}{a:Nat}{c:List UInt8}{b:Int}:vx fu s_0 (a+1) c b=we fu s_0 (vx fu s_0 a) c b:=rfl
def auu(fu:Nat)(s_0:aA):Option (aA×Int×UInt8):=
 (@gd _ (0<=(s_0.length:Int)/\(1:Int)*(s_0.length:Int)<=281474976710656) (sj 1 (s_0.length:Int))<|(((vx fu s_0 fu ([]:List UInt8) (0:Int))).bind fun(b:((List UInt8)⊕(aA×Int×UInt8)))=>eF (fun(a:List UInt8)=>some (a,(0:Int),(0:UInt8))) (fun q=>some q) b))
open Go.Lib renaming cut → dA, index → bR, itoa → gF, join → dM, trimLeftS → Tf
open List renaming drop → bK, set → eA, take → kO
def kc(fu:Nat)(s_0:aA):Option aA:=
 ((auu fu s_0).bind fun(a:(aA×Int×UInt8))=>some a.1)
def wk(fu:Nat)(c:List aA)(b:Int)(e:Int->Option (Unit⊕((List aA)×Bool)))(a:Int):Option (Unit⊕((List aA)×Bool)):=
 (if a<((el c b).length:Int)then(gd (0<=a/\a<((el c b).length:Int))<|((V0 fu (at_ (el c b) a)).bind fun(d:(UInt8×Bool))=>(bif (!d.2)then some (.inr (([]:List aA),false))else(gd (bJ (a+(1:Int)))<|(e (a+(1:Int)))))))else some (.inl ()))
def wh(fu:Nat)(d:List aA)(c:Int):Nat->Int->Option (Unit⊕((List aA)×Bool)):=fun b a=>bM (fun(g:Int->Option (Unit⊕((List aA)×Bool))) v=>wk fu d c (fun a=>g a) v) b a
theorem anm{fu:Nat}{b:List aA}{a:Int}{c:Nat}{d:Int}:wh fu b a (c+1) d=wk fu b a (wh fu b a c) d:=rfl
def ajt(fu:Nat)(s_0:aA)(i:(List aA)->Int->Option ((List aA)⊕((List aA)×Bool)))(c:List aA)(a:Int):Option ((List aA)⊕((List aA)×Bool)):=
 (if a<((cO 58 s_0).length:Int)then(((gd (0<=a/\a<(c.length:Int))<|(gd (0<=a/\a<(c.length:Int))<|(((if((el c a).length:Int)<(1:Int)then some true else some (decide ((4:Int)<((el c a).length:Int))))).bind fun(h:Bool)=>(bif h then some (.inr (([]:List aA),false))else(((wh fu c a fu (0:Int))).bind fun(g:(Unit⊕((List aA)×Bool)))=>eF (fun(j:Unit)=>((LJ fu (el c a)).bind fun(d:aA)=>(gd (d.length<=1000000000)<|gd (([48]:aA).length<=1000/\([48]:aA).all (fun b=>decide (b.toNat<128))=true)<|(if(Tf d ([48]:aA))=([]:aA)then(gd (0<=a/\a<(c.length:Int))<|(gd (0<=a/\a<(c.length:Int))<|some (.inl (eA c (aR a) ([48]:aA)))))else(gd (0<=a/\a<(c.length:Int))<|(gd (0<=a/\a<(c.length:Int))<|some (.inl (eA c (aR a) (Tf d ([48]:aA)))))))))) (fun q=>some (.inr q)) g)))))).bind fun(f:((List aA)⊕((List aA)×Bool)))=>eF (fun(e:List aA)=>(gd (bJ (a+(1:Int)))<|(i e (a+(1:Int))))) (fun q=>some (.inr q)) f)else some (.inl c))
def lj(fu:Nat)(s_0:aA):Nat->(List aA)->Int->Option ((List aA)⊕((List aA)×Bool)):=fun c b a=>bM (fun(g:((List aA)×Int)->Option ((List aA)⊕((List aA)×Bool))) v=>ajt fu s_0 (fun b a=>g (b,a)) v.1 v.2) c (b,a)
theorem asr{fu:Nat}{s_0:aA}{a:Nat}{c:List aA}{b:Int}:lj fu s_0 (a+1) c b=ajt fu s_0 (lj fu s_0 a) c b:=rfl
def gu(fu:Nat)(s_0:aA):Option ((List aA)×Bool):=
 (gd (s_0.length<=1000000000)<|(((lj fu s_0 fu (cO 58 s_0) (0:Int))).bind fun(b:((List aA)⊕((List aA)×Bool)))=>eF (fun(a:List aA)=>some (a,true)) (fun q=>some q) b))
def zk(fu:Nat)(s_0:aA):Option (aA×Bool):=
 (if(39:Int)<(s_0.length:Int)then some (([]:aA),false)else(gd (s_0.length<=1000000000)<|(bif (!((dA s_0 ([58,58]:aA)).2.2))then((gu fu s_0).bind fun(c:((List aA)×Bool))=>(((gd (c.1.length<=1000000000/\(dM c.1 ([58]:aA)).length<=100000000000)<|(bif c.2 then some (dM c.1 ([58]:aA),(decide ((c.1.length:Int)=(8:Int))))else some (dM c.1 ([58]:aA),false)))).bind fun(f:(aA×Bool))=>some (f.1,f.2)))else(((if((dA s_0 ([58,58]:aA)).1)=([]:aA)then some (([]:List aA),true)else((gu fu ((dA s_0 ([58,58]:aA)).1)).bind fun(e:((List aA)×Bool))=>some (e.1,e.2)))).bind fun(a:((List aA)×Bool))=>(((if((dA s_0 ([58,58]:aA)).2.1)=([]:aA)then some (([]:List aA),true)else((gu fu ((dA s_0 ([58,58]:aA)).2.1)).bind fun(d:((List aA)×Bool))=>some (d.1,d.2)))).bind fun(b:((List aA)×Bool))=>(((bif (!a.2)then some true else(bif (!b.2)then some true else(gd (bJ ((a.1.length:Int)+(b.1.length:Int)))<|some (decide ((7:Int)<((a.1.length:Int)+(b.1.length:Int)))))))).bind fun(g:Bool)=>(bif g then some (([]:aA),false)else(gd (a.1.length<=1000000000/\(dM a.1 ([58]:aA)).length<=100000000000)<|(gd ((dM a.1 ([58]:aA)).length+([58,58]:aA).length<=9223372036854775807)<|(gd (b.1.length<=1000000000/\(dM b.1 ([58]:aA)).length<=100000000000)<|(gd (((dM a.1 ([58]:aA))++([58,58]:aA)).length+(dM b.1 ([58]:aA)).length<=9223372036854775807)<|some (((dM a.1 ([58]:aA))++([58,58]:aA))++(dM b.1 ([58]:aA)),true))))))))))))
def alu(fu:Nat)(s_0:aA)(b:Int)(e:Int->Int->Option (Int⊕Bool))(c:Int)(a:Int):Option (Int⊕Bool):=
 (if a<((el (cO 46 s_0) b).length:Int)then(gd (0<=a/\a<((el (cO 46 s_0) b).length:Int))<|((MS fu (at_ (el (cO 46 s_0) b) a)).bind fun(d:Bool)=>(bif (!d)then some (.inr false)else(gd (bJ ((10:Int)*c))<|(gd (0<=a/\a<((el (cO 46 s_0) b).length:Int))<|(gd (bJ (((10:Int)*c)+(((at_ (el (cO 46 s_0) b) a)-(48:UInt8)).toNat:Int)))<|(gd (bJ (a+(1:Int)))<|(e (((10:Int)*c)+(((at_ (el (cO 46 s_0) b) a)-(48:UInt8)).toNat:Int)) (a+(1:Int))))))))))else some (.inl c))
def vt(fu:Nat)(s_0:aA)(d:Int):Nat->Int->Int->Option (Int⊕Bool):=fun c b a=>bM (fun(g:(Int×Int)->Option (Int⊕Bool)) v=>alu fu s_0 d (fun b a=>g (b,a)) v.1 v.2) c (b,a)
theorem aus{fu:Nat}{s_0:aA}{a:Int}{b:Nat}{d:Int}{c:Int}:vt fu s_0 a (b+1) d c=alu fu s_0 a (vt fu s_0 a b) d c:=rfl
def alv(fu:Nat)(s_0:aA)(f:Int->Option (Unit⊕Bool))(a:Int):Option (Unit⊕Bool):=
 (if a<((cO 46 s_0).length:Int)then(((gd (0<=a/\a<((cO 46 s_0).length:Int))<|(gd (0<=a/\a<((cO 46 s_0).length:Int))<|(((vt fu s_0 a fu (0:Int) (0:Int))).bind fun(e:(Int⊕Bool))=>eF (fun(b:Int)=>(((if(el (cO 46 s_0) a)=([]:aA)then some true else(if(255:Int)<b then some true else(gd (bJ b)<|some (!decide ((el (cO 46 s_0) a)=(gF b))))))).bind fun(d:Bool)=>(bif d then some (.inr false)else some (.inl ())))) (fun q=>some (.inr q)) e)))).bind fun(c:(Unit⊕Bool))=>eF (fun(g:Unit)=>(gd (bJ (a+(1:Int)))<|(f (a+(1:Int))))) (fun q=>some (.inr q)) c)else some (.inl ()))
def vr(fu:Nat)(s_0:aA):Nat->Int->Option (Unit⊕Bool):=fun b a=>bM (fun(g:Int->Option (Unit⊕Bool)) v=>alv fu s_0 (fun a=>g a) v) b a
theorem aut{fu:Nat}{s_0:aA}{a:Nat}{b:Int}:vr fu s_0 (a+1) b=alv fu s_0 (vr fu s_0 a) b:=rfl
def zt(fu:Nat)(s_0:aA):Option Bool:=
 (if(15:Int)<(s_0.length:Int)then some false else(gd (s_0.length<=1000000000)<|(((vr fu s_0 fu (0:Int))).bind fun(a:(Unit⊕Bool))=>eF (fun(b:Unit)=>some (decide (((cO 46 s_0).length:Int)=(4:Int)))) (fun q=>some q) a)))
def aqv(fu:Nat)(s_0:aA)(b:aA)(a:Int):Option (aA×aA×Int):=
 some (b,s_0,a)
def aqw(fu:Nat)(s_0:aA)(b:aA):Option (aA×aA×Int):=
 ((aqv fu s_0 b (0:Int)).bind fun(a:(aA×aA×Int))=>some (a.1,a.2.1,a.2.2))
def wm(fu:Nat)(b:aA)(i:Bool)(d:Int->Bool->Option ((Nat×Bool×Bool)))(a:Int)(c:Bool):Option ((Nat×Bool×Bool)):=
 (if a<(b.length:Int)then(gd (0<=a/\a<(b.length:Int))<|((((kb fu (at_ b a)).bind fun(h:Bool)=>(bif (!h)then((MS fu (at_ b a)).bind fun(g:Bool)=>(bif (!g)then some (!decide ((at_ b a)=(45:UInt8)))else some false))else some false))).bind fun(f:Bool)=>(bif f then some (1,c,false)else(bif c then(gd (bJ (a+(1:Int)))<|(d (a+(1:Int)) true))else((MS fu (at_ b a)).bind fun(e:Bool)=>(gd (bJ (a+(1:Int)))<|(d (a+(1:Int)) (!e))))))))else some (0,c,i))
def M5(fu:Nat)(e:aA)(d:Bool):Nat->Int->Bool->Option ((Nat×Bool×Bool)):=fun c b a=>bM (fun(g:(Int×Bool)->Option ((Nat×Bool×Bool))) v=>wm fu e d (fun b a=>g (b,a)) v.1 v.2) c (b,a)
theorem anl{fu:Nat}{b:aA}{a:Bool}{c:Nat}{e:Int}{d:Bool}:M5 fu b a (c+1) e d=wm fu b a (M5 fu b a c) e d:=rfl
def M2(fu:Nat)(a:aA)(b:Bool)(d:Bool):Option (Nat×Bool×Bool):=
 (((if(a.length:Int)<(1:Int)then some true else(if(63:Int)<(a.length:Int)then some true else(gd (0<=(0:Int)/\(0:Int)<(a.length:Int))<|(if(at_ a (0:Int))=(45:UInt8)then some true else(gd (bJ ((a.length:Int)-(1:Int)))<|(gd (0<=((a.length:Int)-(1:Int))/\((a.length:Int)-(1:Int))<(a.length:Int))<|some (decide ((at_ a ((a.length:Int)-(1:Int)))=(45:UInt8)))))))))).bind fun(c:Bool)=>(bif c then some (1,b,false)else(M5 fu a d fu (0:Int) b)))
def aer(fu:Nat)(a:aA)(b:Option Unit):Option Unit:=
 (if(0:Int)<(a.length:Int)then none else some ())
def adf(fu:Nat)(b:aA):Nat->Option Unit:=fun a=>bM (fun(g:Unit->Option Unit) v=>aer fu b (g ())) a ()
theorem apc{fu:Nat}{a:aA}{b:Nat}:adf fu a (b+1)=aer fu a (adf fu a b):=rfl
def xf(fu:Nat)(b:aA)(d:Int)(g:Bool->Bool->aA->Option ((Bool×Bool×aA)⊕(Bool×Bool×aA×Nat)))(f:Bool)(e:Bool)(a:aA):Option ((Bool×Bool×aA)⊕(Bool×Bool×aA×Nat)):=
 (gd (a.length<=1000000000)<|(if(bR a b)<(0:Int)then some (.inl (f,e,a))else(gd (bJ ((bR a b)+d))<|(gd (0<=((bR a b)+d)/\((bR a b)+d)<=(a.length:Int))<|((M2 fu (kO (aR ((bR a b)+d)) a) f e).bind fun(c:(Nat×Bool×Bool))=>(if c.1=0 then(gd (bJ ((bR a b)+(b.length:Int)))<|(gd (0<=((bR a b)+(b.length:Int))/\((bR a b)+(b.length:Int))<=(a.length:Int))<|(g c.2.1 c.2.2 (bK (aR ((bR a b)+(b.length:Int))) a))))else some (.inr (c.2.1,c.2.2,a,c.1))))))))
def xe(fu:Nat)(f:aA)(e:Int):Nat->Bool->Bool->aA->Option ((Bool×Bool×aA)⊕(Bool×Bool×aA×Nat)):=fun d c b a=>bM (fun(g:(Bool×Bool×aA)->Option ((Bool×Bool×aA)⊕(Bool×Bool×aA×Nat))) v=>xf fu f e (fun c b a=>g (c,b,a)) v.1 v.2.1 v.2.2) d (c,b,a)
theorem aeo{fu:Nat}{b:aA}{a:Int}{c:Nat}{f:Bool}{e:Bool}{d:aA}:xe fu b a (c+1) f e d=xf fu b a (xe fu b a c) f e d:=rfl
def adz(fu:Nat)(x_1:Bool)(e:Bool)(d:aA)(c:aA)(h:Int):Option (Bool×Bool×aA×Nat):=
 (((if(d.length:Int)=(0:Int)then(((adf fu c fu)).bind fun(j:Unit)=>some (.inr (x_1,e,c,0)))else some (.inl ()))).bind fun(g:(Unit⊕(Bool×Bool×aA×Nat)))=>eF (fun(i:Unit)=>(((xe fu d h fu x_1 e c)).bind fun(f:((Bool×Bool×aA)⊕(Bool×Bool×aA×Nat)))=>eF (fun(b:(Bool×Bool×aA))=>((M2 fu b.2.2 b.1 b.2.1).bind fun(a:(Nat×Bool×Bool))=>(if a.1=0 then some (a.2.1,a.2.2,b.2.2,0)else some (a.2.1,a.2.2,b.2.2,a.1)))) (fun q=>some q) f)) (fun q=>some q) g)
open Go.Lib renaming trimPrefix → fD
open List renaming drop → bK
def jx(fu:Nat)(s_0:aA):Option Bool:=
 (((if(s_0.length:Int)<(1:Int)then some true else some (decide ((255:Int)<(s_0.length:Int))))).bind fun(c:Bool)=>(bif c then some false else((aqw fu s_0 ([46]:aA)).bind fun(b:(aA×aA×Int))=>((adz fu false false b.1 b.2.1 b.2.2).bind fun(a:(Bool×Bool×aA×Nat))=>(if a.2.2.2=0 then some a.1 else(if a.2.2.2=1 then some a.2.1 else none))))))
def YB(fu:Nat)(s_0:aA):Option (aA×Bool):=
 (((if(2:Int)<=(s_0.length:Int)then(gd (0<=(0:Int)/\(0:Int)<(s_0.length:Int))<|(if(at_ s_0 (0:Int))=(91:UInt8)then(gd (bJ ((s_0.length:Int)-(1:Int)))<|(gd (0<=((s_0.length:Int)-(1:Int))/\((s_0.length:Int)-(1:Int))<(s_0.length:Int))<|some (decide ((at_ s_0 ((s_0.length:Int)-(1:Int)))=(93:UInt8)))))else some false))else some false)).bind fun(b:Bool)=>(bif b then(gd (bJ ((s_0.length:Int)-(1:Int)))<|(gd (0<=(1:Int)/\(1:Int)<=((s_0.length:Int)-(1:Int))/\((s_0.length:Int)-(1:Int))<=(s_0.length:Int))<|((zk fu (sub s_0 (1:Int) ((s_0.length:Int)-(1:Int)))).bind fun(a:(aA×Bool))=>(bif (!a.2)then some (([]:aA),false)else(gd (([91]:aA).length+a.1.length<=9223372036854775807)<|(gd ((([91]:aA)++a.1).length+([93]:aA).length<=9223372036854775807)<|some ((([91]:aA)++a.1)++([93]:aA),true)))))))else((zt fu s_0).bind fun(e:Bool)=>(bif e then some (s_0,true)else((jx fu s_0).bind fun(d:Bool)=>(bif d then((LJ fu s_0).bind fun(c:aA)=>some (c,true))else some (([]:aA),false)))))))
def vg(fu:Nat)(s_0:aA)(d:Int->Int->Option (Int⊕(Int×UInt8)))(b:Int)(a:Int):Option (Int⊕(Int×UInt8)):=
 (if a<(s_0.length:Int)then(((gd (0<=a/\a<(s_0.length:Int))<|(if(at_ s_0 a)<(48:UInt8)then some true else(gd (0<=a/\a<(s_0.length:Int))<|some (decide ((57:UInt8)<(at_ s_0 a))))))).bind fun(c:Bool)=>(bif c then some (.inr ((0:Int),(5:UInt8)))else(gd (bJ ((10:Int)*b))<|(gd (0<=a/\a<(s_0.length:Int))<|(gd (bJ (((10:Int)*b)+(((at_ s_0 a)-(48:UInt8)).toNat:Int)))<|(gd (bJ (a+(1:Int)))<|(d (((10:Int)*b)+(((at_ s_0 a)-(48:UInt8)).toNat:Int)) (a+(1:Int)))))))))else some (.inl b))
def vd(fu:Nat)(s_0:aA):Nat->Int->Int->Option (Int⊕(Int×UInt8)):=fun c b a=>bM (fun(g:(Int×Int)->Option (Int⊕(Int×UInt8))) v=>vg fu s_0 (fun b a=>g (b,a)) v.1 v.2) c (b,a)
theorem asi{fu:Nat}{s_0:aA}{a:Nat}{c:Int}{b:Int}:vd fu s_0 (a+1) c b=vg fu s_0 (vd fu s_0 a) c b:=rfl
def U7(fu:Nat)(s_0:aA):Option (Int×UInt8):=
 (((if(s_0.length:Int)<(1:Int)then some true else some (decide ((10:Int)<(s_0.length:Int))))).bind fun(b:Bool)=>(bif b then some ((0:Int),(5:UInt8))else(((vd fu s_0 fu (0:Int) (0:Int))).bind fun(c:(Int⊕(Int×UInt8)))=>eF (fun(a:Int)=>(if(2147483647:Int)<a then some ((0:Int),(3:UInt8))else some (a,(0:UInt8)))) (fun q=>some q) c)))
def alw(fu:Nat)(a:(aA×Int))(b:UQ):Option (Int×UInt8×(aA×Int)×UQ):=
 (((gd (0<=a.2/\a.2<=(a.1.length:Int))<|(if(0:Int)<=(dJ (·==(64:UInt8)) (bK (aR a.2) a.1))then(gd (bJ (a.2+(dJ (·==(64:UInt8)) (bK (aR a.2) a.1))))<|((lh fu a (a.2+(dJ (·==(64:UInt8)) (bK (aR a.2) a.1))) (0:Int)).bind fun(e:(Int×Bool))=>(bif e.2 then(gd (0<=e.1/\e.1<(a.1.length:Int))<|(if(at_ a.1 e.1)=(58:UInt8)then some (.inr (e.1,(15:UInt8),a,b))else some (.inr (e.1,(5:UInt8),a,b))))else(if(dJ (·==(64:UInt8)) (bK (aR a.2) a.1))=(0:Int)then some (.inr (a.2+(dJ (·==(64:UInt8)) (bK (aR a.2) a.1)),(5:UInt8),a,b))else(gd (0<=a.2/\a.2<=(a.2+(dJ (·==(64:UInt8)) (bK (aR a.2) a.1)))/\(a.2+(dJ (·==(64:UInt8)) (bK (aR a.2) a.1)))<=(a.1.length:Int))<|((kc fu (sub a.1 a.2 (a.2+(dJ (·==(64:UInt8)) (bK (aR a.2) a.1))))).bind fun(u:aA)=>(gd (bJ ((a.2+(dJ (·==(64:UInt8)) (bK (aR a.2) a.1)))+(1:Int)))<|some (.inl ((a.2+(dJ (·==(64:UInt8)) (bK (aR a.2) a.1)))+(1:Int),u)))))))))else some (.inl (a.2,b.2.1))))).bind fun(t:((Int×aA)⊕(Int×UInt8×(aA×Int)×UQ)))=>eF (fun(d:(Int×aA))=>((Sx fu a.1 d.1 ([58,59,63]:aA)).bind fun(s:Int)=>((((Cv fu (a.1,d.1) (91:UInt8)).bind fun(r:Bool)=>(bif r then((Sx fu a.1 d.1 ([93]:aA)).bind fun(j:Int)=>(gd (bJ (j+(1:Int)))<|some (min (j+(1:Int)) (a.1.length:Int))))else some s))).bind fun(c:Int)=>(gd (0<=d.1/\d.1<=c/\c<=(a.1.length:Int))<|((YB fu (sub a.1 d.1 c)).bind fun(g:(aA×Bool))=>(bif (!g.2)then some (d.1,(5:UInt8),(a.1,d.1),(b.1,d.2,b.2.2.1,b.2.2.2.1,b.2.2.2.2.1,b.2.2.2.2.2))else((Cv fu (a.1,c) (58:UInt8)).bind fun(p:Bool)=>(bif p then(gd (bJ (c+(1:Int)))<|((Sx fu a.1 (c+(1:Int)) ([59,63]:aA)).bind fun(h:Int)=>(gd (0<=(c+(1:Int))/\(c+(1:Int))<=h/\h<=(a.1.length:Int))<|((U7 fu (sub a.1 (c+(1:Int)) h)).bind fun(f:(Int×UInt8))=>(((((if f.2=(0:UInt8)then(if f.1<(1:Int)then some true else some (decide ((65535:Int)<f.1)))else some false)).bind fun(o:Bool)=>(bif o then some (3:UInt8)else some f.2))).bind fun(i:UInt8)=>(if i=(0:UInt8)then some ((0:Int),(0:UInt8),(a.1,h),(b.1,d.2,g.1,f.1,b.2.2.2.2.1,b.2.2.2.2.2))else some (c+(1:Int),i,(a.1,c+(1:Int)),(b.1,d.2,g.1,b.2.2.2.1,b.2.2.2.2.1,b.2.2.2.2.2))))))))else((((V3 fu (a.1,c)).bind fun(n:Bool)=>(bif (!n)then((Cv fu (a.1,c) (59:UInt8)).bind fun(m:Bool)=>(bif (!m)then((Cv fu (a.1,c) (63:UInt8)).bind fun(l:Bool)=>some (!l))else some false))else some false))).bind fun(k:Bool)=>(bif k then some (c,(5:UInt8),(a.1,c),(b.1,d.2,g.1,b.2.2.2.1,b.2.2.2.2.1,b.2.2.2.2.2))else some ((0:Int),(0:UInt8),(a.1,c),(b.1,d.2,g.1,b.2.2.2.1,b.2.2.2.2.1,b.2.2.2.2.2)))))))))))) (fun q=>some q) t)
def ahp(fu:Nat)(b:(aA×Int))(l:UQ)(f:Int)(e:Bool)(k:(List UInt8)->Int->Option (((List UInt8)×Int)⊕(Int×UInt8×(aA×Int)×UQ)))(c:List UInt8)(a:Int):Option (((List UInt8)×Int)⊕(Int×UInt8×(aA×Int)×UQ)):=
 (if a<f then(((gd (0<=a/\a<(b.1.length:Int))<|(((((if(48:UInt8)<=(at_ b.1 a)then some (decide ((at_ b.1 a)<=(57:UInt8)))else some false)).bind fun(d:Bool)=>(bif d then some d else(bif (!e)then(if(at_ b.1 a)=(42:UInt8)then some true else some (decide ((at_ b.1 a)=(35:UInt8))))else some false)))).bind fun(j:Bool)=>(bif j then(gd ((c.length+([at_ b.1 a]:List UInt8).length)*1<=140737488355328)<|some (.inl (c++([at_ b.1 a]:List UInt8))))else(((if(at_ b.1 a)=(45:UInt8)then some false else(if(at_ b.1 a)=(46:UInt8)then some false else(if(at_ b.1 a)=(40:UInt8)then some false else some (!decide ((at_ b.1 a)=(41:UInt8))))))).bind fun(i:Bool)=>(bif i then some (.inr (a,(5:UInt8),(b.1,a),l))else some (.inl c))))))).bind fun(h:((List UInt8)⊕(Int×UInt8×(aA×Int)×UQ)))=>eF (fun(g:List UInt8)=>(gd (bJ (a+(1:Int)))<|(k g (a+(1:Int))))) (fun q=>some (.inr q)) h)else some (.inl (c,a)))
def aic(fu:Nat)(h:(aA×Int))(f:UQ)(d:Int)(c:Bool):Nat->(List UInt8)->Int->Option (((List UInt8)×Int)⊕(Int×UInt8×(aA×Int)×UQ)):=fun e b a=>bM (fun(g:((List UInt8)×Int)->Option (((List UInt8)×Int)⊕(Int×UInt8×(aA×Int)×UQ))) v=>ahp fu h f d c (fun b a=>g (b,a)) v.1 v.2) e (b,a)
theorem aqh{fu:Nat}{d:(aA×Int)}{c:UQ}{b:Int}{a:Bool}{e:Nat}{g:List UInt8}{f:Int}:aic fu d c b a (e+1) g f=ahp fu d c b a (aic fu d c b a e) g f:=rfl
def akj(fu:Nat)(b:(aA×Int))(a:UQ):Option (Int×UInt8×(aA×Int)×UQ):=
 ((Sx fu b.1 b.2 ([59]:aA)).bind fun(f:Int)=>((Cv fu b (43:UInt8)).bind fun(d:Bool)=>(((bif d then(gd ((([]:List UInt8).length+([(43:UInt8)]:List UInt8).length)*1<=140737488355328)<|(gd (bJ (b.2+(1:Int)))<|some (([]:List UInt8)++([(43:UInt8)]:List UInt8),b.2+(1:Int))))else some (([]:List UInt8),b.2))).bind fun(e:((List UInt8)×Int))=>(((aic fu b a f d fu e.1 e.2)).bind fun(g:(((List UInt8)×Int)⊕(Int×UInt8×(aA×Int)×UQ)))=>eF (fun(c:((List UInt8)×Int))=>(if(fD c.1 ([43]:aA))=([]:aA)then some (b.2,(5:UInt8),(b.1,c.2),(a.1,c.1,a.2.2.1,a.2.2.2.1,a.2.2.2.2.1,a.2.2.2.2.2))else(if(30:Int)<((fD c.1 ([43]:aA)).length:Int)then some (b.2,(4:UInt8),(b.1,c.2),(a.1,c.1,a.2.2.1,a.2.2.2.1,a.2.2.2.2.1,a.2.2.2.2.2))else some ((0:Int),(0:UInt8),(b.1,c.2),(a.1,c.1,a.2.2.1,a.2.2.2.1,a.2.2.2.2.1,a.2.2.2.2.2))))) (fun q=>some q) g))))
def zr(fu:Nat)(a:PQ)(x_1:aA):Option Bool:=
 some (decide (a.1=x_1))
def xh(fu:Nat)(s_0:LQ)(d:aA)(c:Int->Option (Unit⊕Int))(a:Int):Option (Unit⊕Int):=
 (if a<(s_0.length:Int)then(gd (0<=a/\a<(s_0.length:Int))<|(gd (0<=a/\a<(s_0.length:Int))<|((zr fu ((el s_0 a).1,(el s_0 a).2.1,((el s_0 a).2.2)) d).bind fun(b:Bool)=>(bif b then some (.inr a)else(gd (bJ (a+(1:Int)))<|(c (a+(1:Int))))))))else some (.inl ()))
def adb(fu:Nat)(s_0:LQ)(c:aA):Nat->Int->Option (Unit⊕Int):=fun b a=>bM (fun(g:Int->Option (Unit⊕Int)) v=>xh fu s_0 c (fun a=>g a) v) b a
theorem aee{fu:Nat}{s_0:LQ}{a:aA}{b:Nat}{c:Int}:adb fu s_0 a (b+1) c=xh fu s_0 a (adb fu s_0 a b) c:=rfl
def afd(fu:Nat)(s_0:LQ)(b:aA):Option Int:=
 (((adb fu s_0 b fu (0:Int))).bind fun(a:(Unit⊕Int))=>eF (fun(c:Unit)=>some (-1:Int)) (fun q=>some q) a)
def aes(fu:Nat)(s_0:LQ)(b:aA):Option Bool:=
 ((afd fu s_0 b).bind fun(a:Int)=>some (decide ((0:Int)<=a)))
open Go.Op renaming bytesLess → nZ
open List renaming set → eA
def jw(fu:Nat)(c:LQ)(b:aA):Option Bool:=
 ((aes fu c b).bind fun(a:Bool)=>some a)
def jt(fu:Nat)(a:LQ)(c:aA):Option UInt8:=
 ((jw fu a c).bind fun(b:Bool)=>(bif b then some (7:UInt8)else(if(16:Int)<=(a.length:Int)then some (4:UInt8)else some (0:UInt8))))
def vy(fu:Nat)(a:(aA×Int))(g:LQ)(b:Int)(e:Int):Option (LQ×Int×UInt8×(aA×Int)):=
 (gd (0<=a.2/\a.2<=b/\b<=(a.1.length:Int))<|(((if(0:Int)<=(dJ (·==(61:UInt8)) (sub a.1 a.2 b))then(gd (bJ (a.2+(dJ (·==(61:UInt8)) (sub a.1 a.2 b))))<|some (a.2+(dJ (·==(61:UInt8)) (sub a.1 a.2 b))))else some b)).bind fun(c:Int)=>((lh fu a c e).bind fun(j:(Int×Bool))=>(bif j.2 then some (([]:LQ),j.1,(5:UInt8),a)else(if c=a.2 then some (([]:LQ),a.2,(5:UInt8),a)else(gd (0<=a.2/\a.2<=c/\c<=(a.1.length:Int))<|((kc fu (sub a.1 a.2 c)).bind fun(n:aA)=>((LJ fu n).bind fun(f:aA)=>(((if(0:Int)<=(dJ (·==(61:UInt8)) (sub a.1 a.2 b))then(gd (bJ (c+(1:Int)))<|((lh fu (a.1,c+(1:Int)) b e).bind fun(i:(Int×Bool))=>(bif i.2 then some (.inr (([]:LQ),i.1,(5:UInt8),(a.1,c+(1:Int))))else(((if(c+(1:Int))=b then some (decide (e=(1:Int)))else some false)).bind fun(m:Bool)=>(bif m then some (.inr (([]:LQ),b,(5:UInt8),(a.1,c+(1:Int))))else(gd (0<=(c+(1:Int))/\(c+(1:Int))<=b/\b<=(a.1.length:Int))<|((kc fu (sub a.1 (c+(1:Int)) b)).bind fun(l:aA)=>some (.inl (b,l)))))))))else(if e=(2:Int)then some (.inr (([]:LQ),b,(5:UInt8),(a.1,b)))else some (.inl (b,([]:aA)))))).bind fun(k:((Int×aA)⊕(LQ×Int×UInt8×(aA×Int))))=>eF (fun(d:(Int×aA))=>((jt fu g f).bind fun(h:UInt8)=>(if h=(0:UInt8)then(gd ((g.length+([(f,d.2,(decide ((0:Int)<=(dJ (·==(61:UInt8)) (sub a.1 a.2 b)))))]:LQ).length)*40<=140737488355328)<|some (g++([(f,d.2,(decide ((0:Int)<=(dJ (·==(61:UInt8)) (sub a.1 a.2 b)))))]:LQ),(0:Int),(0:UInt8),(a.1,d.1)))else some (([]:LQ),a.2,h,(a.1,d.1))))) (fun q=>some q) k)))))))))
def va(fu:Nat)(a:aA):Option Bool:=
 some (!decide (a=a))
def vm(fu:Nat)(b:aA)(a:aA):Option Int:=
 ((va fu b).bind fun(d:Bool)=>((va fu a).bind fun(c:Bool)=>(bif d then(bif c then some (0:Int)else some (-1:Int))else(bif c then some (1:Int)else(bif (nZ b a)then some (-1:Int)else(bif (!(nZ b a||b==a))then some (1:Int)else some (0:Int)))))))
def gq(fu:Nat)(a_0:PQ)(b:PQ):Option Int:=
 ((vm fu a_0.1 b.1).bind fun(a:Int)=>some a)
def abt(fu:Nat)(f:Int)(e:LQ->Int->Option LQ)(b:LQ)(a:Int):Option LQ:=
 (((if f<a then(gd (0<=a/\a<(b.length:Int))<|(gd (0<=a/\a<(b.length:Int))<|(gd (bJ (a-(1:Int)))<|(gd (0<=(a-(1:Int))/\(a-(1:Int))<(b.length:Int))<|(gd (0<=(a-(1:Int))/\(a-(1:Int))<(b.length:Int))<|((gq fu ((el b a).1,(el b a).2.1,((el b a).2.2)) ((el b (a-(1:Int))).1,(el b (a-(1:Int))).2.1,((el b (a-(1:Int))).2.2))).bind fun(d:Int)=>some (decide (d<(0:Int)))))))))else some false)).bind fun(c:Bool)=>(bif c then(gd (bJ (a-(1:Int)))<|(gd (bJ (a-(1:Int)))<|(gd (0<=(a-(1:Int))/\(a-(1:Int))<(b.length:Int))<|(gd (0<=(a-(1:Int))/\(a-(1:Int))<(b.length:Int))<|(gd (0<=a/\a<(b.length:Int))<|(gd (0<=a/\a<(b.length:Int))<|(gd (0<=a/\a<(b.length:Int))<|(gd (0<=a/\a<(b.length:Int))<|(gd (0<=(a-(1:Int))/\(a-(1:Int))<((eA b (aR a) ((el b (a-(1:Int))).1,(el b (a-(1:Int))).2.1,((el b (a-(1:Int))).2.2))).length:Int))<|(gd (0<=(a-(1:Int))/\(a-(1:Int))<((eA b (aR a) ((el b (a-(1:Int))).1,(el b (a-(1:Int))).2.1,((el b (a-(1:Int))).2.2))).length:Int))<|(gd (bJ (a-(1:Int)))<|(e (eA (eA b (aR a) ((el b (a-(1:Int))).1,(el b (a-(1:Int))).2.1,((el b (a-(1:Int))).2.2))) (aR (a-(1:Int))) ((el b a).1,(el b a).2.1,((el b a).2.2))) (a-(1:Int))))))))))))))else some b))
def abv(fu:Nat)(d:Int):Nat->LQ->Int->Option LQ:=fun c b a=>bM (fun(g:(LQ×Int)->Option LQ) v=>abt fu d (fun b a=>g (b,a)) v.1 v.2) c (b,a)
theorem ael{fu:Nat}{a:Int}{b:Nat}{d:LQ}{c:Int}:abv fu a (b+1) d c=abt fu a (abv fu a b) d c:=rfl
def xq(fu:Nat)(e:Int)(b_3:Int)(d:LQ->Int->Option LQ)(b:LQ)(a:Int):Option LQ:=
 (if a<b_3 then(((abv fu e fu b a)).bind fun(c:LQ)=>(gd (bJ (a+(1:Int)))<|(d c (a+(1:Int)))))else some b)
def lz(fu:Nat)(d:Int)(b_3:Int):Nat->LQ->Int->Option LQ:=fun c b a=>bM (fun(g:(LQ×Int)->Option LQ) v=>xq fu d b_3 (fun b a=>g (b,a)) v.1 v.2) c (b,a)
theorem acw{fu:Nat}{a:Int}{b_3:Int}{b:Nat}{d:LQ}{c:Int}:lz fu a b_3 (b+1) d c=xq fu a b_3 (lz fu a b_3 b) d c:=rfl
def xo(fu:Nat)(b:LQ)(a:Int)(b_3:Int):Option LQ:=
 (gd (bJ (a+(1:Int)))<|(lz fu a b_3 fu b (a+(1:Int))))
def akh(fu:Nat)(c:Int)(b_3:Int)(e:Int)(d:LQ->Int->Option LQ)(b:LQ)(a:Int):Option LQ:=
 (if a<e then(gd (bJ (c+a))<|(gd (bJ (b_3+a))<|(gd (bJ (b_3+a))<|(gd (0<=(b_3+a)/\(b_3+a)<(b.length:Int))<|(gd (0<=(b_3+a)/\(b_3+a)<(b.length:Int))<|(gd (bJ (c+a))<|(gd (0<=(c+a)/\(c+a)<(b.length:Int))<|(gd (0<=(c+a)/\(c+a)<(b.length:Int))<|(gd (0<=(c+a)/\(c+a)<(b.length:Int))<|(gd (0<=(c+a)/\(c+a)<(b.length:Int))<|(gd (0<=(b_3+a)/\(b_3+a)<((eA b (aR (c+a)) ((el b (b_3+a)).1,(el b (b_3+a)).2.1,((el b (b_3+a)).2.2))).length:Int))<|(gd (0<=(b_3+a)/\(b_3+a)<((eA b (aR (c+a)) ((el b (b_3+a)).1,(el b (b_3+a)).2.1,((el b (b_3+a)).2.2))).length:Int))<|(gd (bJ (a+(1:Int)))<|(d (eA (eA b (aR (c+a)) ((el b (b_3+a)).1,(el b (b_3+a)).2.1,((el b (b_3+a)).2.2))) (aR (b_3+a)) ((el b (c+a)).1,(el b (c+a)).2.1,((el b (c+a)).2.2))) (a+(1:Int))))))))))))))))else some b)
def aku(fu:Nat)(e:Int)(b_3:Int)(d:Int):Nat->LQ->Int->Option LQ:=fun c b a=>bM (fun(g:(LQ×Int)->Option LQ) v=>akh fu e b_3 d (fun b a=>g (b,a)) v.1 v.2) c (b,a)
def acs(fu:Nat)(c:LQ)(b:Int)(b_3:Int)(a:Int):Option LQ:=
 (aku fu b b_3 a fu c (0:Int))
open Go.IntKind renaming wrap → bN
open List renaming set → eA, take → kO
def amb(fu:Nat)(c:Int)(e:LQ->Int->Int->Option (LQ×Int))(d:LQ)(a:Int)(b:Int):Option (LQ×Int):=
 (if a=b then some (d,a)else(if b<a then(gd (bJ (c-a))<|((acs fu d (c-a) c b).bind fun(g:LQ)=>(gd (bJ (a-b))<|(e g (a-b) b))))else(gd (bJ (c-a))<|(gd (bJ (c+b))<|(gd (bJ ((c+b)-a))<|((acs fu d (c-a) ((c+b)-a) a).bind fun(f:LQ)=>(gd (bJ (b-a))<|(e f a (b-a)))))))))
def ame(fu:Nat)(e:Int):Nat->LQ->Int->Int->Option (LQ×Int):=fun d c b a=>bM (fun(g:(LQ×Int×Int)->Option (LQ×Int)) v=>amb fu e (fun c b a=>g (c,b,a)) v.1 v.2.1 v.2.2) d (c,b,a)
def ahi(fu:Nat)(f:LQ)(d:Int)(a:Int)(c:Int):Option LQ:=
 (gd (bJ (a-d))<|(gd (bJ (c-a))<|(((ame fu a fu f (a-d) (c-a))).bind fun(b:(LQ×Int))=>(gd (bJ (a-b.2))<|((acs fu b.1 (a-b.2) a b.2).bind fun(e:LQ)=>some e)))))
def akt(fu:Nat)(c:LQ)(d:Int)(e:Int->Int->Option Int)(a:Int)(b:Int):Option Int:=
 (if a<b then(gd (bJ (a+b))<|(gd (0<=(bN .i64 ((bN .u64 (a+b))/2))/\(bN .i64 ((bN .u64 (a+b))/2))<(c.length:Int))<|(gd (0<=(bN .i64 ((bN .u64 (a+b))/2))/\(bN .i64 ((bN .u64 (a+b))/2))<(c.length:Int))<|(gd (0<=d/\d<(c.length:Int))<|(gd (0<=d/\d<(c.length:Int))<|((gq fu ((el c (bN .i64 ((bN .u64 (a+b))/2))).1,(el c (bN .i64 ((bN .u64 (a+b))/2))).2.1,((el c (bN .i64 ((bN .u64 (a+b))/2))).2.2)) ((el c d).1,(el c d).2.1,((el c d).2.2))).bind fun(f:Int)=>(if f<(0:Int)then(gd (bJ ((bN .i64 ((bN .u64 (a+b))/2))+(1:Int)))<|(e ((bN .i64 ((bN .u64 (a+b))/2))+(1:Int)) b))else(e a (bN .i64 ((bN .u64 (a+b))/2))))))))))else some a)
def alj(fu:Nat)(e:LQ)(d:Int):Nat->Int->Int->Option Int:=fun c b a=>bM (fun(g:(Int×Int)->Option Int) v=>akt fu e d (fun b a=>g (b,a)) v.1 v.2) c (b,a)
def aks(fu:Nat)(c:Int)(d:LQ->Int->Option LQ)(b:LQ)(a:Int):Option LQ:=
 (gd (bJ (c-(1:Int)))<|(if a<(c-(1:Int))then(gd (bJ (a+(1:Int)))<|(gd (bJ (a+(1:Int)))<|(gd (0<=(a+(1:Int))/\(a+(1:Int))<(b.length:Int))<|(gd (0<=(a+(1:Int))/\(a+(1:Int))<(b.length:Int))<|(gd (0<=a/\a<(b.length:Int))<|(gd (0<=a/\a<(b.length:Int))<|(gd (0<=a/\a<(b.length:Int))<|(gd (0<=a/\a<(b.length:Int))<|(gd (0<=(a+(1:Int))/\(a+(1:Int))<((eA b (aR a) ((el b (a+(1:Int))).1,(el b (a+(1:Int))).2.1,((el b (a+(1:Int))).2.2))).length:Int))<|(gd (0<=(a+(1:Int))/\(a+(1:Int))<((eA b (aR a) ((el b (a+(1:Int))).1,(el b (a+(1:Int))).2.1,((el b (a+(1:Int))).2.2))).length:Int))<|(gd (bJ (a+(1:Int)))<|(d (eA (eA b (aR a) ((el b (a+(1:Int))).1,(el b (a+(1:Int))).2.1,((el b (a+(1:Int))).2.2))) (aR (a+(1:Int))) ((el b a).1,(el b a).2.1,((el b a).2.2))) (a+(1:Int))))))))))))))else some b))
def ali(fu:Nat)(d:Int):Nat->LQ->Int->Option LQ:=fun c b a=>bM (fun(g:(LQ×Int)->Option LQ) v=>aks fu d (fun b a=>g (b,a)) v.1 v.2) c (b,a)
def akr(fu:Nat)(c:LQ)(d:Int)(e:Int->Int->Option Int)(a:Int)(b:Int):Option Int:=
 (if a<b then(gd (bJ (a+b))<|(gd (0<=d/\d<(c.length:Int))<|(gd (0<=d/\d<(c.length:Int))<|(gd (0<=(bN .i64 ((bN .u64 (a+b))/2))/\(bN .i64 ((bN .u64 (a+b))/2))<(c.length:Int))<|(gd (0<=(bN .i64 ((bN .u64 (a+b))/2))/\(bN .i64 ((bN .u64 (a+b))/2))<(c.length:Int))<|((gq fu ((el c d).1,(el c d).2.1,((el c d).2.2)) ((el c (bN .i64 ((bN .u64 (a+b))/2))).1,(el c (bN .i64 ((bN .u64 (a+b))/2))).2.1,((el c (bN .i64 ((bN .u64 (a+b))/2))).2.2))).bind fun(f:Int)=>(if f<(0:Int)then(e a (bN .i64 ((bN .u64 (a+b))/2)))else(gd (bJ ((bN .i64 ((bN .u64 (a+b))/2))+(1:Int)))<|(e ((bN .i64 ((bN .u64 (a+b))/2))+(1:Int)) b)))))))))else some a)
def alh(fu:Nat)(e:LQ)(d:Int):Nat->Int->Int->Option Int:=fun c b a=>bM (fun(g:(Int×Int)->Option Int) v=>akr fu e d (fun b a=>g (b,a)) v.1 v.2) c (b,a)
def akq(fu:Nat)(d:Int)(c:LQ->Int->Option LQ)(b:LQ)(a:Int):Option LQ:=
 (if d<a then(gd (bJ (a-(1:Int)))<|(gd (bJ (a-(1:Int)))<|(gd (0<=(a-(1:Int))/\(a-(1:Int))<(b.length:Int))<|(gd (0<=(a-(1:Int))/\(a-(1:Int))<(b.length:Int))<|(gd (0<=a/\a<(b.length:Int))<|(gd (0<=a/\a<(b.length:Int))<|(gd (0<=a/\a<(b.length:Int))<|(gd (0<=a/\a<(b.length:Int))<|(gd (0<=(a-(1:Int))/\(a-(1:Int))<((eA b (aR a) ((el b (a-(1:Int))).1,(el b (a-(1:Int))).2.1,((el b (a-(1:Int))).2.2))).length:Int))<|(gd (0<=(a-(1:Int))/\(a-(1:Int))<((eA b (aR a) ((el b (a-(1:Int))).1,(el b (a-(1:Int))).2.1,((el b (a-(1:Int))).2.2))).length:Int))<|(gd (bJ (a-(1:Int)))<|(c (eA (eA b (aR a) ((el b (a-(1:Int))).1,(el b (a-(1:Int))).2.1,((el b (a-(1:Int))).2.2))) (aR (a-(1:Int))) ((el b a).1,(el b a).2.1,((el b a).2.2))) (a-(1:Int))))))))))))))else some b)
def alg(fu:Nat)(d:Int):Nat->LQ->Int->Option LQ:=fun c b a=>bM (fun(g:(LQ×Int)->Option LQ) v=>akq fu d (fun b a=>g (b,a)) v.1 v.2) c (b,a)
def akp(fu:Nat)(c:LQ)(f:Int)(e:Int)(d:Int)(g:Int->Int->Option Int)(a:Int)(b:Int):Option Int:=
 (if a<b then(gd (bJ (a+b))<|(gd (bJ ((((bN .i64 ((bN .u64 (f+d))/2))+e)-(1:Int))-(bN .i64 ((bN .u64 (a+b))/2))))<|(gd (0<=((((bN .i64 ((bN .u64 (f+d))/2))+e)-(1:Int))-(bN .i64 ((bN .u64 (a+b))/2)))/\((((bN .i64 ((bN .u64 (f+d))/2))+e)-(1:Int))-(bN .i64 ((bN .u64 (a+b))/2)))<(c.length:Int))<|(gd (0<=((((bN .i64 ((bN .u64 (f+d))/2))+e)-(1:Int))-(bN .i64 ((bN .u64 (a+b))/2)))/\((((bN .i64 ((bN .u64 (f+d))/2))+e)-(1:Int))-(bN .i64 ((bN .u64 (a+b))/2)))<(c.length:Int))<|(gd (0<=(bN .i64 ((bN .u64 (a+b))/2))/\(bN .i64 ((bN .u64 (a+b))/2))<(c.length:Int))<|(gd (0<=(bN .i64 ((bN .u64 (a+b))/2))/\(bN .i64 ((bN .u64 (a+b))/2))<(c.length:Int))<|((gq fu ((el c ((((bN .i64 ((bN .u64 (f+d))/2))+e)-(1:Int))-(bN .i64 ((bN .u64 (a+b))/2)))).1,(el c ((((bN .i64 ((bN .u64 (f+d))/2))+e)-(1:Int))-(bN .i64 ((bN .u64 (a+b))/2)))).2.1,((el c ((((bN .i64 ((bN .u64 (f+d))/2))+e)-(1:Int))-(bN .i64 ((bN .u64 (a+b))/2)))).2.2)) ((el c (bN .i64 ((bN .u64 (a+b))/2))).1,(el c (bN .i64 ((bN .u64 (a+b))/2))).2.1,((el c (bN .i64 ((bN .u64 (a+b))/2))).2.2))).bind fun(h:Int)=>(if h<(0:Int)then(g a (bN .i64 ((bN .u64 (a+b))/2)))else(gd (bJ ((bN .i64 ((bN .u64 (a+b))/2))+(1:Int)))<|(g ((bN .i64 ((bN .u64 (a+b))/2))+(1:Int)) b))))))))))else some a)
def alf(fu:Nat)(h:LQ)(f:Int)(e:Int)(d:Int):Nat->Int->Int->Option Int:=fun c b a=>bM (fun(g:(Int×Int)->Option Int) v=>akp fu h f e d (fun b a=>g (b,a)) v.1 v.2) c (b,a)
def ly:Nat->LQ->Int->Int->Int->Option LQ
 |0,_,_,_,_=>none
 |d+1,f,a,c,b=>(((gd (bJ (c-a))<|(if(c-a)=(1:Int)then(((alj d f a d c b)).bind fun(v:Int)=>(((ali d v d f a)).bind fun(u:LQ)=>some (.inr u)))else some (.inl ())))).bind fun(t:(Unit⊕LQ))=>eF (fun(x:Unit)=>(((gd (bJ (b-c))<|(if(b-c)=(1:Int)then(((alh d f c d a c)).bind fun(s:Int)=>(((alg d s d f c)).bind fun(r:LQ)=>some (.inr r)))else some (.inl ())))).bind fun(p:(Unit⊕LQ))=>eF (fun(w:Unit)=>(gd (bJ (a+b))<|(gd (bJ ((bN .i64 ((bN .u64 (a+b))/2))+c))<|(((if(bN .i64 ((bN .u64 (a+b))/2))<c then(gd (bJ (((bN .i64 ((bN .u64 (a+b))/2))+c)-b))<|some (((bN .i64 ((bN .u64 (a+b))/2))+c)-b,bN .i64 ((bN .u64 (a+b))/2)))else some (a,c))).bind fun(i:(Int×Int))=>(gd (bJ (((bN .i64 ((bN .u64 (a+b))/2))+c)-(1:Int)))<|(((alf d f a c b d i.1 i.2)).bind fun(e:Int)=>(gd (bJ (((bN .i64 ((bN .u64 (a+b))/2))+c)-e))<|(((((if e<c then some (decide (c<(((bN .i64 ((bN .u64 (a+b))/2))+c)-e)))else some false)).bind fun(o:Bool)=>(bif o then((ahi d f e c (((bN .i64 ((bN .u64 (a+b))/2))+c)-e)).bind fun(n:LQ)=>some n)else some f))).bind fun(h:LQ)=>(((((if a<e then some (decide (e<(bN .i64 ((bN .u64 (a+b))/2))))else some false)).bind fun(m:Bool)=>(bif m then((ly d h a e (bN .i64 ((bN .u64 (a+b))/2))).bind fun(l:LQ)=>some l)else some h))).bind fun(g:LQ)=>(((if(bN .i64 ((bN .u64 (a+b))/2))<(((bN .i64 ((bN .u64 (a+b))/2))+c)-e)then some (decide ((((bN .i64 ((bN .u64 (a+b))/2))+c)-e)<b))else some false)).bind fun(k:Bool)=>(bif k then((ly d g (bN .i64 ((bN .u64 (a+b))/2)) (((bN .i64 ((bN .u64 (a+b))/2))+c)-e) b).bind fun(j:LQ)=>some j)else some g))))))))))) (fun q=>some q) p)) (fun q=>some q) t)
def adm(fu:Nat)(f:Int)(e:LQ->Int->Int->Option (LQ×Int))(c:LQ)(b:Int)(a:Int):Option (LQ×Int):=
 (if a<=f then((xo fu c b a).bind fun(d:LQ)=>(gd (bJ (a+(20:Int)))<|(e d a (a+(20:Int)))))else some (c,b))
def xk(fu:Nat)(e:Int):Nat->LQ->Int->Int->Option (LQ×Int):=fun d c b a=>bM (fun(g:(LQ×Int×Int)->Option (LQ×Int)) v=>adm fu e (fun c b a=>g (c,b,a)) v.1 v.2.1 v.2.2) d (c,b,a)
theorem alm{fu:Nat}{a:Int}{b:Nat}{e:LQ}{d:Int}{c:Int}:xk fu a (b+1) e d c=adm fu a (xk fu a b) e d c:=rfl
def alz(fu:Nat)(g:Int)(b:Int)(f:LQ->Int->Int->Option (LQ×Int))(d:LQ)(c:Int)(a:Int):Option (LQ×Int):=
 (if a<=g then(gd (bJ (c+b))<|((ly fu d c (c+b) a).bind fun(e:LQ)=>(gd (bJ ((2:Int)*b))<|(gd (bJ (a+((2:Int)*b)))<|(f e a (a+((2:Int)*b)))))))else some (d,c))
def amd(fu:Nat)(f:Int)(e:Int):Nat->LQ->Int->Int->Option (LQ×Int):=fun d c b a=>bM (fun(g:(LQ×Int×Int)->Option (LQ×Int)) v=>alz fu f e (fun c b a=>g (c,b,a)) v.1 v.2.1 v.2.2) d (c,b,a)
def adl(fu:Nat)(c:Int)(e:LQ->Int->Option LQ)(d:LQ)(a:Int):Option LQ:=
 (if a<c then(gd (bJ ((2:Int)*a))<|(((amd fu c a fu d (0:Int) ((2:Int)*a))).bind fun(b:(LQ×Int))=>(gd (bJ (b.2+a))<|(if(b.2+a)<c then((ly fu b.1 b.2 (b.2+a) c).bind fun(f:LQ)=>(gd (bJ (a*(2:Int)))<|(e f (a*(2:Int)))))else(gd (bJ (a*(2:Int)))<|(e b.1 (a*(2:Int))))))))else some d)
def xl(fu:Nat)(d:Int):Nat->LQ->Int->Option LQ:=fun c b a=>bM (fun(g:(LQ×Int)->Option LQ) v=>adl fu d (fun b a=>g (b,a)) v.1 v.2) c (b,a)
theorem alk{fu:Nat}{a:Int}{b:Nat}{d:LQ}{c:Int}:xl fu a (b+1) d c=adl fu a (xl fu a b) d c:=rfl
def aej(fu:Nat)(d:LQ)(a:Int):Option LQ:=
 (((xk fu a fu d (0:Int) (20:Int))).bind fun(b:(LQ×Int))=>((xo fu b.1 b.2 a).bind fun(c:LQ)=>(xl fu a fu c (20:Int))))
def aed(fu:Nat)(a:LQ):Option LQ:=
 ((aej fu a (a.length:Int)).bind fun(b:LQ)=>some b)
def L9(fu:Nat)(a:LQ):Option LQ:=
 (gd ((0+a.length)*40<=140737488355328)<|((aed fu a).bind fun(b:LQ)=>some b))
def aig(fu:Nat)(k:(Int×UInt8×aA×aA×Int×aA×aA×aA×Int×LQ×LQ))(j:Int->UInt8->aA->Int->LQ->Option (Int×UInt8×aA×Int×LQ))(i:Int)(e:UInt8)(c:aA)(b:Int)(d:LQ):Option (Int×UInt8×aA×Int×LQ):=
 (((if e=(0:UInt8)then((Cv fu (c,b) (59:UInt8)).bind fun(h:Bool)=>some h)else some false)).bind fun(g:Bool)=>(bif g then(gd (bJ (b+(1:Int)))<|((Sx fu c (b+(1:Int)) k.2.2.1).bind fun(f:Int)=>((vy fu (c,b+(1:Int)) d f (1:Int)).bind fun(a:(LQ×Int×UInt8×(aA×Int)))=>(j a.2.1 a.2.2.1 a.2.2.2.1 a.2.2.2.2 a.1))))else some (i,e,c,b,d)))
def kt(fu:Nat)(h:(Int×UInt8×aA×aA×Int×aA×aA×aA×Int×LQ×LQ)):Nat->Int->UInt8->aA->Int->LQ->Option (Int×UInt8×aA×Int×LQ):=fun f e d c b a=>bM (fun(g:(Int×UInt8×aA×Int×LQ)->Option (Int×UInt8×aA×Int×LQ)) v=>aig fu h (fun e d c b a=>g (e,d,c,b,a)) v.1 v.2.1 v.2.2.1 v.2.2.2.1 v.2.2.2.2) f (e,d,c,b,a)
theorem amz{fu:Nat}{a:(Int×UInt8×aA×aA×Int×aA×aA×aA×Int×LQ×LQ)}{b:Nat}{g:Int}{f:UInt8}{e:aA}{d:Int}{c:LQ}:kt fu a (b+1) g f e d c=aig fu a (kt fu a b) g f e d c:=rfl
def ky(fu:Nat)(j:Int->UInt8->aA->Int->LQ->Option (Int×UInt8×aA×Int×LQ))(i:Int)(e:UInt8)(c:aA)(b:Int)(d:LQ):Option (Int×UInt8×aA×Int×LQ):=
 (((if e=(0:UInt8)then((V3 fu (c,b)).bind fun(h:Bool)=>some (!h))else some false)).bind fun(g:Bool)=>(bif g then(gd (bJ (b+(1:Int)))<|((Sx fu c (b+(1:Int)) ([38]:aA)).bind fun(f:Int)=>((vy fu (c,b+(1:Int)) d f (2:Int)).bind fun(a:(LQ×Int×UInt8×(aA×Int)))=>(j a.2.1 a.2.2.1 a.2.2.2.1 a.2.2.2.2 a.1))))else some (i,e,c,b,d)))
def ku(fu:Nat):Nat->Int->UInt8->aA->Int->LQ->Option (Int×UInt8×aA×Int×LQ):=fun f e d c b a=>bM (fun(g:(Int×UInt8×aA×Int×LQ)->Option (Int×UInt8×aA×Int×LQ)) v=>ky fu (fun e d c b a=>g (e,d,c,b,a)) v.1 v.2.1 v.2.2.1 v.2.2.2.1 v.2.2.2.2) f (e,d,c,b,a)
theorem amy{fu:Nat}{a:Nat}{f:Int}{e:UInt8}{d:aA}{c:Int}{b:LQ}:ku fu (a+1) f e d c b=ky fu (ku fu a) f e d c b:=rfl
def tx(fu:Nat)(s_0:aA):Option (UQ×Int×UInt8):=
 (if(1024:Int)<(s_0.length:Int)then some ((([]:aA),([]:aA),([]:aA),(0:Int),([]:LQ),([]:LQ)),(1024:Int),(4:UInt8))else(if(dJ (·==(58:UInt8)) s_0)<(0:Int)then some ((([]:aA),([]:aA),([]:aA),(0:Int),([]:LQ),([]:LQ)),(s_0.length:Int),(5:UInt8))else(gd (bJ ((dJ (·==(58:UInt8)) s_0)+(1:Int)))<|(gd (0<=(dJ (·==(58:UInt8)) s_0)/\(dJ (·==(58:UInt8)) s_0)<=(s_0.length:Int))<|((LJ fu (kO (aR (dJ (·==(58:UInt8)) s_0)) s_0)).bind fun(d:aA)=>(((((if d=([115,105,112]:aA)then some (decide (d=([115,105,112]:aA)))else some (decide (d=([115,105,112,115]:aA))))).bind fun(i:Bool)=>(bif i then((alw fu (s_0,(dJ (·==(58:UInt8)) s_0)+(1:Int)) (d,([]:aA),([]:aA),(0:Int),([]:LQ),([]:LQ))).bind fun(c:(Int×UInt8×(aA×Int)×UQ))=>some (c.1,c.2.1,([59,63]:aA),c.2.2.1.1,c.2.2.1.2,c.2.2.2.1,c.2.2.2.2.1,c.2.2.2.2.2.1,c.2.2.2.2.2.2.1,c.2.2.2.2.2.2.2.1,c.2.2.2.2.2.2.2.2))else(if d=([116,101,108]:aA)then((akj fu (s_0,(dJ (·==(58:UInt8)) s_0)+(1:Int)) (d,([]:aA),([]:aA),(0:Int),([]:LQ),([]:LQ))).bind fun(b:(Int×UInt8×(aA×Int)×UQ))=>some (b.1,b.2.1,([59]:aA),b.2.2.1.1,b.2.2.1.2,b.2.2.2.1,b.2.2.2.2.1,b.2.2.2.2.2.1,b.2.2.2.2.2.2.1,b.2.2.2.2.2.2.2.1,b.2.2.2.2.2.2.2.2))else some ((0:Int),(15:UInt8),([59,63]:aA),s_0,(dJ (·==(58:UInt8)) s_0)+(1:Int),d,([]:aA),([]:aA),(0:Int),([]:LQ),([]:LQ)))))).bind fun(a:(Int×UInt8×aA×aA×Int×aA×aA×aA×Int×LQ×LQ))=>(((kt fu a fu a.1 a.2.1 a.2.2.2.1 a.2.2.2.2.1 a.2.2.2.2.2.2.2.2.2.1)).bind fun(e:(Int×UInt8×aA×Int×LQ))=>(((ku fu fu e.1 e.2.1 e.2.2.1 e.2.2.2.1 a.2.2.2.2.2.2.2.2.2.2)).bind fun(f:(Int×UInt8×aA×Int×LQ))=>(if f.2.1=(0:UInt8)then((L9 fu e.2.2.2.2).bind fun(h:LQ)=>((L9 fu f.2.2.2.2).bind fun(g:LQ)=>some ((a.2.2.2.2.2.1,a.2.2.2.2.2.2.1,a.2.2.2.2.2.2.2.1,a.2.2.2.2.2.2.2.2.1,h,g),(0:Int),(0:UInt8))))else some ((([]:aA),([]:aA),([]:aA),(0:Int),([]:LQ),([]:LQ)),f.1,f.2.1))))))))))
def wg(fu:Nat)(a:(aA×Int))(e:AQ):Option (Int×UInt8×(aA×Int)×AQ):=
 ((((Cv fu a (60:UInt8)).bind fun(i:Bool)=>(bif i then(gd (bJ (a.2+(1:Int)))<|((Sx fu a.1 (a.2+(1:Int)) ([62]:aA)).bind fun(d:Int)=>(if d=(a.1.length:Int)then some (.inr (d,(5:UInt8),a,e))else(gd (bJ (d+(1:Int)))<|some (.inl (a.2+(1:Int),d,d+(1:Int)))))))else((Sx fu a.1 a.2 ([59,32,9]:aA)).bind fun(f:Int)=>((Sx fu a.1 a.2 ([63,44]:aA)).bind fun(g:Int)=>(if g<f then some (.inr (g,(5:UInt8),a,e))else some (.inl (a.2,f,f)))))))).bind fun(h:((Int×Int×Int)⊕(Int×UInt8×(aA×Int)×AQ)))=>eF (fun(b:(Int×Int×Int))=>(gd (0<=b.1/\b.1<=b.2.1/\b.2.1<=(a.1.length:Int))<|((tx fu (sub a.1 b.1 b.2.1)).bind fun(c:(UQ×Int×UInt8))=>(if c.2.2=(0:UInt8)then some ((0:Int),(0:UInt8),(a.1,b.2.2),(e.1,c.1,e.2.2))else(gd (bJ (b.1+c.2.1))<|some (b.1+c.2.1,c.2.2,a,e)))))) (fun q=>some q) h)
def akk(fu:Nat)(l:(aA×Int)):Option (PQ×Int×UInt8×(aA×Int)):=
 ((lf fu l).bind fun(g:(aA×(aA×Int)))=>((LJ fu g.1).bind fun(f:aA)=>(if f=([]:aA)then some ((([]:aA),([]:aA),false),g.2.2,(5:UInt8),g.2)else((YC fu g.2).bind fun(e:(aA×Int))=>((Cv fu e (61:UInt8)).bind fun(k:Bool)=>(bif (!k)then some ((f,([]:aA),false),(0:Int),(0:UInt8),e)else(gd (bJ (e.2+(1:Int)))<|((YC fu (e.1,e.2+(1:Int))).bind fun(a:(aA×Int))=>((Cv fu a (34:UInt8)).bind fun(j:Bool)=>(bif j then((jz fu a.1 a.2).bind fun(d:(aA×Int×UInt8))=>(if d.2.2=(0:UInt8)then some ((f,d.1,true),(0:Int),(0:UInt8),(a.1,d.2.1))else some ((([]:aA),([]:aA),false),d.2.1,d.2.2,a)))else((Cv fu a (91:UInt8)).bind fun(i:Bool)=>(bif i then((Sx fu a.1 a.2 ([93]:aA)).bind fun(b:Int)=>(gd (bJ (b+(1:Int)))<|(gd (0<=a.2/\a.2<=(min (b+(1:Int)) (a.1.length:Int))/\(min (b+(1:Int)) (a.1.length:Int))<=(a.1.length:Int))<|((YB fu (sub a.1 a.2 (min (b+(1:Int)) (a.1.length:Int)))).bind fun(h:(aA×Bool))=>(bif (!h.2)then some ((([]:aA),([]:aA),false),a.2,(5:UInt8),a)else(gd (bJ (b+(1:Int)))<|some ((f,h.1,true),(0:Int),(0:UInt8),(a.1,b+(1:Int)))))))))else((lf fu a).bind fun(c:(aA×(aA×Int)))=>(if c.1=([]:aA)then some ((([]:aA),([]:aA),false),c.2.2,(5:UInt8),c.2)else some ((f,c.1,true),(0:Int),(0:UInt8),c.2)))))))))))))))
open Go.Lib renaming hasPrefix → kB, trimPrefix → fD
def ana(fu:Nat)(k:LQ->aA->Int->Option (LQ×Int×UInt8))(c:LQ)(j:aA)(i:Int):Option (LQ×Int×UInt8):=
 ((YC fu (j,i)).bind fun(b:(aA×Int))=>((V3 fu b).bind fun(h:Bool)=>(bif h then some (c,(0:Int),(0:UInt8))else((Cv fu b (59:UInt8)).bind fun(g:Bool)=>(bif (!g)then some (([]:LQ),b.2,(5:UInt8))else(gd (bJ (b.2+(1:Int)))<|((YC fu (b.1,b.2+(1:Int))).bind fun(e:(aA×Int))=>((akk fu e).bind fun(a:(PQ×Int×UInt8×(aA×Int)))=>(((if a.2.2.1=(0:UInt8)then((jt fu c a.1.1).bind fun(f:UInt8)=>some (e.2,f))else some (a.2.1,a.2.2.1))).bind fun(d:(Int×UInt8))=>(if d.2=(0:UInt8)then(gd ((c.length+([a.1]:LQ).length)*40<=140737488355328)<|(k (c++([a.1]:LQ)) a.2.2.2.1 a.2.2.2.2))else some (([]:LQ),d.1,d.2)))))))))))
def aob(fu:Nat):Nat->LQ->aA->Int->Option (LQ×Int×UInt8):=fun d c b a=>bM (fun(g:(LQ×aA×Int)->Option (LQ×Int×UInt8)) v=>ana fu (fun c b a=>g (c,b,a)) v.1 v.2.1 v.2.2) d (c,b,a)
theorem avd{fu:Nat}{a:Nat}{d:LQ}{c:aA}{b:Int}:aob fu (a+1) d c b=ana fu (aob fu a) d c b:=rfl
def U9(fu:Nat)(s_0:aA):Option (LQ×Int×UInt8):=
 (aob fu fu ([]:LQ) s_0 (0:Int))
def aly(fu:Nat)(s_0:aA):Option (AQ×Int×UInt8):=
 (if(1024:Int)<(s_0.length:Int)then some ((([]:aA),(([]:aA),([]:aA),([]:aA),(0:Int),([]:LQ),([]:LQ)),([]:LQ)),(1024:Int),(4:UInt8))else((YC fu (s_0,(0:Int))).bind fun(f:(aA×Int))=>((((Cv fu f (34:UInt8)).bind fun(i:Bool)=>(bif i then((aib fu f (([]:aA),(([]:aA),([]:aA),([]:aA),(0:Int),([]:LQ),([]:LQ)),([]:LQ))).bind fun(e:(Int×UInt8×(aA×Int)×AQ))=>some (e.1,e.2.1,e.2.2.1.1,e.2.2.1.2,e.2.2.2.1,e.2.2.2.2.1.1,e.2.2.2.2.1.2.1,e.2.2.2.2.1.2.2.1,e.2.2.2.2.1.2.2.2.1,e.2.2.2.2.1.2.2.2.2.1,e.2.2.2.2.1.2.2.2.2.2,e.2.2.2.2.2))else(gd (s_0.length<=1000000000)<|(bif (Lib.contains s_0 ([60]:aA))then((lu fu f (([]:aA),(([]:aA),([]:aA),([]:aA),(0:Int),([]:LQ),([]:LQ)),([]:LQ))).bind fun(d:(Int×UInt8×(aA×Int)×AQ))=>some (d.1,d.2.1,d.2.2.1.1,d.2.2.1.2,d.2.2.2.1,d.2.2.2.2.1.1,d.2.2.2.2.1.2.1,d.2.2.2.2.1.2.2.1,d.2.2.2.2.1.2.2.2.1,d.2.2.2.2.1.2.2.2.2.1,d.2.2.2.2.1.2.2.2.2.2,d.2.2.2.2.2))else some ((0:Int),(0:UInt8),f.1,f.2,([]:aA),([]:aA),([]:aA),([]:aA),(0:Int),([]:LQ),([]:LQ),([]:LQ))))))).bind fun(a:(Int×UInt8×aA×Int×aA×aA×aA×aA×Int×LQ×LQ×LQ))=>(((if a.2.1=(0:UInt8)then((wg fu (a.2.2.1,a.2.2.2.1) (a.2.2.2.2.1,(a.2.2.2.2.2.1,a.2.2.2.2.2.2.1,a.2.2.2.2.2.2.2.1,a.2.2.2.2.2.2.2.2.1,a.2.2.2.2.2.2.2.2.2.1,a.2.2.2.2.2.2.2.2.2.2.1),a.2.2.2.2.2.2.2.2.2.2.2)).bind fun(c:(Int×UInt8×(aA×Int)×AQ))=>some (c.1,c.2.1,c.2.2.1.1,c.2.2.1.2,c.2.2.2.1,c.2.2.2.2.1.1,c.2.2.2.2.1.2.1,c.2.2.2.2.1.2.2.1,c.2.2.2.2.1.2.2.2.1,c.2.2.2.2.1.2.2.2.2.1,c.2.2.2.2.1.2.2.2.2.2,c.2.2.2.2.2))else some (a.1,a.2.1,a.2.2.1,a.2.2.2.1,a.2.2.2.2.1,a.2.2.2.2.2.1,a.2.2.2.2.2.2.1,a.2.2.2.2.2.2.2.1,a.2.2.2.2.2.2.2.2.1,a.2.2.2.2.2.2.2.2.2.1,a.2.2.2.2.2.2.2.2.2.2.1,a.2.2.2.2.2.2.2.2.2.2.2))).bind fun(b:(Int×UInt8×aA×Int×aA×aA×aA×aA×Int×LQ×LQ×LQ))=>(((if b.2.1=(0:UInt8)then(gd (0<=b.2.2.2.1/\b.2.2.2.1<=(s_0.length:Int))<|((U9 fu (bK (aR b.2.2.2.1) s_0)).bind fun(h:(LQ×Int×UInt8))=>(gd (bJ (h.2.1+b.2.2.2.1))<|some (h.2.1+b.2.2.2.1,h.2.2,h.1))))else some (b.1,b.2.1,b.2.2.2.2.2.2.2.2.2.2.2))).bind fun(g:(Int×UInt8×LQ))=>(if g.2.1=(0:UInt8)then some ((b.2.2.2.2.1,(b.2.2.2.2.2.1,b.2.2.2.2.2.2.1,b.2.2.2.2.2.2.2.1,b.2.2.2.2.2.2.2.2.1,b.2.2.2.2.2.2.2.2.2.1,b.2.2.2.2.2.2.2.2.2.2.1),g.2.2),(0:Int),(0:UInt8))else some ((([]:aA),(([]:aA),([]:aA),([]:aA),(0:Int),([]:LQ),([]:LQ)),([]:LQ)),g.1,g.2.1)))))))
def zl(fu:Nat)(c:aA):Option (AQ×UInt8):=
 ((MP fu c).bind fun(b:aA)=>((aly fu b).bind fun(a:(AQ×Int×UInt8))=>some (a.1,a.2.2)))
def aqz(fu:Nat)(s_0:aA)(f:(List UInt8)->Int->Option ((List UInt8)⊕(aA×UInt8)))(b:List UInt8)(a:Int):Option ((List UInt8)⊕(aA×UInt8)):=
 (if a<(s_0.length:Int)then(gd (0<=a/\a<(s_0.length:Int))<|((kz fu (at_ s_0 a)).bind fun(e:Bool)=>(bif e then some (.inr (([]:aA),(5:UInt8)))else(((((if(at_ s_0 a)=(34:UInt8)then some true else some (decide ((at_ s_0 a)=(92:UInt8))))).bind fun(d:Bool)=>(bif d then(gd ((b.length+([(92:UInt8)]:List UInt8).length)*1<=140737488355328)<|some (b++([(92:UInt8)]:List UInt8)))else some b))).bind fun(c:List UInt8)=>(gd (0<=a/\a<(s_0.length:Int))<|(gd ((c.length+([at_ s_0 a]:List UInt8).length)*1<=140737488355328)<|(gd (bJ (a+(1:Int)))<|(f (c++([at_ s_0 a]:List UInt8)) (a+(1:Int))))))))))else some (.inl b))
def ko(fu:Nat)(s_0:aA):Nat->(List UInt8)->Int->Option ((List UInt8)⊕(aA×UInt8)):=fun c b a=>bM (fun(g:((List UInt8)×Int)->Option ((List UInt8)⊕(aA×UInt8))) v=>aqz fu s_0 (fun b a=>g (b,a)) v.1 v.2) c (b,a)
theorem ayd{fu:Nat}{s_0:aA}{a:Nat}{c:List UInt8}{b:Int}:ko fu s_0 (a+1) c b=aqz fu s_0 (ko fu s_0 a) c b:=rfl
def jr(fu:Nat)(s_0:aA):Option (aA×UInt8):=
 (gd (bJ ((s_0.length:Int)+(2:Int)))<|(@gd _ (0<=((s_0.length:Int)+(2:Int))/\(1:Int)*((s_0.length:Int)+(2:Int))<=281474976710656) (sj 1 ((s_0.length:Int)+(2:Int)))<|(gd ((([]:List UInt8).length+([(34:UInt8)]:List UInt8).length)*1<=140737488355328)<|(((ko fu s_0 fu (([]:List UInt8)++([(34:UInt8)]:List UInt8)) (0:Int))).bind fun(b:((List UInt8)⊕(aA×UInt8)))=>eF (fun(a:List UInt8)=>(gd ((a.length+([(34:UInt8)]:List UInt8).length)*1<=140737488355328)<|some (a++([(34:UInt8)]:List UInt8),(0:UInt8)))) (fun q=>some q) b))))
def vi(fu:Nat)(s_0:aA)(c:Int->Option (Unit⊕Bool))(a:Int):Option (Unit⊕Bool):=
 (if a<(s_0.length:Int)then(gd (0<=a/\a<(s_0.length:Int))<|((zq fu (at_ s_0 a)).bind fun(b:Bool)=>(bif b then some (.inr false)else(gd (bJ (a+(1:Int)))<|(c (a+(1:Int)))))))else some (.inl ()))
def apx(fu:Nat)(s_0:aA):Nat->Int->Option (Unit⊕Bool):=fun b a=>bM (fun(g:Int->Option (Unit⊕Bool)) v=>vi fu s_0 (fun a=>g a) v) b a
theorem ars{fu:Nat}{s_0:aA}{a:Nat}{b:Int}:apx fu s_0 (a+1) b=vi fu s_0 (apx fu s_0 a) b:=rfl
def jv(fu:Nat)(s_0:aA):Option Bool:=
 (((apx fu s_0 fu (0:Int))).bind fun(a:(Unit⊕Bool))=>eF (fun(b:Unit)=>some true) (fun q=>some q) a)
def vq(fu:Nat)(s_0:aA)(d:Int->Option (Unit⊕Bool))(a:Int):Option (Unit⊕Bool):=
 (if a<((fD s_0 ([43]:aA)).length:Int)then(gd (0<=a/\a<((fD s_0 ([43]:aA)).length:Int))<|((((MS fu (at_ (fD s_0 ([43]:aA)) a)).bind fun(c:Bool)=>(bif (!c)then(bif (kB s_0 ([43]:aA))then some true else(if(at_ (fD s_0 ([43]:aA)) a)=(42:UInt8)then some false else some (!decide ((at_ (fD s_0 ([43]:aA)) a)=(35:UInt8)))))else some false))).bind fun(b:Bool)=>(bif b then some (.inr false)else(gd (bJ (a+(1:Int)))<|(d (a+(1:Int)))))))else some (.inl ()))
def anx(fu:Nat)(s_0:aA):Nat->Int->Option (Unit⊕Bool):=fun b a=>bM (fun(g:Int->Option (Unit⊕Bool)) v=>vq fu s_0 (fun a=>g a) v) b a
theorem aqt{fu:Nat}{s_0:aA}{a:Nat}{b:Int}:anx fu s_0 (a+1) b=vq fu s_0 (anx fu s_0 a) b:=rfl
def zj(fu:Nat)(s_0:aA):Option Bool:=
 (((if(fD s_0 ([43]:aA))=([]:aA)then some true else some (decide ((30:Int)<((fD s_0 ([43]:aA)).length:Int))))).bind fun(a:Bool)=>(bif a then some false else(((anx fu s_0 fu (0:Int))).bind fun(b:(Unit⊕Bool))=>eF (fun(c:Unit)=>some true) (fun q=>some q) b)))
def amw(fu:Nat)(b:LQ)(e:Int)(k:LQ->Int->Option (LQ⊕(LQ×Bool)))(d:LQ)(a:Int):Option (LQ⊕(LQ×Bool)):=
 (if a<(b.length:Int)then(gd (0<=a/\a<(b.length:Int))<|(gd (0<=a/\a<(b.length:Int))<|((LJ fu ((el b a).1)).bind fun(c:aA)=>(((if c=([]:aA)then some true else((jv fu c).bind fun(j:Bool)=>(bif (!j)then some true else((jv fu ((el b a).2.1)).bind fun(i:Bool)=>(bif (!i)then some true else((jw fu d c).bind fun(h:Bool)=>some h))))))).bind fun(g:Bool)=>(bif g then some (.inr (([]:LQ),false))else(((if e=(2:Int)then(bif (!((el b a).2.2))then some true else(if e=(1:Int)then some (!(((el b a).2.2)==(!decide (((el b a).2.1)=([]:aA)))))else some false))else(if e=(1:Int)then some (!(((el b a).2.2)==(!decide (((el b a).2.1)=([]:aA)))))else some false))).bind fun(f:Bool)=>(bif f then some (.inr (([]:LQ),false))else(gd ((d.length+([(c,(el b a).2.1,((el b a).2.2))]:LQ).length)*40<=140737488355328)<|(gd (bJ (a+(1:Int)))<|(k (d++([(c,(el b a).2.1,((el b a).2.2))]:LQ)) (a+(1:Int))))))))))))else some (.inl d))
def vj(fu:Nat)(e:LQ)(d:Int):Nat->LQ->Int->Option (LQ⊕(LQ×Bool)):=fun c b a=>bM (fun(g:(LQ×Int)->Option (LQ⊕(LQ×Bool))) v=>amw fu e d (fun b a=>g (b,a)) v.1 v.2) c (b,a)
theorem avc{fu:Nat}{b:LQ}{a:Int}{c:Nat}{e:LQ}{d:Int}:vj fu b a (c+1) e d=amw fu b a (vj fu b a c) e d:=rfl
def uc(fu:Nat)(a:LQ)(e:Int):Option (LQ×Bool):=
 (if(16:Int)<(a.length:Int)then some (([]:LQ),false)else(((vj fu a e fu ([]:LQ) (0:Int))).bind fun(d:(LQ⊕(LQ×Bool)))=>eF (fun(c:LQ)=>((L9 fu c).bind fun(b:LQ)=>some (b,true))) (fun q=>some q) d))
def zi(fu:Nat)(a:UQ):Option (UQ×UInt8):=
 ((LJ fu a.1).bind fun(b:aA)=>(((((if b=([115,105,112]:aA)then some (decide (b=([115,105,112]:aA)))else some (decide (b=([115,105,112,115]:aA))))).bind fun(j:Bool)=>(bif j then((YB fu a.2.2.1).bind fun(c:(aA×Bool))=>(bif c.2 then(if(0:Int)<=a.2.2.2.1 then(if a.2.2.2.1<=(65535:Int)then((jv fu a.2.1).bind fun(i:Bool)=>some (i,c.1))else some (false,c.1))else some (false,c.1))else some (false,c.1)))else(if b=([116,101,108]:aA)then(if a.2.2.1=([]:aA)then(if a.2.2.2.1=(0:Int)then(if(a.2.2.2.2.2.length:Int)=(0:Int)then((zj fu a.2.1).bind fun(h:Bool)=>some (h,([]:aA)))else some (false,([]:aA)))else some (false,([]:aA)))else some (false,([]:aA)))else some (false,([]:aA)))))).bind fun(f:(Bool×aA))=>((uc fu a.2.2.2.2.1 (1:Int)).bind fun(e:(LQ×Bool))=>((uc fu a.2.2.2.2.2 (2:Int)).bind fun(d:(LQ×Bool))=>(((bif (!f.1)then some true else(bif (!e.2)then some true else some (!d.2)))).bind fun(g:Bool)=>(bif g then some ((([]:aA),([]:aA),([]:aA),(0:Int),([]:LQ),([]:LQ)),(2:UInt8))else some ((b,a.2.1,f.2,a.2.2.2.1,e.1,d.1),(0:UInt8))))))))
open Go.Lib renaming itoa → gF
def Tm(fu:Nat)(b:(Unit×(List UInt8)))(a:aA):Option (Int×Unit×(Unit×(List UInt8))):=
 (gd ((b.2.length+a.length)*1<=140737488355328)<|some ((a.length:Int),(),((),b.2++a)))
def anb(fu:Nat)(s_0:aA)(e:Int)(c:(List UInt8)->Int->Option (List UInt8))(b:List UInt8)(a:Int):Option (List UInt8):=
 (if a<(s_0.length:Int)then(gd (0<=a/\a<(s_0.length:Int))<|((uh fu (at_ s_0 a) e).bind fun(d:Bool)=>(bif d then(gd (0<=a/\a<(s_0.length:Int))<|(gd ((b.length+([at_ s_0 a]:List UInt8).length)*1<=140737488355328)<|(gd (bJ (a+(1:Int)))<|(c (b++([at_ s_0 a]:List UInt8)) (a+(1:Int))))))else(gd (0<=a/\a<(s_0.length:Int))<|(gd (0<=((Pl (at_ s_0 a) (4:Int)).toNat:Int)/\((Pl (at_ s_0 a) (4:Int)).toNat:Int)<(([48,49,50,51,52,53,54,55,56,57,65,66,67,68,69,70]:aA).length:Int))<|(gd (0<=a/\a<(s_0.length:Int))<|(gd (0<=(((at_ s_0 a)&&&(15:UInt8)).toNat:Int)/\(((at_ s_0 a)&&&(15:UInt8)).toNat:Int)<(([48,49,50,51,52,53,54,55,56,57,65,66,67,68,69,70]:aA).length:Int))<|(gd ((b.length+([(37:UInt8),at_ ([48,49,50,51,52,53,54,55,56,57,65,66,67,68,69,70]:aA) ((Pl (at_ s_0 a) (4:Int)).toNat:Int),at_ ([48,49,50,51,52,53,54,55,56,57,65,66,67,68,69,70]:aA) (((at_ s_0 a)&&&(15:UInt8)).toNat:Int)]:List UInt8).length)*1<=140737488355328)<|(gd (bJ (a+(1:Int)))<|(c (b++([(37:UInt8),at_ ([48,49,50,51,52,53,54,55,56,57,65,66,67,68,69,70]:aA) ((Pl (at_ s_0 a) (4:Int)).toNat:Int),at_ ([48,49,50,51,52,53,54,55,56,57,65,66,67,68,69,70]:aA) (((at_ s_0 a)&&&(15:UInt8)).toNat:Int)]:List UInt8)) (a+(1:Int))))))))))))else some b)
def vh(fu:Nat)(s_0:aA)(d:Int):Nat->(List UInt8)->Int->Option (List UInt8):=fun c b a=>bM (fun(g:((List UInt8)×Int)->Option (List UInt8)) v=>anb fu s_0 d (fun b a=>g (b,a)) v.1 v.2) c (b,a)
theorem ave{fu:Nat}{s_0:aA}{a:Int}{b:Nat}{d:List UInt8}{c:Int}:vh fu s_0 a (b+1) d c=anb fu s_0 a (vh fu s_0 a b) d c:=rfl
def WU(fu:Nat)(s_0:aA)(b:Int):Option aA:=
 (@gd _ (0<=(s_0.length:Int)/\(1:Int)*(s_0.length:Int)<=281474976710656) (sj 1 (s_0.length:Int))<|(((vh fu s_0 b fu ([]:List UInt8) (0:Int))).bind fun(a:List UInt8)=>some a))
def wy(fu:Nat)(b:(Unit×(List UInt8)))(a:UInt8):Option (Unit×(Unit×(List UInt8))):=
 (gd ((b.2.length+([a]:List UInt8).length)*1<=140737488355328)<|some ((),((),b.2++([a]:List UInt8))))
def aoa(fu:Nat)(b:(UQ×UInt8))(g:Int->Unit->(List UInt8)->Option (Unit×(List UInt8)))(a:Int)(i:Unit)(f:List UInt8):Option (Unit×(List UInt8)):=
 (if a<(b.1.2.2.2.2.1.length:Int)then(gd (0<=a/\a<(b.1.2.2.2.2.1.length:Int))<|(gd (0<=a/\a<(b.1.2.2.2.2.1.length:Int))<|((WU fu ((el b.1.2.2.2.2.1 a).1) (1:Int)).bind fun(e:aA)=>(gd (([59]:aA).length+e.length<=9223372036854775807)<|((Tm fu ((),f) (([59]:aA)++e)).bind fun(d:(Int×Unit×(Unit×(List UInt8))))=>(bif ((el b.1.2.2.2.2.1 a).2.2)then((WU fu ((el b.1.2.2.2.2.1 a).2.1) (1:Int)).bind fun(c:aA)=>(gd (([61]:aA).length+c.length<=9223372036854775807)<|((Tm fu ((),d.2.2.2) (([61]:aA)++c)).bind fun(h:(Int×Unit×(Unit×(List UInt8))))=>(gd (bJ (a+(1:Int)))<|(g (a+(1:Int)) () h.2.2.2)))))else(gd (bJ (a+(1:Int)))<|(g (a+(1:Int)) () d.2.2.2))))))))else some ((),f))
def kv(fu:Nat)(d:(UQ×UInt8)):Nat->Int->Unit->(List UInt8)->Option (Unit×(List UInt8)):=fun e c b a=>bM (fun(g:(Int×Unit×(List UInt8))->Option (Unit×(List UInt8))) v=>aoa fu d (fun c b a=>g (c,b,a)) v.1 v.2.1 v.2.2) e (c,b,a)
theorem awi{fu:Nat}{a:(UQ×UInt8)}{b:Nat}{e:Int}{d:Unit}{c:List UInt8}:kv fu a (b+1) e d c=aoa fu a (kv fu a b) e d c:=rfl
def anz(fu:Nat)(b:(UQ×UInt8))(j:Int->Unit->(List UInt8)->Option (Unit×(List UInt8)))(a:Int)(k:Unit)(d:List UInt8):Option (Unit×(List UInt8)):=
 (if a<(b.1.2.2.2.2.2.length:Int)then(gd (0<=a/\a<(b.1.2.2.2.2.2.length:Int))<|(gd (0<=a/\a<(b.1.2.2.2.2.2.length:Int))<|(((if a=(0:Int)then((wy fu ((),d) (63:UInt8)).bind fun(i:(Unit×(Unit×(List UInt8))))=>some ((),i.2.2))else((wy fu ((),d) (38:UInt8)).bind fun(h:(Unit×(Unit×(List UInt8))))=>some ((),h.2.2)))).bind fun(g:(Unit×(List UInt8)))=>((WU fu ((el b.1.2.2.2.2.2 a).1) (2:Int)).bind fun(c:aA)=>(gd (c.length+([61]:aA).length<=9223372036854775807)<|((WU fu ((el b.1.2.2.2.2.2 a).2.1) (2:Int)).bind fun(e:aA)=>(gd ((c++([61]:aA)).length+e.length<=9223372036854775807)<|((Tm fu ((),g.2) ((c++([61]:aA))++e)).bind fun(f:(Int×Unit×(Unit×(List UInt8))))=>(gd (bJ (a+(1:Int)))<|(j (a+(1:Int)) () f.2.2.2))))))))))else some ((),d))
def gr(fu:Nat)(d:(UQ×UInt8)):Nat->Int->Unit->(List UInt8)->Option (Unit×(List UInt8)):=fun e c b a=>bM (fun(g:(Int×Unit×(List UInt8))->Option (Unit×(List UInt8))) v=>anz fu d (fun c b a=>g (c,b,a)) v.1 v.2.1 v.2.2) e (c,b,a)
theorem awh{fu:Nat}{a:(UQ×UInt8)}{b:Nat}{e:Int}{d:Unit}{c:List UInt8}:gr fu a (b+1) e d c=anz fu a (gr fu a b) e d c:=rfl
def ze(fu:Nat)(l:UQ):Option (aA×UInt8):=
 ((zi fu l).bind fun(a:(UQ×UInt8))=>(if a.2=(0:UInt8)then(gd (a.1.1.length+([58]:aA).length<=9223372036854775807)<|((Tm fu ((),([]:List UInt8)) (a.1.1++([58]:aA))).bind fun(b:(Int×Unit×(Unit×(List UInt8))))=>(((if a.1.1=([116,101,108]:aA)then((Tm fu ((),b.2.2.2) a.1.2.1).bind fun(k:(Int×Unit×(Unit×(List UInt8))))=>some ((),k.2.2.2))else(if a.1.2.1=([]:aA)then some ((),b.2.2.2)else((WU fu a.1.2.1 (0:Int)).bind fun(e:aA)=>(gd (e.length+([64]:aA).length<=9223372036854775807)<|((Tm fu ((),b.2.2.2) (e++([64]:aA))).bind fun(j:(Int×Unit×(Unit×(List UInt8))))=>some ((),j.2.2.2))))))).bind fun(i:(Unit×(List UInt8)))=>((Tm fu ((),i.2) a.1.2.2.1).bind fun(d:(Int×Unit×(Unit×(List UInt8))))=>(((if a.1.2.2.2.1=(0:Int)then some ((),d.2.2.2)else(gd (bJ a.1.2.2.2.1)<|(gd (([58]:aA).length+(gF a.1.2.2.2.1).length<=9223372036854775807)<|((Tm fu ((),d.2.2.2) (([58]:aA)++(gF a.1.2.2.2.1))).bind fun(h:(Int×Unit×(Unit×(List UInt8))))=>some ((),h.2.2.2)))))).bind fun(g:(Unit×(List UInt8)))=>(((kv fu a fu (0:Int) () g.2)).bind fun(f:(Unit×(List UInt8)))=>(((gr fu a fu (0:Int) () f.2)).bind fun(c:(Unit×(List UInt8)))=>(gd (c.2.length<=140737488355328)<|some (c.2,(0:UInt8))))))))))else some (([]:aA),a.2)))
def aio(fu:Nat)(b:LQ)(h:Int->Unit->(List UInt8)->Option ((Unit×(List UInt8))⊕(aA×UInt8)))(a:Int)(r:Unit)(g:List UInt8):Option ((Unit×(List UInt8))⊕(aA×UInt8)):=
 (if a<(b.length:Int)then(gd (0<=a/\a<(b.length:Int))<|(gd (0<=a/\a<(b.length:Int))<|((((MQ fu ((el b a).1)).bind fun(p:Bool)=>(bif (!p)then some true else((LJ fu ((el b a).1)).bind fun(o:aA)=>(if((el b a).1)=o then(gd (0<=a/\a<=(b.length:Int))<|((jw fu (kO (aR a) b) ((el b a).1)).bind fun(n:Bool)=>some n))else some true))))).bind fun(m:Bool)=>(bif m then some (.inr (([]:aA),(2:UInt8)))else(gd (([59]:aA).length+((el b a).1).length<=9223372036854775807)<|((Tm fu ((),g) (([59]:aA)++((el b a).1))).bind fun(f:(Int×Unit×(Unit×(List UInt8))))=>(bif (!((el b a).2.2))then(if((el b a).2.1)=([]:aA)then(gd (bJ (a+(1:Int)))<|(h (a+(1:Int)) () f.2.2.2))else some (.inr (([]:aA),(2:UInt8))))else((((YB fu ((el b a).2.1)).bind fun(e:(aA×Bool))=>((((MQ fu ((el b a).2.1)).bind fun(l:Bool)=>(bif (!l)then(bif e.2 then(if e.1=((el b a).2.1)then(gd (0<=(0:Int)/\(0:Int)<(((el b a).2.1).length:Int))<|some (!decide ((at_ ((el b a).2.1) (0:Int))=(91:UInt8))))else some true)else some true)else some false))).bind fun(k:Bool)=>(bif k then((jr fu ((el b a).2.1)).bind fun(d:(aA×UInt8))=>(if d.2=(0:UInt8)then some (.inl d.1)else some (.inr (([]:aA),(2:UInt8)))))else some (.inl ((el b a).2.1)))))).bind fun(j:(aA⊕(aA×UInt8)))=>eF (fun(c:aA)=>(gd (([61]:aA).length+c.length<=9223372036854775807)<|((Tm fu ((),f.2.2.2) (([61]:aA)++c)).bind fun(i:(Int×Unit×(Unit×(List UInt8))))=>(gd (bJ (a+(1:Int)))<|(h (a+(1:Int)) () i.2.2.2))))) (fun q=>some (.inr q)) j))))))))else some (.inl ((),g)))
def ls(fu:Nat)(e:LQ):Nat->Int->Unit->(List UInt8)->Option ((Unit×(List UInt8))⊕(aA×UInt8)):=fun d c b a=>bM (fun(g:(Int×Unit×(List UInt8))->Option ((Unit×(List UInt8))⊕(aA×UInt8))) v=>aio fu e (fun c b a=>g (c,b,a)) v.1 v.2.1 v.2.2) d (c,b,a)
theorem art{fu:Nat}{a:LQ}{b:Nat}{e:Int}{d:Unit}{c:List UInt8}:ls fu a (b+1) e d c=aio fu a (ls fu a b) e d c:=rfl
def LK(fu:Nat)(b:LQ):Option (aA×UInt8):=
 (if(16:Int)<(b.length:Int)then some (([]:aA),(2:UInt8))else(((ls fu b fu (0:Int) () ([]:List UInt8))).bind fun(c:((Unit×(List UInt8))⊕(aA×UInt8)))=>eF (fun(a:(Unit×(List UInt8)))=>(gd (a.2.length<=140737488355328)<|some (a.2,(0:UInt8)))) (fun q=>some q) c))
def alx(fu:Nat)(a_0:AQ):Option (aA×UInt8):=
 ((jr fu a_0.1).bind fun(b:(aA×UInt8))=>(if b.2=(0:UInt8)then((ze fu a_0.2.1).bind fun(a:(aA×UInt8))=>(if a.2=(0:UInt8)then((L9 fu a_0.2.2).bind fun(d:LQ)=>((LK fu d).bind fun(c:(aA×UInt8))=>(if c.2=(0:UInt8)then(if a_0.1=([]:aA)then(gd (([60]:aA).length+a.1.length<=9223372036854775807)<|(gd ((([60]:aA)++a.1).length+([62]:aA).length<=9223372036854775807)<|(gd (((([60]:aA)++a.1)++([62]:aA)).length+c.1.length<=9223372036854775807)<|some (((([60]:aA)++a.1)++([62]:aA))++c.1,(0:UInt8)))))else(gd (b.1.length+([32,60]:aA).length<=9223372036854775807)<|(gd ((b.1++([32,60]:aA)).length+a.1.length<=9223372036854775807)<|(gd (((b.1++([32,60]:aA))++a.1).length+([62]:aA).length<=9223372036854775807)<|(gd ((((b.1++([32,60]:aA))++a.1)++([62]:aA)).length+c.1.length<=9223372036854775807)<|some ((((b.1++([32,60]:aA))++a.1)++([62]:aA))++c.1,(0:UInt8)))))))else some (([]:aA),(2:UInt8)))))else some (([]:aA),(2:UInt8))))else some (([]:aA),(2:UInt8))))
def adw(fu:Nat)(s_0:aA)(d:aA->Int->Option aA)(b:aA)(a:Int):Option aA:=
 (if a<(s_0.length:Int)then(gd (0<=a/\a<(b.length:Int))<|(gd (0<=a/\a<(b.length:Int))<|((vc fu (at_ b a)).bind fun(c:UInt8)=>(gd (0<=a/\a<(b.length:Int))<|(gd (0<=a/\a<(b.length:Int))<|(gd (bJ (a+(1:Int)))<|(d (eA b (aR a) c) (a+(1:Int)))))))))else some b)
def aea(fu:Nat)(s_0:aA):Nat->aA->Int->Option aA:=fun c b a=>bM (fun(g:(aA×Int)->Option aA) v=>adw fu s_0 (fun b a=>g (b,a)) v.1 v.2) c (b,a)
theorem aiz{fu:Nat}{s_0:aA}{a:Nat}{c:aA}{b:Int}:aea fu s_0 (a+1) c b=adw fu s_0 (aea fu s_0 a) c b:=rfl
def lv(fu:Nat)(s_0:aA):Option aA:=
 (((aea fu s_0 fu s_0 (0:Int))).bind fun(a:aA)=>some a)
def zn(fu:Nat)(s_0:aA):Option PQ:=
 (gd (s_0.length<=1000000000)<|(((if(nP (·==(58:UInt8)) s_0)<(0:Int)then some true else(gd (0<=(nP (·==(58:UInt8)) s_0)/\(nP (·==(58:UInt8)) s_0)<=(s_0.length:Int))<|(gd ((kO (aR (nP (·==(58:UInt8)) s_0)) s_0).length<=1000000000)<|(bif (Lib.contains (kO (aR (nP (·==(58:UInt8)) s_0)) s_0) ([91]:aA))then(gd (0<=(nP (·==(58:UInt8)) s_0)/\(nP (·==(58:UInt8)) s_0)<=(s_0.length:Int))<|(gd ((bK (aR (nP (·==(58:UInt8)) s_0)) s_0).length<=1000000000)<|some (Lib.contains (bK (aR (nP (·==(58:UInt8)) s_0)) s_0) ([93]:aA))))else some false))))).bind fun(a:Bool)=>(bif a then some (s_0,([]:aA),false)else(gd (0<=(nP (·==(58:UInt8)) s_0)/\(nP (·==(58:UInt8)) s_0)<=(s_0.length:Int))<|(gd (bJ ((nP (·==(58:UInt8)) s_0)+(1:Int)))<|(gd (0<=((nP (·==(58:UInt8)) s_0)+(1:Int))/\((nP (·==(58:UInt8)) s_0)+(1:Int))<=(s_0.length:Int))<|some (kO (aR (nP (·==(58:UInt8)) s_0)) s_0,bK (aR ((nP (·==(58:UInt8)) s_0)+(1:Int))) s_0,true)))))))
open Go.Lib renaming indexAny → yL
open List renaming drop → bK, take → kO
def zx(fu:Nat)(b:LQ)(c:aA)(e:Int->Option (Unit⊕(aA×Bool)))(a:Int):Option (Unit⊕(aA×Bool)):=
 (if a<(b.length:Int)then(gd (0<=a/\a<(b.length:Int))<|(gd (0<=a/\a<(b.length:Int))<|((LJ fu ((el b a).1)).bind fun(d:aA)=>(if d=c then some (.inr ((el b a).2.1,true))else(gd (bJ (a+(1:Int)))<|(e (a+(1:Int))))))))else some (.inl ()))
def ug(fu:Nat)(d:LQ)(b:aA):Nat->Int->Option (Unit⊕(aA×Bool)):=fun c a=>bM (fun(g:Int->Option (Unit⊕(aA×Bool))) v=>zx fu d b (fun a=>g a) v) c a
theorem ayi{fu:Nat}{b:LQ}{a:aA}{c:Nat}{d:Int}:ug fu b a (c+1) d=zx fu b a (ug fu b a c) d:=rfl
def tp(fu:Nat)(d:LQ)(c:aA):Option (aA×Bool):=
 ((LJ fu c).bind fun(a:aA)=>(((ug fu d a fu (0:Int))).bind fun(b:(Unit⊕(aA×Bool)))=>eF (fun(e:Unit)=>some (([]:aA),false)) (fun q=>some q) b))
def yy(fu:Nat)(t:aA):Option ((aA×aA×Int×aA×LQ)×UInt8):=
 ((MP fu t).bind fun(a:aA)=>(((if(a.length:Int)<(8:Int)then some true else(gd (0<=(8:Int)/\(8:Int)<=(a.length:Int))<|((lv fu (kO (aR (8:Int)) a)).bind fun(s:aA)=>some (!decide (s=([83,73,80,47,50,46,48,47]:aA))))))).bind fun(r:Bool)=>(bif r then some ((([]:aA),([]:aA),(0:Int),([]:aA),([]:LQ)),(5:UInt8))else((M0 fu a (8:Int)).bind fun(d:Int)=>((L8 fu a d).bind fun(c:Int)=>(((if d=(8:Int)then some true else some (decide (c=d)))).bind fun(p:Bool)=>(bif p then some ((([]:aA),([]:aA),(0:Int),([]:aA),([]:LQ)),(5:UInt8))else(gd (0<=(8:Int)/\(8:Int)<=d/\d<=(a.length:Int))<|((lv fu (sub a (8:Int) d)).bind fun(o:aA)=>(gd (0<=c/\c<=(a.length:Int))<|(((gd ((bK (aR c) a).length<=1000000000/\([59,32,9]:aA).length<=1000/\([59,32,9]:aA).all (fun b=>decide (b.toNat<128))=true)<|(if(0:Int)<=(yL (bK (aR c) a) ([59,32,9]:aA))then(gd (0<=(yL (bK (aR c) a) ([59,32,9]:aA))/\(yL (bK (aR c) a) ([59,32,9]:aA))<=((bK (aR c) a).length:Int))<|(gd (0<=(yL (bK (aR c) a) ([59,32,9]:aA))/\(yL (bK (aR c) a) ([59,32,9]:aA))<=((bK (aR c) a).length:Int))<|some (kO (aR (yL (bK (aR c) a) ([59,32,9]:aA))) (bK (aR c) a),bK (aR (yL (bK (aR c) a) ([59,32,9]:aA))) (bK (aR c) a))))else some (bK (aR c) a,([]:aA))))).bind fun(j:(aA×aA))=>((zn fu j.1).bind fun(g:PQ)=>((YB fu g.1).bind fun(i:(aA×Bool))=>(bif (!i.2)then some ((([]:aA),([]:aA),(0:Int),([]:aA),([]:LQ)),(5:UInt8))else(((bif g.2.2 then((U7 fu g.2.1).bind fun(e:(Int×UInt8))=>(((((if e.2=(0:UInt8)then(if e.1<(1:Int)then some true else some (decide ((65535:Int)<e.1)))else some false)).bind fun(n:Bool)=>(bif n then some (3:UInt8)else some e.2))).bind fun(h:UInt8)=>(if h=(0:UInt8)then some (.inl e.1)else some (.inr ((([]:aA),([]:aA),(0:Int),([]:aA),([]:LQ)),h)))))else some (.inl (0:Int)))).bind fun(m:(Int⊕((aA×aA×Int×aA×LQ)×UInt8)))=>eF (fun(l:Int)=>((U9 fu j.2).bind fun(f:(LQ×Int×UInt8))=>(if f.2.2=(0:UInt8)then((tp fu f.1 ([98,114,97,110,99,104]:aA)).bind fun(k:(aA×Bool))=>some ((o,i.1,l,k.1,f.1),(0:UInt8)))else some ((([]:aA),([]:aA),(0:Int),([]:aA),([]:LQ)),f.2.2)))) (fun q=>some q) m)))))))))))))))
def vv(fu:Nat)(s_0:LQ):Option LQ:=
 some s_0
def xd(fu:Nat)(b:PQ)(a:LQ):Option (Nat×LQ):=
 (gd ((a.length+([b]:LQ).length)*40<=140737488355328)<|some (0,a++([b]:LQ)))
def xv(fu:Nat)(x_4:LQ)(d:Int->LQ->Option (LQ×Nat))(a:Int)(c:LQ):Option (LQ×Nat):=
 (if a<(x_4.length:Int)then(gd (0<=a/\a<(x_4.length:Int))<|(gd (0<=a/\a<(x_4.length:Int))<|((xd fu ((el x_4 a).1,(el x_4 a).2.1,((el x_4 a).2.2)) c).bind fun(b:(Nat×LQ))=>(if b.1=0 then(gd (bJ (a+(1:Int)))<|(d (a+(1:Int)) b.2))else some (b.2,b.1)))))else some (c,0))
def mb(fu:Nat)(x_4:LQ):Nat->Int->LQ->Option (LQ×Nat):=fun c b a=>bM (fun(g:(Int×LQ)->Option (LQ×Nat)) v=>xv fu x_4 (fun b a=>g (b,a)) v.1 v.2) c (b,a)
theorem abw{fu:Nat}{x_4:LQ}{a:Nat}{c:Int}{b:LQ}:mb fu x_4 (a+1) c b=xv fu x_4 (mb fu x_4 a) c b:=rfl
def abi(fu:Nat)(x_1:LQ)(x_4:LQ):Option (LQ×Nat):=
 (mb fu x_4 fu (0:Int) x_1)
def aem(fu:Nat)(s_0:LQ)(b:LQ):Option LQ:=
 ((abi fu s_0 b).bind fun(a:(LQ×Nat))=>(if a.2=0 then some a.1 else none))
def xc(fu:Nat)(b:LQ):Option LQ:=
 ((aem fu ([]:LQ) b).bind fun(a:LQ)=>some a)
def gp(fu:Nat)(a_0:PQ)(b:PQ):Option Int:=
 ((vm fu a_0.1 b.1).bind fun(a:Int)=>some a)
def ma(fu:Nat)(f:Int)(e:LQ->Int->Option LQ)(b:LQ)(a:Int):Option LQ:=
 (((if f<a then(gd (0<=a/\a<(b.length:Int))<|(gd (0<=a/\a<(b.length:Int))<|(gd (bJ (a-(1:Int)))<|(gd (0<=(a-(1:Int))/\(a-(1:Int))<(b.length:Int))<|(gd (0<=(a-(1:Int))/\(a-(1:Int))<(b.length:Int))<|((gp fu ((el b a).1,(el b a).2.1,((el b a).2.2)) ((el b (a-(1:Int))).1,(el b (a-(1:Int))).2.1,((el b (a-(1:Int))).2.2))).bind fun(d:Int)=>some (decide (d<(0:Int)))))))))else some false)).bind fun(c:Bool)=>(bif c then(gd (bJ (a-(1:Int)))<|(gd (bJ (a-(1:Int)))<|(gd (0<=(a-(1:Int))/\(a-(1:Int))<(b.length:Int))<|(gd (0<=(a-(1:Int))/\(a-(1:Int))<(b.length:Int))<|(gd (0<=a/\a<(b.length:Int))<|(gd (0<=a/\a<(b.length:Int))<|(gd (0<=a/\a<(b.length:Int))<|(gd (0<=a/\a<(b.length:Int))<|(gd (0<=(a-(1:Int))/\(a-(1:Int))<((eA b (aR a) ((el b (a-(1:Int))).1,(el b (a-(1:Int))).2.1,((el b (a-(1:Int))).2.2))).length:Int))<|(gd (0<=(a-(1:Int))/\(a-(1:Int))<((eA b (aR a) ((el b (a-(1:Int))).1,(el b (a-(1:Int))).2.1,((el b (a-(1:Int))).2.2))).length:Int))<|(gd (bJ (a-(1:Int)))<|(e (eA (eA b (aR a) ((el b (a-(1:Int))).1,(el b (a-(1:Int))).2.1,((el b (a-(1:Int))).2.2))) (aR (a-(1:Int))) ((el b a).1,(el b a).2.1,((el b a).2.2))) (a-(1:Int))))))))))))))else some b))
def xp(fu:Nat)(d:Int):Nat->LQ->Int->Option LQ:=fun c b a=>bM (fun(g:(LQ×Int)->Option LQ) v=>ma fu d (fun b a=>g (b,a)) v.1 v.2) c (b,a)
theorem abr{fu:Nat}{a:Int}{b:Nat}{d:LQ}{c:Int}:xp fu a (b+1) d c=ma fu a (xp fu a b) d c:=rfl
def ic(fu:Nat)(e:Int)(b_3:Int)(d:LQ->Int->Option LQ)(b:LQ)(a:Int):Option LQ:=
 (if a<b_3 then(((xp fu e fu b a)).bind fun(c:LQ)=>(gd (bJ (a+(1:Int)))<|(d c (a+(1:Int)))))else some b)
def ib(fu:Nat)(d:Int)(b_3:Int):Nat->LQ->Int->Option LQ:=fun c b a=>bM (fun(g:(LQ×Int)->Option LQ) v=>ic fu d b_3 (fun b a=>g (b,a)) v.1 v.2) c (b,a)
theorem xr{fu:Nat}{a:Int}{b_3:Int}{b:Nat}{d:LQ}{c:Int}:ib fu a b_3 (b+1) d c=ic fu a b_3 (ib fu a b_3 b) d c:=rfl
def ia(fu:Nat)(b:LQ)(a:Int)(b_3:Int):Option LQ:=
 (gd (bJ (a+(1:Int)))<|(ib fu a b_3 fu b (a+(1:Int))))
def acb(fu:Nat)(c:Int)(b_3:Int)(e:Int)(d:LQ->Int->Option LQ)(b:LQ)(a:Int):Option LQ:=
 (if a<e then(gd (bJ (c+a))<|(gd (bJ (b_3+a))<|(gd (bJ (b_3+a))<|(gd (0<=(b_3+a)/\(b_3+a)<(b.length:Int))<|(gd (0<=(b_3+a)/\(b_3+a)<(b.length:Int))<|(gd (bJ (c+a))<|(gd (0<=(c+a)/\(c+a)<(b.length:Int))<|(gd (0<=(c+a)/\(c+a)<(b.length:Int))<|(gd (0<=(c+a)/\(c+a)<(b.length:Int))<|(gd (0<=(c+a)/\(c+a)<(b.length:Int))<|(gd (0<=(b_3+a)/\(b_3+a)<((eA b (aR (c+a)) ((el b (b_3+a)).1,(el b (b_3+a)).2.1,((el b (b_3+a)).2.2))).length:Int))<|(gd (0<=(b_3+a)/\(b_3+a)<((eA b (aR (c+a)) ((el b (b_3+a)).1,(el b (b_3+a)).2.1,((el b (b_3+a)).2.2))).length:Int))<|(gd (bJ (a+(1:Int)))<|(d (eA (eA b (aR (c+a)) ((el b (b_3+a)).1,(el b (b_3+a)).2.1,((el b (b_3+a)).2.2))) (aR (b_3+a)) ((el b (c+a)).1,(el b (c+a)).2.1,((el b (c+a)).2.2))) (a+(1:Int))))))))))))))))else some b)
def acj(fu:Nat)(e:Int)(b_3:Int)(d:Int):Nat->LQ->Int->Option LQ:=fun c b a=>bM (fun(g:(LQ×Int)->Option LQ) v=>acb fu e b_3 d (fun b a=>g (b,a)) v.1 v.2) c (b,a)
theorem aez{fu:Nat}{b:Int}{b_3:Int}{a:Int}{c:Nat}{e:LQ}{d:Int}:acj fu b b_3 a (c+1) e d=acb fu b b_3 a (acj fu b b_3 a c) e d:=rfl
def lx(fu:Nat)(c:LQ)(b:Int)(b_3:Int)(a:Int):Option LQ:=
 (acj fu b b_3 a fu c (0:Int))
def adq(fu:Nat)(c:Int)(e:LQ->Int->Int->Option (LQ×Int))(d:LQ)(a:Int)(b:Int):Option (LQ×Int):=
 (if a=b then some (d,a)else(if b<a then(gd (bJ (c-a))<|((lx fu d (c-a) c b).bind fun(g:LQ)=>(gd (bJ (a-b))<|(e g (a-b) b))))else(gd (bJ (c-a))<|(gd (bJ (c+b))<|(gd (bJ ((c+b)-a))<|((lx fu d (c-a) ((c+b)-a) a).bind fun(f:LQ)=>(gd (bJ (b-a))<|(e f a (b-a)))))))))
def acu(fu:Nat)(e:Int):Nat->LQ->Int->Int->Option (LQ×Int):=fun d c b a=>bM (fun(g:(LQ×Int×Int)->Option (LQ×Int)) v=>adq fu e (fun c b a=>g (c,b,a)) v.1 v.2.1 v.2.2) d (c,b,a)
theorem ama{fu:Nat}{a:Int}{b:Nat}{e:LQ}{d:Int}{c:Int}:acu fu a (b+1) e d c=adq fu a (acu fu a b) e d c:=rfl
def xg(fu:Nat)(f:LQ)(d:Int)(a:Int)(c:Int):Option LQ:=
 (gd (bJ (a-d))<|(gd (bJ (c-a))<|(((acu fu a fu f (a-d) (c-a))).bind fun(b:(LQ×Int))=>(gd (bJ (a-b.2))<|((lx fu b.1 (a-b.2) a b.2).bind fun(e:LQ)=>some e)))))
def aci(fu:Nat)(c:LQ)(d:Int)(e:Int->Int->Option Int)(a:Int)(b:Int):Option Int:=
 (if a<b then(gd (bJ (a+b))<|(gd (0<=(bN .i64 ((bN .u64 (a+b))/2))/\(bN .i64 ((bN .u64 (a+b))/2))<(c.length:Int))<|(gd (0<=(bN .i64 ((bN .u64 (a+b))/2))/\(bN .i64 ((bN .u64 (a+b))/2))<(c.length:Int))<|(gd (0<=d/\d<(c.length:Int))<|(gd (0<=d/\d<(c.length:Int))<|((gp fu ((el c (bN .i64 ((bN .u64 (a+b))/2))).1,(el c (bN .i64 ((bN .u64 (a+b))/2))).2.1,((el c (bN .i64 ((bN .u64 (a+b))/2))).2.2)) ((el c d).1,(el c d).2.1,((el c d).2.2))).bind fun(f:Int)=>(if f<(0:Int)then(gd (bJ ((bN .i64 ((bN .u64 (a+b))/2))+(1:Int)))<|(e ((bN .i64 ((bN .u64 (a+b))/2))+(1:Int)) b))else(e a (bN .i64 ((bN .u64 (a+b))/2))))))))))else some a)
def aco(fu:Nat)(e:LQ)(d:Int):Nat->Int->Int->Option Int:=fun c b a=>bM (fun(g:(Int×Int)->Option Int) v=>aci fu e d (fun b a=>g (b,a)) v.1 v.2) c (b,a)
theorem afk{fu:Nat}{b:LQ}{a:Int}{c:Nat}{e:Int}{d:Int}:aco fu b a (c+1) e d=aci fu b a (aco fu b a c) e d:=rfl
def ach(fu:Nat)(c:Int)(d:LQ->Int->Option LQ)(b:LQ)(a:Int):Option LQ:=
 (gd (bJ (c-(1:Int)))<|(if a<(c-(1:Int))then(gd (bJ (a+(1:Int)))<|(gd (bJ (a+(1:Int)))<|(gd (0<=(a+(1:Int))/\(a+(1:Int))<(b.length:Int))<|(gd (0<=(a+(1:Int))/\(a+(1:Int))<(b.length:Int))<|(gd (0<=a/\a<(b.length:Int))<|(gd (0<=a/\a<(b.length:Int))<|(gd (0<=a/\a<(b.length:Int))<|(gd (0<=a/\a<(b.length:Int))<|(gd (0<=(a+(1:Int))/\(a+(1:Int))<((eA b (aR a) ((el b (a+(1:Int))).1,(el b (a+(1:Int))).2.1,((el b (a+(1:Int))).2.2))).length:Int))<|(gd (0<=(a+(1:Int))/\(a+(1:Int))<((eA b (aR a) ((el b (a+(1:Int))).1,(el b (a+(1:Int))).2.1,((el b (a+(1:Int))).2.2))).length:Int))<|(gd (bJ (a+(1:Int)))<|(d (eA (eA b (aR a) ((el b (a+(1:Int))).1,(el b (a+(1:Int))).2.1,((el b (a+(1:Int))).2.2))) (aR (a+(1:Int))) ((el b a).1,(el b a).2.1,((el b a).2.2))) (a+(1:Int))))))))))))))else some b))
def acn(fu:Nat)(d:Int):Nat->LQ->Int->Option LQ:=fun c b a=>bM (fun(g:(LQ×Int)->Option LQ) v=>ach fu d (fun b a=>g (b,a)) v.1 v.2) c (b,a)
theorem afj{fu:Nat}{a:Int}{b:Nat}{d:LQ}{c:Int}:acn fu a (b+1) d c=ach fu a (acn fu a b) d c:=rfl
def acg(fu:Nat)(c:LQ)(d:Int)(e:Int->Int->Option Int)(a:Int)(b:Int):Option Int:=
 (if a<b then(gd (bJ (a+b))<|(gd (0<=d/\d<(c.length:Int))<|(gd (0<=d/\d<(c.length:Int))<|(gd (0<=(bN .i64 ((bN .u64 (a+b))/2))/\(bN .i64 ((bN .u64 (a+b))/2))<(c.length:Int))<|(gd (0<=(bN .i64 ((bN .u64 (a+b))/2))/\(bN .i64 ((bN .u64 (a+b))/2))<(c.length:Int))<|((gp fu ((el c d).1,(el c d).2.1,((el c d).2.2)) ((el c (bN .i64 ((bN .u64 (a+b))/2))).1,(el c (bN .i64 ((bN .u64 (a+b))/2))).2.1,((el c (bN .i64 ((bN .u64 (a+b))/2))).2.2))).bind fun(f:Int)=>(if f<(0:Int)then(e a (bN .i64 ((bN .u64 (a+b))/2)))else(gd (bJ ((bN .i64 ((bN .u64 (a+b))/2))+(1:Int)))<|(e ((bN .i64 ((bN .u64 (a+b))/2))+(1:Int)) b)))))))))else some a)
def acm(fu:Nat)(e:LQ)(d:Int):Nat->Int->Int->Option Int:=fun c b a=>bM (fun(g:(Int×Int)->Option Int) v=>acg fu e d (fun b a=>g (b,a)) v.1 v.2) c (b,a)
theorem afi{fu:Nat}{b:LQ}{a:Int}{c:Nat}{e:Int}{d:Int}:acm fu b a (c+1) e d=acg fu b a (acm fu b a c) e d:=rfl
def acf(fu:Nat)(d:Int)(c:LQ->Int->Option LQ)(b:LQ)(a:Int):Option LQ:=
 (if d<a then(gd (bJ (a-(1:Int)))<|(gd (bJ (a-(1:Int)))<|(gd (0<=(a-(1:Int))/\(a-(1:Int))<(b.length:Int))<|(gd (0<=(a-(1:Int))/\(a-(1:Int))<(b.length:Int))<|(gd (0<=a/\a<(b.length:Int))<|(gd (0<=a/\a<(b.length:Int))<|(gd (0<=a/\a<(b.length:Int))<|(gd (0<=a/\a<(b.length:Int))<|(gd (0<=(a-(1:Int))/\(a-(1:Int))<((eA b (aR a) ((el b (a-(1:Int))).1,(el b (a-(1:Int))).2.1,((el b (a-(1:Int))).2.2))).length:Int))<|(gd (0<=(a-(1:Int))/\(a-(1:Int))<((eA b (aR a) ((el b (a-(1:Int))).1,(el b (a-(1:Int))).2.1,((el b (a-(1:Int))).2.2))).length:Int))<|(gd (bJ (a-(1:Int)))<|(c (eA (eA b (aR a) ((el b (a-(1:Int))).1,(el b (a-(1:Int))).2.1,((el b (a-(1:Int))).2.2))) (aR (a-(1:Int))) ((el b a).1,(el b a).2.1,((el b a).2.2))) (a-(1:Int))))))))))))))else some b)
def acl(fu:Nat)(d:Int):Nat->LQ->Int->Option LQ:=fun c b a=>bM (fun(g:(LQ×Int)->Option LQ) v=>acf fu d (fun b a=>g (b,a)) v.1 v.2) c (b,a)
theorem afh{fu:Nat}{a:Int}{b:Nat}{d:LQ}{c:Int}:acl fu a (b+1) d c=acf fu a (acl fu a b) d c:=rfl
def ace(fu:Nat)(c:LQ)(f:Int)(e:Int)(d:Int)(g:Int->Int->Option Int)(a:Int)(b:Int):Option Int:=
 (if a<b then(gd (bJ (a+b))<|(gd (bJ ((((bN .i64 ((bN .u64 (f+d))/2))+e)-(1:Int))-(bN .i64 ((bN .u64 (a+b))/2))))<|(gd (0<=((((bN .i64 ((bN .u64 (f+d))/2))+e)-(1:Int))-(bN .i64 ((bN .u64 (a+b))/2)))/\((((bN .i64 ((bN .u64 (f+d))/2))+e)-(1:Int))-(bN .i64 ((bN .u64 (a+b))/2)))<(c.length:Int))<|(gd (0<=((((bN .i64 ((bN .u64 (f+d))/2))+e)-(1:Int))-(bN .i64 ((bN .u64 (a+b))/2)))/\((((bN .i64 ((bN .u64 (f+d))/2))+e)-(1:Int))-(bN .i64 ((bN .u64 (a+b))/2)))<(c.length:Int))<|(gd (0<=(bN .i64 ((bN .u64 (a+b))/2))/\(bN .i64 ((bN .u64 (a+b))/2))<(c.length:Int))<|(gd (0<=(bN .i64 ((bN .u64 (a+b))/2))/\(bN .i64 ((bN .u64 (a+b))/2))<(c.length:Int))<|((gp fu ((el c ((((bN .i64 ((bN .u64 (f+d))/2))+e)-(1:Int))-(bN .i64 ((bN .u64 (a+b))/2)))).1,(el c ((((bN .i64 ((bN .u64 (f+d))/2))+e)-(1:Int))-(bN .i64 ((bN .u64 (a+b))/2)))).2.1,((el c ((((bN .i64 ((bN .u64 (f+d))/2))+e)-(1:Int))-(bN .i64 ((bN .u64 (a+b))/2)))).2.2)) ((el c (bN .i64 ((bN .u64 (a+b))/2))).1,(el c (bN .i64 ((bN .u64 (a+b))/2))).2.1,((el c (bN .i64 ((bN .u64 (a+b))/2))).2.2))).bind fun(h:Int)=>(if h<(0:Int)then(g a (bN .i64 ((bN .u64 (a+b))/2)))else(gd (bJ ((bN .i64 ((bN .u64 (a+b))/2))+(1:Int)))<|(g ((bN .i64 ((bN .u64 (a+b))/2))+(1:Int)) b))))))))))else some a)
def ack(fu:Nat)(h:LQ)(f:Int)(e:Int)(d:Int):Nat->Int->Int->Option Int:=fun c b a=>bM (fun(g:(Int×Int)->Option Int) v=>ace fu h f e d (fun b a=>g (b,a)) v.1 v.2) c (b,a)
theorem afg{fu:Nat}{d:LQ}{c:Int}{b:Int}{a:Int}{e:Nat}{g:Int}{f:Int}:ack fu d c b a (e+1) g f=ace fu d c b a (ack fu d c b a e) g f:=rfl
def M8:Nat->LQ->Int->Int->Int->Option LQ
 |0,_,_,_,_=>none
 |d+1,f,a,c,b=>(((gd (bJ (c-a))<|(if(c-a)=(1:Int)then(((aco d f a d c b)).bind fun(v:Int)=>(((acn d v d f a)).bind fun(u:LQ)=>some (.inr u)))else some (.inl ())))).bind fun(t:(Unit⊕LQ))=>eF (fun(x:Unit)=>(((gd (bJ (b-c))<|(if(b-c)=(1:Int)then(((acm d f c d a c)).bind fun(s:Int)=>(((acl d s d f c)).bind fun(r:LQ)=>some (.inr r)))else some (.inl ())))).bind fun(p:(Unit⊕LQ))=>eF (fun(w:Unit)=>(gd (bJ (a+b))<|(gd (bJ ((bN .i64 ((bN .u64 (a+b))/2))+c))<|(((if(bN .i64 ((bN .u64 (a+b))/2))<c then(gd (bJ (((bN .i64 ((bN .u64 (a+b))/2))+c)-b))<|some (((bN .i64 ((bN .u64 (a+b))/2))+c)-b,bN .i64 ((bN .u64 (a+b))/2)))else some (a,c))).bind fun(i:(Int×Int))=>(gd (bJ (((bN .i64 ((bN .u64 (a+b))/2))+c)-(1:Int)))<|(((ack d f a c b d i.1 i.2)).bind fun(e:Int)=>(gd (bJ (((bN .i64 ((bN .u64 (a+b))/2))+c)-e))<|(((((if e<c then some (decide (c<(((bN .i64 ((bN .u64 (a+b))/2))+c)-e)))else some false)).bind fun(o:Bool)=>(bif o then((xg d f e c (((bN .i64 ((bN .u64 (a+b))/2))+c)-e)).bind fun(n:LQ)=>some n)else some f))).bind fun(h:LQ)=>(((((if a<e then some (decide (e<(bN .i64 ((bN .u64 (a+b))/2))))else some false)).bind fun(m:Bool)=>(bif m then((M8 d h a e (bN .i64 ((bN .u64 (a+b))/2))).bind fun(l:LQ)=>some l)else some h))).bind fun(g:LQ)=>(((if(bN .i64 ((bN .u64 (a+b))/2))<(((bN .i64 ((bN .u64 (a+b))/2))+c)-e)then some (decide ((((bN .i64 ((bN .u64 (a+b))/2))+c)-e)<b))else some false)).bind fun(k:Bool)=>(bif k then((M8 d g (bN .i64 ((bN .u64 (a+b))/2)) (((bN .i64 ((bN .u64 (a+b))/2))+c)-e) b).bind fun(j:LQ)=>some j)else some g))))))))))) (fun q=>some q) p)) (fun q=>some q) t)
def xm(fu:Nat)(f:Int)(e:LQ->Int->Int->Option (LQ×Int))(c:LQ)(b:Int)(a:Int):Option (LQ×Int):=
 (if a<=f then((ia fu c b a).bind fun(d:LQ)=>(gd (bJ (a+(20:Int)))<|(e d a (a+(20:Int)))))else some (c,b))
def gw(fu:Nat)(e:Int):Nat->LQ->Int->Int->Option (LQ×Int):=fun d c b a=>bM (fun(g:(LQ×Int×Int)->Option (LQ×Int)) v=>xm fu e (fun c b a=>g (c,b,a)) v.1 v.2.1 v.2.2) d (c,b,a)
theorem adk{fu:Nat}{a:Int}{b:Nat}{e:LQ}{d:Int}{c:Int}:gw fu a (b+1) e d c=xm fu a (gw fu a b) e d c:=rfl
def acr(fu:Nat)(g:Int)(b:Int)(f:LQ->Int->Int->Option (LQ×Int))(d:LQ)(c:Int)(a:Int):Option (LQ×Int):=
 (if a<=g then(gd (bJ (c+b))<|((M8 fu d c (c+b) a).bind fun(e:LQ)=>(gd (bJ ((2:Int)*b))<|(gd (bJ (a+((2:Int)*b)))<|(f e a (a+((2:Int)*b)))))))else some (d,c))
def xj(fu:Nat)(f:Int)(e:Int):Nat->LQ->Int->Int->Option (LQ×Int):=fun d c b a=>bM (fun(g:(LQ×Int×Int)->Option (LQ×Int)) v=>acr fu f e (fun c b a=>g (c,b,a)) v.1 v.2.1 v.2.2) d (c,b,a)
theorem aft{fu:Nat}{b:Int}{a:Int}{c:Nat}{f:LQ}{e:Int}{d:Int}:xj fu b a (c+1) f e d=acr fu b a (xj fu b a c) f e d:=rfl
def xn(fu:Nat)(c:Int)(e:LQ->Int->Option LQ)(d:LQ)(a:Int):Option LQ:=
 (if a<c then(gd (bJ ((2:Int)*a))<|(((xj fu c a fu d (0:Int) ((2:Int)*a))).bind fun(b:(LQ×Int))=>(gd (bJ (b.2+a))<|(if(b.2+a)<c then((M8 fu b.1 b.2 (b.2+a) c).bind fun(f:LQ)=>(gd (bJ (a*(2:Int)))<|(e f (a*(2:Int)))))else(gd (bJ (a*(2:Int)))<|(e b.1 (a*(2:Int))))))))else some d)
def gx(fu:Nat)(d:Int):Nat->LQ->Int->Option LQ:=fun c b a=>bM (fun(g:(LQ×Int)->Option LQ) v=>xn fu d (fun b a=>g (b,a)) v.1 v.2) c (b,a)
theorem adj{fu:Nat}{a:Int}{b:Nat}{d:LQ}{c:Int}:gx fu a (b+1) d c=xn fu a (gx fu a b) d c:=rfl
def ada(fu:Nat)(d:LQ)(a:Int):Option LQ:=
 (((gw fu a fu d (0:Int) (20:Int))).bind fun(b:(LQ×Int))=>((ia fu b.1 b.2 a).bind fun(c:LQ)=>(gx fu a fu c (20:Int))))
def xi(fu:Nat)(a:LQ):Option LQ:=
 ((ada fu a (a.length:Int)).bind fun(b:LQ)=>some b)
def xu(fu:Nat)(c:LQ):Option LQ:=
 ((xc fu c).bind fun(b:LQ)=>((xi fu b).bind fun(a:LQ)=>some a))
def CZ(fu:Nat)(a:LQ):Option LQ:=
 ((vv fu a).bind fun(c:LQ)=>((xu fu a).bind fun(b:LQ)=>some b))
open Go.Lib renaming cut → dA, indexAny → yL, itoa → gF
def alr(fu:Nat)(b:(aA×aA×Int×aA×LQ))(d:LQ->Int->Option LQ)(c:LQ)(a:Int):Option LQ:=
 (if a<(b.2.2.2.2.length:Int)then(gd (0<=a/\a<(b.2.2.2.2.length:Int))<|(gd (0<=a/\a<(b.2.2.2.2.length:Int))<|(if((el b.2.2.2.2 a).1)=([98,114,97,110,99,104]:aA)then(gd (bJ (a+(1:Int)))<|(d c (a+(1:Int))))else(gd ((c.length+([((el b.2.2.2.2 a).1,(el b.2.2.2.2 a).2.1,((el b.2.2.2.2 a).2.2))]:LQ).length)*40<=140737488355328)<|(gd (bJ (a+(1:Int)))<|(d (c++([((el b.2.2.2.2 a).1,(el b.2.2.2.2 a).2.1,((el b.2.2.2.2 a).2.2))]:LQ)) (a+(1:Int))))))))else some c)
def vu(fu:Nat)(d:(aA×aA×Int×aA×LQ)):Nat->LQ->Int->Option LQ:=fun c b a=>bM (fun(g:(LQ×Int)->Option LQ) v=>alr fu d (fun b a=>g (b,a)) v.1 v.2) c (b,a)
theorem aun{fu:Nat}{a:(aA×aA×Int×aA×LQ)}{b:Nat}{d:LQ}{c:Int}:vu fu a (b+1) d c=alr fu a (vu fu a b) d c:=rfl
def zu(fu:Nat)(a:(aA×aA×Int×aA×LQ)):Option (aA×UInt8):=
 ((YB fu a.2.1).bind fun(c:(aA×Bool))=>(((bif (!c.2)then some true else((MQ fu a.1).bind fun(j:Bool)=>(bif (!j)then some true else(if a.2.2.1<(0:Int)then some true else some (decide ((65535:Int)<a.2.2.1))))))).bind fun(i:Bool)=>(bif i then some (([]:aA),(2:UInt8))else(((vu fu a fu ([]:LQ) (0:Int))).bind fun(f:LQ)=>(((if a.2.2.2.1=([]:aA)then some f else(gd ((f.length+([(([98,114,97,110,99,104]:aA),a.2.2.2.1,true)]:LQ).length)*40<=140737488355328)<|some (f++([(([98,114,97,110,99,104]:aA),a.2.2.2.1,true)]:LQ))))).bind fun(h:LQ)=>((CZ fu h).bind fun(g:LQ)=>((LK fu g).bind fun(e:(aA×UInt8))=>(if e.2=(0:UInt8)then(((if a.2.2.1=(0:Int)then some c.1 else(gd (bJ a.2.2.1)<|(gd (([58]:aA).length+(gF a.2.2.1).length<=9223372036854775807)<|(gd (c.1.length+(([58]:aA)++(gF a.2.2.1)).length<=9223372036854775807)<|some (c.1++(([58]:aA)++(gF a.2.2.1)))))))).bind fun(d:aA)=>((lv fu a.1).bind fun(b:aA)=>(gd (([83,73,80,47,50,46,48,47]:aA).length+b.length<=9223372036854775807)<|(gd ((([83,73,80,47,50,46,48,47]:aA)++b).length+([32]:aA).length<=9223372036854775807)<|(gd (((([83,73,80,47,50,46,48,47]:aA)++b)++([32]:aA)).length+d.length<=9223372036854775807)<|(gd ((((([83,73,80,47,50,46,48,47]:aA)++b)++([32]:aA))++d).length+e.1.length<=9223372036854775807)<|some ((((([83,73,80,47,50,46,48,47]:aA)++b)++([32]:aA))++d)++e.1,(0:UInt8))))))))else some (([]:aA),(2:UInt8))))))))))
def uo(fu:Nat)(s_0:aA):Option (Int×aA×UInt8):=
 (gd (s_0.length<=1000000000/\([32,9]:aA).length<=1000/\([32,9]:aA).all (fun b=>decide (b.toNat<128))=true)<|(((if(yL s_0 ([32,9]:aA))<(0:Int)then some (s_0.length:Int)else some (yL s_0 ([32,9]:aA)))).bind fun(a:Int)=>(gd (0<=a/\a<=(s_0.length:Int))<|((U7 fu (kO (aR a) s_0)).bind fun(d:(Int×UInt8))=>((L8 fu s_0 a).bind fun(c:Int)=>(gd (0<=c/\c<=(s_0.length:Int))<|some (d.1,bK (aR c) s_0,d.2)))))))
def tr(fu:Nat)(d:aA):Option (Int×aA×UInt8):=
 ((MP fu d).bind fun(b:aA)=>((uo fu b).bind fun(a:(Int×aA×UInt8))=>(if a.2.2=(0:UInt8)then((MQ fu a.2.1).bind fun(c:Bool)=>(bif (!c)then some ((0:Int),([]:aA),(5:UInt8))else some (a.1,a.2.1,(0:UInt8))))else some ((0:Int),([]:aA),a.2.2))))
def zc(fu:Nat)(d:aA):Option (Int×Int×aA×UInt8):=
 ((MP fu d).bind fun(c:aA)=>((uo fu c).bind fun(a:(Int×aA×UInt8))=>(if a.2.2=(0:UInt8)then((tr fu a.2.1).bind fun(b:(Int×aA×UInt8))=>(if b.2.2=(0:UInt8)then some (a.1,b.1,b.2.1,(0:UInt8))else some ((0:Int),(0:Int),([]:aA),b.2.2)))else some ((0:Int),(0:Int),([]:aA),a.2.2))))
def zf(fu:Nat)(c:aA):Option (Int×UInt8):=
 ((MP fu c).bind fun(b:aA)=>((U7 fu b).bind fun(a:(Int×UInt8))=>some (a.1,a.2)))
def za(fu:Nat)(h:aA):Option ((aA×LQ)×UInt8):=
 ((MP fu h).bind fun(b:aA)=>((M0 fu b (0:Int)).bind fun(a:Int)=>(if a=(0:Int)then some ((([]:aA),([]:LQ)),(5:UInt8))else(((((if a<(b.length:Int)then(gd (0<=a/\a<(b.length:Int))<|some (decide ((at_ b a)=(47:UInt8))))else some false)).bind fun(g:Bool)=>(bif g then(gd (bJ (a+(1:Int)))<|((M0 fu b (a+(1:Int))).bind fun(e:Int)=>(gd (bJ (a+(1:Int)))<|(if e=(a+(1:Int))then some (.inr ((([]:aA),([]:LQ)),(5:UInt8)))else some (.inl e)))))else some (.inl a)))).bind fun(f:(Int⊕((aA×LQ)×UInt8)))=>eF (fun(c:Int)=>(gd (0<=c/\c<=(b.length:Int))<|((U9 fu (bK (aR c) b)).bind fun(d:(LQ×Int×UInt8))=>(if d.2.2=(0:UInt8)then(gd (0<=c/\c<=(b.length:Int))<|some ((kO (aR c) b,d.1),(0:UInt8)))else some ((([]:aA),([]:LQ)),d.2.2))))) (fun q=>some q) f))))
def arb(fu:Nat)(a:(aA×LQ)):Option (aA×UInt8):=
 (gd (a.1.length<=1000000000)<|((((MQ fu ((dA a.1 ([47]:aA)).1)).bind fun(f:Bool)=>(bif (!f)then some true else(bif ((dA a.1 ([47]:aA)).2.2)then((MQ fu ((dA a.1 ([47]:aA)).2.1)).bind fun(e:Bool)=>some (!e))else some false)))).bind fun(d:Bool)=>(bif d then some (([]:aA),(2:UInt8))else((CZ fu a.2).bind fun(c:LQ)=>((LK fu c).bind fun(b:(aA×UInt8))=>(if b.2=(0:UInt8)then(gd (a.1.length+b.1.length<=9223372036854775807)<|some (a.1++b.1,(0:UInt8)))else some (([]:aA),(2:UInt8))))))))
def tu(fu:Nat)(m:aA)(d:aA):Option (aA×UInt8):=
 ((U8 fu m).bind fun(c:Int)=>(if c=(1:Int)then(((if m=([67,111,110,116,97,99,116]:aA)then((MP fu d).bind fun(q:aA)=>some (decide (q=([42]:aA))))else some false)).bind fun(p:Bool)=>(bif p then some (([42]:aA),(0:UInt8))else((zl fu d).bind fun(h:(AQ×UInt8))=>(if h.2=(0:UInt8)then((alx fu h.1).bind fun(l:(aA×UInt8))=>some (l.1,l.2))else some (([]:aA),h.2)))))else(if c=(2:Int)then((yy fu d).bind fun(g:((aA×aA×Int×aA×LQ)×UInt8))=>(if g.2=(0:UInt8)then((zu fu g.1).bind fun(k:(aA×UInt8))=>some (k.1,k.2))else some (([]:aA),g.2)))else(if c=(3:Int)then((tr fu d).bind fun(b:(Int×aA×UInt8))=>(if b.2.2=(0:UInt8)then(gd (bJ b.1)<|(gd ((gF b.1).length+([32]:aA).length<=9223372036854775807)<|(gd (((gF b.1)++([32]:aA)).length+b.2.1.length<=9223372036854775807)<|some (((gF b.1)++([32]:aA))++b.2.1,(0:UInt8)))))else some (([]:aA),b.2.2)))else(if c=(4:Int)then((zc fu d).bind fun(a:(Int×Int×aA×UInt8))=>(if a.2.2.2=(0:UInt8)then(gd (bJ a.1)<|(gd ((gF a.1).length+([32]:aA).length<=9223372036854775807)<|(gd (bJ a.2.1)<|(gd (((gF a.1)++([32]:aA)).length+(gF a.2.1).length<=9223372036854775807)<|(gd ((((gF a.1)++([32]:aA))++(gF a.2.1)).length+([32]:aA).length<=9223372036854775807)<|(gd (((((gF a.1)++([32]:aA))++(gF a.2.1))++([32]:aA)).length+a.2.2.1.length<=9223372036854775807)<|some (((((gF a.1)++([32]:aA))++(gF a.2.1))++([32]:aA))++a.2.2.1,(0:UInt8))))))))else some (([]:aA),a.2.2.2)))else(if c=(5:Int)then((zf fu d).bind fun(e:(Int×UInt8))=>(if e.2=(0:UInt8)then(gd (bJ e.1)<|some (gF e.1,(0:UInt8)))else some (([]:aA),e.2)))else(((if c=(6:Int)then some (decide (c=(6:Int)))else some (decide (c=(7:Int))))).bind fun(o:Bool)=>(bif o then((za fu d).bind fun(f:((aA×LQ)×UInt8))=>(if f.2=(0:UInt8)then((arb fu f.1).bind fun(j:(aA×UInt8))=>some (j.1,j.2))else some (([]:aA),f.2)))else((MP fu d).bind fun(i:aA)=>((jr fu i).bind fun(n:(aA×UInt8))=>(if n.2=(0:UInt8)then some (i,(0:UInt8))else some (([]:aA),(5:UInt8)))))))))))))
open Go.Lib renaming cut → dA, hasPrefix → kB, join → dM, trimPrefix → fD
def tw(fu:Nat)(s_0:aA)(d:Int)(a:Int):Option (Int×aA):=
 ((L8 fu s_0 d).bind fun(c:Int)=>(gd (0<=(min c a)/\(min c a)<=a/\a<=(s_0.length:Int))<|(gd ((sub s_0 (min c a) a).length<=1000000000)<|gd (([32,9]:aA).length<=1000/\([32,9]:aA).all (fun b=>decide (b.toNat<128))=true)<|some (min c a,Lib.trimRightS (sub s_0 (min c a) a) ([32,9]:aA)))))
def ve(fu:Nat)(s_0:aA)(g:UInt8)(e:(List (Int×aA))->Int->Int->Option (((List (Int×aA))×Int)⊕((List (Int×aA))×Int×UInt8)))(b:List (Int×aA))(c:Int)(a:Int):Option (((List (Int×aA))×Int)⊕((List (Int×aA))×Int×UInt8)):=
 (if a<(s_0.length:Int)then(gd (0<=a/\a<(s_0.length:Int))<|(if(at_ s_0 a)=(34:UInt8)then((jz fu s_0 a).bind fun(d:(aA×Int×UInt8))=>(if d.2.2=(0:UInt8)then(e b c d.2.1)else some (.inr (([]:List (Int×aA)),d.2.1,d.2.2))))else(if(at_ s_0 a)=(60:UInt8)then(gd (0<=a/\a<=(s_0.length:Int))<|(if(dJ (·==(62:UInt8)) (bK (aR a) s_0))<(0:Int)then some (.inr (([]:List (Int×aA)),(s_0.length:Int),(6:UInt8)))else(gd (bJ ((dJ (·==(62:UInt8)) (bK (aR a) s_0))+(1:Int)))<|(gd (bJ (a+((dJ (·==(62:UInt8)) (bK (aR a) s_0))+(1:Int))))<|(e b c (a+((dJ (·==(62:UInt8)) (bK (aR a) s_0))+(1:Int))))))))else(if(at_ s_0 a)=(62:UInt8)then some (.inr (([]:List (Int×aA)),a,(5:UInt8)))else(if(at_ s_0 a)=g then((tw fu s_0 c a).bind fun(f:(Int×aA))=>(gd ((b.length+([f]:List (Int×aA)).length)*24<=140737488355328)<|(gd (bJ (a+(1:Int)))<|(e (b++([f]:List (Int×aA))) (a+(1:Int)) (a+(1:Int))))))else(gd (bJ (a+(1:Int)))<|(e b c (a+(1:Int)))))))))else some (.inl (b,c)))
def uq(fu:Nat)(s_0:aA)(e:UInt8):Nat->(List (Int×aA))->Int->Int->Option (((List (Int×aA))×Int)⊕((List (Int×aA))×Int×UInt8)):=fun d c b a=>bM (fun(g:((List (Int×aA))×Int×Int)->Option (((List (Int×aA))×Int)⊕((List (Int×aA))×Int×UInt8))) v=>ve fu s_0 e (fun c b a=>g (c,b,a)) v.1 v.2.1 v.2.2) d (c,b,a)
theorem atj{fu:Nat}{s_0:aA}{a:UInt8}{b:Nat}{e:List (Int×aA)}{d:Int}{c:Int}:uq fu s_0 a (b+1) e d c=ve fu s_0 a (uq fu s_0 a b) e d c:=rfl
def zd(fu:Nat)(s_0:aA)(a:UInt8):Option ((List (Int×aA))×Int×UInt8):=
 ((((V1 fu a).bind fun(f:Bool)=>(bif f then some true else(if a=(34:UInt8)then some true else(if a=(60:UInt8)then some true else some (decide (a=(62:UInt8)))))))).bind fun(e:Bool)=>(bif e then some (([]:List (Int×aA)),(0:Int),(2:UInt8))else(((uq fu s_0 a fu ([]:List (Int×aA)) (0:Int) (0:Int))).bind fun(d:(((List (Int×aA))×Int)⊕((List (Int×aA))×Int×UInt8)))=>eF (fun(b:((List (Int×aA))×Int))=>((tw fu s_0 b.2 (s_0.length:Int)).bind fun(c:(Int×aA))=>(gd ((b.1.length+([c]:List (Int×aA)).length)*24<=140737488355328)<|some (b.1++([c]:List (Int×aA)),(0:Int),(0:UInt8))))) (fun q=>some q) d)))
def arc(fu:Nat)(b:((List (Int×aA))×Int×UInt8))(d:(List aA)->Int->Option ((List aA)⊕((List aA)×UInt8)))(c:List aA)(a:Int):Option ((List aA)⊕((List aA)×UInt8)):=
 (if a<(b.1.length:Int)then(gd (0<=a/\a<(b.1.length:Int))<|(gd (0<=a/\a<(b.1.length:Int))<|(if((el b.1 a).2)=([]:aA)then some (.inr (([]:List aA),(5:UInt8)))else(gd ((c.length+([(el b.1 a).2]:List aA).length)*16<=140737488355328)<|(gd (bJ (a+(1:Int)))<|(d (c++([(el b.1 a).2]:List aA)) (a+(1:Int))))))))else some (.inl c))
def uk(fu:Nat)(c:((List (Int×aA))×Int×UInt8)):Nat->(List aA)->Int->Option ((List aA)⊕((List aA)×UInt8)):=fun d b a=>bM (fun(g:((List aA)×Int)->Option ((List aA)⊕((List aA)×UInt8))) v=>arc fu c (fun b a=>g (b,a)) v.1 v.2) d (b,a)
theorem ayg{fu:Nat}{a:((List (Int×aA))×Int×UInt8)}{b:Nat}{d:List aA}{c:Int}:uk fu a (b+1) d c=arc fu a (uk fu a b) d c:=rfl
def zb(fu:Nat)(d:aA):Option ((List aA)×UInt8):=
 ((zd fu d (44:UInt8)).bind fun(a:((List (Int×aA))×Int×UInt8))=>(if a.2.2=(0:UInt8)then(((uk fu a fu ([]:List aA) (0:Int))).bind fun(c:((List aA)⊕((List aA)×UInt8)))=>eF (fun(b:List aA)=>some (b,(0:UInt8))) (fun q=>some q) c)else some (([]:List aA),a.2.2)))
def ara(fu:Nat)(d:(aA×UInt8))(f:((List aA)×UInt8))(e:(List aA)->Int->Option ((List aA)⊕(aA×UInt8)))(b:List aA)(a:Int):Option ((List aA)⊕(aA×UInt8)):=
 (if a<(f.1.length:Int)then(gd (0<=a/\a<(b.length:Int))<|(gd (0<=a/\a<(b.length:Int))<|((tu fu d.1 (el b a)).bind fun(c:(aA×UInt8))=>(gd (0<=a/\a<(b.length:Int))<|(gd (0<=a/\a<(b.length:Int))<|(if c.2=(0:UInt8)then(gd (bJ (a+(1:Int)))<|(e (eA b (aR a) c.1) (a+(1:Int))))else some (.inr (([]:aA),c.2))))))))else some (.inl b))
def um(fu:Nat)(c:(aA×UInt8))(e:((List aA)×UInt8)):Nat->(List aA)->Int->Option ((List aA)⊕(aA×UInt8)):=fun d b a=>bM (fun(g:((List aA)×Int)->Option ((List aA)⊕(aA×UInt8))) v=>ara fu c e (fun b a=>g (b,a)) v.1 v.2) d (b,a)
theorem ayf{fu:Nat}{a:(aA×UInt8)}{b:((List aA)×UInt8)}{c:Nat}{e:List aA}{d:Int}:um fu a b (c+1) e d=ara fu a b (um fu a b c) e d:=rfl
def tt(fu:Nat)(h:aA)(e:aA):Option (aA×UInt8):=
 ((gh fu h).bind fun(a:(aA×UInt8))=>(if a.2=(0:UInt8)then((ga fu a.1).bind fun(f:Bool)=>(bif (!f)then((tu fu a.1 e).bind fun(d:(aA×UInt8))=>some (d.1,d.2))else((zb fu e).bind fun(b:((List aA)×UInt8))=>(if b.2=(0:UInt8)then(((um fu a b fu b.1 (0:Int))).bind fun(g:((List aA)⊕(aA×UInt8)))=>eF (fun(c:List aA)=>(gd (c.length<=1000000000/\(dM c ([44,32]:aA)).length<=100000000000)<|some (dM c ([44,32]:aA),(0:UInt8)))) (fun q=>some q) g)else some (([]:aA),b.2)))))else some (([]:aA),(5:UInt8))))
def ld(fu:Nat)(c:aA)(b:aA):Option ((aA×aA)×UInt8):=
 (if(1024:Int)<(b.length:Int)then some ((([]:aA),([]:aA)),(4:UInt8))else((tt fu c b).bind fun(a:(aA×UInt8))=>(if a.2=(0:UInt8)then(if(1024:Int)<(a.1.length:Int)then some ((([]:aA),([]:aA)),(4:UInt8))else some ((c,a.1),(0:UInt8)))else some ((([]:aA),([]:aA)),a.2))))
def avt(fu:Nat)(a:aA):Option ((aA×aA)×UInt8):=
 (gd (a.length<=1000000000)<|(bif (!((dA a ([58]:aA)).2.2))then some ((([]:aA),([]:aA)),(5:UInt8))else(gd (((dA a ([58]:aA)).1).length<=1000000000)<|gd (([32,9]:aA).length<=1000/\([32,9]:aA).all (fun b=>decide (b.toNat<128))=true)<|((gh fu (Lib.trimRightS ((dA a ([58]:aA)).1) ([32,9]:aA))).bind fun(d:(aA×UInt8))=>(if d.2=(0:UInt8)then(gd (((dA a ([58]:aA)).2.1).length<=1000000000)<|gd (([32,9]:aA).length<=1000/\([32,9]:aA).all (fun b=>decide (b.toNat<128))=true)<|((ld fu d.1 (Lib.trimS ((dA a ([58]:aA)).2.1) ([32,9]:aA))).bind fun(c:((aA×aA)×UInt8))=>some (c.1,c.2)))else some ((([]:aA),([]:aA)),(5:UInt8)))))))
def aqs(fu:Nat)(b:((List (Int×aA))×Int×UInt8))(g:Int->(List (aA×aA))->Option ((List (aA×aA))⊕(((List (aA×aA))×(List UInt8))×Int×UInt8)))(a:Int)(d:List (aA×aA)):Option ((List (aA×aA))⊕(((List (aA×aA))×(List UInt8))×Int×UInt8)):=
 (if a<(b.1.length:Int)then(gd (0<=a/\a<(b.1.length:Int))<|(gd (0<=a/\a<(b.1.length:Int))<|((avt fu ((el b.1 a).2)).bind fun(c:((aA×aA)×UInt8))=>(((((if c.2=(0:UInt8)then some (decide ((d.length:Int)=(64:Int)))else some false)).bind fun(f:Bool)=>(bif f then some (4:UInt8)else some c.2))).bind fun(e:UInt8)=>(if e=(0:UInt8)then(gd ((d.length+([c.1]:List (aA×aA)).length)*32<=140737488355328)<|(gd (bJ (a+(1:Int)))<|(g (a+(1:Int)) (d++([c.1]:List (aA×aA))))))else some (.inr ((([]:List (aA×aA)),([]:List UInt8)),(el b.1 a).1,e)))))))else some (.inl d))
def amq(fu:Nat)(d:((List (Int×aA))×Int×UInt8)):Nat->Int->(List (aA×aA))->Option ((List (aA×aA))⊕(((List (aA×aA))×(List UInt8))×Int×UInt8)):=fun c b a=>bM (fun(g:(Int×(List (aA×aA)))->Option ((List (aA×aA))⊕(((List (aA×aA))×(List UInt8))×Int×UInt8))) v=>aqs fu d (fun b a=>g (b,a)) v.1 v.2) c (b,a)
theorem bbb{fu:Nat}{a:((List (Int×aA))×Int×UInt8)}{b:Nat}{d:Int}{c:List (aA×aA)}:amq fu a (b+1) d c=aqs fu a (amq fu a b) d c:=rfl
def avs(fu:Nat)(a:aA):Option (((List (aA×aA))×(List UInt8))×Int×UInt8):=
 (bif (kB a ([13,10]:aA))then some ((([]:List (aA×aA)),fD a ([13,10]:aA)),(0:Int),(0:UInt8))else(gd (a.length<=1000000000)<|(bif (!((dA a ([13,10,13,10]:aA)).2.2))then some ((([]:List (aA×aA)),([]:List UInt8)),(0:Int),(5:UInt8))else(gd (((dA a ([13,10,13,10]:aA)).1).length+([13,10]:aA).length<=9223372036854775807)<|((azj fu (((dA a ([13,10,13,10]:aA)).1)++([13,10]:aA))).bind fun(b:((List (Int×aA))×Int×UInt8))=>(if b.2.2=(0:UInt8)then(((amq fu b fu (0:Int) ([]:List (aA×aA)))).bind fun(d:((List (aA×aA))⊕(((List (aA×aA))×(List UInt8))×Int×UInt8)))=>eF (fun(c:List (aA×aA))=>some ((c,(dA a ([13,10,13,10]:aA)).2.1),(0:Int),(0:UInt8))) (fun q=>some q) d)else some ((([]:List (aA×aA)),([]:List UInt8)),b.2.1,b.2.2)))))))
def atl(fu:Nat)(e:List UInt8)(i:aA)(h:(List ((List (aA×aA))×(List UInt8)))->Int->Int->Bool->Option (((List ((List (aA×aA))×(List UInt8)))×Int×Int×Bool)⊕((List ((List (aA×aA))×(List UInt8)))×Int×UInt8)))(d:List ((List (aA×aA))×(List UInt8)))(g:Int)(a:Int)(f:Bool):Option (((List ((List (aA×aA))×(List UInt8)))×Int×Int×Bool)⊕((List ((List (aA×aA))×(List UInt8)))×Int×UInt8)):=
 (bif (!f)then(if(d.length:Int)=(8:Int)then some (.inr (([]:List ((List (aA×aA))×(List UInt8))),g,(4:UInt8)))else((als fu e a i).bind fun(b:((Int×Int×Bool)×Bool))=>(bif (!b.2)then some (.inr (([]:List ((List (aA×aA))×(List UInt8))),(e.length:Int),(6:UInt8)))else(gd (bJ (b.1.1-(2:Int)))<|(gd (0<=a/\a<=(max (b.1.1-(2:Int)) a)/\(max (b.1.1-(2:Int)) a)<=(e.length:Int))<|((avs fu (sub e a (max (b.1.1-(2:Int)) a))).bind fun(c:(((List (aA×aA))×(List UInt8))×Int×UInt8))=>(if c.2.2=(0:UInt8)then(gd ((d.length+1)*48<=140737488355328)<|(h (d++[c.1]) b.1.1 b.1.2.1 b.1.2.2))else(gd (bJ (a+c.2.1))<|some (.inr (([]:List ((List (aA×aA))×(List UInt8))),a+c.2.1,c.2.2))))))))))else some (.inl (d,g,a,f)))
def zy(fu:Nat)(h:List UInt8)(f:aA):Nat->(List ((List (aA×aA))×(List UInt8)))->Int->Int->Bool->Option (((List ((List (aA×aA))×(List UInt8)))×Int×Int×Bool)⊕((List ((List (aA×aA))×(List UInt8)))×Int×UInt8)):=fun e d c b a=>bM (fun(g:((List ((List (aA×aA))×(List UInt8)))×Int×Int×Bool)->Option (((List ((List (aA×aA))×(List UInt8)))×Int×Int×Bool)⊕((List ((List (aA×aA))×(List UInt8)))×Int×UInt8))) v=>atl fu h f (fun d c b a=>g (d,c,b,a)) v.1 v.2.1 v.2.2.1 v.2.2.2) e (d,c,b,a)
theorem qZ{fu:Nat}{b:List UInt8}{a:aA}{c:Nat}{g:List ((List (aA×aA))×(List UInt8))}{f:Int}{e:Int}{d:Bool}:zy fu b a (c+1) g f e d=atl fu b a (zy fu b a c) g f e d:=rfl
def azk(fu:Nat)(b:List UInt8)(c:aA):Option ((List ((List (aA×aA))×(List UInt8)))×Int×UInt8):=
 ((gm fu c).bind fun(d:Bool)=>(bif (!d)then some (([]:List ((List (aA×aA))×(List UInt8))),(0:Int),(2:UInt8))else(if(8192:Int)<(b.length:Int)then some (([]:List ((List (aA×aA))×(List UInt8))),(8192:Int),(4:UInt8))else((als fu b (0:Int) c).bind fun(a:((Int×Int×Bool)×Bool))=>(bif (!a.2)then some (([]:List ((List (aA×aA))×(List UInt8))),(b.length:Int),(6:UInt8))else(bif a.1.2.2 then some (([]:List ((List (aA×aA))×(List UInt8))),a.1.1,(5:UInt8))else(((zy fu b c fu ([]:List ((List (aA×aA))×(List UInt8))) a.1.1 a.1.2.1 a.1.2.2)).bind fun(f:(((List ((List (aA×aA))×(List UInt8)))×Int×Int×Bool)⊕((List ((List (aA×aA))×(List UInt8)))×Int×UInt8)))=>eF (fun(e:((List ((List (aA×aA))×(List UInt8)))×Int×Int×Bool))=>some (e.1,(0:Int),(0:UInt8))) (fun q=>some q) f)))))))
open Go.Lib renaming index → bR
open List renaming replicate → hC, set → eA, take → kO
def vk(fu:Nat)(b:((List (aA×aA))×(List UInt8)))(f:Int->(List (aA×aA))->Option ((List (aA×aA))⊕(((List (aA×aA))×(List UInt8))×Bool)))(a:Int)(d:List (aA×aA)):Option ((List (aA×aA))⊕(((List (aA×aA))×(List UInt8))×Bool)):=
 (if a<(b.1.length:Int)then(gd (0<=a/\a<(b.1.length:Int))<|(gd (0<=a/\a<(b.1.length:Int))<|((gh fu ((el b.1 a).1)).bind fun(e:(aA×UInt8))=>(if e.2=(0:UInt8)then((ld fu e.1 ((el b.1 a).2)).bind fun(c:((aA×aA)×UInt8))=>(if c.2=(0:UInt8)then(gd ((d.length+([c.1]:List (aA×aA)).length)*32<=140737488355328)<|(gd (bJ (a+(1:Int)))<|(f (a+(1:Int)) (d++([c.1]:List (aA×aA))))))else some (.inr ((([]:List (aA×aA)),([]:List UInt8)),false))))else some (.inr ((([]:List (aA×aA)),([]:List UInt8)),false))))))else some (.inl d))
def kx(fu:Nat)(d:((List (aA×aA))×(List UInt8))):Nat->Int->(List (aA×aA))->Option ((List (aA×aA))⊕(((List (aA×aA))×(List UInt8))×Bool)):=fun c b a=>bM (fun(g:(Int×(List (aA×aA)))->Option ((List (aA×aA))⊕(((List (aA×aA))×(List UInt8))×Bool))) v=>vk fu d (fun b a=>g (b,a)) v.1 v.2) c (b,a)
theorem arp{fu:Nat}{a:((List (aA×aA))×(List UInt8))}{b:Nat}{d:Int}{c:List (aA×aA)}:kx fu a (b+1) d c=vk fu a (kx fu a b) d c:=rfl
def ua(fu:Nat)(a:((List (aA×aA))×(List UInt8))):Option (((List (aA×aA))×(List UInt8))×Bool):=
 (if(64:Int)<(a.1.length:Int)then some ((([]:List (aA×aA)),([]:List UInt8)),false)else(gd ((0+a.2.length)*1<=140737488355328)<|(((kx fu a fu (0:Int) ([]:List (aA×aA)))).bind fun(c:((List (aA×aA))⊕(((List (aA×aA))×(List UInt8))×Bool)))=>eF (fun(b:List (aA×aA))=>some ((b,a.2),true)) (fun q=>some q) c)))
def yz(fu:Nat)(a_0:List UInt8)(a:List UInt8):Option Bool:=
 some (decide (a_0=a))
def uj(fu:Nat)(s_0:List UInt8)(a:List UInt8):Option Bool:=
 (((if(a.length:Int)<=(s_0.length:Int)then(gd (0<=(a.length:Int)/\(a.length:Int)<=(s_0.length:Int))<|((yz fu (kO (aR (a.length:Int)) s_0) a).bind fun(c:Bool)=>some c))else some false)).bind fun(b:Bool)=>some b)
def ud(fu:Nat)(b:List UInt8)(a:List UInt8):Option Bool:=
 (gd (b.length<=1000000000/\2<=a.length/\a.length<=1000000000)<|some (!decide ((bR b a)=(-1:Int))))
def uv(fu:Nat)(c:List ((List (aA×aA))×(List UInt8)))(e:(List ((List (aA×aA))×(List UInt8)))->Int->Option ((List ((List (aA×aA))×(List UInt8)))⊕((List UInt8)×UInt8)))(b:List ((List (aA×aA))×(List UInt8)))(a:Int):Option ((List ((List (aA×aA))×(List UInt8)))⊕((List UInt8)×UInt8)):=
 (if a<(c.length:Int)then(gd (0<=a/\a<(c.length:Int))<|(gd (0<=a/\a<(c.length:Int))<|((ua fu (el c a)).bind fun(d:(((List (aA×aA))×(List UInt8))×Bool))=>(bif (!d.2)then some (.inr (([]:List UInt8),(2:UInt8)))else(gd (0<=a/\a<(b.length:Int))<|(gd (0<=a/\a<(b.length:Int))<|(gd (bJ (a+(1:Int)))<|(e (eA b (aR a) d.1) (a+(1:Int))))))))))else some (.inl b))
def ke(fu:Nat)(d:List ((List (aA×aA))×(List UInt8))):Nat->(List ((List (aA×aA))×(List UInt8)))->Int->Option ((List ((List (aA×aA))×(List UInt8)))⊕((List UInt8)×UInt8)):=fun c b a=>bM (fun(g:((List ((List (aA×aA))×(List UInt8)))×Int)->Option ((List ((List (aA×aA))×(List UInt8)))⊕((List UInt8)×UInt8))) v=>uv fu d (fun b a=>g (b,a)) v.1 v.2) c (b,a)
theorem atp{fu:Nat}{a:List ((List (aA×aA))×(List UInt8))}{b:Nat}{d:List ((List (aA×aA))×(List UInt8))}{c:Int}:ke fu a (b+1) d c=uv fu a (ke fu a b) d c:=rfl
def uw(fu:Nat)(c:aA)(b:List ((List (aA×aA))×(List UInt8)))(g:Int->Option (Unit⊕((List UInt8)×UInt8)))(a:Int):Option (Unit⊕((List UInt8)×UInt8)):=
 (if a<(b.length:Int)then(gd (0<=a/\a<(b.length:Int))<|(gd (0<=a/\a<(b.length:Int))<|((((uj fu ((el b a).2) (([45,45]:aA)++c)).bind fun(f:Bool)=>(bif f then some true else(gd (0<(([45,45]:aA)++c).length/\(([(13:UInt8),(10:UInt8)]:List UInt8).length+(([45,45]:aA)++c).length)*1<=140737488355328)<|((ud fu ((el b a).2) (([(13:UInt8),(10:UInt8)]:List UInt8)++(([45,45]:aA)++c))).bind fun(e:Bool)=>some e))))).bind fun(d:Bool)=>(bif d then some (.inr (([]:List UInt8),(7:UInt8)))else(gd (bJ (a+(1:Int)))<|(g (a+(1:Int))))))))else some (.inl ()))
def kg(fu:Nat)(d:aA)(c:List ((List (aA×aA))×(List UInt8))):Nat->Int->Option (Unit⊕((List UInt8)×UInt8)):=fun b a=>bM (fun(g:Int->Option (Unit⊕((List UInt8)×UInt8))) v=>uw fu d c (fun a=>g a) v) b a
theorem ato{fu:Nat}{b:aA}{a:List ((List (aA×aA))×(List UInt8))}{c:Nat}{d:Int}:kg fu b a (c+1) d=uw fu b a (kg fu b a c) d:=rfl
def uy(fu:Nat)(c:List ((List (aA×aA))×(List UInt8)))(b:Int)(e:(List UInt8)->Int->Option (List UInt8))(d:List UInt8)(a:Int):Option (List UInt8):=
 (if a<(((el c b).1).length:Int)then(gd (0<=a/\a<(((el c b).1).length:Int))<|(gd (0<=a/\a<(((el c b).1).length:Int))<|(gd (((el ((el c b).1) a).1).length+([58,32]:aA).length<=9223372036854775807)<|(gd ((((el ((el c b).1) a).1)++([58,32]:aA)).length+((el ((el c b).1) a).2).length<=9223372036854775807)<|(gd (((((el ((el c b).1) a).1)++([58,32]:aA))++((el ((el c b).1) a).2)).length+([13,10]:aA).length<=9223372036854775807)<|(gd ((d.length+(((((el ((el c b).1) a).1)++([58,32]:aA))++((el ((el c b).1) a).2))++([13,10]:aA)).length)*1<=140737488355328)<|(gd (bJ (a+(1:Int)))<|(e (d++(((((el ((el c b).1) a).1)++([58,32]:aA))++((el ((el c b).1) a).2))++([13,10]:aA))) (a+(1:Int))))))))))else some d)
def kj(fu:Nat)(e:List ((List (aA×aA))×(List UInt8)))(d:Int):Nat->(List UInt8)->Int->Option (List UInt8):=fun c b a=>bM (fun(g:((List UInt8)×Int)->Option (List UInt8)) v=>uy fu e d (fun b a=>g (b,a)) v.1 v.2) c (b,a)
theorem atm{fu:Nat}{b:List ((List (aA×aA))×(List UInt8))}{a:Int}{c:Nat}{e:List UInt8}{d:Int}:kj fu b a (c+1) e d=uy fu b a (kj fu b a c) e d:=rfl
def ux(fu:Nat)(d:aA)(b:List ((List (aA×aA))×(List UInt8)))(h:(List UInt8)->Int->Option ((List UInt8)⊕((List UInt8)×UInt8)))(e:List UInt8)(a:Int):Option ((List UInt8)⊕((List UInt8)×UInt8)):=
 (if a<(b.length:Int)then(((gd (0<=a/\a<(b.length:Int))<|(gd (0<=a/\a<(b.length:Int))<|(gd (([45,45]:aA).length+d.length<=9223372036854775807)<|(gd ((([45,45]:aA)++d).length+([13,10]:aA).length<=9223372036854775807)<|(gd ((e.length+((([45,45]:aA)++d)++([13,10]:aA)).length)*1<=140737488355328)<|(((kj fu b a fu (e++((([45,45]:aA)++d)++([13,10]:aA))) (0:Int))).bind fun(c:List UInt8)=>(gd ((c.length+([13,10]:aA).length)*1<=140737488355328)<|(gd (((c++([13,10]:aA)).length+((el b a).2).length)*1<=140737488355328)<|(gd ((((c++([13,10]:aA))++((el b a).2)).length+([13,10]:aA).length)*1<=140737488355328)<|(if(8192:Int)<((((c++([13,10]:aA))++((el b a).2))++([13,10]:aA)).length:Int)then some (.inr (([]:List UInt8),(4:UInt8)))else some (.inl (((c++([13,10]:aA))++((el b a).2))++([13,10]:aA)))))))))))))).bind fun(g:((List UInt8)⊕((List UInt8)×UInt8)))=>eF (fun(f:List UInt8)=>(gd (bJ (a+(1:Int)))<|(h f (a+(1:Int))))) (fun q=>some (.inr q)) g)else some (.inl e))
def ki(fu:Nat)(e:aA)(d:List ((List (aA×aA))×(List UInt8))):Nat->(List UInt8)->Int->Option ((List UInt8)⊕((List UInt8)×UInt8)):=fun c b a=>bM (fun(g:((List UInt8)×Int)->Option ((List UInt8)⊕((List UInt8)×UInt8))) v=>ux fu e d (fun b a=>g (b,a)) v.1 v.2) c (b,a)
theorem atn{fu:Nat}{b:aA}{a:List ((List (aA×aA))×(List UInt8))}{c:Nat}{e:List UInt8}{d:Int}:ki fu b a (c+1) e d=ux fu b a (ki fu b a c) e d:=rfl
def jq(fu:Nat)(b:List ((List (aA×aA))×(List UInt8)))(a:aA):Option ((List UInt8)×UInt8):=
 ((((gm fu a).bind fun(i:Bool)=>(bif (!i)then some true else(if(b.length:Int)<(1:Int)then some true else some (decide ((8:Int)<(b.length:Int))))))).bind fun(h:Bool)=>(bif h then some (([]:List UInt8),(2:UInt8))else(@gd _ (0<=(b.length:Int)/\(48:Int)*(b.length:Int)<=281474976710656) (sj 48 (b.length:Int))<|(((ke fu b fu (hC (aR (b.length:Int)) (([]:List (aA×aA)),([]:List UInt8))) (0:Int))).bind fun(g:((List ((List (aA×aA))×(List UInt8)))⊕((List UInt8)×UInt8)))=>eF (fun(d:List ((List (aA×aA))×(List UInt8)))=>(gd (([45,45]:aA).length+a.length<=9223372036854775807)<|(((kg fu a d fu (0:Int))).bind fun(f:(Unit⊕((List UInt8)×UInt8)))=>eF (fun(j:Unit)=>(((ki fu a d fu ([]:List UInt8) (0:Int))).bind fun(e:((List UInt8)⊕((List UInt8)×UInt8)))=>eF (fun(c:List UInt8)=>(gd (([45,45]:aA).length+a.length<=9223372036854775807)<|(gd ((([45,45]:aA)++a).length+([45,45,13,10]:aA).length<=9223372036854775807)<|(gd ((c.length+((([45,45]:aA)++a)++([45,45,13,10]:aA)).length)*1<=140737488355328)<|(if(8192:Int)<((c++((([45,45]:aA)++a)++([45,45,13,10]:aA))).length:Int)then some (([]:List UInt8),(4:UInt8))else some (c++((([45,45]:aA)++a)++([45,45,13,10]:aA)),(0:UInt8))))))) (fun q=>some q) e)) (fun q=>some q) f))) (fun q=>some q) g))))
def avq(fu:Nat)(a_0:(aA×aA×Int×aA×(List (aA×aA))×(List UInt8)))(b_3:(aA×aA×Int×aA×(List (aA×aA))×(List UInt8)))(b:Int->Option (Unit⊕Bool))(a:Int):Option (Unit⊕Bool):=
 (if a<(a_0.2.2.2.2.1.length:Int)then(gd (0<=a/\a<(a_0.2.2.2.2.1.length:Int))<|(gd (0<=a/\a<(a_0.2.2.2.2.1.length:Int))<|(gd (0<=a/\a<(b_3.2.2.2.2.1.length:Int))<|(gd (0<=a/\a<(b_3.2.2.2.2.1.length:Int))<|(if(el a_0.2.2.2.2.1 a)=(el b_3.2.2.2.2.1 a)then(gd (bJ (a+(1:Int)))<|(b (a+(1:Int))))else some (.inr false))))))else some (.inl ()))
def zo(fu:Nat)(a_0:(aA×aA×Int×aA×(List (aA×aA))×(List UInt8)))(b_3:(aA×aA×Int×aA×(List (aA×aA))×(List UInt8))):Nat->Int->Option (Unit⊕Bool):=fun b a=>bM (fun(g:Int->Option (Unit⊕Bool)) v=>avq fu a_0 b_3 (fun a=>g a) v) b a
theorem uU{fu:Nat}{a_0:(aA×aA×Int×aA×(List (aA×aA))×(List UInt8))}{b_3:(aA×aA×Int×aA×(List (aA×aA))×(List UInt8))}{a:Nat}{b:Int}:zo fu a_0 b_3 (a+1) b=avq fu a_0 b_3 (zo fu a_0 b_3 a) b:=rfl
def nX(fu:Nat)(a_0:(aA×aA×Int×aA×(List (aA×aA))×(List UInt8)))(b_3:(aA×aA×Int×aA×(List (aA×aA))×(List UInt8))):Option Bool:=
 (((if a_0.1=b_3.1 then(if a_0.2.1=b_3.2.1 then(if a_0.2.2.1=b_3.2.2.1 then(if a_0.2.2.2.1=b_3.2.2.2.1 then(if(a_0.2.2.2.2.1.length:Int)=(b_3.2.2.2.2.1.length:Int)then some (!decide (a_0.2.2.2.2.2=b_3.2.2.2.2.2))else some true)else some true)else some true)else some true)else some true)).bind fun(b:Bool)=>(bif b then some false else(((zo fu a_0 b_3 fu (0:Int))).bind fun(a:(Unit⊕Bool))=>eF (fun(c:Unit)=>some true) (fun q=>some q) a)))
def awp(fu:Nat)(a_0:((List (aA×aA))×(List UInt8)))(b_3:((List (aA×aA))×(List UInt8))):Option Bool:=
 ((nX fu (([]:aA),([]:aA),(0:Int),([]:aA),a_0.1,a_0.2) (([]:aA),([]:aA),(0:Int),([]:aA),b_3.1,b_3.2)).bind fun(a:Bool)=>some a)
def avp(fu:Nat)(a_0:List ((List (aA×aA))×(List UInt8)))(b_3:List ((List (aA×aA))×(List UInt8)))(c:Int->Option (Unit⊕Bool))(a:Int):Option (Unit⊕Bool):=
 (if a<(a_0.length:Int)then(gd (0<=a/\a<(a_0.length:Int))<|(gd (0<=a/\a<(a_0.length:Int))<|(gd (0<=a/\a<(b_3.length:Int))<|(gd (0<=a/\a<(b_3.length:Int))<|((awp fu (el a_0 a) (el b_3 a)).bind fun(b:Bool)=>(bif (!b)then some (.inr false)else(gd (bJ (a+(1:Int)))<|(c (a+(1:Int))))))))))else some (.inl ()))
def zp(fu:Nat)(a_0:List ((List (aA×aA))×(List UInt8)))(b_3:List ((List (aA×aA))×(List UInt8))):Nat->Int->Option (Unit⊕Bool):=fun b a=>bM (fun(g:Int->Option (Unit⊕Bool)) v=>avp fu a_0 b_3 (fun a=>g a) v) b a
theorem uT{fu:Nat}{a_0:List ((List (aA×aA))×(List UInt8))}{b_3:List ((List (aA×aA))×(List UInt8))}{a:Nat}{b:Int}:zp fu a_0 b_3 (a+1) b=avp fu a_0 b_3 (zp fu a_0 b_3 a) b:=rfl
def nW(fu:Nat)(a_0:List ((List (aA×aA))×(List UInt8)))(b_3:List ((List (aA×aA))×(List UInt8))):Option Bool:=
 (if(a_0.length:Int)=(b_3.length:Int)then(((zp fu a_0 b_3 fu (0:Int))).bind fun(a:(Unit⊕Bool))=>eF (fun(b:Unit)=>some true) (fun q=>some q) a)else some false)
open Go.Lib renaming index → bR, itoa → gF
def uz(fu:Nat)(a:List UInt8)(f:Int->Int->(List Int)->Option (List Int))(c:Int)(b:Int)(d:List Int):Option (List Int):=
 (if b<(((a.length-(aR ((bR a ([(45:UInt8),(45:UInt8),(98:UInt8)]:List UInt8))+(3:Int)))):Nat):Int)then(gd (0<=b/\b<((bK (aR ((bR a ([(45:UInt8),(45:UInt8),(98:UInt8)]:List UInt8))+(3:Int))) a).length:Int))<|(gd (0<=b/\b<((bK (aR ((bR a ([(45:UInt8),(45:UInt8),(98:UInt8)]:List UInt8))+(3:Int))) a).length:Int))<|(((if(at_ (bK (aR ((bR a ([(45:UInt8),(45:UInt8),(98:UInt8)]:List UInt8))+(3:Int))) a) b)<(48:UInt8)then some true else(if(57:UInt8)<(at_ (bK (aR ((bR a ([(45:UInt8),(45:UInt8),(98:UInt8)]:List UInt8))+(3:Int))) a) b)then some true else(if(1125899906842624:Int)<c then some true else(if(0:Int)<b then some (decide (c=(0:Int)))else some false))))).bind fun(e:Bool)=>(bif e then some d else(gd (bJ ((10:Int)*c))<|(gd (bJ (((10:Int)*c)+(((at_ (bK (aR ((bR a ([(45:UInt8),(45:UInt8),(98:UInt8)]:List UInt8))+(3:Int))) a) b)-(48:UInt8)).toNat:Int)))<|(gd (bJ (b+(1:Int)))<|(f (((10:Int)*c)+(((at_ (bK (aR ((bR a ([(45:UInt8),(45:UInt8),(98:UInt8)]:List UInt8))+(3:Int))) a) b)-(48:UInt8)).toNat:Int)) (b+(1:Int)) (Sm d (((10:Int)*c)+(((at_ (bK (aR ((bR a ([(45:UInt8),(45:UInt8),(98:UInt8)]:List UInt8))+(3:Int))) a) b)-(48:UInt8)).toNat:Int)))))))))))else some d)
def kl(fu:Nat)(e:List UInt8):Nat->Int->Int->(List Int)->Option (List Int):=fun d c b a=>bM (fun(g:(Int×Int×(List Int))->Option (List Int)) v=>uz fu e (fun c b a=>g (c,b,a)) v.1 v.2.1 v.2.2) d (c,b,a)
theorem atk{fu:Nat}{a:List UInt8}{b:Nat}{e:Int}{d:Int}{c:List Int}:kl fu a (b+1) e d c=uz fu a (kl fu a b) e d c:=rfl
def zz(fu:Nat)(d:(List UInt8)->(List Int)->Option (List Int))(a:List UInt8)(b:List Int):Option (List Int):=
 (gd (a.length<=1000000000/\2<=([(45:UInt8),(45:UInt8),(98:UInt8)]:List UInt8).length/\([(45:UInt8),(45:UInt8),(98:UInt8)]:List UInt8).length<=1000000000)<|(if(0:Int)<=(bR a ([(45:UInt8),(45:UInt8),(98:UInt8)]:List UInt8))then(gd (0<=(bR a ([(45:UInt8),(45:UInt8),(98:UInt8)]:List UInt8))/\(bR a ([(45:UInt8),(45:UInt8),(98:UInt8)]:List UInt8))<=(a.length:Int))<|(gd (bJ ((bR a ([(45:UInt8),(45:UInt8),(98:UInt8)]:List UInt8))+(3:Int)))<|(gd (0<=((bR a ([(45:UInt8),(45:UInt8),(98:UInt8)]:List UInt8))+(3:Int))/\((bR a ([(45:UInt8),(45:UInt8),(98:UInt8)]:List UInt8))+(3:Int))<=(a.length:Int))<|(((kl fu a fu (0:Int) (0:Int) b)).bind fun(c:List Int)=>(d (bK (aR ((bR a ([(45:UInt8),(45:UInt8),(98:UInt8)]:List UInt8))+(3:Int))) a) c)))))else some b))
def ui(fu:Nat):Nat->(List UInt8)->(List Int)->Option (List Int):=fun c b a=>bM (fun(g:((List UInt8)×(List Int))->Option (List Int)) v=>zz fu (fun b a=>g (b,a)) v.1 v.2) c (b,a)
theorem ayh{fu:Nat}{a:Nat}{c:List UInt8}{b:List Int}:ui fu (a+1) c b=zz fu (ui fu a) c b:=rfl
def tq(fu:Nat)(b:List Int)(a:List UInt8):Option (List Int):=
 (ui fu fu a b)
def vz(fu:Nat)(b:List ((List (aA×aA))×(List UInt8)))(e:Int->(List Int)->Option (List Int))(a:Int)(c:List Int):Option (List Int):=
 (if a<(b.length:Int)then(gd (0<=a/\a<(b.length:Int))<|(gd (0<=a/\a<(b.length:Int))<|((tq fu c ((el b a).2)).bind fun(d:List Int)=>(gd (bJ (a+(1:Int)))<|(e (a+(1:Int)) d)))))else some c)
def la(fu:Nat)(d:List ((List (aA×aA))×(List UInt8))):Nat->Int->(List Int)->Option (List Int):=fun c b a=>bM (fun(g:(Int×(List Int))->Option (List Int)) v=>vz fu d (fun b a=>g (b,a)) v.1 v.2) c (b,a)
theorem apv{fu:Nat}{a:List ((List (aA×aA))×(List UInt8))}{b:Nat}{d:Int}{c:List Int}:la fu a (b+1) d c=vz fu a (la fu a b) d c:=rfl
def alt(fu:Nat)(c:List Int)(b:Int->Option Int)(a:Int):Option Int:=
 (if a∈c then(gd (bJ (a+(1:Int)))<|(b (a+(1:Int))))else some a)
def lb(fu:Nat)(c:List Int):Nat->Int->Option Int:=fun b a=>bM (fun(g:Int->Option Int) v=>alt fu c (fun a=>g a) v) b a
theorem aur{fu:Nat}{a:List Int}{b:Nat}{c:Int}:lb fu a (b+1) c=alt fu a (lb fu a b) c:=rfl
def kd(fu:Nat)(c:List ((List (aA×aA))×(List UInt8))):Option aA:=
 (((la fu c fu (0:Int) ([]:List Int))).bind fun(b:List Int)=>(((lb fu b fu (0:Int))).bind fun(a:Int)=>(gd (bJ a)<|(gd (([98]:aA).length+(gF a).length<=9223372036854775807)<|some (([98]:aA)++(gF a))))))
def gb(fu:Nat):Option Bool:=
 ((azk fu ([(45:UInt8),(45:UInt8),(98:UInt8),(13:UInt8),(10:UInt8),(99:UInt8),(58:UInt8),(32:UInt8),(116:UInt8),(101:UInt8),(120:UInt8),(116:UInt8),(47:UInt8),(112:UInt8),(108:UInt8),(97:UInt8),(105:UInt8),(110:UInt8),(13:UInt8),(10:UInt8),(13:UInt8),(10:UInt8),(104:UInt8),(105:UInt8),(13:UInt8),(10:UInt8),(45:UInt8),(45:UInt8),(98:UInt8),(45:UInt8),(45:UInt8)]:List UInt8) ([98]:aA)).bind fun(a:((List ((List (aA×aA))×(List UInt8)))×Int×UInt8))=>((jq fu ([(([(([67,111,110,116,101,110,116,45,84,121,112,101]:aA),([116,101,120,116,47,112,108,97,105,110]:aA))]:List (aA×aA)),([(104:UInt8),(105:UInt8)]:List UInt8)),(([]:List (aA×aA)),([]:List UInt8))]:List ((List (aA×aA))×(List UInt8))) ([120]:aA)).bind fun(b:((List UInt8)×UInt8))=>(((if a.2.2=(0:UInt8)then(if a.2.1=(0:Int)then((nW fu a.1 ([(([(([67,111,110,116,101,110,116,45,84,121,112,101]:aA),([116,101,120,116,47,112,108,97,105,110]:aA))]:List (aA×aA)),([(104:UInt8),(105:UInt8)]:List UInt8))]:List ((List (aA×aA))×(List UInt8)))).bind fun(e:Bool)=>(bif e then(if b.2=(0:UInt8)then(if b.1=([45,45,120,13,10,67,111,110,116,101,110,116,45,84,121,112,101,58,32,116,101,120,116,47,112,108,97,105,110,13,10,13,10,104,105,13,10,45,45,120,13,10,13,10,13,10,45,45,120,45,45,13,10]:aA)then((kd fu a.1).bind fun(d:aA)=>some (decide (d=([98,48]:aA))))else some false)else some false)else some false))else some false)else some false)).bind fun(c:Bool)=>some c)))
def ajq(fu:Nat)(d:List ((List (aA×aA))×(List UInt8)))(b:aA)(c:Int)(e:Int->Option (Unit⊕Bool))(a:Int):Option (Unit⊕Bool):=
 (gd (bJ (a+(2:Int)))<|(gd (bJ ((a+(2:Int))+(b.length:Int)))<|(if((a+(2:Int))+(b.length:Int))<=(((el d c).2).length:Int)then(gd (bJ (a+(2:Int)))<|(gd (bJ ((a+(2:Int))+(b.length:Int)))<|(gd (0<=a/\a<=((a+(2:Int))+(b.length:Int))/\((a+(2:Int))+(b.length:Int))<=(((el d c).2).length:Int))<|(gd (([45,45]:aA).length+b.length<=9223372036854775807)<|(if(sub ((el d c).2) a ((a+(2:Int))+(b.length:Int)))=(([45,45]:aA)++b)then some (.inr false)else(gd (bJ (a+(1:Int)))<|(e (a+(1:Int)))))))))else some (.inl ()))))
def lq(fu:Nat)(e:List ((List (aA×aA))×(List UInt8)))(d:aA)(c:Int):Nat->Int->Option (Unit⊕Bool):=fun b a=>bM (fun(g:Int->Option (Unit⊕Bool)) v=>ajq fu e d c (fun a=>g a) v) b a
theorem asq{fu:Nat}{c:List ((List (aA×aA))×(List UInt8))}{b:aA}{a:Int}{d:Nat}{e:Int}:lq fu c b a (d+1) e=ajq fu c b a (lq fu c b a d) e:=rfl
def wo(fu:Nat)(b:List ((List (aA×aA))×(List UInt8)))(e:aA)(d:Int->Option (Unit⊕Bool))(a:Int):Option (Unit⊕Bool):=
 (if a<(b.length:Int)then(((gd (0<=a/\a<(b.length:Int))<|(gd (0<=a/\a<(b.length:Int))<|(lq fu b e a fu (0:Int))))).bind fun(c:(Unit⊕Bool))=>eF (fun(f:Unit)=>(gd (bJ (a+(1:Int)))<|(d (a+(1:Int))))) (fun q=>some (.inr q)) c)else some (.inl ()))
def ll(fu:Nat)(d:List ((List (aA×aA))×(List UInt8)))(c:aA):Nat->Int->Option (Unit⊕Bool):=fun b a=>bM (fun(g:Int->Option (Unit⊕Bool)) v=>wo fu d c (fun a=>g a) v) b a
theorem anj{fu:Nat}{b:List ((List (aA×aA))×(List UInt8))}{a:aA}{c:Nat}{d:Int}:ll fu b a (c+1) d=wo fu b a (ll fu b a c) d:=rfl
def aps(fu:Nat)(b:List ((List (aA×aA))×(List UInt8))):Option Bool:=
 ((tl fu b).bind fun(e:Bool)=>(bif (!e)then((gb fu).bind fun(d:Bool)=>some d)else((kd fu b).bind fun(a:aA)=>(((if(a.length:Int)<(2:Int)then some true else(if(70:Int)<(a.length:Int)then some true else(gd (0<=(0:Int)/\(0:Int)<(a.length:Int))<|some (!decide ((at_ a (0:Int))=(98:UInt8))))))).bind fun(k:Bool)=>(bif k then some false else(((ll fu b a fu (0:Int))).bind fun(j:(Unit⊕Bool))=>eF (fun(l:Unit)=>((jq fu b a).bind fun(c:((List UInt8)×UInt8))=>(((if c.2=(0:UInt8)then((gb fu).bind fun(i:Bool)=>some i)else(if c.2=(4:UInt8)then((gb fu).bind fun(h:Bool)=>some h)else(if c.2=(2:UInt8)then((gb fu).bind fun(g:Bool)=>some g)else some false)))).bind fun(f:Bool)=>some f))) (fun q=>some q) j))))))
end Go.Wk
set_option maxRecDepth 100000
namespace Go.Wk
open Go.Px
open Int renaming toNat → aR
open List renaming set → eA
open Sum renaming elim → eF
def FU:Nat:=18446744073709551616
theorem fR:FU=18446744073709551616:=rfl
theorem nQ(p:aA)(c:UInt8)(l:aA):at_ (p++c::l) (p.length:Int)=c:=by simp [at_]
theorem Dm(p:aA)(c x:UInt8)(l:aA):eA (p++c::l) (aR (p.length:Int)) x=(p++[x])++l:=aA2
theorem XW(p:aA)(x:UInt8):((p.length:Int)+1)=((p++[x]).length:Int):=aA2
theorem adc(a:Int)(b:0<=a)(h:a<=9223372036854775807):bJ a:=⟨aA0,aA0⟩
theorem CK(fu:Nat)(c:UInt8):aqy fu c=some (dR c):=by show aqy 0 c=_;revert c;exact iG _ aA3
theorem wR(fu:Nat)(c:UInt8):kr fu c=some (gX c):=by show kr 0 c=_;revert c;exact iG _ aA3
theorem Ou(fu:Nat)(c:UInt8):vc fu c=some (Zs c):=by show vc 0 c=_;revert c;exact iG _ aA3
theorem IA{fu:Nat}(s:aA)(g:s.length<=9223372036854775807)(n:Nat):∀(k a:Nat),k+n=s.length->n<a->
  afa fu s a (k:Int)=some ((k+eR dR (s.drop k):Nat):Int):=by
 induction n with
 |zero=>intro k a c d;obtain⟨a,rfl⟩:=cV a;rw [aln,aew,aB aT,YG aT];simp [eR]
 |succ n b=>
  intro k a c d;obtain⟨a,rfl⟩:=cV a;rw [aln,aew,aC aT,bA aT,CK,drop_at s k aT];simp only [aY];cases h:dR (at_ s k)
  ·simp [eR,h]
  ·rw [aL];rw [bA (adc _ aT aT)];have e:((k:Int)+1)=((k+1:Nat):Int):=rfl;rw [e,b (k+1) a aT aT];have f:eR dR (at_ s k::s.drop (k+1))=1+eR dR (s.drop (k+1)):=by simp [eR,h,Df]
   rw [f,Ax]
theorem Ff(s:aA)(a:s.length<=9223372036854775807)(i:Int):ago FU s i=some ((cD dR s i:Nat):Int):=by unfold ago cD;have h:min (max i 0) (s.length:Int)=((Yx i s.length:Nat):Int):=aE5;have:=Ag i s.length;rw [h,IA s a (s.length-Yx i s.length) _ FU aT aA4];rfl
theorem HZ(s:aA):(if s=[]then some false else some (decide (((cD dR s 0:Nat):Int)=(s.length:Int))))=some (mJ s):=by
 have:=ZC s;by_cases h:s=[]
 ·subst h;rfl
 ·rw [aB h];congr 1;by_cases h2:((cD dR s 0:Nat):Int)=(s.length:Int)
  ·rw [aO h2,this.1 ⟨h,h2⟩]
  ·rw [aQ h2];cases h3:mJ s
   ·rfl
   ·exact absurd (this.2 h3).2 h2
theorem U3(s:aA)(a:s.length<=9223372036854775807):MQ FU s=some (mJ s):=by unfold MQ M0;rw [Ff s a];simp only [aY,Option.bind_fun_some];exact HZ s
theorem Qq(p:aA)(c:UInt8)(l:aA):(0:Int)<=(p.length:Int)/\(p.length:Int)<((p++c::l).length:Int):=by rw [cB,cF];omega
theorem SF{fu:Nat}(s:aA)(g:s.length<=9223372036854775807)(l:aA):∀(p:aA) (a:Nat),p.length+l.length=s.length->l.length<a->
  aeb fu s a (p++l) (p.length:Int)=some (p++l.map gX):=by
 induction l with
 |nil=>intro p a d e;obtain⟨a,rfl⟩:=cV a;simp only [iO]at d;rw [aja,adx,aB aT];rfl
 |cons c l f=>intro p a d e;obtain⟨a,rfl⟩:=cV a;simp only [cF]at d e;have b:=Qq p c l;rw [aja,adx,aC aT,bA b,bA b,nQ,wR];simp only [aY];rw [bA b,bA b,bA (adc _ aT aT),Dm,XW p (gX c),f (p++[gX c]) a aB8 aT];simp
theorem SG(s:aA)(a:s.length<=9223372036854775807):xa FU s=some (dS s):=by unfold xa;have:=SF (fu:=FU) s a s [] FU aA2 aA4;simp only [Ka,iO,Int.natCast_zero,Int.cast_ofNat_Int]at this;rw [this];rfl
theorem JN(c:UInt8)(h1:65<=c)(h2:c<=90):c+32=gX c:=by simp [gX,h1,h2]
theorem sC(c:UInt8)(h:¬(65<=c/\c<=90)):gX c=c:=by simp only [gX,aB h]
def pW(c:UInt8):aA:=(zv FU c).getD []
theorem C4:∀c:UInt8,zv FU c=some (pW c):=iG _ aA3
def Iz:Bool->aA->aA
 |_,[]=>[]
 |f,c::l=>(if f then Zs c else gX c)::Iz (c==45) l
theorem LD(fu:Nat)(f:Bool)(c:UInt8):zm fu c f=some (if f then Zs c else gX c,c==45):=by show zm 0 c f=_;revert c;cases f<;>exact iG _ aA3
theorem OY{fu:Nat}(s:aA)(h:s.length<=9223372036854775807)(l:aA):∀(p:aA) (f:Bool) (a:Nat),p.length+l.length=s.length->l.length<a->
  (aen fu s a (p++l) (p.length:Int) f).map (·.1)=some (p++Iz f l):=by
 induction l with
 |nil=>intro p f a d e;obtain⟨a,rfl⟩:=cV a;simp only [iO]at d;rw [ajs,aeh,aB aT];rfl
 |cons c l g=>
  intro p f a d e;obtain⟨a,rfl⟩:=cV a;simp only [cF]at d e;have b:=Qq p c l;rw [ajs,aeh,aC aT,bA b,bA b,nQ,LD,aY,
   bA b,bA b,bA (adc _ aT aT),Dm,XW p (if f then Zs c else gX c),g _ _ a aB8 aT,iI]
  rfl
theorem OZ(s:aA)(a:s.length<=9223372036854775807):∃b,wz FU s true=some (Iz true s,b):=by unfold wz;have:=OY (fu:=FU) s a s [] true FU aA2 aA4;obtain⟨r,h1,h2⟩:=bY.1 this;refine⟨r.2, ?_⟩;rw [show((0:Int))=(([]:aA).length:Int)from rfl,show s=[]++s from rfl];simp only [Ka]at h1 h2⊢;rw [h1,aY,h2]
theorem qe:∀c:UInt8,(gX c==45)=(c==45):=iG _ aA3
def jN(s:aA):aA×UInt8:=
 if mJ s=false\/64<s.length then([],5)
 else if s.length=1/\pW (gX (at_ s 0))≠[]then(pW (gX (at_ s 0)),0)
 else((vb FU (dS s) FU 0).getD (.inl ())).elim (fun _=>(Iz true s,0)) id
def lB:List aA->aA->Option (Unit⊕(aA×UInt8))
 |[],_=>some (.inl ())
 |n::l,y=>if dS n=y then some (.inr (n,0))else lB l y
theorem bac(y:aA):∀l,∃r,lB l y=some r
 |[]=>⟨_,rfl⟩
 |n::l=>by
  unfold lB;split
  ·exact⟨_,rfl⟩
  ·exact bac y l
theorem mY(y:aA):vb FU y FU 0=lB YA y:=by kernel_rfl
theorem Pg(y:aA):∃r,vb FU y FU 0=some r:=by rw [mY];exact bac y _
theorem Yq(s:aA)(f:s.length<=9223372036854775807):gh FU s=some (jN s):=by
 unfold gh jN;rw [U3 s f,aY];obtain⟨r,i⟩:=Pg (dS s);obtain⟨b,k⟩:=OZ s f;cases l:mJ s
 ·rfl
 ·rw [mI,aH,aY];by_cases e:64<s.length
  ·rw [aO aT,aL,aC (Or.inr e)]
  ·have j:¬(true=false\/64<s.length):=by simp [e]
   rw [aQ aT,aH,aB j,SG s f,aY,i,aY,jX];have a:eF (fun(g:Unit)=>((wz FU s true).bind fun(d:(aA×Bool))=>some (d.1,(0:UInt8)))) (fun q=>some q) r=some (eF (fun _=>(Iz true s,0)) id r):=by
    cases r with
    |inl _=>rw [mR,k];rfl
    |inr _=>rfl
   by_cases h1:s.length=1
   ·have c:(s.length:Int)=1:=by omega
    rw [aC c,bA aT,wR,aY,C4,aY];by_cases h2:pW (gX (at_ s 0))=[]
    ·rw [aC h2,aY,mR,aB (fun h=>h.2 h2)];exact a
    ·rw [aB h2,aY,Lk,aC ⟨h1,h2⟩]
   ·have c:¬(s.length:Int)=1:=by omega
    rw [aB c,aY,mR,aB (fun h=>h1 h.1)];exact a
theorem E0{fu:Nat}(c:aA)(d:∀x∈Kd,x.1≠c)(n:Nat):∀(k a:Nat),k+n=31->n<a->apu fu c a (k:Int)=some (.inl ()):=by
 have h:Kd.length=31:=aA3;induction n with
 |zero=>intro k a e f;obtain⟨a,rfl⟩:=cV a;rw [awf,anv,aB aT]
 |succ n b=>
  intro k a e f;obtain⟨a,rfl⟩:=cV a;have g:(el Kd (k:Int)).1≠c:=by
   have:el Kd (k:Int)=Kd[k]'aT:=by simp [el,show k<Kd.length by omega]
   rw [this];exact d _ (vB _)
  rw [awf,anv,aC aT,bA aT,bA aT,aB g,bA (adc _ aT aT)];exact b (k+1) a aT aT
theorem Wu(c:aA)(a:∀x∈Kd,x.1≠c):U8 FU c=some 0:=by unfold U8;have:=E0 (fu:=FU) c a 31 0 FU aT aA4;rw [show((0:Int))=((0:Nat):Int)from rfl,this];rfl
def Wc(c:aA):Bool:=(ga FU c).getD false
theorem B9:∀x∈Kd,ga FU x.1=some (Wc x.1):=aA3
theorem RY(c:aA)(b:∀x∈Kd,x.1≠c):ga FU c=some false:=by
 have a:∀n:aA,(Kd.any fun x=>x.1==n)=true->¬c=n:=fun n h e=>by obtain⟨x,hx,e'⟩:=List.any_eq_true.1 h;exact b x hx ((eq_of_beq e').trans e.symm)
 unfold ga;rw [aB (a _ aA3),aB (a _ aA3),aB (a _ aA3),aB (a _ aA3),aB (a _ aA3),aY,mR,Wu c b];rfl
theorem C0(c:aA):ga FU c=some (Wc c):=by
 by_cases h:∃x∈Kd,x.1=c
 ·obtain⟨x,hx,rfl⟩:=h;exact B9 x hx
 ·have:=RY c fun x hx e=>h ⟨x,hx,e⟩;rw [Wc,this];rfl
open Go.Lib renaming trimLeftS → Tf
theorem qH{α:Type}{p:Prop}[Decidable p]{k:Option α}(h:p:=by first|omega|exact adc _ aT aT|(simp only [Jv,dD,List.length_nil,List.length_singleton];omega)):gd p k=k:=bA h
theorem Ke(k:Nat):(k:Int)+1=((k+1:Nat):Int):=rfl
theorem PW(p:UInt8->Bool)(s:aA)(F:Nat->Int->Option Int)
  (e:∀a,F (a+1) (s.length:Int)=some (s.length:Int))
  (h1:∀a (k:Nat),k<s.length->p (at_ s k)=false->F (a+1) (k:Int)=some (k:Int))
  (h2:∀a (k:Nat),k<s.length->p (at_ s k)=true->F (a+1) (k:Int)=F a ((k:Int)+1)) (n:Nat):
  ∀(k a:Nat),k+n=s.length->n<a->F a (k:Int)=some ((k+eR p (s.drop k):Nat):Int):=by
 induction n with
 |zero=>intro k a c d;obtain⟨a,rfl⟩:=cV a;obtain rfl:k=s.length:=aA0;rw [e,eW];rfl
 |succ n b=>
  intro k a c d;obtain⟨a,rfl⟩:=cV a;rw [drop_at s k aT];cases h:p (at_ s k)
  ·rw [h1 a k aT h];simp [eR,h]
  ·rw [h2 a k aT h,Ke,b (k+1) a aT aT];have f:eR p (at_ s k::s.drop (k+1))=1+eR p (s.drop (k+1)):=by simp [eR,h,Df]
   rw [f,Ax]
theorem LA(i:Int)(n:Nat):min (max i 0) (n:Int)=((Yx i n:Nat):Int):=aE5
theorem ZL(p:UInt8->Bool)(c:UInt8)(l:aA)(h:p c=false):eR p (c::l)=0:=by rw [eR,aB (by simp [h])]
theorem uN(fu:Nat)(c:UInt8):V1 fu c=some (cW c):=by show V1 0 c=_;revert c;exact iG _ aA3
theorem xQ(fu:Nat)(c:UInt8):kz fu c=some (gN c):=by show kz 0 c=_;revert c;exact iG _ aA3
theorem Rx(fu:Nat)(c:UInt8):anu fu c=some (K8 c):=by show anu 0 c=_;revert c;exact iG _ aA3
theorem sJ(s:aA)(c:s.length<=4194304)(i:Int):L8 FU s i=some ((cD cW s i:Nat):Int):=by
 unfold L8 aju;have d:=Ag i s.length;rw [LA,PW cW s (afb FU s) ?_ ?_ ?_ (s.length-Yx i s.length) _ FU aT aA4]
 ·rfl
 ·intro a;rw [agz,xb,aB aT];rfl
 ·intro a k b h;rw [agz,xb,aC aT,qH,uN,h];rfl
 ·intro a k b h;rw [agz,xb,aC aT,qH,uN,h,aY,aY,aL,qH]
def QJ(p:UInt8->Bool)(l:aA):aA:=(l.reverse.dropWhile p).reverse
theorem Vf(p:UInt8->Bool)(c:UInt8)(l:aA):QJ p (c::l)=if QJ p l=[]then(if p c then []else [c])else c::QJ p l:=by
 unfold QJ;rw [List.reverse_cons,List.dropWhile_append];cases h:l.reverse.dropWhile p with
 |nil=>cases b:p c<;>simp [b]
 |cons a t=>simp
theorem Vg(p:UInt8->Bool):∀l:aA,(QJ p l).dropWhile p=QJ p (l.dropWhile p)
 |[]=>rfl
 |c::l=>by
  have b:=Vg p l;cases a:p c
  ·have e:List.dropWhile p (c::l)=c::l:=by simp [a]
   rw [e,Vf];split<;>simp [a]
  ·have e:List.dropWhile p (c::l)=l.dropWhile p:=by simp [a]
   rw [e,<-b,Vf];split
   ·rename_i h;simp [h,a]
   ·simp [a]
theorem Rn(p:UInt8->Bool):∀l:aA,(l.dropWhile p).dropWhile p=l.dropWhile p
 |[]=>rfl
 |c::l=>by
  cases h:p c with
  |true=>rw [List.dropWhile_cons_of_pos h];exact Rn p l
  |false=>rw [List.dropWhile_cons_of_neg (by rw [h];decide),List.dropWhile_cons_of_neg (by rw [h];decide)]
def dO(s:aA):aA:=QJ cW (s.dropWhile cW)
theorem Ah:(fun c=>([32,9]:aA).contains c)=cW:=by funext c;revert c;exact iG _ aA3
theorem OT(s:aA):Lib.trimS s [32,9]=dO s:=by unfold Lib.trimS Tf Lib.trimRightS dO;rw [Ah];exact Vg cW s
theorem kF(s:aA)(a:s.length<=4194304):MP FU s=some (dO s):=by unfold MP;rw [qH,bA aA1,OT]
theorem qK(p:UInt8->Bool):∀l:aA,l.drop (eR p l)=l.dropWhile p
 |[]=>rfl
 |c::l=>by
  have b:=qK p l;cases a:p c
  ·simp [eR,a]
  ·simp [eR,a,b]
theorem ZW(p:UInt8->Bool)(l:aA):(QJ p l).length<=l.length:=by unfold QJ;have:=bau p l.reverse;simpa using this
theorem MN(s:aA):(dO s).length<=s.length:=oA (ZW _ _) (bau _ _)
def fL:aA->Nat->aA->aA×Int×UInt8
 |[],k,_=>([],(k:Int),6)
 |[c],k,acc=>if c=34 then(acc,((k+1:Nat):Int),0)else if c=92 then([],((k+1:Nat):Int),6)else if gN c then([],(k:Int),5)else([],((k+1:Nat):Int),6)
 |c::d::r,k,acc=>
  if c=34 then(acc,((k+1:Nat):Int),0)
  else if c=92 then(if K8 d then fL r (k+2) (acc++[d])else([],(k:Int),5))
  else if gN c then([],(k:Int),5)else fL (d::r) (k+1) (acc++[c])
theorem rR(c:UInt8)(l:aA)(k:Nat)(acc:aA):fL (c::l) k acc=
  if c=34 then(acc,((k+1:Nat):Int),0)
  else if c=92 then(if l=[]then([],((k+1:Nat):Int),6)else if K8 (at_ l 0)then fL (l.drop 1) (k+2) (acc++[at_ l 0])else([],(k:Int),5))
  else if gN c then([],(k:Int),5)else fL l (k+1) (acc++[c]):=by
 cases l with
 |nil=>simp [fL]
 |cons d r=>simp [fL,at_]
def Lg(s:aA)(i:Int):aA×Int×UInt8:=
 if i<0\/(s.length:Int)<i then([],0,2)
 else if i=(s.length:Int)\/at_ s i≠34 then([],i,5)
 else fL (s.drop (i.toNat+1)) (i.toNat+1) []
theorem WO(s:aA)(k:Nat):at_ (s.drop k) 0=at_ s (k:Int):=by simp [at_]
theorem xN(s:aA)(k:Nat):s.drop k=[]↔s.length<=k:=by rw [List.drop_eq_nil_iff]
def Ep(s:aA)(j:((aA×Int)⊕(aA×Int×UInt8))):Option (aA×Int×UInt8):=
 eF (fun(v:(aA×Int))=>(if(s.length:Int)<=v.2 then some (([]:aA),(s.length:Int),(6:UInt8))else(gd (bJ (v.2+(1:Int)))<|some (v.1,v.2+(1:Int),(0:UInt8))))) (fun q=>some q) j
theorem Y0(s:aA)(j:s.length<=4194304)(n:Nat):∀(k a:Nat) (acc:aA),s.length-k<=n->n<a->k<=s.length->acc.length<=k->
  ((apq FU s a acc (k:Int)).bind (Ep s))=some (fL (s.drop k) k acc):=by
 induction n with
 |zero=>intro k a acc c f e g;obtain⟨a,rfl⟩:=cV a;obtain rfl:k=s.length:=aA0;rw [aro,vn,aB aT,eW,aY];unfold Ep;rw [mR,aC aA2];rfl
 |succ n b=>
  intro k a acc c f e g;obtain⟨a,rfl⟩:=cV a;by_cases d:k<s.length
  ·rw [drop_at s k d,rR,aro,vn,aC aT,qH];by_cases h1:at_ s (k:Int)=34
   ·rw [aC h1,aC h1,aY];unfold Ep;rw [mR,aB aA6,bA (adc _ aA6 aA6)];rfl
   ·rw [aB h1,aB h1];by_cases h2:at_ s (k:Int)=92
    ·rw [aC h2,aC h2,qH];by_cases h3:k+1=s.length
     ·rw [aC aT,aC ((xN s (k+1)).2 aT),aY];unfold Ep;rw [Lk,h3]
     ·rw [aB aT,aB (fun h=>h3 (by have:=(xN s (k+1)).1 h;omega)),qH,qH,Rx,aY,WO,Ke];cases i:K8 (at_ s ((k+1:Nat):Int))
      ·rfl
      ·rw [mI,aH,aC rfl,qH,qH,qH,qH,MA,Ke,
        b (k+1+1) a _ aT aT aT aA6]
    ·rw [aB h2,aB h2,xQ,aY];cases i:gN (at_ s (k:Int))
     ·rw [aH,aB aA1,qH,qH,qH,Ke,b (k+1) a _ aT aT aT aA6]
     ·rfl
  ·obtain rfl:k=s.length:=by omega
   rw [aro,vn,aB aT,eW,aY];unfold Ep;rw [mR,aC aA2];rfl
theorem tS(s:aA)(b:s.length<=4194304)(i:Int):jz FU s i=some (Lg s i):=by
 unfold jz Lg;by_cases h1:i<0
 ·rw [aC h1,aC (show i<0\/(s.length:Int)<i from .inl h1)];rfl
 ·rw [aB h1,aY];by_cases h2:(s.length:Int)<i
  ·rw [aO h2,aC (show i<0\/(s.length:Int)<i from .inr h2)];rfl
  ·rw [aQ h2,aH,aB (show¬(i<0\/(s.length:Int)<i)by omega)];by_cases h3:i=(s.length:Int)
   ·rw [aC h3,aC (show i=(s.length:Int)\/at_ s i≠34 from .inl h3)];rfl
   ·rw [aB h3,qH,aY];by_cases a:at_ s i=34
    ·rw [aO a,mI,aH,aB (by simp [h3,a]),qH];obtain⟨k,rfl⟩:∃k:Nat,i=(k:Int):=⟨i.toNat,aA0⟩;exact Y0 s b s.length (k+1) FU [] aT aA4 aT aA2
    ·rw [aQ a,aC (show i=(s.length:Int)\/at_ s i≠34 from .inr a)];rfl
theorem L7{b:Type}(p:UInt8->Bool)(s:aA)(r:b)(F:Nat->Int->Option (Unit⊕b))
  (f:∀a,F (a+1) (s.length:Int)=some (.inl ()))
  (h1:∀a (k:Nat),k<s.length->p (at_ s k)=false->F (a+1) (k:Int)=some (.inr r))
  (h2:∀a (k:Nat),k<s.length->p (at_ s k)=true->F (a+1) (k:Int)=F a ((k:Int)+1)) (n:Nat):
  ∀(k a:Nat),k+n=s.length->n<a->F a (k:Int)=some (if(s.drop k).all p=true then .inl ()else .inr r):=by
 induction n with
 |zero=>intro k a d e;obtain⟨a,rfl⟩:=cV a;obtain rfl:k=s.length:=aA0;rw [f,eW];rfl
 |succ n c=>
  intro k a d e;obtain⟨a,rfl⟩:=cV a;rw [drop_at s k aT,DL];cases h:p (at_ s k)
  ·rw [h1 a k aT h];rfl
  ·rw [h2 a k aT h,Ke,c (k+1) a aT aT];simp
theorem Jh{b:Type}(p:UInt8->Bool)(s:aA)(d:s.length<=4194304)(r:b)(F:Nat->Int->Option (Unit⊕b))
  (c:∀a,F (a+1) (s.length:Int)=some (.inl ()))
  (h1:∀a (k:Nat),k<s.length->p (at_ s k)=false->F (a+1) (k:Int)=some (.inr r))
  (h2:∀a (k:Nat),k<s.length->p (at_ s k)=true->F (a+1) (k:Int)=F a ((k:Int)+1)):F FU 0=some (if s.all p=true then .inl ()else .inr r):=by
 have:=L7 p s r F c h1 h2 s.length 0 FU aT aA4;rw [cQ]at this;exact this
theorem DB(s:aA)(i:s.length<=4194304)(l:aA):∀(p:aA) (a:Nat),p.length+l.length=s.length->l.length<a->
  apw FU s a (p++l) (p.length:Int)=some (p++l.map gX):=by
 induction l with
 |nil=>intro p a e f;obtain⟨a,rfl⟩:=cV a;simp only [iO]at e;rw [awg,anw,aB aT];rfl
 |cons c l d=>
  intro p a e f;obtain⟨a,rfl⟩:=cV a;simp only [cF]at e f;have g:=Qq p c l;have b:=d (p++[gX c]) a aB8 aT;have ok:bJ ((p.length:Int)+1):=adc _ aT aT;rw [awg,anw,aC aT];simp only [bA g,nQ,bA ok,Dm];by_cases h1:65<=c
  ·by_cases h2:c<=90
   ·simp only [aC h1,aO h2,aY,aL,JN c h1 h2];rw [XW p (gX c),b];simp
   ·simp only [aC h1,aQ h2,aY,aH];rw [sC c (fun h=>h2 h.2)]at b;rw [XW p c,show p++c::l=(p++[c])++l by simp,b];simp [sC c (fun h=>h2 h.2)]
  ·simp only [aB h1,aY,aH];rw [sC c (fun h=>h1 h.1)]at b;rw [XW p c,show p++c::l=(p++[c])++l by simp,b];simp [sC c (fun h=>h1 h.1)]
theorem XY(s:aA)(a:s.length<=4194304):LJ FU s=some (dS s):=by unfold LJ;have:=DB s a s [] FU aA2 aA4;simp only [Ka,iO,Int.natCast_zero,Int.cast_ofNat_Int]at this;rw [this];rfl
theorem Ok(c:UInt8):kb FU c=some (sD c):=by revert c;exact iG _ aA3
theorem qX(c:UInt8):MS FU c=some (jO c):=by revert c;exact iG _ aA3
theorem M7:∀c:UInt8,(V0 FU c).map (·.2)=some (iU c):=iG _ aA3
theorem WY(c:UInt8):∃v,V0 FU c=some (v,iU c):=by obtain⟨⟨v,b⟩,h1,h2⟩:=bY.1 (M7 c);exact⟨v,by rw [h1,<-h2]⟩
def psp(y:aA)(l:List aA):List aA:=match l with|x::r=>(y++x)::r|[]=>[y]
theorem tn(c:UInt8)(l:aA):cO c (c::l)=[]::cO c l:=by rw [cO,aC rfl]
theorem jk(c b:UInt8)(l:aA)(h:b≠c):cO c (b::l)=psp [b] (cO c l):=by rw [cO,aB h];cases cO c l<;>rfl
theorem rU(s:aA)(k:Nat):sub s (k:Int) (k:Int)=[]:=by unfold sub;simp
open Go.Lib renaming cut → dA, index → bR, join → dM, trimLeftS → Tf
theorem cnd2{α a:Type}(v:α)(b:Bool)(A B:a):(bif !(v,b).2 then A else B)=bif !b then A else B:=rfl
theorem KL(l:List aA)(x:Int)(c:(el l x).length<=4194304):wh FU l x FU 0=some (if(el l x).all iU=true then .inl ()else .inr ([],false)):=by
 refine Jh iU (el l x) c (([]:List aA),false) (wh FU l x) ?_ ?_ ?_
 ·intro a;rw [anm,wk,aB aT]
 ·intro a k b h;obtain⟨v,h3⟩:=WY (at_ (el l x) k);rw [h]at h3;rw [anm,wk,aC aT,qH,h3];simp only [aY,Cb,aL]
 ·intro a k b h;obtain⟨v,h3⟩:=WY (at_ (el l x) k);rw [h]at h3;rw [anm,wk,aC aT,qH,h3,aY,cnd2,mI,aH,qH]
theorem TZ(s:aA)(m:s.length<=4194304)(n:Nat):∀(k c:Nat),k+n=(cO 58 s).length->n<c->((cO 58 s).take k).all xT=true->
  lj FU s c (GZ (cO 58 s) k) (k:Int)=some (if(cO 58 s).all xT=true then .inl ((cO 58 s).map jL)else .inr ([],false)):=by
 have r:=mX 58 s;induction n with
 |zero=>intro k c p q f;obtain⟨c,rfl⟩:=cV c;obtain rfl:k=(cO 58 s).length:=aA0;rw [Zj]at f;rw [asr,ajt,aB aT,aC f,BR]
 |succ n j=>
  intro k c p q f;obtain⟨c,rfl⟩:=cV c;have b:k<(cO 58 s).length:=aA0;have o:=BQ (cO 58 s) k aT;have a:(0:Int)<=(k:Int)/\(k:Int)<((GZ (cO 58 s) k).length:Int):=aA0;have i:=cz (cO 58 s) k b;have d:(el (cO 58 s) (k:Int)).length<=4194304:=oA (r.2 _ (Rm _ k b)) m;have fail:xT (el (cO 58 s) (k:Int))=false->(cO 58 s).all xT=false:=fun h=>Li xT _ k b h;rw [asr,ajt,aC aT,bA a,bA a,i];by_cases h1:((el (cO 58 s) (k:Int)).length:Int)<1
  ·rw [aC h1,fail (Nl _ (.inl h1))];rfl
  ·rw [aB h1,aY];by_cases h2:4<((el (cO 58 s) (k:Int)).length:Int)
   ·rw [aO h2,fail (Nl _ (.inr h2))];rfl
   ·rw [aQ h2,aH,KL _ _ (by rw [i];exact d),i,aY];cases hx:(el (cO 58 s) (k:Int)).all iU with
    |false=>rw [fail (KG _ hx)];rfl
    |true=>
     have g:=KE _ h1 h2 hx;rw [aC rfl,mR,XY _ d,aY,bA (by simp [dS];omega),bA aA1];have step:∀v,v=jL (el (cO 58 s) (k:Int))->lj FU s c (eA (GZ (cO 58 s) k) (aR (k:Int)) v) ((k:Int)+1)=some (if(cO 58 s).all xT=true then .inl ((cO 58 s).map jL)else .inr ([],false)):=fun v l=>by rw [<-TX (cO 58 s) k v b l,Ke];exact j (k+1) c aT aT (Jg xT _ k b f g)
     have ok:bJ ((k:Int)+1):=adc _ aT aT;by_cases e:Tf (dS (el (cO 58 s) (k:Int))) [48]=[]
     ·rw [aC e,bA a,bA a,aY,mR,bA ok,step [48] (KH _ e)]
     ·rw [aB e,bA a,bA a,aY,mR,bA ok,step (Tf (dS (el (cO 58 s) (k:Int))) [48]) (KJ _ e)]
theorem Xr(s:aA)(c:s.length<=4194304):gu FU s=some (xX s):=by
 have d:=mX 58 s;have:=TZ s c (cO 58 s).length 0 FU aT aA4 rfl;rw [Xo]at this;have a:lj FU s FU (cO 58 s) (0:Int)=_:=this;unfold gu;rw [bA aT,a,aY];cases b:(cO 58 s).all xT with
 |false=>rw [BS s b];rfl
 |true=>rw [Xp s b];rfl
theorem UA(x:aA)(hx:x.length<=4194304):(if x=([]:aA)then some (([]:List aA),true)else((gu FU x).bind fun(a:((List aA)×Bool))=>some (a.1,a.2)))=some (oL x):=by
 by_cases h:x=[]
 ·rw [aC h,KK x h]
 ·rw [aB h,BT x h,Xr x hx];rfl
theorem Hy(x:aA):(oL x).1.length<=x.length+1/\∀y∈(oL x).1,y.length<=4:=by
 unfold oL;split
 ·simp
 ·exact ti x
theorem Rb(x:aA)(h:x.length<=4194304):(dM (oL x).1 [58]).length<=24000000:=by have h1:=Hy x;have h2:=XV [58] 4 (oL x).1 h1.2;simp only [dX]at h2;omega
theorem Zf(s:aA):zk FU s=some (Ak s):=by
 unfold zk Ak;by_cases a:39<s.length
 ·rw [aC aT,aC a]
 ·rw [aB aT,aB a,bA aT];have f:=Rs s [58,58];cases e:(dA s [58,58]).2.2 with
  |false=>have h1:=ti s;rw [Cb,aL,aC rfl,Xr s aT,aY,bA ⟨aA0,SS s aT⟩];cases h2:(xX s).2<;>rfl
  |true=>
   rw [mI,aH,UA _ aT,aY,UA _ aT,aY,aB (show¬(true=false)by decide)];have h:=Hy (dA s [58,58]).1;have g:=Hy (dA s [58,58]).2.1;have d:=Rb (dA s [58,58]).1 aT;have c:=Rb (dA s [58,58]).2.1 aT;cases h1:(oL (dA s [58,58]).1).2
   ·simp
   ·cases h2:(oL (dA s [58,58]).2.1).2
    ·simp
    ·rw [mI,aH,aH,qH,aY,Te,eH];by_cases b:7<((oL (dA s [58,58]).1).1.length:Int)+((oL (dA s [58,58]).2.1).1.length:Int)
     ·rw [aO b,aC rfl];rfl
     ·rw [aQ b,aB aA1,aH,bA ⟨aA0,aA0⟩,bA aC2,bA ⟨aA0,aA0⟩,bA aB6]
theorem index_ge(p:aA):∀l:aA,-1<=bR l p
 |[]=>by unfold bR;split<;>omega
 |b::l=>by
  have:=index_ge p l;rw [bR];split
  ·omega
  ·split
   ·omega
   ·omega
theorem jg(p:aA)(b:UInt8)(l:aA):bR (b::l) p=if p.isPrefixOf (b::l)=true then 0 else if bR l p= -1 then-1 else bR l p+1:=by
 rw [bR];split
 ·rfl
 ·by_cases h:bR l p= -1
  ·rw [aC h,aC aB0]
  ·rw [aB h,aB aB0]
theorem VN(s p:aA):dA s p=if bR s p= -1 then(s,[],false)else(s.take (bR s p).toNat,s.drop ((bR s p).toNat+p.length),true):=by
 unfold dA;have:=index_ge p s;by_cases h:bR s p= -1
 ·rw [aC h,aB aT]
 ·rw [aB h,aC aT]
open Go.Lib renaming index → bR, itoa → gF
open List renaming length → aS
theorem I4(c:UInt8)(h:jO c=true):(c-48).toNat=c.toNat-48/\c.toNat<=57/\48<=c.toNat:=by
 have b:=(nM c).1 h;have a:(48:UInt8)<=c:=by rw [tK];show 48<=c.toNat;omega
 exact⟨by rw [LP _ _ a];rfl,aA0,aA0⟩
theorem RQ(s:aA)(x:Int)(o:(el (cO 46 s) x).length<=15)(l:aA):∀(p:aA) (a:Nat),el (cO 46 s) x=p++l->aS l<a->p.all jO=true->
  vt FU s x a (tH p:Int) (aS p:Int)=some (if l.all jO=true then .inl (tH (el (cO 46 s) x):Int)else .inr false):=by
 induction l with
 |nil=>intro p a h f b;obtain⟨a,rfl⟩:=cV a;rw [kP]at h;rw [aus,alu,aB aF0,h];rfl
 |cons c l i=>
  intro p a h f b;obtain⟨a,rfl⟩:=cV a;have j:=bP aS h;simp only [cB,cF]at j f;have d:(0:Int)<=(aS p:Int)/\(aS p:Int)<((el (cO 46 s) x).length:Int):=aA0;have m:at_ (el (cO 46 s) x) (aS p:Int)=c:=by rw [h,nQ]
  have n:=Ae 14 p aT b;rw [aus,alu,aC d.2,bA d,m,qX,aY,DL];cases g:jO c with
  |false=>rfl
  |true=>
   have k:=I4 c g;rw [mI,aH,k.1,bA (adc _ aT aT),bA d,bA (adc _ aT aT),bA (adc _ aT aT),Kf];have e:(10:Int)*(tH p:Int)+((c.toNat-48:Nat):Int)=(tH (p++[c]):Int):=by rw [yx];omega
   rw [e,XW p c];exact i (p++[c]) a aA8 aT (by rw [mN,b];simpa using g)
theorem B5(s:aA)(h:aS s<=15)(n:Nat):∀(k a:Nat),k+n=(cO 46 s).length->n<a->
  vr FU s a (k:Int)=some (if((cO 46 s).drop k).all jF=true then .inl ()else .inr false):=by
 have m:=mX 46 s;induction n with
 |zero=>intro k a i j;obtain⟨a,rfl⟩:=cV a;obtain rfl:k=(cO 46 s).length:=aA0;rw [aut,alv,aB aT,eW];rfl
 |succ n g=>
  intro k a i j;obtain⟨a,rfl⟩:=cV a;have b:k<(cO 46 s).length:=aA0;have c:(0:Int)<=(k:Int)/\(k:Int)<((cO 46 s).length:Int):=aA0;have d:(el (cO 46 s) (k:Int)).length<=15:=oA (m.2 _ (Rm _ k b)) h;have l:(cO 46 s).drop k=el (cO 46 s) (k:Int)::(cO 46 s).drop (k+1):=by rw [Ih _ _ b,dG b]
  have h1:=RQ s (k:Int) d (el (cO 46 s) (k:Int)) [] FU aA2 aA4 rfl;have f:vt FU s (k:Int) FU (0:Int) (0:Int)=_:=h1;rw [aut,alv,aC aT,bA c,bA c,f,aY,l,DL];cases hx:(el (cO 46 s) (k:Int)).all jO with
  |false=>rw [Mj _ hx];rfl
  |true=>
   have o:=Ae 15 _ d hx;rw [aC rfl,mR];by_cases h2:el (cO 46 s) (k:Int)=[]
   ·rw [aC h2,lF _ (.inl (.inl h2))];rfl
   ·rw [aB h2];by_cases h3:255<(tH (el (cO 46 s) (k:Int)):Int)
    ·rw [aC h3,lF _ (.inl (.inr h3))];rfl
    ·rw [aB h3,bA (adc _ aT aT),aY];by_cases e:el (cO 46 s) (k:Int)=gF (tH (el (cO 46 s) (k:Int)):Int)
     ·rw [aO e,mI,aH,aY,mR,bA (adc _ aT aT),JF _ hx h2 h3 e,Kf];exact g (k+1) a aT aT
     ·rw [aQ e,lF _ (.inr e)];rfl
theorem Sw(s:aA):zt FU s=some (jG s):=by
 unfold zt;by_cases h:15<(aS s:Int)
 ·rw [aC h,BB s h]
 ·have c:=mX 46 s;have:=B5 s aT (cO 46 s).length 0 FU aT aA4;rw [cQ]at this;have a:vr FU s FU (0:Int)=_:=this;rw [aB h,bA aT,a,aY];cases b:(cO 46 s).all jF with
  |false=>rw [RR s b];rfl
  |true=>rw [JG s h b];rfl
def nI(c:UInt8):Bool:=sD c||jO c||c==45
def Sl(x:aA):Bool:=decide (1<=aS x)&&decide (aS x<=63)&& !(at_ x 0==45)&& !(at_ x ((aS x:Int)-1)==45)&&x.all nI
def Ck(x:aA):Bool:=x.any (fun c=> !jO c)
def WI(x:aA):Bool:=decide ((aS x:Int)<1)||decide (63<(aS x:Int))||(at_ x 0==45)||(at_ x ((aS x:Int)-1)==45)
theorem D9(x:aA):Sl x=(!WI x&&x.all nI):=by
 unfold Sl WI;have b:decide (1<=aS x)= !decide ((aS x:Int)<1):=by rw [fY];simp;omega
 have a:decide (aS x<=63)= !decide (63<(aS x:Int)):=by rw [fY];simp;omega
 rw [b,a];simp [Bool.not_or,Bool.and_assoc]
theorem K6(x:aA)(hx:aS x<=4194304):(if(aS x:Int)<(1:Int)then some true else(if(63:Int)<(aS x:Int)then some true else(gd (0<=(0:Int)/\(0:Int)<(aS x:Int))<|(if(at_ x (0:Int))=(45:UInt8)then some true else(gd (bJ ((aS x:Int)-(1:Int)))<|(gd (0<=((aS x:Int)-(1:Int))/\((aS x:Int)-(1:Int))<(aS x:Int))<|some (decide ((at_ x ((aS x:Int)-(1:Int)))=(45:UInt8)))))))))=some (WI x):=by
 unfold WI;by_cases h1:(aS x:Int)<1
 ·rw [aC h1,aO h1];rfl
 ·rw [aB h1,aQ h1,eH];by_cases h2:63<(aS x:Int)
  ·rw [aC h2,aO h2];rfl
  ·rw [aB h2,aQ h2,eH,bA aT];by_cases h3:at_ x 0=45
   ·rw [aC h3,show(at_ x 0==45)=true by simpa using h3];rfl
   ·rw [aB h3,show(at_ x 0==45)=false by simpa using h3,eH,bA (adc _ aT aT),bA aT];rfl
theorem M6(c:UInt8):((kb FU c).bind fun(b:Bool)=>(bif (!b)then((MS FU c).bind fun(a:Bool)=>(bif (!a)then some (!decide (c=(45:UInt8)))else some false))else some false))=some (!nI c):=by
 rw [Ok,qX];unfold nI;by_cases h:c=45
 ·subst h;rfl
 ·rw [show(c==45)=false by simpa using h,aQ h];cases sD c<;>cases jO c<;>rfl
theorem JI(x:aA)(hx:aS x<=4194304)(r:Bool)(l:aA):∀(p:aA) (a:Nat) (w:Bool),x=p++l->aS l<a->
  (l.all nI=true->M5 FU x r a (aS p:Int) w=some (0,w||Ck l,r))/\(l.all nI=false->∃b,M5 FU x r a (aS p:Int) w=some (1,b,false)):=by
 induction l with
 |nil=>intro p a w h g;obtain⟨a,rfl⟩:=cV a;rw [kP]at h;refine⟨fun _=> ?_,fun h=>by cases h⟩;rw [anl,wm,aB aF0];simp [Ck]
 |cons c l j=>
  intro p a w h g;obtain⟨a,rfl⟩:=cV a;have k:=bP aS h;simp only [cB,cF]at k g;have i:(0:Int)<=(aS p:Int)/\(aS p:Int)<(aS x:Int):=aA0;have m:at_ x (aS p:Int)=c:=by rw [h,nQ]
  have ok:bJ ((aS p:Int)+1):=adc _ aT aT;have d:=j (p++[c]) a (w|| !jO c) aA8 aT;rw [<-XW p c]at d;rw [anl,wm,aC i.2,bA i,m,M6,aY,DL];cases n:nI c with
  |false=>exact⟨fun h=>by simp at h,fun _=>⟨w,by rw [Cb,aL]⟩⟩
  |true=>
   rw [mI,aH,Kf];have e:(bif w then gd (bJ ((aS p:Int)+1)) (M5 FU x r a ((aS p:Int)+1) true)else(MS FU c).bind fun(f:Bool)=>gd (bJ ((aS p:Int)+1)) (M5 FU x r a ((aS p:Int)+1) (!f)))=M5 FU x r a ((aS p:Int)+1) (w|| !jO c):=by
    cases w with
    |true=>rw [aL,bA ok,Bool.true_or]
    |false=>rw [aH,qX,aY,bA ok,eH]
   rw [e];refine⟨fun h=> ?_,fun h=>d.2 h⟩;rw [d.1 h];simp [Ck,Bool.or_assoc]
theorem Gj(x:aA)(hx:aS x<=4194304)(w r:Bool):(Sl x=true->M2 FU x w r=some (0,w||Ck x,r))/\(Sl x=false->∃b,M2 FU x w r=some (1,b,false)):=by
 have a:=JI x hx r x [] FU w aA2 aA4;unfold M2;rw [K6 x hx,aY,D9];cases c:WI x with
 |true=>exact⟨fun h=>by simp at h,fun _=>⟨w,by rw [aL]⟩⟩
 |false=>rw [aH,Cb,Kf];exact a
theorem cm(c:UInt8)(f:aA):(bR f [c]= -1/\cO c f=[f])\/(0<=bR f [c]/\bR f [c]<(aS f:Int)/\cO c f=f.take (bR f [c]).toNat::cO c (f.drop ((bR f [c]).toNat+1))):=by
 induction f with
 |nil=>exact .inl ⟨rfl,rfl⟩
 |cons b l a=>
  rw [jg];have e:([c]:aA).isPrefixOf (b::l)=(c==b):=aF6;rw [e];by_cases h:b=c
  ·subst h;right;rw [aC aA2,tn];refine⟨oP _,by simp only [cF];omega,aA2⟩
  ·rw [aB (by simpa using fun x=>h x.symm),jk c b l h];rcases a with⟨h1,h2⟩|⟨h1,h2,h3⟩
   ·left;rw [aC h1,h2];exact⟨rfl,rfl⟩
   ·right;rw [aB aT,h3];have d:(bR l [c]+1).toNat=(bR l [c]).toNat+1:=aA0;refine⟨aA0,by simp only [cF];omega, ?_⟩;rw [d];simp [psp]
theorem Z5(n:Nat):∀(f:aA) (d:Nat) (w r:Bool),aS f<=n->n<d->n<=4194304->
  ∃w' f' k,((xe FU [46] 0 d w r f).bind fun(g:((Bool×Bool×aA)⊕(Bool×Bool×aA×Nat)))=>eF (fun(c:(Bool×Bool×aA))=>((M2 FU c.2.2 c.1 c.2.1).bind fun(a:(Nat×Bool×Bool))=>(if a.1=0 then some (a.2.1,a.2.2,c.2.2,0)else some (a.2.1,a.2.2,c.2.2,a.1)))) (fun q=>some q) g)=some (w',(if(cO 46 f).all Sl=true then r else false),f',k)/\
   (k=if(cO 46 f).all Sl=true then 0 else 1)/\((cO 46 f).all Sl=true->w'=(w||(cO 46 f).any Ck)):=by
 induction n with
 |zero=>intro f d w r s p m;obtain⟨d,rfl⟩:=cV d;obtain rfl:f=[]:=Jz aT;have e:bR ([]:aA) [46]= -1:=rfl;rw [aeo,xf,bA aA2,e,aC aA1,aY,mR];obtain⟨b,l⟩:=(Gj [] aA2 w r).2 rfl;simp only;rw [l,aY,aB aA2];exact⟨b,[],1,rfl,rfl,fun h=>absurd h aA1⟩
 |succ n o=>
  intro f d w r s p m;obtain⟨d,rfl⟩:=cV d;rw [aeo,xf,bA aT];rcases cm 46 f with⟨h1,h2⟩|⟨h1,h2,h3⟩
  ·rw [aC aT,aY,mR,h2,DL,List.all_nil,Bool.and_true];simp only;have i:=Gj f aT w r;cases j:Sl f with
   |true=>rw [i.1 j,aY,aC rfl];exact⟨_,_,0,rfl,rfl,fun _=>by simp⟩
   |false=>obtain⟨b,l⟩:=i.2 j;rw [l,aY,aB aA2];exact⟨b,_,1,rfl,rfl,fun h=>by cases h⟩
  ·have y:bR f [46]+0=bR f [46]:=by omega
   have x:(bR f [46]+((([46]:aA).length:Nat):Int)).toNat=(bR f [46]).toNat+1:=aB1;rw [aB aT,y,bA (adc _ aT aT),bA aT,h3,DL];have i:=Gj (f.take (bR f [46]).toNat) aA7 w r;cases j:Sl (f.take (bR f [46]).toNat)with
   |true=>rw [i.1 j,aY,aC rfl,bA (adc _ aB1 aB1),bA aB1,x,Kf];obtain⟨w',f',k,v,u,t⟩:=o (f.drop ((bR f [46]).toNat+1)) d (w||Ck (f.take (bR f [46]).toNat)) r aC6 aT aT;exact⟨w',f',k,v,u,fun h=>by rw [t h,eG,Bool.or_assoc]⟩
   |false=>obtain⟨b,l⟩:=i.2 j;rw [l,aY,aB aA2,aY];exact⟨b,_,1,rfl,rfl,fun h=>by cases h⟩
def jH(s:aA):Bool:=decide (1<=aS s)&&decide (aS s<=255)&&(cO 46 s).all Sl&&(cO 46 s).any Ck
theorem DA(s:aA)(c:aS s<=4194304):jx FU s=some (jH s):=by
 unfold jx jH;by_cases h1:(aS s:Int)<1
 ·rw [aC h1,show decide (1<=aS s)=false by(rw [cH];omega)];rfl
 ·rw [aB h1,show decide (1<=aS s)=true by(rw [bE];omega),aY,Kf];by_cases h2:255<(aS s:Int)
  ·rw [aO h2,show decide (aS s<=255)=false by(rw [cH];omega)];rfl
  ·rw [aQ h2,aH,show decide (aS s<=255)=true by(rw [bE];omega),Kf];obtain⟨w',f',k,e,b,d⟩:=Z5 s.length s FU false false (eJ _) aA4 c;unfold aqw aqv;rw [aY,aY];unfold adz;rw [aB aA2,aY,mR,e,aY];simp only;cases a:(cO 46 s).all Sl with
   |true=>rw [b,a,aC rfl,aC rfl,d a];simp
   |false=>rw [a]at b;rw [b];simp
open Go.Lib renaming cut → dA, itoa → gF
open UInt8 renaming ofNat → rO
def wM(x:aA):Bool:=decide (1<=x.length)&&decide (x.length<=3)&& !(decide (1<x.length)&&(at_ x 0==48))&&x.all jO&&decide (tH x<=255)
def dg(n:Fin 10):UInt8:=rO (48+n.val)
theorem Nw:∀c:UInt8,jO c=true->∃n:Fin 10,c=dg n:=iG _ aA3
theorem oct1:∀a:Fin 10,jF [dg a]=wM [dg a]:=aA3
theorem oct2:∀a b:Fin 10,jF [dg a,dg b]=wM [dg a,dg b]:=aA3
theorem oct3:∀a b c:Fin 10,jF [dg a,dg b,dg c]=wM [dg a,dg b,dg c]:=aA3
theorem E6:∀n:Fin 256,(gF (n.val:Int)).length<=3:=aA3
theorem Qn(x:aA):jF x=wM x:=by
 cases f:x.all jO with
 |false=>rw [Mj x f,wM,f];simp
 |true=>
  have e:=bH.1 f
  match x,f,e with
  |[],_,_=>rfl
  |[a],_,e=>obtain⟨n,rfl⟩:=Nw a (e a aA2);exact oct1 n
  |[a,b],_,e=>obtain⟨n,rfl⟩:=Nw a (e a aA2);obtain⟨m,rfl⟩:=Nw b (e b aA2);exact oct2 n m
  |[a,b,c],_,e=>obtain⟨n,rfl⟩:=Nw a (e a aA2);obtain⟨m,rfl⟩:=Nw b (e b aA2);obtain⟨k,rfl⟩:=Nw c (e c aA2);exact oct3 n m k
  |a::b::c::d::l,f,_=>
   have h1:wM (a::b::c::d::l)=false:=by unfold wM;rw [show decide ((a::b::c::d::l).length<=3)=false by(rw [cH];simp only [cF];omega)];simp
   rw [h1];by_cases g:tH (a::b::c::d::l)<=255
   ·refine lF _ (.inr fun h=> ?_);have:=E6 ⟨tH (a::b::c::d::l),aA0⟩;simp only at this;rw [<-h]at this;simp only [cF]at this;omega
   ·exact lF _ (.inl (.inr aT))
def Cq(s:aA):Bool:=decide (2<=s.length)&&(at_ s 0==91)&&(at_ s ((s.length:Int)-1)==93)
def gA(s:aA):aA×Bool:=
 if Cq s=true then(if(Ak (sub s 1 ((s.length:Int)-1))).2=true then([91]++(Ak (sub s 1 ((s.length:Int)-1))).1++[93],true)else([],false))
 else if jG s=true then(s,true)else if jH s=true then(dS s,true)else([],false)
theorem fa(s:aA)(a:s.length<=4194304):(if(2:Int)<=(s.length:Int)then(gd (0<=(0:Int)/\(0:Int)<(s.length:Int))<|(if(at_ s (0:Int))=(91:UInt8)then(gd (bJ ((s.length:Int)-(1:Int)))<|(gd (0<=((s.length:Int)-(1:Int))/\((s.length:Int)-(1:Int))<(s.length:Int))<|some (decide ((at_ s ((s.length:Int)-(1:Int)))=(93:UInt8)))))else some false))else some false)=some (Cq s):=by
 unfold Cq;by_cases h1:(2:Int)<=(s.length:Int)
 ·rw [aC h1,show decide (2<=s.length)=true by(rw [bE];omega),Kf,bA aT];by_cases h2:at_ s 0=91
  ·rw [aC h2,show(at_ s 0==91)=true by simpa using h2,Kf,bA (adc _ aT aT),bA aT];rfl
  ·rw [aB h2,show(at_ s 0==91)=false by simpa using h2];rfl
 ·rw [aB h1,show decide (2<=s.length)=false by(rw [cH];omega)];rfl
theorem J8{s:aA}(h:Cq s=true):2<=s.length:=by unfold Cq at h;simp only [mH,bE]at h;exact h.1.1
theorem Nk(s:aA):(Ak s).1.length<=60000000:=by
 unfold Ak;by_cases a:39<s.length
 ·rw [aC a];simp
 ·rw [aB a];have d:=Rs s [58,58];have c:=Rb (dA s [58,58]).1 aT;have b:=Rb (dA s [58,58]).2.1 aT;split
  ·have h1:=ti s;have h2:=XV [58] 4 (xX s).1 h1.2;simp only [dX]at h2⊢;omega
  ·split
   ·simp
   ·simp only [cB,cF,iO];omega
theorem jb(s:aA)(a:s.length<=4194304):YB FU s=some (gA s):=by
 unfold YB gA;rw [fa s a,aY];cases b:Cq s with
 |true=>
  have h2:=J8 b;have e:=Nk (sub s 1 ((s.length:Int)-1));rw [aL,bA (adc _ aT aT),bA aT,Zf,aY,aC rfl];cases f:(Ak (sub s 1 ((s.length:Int)-1))).2 with
  |false=>rfl
  |true=>rw [mI,aH,bA aB1,bA aA9,aC rfl]
 |false=>
  rw [aH,Sw,aY,aB (show¬(false=true)by decide)];cases c:jG s with
  |true=>rfl
  |false=>
   rw [aH,DA s a,aY,aB (show¬(false=true)by decide)];cases d:jH s with
   |true=>rw [aL,XY s a];rfl
   |false=>rfl
theorem kG(c:UInt8)(p:UInt8->Bool):∀s:aA,(∀x∈cO c s,x.all p=true)->∀b∈s,p b=true\/b=c
 |[],_,b,e=>by simp at e
 |d::l,h,b,e=>by
  by_cases g:d=c
  ·subst g;rw [tn]at h;rcases aN.1 e with rfl|e
   ·exact .inr rfl
   ·exact kG d p l (fun x hx=>h x (fU _ hx)) b e
  ·rw [jk c d l g]at h;cases hx:cO c l with
   |nil=>exact absurd hx (PM c l)
   |cons y r=>
    rw [hx]at h;have f:=h ([d]++y) iH;rw [mN,mH]at f;rcases aN.1 e with rfl|e
    ·left;simpa using f.1
    ·refine kG c p l (fun x a=> ?_) b e;rw [hx]at a;rcases aN.1 a with rfl|a
     ·exact f.2
     ·exact h x (fU _ a)
theorem zJ(x:aA)(h:wM x=true):1<=x.length/\x.length<=3/\x.all jO=true:=by unfold wM at h;simp only [mH,bE]at h;exact⟨h.1.1.1.1,h.1.1.1.2,h.1.2⟩
theorem at_mem(x:aA)(k:Nat)(h:k<x.length):at_ x (k:Int)∈x:=by simp [at_,h]
theorem Mu(s:aA)(h:∀b∈s,gX b=b):dS s=s:=by
 unfold dS
 conv=>rhs;rw [<-List.map_id s]
 exact YE fun b a=>h b a
theorem Ni(s:aA):(gA s).1.length<=60000002+s.length:=by
 have:=Nk (sub s 1 ((s.length:Int)-1));unfold gA;split
 ·split
  ·simp only [cB,dX];omega
  ·simp
 ·split
  ·show s.length<=_;omega
  ·split
   ·simp [dS]
   ·simp
open Go.Lib renaming indexAny → yL
theorem Dl(n:Nat):∀(l:aA) (k:Nat) (acc:aA),l.length<=n->(fL l k acc).1.length<=acc.length+l.length/\((fL l k acc).2.2=0->(k:Int)+1<=(fL l k acc).2.1/\(fL l k acc).2.1<=((k+l.length:Nat):Int)):=by
 induction n with
 |zero=>intro l k acc d;obtain rfl:l=[]:=Jz aT;exact⟨by simp [fL],fun h=>absurd h (show¬((6:UInt8)=0)by decide)⟩
 |succ n a=>
  intro l k acc d;cases l with
  |nil=>exact⟨by simp [fL],fun h=>absurd h (show¬((6:UInt8)=0)by decide)⟩
  |cons c l=>
   simp only [cF]at d;rw [rR];by_cases h1:c=34
   ·rw [aC h1];exact⟨aA2,fun _=>⟨aA2,by simp only [cF];omega⟩⟩
   ·rw [aB h1];by_cases h2:c=92
    ·rw [aC h2];by_cases h3:l=[]
     ·rw [aC h3];exact⟨aA2,fun h=>absurd h (show¬((6:UInt8)=0)by decide)⟩
     ·rw [aB h3];have b:0<l.length:=dW.2 h3;cases e:K8 (at_ l 0)with
      |true=>rw [aC rfl];have:=a (l.drop 1) (k+2) (acc++[at_ l 0]) aC6;rw [cB,dX,jR]at this;exact⟨by simp only [cF];omega,fun h=>⟨by have:=(this.2 h).1;omega,by have:=(this.2 h).2;simp only [cF];omega⟩⟩
      |false=>rw [aB aA1];exact⟨aA2,fun h=>absurd h (show¬((5:UInt8)=0)by decide)⟩
    ·rw [aB h2];cases e:gN c with
     |true=>rw [aC rfl];exact⟨aA2,fun h=>absurd h (show¬((5:UInt8)=0)by decide)⟩
     |false=>rw [aB aA1];have:=a l (k+1) (acc++[c]) aT;rw [cB,dX]at this;exact⟨by simp only [cF];omega,fun h=>⟨by have:=(this.2 h).1;omega,by have:=(this.2 h).2;simp only [cF];omega⟩⟩
theorem vL(s:aA)(k:Nat)(a:at_ s (k:Int)=34)(b:k<s.length):(Lg s (k:Int)).1.length<=s.length/\((Lg s (k:Int)).2.2=0->(k:Int)+2<=(Lg s (k:Int)).2.1/\(Lg s (k:Int)).2.1<=(s.length:Int)):=by unfold Lg;rw [aB aT,aB (by rintro(h|h);omega;exact h a)];have e:((k:Int).toNat+1)=k+1:=aA0;rw [e];have:=Dl _ (s.drop (k+1)) (k+1) [] (eJ _);rw [jR,iO]at this;exact⟨aA0,fun h=>⟨by have:=(this.2 h).1;omega,by have:=(this.2 h).2;omega⟩⟩
theorem U4(s:aA)(a:s.length<=4194304)(i:Int):YC FU (s,i)=some (s,((cD cW s i:Nat):Int)):=by unfold YC;simp only;rw [sJ s a];rfl
theorem lX(s:aA)(i:Int):V3 FU (s,i)=some (decide ((s.length:Int)<=i)):=rfl
def iB(s:aA)(k:Nat)(b:UInt8):Bool:=decide (k<s.length)&&(at_ s (k:Int)==b)
theorem Zu(s:aA)(k:Nat)(b:UInt8):Cv FU (s,(k:Int)) b=some (iB s k b):=by
 unfold Cv iB;rw [lX,aY];by_cases h:k<s.length
 ·rw [aQ (show¬(s.length:Int)<=(k:Int)by omega),Cb,aL,bA (by simp only;omega),aO h];rfl
 ·rw [aO (show(s.length:Int)<=(k:Int)by omega),aQ h];rfl
theorem mW(s:aA)(a:s.length<=4194304)(i:Int):M0 FU s i=some ((cD dR s i:Nat):Int):=by unfold M0;rw [Ff s aT];rfl
theorem Sv(p:UInt8->Bool)(s:aA)(k:Nat)(h:k<=s.length):k<=cD p s (k:Int):=by unfold cD;rw [baw k _ h];omega
theorem rT(s:aA)(a:s.length<=4194304)(k:Nat)(b:k<=s.length):lf FU (s,(k:Int))=some (sub s (k:Int) ((cD dR s (k:Int):Nat):Int),(s,((cD dR s (k:Int):Nat):Int))):=by have h1:=Sv dR s k b;have h2:=qW dR s (k:Int);unfold lf;simp only;rw [mW s a,aY,bA aT]
theorem jl(s:aA)(a b:Nat)(h:b<=s.length)(d:a<=b):sub s (a:Int) (b:Int)=[]↔b=a:=by
 have:=CQ s (a:Int) (b:Int);constructor
 ·intro c;rw [c]at this;simp at this;omega
 ·intro c;apply Jz;rw [this];omega
theorem Ph(c:UInt8)(l:aA):(if(0:Int)<=dJ (·==c) l then dJ (·==c) l else(l.length:Int))=(eR (fun b=> !(b==c)) l:Int):=by
 rcases K9 (·==c) l with⟨h1,h2⟩|⟨h1,h2,h3⟩
 ·rw [aB aT,h2]
 ·rw [aC h1,h3]
theorem KY(c:UInt8):(fun b=>([c]:aA).contains b)=(·==c):=by funext b;simp [List.contains_cons];rfl
theorem HW(s:aA)(g:s.length<=4194304)(k:Nat)(i:k<=s.length)(c:UInt8)(f:c.toNat<128):Sx FU s (k:Int) [c]=some ((k+eR (fun b=> !(b==c)) (s.drop k):Nat):Int):=by
 have e:((k:Nat):Int).toNat=k:=aA0;have j:(s.drop k).length=s.length-k:=jR;have h1:=Ph c (s.drop k);have d:yL (s.drop k) [c]=dJ (·==c) (s.drop k):=by rw [jn,KY]
 have a:=K9 (·==c) (s.drop k);unfold Sx;rw [bA aT,e,bA ⟨aA0,aA2,aD2⟩,d];by_cases h:(0:Int)<=dJ (·==c) (s.drop k)
 ·rw [aC h]at h1⊢;rw [bA (adc _ aT aT),h1];rfl
 ·rw [aB h]at h1⊢;congr 1;omega
def pD(s:aA)(k:Nat):aA×Int×UInt8:=
 if iB s k 34=true then Lg s (k:Int)
 else if iB s k 91=true then
  (if(gA (sub s (k:Int) (min ((k+eR (fun b=> !(b==93)) (s.drop k):Nat)+1:Int) (s.length:Int)))).2=true then
   ((gA (sub s (k:Int) (min ((k+eR (fun b=> !(b==93)) (s.drop k):Nat)+1:Int) (s.length:Int)))).1,((k+eR (fun b=> !(b==93)) (s.drop k):Nat):Int)+1,0)else([],(k:Int),5))
 else if cD dR s (k:Int)=k then([],(k:Int),5)else(sub s (k:Int) ((cD dR s (k:Int):Nat):Int),((cD dR s (k:Int):Nat):Int),0)
theorem Su{s:aA}{k:Nat}{b:UInt8}(h:iB s k b=true):k<s.length/\at_ s (k:Int)=b:=by unfold iB at h;simp only [mH,bE,beq_iff_eq]at h;exact h
theorem YW(s:aA)(e:s.length<=4194304)(k:Nat)(c:k<=s.length):(pD s k).1.length<=90000000/\((pD s k).2.2=0->(k:Int)+1<=(pD s k).2.1/\(pD s k).2.1<=(s.length:Int)+1):=by
 unfold pD;have h1:=Sv dR s k c;have h2:=qW dR s (k:Int);have a:=HD (fun b=> !(b==93)) (s.drop k);rw [jR]at a;split
 ·rename_i h;have:=vL s k (Su h).2 (Su h).1;exact⟨aA0,fun h=>⟨by have:=(this.2 h).1;omega,by have:=(this.2 h).2;omega⟩⟩
 ·split
  ·split
   ·have d:=Ni (sub s (k:Int) (min ((k+eR (fun b=> !(b==93)) (s.drop k):Nat)+1:Int) (s.length:Int)));rw [CQ]at d;exact⟨by simp only;omega,fun _=>⟨by simp only;omega,by simp only;omega⟩⟩
   ·exact⟨aA2,fun h=>absurd h (show¬((5:UInt8)=0)by decide)⟩
  ·split
   ·exact⟨aA2,fun h=>absurd h (show¬((5:UInt8)=0)by decide)⟩
   ·rename_i h;exact⟨by simp only [CQ];omega,fun _=>⟨by simp only;omega,by simp only;omega⟩⟩
theorem x1(s:aA)(k:Nat)(b:UInt8):(if(k:Int)<(s.length:Int)then(gd (0<=(k:Int)/\(k:Int)<(s.length:Int))<|some (decide ((at_ s (k:Int))=b)))else some false)=some (iB s k b):=by
 unfold iB;by_cases h:k<s.length
 ·rw [aC aT,bA aT,aO h];rfl
 ·rw [aB aT,aQ h];rfl
theorem zL(l:aA):dS l=[]↔l=[]:=by unfold dS;simp
theorem yU(p:UInt8->Bool)(s:aA)(y:Nat):cD p s ((y:Int)+1)=cD p s ((y+1:Nat):Int):=rfl
def mj:aA×aA×Bool:=([],[],false)
def xU(s:aA)(b:Nat):PQ×Int×UInt8×(aA×Int):=
 if cD dR s (b:Int)=b then(mj,(b:Int),5,(s,(b:Int)))
 else if iB s (cD cW s ((cD dR s (b:Int):Nat):Int)) 61=false then((dS (sub s (b:Int) ((cD dR s (b:Int):Nat):Int)),[],false),0,0,(s,((cD cW s ((cD dR s (b:Int):Nat):Int):Nat):Int)))
 else if(pD s (cD cW s ((cD cW s ((cD dR s (b:Int):Nat):Int)+1:Nat):Int))).2.2=0 then((dS (sub s (b:Int) ((cD dR s (b:Int):Nat):Int)),(pD s (cD cW s ((cD cW s ((cD dR s (b:Int):Nat):Int)+1:Nat):Int))).1,true),0,0,(s,(pD s (cD cW s ((cD cW s ((cD dR s (b:Int):Nat):Int)+1:Nat):Int))).2.1))
 else(mj,(pD s (cD cW s ((cD cW s ((cD dR s (b:Int):Nat):Int)+1:Nat):Int))).2.1,(pD s (cD cW s ((cD cW s ((cD dR s (b:Int):Nat):Int)+1:Nat):Int))).2.2,(s,((cD cW s ((cD cW s ((cD dR s (b:Int):Nat):Int)+1:Nat):Int):Nat):Int)))
theorem JO(s:aA)(e:s.length<=4194304)(b:Nat)(o:b<=s.length):akk FU (s,(b:Int))=some (xU s b):=by
 unfold akk xU;have d:=Sv dR s b o;have c:=qW dR s (b:Int);rw [rT s e b o,aY];simp only;generalize w:cD dR s (b:Int)=t at d c⊢;have l:=qW cW s (t:Int);have m:=Sv cW s t c;rw [XY _ aD5,aY];by_cases j:t=b
 ·have:dS (sub s (b:Int) (t:Int))=[]:=(zL _).2 ((jl s b t c d).2 j);rw [aC this,aC j,j];rfl
 ·have:¬dS (sub s (b:Int) (t:Int))=[]:=fun h=>j ((jl s b t c d).1 ((zL _).1 h));rw [aB this,aB j,U4 s e,aY];generalize v:cD cW s (t:Int)=y at m l⊢;rw [Zu,aY];cases q:iB s y 61 with
  |false=>rw [Cb,aL,aC rfl]
  |true=>
   rw [mI,aH,aB (show¬(true=false)by decide),qH,U4 s e,aY,yU];have a:=qW cW s ((y+1:Nat):Int);generalize u:cD cW s ((y+1:Nat):Int)=z at a⊢;have g:=Sv dR s z a;have f:=qW dR s (z:Int);have n:=HD (fun b=> !(b==93)) (s.drop z);rw [jR]at n;rw [Zu,aY];unfold pD;cases r:iB s z 34 with
   |true=>
    rw [aL,aC rfl,tS s e,aY];by_cases k:(Lg s (z:Int)).2.2=0
    ·rw [aC k,aC k]
    ·rw [aB k,aB k];rfl
   |false=>
    rw [aH,aB (show¬(false=true)by decide),Zu,aY];cases p:iB s z 91 with
    |true=>
     rw [aL,aC rfl,HW s e z a 93 aA1,aY];simp only;rw [qH,bA aT,jb _ aD5,aY];cases x:(gA (sub s (z:Int) (min ((z+eR (fun b=> !(b==93)) (s.drop z):Nat)+1:Int) (s.length:Int)))).2 with
     |false=>rw [Cb,aL,aB (show¬(false=true)by decide),aB (show¬((5:UInt8)=0)by decide)];rfl
     |true=>rw [mI,aH,qH,aC rfl,aC rfl]
    |false=>
     rw [aH,aB (show¬(false=true)by decide),rT s e z a,aY];simp only;by_cases i:cD dR s (z:Int)=z
     ·rw [aC ((jl s z _ f g).2 i),aC i,aB (show¬((5:UInt8)=0)by decide),i];rfl
     ·rw [aB (fun h=>i ((jl s z _ f g).1 h)),aB i,aC rfl]
open List renaming drop → bK, take → kO
abbrev PP:=aA×aA×Bool
theorem UP{α:Type}[Inhabited α](p:α->Bool)(l:List α)(F:Nat->Int->Option (Unit⊕Int))
  (g:∀a,F (a+1) (l.length:Int)=some (.inl ()))
  (h1:∀a (k:Nat),k<l.length->p (el l k)=true->F (a+1) (k:Int)=some (.inr (k:Int)))
  (h2:∀a (k:Nat),k<l.length->p (el l k)=false->F (a+1) (k:Int)=F a ((k:Int)+1)) (n:Nat):
  ∀(k a:Nat),k+n=l.length->n<a->F a (k:Int)=some (match(l.drop k).findIdx? p with|none=>.inl ()|some j=>.inr ((k+j:Nat):Int)):=by
 induction n with
 |zero=>intro k a d e;obtain⟨a,rfl⟩:=cV a;obtain rfl:k=l.length:=aA0;rw [g,eW];rfl
 |succ n c=>
  intro k a d e;obtain⟨a,rfl⟩:=cV a;have b:k<l.length:=aA0;have f:l.drop k=el l (k:Int)::l.drop (k+1):=by rw [Ih _ _ b,dG b]
  rw [f,List.findIdx?_cons];cases h:p (el l (k:Int))with
  |true=>rw [h1 a k b h];rfl
  |false=>
   rw [h2 a k b h,Ke,c (k+1) a aT aT];cases(l.drop (k+1)).findIdx? p with
   |none=>rfl
   |some j=>show some (Sum.inr _)=some (Sum.inr _);congr 2;show((k+1+j:Nat):Int)=((k+(j+1):Nat):Int);omega
theorem KO{α:Type}[Inhabited α](p:α->Bool)(l:List α)(d:l.length<=4194304)(F:Nat->Int->Option (Unit⊕Int))
  (c:∀b,F (b+1) (l.length:Int)=some (.inl ()))
  (h1:∀b (k:Nat),k<l.length->p (el l k)=true->F (b+1) (k:Int)=some (.inr (k:Int)))
  (h2:∀b (k:Nat),k<l.length->p (el l k)=false->F (b+1) (k:Int)=F b ((k:Int)+1)):F FU 0=some (match l.findIdx? p with|none=>.inl ()|some j=>.inr ((j:Nat):Int)):=by
 have:=UP p l F c h1 h2 l.length 0 FU aT aA4;rw [cQ]at this;have a:F FU (0:Int)=_:=this;rw [a];cases l.findIdx? p with
 |none=>rfl
 |some j=>show some (Sum.inr _)=some (Sum.inr _);congr 2;show((0+j:Nat):Int)=_;omega
def ra(o:Option Nat):Int:=match o with|none=> -1|some j=>(j:Int)
theorem US{α:Type}(p:α->Bool)(l:List α):decide ((0:Int)<=ra (l.findIdx? p))=l.any p:=by
 rw [<-List.findIdx?_isSome];cases l.findIdx? p with
 |none=>rfl
 |some j=>show decide ((0:Int)<=(j:Int))=true;rw [bE];omega
theorem Hu(l:List PP)(d:l.length<=4194304)(name:aA):jw FU l name=some (l.any fun p=>p.1==name):=by
 have h:=KO (fun p:PP=>p.1==name) l d (adb FU l name)
  (fun b=>by rw [aee,xh,aB aT])
  (fun b k f h=>by have a:(el l (k:Int)).1=name:=aB0;rw [aee,xh,aC aT,bA aT,bA aT];unfold zr;rw [aY,aO a,aL])
  (fun b k f h=>by have a:¬(el l (k:Int)).1=name:=aB0;rw [aee,xh,aC aT,bA aT,bA aT];unfold zr;rw [aY,aQ a,aH,qH])
 unfold jw aes afd;rw [h,aY];have e:eF (fun(c:Unit)=>some (-1:Int)) (fun q=>some q) (match l.findIdx? (fun p:PP=>p.1==name)with|none=>(Sum.inl ():Unit⊕Int)|some j=>Sum.inr ((j:Nat):Int))=some (ra (l.findIdx? (fun p:PP=>p.1==name))):=by cases l.findIdx? (fun p:PP=>p.1==name)<;>rfl
 rw [e,aY,US];rfl
def iD(l:List PP)(name:aA):UInt8:=if(l.any fun p=>p.1==name)=true then 7 else if 16<=l.length then 4 else 0
theorem EP(l:List PP)(a:l.length<=4194304)(name:aA):jt FU l name=some (iD l name):=by
 unfold jt iD;rw [Hu l a,aY];cases l.any fun p=>p.1==name with
 |true=>rfl
 |false=>
  rw [aH,aB (show¬(false=true)by decide)];by_cases h:16<=l.length
  ·rw [aC aT,aC h]
  ·rw [aB aT,aB h]
theorem I2(l:List PP)(k:Nat)(h:k<l.length):el l (k:Int)∈l:=Rm l k h
def nE (s : aA) : Nat -> List PP -> Nat -> List PP × Int × UInt8
  | 0, _, _ => ([], 0, 0)
  | f + 1, l, i =>
    if s.length <= cD cW s (i : Int) then (l, 0, 0)
    else if ¬ at_ s ((cD cW s (i : Int) : Nat) : Int) = 59 then ([], ((cD cW s (i : Int) : Nat) : Int), 5)
    else if (xU s (cD cW s ((cD cW s (i : Int) + 1 : Nat) : Int))).2.2.1 = 0 then
      (if iD l (xU s (cD cW s ((cD cW s (i : Int) + 1 : Nat) : Int))).1.1 = 0 then nE s f (l ++ [(xU s (cD cW s ((cD cW s (i : Int) + 1 : Nat) : Int))).1]) (xU s (cD cW s ((cD cW s (i : Int) + 1 : Nat) : Int))).2.2.2.2.toNat
       else ([], ((cD cW s ((cD cW s (i : Int) + 1 : Nat) : Int) : Nat) : Int), iD l (xU s (cD cW s ((cD cW s (i : Int) + 1 : Nat) : Int))).1.1))
    else ([], (xU s (cD cW s ((cD cW s (i : Int) + 1 : Nat) : Int))).2.1, (xU s (cD cW s ((cD cW s (i : Int) + 1 : Nat) : Int))).2.2.1)
theorem qf:∀c:UInt8,gX (gX c)=gX c:=iG _ aA3
theorem wQ(l:aA):dS (dS l)=dS l:=by unfold dS;rw [jZ];apply YE;intro c _;exact qf c
theorem We(s:aA)(n:s.length<=4194304)(b:Nat)(o:b<=s.length)(a:(xU s b).2.2.1=0):(xU s b).2.2.2.1=s/\(b:Int)+1<=(xU s b).2.2.2.2/\(xU s b).2.2.2.2<=(s.length:Int)+1/\dS (xU s b).1.1=(xU s b).1.1/\(xU s b).1.1.length<=s.length/\(xU s b).1.2.1.length<=90000000:=by
 have k:=Sv dR s b o;have f:=qW dR s (b:Int);unfold xU at a⊢;generalize r:cD dR s (b:Int)=t at k f a⊢;have i:=qW cW s (t:Int);have j:=Sv cW s t f;have c:(dS (sub s (b:Int) (t:Int))).length<=s.length:=by unfold dS;rw [Dj,CQ];omega
 by_cases l:t=b
 ·rw [aC l]at a;exact absurd a (show¬((5:UInt8)=0)by decide)
 ·rw [aB l]at a⊢;generalize q:cD cW s (t:Int)=y at j i a⊢;cases g:iB s y 61 with
  |false=>rw [aC rfl];exact⟨rfl,by simp only;omega,by simp only;omega,wQ _,c,aA2⟩
  |true=>
   have m:=(Su g).1;rw [g,aB (show¬(true=false)by decide)]at a;rw [aB (show¬(true=false)by decide)];have h:=Sv cW s (y+1) aT;have d:=qW cW s ((y+1:Nat):Int);generalize p:cD cW s ((y+1:Nat):Int)=z at h d a⊢;by_cases e:(pD s z).2.2=0
   ·have:=YW s n z d;rw [aC e];exact⟨rfl,by simp only;have:=(this.2 e).1;omega,by simp only;exact(this.2 e).2,wQ _,c,this.1⟩
   ·rw [aB e]at a;exact absurd a e
theorem JB(s:aA)(m:s.length<=4194304)(n:Nat):∀(k e:Nat) (l:List PP),s.length-k<=n->n<e->k<=4194305->l.length<=16->
  aob FU e l s (k:Int)=some (nE s (n+1) l k):=by
 have J:¬(false=true):=aA1;induction n with
 |zero=>
  intro k e l v z y w;obtain⟨e,rfl⟩:=cV e;have h1:=qW cW s (k:Int);have h2:s.length<=cD cW s (k:Int):=by unfold cD Yx;omega
  rw [avd,ana,U4 s m,aY,lX,aY,aO aT,aL,nE,aC h2]
 |succ n u=>
  intro k e l v z y w;obtain⟨e,rfl⟩:=cV e;have h1:=qW cW s (k:Int);have p:k<=s.length->k<=cD cW s (k:Int):=Sv cW s k;rw [nE,avd,ana,U4 s m,aY,lX,aY];generalize C:cD cW s (k:Int)=j at h1 p⊢;by_cases t:s.length<=j
  ·rw [aO aT,aL,aC t]
  ·have x:k<=s.length:=by
    rcases De s.length k with h|h
    ·exfalso;have:cD cW s (k:Int)=s.length:=by have a:=qW cW s (k:Int);unfold cD Yx at a⊢;omega
     omega
    ·exact h
   rw [aQ aT,aH,aB t,Zu,aY];have o:j<s.length:=aA0;unfold iB;rw [aO o,Kf];by_cases d:at_ s (j:Int)=59
   ·have g:(at_ s (j:Int)==59)=true:=by simpa using d
    rw [g,mI,aH,aB (by simpa using d)];simp only;rw [qH,U4 s m,aY,yU];have f:=qW cW s ((j+1:Nat):Int);have q:=Sv cW s (j+1) aT;generalize D:cD cW s ((j+1:Nat):Int)=b at q f⊢;rw [JO s m b f,aY];by_cases i:(xU s b).2.2.1=0
    ·obtain⟨A,I,H,G,F,E⟩:=We s m b f i;rw [aC i,aC i,EP l aT,aY,aY];by_cases c:iD l (xU s b).1.1=0
     ·have r:l.length<16:=by
       unfold iD at c;split at c
       ·exact absurd c aA1
       ·split at c
        ·exact absurd c aA1
        ·omega
      have B:(xU s b).2.2.2.2=(((xU s b).2.2.2.2.toNat:Nat):Int):=aA0;rw [aC c];try simp only
      rw [aC c,bA aB1,A,B];have:=u (xU s b).2.2.2.2.toNat e (l++[(xU s b).1]) aT aT aT aA9;rw [this];congr 2
     ·rw [aB c];try simp only
      rw [aB c]
    ·rw [aB i,aB i,aY];simp only;rw [aB i]
   ·have g:(at_ s (j:Int)==59)=false:=by simpa using d
    rw [g,Cb,aL,aC d]
def jC(s:aA):List PP×Int×UInt8:=nE s (s.length+1) [] 0
theorem zE(s:aA)(a:s.length<=4194304):U9 FU s=some (jC s):=by unfold U9;exact JB s a s.length 0 FU [] aT aA4 aT aA2
def Hi(s:aA):Nat:=if cD dR s 0=0 then 0 else if iB s (cD dR s 0) 47=true then(if cD dR s ((cD dR s 0+1:Nat):Int)=cD dR s 0+1 then 0 else cD dR s ((cD dR s 0+1:Nat):Int))else cD dR s 0
def lT(v:aA):(aA×List PP)×UInt8:=
 if Hi (dO v)=0 then(([],[]),5)
 else if(jC ((dO v).drop (Hi (dO v)))).2.2=0 then(((dO v).take (Hi (dO v)),(jC ((dO v).drop (Hi (dO v)))).1),0)
 else(([],[]),(jC ((dO v).drop (Hi (dO v)))).2.2)
theorem E7(v:aA)(i:v.length<=4194304):za FU v=some (lT v):=by
 have j:=MN v;have h1:=qW dR (dO v) 0;unfold za lT Hi;rw [kF v i,aY,mW _ aT,aY];generalize dO v=s at j h1⊢;have d:∀e:Nat,e<=s.length->e≠0->eF (fun(a:Int)=>(gd (0<=a/\a<=(s.length:Int))<|((U9 FU (bK (aR a) s)).bind fun(b:((List PP)×Int×UInt8))=>(if b.2.2=(0:UInt8)then(gd (0<=a/\a<=(s.length:Int))<|some ((kO (aR a) s,b.1),(0:UInt8)))else some ((([]:aA),([]:List PP)),b.2.2))))) (fun q=>some q) (.inl (e:Int):Int⊕((aA×List PP)×UInt8))=some (if e=0 then(([],[]),5)else if(jC (s.drop e)).2.2=0 then((s.take e,(jC (s.drop e)).1),0)else(([],[]),(jC (s.drop e)).2.2)):=by
  intro e g c;have l:((e:Nat):Int).toNat=e:=aA0;rw [mR,bA aT,l,zE _ aC6,aY,aB c];by_cases f:(jC (s.drop e)).2.2=0
  ·rw [aC f,aC f,bA aT]
  ·rw [aB f,aB f]
 generalize cD dR s 0=k at h1⊢;by_cases c:k=0
 ·subst c;rfl
 ·rw [aB aT,x1,aY,aB c];cases h:iB s k 47 with
  |true=>
   have m:=(Su h).1;have h2:=qW dR s ((k+1:Nat):Int);have h3:=Sv dR s (k+1) aT;rw [aL,qH,mW _ aT,aY,qH,yU,aC rfl];by_cases g:cD dR s ((k+1:Nat):Int)=k+1
   ·rw [aC aT,aC g];rfl
   ·rw [aB aT,aB g,aY,d _ h2 aT]
  |false=>rw [aH,aY,aB (show¬(false=true)by decide),d _ h1 c]
open Go.Lib renaming join → dM
open List renaming intercalate → HP, length → aS, take → kO
def Ko(s:aA):aA:=34::(s.flatMap Bw++[34])
def Vl(s:aA):aA×UInt8:=if s.any gN=true then([],5)else(Ko s,0)
theorem IT(c:UInt8):(Bw c).length<=2:=by unfold Bw;split<;>simp
theorem rY:∀s:aA,(s.flatMap Bw).length<=2*aS s
 |[]=>by simp
 |c::l=>by have h1:=IT c;have h2:=rY l;rw [tN,cB,cF];omega
theorem z7(s:aA)(u:aS s<=4194304)(l:aA):∀(p:aA) (d:Nat),s=p++l->aS l<d->
  ko FU s d (34::p.flatMap Bw) (aS p:Int)=some (if l.any gN=true then .inr ([],5)else .inl (34::s.flatMap Bw)):=by
 induction l with
 |nil=>intro p d h o;obtain⟨d,rfl⟩:=cV d;rw [kP]at h;subst h;rw [ayd,aqz,aB aT];rfl
 |cons c l q=>
  intro p d h o;obtain⟨d,rfl⟩:=cV d;have r:=bP aS h;simp only [cB,cF]at r o;have n:(0:Int)<=(aS p:Int)/\(aS p:Int)<(aS s:Int):=aA0;have t:at_ s (aS p:Int)=c:=by rw [h,nQ]
  have v:=rY p;have k:=q (p++[c]) d aA8 aT;rw [<-XW p c,LY,DJ]at k;rw [ayd,aqz,aC n.2,bA n,t,xQ,aY,eG];cases w:gN c with
  |true=>rw [aL,Bool.true_or,aC rfl]
  |false=>
   rw [aH,eH];have a:∀b:Bool,Bw c=(bif b then [92,c]else [c])->(bif b then gd (((34::p.flatMap Bw).length+([(92:UInt8)]:List UInt8).length)*1<=140737488355328) (some ((34::p.flatMap Bw)++([(92:UInt8)]:List UInt8)))else some (34::p.flatMap Bw))=some ((34::p.flatMap Bw)++(bif b then [92]else [])):=by
    intro b _;cases b with
    |true=>rw [aL,aL,bA aC2]
    |false=>rw [aH,aH,kP]
   have j:∀b:Bool,Bw c=(bif b then [92,c]else [c])->((some ((34::p.flatMap Bw)++(bif b then [92]else []))).bind fun(i:List UInt8)=>(gd (0<=(aS p:Int)/\(aS p:Int)<(aS s:Int))<|(gd ((aS i+([c]:List UInt8).length)*1<=140737488355328)<|(gd (bJ ((aS p:Int)+(1:Int)))<|(ko FU s d (i++([c]:List UInt8)) ((aS p:Int)+(1:Int)))))))=some (if l.any gN=true then .inr ([],5)else .inl (34::s.flatMap Bw)):=by intro b m;rw [aY,bA n,bA (by cases b<;>simp only [aL,aH,cB,cF,iO]<;>omega),bA (adc _ aT aT),<-k,m];cases b<;>simp
   by_cases g:c=34
   ·have e:Bw c=(bif true then [92,c]else [c]):=by rw [g];rfl
    rw [aC g,aY,a true e,j true e]
   ·rw [aB g,aY];by_cases f:c=92
    ·have e:Bw c=(bif true then [92,c]else [c]):=by rw [f];rfl
     rw [aO f,a true e,j true e]
    ·have e:Bw c=(bif false then [92,c]else [c]):=by unfold Bw;rw [aB (by simp [g,f])];rfl
     rw [aQ f,a false e,j false e]
theorem UC{α:Type}{p:Prop}{ip:Decidable p}(h:p){x:Option α}: @gd _ p ip x=x:=by unfold gd;exact aC h
theorem Fq(s:aA)(b:aS s<=4194304):jr FU s=some (Vl s):=by
 have:=z7 s b s [] FU aA2 aA4;have a:ko FU s FU (([]:List UInt8)++([(34:UInt8)]:List UInt8)) (0:Int)=_:=this;have c:=rY s;unfold jr Vl;rw [bA (adc _ aT aT),UC aT,bA aA1,a,aY];cases s.any gN with
 |true=>rfl
 |false=>rw [aB (show¬(false=true)by decide),mR,bA aC2,aB (show¬(false=true)by decide)];rfl
theorem pL(s:aA):(Ko s).length<=2*aS s+2:=by have:=rY s;unfold Ko;rw [cF,cB,dX];omega
theorem Y4:∀c:UInt8,dR c=true->gN c=false:=iG _ aA3
theorem cw:∀c:UInt8,iU c=true->gN (gX c)=false:=iG _ aA3
theorem bo:∀c:UInt8,nI c=true->gN (gX c)=false:=iG _ aA3
theorem eo:∀c:UInt8,jO c=true->gN c=false:=iG _ aA3
theorem U6(l:aA)(h:∀c∈l,gN c=false):l.any gN=false:=by rw [rJ];intro c a;rw [h c a];decide
theorem SZ(s:aA)(h:mJ s=true):s.any gN=false:=by unfold mJ at h;rw [mH]at h;exact U6 s fun c a=>Y4 c (bH.1 h.2 c a)
theorem G8(g:aA)(h:xT g=true):∀c∈jL g,gN c=false:=by
 have hx:g.all iU=true:=aD6;intro c a;unfold jL at a;split at a
 ·rw [aE.1 a];decide
 ·have b:c∈Cj g:=(tL _).subset a;obtain⟨d,e,rfl⟩:=cG.1 b;exact cw d (bH.1 hx d e)
theorem Dw:∀(l:List aA),(∀x∈l,∀c∈x,gN c=false)->∀c∈dM l [58],gN c=false
 |[],_,c,d=>by simp [dM,HP]at d
 |[a],h,c,d=>by simp [dM,HP]at d;exact h a aA2 c d
 |a::b::l,h,c,d=>by
  have e:dM (a::b::l) [58]=a++(58::dM (b::l) [58]):=aD3;rw [e]at d;rcases aU.1 d with d|d
  ·exact h a aA2 c d
  ·rcases aN.1 d with rfl|d
   ·decide
   ·exact Dw (b::l) (fun x hx=>h x (fU _ hx)) c d
theorem Hv(s:aA):∀x∈(xX s).1,∀c∈x,gN c=false:=by
 intro x hx;unfold xX at hx;split at hx
 ·rename_i b;obtain⟨y,a,rfl⟩:=cG.1 hx;exact G8 y (bH.1 b y a)
 ·simp at hx
theorem Xq(s:aA):∀x∈(oL s).1,∀c∈x,gN c=false:=by
 intro x hx;unfold oL at hx;split at hx
 ·simp at hx
 ·exact Hv s x hx
theorem TW(s:aA):∀c∈(Ak s).1,gN c=false:=by
 intro c a;unfold Ak at a;split at a
 ·simp at a
 ·split at a
  ·exact Dw _ (Hv s) c a
  ·split at a
   ·simp at a
   ·rcases aU.1 a with a|a
    ·rcases aU.1 a with a|a
     ·exact Dw _ (Xq _) c a
     ·have b:c=58:=by simpa using a
      rw [b];decide
    ·exact Dw _ (Xq _) c a
theorem TL(s:aA):((gA s).1).any gN=false:=by
 refine U6 _ fun c a=> ?_;unfold gA at a;split at a
 ·split at a
  ·rcases aU.1 a with a|a
   ·rcases aU.1 a with a|a
    ·rw [aE.1 a];decide
    ·exact TW _ c a
   ·rw [aE.1 a];decide
  ·simp at a
 ·split at a
  ·rename_i b;unfold jG at b;simp only [mH]at b;rcases kG 46 jO s (fun x hx=>(zJ x (by rw [<-Qn];exact bH.1 b.1.2 x hx)).2.2) c a with h|h
   ·exact eo c h
   ·rw [h];decide
  ·split at a
   ·rename_i b;unfold jH at b;simp only [mH]at b;obtain⟨d,e,rfl⟩:=cG.1 a;rcases kG 46 nI s (fun x hx=>by have:=bH.1 b.1.2 x hx;unfold Sl at this;simp only [mH]at this;exact this.2) d e with h|h
    ·exact bo d h
    ·rw [h];decide
   ·simp at a
def WA(v:aA):Bool:=(gA v).2&&decide ((gA v).1=v)&&(at_ v 0==91)
def XO(pre:List PP)(p:PP):Bool:=mJ p.1&&decide (dS p.1=p.1)&& !(pre.any fun q=>q.1==p.1)
def JE(p:PP):Bool:=bif p.2.2 then !p.2.1.any gN else decide (p.2.1=[])
def Th(p:PP):aA:=bif p.2.2 then 61::(bif mJ p.2.1||WA p.2.1 then p.2.1 else Ko p.2.1)else []
def Qf:List PP->List PP->Option aA
 |_,[]=>some []
 |pre,p::r=>bif XO pre p&&JE p then(Qf (pre++[p]) r).map fun t=>59::(p.1++(Th p++t))else none
def tY(l:List PP):aA×UInt8:=if 16<aS l then([],2)else match Qf [] l with|some t=>(t,0)|none=>([],2)
theorem fc(v:aA)(h:WA v=true):v.any gN=false:=by unfold WA at h;simp only [mH,bE]at h;rw [<-h.1.2];exact TL v
theorem G3(v:aA)(h:(gA v).2=true)(h2:(gA v).1=v):v≠[]:=by intro e;subst e;exact absurd h aA1
theorem DY(p:PP)(h1:aS p.2.1<=4194304):(Th p).length<=8388611:=by
 have:=pL p.2.1;unfold Th;cases p.2.2 with
 |false=>simp
 |true=>
  rw [aL,cF];cases(mJ p.2.1||WA p.2.1)with
  |true=>rw [aL];omega
  |false=>rw [aH];omega
theorem pf(l:List PP)(G:aS l<=16)(D:∀p∈l,aS p.1<=4194304/\p.2.1.length<=4194304)(r:List PP):∀(pre:List PP) (b:Nat) (out:aA),l=pre++r->aS r<b->aS out<=aS pre*16000000->
  ls FU l b (aS pre:Int) () out=some (match Qf pre r with|some t=>.inl ((),out++t)|none=>.inr ([],2)):=by
 induction r with
 |nil=>intro pre b out h z B;obtain⟨b,rfl⟩:=cV b;rw [kP]at h;rw [art,aio,aB aF0];simp [Qf]
 |cons p r A=>
  intro pre b out h z B;obtain⟨b,rfl⟩:=cV b;have m:=bP aS h;simp only [cB,cF]at m z;have g:(0:Int)<=(aS pre:Int)/\(aS pre:Int)<(aS l:Int):=aA0;have C:el l (aS pre:Int)=p:=aB5;have v:kO (aR (aS pre:Int)) l=pre:=aA8
  have c:=D p aA8;have E:=DY p c.2;have f:bJ ((aS pre:Int)+1):=adc _ aT aT;have next:∀o:aA,o=out++(59::(p.1++Th p))->XO pre p=true->JE p=true->ls FU l b ((aS pre:Int)+1) () o=some (match Qf pre (p::r)with|some t=>.inl ((),out++t)|none=>.inr ([],2)):=by
   intro o k h1 h2;have n:=A (pre++[p]) b o aA8 aT (by rw [k];simp only [cB,cF,iO];omega);rw [show((pre++[p]).length:Int)=(aS pre:Int)+1 by simp]at n;rw [n,Qf,h1,h2,Kf,aL];cases Qf (pre++[p]) r with
   |none=>rfl
   |some t=>rw [k];simp
  have a:XO pre p=false\/JE p=false->Qf pre (p::r)=none:=by
   rintro(h|h)
   ·rw [Qf,h];rfl
   ·rw [Qf,h,Bool.and_false];rfl
  rw [art,aio,aC g.2,bA g,bA g,C,U3 _ aT,aY];cases h1:mJ p.1 with
  |false=>rw [a (.inl (by unfold XO;rw [h1];rfl))];rfl
  |true=>
   rw [mI,aH,XY _ c.1,aY];by_cases h2:p.1=dS p.1
   ·rw [aC h2,bA aT,v,Hu pre aT,aY,aY];cases h3:pre.any fun q=>q.1==p.1 with
    |true=>rw [a (.inl (by unfold XO;rw [h3];simp))];rfl
    |false=>
     have y:XO pre p=true:=by unfold XO;rw [h1,h3,aO h2.symm];rfl
     rw [aH,bA aB1];unfold Tm;rw [bA aA9,aY];simp only;cases j:p.2.2 with
     |false=>
      rw [Cb,aL];by_cases d:p.2.1=[]
      ·have x:JE p=true:=by unfold JE;rw [j,aH];exact aO d
       rw [aC d,bA f];refine next _ ?_ y x
       have:Th p=[]:=by unfold Th;rw [j];rfl
       rw [this];simp
      ·have x:JE p=false:=by unfold JE;rw [j,aH];exact aQ d
       rw [aB d,a (.inr x)]
     |true=>
      have i:JE p= !p.2.1.any gN:=by unfold JE;rw [j];rfl
      rw [mI,aH,jb _ c.2,aY,U3 _ aT,aY];have e:(bif (!mJ p.2.1)then(bif (gA p.2.1).2 then(if(gA p.2.1).1=p.2.1 then(gd (0<=(0:Int)/\(0:Int)<(aS p.2.1:Int))<|some (!decide ((at_ p.2.1 (0:Int))=(91:UInt8))))else some true)else some true)else some false)=some (!(mJ p.2.1||WA p.2.1)):=by
       unfold WA;cases mJ p.2.1 with
       |true=>rfl
       |false=>
        rw [Cb,aL,eH];cases u:(gA p.2.1).2 with
        |false=>rfl
        |true=>
         rw [aL,Kf];by_cases s:(gA p.2.1).1=p.2.1
         ·have:=dW.2 (G3 p.2.1 u s);rw [aC s,aO s,bA aT,Kf];rfl
         ·rw [aB s,aQ s];rfl
      rw [e,aY];cases d:(mJ p.2.1||WA p.2.1)with
      |true=>
       have w:p.2.1.any gN=false:=by
        rcases Bool.or_eq_true_iff.1 d with h|h
        ·exact SZ _ h
        ·exact fc _ h
       rw [mI,aH,aY,mR,bA aB1,bA aA9,aY,bA f];refine next _ ?_ y (by rw [i,w];rfl)
       have:Th p=61::p.2.1:=by unfold Th;rw [j,d];rfl
       rw [this];simp
      |false=>
       rw [Cb,aL,Fq _ c.2,aY];unfold Vl;have F:=pL p.2.1;cases u:p.2.1.any gN with
       |true=>rw [aC rfl,aB (show¬((5:UInt8)=0)by decide),aY,Lk,a (.inr (by rw [i,u];rfl))]
       |false=>
        rw [aB (show¬(false=true)by decide),aC rfl,aY,mR];simp only;rw [bA aB1,bA aA9,aY,bA f];refine next _ ?_ y (by rw [i,u];rfl)
        have:Th p=61::Ko p.2.1:=by unfold Th;rw [j,d];rfl
        rw [this];simp
   ·rw [aB h2,aY,aL,a (.inl (by unfold XO;rw [aQ (fun h=>h2 h.symm)];simp))]
theorem Qe:∀(r pre:List PP) (t:aA),(∀p∈r,aS p.1<=4194304/\p.2.1.length<=4194304)->Qf pre r=some t->aS t<=aS r*16000000
 |[],_,t,_,h=>by simp [Qf]at h;subst h;simp
 |p::r,pre,t,c,h=>by
  rw [Qf]at h;cases b:XO pre p&&JE p with
  |false=>rw [b]at h;cases h
  |true=>rw [b,aL,bY]at h;obtain⟨u,d,rfl⟩:=h;have:=Qe r _ u (fun q e=>c q (fU _ e)) d;have a:=c p iH;have f:=DY p a.2;simp only [cF,cB];omega
theorem aza(l:List PP)(b:∀p∈l,aS p.1<=4194304/\p.2.1.length<=4194304):LK FU l=some (tY l):=by
 unfold LK tY;by_cases h:16<aS l
 ·rw [aC aT,aC h]
 ·have:=pf l aT b l [] FU [] aA2 aA4 aA2;have a:ls FU l FU (0:Int) () []=_:=this;rw [aB aT,aB h,a,aY];cases c:Qf [] l with
  |none=>rfl
  |some t=>have:=Qe l [] t b c;rw [mR];simp only [Ka];rw [bA aT]
open Go.Op renaming bytesLess → nZ
theorem ou(pre:List PP)(nm:aA):(iD pre nm=0)↔((pre.any fun q=>q.1==nm)=false/\pre.length<16):=by
 unfold iD;cases pre.any fun q=>q.1==nm with
 |true=>simp
 |false=>
  rw [aB (show¬(false=true)by decide)];by_cases h:16<=pre.length
  ·rw [aC h];simp;omega
  ·rw [aB h];simp;omega
theorem Fv(x:PP):(x.1,x.2.1,x.2.2)=x:=rfl
theorem lJ:∀x y:aA,nZ x y= !(nZ y x||y==x)
 |[],[]=>rfl
 |[],b::y=>rfl
 |a::x,[]=>rfl
 |a::x,b::y=>by
  have d:=lJ x y;rw [nZ,nZ,d];rcases Nat.lt_trichotomy a.toNat b.toNat with h|h|h
  ·have h1:a<b:=h;have h2:¬b<a:=by rw [XM];omega
   have h3:¬a=b:=fun e=>by subst e;omega
   have c:(b::y==a::x)=false:=by simp;intro e;exact absurd e.symm h3
   rw [c];simp [h1,h2,h3];exact .inl fun e=>h3 e.symm
  ·have e:a=b:=mL.1 h;subst e;have h1:¬a<a:=by rw [XM];omega
   have c:(a::y==a::x)=(y==x):=by simp [List.cons_beq_cons]
   rw [c];simp [h1]
  ·have h1:b<a:=h;have h2:¬a<b:=by rw [XM];omega
   have h3:¬a=b:=fun e=>by subst e;omega
   simp [h1,h2,h3]
def KA(a b:aA):Bool:= !(nZ a b||a==b)
def zV(x:PP):List PP->List PP
 |[]=>[x]
 |a::V=>bif KA a.1 x.1 then a::zV x V else x::a::V
def jI(x:PP)(l:List PP):List PP:=(zV x l.reverse).reverse
theorem Ng(x a:PP)(l:List PP):jI x (l++[a])=bif KA a.1 x.1 then jI x l++[a]else l++[a,x]:=by unfold jI;rw [List.reverse_append,List.reverse_singleton,YF,zV];cases KA a.1 x.1<;>simp
theorem Xg(x:PP):∀V:List PP,(zV x V).length=V.length+1
 |[]=>rfl
 |a::V=>by
  rw [zV];cases KA a.1 x.1 with
  |true=>rw [aL,cF,Xg x V,cF]
  |false=>rfl
theorem Hn(x:PP)(l:List PP):(jI x l).length=l.length+1:=by unfold jI;rw [List.length_reverse,Xg,List.length_reverse]
theorem Hm(x y:PP):∀V:List PP,y∈zV x V->y=x\/y∈V
 |[],h=>by left;simpa [zV] using h
 |a::V,h=>by
  rw [zV]at h;cases b:KA a.1 x.1 with
  |true=>
   rw [b,aL]at h;rcases aN.1 h with rfl|h
   ·right;simp
   ·rcases Hm x y V h with h|h
    ·exact .inl h
    ·right;simp [h]
  |false=>
   rw [b,aH]at h;rcases aN.1 h with rfl|h
   ·left;rfl
   ·right;exact h
theorem TE(x y:PP)(l:List PP)(h:y∈jI x l):y=x\/y∈l:=by
 unfold jI at h;rcases Hm x y _ (List.mem_reverse.1 h)with h|h
 ·exact .inl h
 ·exact .inr (List.mem_reverse.1 h)
def fV(l:List PP):List PP:=l.foldl (fun out x=>jI x out) []
theorem Xv:∀(q p:List PP),(q.foldl (fun out x=>jI x out) p).length=p.length+q.length
 |[],p=>by simp
 |a::q,p=>by rw [mM,Xv q,Hn,cF];omega
theorem Xu(y:PP):∀(q p:List PP),y∈q.foldl (fun out x=>jI x out) p->y∈p\/y∈q
 |[],p,h=>.inl h
 |a::q,p,h=>by
  rw [mM]at h;rcases Xu y q _ h with h|h
  ·rcases TE a y p h with h|h
   ·right;simp [h]
   ·exact .inl h
  ·right;simp [h]
theorem sE(l:List PP):(fV l).length=l.length:=by unfold fV;rw [Xv];simp
theorem lU(l:List PP)(y:PP)(h:y∈fV l):y∈l:=by
 rcases Xu y l [] h with h|h
 ·simp at h
 ·exact h
open List renaming length → aS, set → eA
def Rw(a b:aA):Int:=bif nZ a b then-1 else bif !(nZ a b||a==b)then 1 else 0
theorem Ht(fu:Nat)(x y:PP):gp fu x y=some (Rw x.1 y.1):=by
 unfold gp vm va Rw;rw [aY,aY,aO rfl,aO rfl,mI,aH,aH];cases nZ x.1 y.1 with
 |true=>rfl
 |false=>rw [aH,aH];cases(!(false||x.1==y.1))<;>rfl
theorem CI(a b:aA):decide (Rw a b<0)=nZ a b:=by
 unfold Rw;cases nZ a b with
 |true=>rfl
 |false=>rw [aH];cases(!(false||a==b))<;>rfl
theorem J2(x:List PP)(hx:aS x<=4194304)(q:List PP):∀(p:List PP) (b:Nat),x=p++q->aS q<b->
  mb FU x b (aS p:Int) p=some (x,0):=by
 induction q with
 |nil=>intro p b h e;obtain⟨b,rfl⟩:=cV b;rw [kP]at h;subst h;rw [abw,xv,aB aT]
 |cons a q f=>intro p b h e;obtain⟨b,rfl⟩:=cV b;have d:=bP aS h;simp only [cB,cF]at d e;have c:(0:Int)<=(aS p:Int)/\(aS p:Int)<(aS x:Int):=aA0;have g:el x (aS p:Int)=a:=aB5;rw [abw,xv,aC c.2,bA c,bA c,g];unfold xd;simp only [Fv];rw [bA aB1,aY,aC rfl,bA (adc _ aT aT)];have:=f (p++[a]) b aA8 aT;rw [show((p++[a]).length:Int)=(aS p:Int)+1 by simp]at this;exact this
theorem Ir(x:List PP)(hx:aS x<=4194304):xc FU x=some x:=by have:=J2 x hx x [] FU aA2 aA4;unfold xc aem abi;have a:mb FU x FU (0:Int) []=_:=this;rw [a,aY,aC rfl];rfl
theorem GM(P S:List PP)(x:PP):el (P++x::S) (aS P:Int)=x:=by simp [el]
theorem F4(n:Nat):∀(P S:List PP) (x:PP) (c:Nat),aS P=n->n<c->aS P+aS S<=1048575->
  xp FU 0 c (P++x::S) (aS P:Int)=some (jI x P++S):=by
 induction n with
 |zero=>intro P S x c h t l;obtain⟨c,rfl⟩:=cV c;obtain rfl:P=[]:=Jz h;rw [abr,ma,aB aA2];rfl
 |succ n q=>
  intro P S x c h t l;obtain⟨c,rfl⟩:=cV c;rcases LV P with rfl|⟨b,a,rfl⟩
  ·simp at h
  ·simp only [LW]at*;have p:aS b=n:=by simp at h;omega
   have u:(((b++[a]).length:Int)-1)=(aS b:Int):=aA2;have r:el (b++[a]++x::S) ((b++[a]).length:Int)=x:=GM _ _ _;have m:el (b++[a]++x::S) (aS b:Int)=a:=by rw [iI];exact GM b (x::S) a
   have d:(b++[a]++x::S).length=aS b+2+aS S:=aA6;have o:(0:Int)<=((b++[a]).length:Int)/\((b++[a]).length:Int)<((b++[a]++x::S).length:Int):=aF1;have g:(0:Int)<=(aS b:Int)/\(aS b:Int)<((b++[a]++x::S).length:Int):=by rw [d];omega
   have k:bJ (aS b:Int):=adc _ aT (by simp at l;omega);have j:((b++[a]).length:Int).toNat=aS b+1:=aA2;have i:((aS b:Nat):Int).toNat=aS b:=aA0;rw [abr,ma,u];simp only [r,m,Fv,Ht,aY,CI,bA o,bA g,bA k];rw [aC aB8,aY,lJ x.1 a.1,Ng];have s:(!(nZ a.1 x.1||a.1==x.1))=KA a.1 x.1:=rfl;rw [s];cases KA a.1 x.1 with
   |false=>rw [aH,aH];simp
   |true=>
    have f:eA (b++[a]++x::S) ((b++[a]).length:Int).toNat a=b++a::a::S:=by rw [j,iI,V6 _ _ aT];simp
    have e:eA (b++a::a::S) ((aS b:Nat):Int).toNat x=b++x::a::S:=by rw [i,V6 _ _ aT];simp
    rw [aL,aL,f,e,bA aA6,bA aA6,q b (a::S) x c p aT (by simp at l⊢;omega)];simp
theorem F5(R:List PP):∀(P:List PP) (b:Nat) (n:Int),n=((P++R).length:Int)->(P++R).length<=1048575->aS R<b->
  ib FU 0 n b (P++R) (aS P:Int)=some (R.foldl (fun out x=>jI x out) P):=by
 induction R with
 |nil=>intro P b n d f g;obtain⟨b,rfl⟩:=cV b;rw [xr,ic,aB (by rw [d];simp)];simp
 |cons a R h=>intro P b n d f g;obtain⟨b,rfl⟩:=cV b;simp only [cB,cF]at f g;rw [xr,ic,aC aF1,F4 P.length P R a FU rfl aA4 aT,aY,bA (adc _ aT aT)];have c:=Hn a P;have:=h (jI a P) b n (by rw [d];simp [c];omega) (by simp only [cB,c];omega) aT;rw [c]at this;have e:((aS P:Int)+1)=((aS P+1:Nat):Int):=rfl;rw [e,this];rfl
theorem ch(l:List PP)(b:aS l<=1048575):ia FU l 0 (aS l:Int)=some (fV l):=by
 unfold ia;rw [bA (adc _ aT aT)];cases l with
 |nil=>obtain⟨m,c⟩:∃m,FU=m+1:=⟨FU-1,by rw [fR]⟩;rw [show(ib FU 0 (([]:List PP).length:Int) FU [] (0+1))=ib FU 0 (([]:List PP).length:Int) (m+1) [] (0+1)by rw [<-c]];rw [xr,ic,aB aA2];rfl
 |cons a l=>have:=F5 l [a] FU ((a::l).length:Int) rfl b (by rw [fR];simp at b;omega);exact this
open Go.IntKind renaming wrap → bN
def Ai(o:Option (List PP))(n:Nat):Prop:=∃d,o=some d/\d.length=n
theorem mB(a:Int)(b: -1000<=a)(h:a<=100000):bJ a:=⟨aA0,aA0⟩
theorem ny(fu:Nat)(a:Nat)(n:Nat):∀(data:List PP) (b:Nat),n<data.length->data.length<=100->n<b->Ai (xp fu (a:Int) b data (n:Int)) data.length:=by
 induction n with
 |zero=>intro data b f g i;obtain⟨b,rfl⟩:=cV b;rw [abr,ma,aB aT];exact⟨data,rfl,rfl⟩
 |succ n e=>
  intro data b f g i;obtain⟨b,rfl⟩:=cV b;have j:(((n+1:Nat):Int)-1)=(n:Int):=aA0;have d:(0:Int)<=((n+1:Nat):Int)/\((n+1:Nat):Int)<(data.length:Int):=aA0;have c:(0:Int)<=(n:Int)/\(n:Int)<(data.length:Int):=aA0;rw [abr,ma,j];simp only [Ht,aY,CI,bA d,bA c,bA (mB (n:Int) aT aT),Cc];by_cases h:(a:Int)<((n+1:Nat):Int)
  ·rw [aC h,aY];cases nZ (el data ((n+1:Nat):Int)).1 (el data (n:Int)).1 with
   |false=>exact⟨data,rfl,rfl⟩
   |true=>rw [aL];have:=e (eA (eA data (((n+1:Nat):Int).toNat) (el data (n:Int))) ((n:Int).toNat) (el data ((n+1:Nat):Int))) b aC1 aC1 aT;rw [Cc,Cc]at this;exact this
  ·rw [aB h];exact⟨data,rfl,rfl⟩
theorem nz(fu:Nat)(j:1000<=fu)(a b:Nat)(m:Nat):∀(data:List PP) (i c:Nat),b<=i+m->m<c->b<=data.length->data.length<=100->Ai (ib fu (a:Int) (b:Int) c data (i:Int)) data.length:=by
 induction m with
 |zero=>intro data i c g k l e;obtain⟨c,rfl⟩:=cV c;rw [xr,ic,aB aT];exact⟨data,rfl,rfl⟩
 |succ m f=>
  intro data i c g k l e;obtain⟨c,rfl⟩:=cV c;rw [xr,ic];by_cases h:(i:Int)<(b:Int)
  ·obtain⟨d,h1,h2⟩:=ny fu a i data fu aT e aT;rw [aC h,h1,aY,bA (mB _ aT aT)];have:=f d (i+1) c aT aT aT aT;rw [h2]at this;exact this
  ·rw [aB h];exact⟨data,rfl,rfl⟩
theorem oa(fu:Nat)(c:1000<=fu)(a b:Nat)(data:List PP)(f:a<=100)(e:b<=data.length)(d:data.length<=100):Ai (ia fu data (a:Int) (b:Int)) data.length:=by unfold ia;rw [bA (mB _ aT aT)];exact nz fu c a b 100 data (a+1) fu aT aT e d
theorem Y8(fu:Nat)(a b n:Nat)(m:Nat):∀(data:List PP) (i c:Nat),n<=i+m->m<c->a+n<=data.length->b+n<=data.length->data.length<=100->Ai (acj fu (a:Int) (b:Int) (n:Int) c data (i:Int)) data.length:=by
 induction m with
 |zero=>intro data i c e g k j f;obtain⟨c,rfl⟩:=cV c;rw [aez,acb,aB aT];exact⟨data,rfl,rfl⟩
 |succ m d=>
  intro data i c e g k j f;obtain⟨c,rfl⟩:=cV c;rw [aez,acb];by_cases h:(i:Int)<(n:Int)
  ·have o:(0:Int)<=(a:Int)+(i:Int)/\(a:Int)+(i:Int)<(data.length:Int):=by omega
   have l:(0:Int)<=(b:Int)+(i:Int)/\(b:Int)+(i:Int)<(data.length:Int):=aA0;rw [aC h];simp only [bA o,bA l,bA (mB ((a:Int)+(i:Int)) aT aT),bA (mB ((b:Int)+(i:Int)) aT aT),bA (mB ((i:Int)+1) aT aT),Cc];have:=d (eA (eA data ((a:Int)+(i:Int)).toNat (el data ((b:Int)+(i:Int)))) ((b:Int)+(i:Int)).toNat (el data ((a:Int)+(i:Int)))) (i+1) c aT aT aC1 aC1 aC1;rw [Cc,Cc]at this;exact this
  ·rw [aB h];exact⟨data,rfl,rfl⟩
theorem PB(fu:Nat)(e:1000<=fu)(a b n:Int)(data:List PP)(g:0<=a)(f:0<=b)(c:0<=n)(i:a+n<=data.length)(h:b+n<=data.length)(d:data.length<=100):Ai (lx fu data a b n) data.length:=by obtain⟨a,rfl⟩:∃k:Nat,a=(k:Int):=⟨a.toNat,aA0⟩;obtain⟨b,rfl⟩:∃k:Nat,b=(k:Int):=⟨b.toNat,aA0⟩;obtain⟨n,rfl⟩:∃k:Nat,n=(k:Int):=⟨n.toNat,aA0⟩;unfold lx;exact Y8 fu a b n n data 0 fu aT aT aT aT d
theorem nv(fu:Nat)(e:1000<=fu)(m:Nat)(t:Nat):∀(data:List PP) (i j:Int) (a:Nat),i+j<=(t:Int)->t<a->0<i->0<j->i<=(m:Int)->(m:Int)+j<=(data.length:Int)->data.length<=100->
  ∃d i',acu fu (m:Int) a data i j=some (d,i')/\d.length=data.length/\0<=i'/\i'<=(m:Int)/\(m:Int)+i'<=(data.length:Int):=by
 induction t with
 |zero=>intro data i j a h;omega
 |succ t f=>
  intro data i j a h p o n l k g;obtain⟨a,rfl⟩:=cV a;rw [ama,adq];by_cases c:i=j
  ·rw [aC c];exact⟨data,i,rfl,rfl,aA0,aA0,aA0⟩
  ·rw [aB c];by_cases b:j<i
   ·obtain⟨d,h1,h2⟩:=PB fu e ((m:Int)-i) (m:Int) j data aT aT aT aT aT g;rw [aC b,bA (mB _ aT aT),h1,aY,bA (mB _ aT aT)];have:=f d (i-j) j a aT aT aT aT aT aT aT;rw [h2]at this;exact this
   ·obtain⟨d,h1,h2⟩:=PB fu e ((m:Int)-i) ((m:Int)+j-i) i data aT aT aT aT aT g;rw [aB b,bA (mB _ aT aT),bA (mB _ aT aT),bA (mB _ aT aT),h1,aY,bA (mB _ aT aT)];have:=f d i (j-i) a aT aT aT aT aT aT aT;rw [h2]at this;exact this
theorem tRot(fu:Nat)(c:1000<=fu)(data:List PP)(a m b:Int)(l:0<=a)(h:a<m)(f:m<b)(j:b<=(data.length:Int))(g:data.length<=100):Ai (xg fu data a m b) data.length:=by obtain⟨m,rfl⟩:∃k:Nat,m=(k:Int):=⟨m.toNat,aA0⟩;unfold xg;obtain⟨d,i',h1,h2,h3,p,o⟩:=nv fu c m 200 data ((m:Int)-a) (b-(m:Int)) fu aT aT aT aT aT aT g;obtain⟨e,i,n⟩:=PB fu c ((m:Int)-i') (m:Int) i' d aT aT aT aT aT aT;rw [bA (mB _ aT aT),bA (mB _ aT aT),h1,aY];simp only;rw [bA (mB _ aT aT),i,aY];exact⟨e,rfl,aA0⟩
theorem OD(x:Int)(a:0<=x)(h1:x<=100000):bN .i64 ((bN .u64 x)/2)=x/2:=by rw [IntKind.wrap_u64,Int.emod_eq_of_lt a aT,fw aT aT]
theorem tM0(fu:Nat)(data:List PP)(p:data.length<=100)(a:Int)(n:0<=a/\a<(data.length:Int))(t:Nat):∀(i j:Int) (b:Nat),j-i<=(t:Int)->t<b->0<=i->i<=j->j<=(data.length:Int)->
  ∃k,aco fu data a b i j=some k/\i<=k/\k<=j:=by
 induction t with
 |zero=>intro i j b h m o c f;obtain⟨b,rfl⟩:=cV b;rw [afk,aci,aB aT];exact⟨i,rfl,aA0,c⟩
 |succ t e=>
  intro i j b h m o c f;obtain⟨b,rfl⟩:=cV b;rw [afk,aci];by_cases d:i<j
  ·rw [aC d,bA (mB _ aT aT),OD _ aT aT];have l:0<=(i+j)/2/\(i+j)/2<(data.length:Int):=by omega
   simp only [bA l,bA n,Ht,aY];by_cases g:Rw (el data ((i+j)/2)).1 (el data a).1<0
   ·rw [aC g,bA (mB _ aT aT)];obtain⟨k,h1,h2,h3⟩:=e ((i+j)/2+1) j b aT aT aT aT f;exact⟨k,h1,aA0,h3⟩
   ·rw [aB g];obtain⟨k,h1,h2,h3⟩:=e i ((i+j)/2) b aT aT aT aT aT;exact⟨k,h1,h2,aA0⟩
  ·rw [aB d];exact⟨i,rfl,aA0,c⟩
theorem tM2(fu:Nat)(data:List PP)(p:data.length<=100)(a:Int)(n:0<=a/\a<(data.length:Int))(t:Nat):∀(i j:Int) (b:Nat),j-i<=(t:Int)->t<b->0<=i->i<=j->j<=(data.length:Int)->
  ∃k,acm fu data a b i j=some k/\i<=k/\k<=j:=by
 induction t with
 |zero=>intro i j b h m o c f;obtain⟨b,rfl⟩:=cV b;rw [afi,acg,aB aT];exact⟨i,rfl,aA0,c⟩
 |succ t e=>
  intro i j b h m o c f;obtain⟨b,rfl⟩:=cV b;rw [afi,acg];by_cases d:i<j
  ·rw [aC d,bA (mB _ aT aT),OD _ aT aT];have l:0<=(i+j)/2/\(i+j)/2<(data.length:Int):=by omega
   simp only [bA l,bA n,Ht,aY];by_cases g:Rw (el data a).1 (el data ((i+j)/2)).1<0
   ·rw [aC g];obtain⟨k,h1,h2,h3⟩:=e i ((i+j)/2) b aT aT aT aT aT;exact⟨k,h1,h2,aA0⟩
   ·rw [aB g,bA (mB _ aT aT)];obtain⟨k,h1,h2,h3⟩:=e ((i+j)/2+1) j b aT aT aT aT f;exact⟨k,h1,aA0,h3⟩
  ·rw [aB d];exact⟨i,rfl,aA0,c⟩
theorem tM1(fu:Nat)(v:Int)(t:Nat):∀(data:List PP) (k:Int) (a:Nat),v-k<=(t:Int)->t<a->0<=k->v<=(data.length:Int)->0<=v->k<=1000->data.length<=100->Ai (acn fu v a data k) data.length:=by
 induction t with
 |zero=>intro data k a h i g e c h1 f;obtain⟨a,rfl⟩:=cV a;rw [afj,ach,bA (mB _ aT aT),aB aT];exact⟨data,rfl,rfl⟩
 |succ t d=>
  intro data k a h i g e c h1 f;obtain⟨a,rfl⟩:=cV a;rw [afj,ach,bA (mB _ aT aT)];by_cases b:k<v-1
  ·have l:(0:Int)<=k/\k<(data.length:Int):=by omega
   have j:(0:Int)<=k+1/\k+1<(data.length:Int):=aA0;rw [aC b];simp only [bA l,bA j,bA (mB (k+1) aT aT),Cc];have:=d (eA (eA data k.toNat (el data (k+1))) (k+1).toNat (el data k)) (k+1) a aT aT aT aC1 c aT aC1;rw [Cc,Cc]at this;exact this
  ·rw [aB b];exact⟨data,rfl,rfl⟩
theorem tM3(fu:Nat)(v:Int)(j:0<=v)(t:Nat):∀(data:List PP) (k:Int) (a:Nat),k-v<=(t:Int)->t<a->k<(data.length:Int)->data.length<=100->Ai (acl fu v a data k) data.length:=by
 induction t with
 |zero=>intro data k a h f e d;obtain⟨a,rfl⟩:=cV a;rw [afh,acf,aB aT];exact⟨data,rfl,rfl⟩
 |succ t c=>
  intro data k a h f e d;obtain⟨a,rfl⟩:=cV a;rw [afh,acf];by_cases b:v<k
  ·have i:(0:Int)<=k/\k<(data.length:Int):=by omega
   have g:(0:Int)<=k-1/\k-1<(data.length:Int):=aA0;rw [aC b];simp only [bA i,bA g,bA (mB (k-1) aT aT),Cc];have:=c (eA (eA data k.toNat (el data (k-1))) (k-1).toNat (el data k)) (k-1) a aT aT aC1 aC1;rw [Cc,Cc]at this;exact this
  ·rw [aB b];exact⟨data,rfl,rfl⟩
theorem tM4(fu:Nat)(data:List PP)(E:data.length<=100)(a m b:Int)(F:0<=a)(D:a+b<=200)(C:0<=b)(x:0<=m)(w:m<=100)(g n:Int)(z:0<=g)(A:n<=(data.length:Int))
  (v:∀c,g<=c->c<n->0<=((a+b)/2+m-1)-c/\((a+b)/2+m-1)-c<(data.length:Int)) (t:Nat):∀(i j:Int) (d:Nat),j-i<=(t:Int)->t<d->g<=i->i<=j->j<=n->
  ∃k,ack fu data a m b d i j=some k/\i<=k/\k<=j:=by
 induction t with
 |zero=>intro i j d h B h1 e q;obtain⟨d,rfl⟩:=cV d;rw [afg,ace,aB aT];exact⟨i,rfl,aA0,e⟩
 |succ t p=>
  intro i j d h B h1 e q;obtain⟨d,rfl⟩:=cV d;rw [afg,ace];by_cases f:i<j
  ·have l:=v ((i+j)/2) aT aT;have y:0<=(i+j)/2/\(i+j)/2<(data.length:Int):=by omega
   rw [aC f,bA (mB _ aT aT),OD (i+j) aT aT,OD (a+b) aT aT];simp only [bA y,bA l,bA (mB ((a+b)/2+m-1-(i+j)/2) aT aT),Ht,aY];by_cases r:Rw (el data ((a+b)/2+m-1-(i+j)/2)).1 (el data ((i+j)/2)).1<0
   ·rw [aC r];obtain⟨k,o,u,s⟩:=p i ((i+j)/2) d aT aT aT aT aT;exact⟨k,o,u,aA0⟩
   ·rw [aB r,bA (mB _ aT aT)];obtain⟨k,o,u,s⟩:=p ((i+j)/2+1) j d aT aT aT aT q;exact⟨k,o,aA0,s⟩
  ·rw [aB f];exact⟨i,rfl,aA0,e⟩
theorem nu(z:Nat):∀(fu:Nat) (data:List PP) (a m b:Int),b-a<=(z:Int)->z+1001<=fu->0<=a->a<m->m<b->b<=(data.length:Int)->data.length<=100->Ai (M8 fu data a m b) data.length:=by
 induction z with
 |zero=>intro fu data a m b h;omega
 |succ z H=>
  intro fu data a m b h S w N L M r;obtain⟨fu,rfl⟩:∃k,fu=k+1:=⟨fu-1,aA0⟩;rw [M8,bA (mB _ aT aT)];by_cases h1:m-a=1
  ·obtain⟨k,v,D,C⟩:=tM0 fu data r a aT 200 m b fu aT aT aT aT M;obtain⟨d,B,A⟩:=tM1 fu k 200 data a fu aT aT w aT aT aT r;rw [aC h1,v,aY,B,aY,aY,Lk];exact⟨d,rfl,A⟩
  ·rw [aB h1,aY,mR,bA (mB _ aT aT)];by_cases h2:b-m=1
   ·obtain⟨k,v,D,C⟩:=tM2 fu data r m aT 200 a m fu aT aT w aT aT;obtain⟨d,B,A⟩:=tM3 fu k aT 200 data m fu aT aT aT r;rw [aC h2,v,aY,B,aY,aY,Lk];exact⟨d,rfl,A⟩
   ·rw [aB h2,aY,mR,bA (mB _ aT aT),OD (a+b) aT aT,bA (mB _ aT aT)];have q:∃p i:Int,(if(a+b)/2<m then gd (bJ ((a+b)/2+m-b)) (some ((a+b)/2+m-b,(a+b)/2))else some (a,m))=some (p,i)/\a<=p/\p<=i/\i<=m/\i<=(a+b)/2/\(∀c,p<=c->c<=i->(a+b)/2+m-c<=b/\m<=(a+b)/2+m-c):=by
     by_cases u:(a+b)/2<m
     ·exact⟨_,_,by rw [aC u,bA (mB _ aT aT)],aA0,aA0,aA0,aA0,fun c h1 h2=>by omega⟩
     ·exact⟨a,m,by rw [aB u],aA0,aA0,aA0,aA0,fun c h1 h2=>by omega⟩
    obtain⟨p,i,e,R,K,Q,P,G⟩:=q;rw [e,aY,bA (mB _ aT aT)];simp only;obtain⟨st,v,D,C⟩:=tM4 fu data r a m b w aT aT aT aT p i aT aT (fun c f g=>by have:=G c f aT;omega) 200 p i fu aT aT aT K aT;have O:=G st D C;rw [v,aY,bA (mB _ aT aT)];have t:∃d1,(((if st<m then some (decide (m<(a+b)/2+m-st))else some false)).bind fun(o:Bool)=>(bif o then((xg fu data st m ((a+b)/2+m-st)).bind fun(l:List PP)=>some l)else some data))=some d1/\d1.length=data.length:=by
     by_cases f:st<m
     ·rw [aC f,aY];by_cases g:m<(a+b)/2+m-st
      ·obtain⟨d,s,x⟩:=tRot fu aT data st m ((a+b)/2+m-st) aT f g aT r;rw [aO g,aL,s];exact⟨d,rfl,x⟩
      ·rw [aQ g];exact⟨data,rfl,rfl⟩
     ·rw [aB f];exact⟨data,rfl,rfl⟩
    obtain⟨d1,J,F⟩:=t;rw [J,aY];have y:∃d2,(((if a<st then some (decide (st<(a+b)/2))else some false)).bind fun(n:Bool)=>(bif n then((M8 fu d1 a st ((a+b)/2)).bind fun(j:List PP)=>some j)else some d1))=some d2/\d2.length=data.length:=by
     by_cases f:a<st
     ·rw [aC f,aY];by_cases g:st<(a+b)/2
      ·obtain⟨d,s,x⟩:=H fu d1 a st ((a+b)/2) aT aT w f g aT aT;rw [aO g,aL,s];exact⟨d,rfl,aA0⟩
      ·rw [aQ g];exact⟨d1,rfl,F⟩
     ·rw [aB f];exact⟨d1,rfl,F⟩
    obtain⟨d2,I,E⟩:=y;rw [I,aY];by_cases f:(a+b)/2<(a+b)/2+m-st
    ·rw [aC f,aY];by_cases g:(a+b)/2+m-st<b
     ·obtain⟨d,s,x⟩:=H fu d2 ((a+b)/2) ((a+b)/2+m-st) b aT aT aT f g aT aT;rw [aO g,aL,s];exact⟨d,rfl,aA0⟩
     ·rw [aQ g];exact⟨d2,rfl,E⟩
    ·rw [aB f];exact⟨d2,rfl,E⟩
open Go.Lib renaming cut → dA, index → bR
theorem tSt0(n:Nat)(t:Nat):∀(data:List PP) (a b c:Nat),n<b+t->t<c->a<=n->n=data.length->data.length<=100->
  ∃d a':_,gw FU (n:Int) c data (a:Int) (b:Int)=some (d,((a':Nat):Int))/\d.length=data.length/\a'<=n:=by
 induction t with
 |zero=>intro data a b c h k e j f;obtain⟨c,rfl⟩:=cV c;rw [adk,xm,aB aT];exact⟨data,a,rfl,rfl,e⟩
 |succ t i=>
  intro data a b c h k e j f;obtain⟨c,rfl⟩:=cV c;rw [adk,xm];by_cases g:(b:Int)<=(n:Int)
  ·obtain⟨d,h1,h2⟩:=oa FU aA4 a b data aT aT f;rw [aC g,h1,aY,bA (mB _ aT aT)];have:=i d b (b+20) c aT aT aT aT aT;rw [h2]at this;exact this
  ·rw [aB g];exact⟨data,a,rfl,rfl,e⟩
theorem tSt2(n f:Nat)(q:1<=f)(k:f<=1000)(t:Nat):∀(data:List PP) (a b c:Nat),n<b+t->t<c->a<=n->b=a+2*f->n=data.length->data.length<=100->
  ∃d a':_,xj FU (n:Int) (f:Int) c data (a:Int) (b:Int)=some (d,((a':Nat):Int))/\d.length=data.length/\a'<=n:=by
 induction t with
 |zero=>intro data a b c h p i g o j;obtain⟨c,rfl⟩:=cV c;rw [aft,acr,aB aT];exact⟨data,a,rfl,rfl,i⟩
 |succ t m=>
  intro data a b c h p i g o j;obtain⟨c,rfl⟩:=cV c;rw [aft,acr];by_cases l:(b:Int)<=(n:Int)
  ·obtain⟨d,h1,h2⟩:=nu 100 FU data (a:Int) ((a:Int)+(f:Int)) (b:Int) aT aA4 aT aT aT aT j;rw [aC l,bA (mB _ aT aT),h1,aY,bA (mB _ aT aT),bA (mB _ aT aT)];have:=m d b (b+2*f) c aT aT aT rfl aT aT;rw [h2]at this;have e:(b:Int)+2*(f:Int)=((b+2*f:Nat):Int):=aA0;rw [e];exact this
  ·rw [aB l];exact⟨data,a,rfl,rfl,i⟩
theorem tSt1(n:Nat)(t:Nat):∀(data:List PP) (a b:Nat),n<a+t->t<b->1<=a->a<=200->n=data.length->data.length<=100->Ai (gx FU (n:Int) b data (a:Int)) data.length:=by
 induction t with
 |zero=>intro data a b h p h1 h2 g i;obtain⟨b,rfl⟩:=cV b;rw [adj,xn,aB aT];exact⟨data,rfl,rfl⟩
 |succ t f=>
  intro data a b h p h1 h2 g i;obtain⟨b,rfl⟩:=cV b;rw [adj,xn];by_cases k:(a:Int)<(n:Int)
  ·obtain⟨d,a',q,l,r⟩:=tSt2 n a h1 aT 200 data 0 (2*a) FU aT aA4 aT aT g i;have c:xj FU (n:Int) (a:Int) FU data (0:Int) ((2:Int)*(a:Int))=some (d,((a':Nat):Int)):=q;rw [aC k,bA (mB _ aT aT),c,aY];simp only;rw [bA (mB _ aT aT)];have e:(a:Int)*2=((a*2:Nat):Int):=by omega
   by_cases j:(a':Int)+(a:Int)<(n:Int)
   ·obtain⟨d2,o,m⟩:=nu 100 FU d (a':Int) ((a':Int)+(a:Int)) (n:Int) aT aA4 aT aT aT aT aT;rw [aC j,o,aY,bA (mB _ aT aT),e];have:=f d2 (a*2) b aT aT aT aT aT aT;rw [m,l]at this;exact this
   ·rw [aB j,bA (mB _ aT aT),e];have:=f d (a*2) b aT aT aT aT aT aT;rw [l]at this;exact this
  ·rw [aB k];exact⟨data,rfl,rfl⟩
theorem vP(l:List PP)(f:l.length<=100):Ai (CZ FU l) l.length:=by unfold CZ vv xu xi ada;obtain⟨d,a',g,k,j⟩:=tSt0 l.length 200 l 0 20 FU aT aA4 aT rfl f;have b:gw FU (l.length:Int) FU l (0:Int) (20:Int)=some (d,((a':Nat):Int)):=g;obtain⟨d2,e,i⟩:=oa FU aA4 a' l.length d aT aT aT;obtain⟨d3,c,h⟩:=tSt1 l.length 200 d2 20 FU aT aA4 aT aT aT aT;have a:gx FU (l.length:Int) FU d2 (20:Int)=some d3:=c;rw [aY,Ir l aT,aY,b,aY];simp only;rw [e,aY,a,aY,aY,aY];exact⟨d3,rfl,aA0⟩
theorem Lt(l:List PP)(d:l.length<20):CZ FU l=some (fV l):=by
 unfold CZ vv xu xi ada;obtain⟨m,a⟩:∃m,FU=m+1:=⟨FU-1,by rw [fR]⟩
 have c:gw FU (l.length:Int) FU l (0:Int) (20:Int)=some (l,0):=by
  have:∀k,gw FU (l.length:Int) (k+1) l (0:Int) (20:Int)=some (l,0):=fun k=>by rw [adk,xm,aB aT]
  have:=this m;rw [<-a]at this;exact this
 have b:gx FU (l.length:Int) FU (fV l) (20:Int)=some (fV l):=by
  have:∀k,gx FU (l.length:Int) (k+1) (fV l) (20:Int)=some (fV l):=fun k=>by rw [adj,xn,aB aT]
  have:=this m;rw [<-a]at this;exact this
 rw [aY,Ir l aT,aY,c,aY];simp only;rw [ch l aT,aY,b];rfl
theorem Q9(c:UInt8):∀v:aA,(bR v [c]= -1/\∀b∈v,b≠c)\/(∃f a,v=f++c::a/\(∀b∈f,b≠c)/\bR v [c]=(f.length:Int))
 |[]=>.inl ⟨rfl,aA2⟩
 |b::l=>by
  rw [jg];have e:([c]:aA).isPrefixOf (b::l)=(c==b):=aF6;rw [e];by_cases h:b=c
  ·subst h;right;exact⟨[],l,rfl,aA2,by rw [aC aA2];rfl⟩
  ·rw [aB (by simpa using fun x=>h x.symm)];rcases Q9 c l with⟨h1,h2⟩|⟨f,a,h1,h2,h3⟩
   ·left;rw [aC h1];exact⟨rfl,fun x hx=>by rcases aN.1 hx with rfl|hx;exact h;exact h2 x hx⟩
   ·right;refine⟨b::f,a,by rw [h1];rfl,fun x hx=>by rcases aN.1 hx with rfl|hx;exact h;exact h2 x hx, ?_⟩;rw [aB aT,h3,cF];omega
def GV(v:aA):Bool:=mJ (dA v [47]).1&&(!(dA v [47]).2.2||mJ (dA v [47]).2.1)
theorem Qd(l:List PP)(b:∀p∈l,p.1.length<=4194304/\p.2.1.length<=4194304):(tY l).1.length<=256000000:=by
 unfold tY;split
 ·simp
 ·rename_i h;cases a:Qf [] l with
  |none=>simp
  |some t=>have:=Qe l [] t b a;simp only;omega
def Fu(x:aA×List PP):aA×UInt8:=if GV x.1=true/\(tY (fV x.2)).2=0 then(x.1++(tY (fV x.2)).1,0)else([],2)
theorem Wd(l:List PP)(h:16<l.length):LK FU l=some ([],2):=by unfold LK;rw [aC aT]
theorem Qa(x:aA×List PP)(h1:x.1.length<=4194304)(s:x.2.length<=40)(o:∀p∈x.2,p.1.length<=4194304/\p.2.1.length<=4194304):arb FU x=some (Fu x):=by
 have b:∀p∈fV x.2,p.1.length<=4194304/\p.2.1.length<=4194304:=fun p l=>o p (lU _ p l);have n:=sE x.2;have k:=Qd (fV x.2) b;have u:=Rs x.1 [47];unfold arb Fu;rw [bA aT,U3 _ aT,aY];have e:(bif (!mJ (dA x.1 [47]).1)then some true else(bif ((dA x.1 [47]).2.2)then((MQ FU ((dA x.1 [47]).2.1)).bind fun(g:Bool)=>some (!g))else some false))=some (!GV x.1):=by unfold GV;rw [U3 _ aT];cases mJ (dA x.1 [47]).1<;>cases(dA x.1 [47]).2.2<;>simp
 rw [e,aY];cases t:GV x.1 with
 |false=>rw [Cb,aL,aB (fun h=>absurd h.1 aA1)]
 |true=>
  rw [mI,aH];obtain⟨y,i,j⟩:∃y,((CZ FU x.2).bind fun(f:List PP)=>((LK FU f).bind fun(a:(aA×UInt8))=>(if a.2=(0:UInt8)then(gd (x.1.length+a.1.length<=9223372036854775807)<|some (x.1++a.1,(0:UInt8)))else some (([]:aA),(2:UInt8)))))=(if(tY (fV x.2)).2=(0:UInt8)then(gd (x.1.length+(tY (fV x.2)).1.length<=9223372036854775807)<|some (x.1++(tY (fV x.2)).1,(0:UInt8)))else some (([]:aA),(2:UInt8)))/\y=0:=by
   refine⟨0, ?_,rfl⟩;by_cases q:16<x.2.length
   ·obtain⟨d,r,v⟩:=vP x.2 aT;have m:tY (fV x.2)=([],2):=by unfold tY;rw [aC aT]
    rw [r,aY,Wd d aT,aY,m]
   ·rw [Lt x.2 aT,aY,aza _ b,aY]
  rw [i];by_cases c:(tY (fV x.2)).2=0
  ·rw [aC c,bA aT,aC ⟨rfl,c⟩]
  ·rw [aB c,aB (fun h=>c h.2)]
theorem Gd(s:aA):∀(f:Nat) (l:List PP) (i:Nat),l.length<=16->(nE s f l i).1.length<=16
 |0,_,_,_=>by simp [nE]
 |f+1,l,i,h=>by
  rw [nE];split
  ·exact h
  ·split
   ·simp
   ·split
    ·split
     ·rename_i b;have a:=((ou l _).1 b).2;exact Gd s f _ _ aA9
     ·simp
    ·simp
theorem Nc(v:aA):(lT v).1.2.length<=16:=by
 unfold lT;split
 ·simp
 ·split
  ·exact Gd _ _ _ _ aA2
  ·simp
end Go.Wk
set_option maxRecDepth 20000
namespace Go.Wk
open Go.Px
open List renaming length → aS
theorem I5{c:UInt8}(h:jO c=false):c<48\/(57:UInt8)<c:=by
 by_cases h1:c<48
 ·exact .inl h1
 ·by_cases h2:(57:UInt8)<c
  ·exact .inr h2
  ·exfalso;have:jO c=true:=by rw [nM];rw [XM]at h1 h2;have b:(48:UInt8).toNat=48:=rfl;have a:(57:UInt8).toNat=57:=rfl;omega
   rw [this]at h;cases h
theorem VJ{c:UInt8}(h:jO c=true):(c-48).toNat=c.toNat-48/\¬c<48/\¬(57:UInt8)<c/\c.toNat<=57:=by
 have b:=(nM c).1 h;refine⟨?_, ?_, ?_,aA0⟩
 ·have a:(48:UInt8)<=c:=by rw [tK];show 48<=c.toNat;omega
  rw [LP _ _ a];rfl
 ·rw [XM];show¬c.toNat<48;omega
 ·rw [XM];show¬57<c.toNat;omega
def hK(s:aA):Int×UInt8:=
 if s.length<1\/10<aS s\/s.all jO=false then(0,5)else if 2147483647<tH s then(0,3)else((tH s:Int),0)
theorem BC(s:aA)(q:aS s<=18)(l:aA):∀(p:aA) (a:Nat),s=p++l->aS l<a->p.all jO=true->
  vd FU s a (tH p:Int) (aS p:Int)=some (if l.all jO=true then .inl (tH s:Int)else .inr ((0:Int),(5:UInt8))):=by
 induction l with
 |nil=>intro p a h g f;obtain⟨a,rfl⟩:=cV a;rw [kP]at h;subst h;rw [asi,vg,aB aT];rfl
 |cons c l m=>
  intro p a h g f;obtain⟨a,rfl⟩:=cV a;have b:(0:Int)<=(aS p:Int)/\(aS p:Int)<(aS s:Int):=by rw [h,cB,cF];omega
  have i:at_ s (aS p:Int)=c:=by rw [h,nQ]
  simp only [cF]at g;cases d:jO c with
  |false=>
   rw [asi,vg,aC b.2,bA b,i,DL,d,Bool.false_and,aB (show¬false=true by decide)];rcases I5 d with h1|h1
   ·rw [aC h1,aY,aL]
   ·by_cases h2:c<48
    ·rw [aC h2,aY,aL]
    ·rw [aB h2,bA b,aO h1,aY,aL]
  |true=>
   obtain⟨hx,k,j,n⟩:=VJ d;have o:=Ae 17 p (by have:=bP aS h;rw [cB,cF]at this;omega) f;rw [asi,vg,aC b.2,bA b,i,aB k,bA b,aQ j,aY,aH,hx,bA (adc _ aT aT),bA b,bA (adc _ aT aT),bA (adc _ aT aT)];have e:(10:Int)*(tH p:Int)+((c.toNat-48:Nat):Int)=(tH (p++[c]):Int):=by rw [yx];omega
   rw [e,XW p c,DL,d,Kf];exact m (p++[c]) a aA8 aT (by rw [mN,f];simpa using d)
theorem sB(s:aA):U7 FU s=some (hK s):=by
 unfold U7 hK;by_cases h1:aS s<1
 ·rw [aC aT,aY,aL,aC (.inl h1)]
 ·rw [aB aT,aY];by_cases h2:10<aS s
  ·rw [aO aT,aL,aC (.inr (.inl h2))]
  ·rw [aQ aT,aH];have:=BC s aT s [] FU aA2 aA4 aA2;change vd FU s FU (0:Int) (0:Int)=_ at this;rw [this,aY];cases h3:s.all jO with
   |false=>rw [aB (show¬false=true by decide),Lk,aC (.inr (.inr rfl))]
   |true=>
    rw [aC rfl,mR,aB (show¬(aS s<1\/10<aS s\/true=false)by rintro(h|h|h)<;>first|omega|cases h)];by_cases a:2147483647<tH s
    ·rw [aC aT,aC a]
    ·rw [aB aT,aB a]
def oD(s:aA):Int×UInt8:=if(hK s).2=0/\((hK s).1<1\/65535<(hK s).1)then(0,3)else hK s
end Go.Wk
set_option maxRecDepth 100000
namespace Go.Wk
open Go.Px
open Go.Lib renaming decDigits → yG, itoa → gF
open UInt8 renaming ofNat → rO
theorem ej:∀n:Fin 10,jO (rO (48+n.val))=true/\(rO (48+n.val)).toNat-48=n.val/\sub ([48,49,50,51,52,53,54,55,56,57]:aA) (n.val:Int) ((n.val:Int)+1)=[rO (48+n.val)]:=aA3
theorem CD(n:Nat)(h:n<10):jO (rO (48+n))=true/\(rO (48+n)).toNat-48=n/\sub ([48,49,50,51,52,53,54,55,56,57]:aA) (n:Int) ((n:Int)+1)=[rO (48+n)]:=ej ⟨n,h⟩
theorem GU:∀(k n:Nat),n<10^(k+1)->(yG n).all jO=true/\tH (yG n)=n/\1<=(yG n).length/\(yG n).length<=k+1:=by
 intro k;induction k with
 |zero=>intro n h;have h:n<10:=aB0;have:=CD n h;rw [yG,dif_pos h];refine⟨by simpa using this.1, ?_,aA2,aA2⟩;show 10*0+_=n;omega
 |succ k b=>
  intro n h;rw [yG];by_cases h1:n<10
  ·have:=CD n h1;rw [dif_pos h1];refine⟨by simpa using this.1, ?_,aA2,aA2⟩;show 10*0+_=n;omega
  ·have a:=CD (n%10) (Nat.mod_lt _ aA1);have:=b (n/10) (by rw [Nat.pow_succ]at h;omega);rw [dif_neg h1];refine⟨by rw [mN,this.1];simpa using a.1, ?_,aA2,by simp;omega⟩;rw [yx,this.2.1,a.2.1];omega
theorem Hh(n:Nat):gF (n:Int)=yG n:=by unfold gF;rw [aB aA0,mP]
theorem lS(n:Int)(b:0<=n)(h:n<=65535):hK (gF n)=(n,0)/\1<=(gF n).length/\(gF n).length<=5/\(gF n).all jO=true:=by obtain⟨m,rfl⟩:∃m:Nat,n=(m:Int):=⟨n.toNat,aA0⟩;obtain⟨h1,h2,h3,a⟩:=GU 4 m aA0;rw [Hh];refine⟨?_,h3,a,h1⟩;unfold hK;rw [h1,h2,aB (by rintro(h|h|h)<;>first|omega|cases h),aB aA0]
open Go.Lib renaming decDigits → yG, index → bR
open Int renaming toNat → aR
open List renaming drop → bK, length → aS
theorem JK{l:List Int}{n i:Int}(h:i∈l):i∈Sm l n:=by
 unfold Sm;split
 ·exact h
 ·simp [h]
theorem uC(l:List Int)(n:Int):n∈Sm l n:=by
 unfold Sm;split
 ·assumption
 ·simp
theorem JL(l:List Int)(n:Int):(Sm l n).length<=aS l+1:=by unfold Sm;split<;>simp
def jB:aA->Nat->Int->List Int->List Int
 |[],_,_,acc=>acc
 |c::s,x,n,acc=>if c<48\/57<c\/1125899906842624<n\/(0<x/\n=0)then acc else jB s (x+1) (10*n+((c-48).toNat:Int)) (Sm acc (10*n+((c-48).toNat:Int)))
theorem Lu(s:aA):∀(x:Nat) (n:Int) (acc:List Int) (i:Int),i∈acc->i∈jB s x n acc:=by
 induction s with
 |nil=>intro x n acc i h;exact h
 |cons c s a=>
  intro x n acc i h;unfold jB;split
  ·exact h
  ·exact a _ _ _ _ (JK h)
theorem IM(s:aA):∀(x:Nat) (n:Int) (acc:List Int),(jB s x n acc).length<=aS acc+aS s:=by
 induction s with
 |nil=>intro x n acc;exact eJ _
 |cons c s a=>
  intro x n acc;unfold jB;split
  ·omega
  ·have h1:=a (x+1) (10*n+((c-48).toNat:Int)) (Sm acc (10*n+((c-48).toNat:Int)));have h2:=JL acc (10*n+((c-48).toNat:Int));rw [cF];omega
theorem ei:∀d:Fin 10,¬rO (48+d.val)<48/\¬57<rO (48+d.val)/\(rO (48+d.val)-48).toNat=d.val:=aA3
theorem Fh(d:Nat)(a:d<10)(x:Nat)(n:Int)(c:n<=1125899906842624)(hx:0<x->n≠0)(rest:aA)(acc:List Int):
  jB (rO (48+d)::rest) x n acc=jB rest (x+1) (10*n+(d:Int)) (Sm acc (10*n+(d:Int))):=by
 obtain⟨h1,h2,h3⟩:=ei ⟨d,a⟩;have b:¬(rO (48+d)<48\/57<rO (48+d)\/1125899906842624<n\/(0<x/\n=0)):=by
  rintro(h|h|h|h)
  ·exact h1 h
  ·exact h2 h
  ·omega
  ·exact hx h.1 h.2
 rw [jB,aB b,h3]
theorem PZ:∀(k u:Nat),u<10^(k+1)->u<=11258999068426240->∀(rest:aA) (acc:List Int),∃a,(u:Int)∈a/\jB (yG u++rest) 0 0 acc=jB rest (yG u).length (u:Int) a:=by
 intro k;induction k with
 |zero=>
  intro u h c rest acc;have h:u<10:=aB0;rw [yG,dif_pos h,YF,Fh u h 0 0 aA1 (by intro h;omega)];refine⟨Sm acc (10*0+(u:Int)), ?_, ?_⟩
  ·have:=uC acc (10*0+(u:Int));simpa using this
  ·simp
 |succ k b=>
  intro u h c rest acc;by_cases h1:u<10
  ·rw [yG,dif_pos h1,YF,Fh u h1 0 0 aA1 (by intro h;omega)];refine⟨Sm acc (10*0+(u:Int)), ?_, ?_⟩
   ·have:=uC acc (10*0+(u:Int));simpa using this
   ·simp
  ·obtain⟨a,_,h3⟩:=b (u/10) (by rw [Nat.pow_succ]at h;omega) aA0 (rO (48+u%10)::rest) acc;have e:yG u=yG (u/10)++[rO (48+u%10)]:=by conv=>lhs;rw [yG,dif_neg h1]
   rw [e,iI,YF,h3,Fh (u%10) (Nat.mod_lt _ aA1) _ _ aA0 (by intro _;omega)];have d:10*((u/10:Nat):Int)+((u%10:Nat):Int)=(u:Int):=aA0;rw [d,cB];exact⟨_,uC _ _,rfl⟩
abbrev pV:List UInt8:=[45,45,98]
theorem aq(body s:aA)(j:bK (aR (bR body pV+3)) body=s)(x:aS s<=1000000000)(q:aA):∀(p:aA) (a:Nat) (n:Int) (acc:List Int),s=p++q->aS q<a->0<=n->n<=11258999068426249->
  kl FU body a n (aS p:Int) acc=some (jB q p.length n acc):=by
 have d:((aS body-aR (bR body pV+3):Nat):Int)=(aS s:Int):=by rw [<-j,jR]
 induction q with
 |nil=>intro p a n acc h k v h1;obtain⟨a,rfl⟩:=cV a;rw [atk,uz,d,aB aA8];rfl
 |cons c q l=>
  intro p a n acc h k v h1;obtain⟨a,rfl⟩:=cV a;have i:=bP aS h;simp only [cB,cF]at i k;have jQ:at_ s (aS p:Int)=c:=by rw [h];simp [at_]
  have r:((aS p:Int)+1)=((p++[c]).length:Int):=aA2;have w:(((c-48:UInt8).toNat:Nat):Int)<=255:=by have:=(c-48).toNat_lt;omega
  rw [atk,uz,d,aC aA0,j,bA aA0,bA aA0,jQ,jB];by_cases b:c<48
  ·rw [aC b,aC (.inl b)];rfl
  ·by_cases e:57<c
   ·rw [aB b,aC e,aC (.inr (.inl e))];rfl
   ·by_cases g:1125899906842624<n
    ·rw [aB b,aB e,aC g,aC (.inr (.inr (.inl g)))];rfl
    ·have y:(c-48:UInt8).toNat<=9:=by
      have A:48<=c.toNat:=by have:=UInt8.not_lt.1 b;exact this
      have z:c.toNat<=57:=UInt8.not_lt.1 e;rw [LP _ _ (UInt8.not_lt.1 b)];show c.toNat-48<=9;omega
     by_cases f:0<(aS p:Int)/\n=0
     ·rw [aB b,aB e,aB g,aC f.1,aC (.inr (.inr (.inr ⟨aA0,f.2⟩))),aY,aO f.2];rfl
     ·have t:¬(c<48\/57<c\/1125899906842624<n\/(0<aS p/\n=0)):=by
       rintro(h|h|h|h)
       ·exact b h
       ·exact e h
       ·exact g h
       ·exact f ⟨aA0,h.2⟩
      have m:(if(0:Int)<(aS p:Int)then some (decide (n=0))else some false)=some false:=by
       split
       ·rename_i u;rw [aQ (fun h=>f ⟨u,h⟩)]
       ·rfl
      have o:=l (p++[c]) a (10*n+((c-48).toNat:Int)) (Sm acc (10*n+((c-48).toNat:Int))) aA8 aA0 aA0 aA0;rw [aB b,aB e,aB g,m,aB t,aY,aH,bA (adc _ aA0 aA0),bA (adc _ aA0 aA0),bA (adc _ aA0 aA0),r,o];simp
theorem RX{v d e:aA}(h:pV++v=d++(pV++e)):d=[]\/∃w,d=pV++w:=by
 match d,h with
 |[],_=>exact .inl rfl
 |[a],h=>simp [pV]at h
 |[a,b],h=>simp [pV]at h
 |a::b::c::w,h=>simp [pV]at h;exact .inr ⟨w,by simp [pV,<-h.1,<-h.2.1,<-h.2.2.1]⟩
theorem F8:∀s:aA,(bR s pV= -1/\∀u v,s≠u++(pV++v))\/(∃u v,s=u++(pV++v)/\bR s pV=(aS u:Int)/\∀c d,s=c++(pV++d)->c=u\/∃w,c=u++(pV++w))
 |[]=>.inl ⟨rfl,fun u v h=>by simp [pV]at h⟩
 |b::l=>by
  rw [jg];by_cases e:List.isPrefixOf pV (b::l)=true
  ·obtain⟨v,f⟩:=Jw.1 e;refine .inr ⟨[],v,f.symm,by rw [aC e];rfl,fun c d h=> ?_⟩;rw [<-f]at h;exact RX h
  ·rw [aB e];have g:∀u v,b::l=u++(pV++v)->∃u',u=b::u'/\l=u'++(pV++v):=by
    intro u v h;cases u with
    |nil=>exact absurd (Jw.2 ⟨v,h.symm⟩) e
    |cons a u=>simp only [LX,fX]at h;exact⟨u,by rw [h.1],h.2⟩
   rcases F8 l with⟨h1,h2⟩|⟨u,v,h1,h2,h3⟩
   ·refine .inl ⟨by rw [aC h1],fun u v h=> ?_⟩;obtain⟨u',_,h⟩:=g u v h;exact h2 u' v h
   ·refine .inr ⟨b::u,v,by rw [h1];rfl,by rw [aB aA0,h2];simp,fun c d h=> ?_⟩;obtain⟨u',rfl,i⟩:=g c d h;rcases h3 u' d i with rfl|⟨w,rfl⟩
    ·exact .inl rfl
    ·exact .inr ⟨w,rfl⟩
def pT:Nat->aA->List Int->List Int
 |0,_,acc=>acc
 |k+1,b,acc=>if 0<=bR b pV then pT k (bK (aR (bR b pV+3)) b) (jB (bK (aR (bR b pV+3)) b) 0 0 acc)else acc
theorem VG{u v:aA}{i:Int}(h:i=(aS u:Int)):bK (aR (i+3)) (u++(pV++v))=v:=by
 have e:aR (i+3)=(u++pV).length:=by rw [h];simp [pV];omega
 rw [e,<-iI,XJ]
theorem zK:∀(k:Nat) (b:aA) (acc:List Int) (i:Int),i∈acc->i∈pT k b acc
 |0,_,_,_,h=>h
 |k+1,b,acc,i,h=>by
  unfold pT;split
  ·exact zK k _ _ _ (Lu _ _ _ _ _ h)
  ·exact h
theorem Mn:∀(k:Nat) (b:aA) (acc:List Int),(pT k b acc).length<=aS acc+aS b*aS b
 |0,_,_=>Nat.le_add_right _ _
 |k+1,b,acc=>by
  unfold pT;rcases F8 b with⟨h1,_⟩|⟨u,v,h1,h2,_⟩
  ·rw [h1,aB aA1];exact Nat.le_add_right _ _
  ·rw [aC aA0,h1,VG (by rw [<-h1];exact h2)];have e:=Mn k v (jB v 0 0 acc);have d:=IM v 0 0 acc;have a:(u++(pV++v)).length=aS u+3+aS v:=by simp [pV];omega
   have c:aS v*aS v+aS v<=(aS u+3+aS v)*(aS u+3+aS v):=by have:aS v*(aS v+1)<=(aS u+3+aS v)*(aS u+3+aS v):=XF aA0 aA0;rw [Nat.mul_succ]at this;exact this
   rw [a];omega
theorem Mm(n:Nat)(d:n<=11258999068426240)(f:n<10^18):∀(k:Nat) (b:aA) (acc:List Int) (u rest:aA),aS b<k->b=u++(pV++(yG n++rest))->(n:Int)∈pT k b acc
 |0,_,_,_,_,h,_=>absurd h (Aw _)
 |k+1,b,acc,m,rest,e,a=>by
  unfold pT;rcases F8 b with⟨h1,h2⟩|⟨u,v,h1,h2,h3⟩
  ·exact absurd a (h2 _ _)
  ·have i:bK (aR (bR b pV+3)) b=v:=by
    conv=>lhs;rw [h1]
    exact VG (by rw [<-h1];exact h2)
   rw [aC aA0,i];rcases h3 _ _ a with rfl|⟨w,rfl⟩
   ·have c:v=yG n++rest:=by rw [h1]at a;exact oO (oO a)
    obtain⟨g,l,j⟩:=PZ 17 n f d rest acc;rw [c,j];exact zK _ _ _ _ (Lu _ _ _ _ _ l)
   ·have c:v=w++(pV++(yG n++rest)):=by rw [h1,iI,iI]at a;exact oO (oO a)
    refine Mm n d f k v _ w rest ?_ c;rw [h1]at e;simp [pV]at e;omega
theorem RS:∀(c:Nat) (b:aA) (acc:List Int),aS b<c->aS b<=1000000->ui FU c b acc=some (pT c b acc)
 |0,_,_,h,_=>absurd h (Aw _)
 |c+1,b,acc,h,k=>by
  rw [ayh,zz,bA aA6];unfold pT;rcases F8 b with⟨h1,_⟩|⟨u,v,h1,h2,_⟩
  ·have g:bR b [45,45,98]= -1:=h1;rw [g,aB aA1,aB aA1]
  ·have f:bR b [45,45,98]=(aS u:Int):=h2;have i:bK (aR (bR b pV+3)) b=v:=by
    conv=>lhs;rw [h1]
    exact VG (by rw [<-h1];exact h2)
   have j:aS b=aS u+3+aS v:=by rw [h1];simp [pV];omega
   have d:=aq b v i aA0 v [] FU 0 acc rfl aA4 aA1 aA1;have e:bK (aR ((aS u:Int)+3)) b=v:=by rw [<-h2];exact i
   have a:kl FU b FU 0 0 acc=some (jB v 0 0 acc):=d;rw [aC aA0,f,bA aA0,bA (adc _ aA0 aA0),bA aA0,a,aY,e,RS c v _ aA0 aA0,aC aA0]
theorem AX:∀(n:Nat) (v:List Int),(∀i:Nat,i<n->(i:Int)∈v)->n<=aS v
 |0,_,_=>dH _
 |n+1,v,h=>by have h1:=h n (sL _);have h2:=AX n (v.erase (n:Int)) fun i a=>(List.mem_erase_of_ne aA0).2 (h i aA0);have h3:=List.length_erase_of_mem h1;have b:0<aS v:=List.length_pos_of_mem h1;omega
theorem fi(v:List Int)(k:aS v<=1000000000000):∀(b n:Nat),(∀i:Nat,i<n->(i:Int)∈v)->aS v-n<b->∃m:Nat,lb FU v b (n:Int)=some (m:Int)/\(m:Int)∉v/\m<=aS v:=by
 intro b;induction b with
 |zero=>intro n _ h;exact absurd h (Aw _)
 |succ b f=>
  intro n d o;have j:=AX n v d;rw [aur,alt];by_cases h:(n:Int)∈v
  ·have a:∀i:Nat,i<n+1->(i:Int)∈v:=by
    intro i l;by_cases c:i=n
    ·rw [c];exact h
    ·exact d i aA0
   have g:=AX (n+1) v a;have e:(n:Int)+1=((n+1:Nat):Int):=aA0;rw [aC h,bA (adc _ aA0 aA0),e];exact f (n+1) a aA0
  ·exact⟨n,by rw [aB h],h,j⟩
theorem pw(b:aA)(acc:List Int)(a:aS b<=20000):tq FU acc b=some (pT FU b acc):=by unfold tq;exact RS FU b acc aA4 aA0
theorem fj(parts:List (List (aA×aA)×List UInt8))(t:aS parts<=20)(q:List (List (aA×aA)×List UInt8)):∀(p:List (List (aA×aA)×List UInt8)) (b:Nat) (acc:List Int),parts=p++q->aS q<b->(∀x∈q,aS x.2<=20000)->
  ∃r,la FU parts b (aS p:Int) acc=some r/\(∀i∈acc,i∈r)/\r.length<=aS acc+aS q*400000000/\∀x∈q,∀(u rest:aA) (n:Nat),n<=11258999068426240->x.2=u++(pV++(yG n++rest))->(n:Int)∈r:=by
 induction q with
 |nil=>intro p b acc h l _;obtain⟨b,rfl⟩:=cV b;refine⟨acc, ?_,fun _ h=>h,aA2,fun x hx=>by cases hx⟩;rw [apv,vz,aB aA8]
 |cons a q m=>
  intro p b acc h l j;obtain⟨b,rfl⟩:=cV b;have d:=bP aS h;simp only [cB,cF]at d l;have f:(0:Int)<=(aS p:Int)/\(aS p:Int)<(aS parts:Int):=aA0;have o:el parts (aS p:Int)=a:=aB5;have g:=j a aA2;have e:((aS p:Int)+1)=((p++[a]).length:Int):=aA2;obtain⟨r,h1,h2,h3,s⟩:=m (p++[a]) b (pT FU a.2 acc) aA8 aA0 fun x hx=>j x (by simp [hx]);refine⟨r, ?_,fun i e=>h2 i (zK _ _ _ _ e), ?_, ?_⟩
  ·rw [apv,vz,aC f.2,bA f,bA f,o,pw _ _ g,aY,bA (adc _ aA0 aA0),e,h1]
  ·have w:=Mn FU a.2 acc;have v:aS a.2*aS a.2<=20000*20000:=XF g g;rw [cF,gY];omega
  ·intro x hx u rest n k c;rcases aN.1 hx with rfl|hx
   ·exact h2 _ (Mm n k aA0 FU _ acc u rest aA4 c)
   ·exact s x hx u rest n k c
theorem ta(l:List (List (aA×aA)×List UInt8))(d:aS l<=20)(c:∀x∈l,aS x.2<=20000):
  ∃m:Nat,kd FU l=some (98::yG m)/\m<=8000000000/\∀x∈l,∀u rest:aA,x.2≠u++(pV++(yG m++rest)):=by
 obtain⟨r,h1,_,h3,j⟩:=fj l d l [] FU [] rfl aA4 c;simp only [iO,Dh]at h3;have k:aS r<=8000000000:=aA0;obtain⟨m,h,g,o⟩:=fi r aA0 FU 0 (fun i e=>absurd e (Aw _)) aA4;have n:=(GU 17 m aA0).2.2.2;refine⟨m, ?_,aA0,fun x hx u rest f=>g (j x hx u rest m aA0 f)⟩;have b:la FU l FU (0:Int) []=some r:=h1;have a:lb FU r FU (0:Int)=some (m:Int):=h;unfold kd;rw [b,aY,a,aY,bA (adc _ aA0 aA0),Hh,bA aA6];rfl
open List renaming length → aS
abbrev PL:=List (List (aA×aA)×List UInt8)
theorem ID(s:aA)(k m:Nat)(h:k+m<=aS s):s=s.take k++(sub s (k:Int) ((k:Int)+(m:Int))++s.drop (k+m)):=by
 unfold sub;have e:aR ((k:Int)+(m:Int))=k+m:=aA0;simp only [mP,e]
 conv=>lhs;rw [<-LZ k s,<-LZ m (s.drop k),MA]
 congr 2;first|rfl|(rw [XI];congr 1;omega)|(congr 1;omega)
theorem gf(l:PL)(y:aA)(i:Int)(g:aS y<=70)(n:(el l i).2.length<=20000)(d:∀u rest,(el l i).2≠u++(([45,45]++y)++rest)):∀(a k:Nat),(el l i).2.length+1-k<a->k<=20001->
  lq FU l y i a (k:Int)=some (.inl ()):=by
 intro a;induction a with
 |zero=>intro k h;exact absurd h (Aw _)
 |succ a c=>
  intro k m j;rw [asq,ajq,bA (adc _ aA0 aA0),bA (adc _ aA0 aA0)];by_cases h:(k:Int)+2+(aS y:Int)<=((el l i).2.length:Int)
  ·have e:(k:Int)+2+(aS y:Int)=(k:Int)+((2+aS y:Nat):Int):=by omega
   have b:¬sub (el l i).2 (k:Int) ((k:Int)+2+(aS y:Int))=([45,45]:aA)++y:=by intro h2;have h3:=ID (el l i).2 k (2+aS y) aA0;rw [<-e,h2]at h3;exact d _ _ h3
   have f:(k:Int)+1=((k+1:Nat):Int):=aA0;rw [aC h,bA (adc _ aA0 aA0),bA (adc _ aA0 aA0),bA aA0,bA aA6,aB b,bA (adc _ aA0 aA0),f];exact c (k+1) aA0 aA0
  ·rw [aB h]
theorem gg(l:PL)(y:aA)(r:aS l<=20)(m:aS y<=70)(j:∀x∈l,aS x.2<=20000)(n:∀x∈l,∀u rest,x.2≠u++(([45,45]++y)++rest))(q:PL):∀(p:PL) (b:Nat),l=p++q->aS q<b->
  ll FU l y b (aS p:Int)=some (.inl ()):=by
 induction q with
 |nil=>intro p b h i;obtain⟨b,rfl⟩:=cV b;rw [anj,wo,aB aA8]
 |cons a q k=>intro p b h i;obtain⟨b,rfl⟩:=cV b;have d:=bP aS h;simp only [cB,cF]at d i;have c:(0:Int)<=(aS p:Int)/\(aS p:Int)<(aS l:Int):=aA0;have e:el l (aS p:Int)=a:=aB5;have f:a∈l:=aA8;have o:((aS p:Int)+1)=((p++[a]).length:Int):=aA2;have h1:=gf l y (aS p:Int) m (by rw [e];exact j a f) (by rw [e];exact n a f) FU 0 (by rw [fR,e];have:=j a f;omega) aA0;have g:lq FU l y (aS p:Int) FU (0:Int)=some (.inl ()):=h1;rw [anj,wo,aC c.2,bA c,bA c,g,aY];show gd _ _=_;rw [bA (adc _ aA0 aA0),o,k (p++[a]) b aA8 aA0]
theorem H9(l:PL)(q:PL):∀(p:PL) (d:Nat) (n:Int),l=p++q->21<d+aS p->aS p<=20->0<=n->n<=100*(aS p:Int)->
  ∃j,jy FU l d n (aS p:Int)=some j/\(∀b,j=.inr b->b=false)/\∀m,j=.inl m->aS l<=20->∀x∈q,aS x.1<=100/\x.2.length<=20000:=by
 induction q with
 |nil=>intro p d n h u s y h1;obtain⟨d,rfl⟩:=cV d;refine⟨.inl n, ?_,fun _ c=>(by cases c),fun _ _ _ x hx=>by cases hx⟩;rw [avr,ue,aB aA8,aY,aH]
 |cons a q r=>
  intro p d n h u s y h1;obtain⟨d,rfl⟩:=cV d;have g:=bP aS h;simp only [cB,cF]at g;have c:(0:Int)<=(aS p:Int)/\(aS p:Int)<(aS l:Int):=aA0;have v:el l (aS p:Int)=a:=aB5;have t:((aS p:Int)+1)=((p++[a]).length:Int):=aA2;rw [avr,ue,aC c.2,aY,bA c,bA c,bA c,bA c,v];by_cases f:(aS p:Int)<20
  ·rw [aO f,aL];by_cases o:(100:Int)<(aS a.1:Int)
   ·rw [aC o,aY,aL];exact⟨_,rfl,fun b c=>(by cases c;rfl),fun m e=>by cases e⟩
   ·rw [aB o,aY];by_cases k:(20000:Int)<(aS a.2:Int)
    ·rw [aO k,aL];exact⟨_,rfl,fun b c=>(by cases c;rfl),fun m e=>by cases e⟩
    ·obtain⟨j,h2,w,h3⟩:=r (p++[a]) d (n+(aS a.1:Int)) aA8 aA6 aA6 aA0 aA6;rw [aQ k,aH,bA c,bA c,bA (adc _ aA0 aA0),bA (adc _ aA0 aA0),t,h2];refine⟨j,rfl,w,fun m e i x hx=> ?_⟩;rcases aN.1 hx with rfl|hx
     ·omega
     ·exact h3 m e i x hx
  ·rw [aQ f,aH];exact⟨_,rfl,fun b c=>(by cases c),fun m _ i=>by omega⟩
theorem dk(l:PL):∃b,tl FU l=some b/\(b=true->aS l<=20/\∀x∈l,aS x.1<=100/\x.2.length<=20000):=by
 obtain⟨j,h1,h3,h2⟩:=H9 l l [] FU 0 rfl (by rw [fR];decide) aA2 aA0 aA2;have c:jy FU l FU (0:Int) (0:Int)=some j:=h1;unfold tl;rw [c,aY];cases j with
 |inr b=>refine⟨b,rfl,fun a=> ?_⟩;rw [h3 b rfl]at a;cases a
 |inl m=>
  show∃b,((if(aS l:Int)<=20 then some (decide (m<=200))else some false).bind fun v=>some v)=some b/\_;by_cases h:(aS l:Int)<=20
  ·rw [aC h];exact⟨_,rfl,fun _=>⟨aA0,h2 m rfl aA0⟩⟩
  ·rw [aB h];exact⟨_,rfl,fun a=>by cases a⟩
end Go.Wk
