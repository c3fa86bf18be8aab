/-
  The law BodiesRound holds (part 4 of 8).
-/
import Derived.Test.YtbljlpflaehacaaGreatDoorYd3
import Derived.Laws.Bits64
set_option linter.unusedVariables false
set_option linter.unusedSimpArgs false
set_option maxRecDepth 20000
set_option maxHeartbeats 1000000
namespace Go.Wk
open Go.Px
open Go.Lib renaming indexAny → Bk, join → dA
open Int renaming toNat → aZ
open List renaming drop → bN, set → jV
open Sum renaming elim → fC
def Gp(fu:Nat)(a:(aC×Int))(d:UInt8):Option Bool:=
 ((((ki fu a).bind fun(c:Bool)=>(bif (!c)then(gd (0<=a.2/\a.2<(a.1.length:Int))<|some (decide ((at_ a.1 a.2)=d)))else some false))).bind fun(b:Bool)=>some b)
def alg(fu:Nat)(a:UInt8):Option Bool:=
 (((if(32:UInt8)<=a then some (decide (a<=(126:UInt8)))else some false)).bind fun(b:Bool)=>some b)
def aij(fu:Nat)(s_0:aC)(c:(List UInt8)->Int->Option (((List UInt8)×Int)⊕(aC×Int×UInt8)))(b:List UInt8)(a:Int):Option (((List UInt8)×Int)⊕(aC×Int×UInt8)):=
 (if a<(s_0.length:Int)then(gd (0<=a/\a<(s_0.length:Int))<|(if(at_ s_0 a)=34 then some (.inl (b,a))else(if(at_ s_0 a)=92 then(gd (bZ (a+1))<|(if(a+1)=(s_0.length:Int)then some (.inr (([]:aC),(s_0.length:Int),(6:UInt8)))else(gd (bZ (a+1))<|(gd (0<=(a+1)/\(a+1)<(s_0.length:Int))<|((alg fu (at_ s_0 (a+1))).bind fun(e:Bool)=>(bif (!e)then some (.inr (([]:aC),a,(5:UInt8)))else(gd (bZ (a+1))<|(gd (0<=(a+1)/\(a+1)<(s_0.length:Int))<|(gd ((b.length+([at_ s_0 (a+1)]:List UInt8).length)*1<=140737488355328)<|(gd (bZ ((a+1)+1))<|(c (b++([at_ s_0 (a+1)]:List UInt8)) ((a+1)+1))))))))))))else((xq fu (at_ s_0 a)).bind fun(d:Bool)=>(bif d then some (.inr (([]:aC),a,(5:UInt8)))else(gd (0<=a/\a<(s_0.length:Int))<|(gd ((b.length+([at_ s_0 a]:List UInt8).length)*1<=140737488355328)<|(gd (bZ (a+1))<|(c (b++([at_ s_0 a]:List UInt8)) (a+1))))))))))else some (.inl (b,a)))
def anf(fu:Nat)(s_0:aC):Nat->(List UInt8)->Int->Option (((List UInt8)×Int)⊕(aC×Int×UInt8)):=fun c b a=>bT (fun(g:((List UInt8)×Int)->Option (((List UInt8)×Int)⊕(aC×Int×UInt8))) v=>aij fu s_0 (fun b a=>g (b,a)) v.1 v.2) c (b,a)
variable {a:Nat}{e:aC}{b:Nat}{c:List UInt8}{d:Int}
theorem apk:anf a e (b+1) c d=aij a e (anf a e b) c d:=rfl
def wx(fu:Nat)(s_0:aC)(a:Int):Option (aC×Int×UInt8):=
 (((if a<(0:Int)then some true else some (decide ((s_0.length:Int)<a)))).bind fun(c:Bool)=>(bif c then some (([]:aC),(0:Int),(2:UInt8))else(((if a=(s_0.length:Int)then some true else(gd (0<=a/\a<(s_0.length:Int))<|some (!decide ((at_ s_0 a)=34))))).bind fun(e:Bool)=>(bif e then some (([]:aC),a,(5:UInt8))else(gd (bZ (a+1))<|(((anf fu s_0 fu ([]:List UInt8) (a+1))).bind fun(d:(((List UInt8)×Int)⊕(aC×Int×UInt8)))=>fC (fun(b:((List UInt8)×Int))=>(if(s_0.length:Int)<=b.2 then some (([]:aC),(s_0.length:Int),(6:UInt8))else(gd (bZ (b.2+1))<|some (b.1,b.2+1,(0:UInt8))))) (fun q=>some q) d))))))
def agm(fu:Nat)(d:(aC×Int))(b:AQ):Option (Int×UInt8×(aC×Int)×AQ):=
 ((wx fu d.1 d.2).bind fun(a:(aC×Int×UInt8))=>(if a.2.2=0 then((O2 fu (d.1,a.2.1)).bind fun(c:(aC×Int))=>((Gp fu c (60:UInt8)).bind fun(e:Bool)=>(bif (!e)then some (c.2,(5:UInt8),c,(a.1,b.2.1,b.2.2))else some ((0:Int),(0:UInt8),c,(a.1,b.2.1,b.2.2)))))else some (a.2.1,a.2.2,d,b)))
def xv(fu:Nat)(a:(aC×Int)):Option (aC×(aC×Int)):=
 ((dr fu a.1 a.2).bind fun(b:Int)=>(gd (0<=a.2/\a.2<=b/\b<=(a.1.length:Int))<|some (sub a.1 a.2 b,(a.1,b))))
def aen(fu:Nat)(h:AQ)(g:(List aC)->aC->Int->Option (((List aC)×aC×Int)⊕(Int×UInt8×(aC×Int)×AQ)))(d:List aC)(c:aC)(b:Int):Option (((List aC)×aC×Int)⊕(Int×UInt8×(aC×Int)×AQ)):=
 ((Gp fu (c,b) (60:UInt8)).bind fun(f:Bool)=>(bif (!f)then((xv fu (c,b)).bind fun(a:(aC×(aC×Int)))=>(if a.1=([]:aC)then some (.inr (a.2.2,(5:UInt8),a.2,h))else(gd ((d.length+([a.1]:List aC).length)*16<=140737488355328)<|((O2 fu a.2).bind fun(e:(aC×Int))=>(g (d++([a.1]:List aC)) e.1 e.2)))))else some (.inl (d,c,b))))
def aes(fu:Nat)(e:AQ):Nat->(List aC)->aC->Int->Option (((List aC)×aC×Int)⊕(Int×UInt8×(aC×Int)×AQ)):=fun d c b a=>bT (fun(g:((List aC)×aC×Int)->Option (((List aC)×aC×Int)⊕(Int×UInt8×(aC×Int)×AQ))) v=>aen fu e (fun c b a=>g (c,b,a)) v.1 v.2.1 v.2.2) d (c,b,a)
variable {i:List aC}
theorem ald{c:AQ}:aes a c (b+1) i e d=aen a c (aes a c b) i e d:=rfl
def ya(fu:Nat)(c:(aC×Int))(b:AQ):Option (Int×UInt8×(aC×Int)×AQ):=
 (((aes fu b fu ([]:List aC) c.1 c.2)).bind fun(d:(((List aC)×aC×Int)⊕(Int×UInt8×(aC×Int)×AQ)))=>fC (fun(a:((List aC)×aC×Int))=>(gd (a.1.length<=1000000000/\(dA a.1 ([32]:aC)).length<=100000000000)<|some ((0:Int),(0:UInt8),a.2,(dA a.1 ([32]:aC),b.2.1,b.2.2)))) (fun q=>some q) d)
def Xv(fu:Nat)(c:aC)(a:Int)(d:aC):Option Int:=
 (gd (0<=a/\a<=(c.length:Int))<|(gd ((bN (aZ a) c).length<=1000000000/\d.length<=1000/\d.all (fun b=>decide (b.toNat<128))=true)<|(if(0:Int)<=(Bk (bN (aZ a) c) d)then(gd (bZ (a+(Bk (bN (aZ a) c) d)))<|some (a+(Bk (bN (aZ a) c) d)))else some (c.length:Int))))
def alj(fu:Nat)(s_0:aC)(c:aC->Int->Option aC)(b:aC)(a:Int):Option aC:=
 (if a<(s_0.length:Int)then(gd (0<=a/\a<(b.length:Int))<|(gd (0<=a/\a<(b.length:Int))<|(((if(65:UInt8)<=(at_ b a)then some (decide ((at_ b a)<=(90:UInt8)))else some false)).bind fun(d:Bool)=>(bif d then(gd (0<=a/\a<(b.length:Int))<|(gd (0<=a/\a<(b.length:Int))<|(gd (bZ (a+1))<|(c (jV b (aZ a) ((at_ b a)+(32:UInt8))) (a+1)))))else(gd (bZ (a+1))<|(c b (a+1)))))))else some b)
def ann(fu:Nat)(s_0:aC):Nat->aC->Int->Option aC:=fun c b a=>bT (fun(g:(aC×Int)->Option aC) v=>alj fu s_0 (fun b a=>g (b,a)) v.1 v.2) c (b,a)
variable {s:aC}
theorem auv:ann a e (b+1) s d=alj a e (ann a e b) s d:=rfl
def SE(fu:Nat)(s_0:aC):Option aC:=
 (((ann fu s_0 fu s_0 (0:Int))).bind fun(a:aC)=>some a)
open List renaming take → nZ
def wz(fu:Nat)(a:UInt8):Option Bool:=
 (((if(97:UInt8)<=a then(if a<=(122:UInt8)then some true else(if(65:UInt8)<=a then some (decide (a<=(90:UInt8)))else some false))else(if(65:UInt8)<=a then some (decide (a<=(90:UInt8)))else some false))).bind fun(b:Bool)=>some b)
def TL(fu:Nat)(a:UInt8):Option Bool:=
 (((if(48:UInt8)<=a then some (decide (a<=(57:UInt8)))else some false)).bind fun(b:Bool)=>some b)
def amj(fu:Nat)(b:UInt8)(a:Int):Option Bool:=
 ((((wz fu b).bind fun(f:Bool)=>(bif f then some true else((TL fu b).bind fun(e:Bool)=>(bif e then some true else some (decide ((0:Int)<=(dT (·==b) ([45,95,46,33,126,42,39,40,41]:aC))))))))).bind fun(d:Bool)=>(bif d then some true else(((if(0:Int)<=a then(if a<=(2:Int)then(gd (0<=a/\a<(3:Int))<|(gd (0<=a/\a<(N7.length:Int))<|some (decide ((0:Int)<=(dT (·==b) (el N7 a))))))else some false)else some false)).bind fun(c:Bool)=>some c)))
def kc(fu:Nat)(a:UInt8):Option (UInt8×Bool):=
 ((TL fu a).bind fun(b:Bool)=>(bif b then some (a-(48:UInt8),true)else(((if(97:UInt8)<=a then some (decide (a<=(102:UInt8)))else some false)).bind fun(d:Bool)=>(bif d then some ((a-(97:UInt8))+(10:UInt8),true)else(((if(65:UInt8)<=a then some (decide (a<=(70:UInt8)))else some false)).bind fun(c:Bool)=>(bif c then some ((a-(65:UInt8))+(10:UInt8),true)else some ((0:UInt8),false)))))))
def akq(fu:Nat)(s_0:aC)(a:Int):Option (UInt8×Bool):=
 (((gd (bZ (a+2))<|(if(s_0.length:Int)<=(a+2)then some true else(gd (0<=a/\a<(s_0.length:Int))<|some (!decide ((at_ s_0 a)=37)))))).bind fun(d:Bool)=>(bif d then some ((0:UInt8),false)else(gd (bZ (a+1))<|(gd (0<=(a+1)/\(a+1)<(s_0.length:Int))<|((kc fu (at_ s_0 (a+1))).bind fun(c:(UInt8×Bool))=>(gd (bZ (a+2))<|(gd (0<=(a+2)/\(a+2)<(s_0.length:Int))<|((kc fu (at_ s_0 (a+2))).bind fun(b:(UInt8×Bool))=>(((bif c.2 then some b.2 else some false)).bind fun(e:Bool)=>some ((GI c.1 (4:Int))|||b.1,e))))))))))
def aqa(fu:Nat)(a:UInt8):Option Bool:=
 (((if a<(32:UInt8)then(if a=9 then some (decide (a=127))else some true)else some (decide (a=127)))).bind fun(v6:Bool)=>some v6)
def aej(fu:Nat)(c:(aC×Int))(b:Int)(i:Int)(e:Int->Option (Unit⊕(Int×Bool)))(a:Int):Option (Unit⊕(Int×Bool)):=
 (if a<b then(gd (0<=a/\a<(c.1.length:Int))<|((amj fu (at_ c.1 a) i).bind fun(h:Bool)=>(bif h then(gd (bZ (a+1))<|(e (a+1)))else(gd (0<=b/\b<=(c.1.length:Int))<|((akq fu (nZ (aZ b) c.1) a).bind fun(d:(UInt8×Bool))=>(((bif (!d.2)then some true else((aqa fu d.1).bind fun(g:Bool)=>some g))).bind fun(f:Bool)=>(bif f then some (.inr (a,true))else(gd (bZ (a+2))<|(gd (bZ ((a+2)+1))<|(e ((a+2)+1)))))))))))else some (.inl ()))
def agz(fu:Nat)(e:(aC×Int))(d:Int)(c:Int):Nat->Int->Option (Unit⊕(Int×Bool)):=fun b a=>bT (fun(g:Int->Option (Unit⊕(Int×Bool))) v=>aej fu e d c (fun a=>g a) v) b a
variable {p:(aC×Int)}{f m:Int}
theorem air:agz a p d f (b+1) m=aej a p d f (agz a p d f b) m:=rfl
def xw(fu:Nat)(a:(aC×Int))(d:Int)(c:Int):Option (Int×Bool):=
 (((agz fu a d c fu a.2)).bind fun(b:(Unit⊕(Int×Bool)))=>fC (fun(e:Unit)=>some ((0:Int),false)) (fun q=>some q) b)
def ago(fu:Nat)(s_0:aC)(d:(List UInt8)->Int->Option ((List UInt8)⊕(aC×Int×UInt8)))(b:List UInt8)(a:Int):Option ((List UInt8)⊕(aC×Int×UInt8)):=
 (if a<(s_0.length:Int)then(gd (0<=a/\a<(s_0.length:Int))<|(if(at_ s_0 a)=37 then((akq fu s_0 a).bind fun(c:(UInt8×Bool))=>(bif (!c.2)then some (.inr (([]:aC),a,(5:UInt8)))else(gd ((b.length+([c.1]:List UInt8).length)*1<=140737488355328)<|(gd (bZ (a+2))<|(gd (bZ ((a+2)+1))<|(d (b++([c.1]:List UInt8)) ((a+2)+1)))))))else(gd (0<=a/\a<(s_0.length:Int))<|(gd ((b.length+([at_ s_0 a]:List UInt8).length)*1<=140737488355328)<|(gd (bZ (a+1))<|(d (b++([at_ s_0 a]:List UInt8)) (a+1)))))))else some (.inl b))
def ahf(fu:Nat)(s_0:aC):Nat->(List UInt8)->Int->Option ((List UInt8)⊕(aC×Int×UInt8)):=fun c b a=>bT (fun(g:((List UInt8)×Int)->Option ((List UInt8)⊕(aC×Int×UInt8))) v=>ago fu s_0 (fun b a=>g (b,a)) v.1 v.2) c (b,a)
theorem amm:ahf a e (b+1) c d=ago a e (ahf a e b) c d:=rfl
def ati(fu:Nat)(s_0:aC):Option (aC×Int×UInt8):=
 (@gd _ (0<=(s_0.length:Int)/\(1:Int)*(s_0.length:Int)<=281474976710656) (dMk 1 (s_0.length:Int))<|(((ahf fu s_0 fu ([]:List UInt8) (0:Int))).bind fun(b:((List UInt8)⊕(aC×Int×UInt8)))=>fC (fun(a:List UInt8)=>some (a,(0:Int),(0:UInt8))) (fun q=>some q) b))
open Go.Lib renaming cut → cW, index → cE, itoa → dO, join → dA, trimLeftS → Ye
open List renaming drop → bN, set → jV, take → nZ
def xe(fu:Nat)(s_0:aC):Option aC:=
 ((ati fu s_0).bind fun(a:(aC×Int×UInt8))=>some a.1)
def aft(fu:Nat)(c:List aC)(b:Int)(e:Int->Option (Unit⊕((List aC)×Bool)))(a:Int):Option (Unit⊕((List aC)×Bool)):=
 (if a<((el c b).length:Int)then(gd (0<=a/\a<((el c b).length:Int))<|((kc fu (at_ (el c b) a)).bind fun(d:(UInt8×Bool))=>(bif (!d.2)then some (.inr (([]:List aC),false))else(gd (bZ (a+1))<|(e (a+1))))))else some (.inl ()))
def agk(fu:Nat)(d:List aC)(c:Int):Nat->Int->Option (Unit⊕((List aC)×Bool)):=fun b a=>bT (fun(g:Int->Option (Unit⊕((List aC)×Bool))) v=>aft fu d c (fun a=>g a) v) b a
theorem alb:agk a i d (b+1) f=aft a i d (agk a i d b) f:=rfl
def aig(fu:Nat)(s_0:aC)(i:(List aC)->Int->Option ((List aC)⊕((List aC)×Bool)))(c:List aC)(a:Int):Option ((List aC)⊕((List aC)×Bool)):=
 (if a<((cU 58 s_0).length:Int)then(((gd (0<=a/\a<(c.length:Int))<|(gd (0<=a/\a<(c.length:Int))<|(((if((el c a).length:Int)<(1:Int)then some true else some (decide ((4:Int)<((el c a).length:Int))))).bind fun(h:Bool)=>(bif h then some (.inr (([]:List aC),false))else(((agk fu c a fu (0:Int))).bind fun(g:(Unit⊕((List aC)×Bool)))=>fC (fun(j:Unit)=>((SE fu (el c a)).bind fun(d:aC)=>(gd (d.length<=1000000000)<|gd (([48]:aC).length<=1000/\([48]:aC).all (fun b=>decide (b.toNat<128))=true)<|(if(Ye d [48])=([]:aC)then(gd (0<=a/\a<(c.length:Int))<|(gd (0<=a/\a<(c.length:Int))<|some (.inl (jV c (aZ a) ([48]:aC)))))else(gd (0<=a/\a<(c.length:Int))<|(gd (0<=a/\a<(c.length:Int))<|some (.inl (jV c (aZ a) (Ye d [48]))))))))) (fun q=>some (.inr q)) g)))))).bind fun(f:((List aC)⊕((List aC)×Bool)))=>fC (fun(e:List aC)=>(gd (bZ (a+1))<|(i e (a+1)))) (fun q=>some (.inr q)) f)else some (.inl c))
def xx(fu:Nat)(s_0:aC):Nat->(List aC)->Int->Option ((List aC)⊕((List aC)×Bool)):=fun c b a=>bT (fun(g:((List aC)×Int)->Option ((List aC)⊕((List aC)×Bool))) v=>aig fu s_0 (fun b a=>g (b,a)) v.1 v.2) c (b,a)
theorem aqr:xx a e (b+1) i d=aig a e (xx a e b) i d:=rfl
def uv(fu:Nat)(s_0:aC):Option ((List aC)×Bool):=
 (gd (s_0.length<=1000000000)<|(((xx fu s_0 fu (cU 58 s_0) (0:Int))).bind fun(b:((List aC)⊕((List aC)×Bool)))=>fC (fun(a:List aC)=>some (a,true)) (fun q=>some q) b))
def aqz(fu:Nat)(s_0:aC):Option (aC×Bool):=
 (if(39:Int)<(s_0.length:Int)then some (([]:aC),false)else(gd (s_0.length<=1000000000)<|(bif (!((cW s_0 [58,58]).2.2))then((uv fu s_0).bind fun(c:((List aC)×Bool))=>(((gd (c.1.length<=1000000000/\(dA c.1 ([58]:aC)).length<=100000000000)<|(bif c.2 then some (dA c.1 ([58]:aC),(decide ((c.1.length:Int)=(8:Int))))else some (dA c.1 ([58]:aC),false)))).bind fun(f:(aC×Bool))=>some (f.1,f.2)))else(((if((cW s_0 [58,58]).1)=([]:aC)then some (([]:List aC),true)else((uv fu ((cW s_0 [58,58]).1)).bind fun(e:((List aC)×Bool))=>some (e.1,e.2)))).bind fun(a:((List aC)×Bool))=>(((if((cW s_0 [58,58]).2.1)=([]:aC)then some (([]:List aC),true)else((uv fu ((cW s_0 [58,58]).2.1)).bind fun(d:((List aC)×Bool))=>some (d.1,d.2)))).bind fun(b:((List aC)×Bool))=>(((bif (!a.2)then some true else(bif (!b.2)then some true else(gd (bZ ((a.1.length:Int)+(b.1.length:Int)))<|some (decide ((7:Int)<((a.1.length:Int)+(b.1.length:Int)))))))).bind fun(g:Bool)=>(bif g then some (([]:aC),false)else(gd (a.1.length<=1000000000/\(dA a.1 ([58]:aC)).length<=100000000000)<|(gd ((dA a.1 ([58]:aC)).length+([58,58]:aC).length<=9223372036854775807)<|(gd (b.1.length<=1000000000/\(dA b.1 ([58]:aC)).length<=100000000000)<|(gd (((dA a.1 ([58]:aC))++([58,58]:aC)).length+(dA b.1 ([58]:aC)).length<=9223372036854775807)<|some (((dA a.1 ([58]:aC))++([58,58]:aC))++(dA b.1 ([58]:aC)),true))))))))))))
def ajo(fu:Nat)(s_0:aC)(b:Int)(e:Int->Int->Option (Int⊕Bool))(c:Int)(a:Int):Option (Int⊕Bool):=
 (if a<((el (cU 46 s_0) b).length:Int)then(gd (0<=a/\a<((el (cU 46 s_0) b).length:Int))<|((TL fu (at_ (el (cU 46 s_0) b) a)).bind fun(d:Bool)=>(bif (!d)then some (.inr false)else(gd (bZ ((10:Int)*c))<|(gd (0<=a/\a<((el (cU 46 s_0) b).length:Int))<|(gd (bZ (((10:Int)*c)+(((at_ (el (cU 46 s_0) b) a)-(48:UInt8)).toNat:Int)))<|(gd (bZ (a+1))<|(e (((10:Int)*c)+(((at_ (el (cU 46 s_0) b) a)-(48:UInt8)).toNat:Int)) (a+1)))))))))else some (.inl c))
def ahx(fu:Nat)(s_0:aC)(d:Int):Nat->Int->Int->Option (Int⊕Bool):=fun c b a=>bT (fun(g:(Int×Int)->Option (Int⊕Bool)) v=>ajo fu s_0 d (fun b a=>g (b,a)) v.1 v.2) c (b,a)
theorem atg:ahx a e d (b+1) f m=ajo a e d (ahx a e d b) f m:=rfl
def ajp(fu:Nat)(s_0:aC)(f:Int->Option (Unit⊕Bool))(a:Int):Option (Unit⊕Bool):=
 (if a<((cU 46 s_0).length:Int)then(((gd (0<=a/\a<((cU 46 s_0).length:Int))<|(gd (0<=a/\a<((cU 46 s_0).length:Int))<|(((ahx fu s_0 a fu (0:Int) (0:Int))).bind fun(e:(Int⊕Bool))=>fC (fun(b:Int)=>(((if(el (cU 46 s_0) a)=([]:aC)then some true else(if(255:Int)<b then some true else(gd (bZ b)<|some (!decide ((el (cU 46 s_0) a)=(dO b))))))).bind fun(d:Bool)=>(bif d then some (.inr false)else some (.inl ())))) (fun q=>some (.inr q)) e)))).bind fun(c:(Unit⊕Bool))=>fC (fun(g:Unit)=>(gd (bZ (a+1))<|(f (a+1)))) (fun q=>some (.inr q)) c)else some (.inl ()))
def ahy(fu:Nat)(s_0:aC):Nat->Int->Option (Unit⊕Bool):=fun b a=>bT (fun(g:Int->Option (Unit⊕Bool)) v=>ajp fu s_0 (fun a=>g a) v) b a
theorem ath:ahy a e (b+1) d=ajp a e (ahy a e b) d:=rfl
def apy(fu:Nat)(s_0:aC):Option Bool:=
 (if(15:Int)<(s_0.length:Int)then some false else(gd (s_0.length<=1000000000)<|(((ahy fu s_0 fu (0:Int))).bind fun(a:(Unit⊕Bool))=>fC (fun(b:Unit)=>some (decide (((cU 46 s_0).length:Int)=(4:Int)))) (fun q=>some q) a)))
def aor(fu:Nat)(s_0:aC)(b:aC)(a:Int):Option (aC×aC×Int):=
 some (b,s_0,a)
def aos(fu:Nat)(s_0:aC)(b:aC):Option (aC×aC×Int):=
 ((aor fu s_0 b (0:Int)).bind fun(a:(aC×aC×Int))=>some (a.1,a.2.1,a.2.2))
def afs(fu:Nat)(b:aC)(i:Bool)(d:Int->Bool->Option ((Nat×Bool×Bool)))(a:Int)(c:Bool):Option ((Nat×Bool×Bool)):=
 (if a<(b.length:Int)then(gd (0<=a/\a<(b.length:Int))<|((((wz fu (at_ b a)).bind fun(h:Bool)=>(bif (!h)then((TL fu (at_ b a)).bind fun(g:Bool)=>(bif (!g)then some (!decide ((at_ b a)=45))else some false))else some false))).bind fun(f:Bool)=>(bif f then some (1,c,false)else(bif c then(gd (bZ (a+1))<|(d (a+1) true))else((TL fu (at_ b a)).bind fun(e:Bool)=>(gd (bZ (a+1))<|(d (a+1) (!e))))))))else some (0,c,i))
def eb(fu:Nat)(e:aC)(d:Bool):Nat->Int->Bool->Option ((Nat×Bool×Bool)):=fun c b a=>bT (fun(g:(Int×Bool)->Option ((Nat×Bool×Bool))) v=>afs fu e d (fun b a=>g (b,a)) v.1 v.2) c (b,a)
variable {l t:Bool}
theorem ala:eb a e l (b+1) d t=afs a e l (eb a e l b) d t:=rfl
def du(fu:Nat)(a:aC)(b:Bool)(d:Bool):Option (Nat×Bool×Bool):=
 (((if(a.length:Int)<(1:Int)then some true else(if(63:Int)<(a.length:Int)then some true else(gd (0<=(0:Int)/\(0:Int)<(a.length:Int))<|(if(at_ a (0:Int))=45 then some true else(gd (bZ ((a.length:Int)-1))<|(gd (0<=((a.length:Int)-1)/\((a.length:Int)-1)<(a.length:Int))<|some (decide ((at_ a ((a.length:Int)-1))=45))))))))).bind fun(c:Bool)=>(bif c then some (1,b,false)else(eb fu a d fu (0:Int) b)))
def adp(fu:Nat)(a:aC)(b:Option Unit):Option Unit:=
 (if(0:Int)<(a.length:Int)then none else some ())
def ace(fu:Nat)(b:aC):Nat->Option Unit:=fun a=>bT (fun(g:Unit->Option Unit) v=>adp fu b (g ())) a ()
theorem amt:ace a e (b+1)=adp a e (ace a e b):=rfl
def abl(fu:Nat)(b:aC)(d:Int)(g:Bool->Bool->aC->Option ((Bool×Bool×aC)⊕(Bool×Bool×aC×Nat)))(f:Bool)(e:Bool)(a:aC):Option ((Bool×Bool×aC)⊕(Bool×Bool×aC×Nat)):=
 (gd (a.length<=1000000000)<|(if(cE a b)<(0:Int)then some (.inl (f,e,a))else(gd (bZ ((cE a b)+d))<|(gd (0<=((cE a b)+d)/\((cE a b)+d)<=(a.length:Int))<|((du fu (nZ (aZ ((cE a b)+d)) a) f e).bind fun(c:(Nat×Bool×Bool))=>(if c.1=0 then(gd (bZ ((cE a b)+(b.length:Int)))<|(gd (0<=((cE a b)+(b.length:Int))/\((cE a b)+(b.length:Int))<=(a.length:Int))<|(g c.2.1 c.2.2 (bN (aZ ((cE a b)+(b.length:Int))) a))))else some (.inr (c.2.1,c.2.2,a,c.1))))))))
def abn(fu:Nat)(f:aC)(e:Int):Nat->Bool->Bool->aC->Option ((Bool×Bool×aC)⊕(Bool×Bool×aC×Nat)):=fun d c b a=>bT (fun(g:(Bool×Bool×aC)->Option ((Bool×Bool×aC)⊕(Bool×Bool×aC×Nat))) v=>abl fu f e (fun c b a=>g (c,b,a)) v.1 v.2.1 v.2.2) d (c,b,a)
theorem adl:abn a e d (b+1) l t s=abl a e d (abn a e d b) l t s:=rfl
def acs(fu:Nat)(x_1:Bool)(e:Bool)(d:aC)(c:aC)(h:Int):Option (Bool×Bool×aC×Nat):=
 (((if(d.length:Int)=(0:Int)then(((ace fu c fu)).bind fun(j:Unit)=>some (.inr (x_1,e,c,0)))else some (.inl ()))).bind fun(g:(Unit⊕(Bool×Bool×aC×Nat)))=>fC (fun(i:Unit)=>(((abn fu d h fu x_1 e c)).bind fun(f:((Bool×Bool×aC)⊕(Bool×Bool×aC×Nat)))=>fC (fun(b:(Bool×Bool×aC))=>((du fu b.2.2 b.1 b.2.1).bind fun(a:(Nat×Bool×Bool))=>(if a.1=0 then some (a.2.1,a.2.2,b.2.2,0)else some (a.2.1,a.2.2,b.2.2,a.1)))) (fun q=>some q) f)) (fun q=>some q) g)
open Go.Lib renaming trimPrefix → eJ
open List renaming drop → bN
def wq(fu:Nat)(s_0:aC):Option Bool:=
 (((if(s_0.length:Int)<(1:Int)then some true else some (decide ((255:Int)<(s_0.length:Int))))).bind fun(c:Bool)=>(bif c then some false else((aos fu s_0 ([46]:aC)).bind fun(b:(aC×aC×Int))=>((acs fu false false b.1 b.2.1 b.2.2).bind fun(a:(Bool×Bool×aC×Nat))=>(if a.2.2.2=0 then some a.1 else(if a.2.2.2=1 then some a.2.1 else none))))))
def O0(fu:Nat)(s_0:aC):Option (aC×Bool):=
 (((if(2:Int)<=(s_0.length:Int)then(gd (0<=(0:Int)/\(0:Int)<(s_0.length:Int))<|(if(at_ s_0 (0:Int))=91 then(gd (bZ ((s_0.length:Int)-1))<|(gd (0<=((s_0.length:Int)-1)/\((s_0.length:Int)-1)<(s_0.length:Int))<|some (decide ((at_ s_0 ((s_0.length:Int)-1))=93))))else some false))else some false)).bind fun(b:Bool)=>(bif b then(gd (bZ ((s_0.length:Int)-1))<|(gd (0<=(1:Int)/\(1:Int)<=((s_0.length:Int)-1)/\((s_0.length:Int)-1)<=(s_0.length:Int))<|((aqz fu (sub s_0 (1:Int) ((s_0.length:Int)-1))).bind fun(a:(aC×Bool))=>(bif (!a.2)then some (([]:aC),false)else(gd (([91]:aC).length+a.1.length<=9223372036854775807)<|(gd ((([91]:aC)++a.1).length+([93]:aC).length<=9223372036854775807)<|some ((([91]:aC)++a.1)++([93]:aC),true)))))))else((apy fu s_0).bind fun(e:Bool)=>(bif e then some (s_0,true)else((wq fu s_0).bind fun(d:Bool)=>(bif d then((SE fu s_0).bind fun(c:aC)=>some (c,true))else some (([]:aC),false)))))))
def ajl(fu:Nat)(s_0:aC)(d:Int->Int->Option (Int⊕(Int×UInt8)))(b:Int)(a:Int):Option (Int⊕(Int×UInt8)):=
 (if a<(s_0.length:Int)then(((gd (0<=a/\a<(s_0.length:Int))<|(if(at_ s_0 a)<(48:UInt8)then some true else(gd (0<=a/\a<(s_0.length:Int))<|some (decide ((57:UInt8)<(at_ s_0 a))))))).bind fun(c:Bool)=>(bif c then some (.inr ((0:Int),(5:UInt8)))else(gd (bZ ((10:Int)*b))<|(gd (0<=a/\a<(s_0.length:Int))<|(gd (bZ (((10:Int)*b)+(((at_ s_0 a)-(48:UInt8)).toNat:Int)))<|(gd (bZ (a+1))<|(d (((10:Int)*b)+(((at_ s_0 a)-(48:UInt8)).toNat:Int)) (a+1))))))))else some (.inl b))
def akg(fu:Nat)(s_0:aC):Nat->Int->Int->Option (Int⊕(Int×UInt8)):=fun c b a=>bT (fun(g:(Int×Int)->Option (Int⊕(Int×UInt8))) v=>ajl fu s_0 (fun b a=>g (b,a)) v.1 v.2) c (b,a)
theorem aqi:akg a e (b+1) d f=ajl a e (akg a e b) d f:=rfl
def jz(fu:Nat)(s_0:aC):Option (Int×UInt8):=
 (((if(s_0.length:Int)<(1:Int)then some true else some (decide ((10:Int)<(s_0.length:Int))))).bind fun(b:Bool)=>(bif b then some ((0:Int),(5:UInt8))else(((akg fu s_0 fu (0:Int) (0:Int))).bind fun(c:(Int⊕(Int×UInt8)))=>fC (fun(a:Int)=>(if(2147483647:Int)<a then some ((0:Int),(3:UInt8))else some (a,(0:UInt8)))) (fun q=>some q) c)))
def ajq(fu:Nat)(a:(aC×Int))(b:UQ):Option (Int×UInt8×(aC×Int)×UQ):=
 (((gd (0<=a.2/\a.2<=(a.1.length:Int))<|(if(0:Int)<=(dT (·==(64:UInt8)) (bN (aZ a.2) a.1))then(gd (bZ (a.2+(dT (·==(64:UInt8)) (bN (aZ a.2) a.1))))<|((xw fu a (a.2+(dT (·==(64:UInt8)) (bN (aZ a.2) a.1))) (0:Int)).bind fun(e:(Int×Bool))=>(bif e.2 then(gd (0<=e.1/\e.1<(a.1.length:Int))<|(if(at_ a.1 e.1)=58 then some (.inr (e.1,(15:UInt8),a,b))else some (.inr (e.1,(5:UInt8),a,b))))else(if(dT (·==(64:UInt8)) (bN (aZ a.2) a.1))=(0:Int)then some (.inr (a.2+(dT (·==(64:UInt8)) (bN (aZ a.2) a.1)),(5:UInt8),a,b))else(gd (0<=a.2/\a.2<=(a.2+(dT (·==(64:UInt8)) (bN (aZ a.2) a.1)))/\(a.2+(dT (·==(64:UInt8)) (bN (aZ a.2) a.1)))<=(a.1.length:Int))<|((xe fu (sub a.1 a.2 (a.2+(dT (·==(64:UInt8)) (bN (aZ a.2) a.1))))).bind fun(u:aC)=>(gd (bZ ((a.2+(dT (·==(64:UInt8)) (bN (aZ a.2) a.1)))+1))<|some (.inl ((a.2+(dT (·==(64:UInt8)) (bN (aZ a.2) a.1)))+1,u)))))))))else some (.inl (a.2,b.2.1))))).bind fun(t:((Int×aC)⊕(Int×UInt8×(aC×Int)×UQ)))=>fC (fun(d:(Int×aC))=>((Xv fu a.1 d.1 ([58,59,63]:aC)).bind fun(s:Int)=>((((Gp fu (a.1,d.1) (91:UInt8)).bind fun(r:Bool)=>(bif r then((Xv fu a.1 d.1 ([93]:aC)).bind fun(j:Int)=>(gd (bZ (j+1))<|some (min (j+1) (a.1.length:Int))))else some s))).bind fun(c:Int)=>(gd (0<=d.1/\d.1<=c/\c<=(a.1.length:Int))<|((O0 fu (sub a.1 d.1 c)).bind fun(g:(aC×Bool))=>(bif (!g.2)then some (d.1,(5:UInt8),(a.1,d.1),(b.1,d.2,b.2.2.1,b.2.2.2.1,b.2.2.2.2.1,b.2.2.2.2.2))else((Gp fu (a.1,c) (58:UInt8)).bind fun(p:Bool)=>(bif p then(gd (bZ (c+1))<|((Xv fu a.1 (c+1) ([59,63]:aC)).bind fun(h:Int)=>(gd (0<=(c+1)/\(c+1)<=h/\h<=(a.1.length:Int))<|((jz fu (sub a.1 (c+1) h)).bind fun(f:(Int×UInt8))=>(((((if f.2=0 then(if f.1<(1:Int)then some true else some (decide ((65535:Int)<f.1)))else some false)).bind fun(o:Bool)=>(bif o then some (3:UInt8)else some f.2))).bind fun(i:UInt8)=>(if i=0 then some ((0:Int),(0:UInt8),(a.1,h),(b.1,d.2,g.1,f.1,b.2.2.2.2.1,b.2.2.2.2.2))else some (c+1,i,(a.1,c+1),(b.1,d.2,g.1,b.2.2.2.1,b.2.2.2.2.1,b.2.2.2.2.2))))))))else((((ki fu (a.1,c)).bind fun(n:Bool)=>(bif (!n)then((Gp fu (a.1,c) (59:UInt8)).bind fun(m:Bool)=>(bif (!m)then((Gp fu (a.1,c) (63:UInt8)).bind fun(l:Bool)=>some (!l))else some false))else some false))).bind fun(k:Bool)=>(bif k then some (c,(5:UInt8),(a.1,c),(b.1,d.2,g.1,b.2.2.2.1,b.2.2.2.2.1,b.2.2.2.2.2))else some ((0:Int),(0:UInt8),(a.1,c),(b.1,d.2,g.1,b.2.2.2.1,b.2.2.2.2.1,b.2.2.2.2.2)))))))))))) (fun q=>some q) t)
def afu(fu:Nat)(b:(aC×Int))(l:UQ)(f:Int)(e:Bool)(k:(List UInt8)->Int->Option (((List UInt8)×Int)⊕(Int×UInt8×(aC×Int)×UQ)))(c:List UInt8)(a:Int):Option (((List UInt8)×Int)⊕(Int×UInt8×(aC×Int)×UQ)):=
 (if a<f then(((gd (0<=a/\a<(b.1.length:Int))<|(((((if(48:UInt8)<=(at_ b.1 a)then some (decide ((at_ b.1 a)<=(57:UInt8)))else some false)).bind fun(d:Bool)=>(bif d then some d else(bif (!e)then(if(at_ b.1 a)=42 then some true else some (decide ((at_ b.1 a)=35)))else some false)))).bind fun(j:Bool)=>(bif j then(gd ((c.length+([at_ b.1 a]:List UInt8).length)*1<=140737488355328)<|some (.inl (c++([at_ b.1 a]:List UInt8))))else(((if(at_ b.1 a)=45 then some false else(if(at_ b.1 a)=46 then some false else(if(at_ b.1 a)=40 then some false else some (!decide ((at_ b.1 a)=41)))))).bind fun(i:Bool)=>(bif i then some (.inr (a,(5:UInt8),(b.1,a),l))else some (.inl c))))))).bind fun(h:((List UInt8)⊕(Int×UInt8×(aC×Int)×UQ)))=>fC (fun(g:List UInt8)=>(gd (bZ (a+1))<|(k g (a+1)))) (fun q=>some (.inr q)) h)else some (.inl (c,a)))
def agn(fu:Nat)(h:(aC×Int))(f:UQ)(d:Int)(c:Bool):Nat->(List UInt8)->Int->Option (((List UInt8)×Int)⊕(Int×UInt8×(aC×Int)×UQ)):=fun e b a=>bT (fun(g:((List UInt8)×Int)->Option (((List UInt8)×Int)⊕(Int×UInt8×(aC×Int)×UQ))) v=>afu fu h f d c (fun b a=>g (b,a)) v.1 v.2) e (b,a)
theorem aoc{e:UQ}:agn a p e d l (b+1) c f=afu a p e d l (agn a p e d l b) c f:=rfl
def ais(fu:Nat)(b:(aC×Int))(a:UQ):Option (Int×UInt8×(aC×Int)×UQ):=
 ((Xv fu b.1 b.2 ([59]:aC)).bind fun(f:Int)=>((Gp fu b (43:UInt8)).bind fun(d:Bool)=>(((bif d then(gd ((([]:List UInt8).length+([43]:List UInt8).length)*1<=140737488355328)<|(gd (bZ (b.2+1))<|some (([]:List UInt8)++([43]:List UInt8),b.2+1)))else some (([]:List UInt8),b.2))).bind fun(e:((List UInt8)×Int))=>(((agn fu b a f d fu e.1 e.2)).bind fun(g:(((List UInt8)×Int)⊕(Int×UInt8×(aC×Int)×UQ)))=>fC (fun(c:((List UInt8)×Int))=>(if(eJ c.1 ([43]:aC))=([]:aC)then some (b.2,(5:UInt8),(b.1,c.2),(a.1,c.1,a.2.2.1,a.2.2.2.1,a.2.2.2.2.1,a.2.2.2.2.2))else(if(30:Int)<((eJ c.1 ([43]:aC)).length:Int)then some (b.2,(4:UInt8),(b.1,c.2),(a.1,c.1,a.2.2.1,a.2.2.2.1,a.2.2.2.2.1,a.2.2.2.2.2))else some ((0:Int),(0:UInt8),(b.1,c.2),(a.1,c.1,a.2.2.1,a.2.2.2.1,a.2.2.2.2.1,a.2.2.2.2.2))))) (fun q=>some q) g))))
def apz(fu:Nat)(a:PQ)(x_1:aC):Option Bool:=
 some (decide (a.1=x_1))
def abi(fu:Nat)(s_0:LQ)(d:aC)(c:Int->Option (Unit⊕Int))(a:Int):Option (Unit⊕Int):=
 (if a<(s_0.length:Int)then(gd (0<=a/\a<(s_0.length:Int))<|(gd (0<=a/\a<(s_0.length:Int))<|((apz fu ((el s_0 a).1,(el s_0 a).2.1,((el s_0 a).2.2)) d).bind fun(b:Bool)=>(bif b then some (.inr a)else(gd (bZ (a+1))<|(c (a+1)))))))else some (.inl ()))
def abz(fu:Nat)(s_0:LQ)(c:aC):Nat->Int->Option (Unit⊕Int):=fun b a=>bT (fun(g:Int->Option (Unit⊕Int)) v=>abi fu s_0 c (fun a=>g a) v) b a
variable {g:LQ}
theorem acx:abz a g e (b+1) d=abi a g e (abz a g e b) d:=rfl
def aed(fu:Nat)(s_0:LQ)(b:aC):Option Int:=
 (((abz fu s_0 b fu (0:Int))).bind fun(a:(Unit⊕Int))=>fC (fun(c:Unit)=>some (-1:Int)) (fun q=>some q) a)
def adq(fu:Nat)(s_0:LQ)(b:aC):Option Bool:=
 ((aed fu s_0 b).bind fun(a:Int)=>some (decide ((0:Int)<=a)))
open Go.Op renaming bytesLess → uH
open List renaming set → jV
def wo(fu:Nat)(c:LQ)(b:aC):Option Bool:=
 ((adq fu c b).bind fun(a:Bool)=>some a)
def wj(fu:Nat)(a:LQ)(c:aC):Option UInt8:=
 ((wo fu a c).bind fun(b:Bool)=>(bif b then some (7:UInt8)else(if(16:Int)<=(a.length:Int)then some (4:UInt8)else some (0:UInt8))))
def ahe(fu:Nat)(a:(aC×Int))(g:LQ)(b:Int)(e:Int):Option (LQ×Int×UInt8×(aC×Int)):=
 (gd (0<=a.2/\a.2<=b/\b<=(a.1.length:Int))<|(((if(0:Int)<=(dT (·==(61:UInt8)) (sub a.1 a.2 b))then(gd (bZ (a.2+(dT (·==(61:UInt8)) (sub a.1 a.2 b))))<|some (a.2+(dT (·==(61:UInt8)) (sub a.1 a.2 b))))else some b)).bind fun(c:Int)=>((xw fu a c e).bind fun(j:(Int×Bool))=>(bif j.2 then some (([]:LQ),j.1,(5:UInt8),a)else(if c=a.2 then some (([]:LQ),a.2,(5:UInt8),a)else(gd (0<=a.2/\a.2<=c/\c<=(a.1.length:Int))<|((xe fu (sub a.1 a.2 c)).bind fun(n:aC)=>((SE fu n).bind fun(f:aC)=>(((if(0:Int)<=(dT (·==(61:UInt8)) (sub a.1 a.2 b))then(gd (bZ (c+1))<|((xw fu (a.1,c+1) b e).bind fun(i:(Int×Bool))=>(bif i.2 then some (.inr (([]:LQ),i.1,(5:UInt8),(a.1,c+1)))else(((if(c+1)=b then some (decide (e=(1:Int)))else some false)).bind fun(m:Bool)=>(bif m then some (.inr (([]:LQ),b,(5:UInt8),(a.1,c+1)))else(gd (0<=(c+1)/\(c+1)<=b/\b<=(a.1.length:Int))<|((xe fu (sub a.1 (c+1) b)).bind fun(l:aC)=>some (.inl (b,l)))))))))else(if e=(2:Int)then some (.inr (([]:LQ),b,(5:UInt8),(a.1,b)))else some (.inl (b,([]:aC)))))).bind fun(k:((Int×aC)⊕(LQ×Int×UInt8×(aC×Int))))=>fC (fun(d:(Int×aC))=>((wj fu g f).bind fun(h:UInt8)=>(if h=0 then(gd ((g.length+([(f,d.2,(decide ((0:Int)<=(dT (·==(61:UInt8)) (sub a.1 a.2 b)))))]:LQ).length)*40<=140737488355328)<|some (g++([(f,d.2,(decide ((0:Int)<=(dT (·==(61:UInt8)) (sub a.1 a.2 b)))))]:LQ),(0:Int),(0:UInt8),(a.1,d.1)))else some (([]:LQ),a.2,h,(a.1,d.1))))) (fun q=>some q) k)))))))))
def aoz(fu:Nat)(a:aC):Option Bool:=
 some (!decide (a=a))
def ali(fu:Nat)(b:aC)(a:aC):Option Int:=
 ((aoz fu b).bind fun(d:Bool)=>((aoz fu a).bind fun(c:Bool)=>(bif d then(bif c then some (0:Int)else some (-1:Int))else(bif c then some (1:Int)else(bif (uH b a)then some (-1:Int)else(bif (!(uH b a||b==a))then some (1:Int)else some (0:Int)))))))
def apb(fu:Nat)(a_0:PQ)(b:PQ):Option Int:=
 ((ali fu a_0.1 b.1).bind fun(a:Int)=>some a)
def abd(fu:Nat)(f:Int)(e:LQ->Int->Option LQ)(b:LQ)(a:Int):Option LQ:=
 (((if f<a then(gd (0<=a/\a<(b.length:Int))<|(gd (0<=a/\a<(b.length:Int))<|(gd (bZ (a-1))<|(gd (0<=(a-1)/\(a-1)<(b.length:Int))<|(gd (0<=(a-1)/\(a-1)<(b.length:Int))<|((apb fu ((el b a).1,(el b a).2.1,((el b a).2.2)) ((el b (a-1)).1,(el b (a-1)).2.1,((el b (a-1)).2.2))).bind fun(d:Int)=>some (decide (d<(0:Int)))))))))else some false)).bind fun(c:Bool)=>(bif c then(gd (bZ (a-1))<|(gd (bZ (a-1))<|(gd (0<=(a-1)/\(a-1)<(b.length:Int))<|(gd (0<=(a-1)/\(a-1)<(b.length:Int))<|(gd (0<=a/\a<(b.length:Int))<|(gd (0<=a/\a<(b.length:Int))<|(gd (0<=a/\a<(b.length:Int))<|(gd (0<=a/\a<(b.length:Int))<|(gd (0<=(a-1)/\(a-1)<((jV b (aZ a) ((el b (a-1)).1,(el b (a-1)).2.1,((el b (a-1)).2.2))).length:Int))<|(gd (0<=(a-1)/\(a-1)<((jV b (aZ a) ((el b (a-1)).1,(el b (a-1)).2.1,((el b (a-1)).2.2))).length:Int))<|(gd (bZ (a-1))<|(e (jV (jV b (aZ a) ((el b (a-1)).1,(el b (a-1)).2.1,((el b (a-1)).2.2))) (aZ (a-1)) ((el b a).1,(el b a).2.1,((el b a).2.2))) (a-1)))))))))))))else some b))
def abf(fu:Nat)(d:Int):Nat->LQ->Int->Option LQ:=fun c b a=>bT (fun(g:(LQ×Int)->Option LQ) v=>abd fu d (fun b a=>g (b,a)) v.1 v.2) c (b,a)
theorem adi:abf a d (b+1) g f=abd a d (abf a d b) g f:=rfl
def aaw(fu:Nat)(e:Int)(b_3:Int)(d:LQ->Int->Option LQ)(b:LQ)(a:Int):Option LQ:=
 (if a<b_3 then(((abf fu e fu b a)).bind fun(c:LQ)=>(gd (bZ (a+1))<|(d c (a+1))))else some b)
def yh(fu:Nat)(d:Int)(b_3:Int):Nat->LQ->Int->Option LQ:=fun c b a=>bT (fun(g:(LQ×Int)->Option LQ) v=>aaw fu d b_3 (fun b a=>g (b,a)) v.1 v.2) c (b,a)
theorem abt:yh a d f (b+1) g m=aaw a d f (yh a d f b) g m:=rfl
def yg(fu:Nat)(b:LQ)(a:Int)(b_3:Int):Option LQ:=
 (gd (bZ (a+1))<|(yh fu a b_3 fu b (a+1)))
def acj(fu:Nat)(f:Int)(e:LQ->Int->Int->Option (LQ×Int))(c:LQ)(b:Int)(a:Int):Option (LQ×Int):=
 (if a<=f then((yg fu c b a).bind fun(d:LQ)=>(gd (bZ (a+20))<|(e d a (a+20))))else some (c,b))
def abc(fu:Nat)(e:Int):Nat->LQ->Int->Int->Option (LQ×Int):=fun d c b a=>bT (fun(g:(LQ×Int×Int)->Option (LQ×Int)) v=>acj fu e (fun c b a=>g (c,b,a)) v.1 v.2.1 v.2.2) d (c,b,a)
theorem aji:abc a d (b+1) g f m=acj a d (abc a d b) g f m:=rfl
def aci(fu:Nat)(c:Int)(d:LQ->Int->Option LQ)(b:LQ)(a:Int):Option LQ:=
 (if a<c then none else some b)
def abb(fu:Nat)(d:Int):Nat->LQ->Int->Option LQ:=fun c b a=>bT (fun(g:(LQ×Int)->Option LQ) v=>aci fu d (fun b a=>g (b,a)) v.1 v.2) c (b,a)
theorem ajh:abb a d (b+1) g f=aci a d (abb a d b) g f:=rfl
def abw(fu:Nat)(d:LQ)(a:Int):Option LQ:=
 (((abc fu a fu d (0:Int) (20:Int))).bind fun(b:(LQ×Int))=>((yg fu b.1 b.2 a).bind fun(c:LQ)=>(abb fu a fu c (20:Int))))
open List renaming drop → bN, take → nZ
def yf(fu:Nat)(a:LQ):Option LQ:=
 ((abw fu a (a.length:Int)).bind fun(b:LQ)=>some b)
def dq(fu:Nat)(a:LQ):Option LQ:=
 (gd ((0+a.length)*40<=140737488355328)<|((yf fu a).bind fun(b:LQ)=>some b))
def xo(fu:Nat)(k:(Int×UInt8×aC×aC×Int×aC×aC×aC×Int×LQ×LQ))(j:Int->UInt8->aC->Int->LQ->Option (Int×UInt8×aC×Int×LQ))(i:Int)(e:UInt8)(c:aC)(b:Int)(d:LQ):Option (Int×UInt8×aC×Int×LQ):=
 (((if e=0 then((Gp fu (c,b) (59:UInt8)).bind fun(h:Bool)=>some h)else some false)).bind fun(g:Bool)=>(bif g then(gd (bZ (b+1))<|((Xv fu c (b+1) k.2.2.1).bind fun(f:Int)=>((ahe fu (c,b+1) d f (1:Int)).bind fun(a:(LQ×Int×UInt8×(aC×Int)))=>(j a.2.1 a.2.2.1 a.2.2.2.1 a.2.2.2.2 a.1))))else some (i,e,c,b,d)))
def xk(fu:Nat)(h:(Int×UInt8×aC×aC×Int×aC×aC×aC×Int×LQ×LQ)):Nat->Int->UInt8->aC->Int->LQ->Option (Int×UInt8×aC×Int×LQ):=fun f e d c b a=>bT (fun(g:(Int×UInt8×aC×Int×LQ)->Option (Int×UInt8×aC×Int×LQ)) v=>xo fu h (fun e d c b a=>g (e,d,c,b,a)) v.1 v.2.1 v.2.2.1 v.2.2.2.1 v.2.2.2.2) f (e,d,c,b,a)
variable {o:UInt8}
theorem aks{c:(Int×UInt8×aC×aC×Int×aC×aC×aC×Int×LQ×LQ)}:xk a c (b+1) d o e f g=xo a c (xk a c b) d o e f g:=rfl
def xp(fu:Nat)(j:Int->UInt8->aC->Int->LQ->Option (Int×UInt8×aC×Int×LQ))(i:Int)(e:UInt8)(c:aC)(b:Int)(d:LQ):Option (Int×UInt8×aC×Int×LQ):=
 (((if e=0 then((ki fu (c,b)).bind fun(h:Bool)=>some (!h))else some false)).bind fun(g:Bool)=>(bif g then(gd (bZ (b+1))<|((Xv fu c (b+1) ([38]:aC)).bind fun(f:Int)=>((ahe fu (c,b+1) d f (2:Int)).bind fun(a:(LQ×Int×UInt8×(aC×Int)))=>(j a.2.1 a.2.2.1 a.2.2.2.1 a.2.2.2.2 a.1))))else some (i,e,c,b,d)))
def xl(fu:Nat):Nat->Int->UInt8->aC->Int->LQ->Option (Int×UInt8×aC×Int×LQ):=fun f e d c b a=>bT (fun(g:(Int×UInt8×aC×Int×LQ)->Option (Int×UInt8×aC×Int×LQ)) v=>xp fu (fun e d c b a=>g (e,d,c,b,a)) v.1 v.2.1 v.2.2.1 v.2.2.2.1 v.2.2.2.2) f (e,d,c,b,a)
theorem akr:xl a (b+1) d o e f g=xp a (xl a b) d o e f g:=rfl
def apq(fu:Nat)(s_0:aC):Option (UQ×Int×UInt8):=
 (if(1024:Int)<(s_0.length:Int)then some ((([]:aC),([]:aC),([]:aC),(0:Int),([]:LQ),([]:LQ)),(1024:Int),(4:UInt8))else(if(dT (·==(58:UInt8)) s_0)<(0:Int)then some ((([]:aC),([]:aC),([]:aC),(0:Int),([]:LQ),([]:LQ)),(s_0.length:Int),(5:UInt8))else(gd (bZ ((dT (·==(58:UInt8)) s_0)+1))<|(gd (0<=(dT (·==(58:UInt8)) s_0)/\(dT (·==(58:UInt8)) s_0)<=(s_0.length:Int))<|((SE fu (nZ (aZ (dT (·==(58:UInt8)) s_0)) s_0)).bind fun(d:aC)=>(((((if d=([115,105,112]:aC)then some (decide (d=([115,105,112]:aC)))else some (decide (d=([115,105,112,115]:aC))))).bind fun(i:Bool)=>(bif i then((ajq fu (s_0,(dT (·==(58:UInt8)) s_0)+1) (d,([]:aC),([]:aC),(0:Int),([]:LQ),([]:LQ))).bind fun(c:(Int×UInt8×(aC×Int)×UQ))=>some (c.1,c.2.1,([59,63]:aC),c.2.2.1.1,c.2.2.1.2,c.2.2.2.1,c.2.2.2.2.1,c.2.2.2.2.2.1,c.2.2.2.2.2.2.1,c.2.2.2.2.2.2.2.1,c.2.2.2.2.2.2.2.2))else(if d=([116,101,108]:aC)then((ais fu (s_0,(dT (·==(58:UInt8)) s_0)+1) (d,([]:aC),([]:aC),(0:Int),([]:LQ),([]:LQ))).bind fun(b:(Int×UInt8×(aC×Int)×UQ))=>some (b.1,b.2.1,([59]:aC),b.2.2.1.1,b.2.2.1.2,b.2.2.2.1,b.2.2.2.2.1,b.2.2.2.2.2.1,b.2.2.2.2.2.2.1,b.2.2.2.2.2.2.2.1,b.2.2.2.2.2.2.2.2))else some ((0:Int),(15:UInt8),([59,63]:aC),s_0,(dT (·==(58:UInt8)) s_0)+1,d,([]:aC),([]:aC),(0:Int),([]:LQ),([]:LQ)))))).bind fun(a:(Int×UInt8×aC×aC×Int×aC×aC×aC×Int×LQ×LQ))=>(((xk fu a fu a.1 a.2.1 a.2.2.2.1 a.2.2.2.2.1 a.2.2.2.2.2.2.2.2.2.1)).bind fun(e:(Int×UInt8×aC×Int×LQ))=>(((xl fu fu e.1 e.2.1 e.2.2.1 e.2.2.2.1 a.2.2.2.2.2.2.2.2.2.2)).bind fun(f:(Int×UInt8×aC×Int×LQ))=>(if f.2.1=0 then((dq fu e.2.2.2.2).bind fun(h:LQ)=>((dq fu f.2.2.2.2).bind fun(g:LQ)=>some ((a.2.2.2.2.2.1,a.2.2.2.2.2.2.1,a.2.2.2.2.2.2.2.1,a.2.2.2.2.2.2.2.2.1,h,g),(0:Int),(0:UInt8))))else some ((([]:aC),([]:aC),([]:aC),(0:Int),([]:LQ),([]:LQ)),f.1,f.2.1))))))))))
def agl(fu:Nat)(a:(aC×Int))(e:AQ):Option (Int×UInt8×(aC×Int)×AQ):=
 ((((Gp fu a (60:UInt8)).bind fun(i:Bool)=>(bif i then(gd (bZ (a.2+1))<|((Xv fu a.1 (a.2+1) ([62]:aC)).bind fun(d:Int)=>(if d=(a.1.length:Int)then some (.inr (d,(5:UInt8),a,e))else(gd (bZ (d+1))<|some (.inl (a.2+1,d,d+1))))))else((Xv fu a.1 a.2 ([59,32,9]:aC)).bind fun(f:Int)=>((Xv fu a.1 a.2 ([63,44]:aC)).bind fun(g:Int)=>(if g<f then some (.inr (g,(5:UInt8),a,e))else some (.inl (a.2,f,f)))))))).bind fun(h:((Int×Int×Int)⊕(Int×UInt8×(aC×Int)×AQ)))=>fC (fun(b:(Int×Int×Int))=>(gd (0<=b.1/\b.1<=b.2.1/\b.2.1<=(a.1.length:Int))<|((apq fu (sub a.1 b.1 b.2.1)).bind fun(c:(UQ×Int×UInt8))=>(if c.2.2=0 then some ((0:Int),(0:UInt8),(a.1,b.2.2),(e.1,c.1,e.2.2))else(gd (bZ (b.1+c.2.1))<|some (b.1+c.2.1,c.2.2,a,e)))))) (fun q=>some q) h)
def ait(fu:Nat)(l:(aC×Int)):Option (PQ×Int×UInt8×(aC×Int)):=
 ((xv fu l).bind fun(g:(aC×(aC×Int)))=>((SE fu g.1).bind fun(f:aC)=>(if f=([]:aC)then some ((([]:aC),([]:aC),false),g.2.2,(5:UInt8),g.2)else((O2 fu g.2).bind fun(e:(aC×Int))=>((Gp fu e (61:UInt8)).bind fun(k:Bool)=>(bif (!k)then some ((f,([]:aC),false),(0:Int),(0:UInt8),e)else(gd (bZ (e.2+1))<|((O2 fu (e.1,e.2+1)).bind fun(a:(aC×Int))=>((Gp fu a (34:UInt8)).bind fun(j:Bool)=>(bif j then((wx fu a.1 a.2).bind fun(d:(aC×Int×UInt8))=>(if d.2.2=0 then some ((f,d.1,true),(0:Int),(0:UInt8),(a.1,d.2.1))else some ((([]:aC),([]:aC),false),d.2.1,d.2.2,a)))else((Gp fu a (91:UInt8)).bind fun(i:Bool)=>(bif i then((Xv fu a.1 a.2 ([93]:aC)).bind fun(b:Int)=>(gd (bZ (b+1))<|(gd (0<=a.2/\a.2<=(min (b+1) (a.1.length:Int))/\(min (b+1) (a.1.length:Int))<=(a.1.length:Int))<|((O0 fu (sub a.1 a.2 (min (b+1) (a.1.length:Int)))).bind fun(h:(aC×Bool))=>(bif (!h.2)then some ((([]:aC),([]:aC),false),a.2,(5:UInt8),a)else(gd (bZ (b+1))<|some ((f,h.1,true),(0:Int),(0:UInt8),(a.1,b+1))))))))else((xv fu a).bind fun(c:(aC×(aC×Int)))=>(if c.1=([]:aC)then some ((([]:aC),([]:aC),false),c.2.2,(5:UInt8),c.2)else some ((f,c.1,true),(0:Int),(0:UInt8),c.2)))))))))))))))
def akt(fu:Nat)(k:LQ->aC->Int->Option (LQ×Int×UInt8))(c:LQ)(j:aC)(i:Int):Option (LQ×Int×UInt8):=
 ((O2 fu (j,i)).bind fun(b:(aC×Int))=>((ki fu b).bind fun(h:Bool)=>(bif h then some (c,(0:Int),(0:UInt8))else((Gp fu b (59:UInt8)).bind fun(g:Bool)=>(bif (!g)then some (([]:LQ),b.2,(5:UInt8))else(gd (bZ (b.2+1))<|((O2 fu (b.1,b.2+1)).bind fun(e:(aC×Int))=>((ait fu e).bind fun(a:(PQ×Int×UInt8×(aC×Int)))=>(((if a.2.2.1=0 then((wj fu c a.1.1).bind fun(f:UInt8)=>some (e.2,f))else some (a.2.1,a.2.2.1))).bind fun(d:(Int×UInt8))=>(if d.2=0 then(gd ((c.length+([a.1]:LQ).length)*40<=140737488355328)<|(k (c++([a.1]:LQ)) a.2.2.2.1 a.2.2.2.2))else some (([]:LQ),d.1,d.2)))))))))))
def alo(fu:Nat):Nat->LQ->aC->Int->Option (LQ×Int×UInt8):=fun d c b a=>bT (fun(g:(LQ×aC×Int)->Option (LQ×Int×UInt8)) v=>akt fu (fun c b a=>g (c,b,a)) v.1 v.2.1 v.2.2) d (c,b,a)
theorem att:alo a (b+1) g e d=akt a (alo a b) g e d:=rfl
def kb(fu:Nat)(s_0:aC):Option (LQ×Int×UInt8):=
 (alo fu fu ([]:LQ) s_0 (0:Int))
def ajs(fu:Nat)(s_0:aC):Option (AQ×Int×UInt8):=
 (if(1024:Int)<(s_0.length:Int)then some ((([]:aC),(([]:aC),([]:aC),([]:aC),(0:Int),([]:LQ),([]:LQ)),([]:LQ)),(1024:Int),(4:UInt8))else((O2 fu (s_0,(0:Int))).bind fun(f:(aC×Int))=>((((Gp fu f (34:UInt8)).bind fun(i:Bool)=>(bif i then((agm fu f (([]:aC),(([]:aC),([]:aC),([]:aC),(0:Int),([]:LQ),([]:LQ)),([]:LQ))).bind fun(e:(Int×UInt8×(aC×Int)×AQ))=>some (e.1,e.2.1,e.2.2.1.1,e.2.2.1.2,e.2.2.2.1,e.2.2.2.2.1.1,e.2.2.2.2.1.2.1,e.2.2.2.2.1.2.2.1,e.2.2.2.2.1.2.2.2.1,e.2.2.2.2.1.2.2.2.2.1,e.2.2.2.2.1.2.2.2.2.2,e.2.2.2.2.2))else(gd (s_0.length<=1000000000)<|(bif (Lib.contains s_0 [60])then((ya fu f (([]:aC),(([]:aC),([]:aC),([]:aC),(0:Int),([]:LQ),([]:LQ)),([]:LQ))).bind fun(d:(Int×UInt8×(aC×Int)×AQ))=>some (d.1,d.2.1,d.2.2.1.1,d.2.2.1.2,d.2.2.2.1,d.2.2.2.2.1.1,d.2.2.2.2.1.2.1,d.2.2.2.2.1.2.2.1,d.2.2.2.2.1.2.2.2.1,d.2.2.2.2.1.2.2.2.2.1,d.2.2.2.2.1.2.2.2.2.2,d.2.2.2.2.2))else some ((0:Int),(0:UInt8),f.1,f.2,([]:aC),([]:aC),([]:aC),([]:aC),(0:Int),([]:LQ),([]:LQ),([]:LQ))))))).bind fun(a:(Int×UInt8×aC×Int×aC×aC×aC×aC×Int×LQ×LQ×LQ))=>(((if a.2.1=0 then((agl fu (a.2.2.1,a.2.2.2.1) (a.2.2.2.2.1,(a.2.2.2.2.2.1,a.2.2.2.2.2.2.1,a.2.2.2.2.2.2.2.1,a.2.2.2.2.2.2.2.2.1,a.2.2.2.2.2.2.2.2.2.1,a.2.2.2.2.2.2.2.2.2.2.1),a.2.2.2.2.2.2.2.2.2.2.2)).bind fun(c:(Int×UInt8×(aC×Int)×AQ))=>some (c.1,c.2.1,c.2.2.1.1,c.2.2.1.2,c.2.2.2.1,c.2.2.2.2.1.1,c.2.2.2.2.1.2.1,c.2.2.2.2.1.2.2.1,c.2.2.2.2.1.2.2.2.1,c.2.2.2.2.1.2.2.2.2.1,c.2.2.2.2.1.2.2.2.2.2,c.2.2.2.2.2))else some (a.1,a.2.1,a.2.2.1,a.2.2.2.1,a.2.2.2.2.1,a.2.2.2.2.2.1,a.2.2.2.2.2.2.1,a.2.2.2.2.2.2.2.1,a.2.2.2.2.2.2.2.2.1,a.2.2.2.2.2.2.2.2.2.1,a.2.2.2.2.2.2.2.2.2.2.1,a.2.2.2.2.2.2.2.2.2.2.2))).bind fun(b:(Int×UInt8×aC×Int×aC×aC×aC×aC×Int×LQ×LQ×LQ))=>(((if b.2.1=0 then(gd (0<=b.2.2.2.1/\b.2.2.2.1<=(s_0.length:Int))<|((kb fu (bN (aZ b.2.2.2.1) s_0)).bind fun(h:(LQ×Int×UInt8))=>(gd (bZ (h.2.1+b.2.2.2.1))<|some (h.2.1+b.2.2.2.1,h.2.2,h.1))))else some (b.1,b.2.1,b.2.2.2.2.2.2.2.2.2.2.2))).bind fun(g:(Int×UInt8×LQ))=>(if g.2.1=0 then some ((b.2.2.2.2.1,(b.2.2.2.2.2.1,b.2.2.2.2.2.2.1,b.2.2.2.2.2.2.2.1,b.2.2.2.2.2.2.2.2.1,b.2.2.2.2.2.2.2.2.2.1,b.2.2.2.2.2.2.2.2.2.2.1),g.2.2),(0:Int),(0:UInt8))else some ((([]:aC),(([]:aC),([]:aC),([]:aC),(0:Int),([]:LQ),([]:LQ)),([]:LQ)),g.1,g.2.1)))))))
def aqy(fu:Nat)(c:aC):Option (AQ×UInt8):=
 ((TJ fu c).bind fun(b:aC)=>((ajs fu b).bind fun(a:(AQ×Int×UInt8))=>some (a.1,a.2.2)))
open Go.Lib renaming hasPrefix → eZ, trimPrefix → eJ
def aov(fu:Nat)(s_0:aC)(f:(List UInt8)->Int->Option ((List UInt8)⊕(aC×UInt8)))(b:List UInt8)(a:Int):Option ((List UInt8)⊕(aC×UInt8)):=
 (if a<(s_0.length:Int)then(gd (0<=a/\a<(s_0.length:Int))<|((xq fu (at_ s_0 a)).bind fun(e:Bool)=>(bif e then some (.inr (([]:aC),(5:UInt8)))else(((((if(at_ s_0 a)=34 then some true else some (decide ((at_ s_0 a)=92)))).bind fun(d:Bool)=>(bif d then(gd ((b.length+([92]:List UInt8).length)*1<=140737488355328)<|some (b++([92]:List UInt8)))else some b))).bind fun(c:List UInt8)=>(gd (0<=a/\a<(s_0.length:Int))<|(gd ((c.length+([at_ s_0 a]:List UInt8).length)*1<=140737488355328)<|(gd (bZ (a+1))<|(f (c++([at_ s_0 a]:List UInt8)) (a+1)))))))))else some (.inl b))
def xh(fu:Nat)(s_0:aC):Nat->(List UInt8)->Int->Option ((List UInt8)⊕(aC×UInt8)):=fun c b a=>bT (fun(g:((List UInt8)×Int)->Option ((List UInt8)⊕(aC×UInt8))) v=>aov fu s_0 (fun b a=>g (b,a)) v.1 v.2) c (b,a)
theorem awz:xh a e (b+1) c d=aov a e (xh a e b) c d:=rfl
def wi(fu:Nat)(s_0:aC):Option (aC×UInt8):=
 (gd (bZ ((s_0.length:Int)+2))<|(@gd _ (0<=((s_0.length:Int)+2)/\(1:Int)*((s_0.length:Int)+2)<=281474976710656) (dMk 1 ((s_0.length:Int)+2))<|(gd ((([]:List UInt8).length+([34]:List UInt8).length)*1<=140737488355328)<|(((xh fu s_0 fu (([]:List UInt8)++([34]:List UInt8)) (0:Int))).bind fun(b:((List UInt8)⊕(aC×UInt8)))=>fC (fun(a:List UInt8)=>(gd ((a.length+([34]:List UInt8).length)*1<=140737488355328)<|some (a++([34]:List UInt8),(0:UInt8)))) (fun q=>some q) b))))
def aim(fu:Nat)(s_0:aC)(c:Int->Option (Unit⊕Bool))(a:Int):Option (Unit⊕Bool):=
 (if a<(s_0.length:Int)then(gd (0<=a/\a<(s_0.length:Int))<|((aqa fu (at_ s_0 a)).bind fun(b:Bool)=>(bif b then some (.inr false)else(gd (bZ (a+1))<|(c (a+1))))))else some (.inl ()))
def ano(fu:Nat)(s_0:aC):Nat->Int->Option (Unit⊕Bool):=fun b a=>bT (fun(g:Int->Option (Unit⊕Bool)) v=>aim fu s_0 (fun a=>g a) v) b a
theorem apn:ano a e (b+1) d=aim a e (ano a e b) d:=rfl
def wm(fu:Nat)(s_0:aC):Option Bool:=
 (((ano fu s_0 fu (0:Int))).bind fun(a:(Unit⊕Bool))=>fC (fun(b:Unit)=>some true) (fun q=>some q) a)
def ahz(fu:Nat)(s_0:aC)(d:Int->Option (Unit⊕Bool))(a:Int):Option (Unit⊕Bool):=
 (if a<((eJ s_0 [43]).length:Int)then(gd (0<=a/\a<((eJ s_0 [43]).length:Int))<|((((TL fu (at_ (eJ s_0 [43]) a)).bind fun(c:Bool)=>(bif (!c)then(bif (eZ s_0 [43])then some true else(if(at_ (eJ s_0 [43]) a)=42 then some false else some (!decide ((at_ (eJ s_0 [43]) a)=35))))else some false))).bind fun(b:Bool)=>(bif b then some (.inr false)else(gd (bZ (a+1))<|(d (a+1))))))else some (.inl ()))
def alk(fu:Nat)(s_0:aC):Nat->Int->Option (Unit⊕Bool):=fun b a=>bT (fun(g:Int->Option (Unit⊕Bool)) v=>ahz fu s_0 (fun a=>g a) v) b a
theorem aoo:alk a e (b+1) d=ahz a e (alk a e b) d:=rfl
def ara(fu:Nat)(s_0:aC):Option Bool:=
 (((if(eJ s_0 [43])=([]:aC)then some true else some (decide ((30:Int)<((eJ s_0 [43]).length:Int))))).bind fun(a:Bool)=>(bif a then some false else(((alk fu s_0 fu (0:Int))).bind fun(b:(Unit⊕Bool))=>fC (fun(c:Unit)=>some true) (fun q=>some q) b)))
def akp(fu:Nat)(b:LQ)(e:Int)(k:LQ->Int->Option (LQ⊕(LQ×Bool)))(d:LQ)(a:Int):Option (LQ⊕(LQ×Bool)):=
 (if a<(b.length:Int)then(gd (0<=a/\a<(b.length:Int))<|(gd (0<=a/\a<(b.length:Int))<|((SE fu ((el b a).1)).bind fun(c:aC)=>(((if c=([]:aC)then some true else((wm fu c).bind fun(j:Bool)=>(bif (!j)then some true else((wm fu ((el b a).2.1)).bind fun(i:Bool)=>(bif (!i)then some true else((wo fu d c).bind fun(h:Bool)=>some h))))))).bind fun(g:Bool)=>(bif g then some (.inr (([]:LQ),false))else(((if e=(2:Int)then(bif (!((el b a).2.2))then some true else(if e=(1:Int)then some (!(((el b a).2.2)==(!decide (((el b a).2.1)=([]:aC)))))else some false))else(if e=(1:Int)then some (!(((el b a).2.2)==(!decide (((el b a).2.1)=([]:aC)))))else some false))).bind fun(f:Bool)=>(bif f then some (.inr (([]:LQ),false))else(gd ((d.length+([(c,(el b a).2.1,((el b a).2.2))]:LQ).length)*40<=140737488355328)<|(gd (bZ (a+1))<|(k (d++([(c,(el b a).2.1,((el b a).2.2))]:LQ)) (a+1)))))))))))else some (.inl d))
def ail(fu:Nat)(e:LQ)(d:Int):Nat->LQ->Int->Option (LQ⊕(LQ×Bool)):=fun c b a=>bT (fun(g:(LQ×Int)->Option (LQ⊕(LQ×Bool))) v=>akp fu e d (fun b a=>g (b,a)) v.1 v.2) c (b,a)
variable {u:LQ}
theorem atr:ail a g d (b+1) u f=akp a g d (ail a g d b) u f:=rfl
def aob(fu:Nat)(a:LQ)(e:Int):Option (LQ×Bool):=
 (if(16:Int)<(a.length:Int)then some (([]:LQ),false)else(((ail fu a e fu ([]:LQ) (0:Int))).bind fun(d:(LQ⊕(LQ×Bool)))=>fC (fun(c:LQ)=>((dq fu c).bind fun(b:LQ)=>some (b,true))) (fun q=>some q) d))
def arb(fu:Nat)(a:UQ):Option (UQ×UInt8):=
 ((SE fu a.1).bind fun(b:aC)=>(((((if b=([115,105,112]:aC)then some (decide (b=([115,105,112]:aC)))else some (decide (b=([115,105,112,115]:aC))))).bind fun(j:Bool)=>(bif j then((O0 fu a.2.2.1).bind fun(c:(aC×Bool))=>(bif c.2 then(if(0:Int)<=a.2.2.2.1 then(if a.2.2.2.1<=(65535:Int)then((wm fu a.2.1).bind fun(i:Bool)=>some (i,c.1))else some (false,c.1))else some (false,c.1))else some (false,c.1)))else(if b=([116,101,108]:aC)then(if a.2.2.1=([]:aC)then(if a.2.2.2.1=(0:Int)then(if(a.2.2.2.2.2.length:Int)=(0:Int)then((ara fu a.2.1).bind fun(h:Bool)=>some (h,([]:aC)))else some (false,([]:aC)))else some (false,([]:aC)))else some (false,([]:aC)))else some (false,([]:aC)))))).bind fun(f:(Bool×aC))=>((aob fu a.2.2.2.2.1 (1:Int)).bind fun(e:(LQ×Bool))=>((aob fu a.2.2.2.2.2 (2:Int)).bind fun(d:(LQ×Bool))=>(((bif (!f.1)then some true else(bif (!e.2)then some true else some (!d.2)))).bind fun(g:Bool)=>(bif g then some ((([]:aC),([]:aC),([]:aC),(0:Int),([]:LQ),([]:LQ)),(2:UInt8))else some ((b,a.2.1,f.2,a.2.2.2.1,e.1,d.1),(0:UInt8))))))))
def Ym(fu:Nat)(b:(Unit×(List UInt8)))(a:aC):Option (Int×Unit×(Unit×(List UInt8))):=
 (gd ((b.2.length+a.length)*1<=140737488355328)<|some ((a.length:Int),(),((),b.2++a)))
def aku(fu:Nat)(s_0:aC)(e:Int)(c:(List UInt8)->Int->Option (List UInt8))(b:List UInt8)(a:Int):Option (List UInt8):=
 (if a<(s_0.length:Int)then(gd (0<=a/\a<(s_0.length:Int))<|((amj fu (at_ s_0 a) e).bind fun(d:Bool)=>(bif d then(gd (0<=a/\a<(s_0.length:Int))<|(gd ((b.length+([at_ s_0 a]:List UInt8).length)*1<=140737488355328)<|(gd (bZ (a+1))<|(c (b++([at_ s_0 a]:List UInt8)) (a+1)))))else(gd (0<=a/\a<(s_0.length:Int))<|(gd (0<=((Ut (at_ s_0 a) (4:Int)).toNat:Int)/\((Ut (at_ s_0 a) (4:Int)).toNat:Int)<(([48,49,50,51,52,53,54,55,56,57,65,66,67,68,69,70]:aC).length:Int))<|(gd (0<=a/\a<(s_0.length:Int))<|(gd (0<=(((at_ s_0 a)&&&(15:UInt8)).toNat:Int)/\(((at_ s_0 a)&&&(15:UInt8)).toNat:Int)<(([48,49,50,51,52,53,54,55,56,57,65,66,67,68,69,70]:aC).length:Int))<|(gd ((b.length+([(37:UInt8),at_ ([48,49,50,51,52,53,54,55,56,57,65,66,67,68,69,70]:aC) ((Ut (at_ s_0 a) (4:Int)).toNat:Int),at_ ([48,49,50,51,52,53,54,55,56,57,65,66,67,68,69,70]:aC) (((at_ s_0 a)&&&(15:UInt8)).toNat:Int)]:List UInt8).length)*1<=140737488355328)<|(gd (bZ (a+1))<|(c (b++([(37:UInt8),at_ ([48,49,50,51,52,53,54,55,56,57,65,66,67,68,69,70]:aC) ((Ut (at_ s_0 a) (4:Int)).toNat:Int),at_ ([48,49,50,51,52,53,54,55,56,57,65,66,67,68,69,70]:aC) (((at_ s_0 a)&&&(15:UInt8)).toNat:Int)]:List UInt8)) (a+1)))))))))))else some b)
def ain(fu:Nat)(s_0:aC)(d:Int):Nat->(List UInt8)->Int->Option (List UInt8):=fun c b a=>bT (fun(g:((List UInt8)×Int)->Option (List UInt8)) v=>aku fu s_0 d (fun b a=>g (b,a)) v.1 v.2) c (b,a)
theorem atu:ain a e d (b+1) c f=aku a e d (ain a e d b) c f:=rfl
def J9(fu:Nat)(s_0:aC)(b:Int):Option aC:=
 (@gd _ (0<=(s_0.length:Int)/\(1:Int)*(s_0.length:Int)<=281474976710656) (dMk 1 (s_0.length:Int))<|(((ain fu s_0 b fu ([]:List UInt8) (0:Int))).bind fun(a:List UInt8)=>some a))
def aeh(fu:Nat)(b:(Unit×(List UInt8)))(a:UInt8):Option (Unit×(Unit×(List UInt8))):=
 (gd ((b.2.length+([a]:List UInt8).length)*1<=140737488355328)<|some ((),((),b.2++([a]:List UInt8))))
open Go.Lib renaming indexAny → Bk, itoa → dO
def aln(fu:Nat)(b:(UQ×UInt8))(g:Int->Unit->(List UInt8)->Option (Unit×(List UInt8)))(a:Int)(i:Unit)(f:List UInt8):Option (Unit×(List UInt8)):=
 (if a<(b.1.2.2.2.2.1.length:Int)then(gd (0<=a/\a<(b.1.2.2.2.2.1.length:Int))<|(gd (0<=a/\a<(b.1.2.2.2.2.1.length:Int))<|((J9 fu ((el b.1.2.2.2.2.1 a).1) (1:Int)).bind fun(e:aC)=>(gd (([59]:aC).length+e.length<=9223372036854775807)<|((Ym fu ((),f) (([59]:aC)++e)).bind fun(d:(Int×Unit×(Unit×(List UInt8))))=>(bif ((el b.1.2.2.2.2.1 a).2.2)then((J9 fu ((el b.1.2.2.2.2.1 a).2.1) (1:Int)).bind fun(c:aC)=>(gd (([61]:aC).length+c.length<=9223372036854775807)<|((Ym fu ((),d.2.2.2) (([61]:aC)++c)).bind fun(h:(Int×Unit×(Unit×(List UInt8))))=>(gd (bZ (a+1))<|(g (a+1) () h.2.2.2)))))else(gd (bZ (a+1))<|(g (a+1) () d.2.2.2))))))))else some ((),f))
def xm(fu:Nat)(d:(UQ×UInt8)):Nat->Int->Unit->(List UInt8)->Option (Unit×(List UInt8)):=fun e c b a=>bT (fun(g:(Int×Unit×(List UInt8))->Option (Unit×(List UInt8))) v=>aln fu d (fun c b a=>g (c,b,a)) v.1 v.2.1 v.2.2) e (c,b,a)
variable {n:(UQ×UInt8)}{r:Unit}
theorem aux:xm a n (b+1) d r c=aln a n (xm a n b) d r c:=rfl
def alm(fu:Nat)(b:(UQ×UInt8))(j:Int->Unit->(List UInt8)->Option (Unit×(List UInt8)))(a:Int)(k:Unit)(d:List UInt8):Option (Unit×(List UInt8)):=
 (if a<(b.1.2.2.2.2.2.length:Int)then(gd (0<=a/\a<(b.1.2.2.2.2.2.length:Int))<|(gd (0<=a/\a<(b.1.2.2.2.2.2.length:Int))<|(((if a=(0:Int)then((aeh fu ((),d) (63:UInt8)).bind fun(i:(Unit×(Unit×(List UInt8))))=>some ((),i.2.2))else((aeh fu ((),d) (38:UInt8)).bind fun(h:(Unit×(Unit×(List UInt8))))=>some ((),h.2.2)))).bind fun(g:(Unit×(List UInt8)))=>((J9 fu ((el b.1.2.2.2.2.2 a).1) (2:Int)).bind fun(c:aC)=>(gd (c.length+([61]:aC).length<=9223372036854775807)<|((J9 fu ((el b.1.2.2.2.2.2 a).2.1) (2:Int)).bind fun(e:aC)=>(gd ((c++([61]:aC)).length+e.length<=9223372036854775807)<|((Ym fu ((),g.2) ((c++([61]:aC))++e)).bind fun(f:(Int×Unit×(Unit×(List UInt8))))=>(gd (bZ (a+1))<|(j (a+1) () f.2.2.2))))))))))else some ((),d))
def uu(fu:Nat)(d:(UQ×UInt8)):Nat->Int->Unit->(List UInt8)->Option (Unit×(List UInt8)):=fun e c b a=>bT (fun(g:(Int×Unit×(List UInt8))->Option (Unit×(List UInt8))) v=>alm fu d (fun c b a=>g (c,b,a)) v.1 v.2.1 v.2.2) e (c,b,a)
theorem auw:uu a n (b+1) d r c=alm a n (uu a n b) d r c:=rfl
def atj(fu:Nat)(l:UQ):Option (aC×UInt8):=
 ((arb fu l).bind fun(a:(UQ×UInt8))=>(if a.2=0 then(gd (a.1.1.length+([58]:aC).length<=9223372036854775807)<|((Ym fu ((),([]:List UInt8)) (a.1.1++([58]:aC))).bind fun(b:(Int×Unit×(Unit×(List UInt8))))=>(((if a.1.1=([116,101,108]:aC)then((Ym fu ((),b.2.2.2) a.1.2.1).bind fun(k:(Int×Unit×(Unit×(List UInt8))))=>some ((),k.2.2.2))else(if a.1.2.1=([]:aC)then some ((),b.2.2.2)else((J9 fu a.1.2.1 (0:Int)).bind fun(e:aC)=>(gd (e.length+([64]:aC).length<=9223372036854775807)<|((Ym fu ((),b.2.2.2) (e++([64]:aC))).bind fun(j:(Int×Unit×(Unit×(List UInt8))))=>some ((),j.2.2.2))))))).bind fun(i:(Unit×(List UInt8)))=>((Ym fu ((),i.2) a.1.2.2.1).bind fun(d:(Int×Unit×(Unit×(List UInt8))))=>(((if a.1.2.2.2.1=(0:Int)then some ((),d.2.2.2)else(gd (bZ a.1.2.2.2.1)<|(gd (([58]:aC).length+(dO a.1.2.2.2.1).length<=9223372036854775807)<|((Ym fu ((),d.2.2.2) (([58]:aC)++(dO a.1.2.2.2.1))).bind fun(h:(Int×Unit×(Unit×(List UInt8))))=>some ((),h.2.2.2)))))).bind fun(g:(Unit×(List UInt8)))=>(((xm fu a fu (0:Int) () g.2)).bind fun(f:(Unit×(List UInt8)))=>(((uu fu a fu (0:Int) () f.2)).bind fun(c:(Unit×(List UInt8)))=>(gd (c.2.length<=140737488355328)<|some (c.2,(0:UInt8))))))))))else some (([]:aC),a.2)))
def aha(fu:Nat)(b:LQ)(h:Int->Unit->(List UInt8)->Option ((Unit×(List UInt8))⊕(aC×UInt8)))(a:Int)(r:Unit)(g:List UInt8):Option ((Unit×(List UInt8))⊕(aC×UInt8)):=
 (if a<(b.length:Int)then(gd (0<=a/\a<(b.length:Int))<|(gd (0<=a/\a<(b.length:Int))<|((((TK fu ((el b a).1)).bind fun(p:Bool)=>(bif (!p)then some true else((SE fu ((el b a).1)).bind fun(o:aC)=>(if((el b a).1)=o then(gd (0<=a/\a<=(b.length:Int))<|((wo fu (nZ (aZ a) b) ((el b a).1)).bind fun(n:Bool)=>some n))else some true))))).bind fun(m:Bool)=>(bif m then some (.inr (([]:aC),(2:UInt8)))else(gd (([59]:aC).length+((el b a).1).length<=9223372036854775807)<|((Ym fu ((),g) (([59]:aC)++((el b a).1))).bind fun(f:(Int×Unit×(Unit×(List UInt8))))=>(bif (!((el b a).2.2))then(if((el b a).2.1)=([]:aC)then(gd (bZ (a+1))<|(h (a+1) () f.2.2.2))else some (.inr (([]:aC),(2:UInt8))))else((((O0 fu ((el b a).2.1)).bind fun(e:(aC×Bool))=>((((TK fu ((el b a).2.1)).bind fun(l:Bool)=>(bif (!l)then(bif e.2 then(if e.1=((el b a).2.1)then(gd (0<=(0:Int)/\(0:Int)<(((el b a).2.1).length:Int))<|some (!decide ((at_ ((el b a).2.1) (0:Int))=91)))else some true)else some true)else some false))).bind fun(k:Bool)=>(bif k then((wi fu ((el b a).2.1)).bind fun(d:(aC×UInt8))=>(if d.2=0 then some (.inl d.1)else some (.inr (([]:aC),(2:UInt8)))))else some (.inl ((el b a).2.1)))))).bind fun(j:(aC⊕(aC×UInt8)))=>fC (fun(c:aC)=>(gd (([61]:aC).length+c.length<=9223372036854775807)<|((Ym fu ((),f.2.2.2) (([61]:aC)++c)).bind fun(i:(Int×Unit×(Unit×(List UInt8))))=>(gd (bZ (a+1))<|(h (a+1) () i.2.2.2))))) (fun q=>some (.inr q)) j))))))))else some (.inl ((),g)))
def xz(fu:Nat)(e:LQ):Nat->Int->Unit->(List UInt8)->Option ((Unit×(List UInt8))⊕(aC×UInt8)):=fun d c b a=>bT (fun(g:(Int×Unit×(List UInt8))->Option ((Unit×(List UInt8))⊕(aC×UInt8))) v=>aha fu e (fun c b a=>g (c,b,a)) v.1 v.2.1 v.2.2) d (c,b,a)
theorem apo:xz a g (b+1) d r c=aha a g (xz a g b) d r c:=rfl
def SH(fu:Nat)(b:LQ):Option (aC×UInt8):=
 (if(16:Int)<(b.length:Int)then some (([]:aC),(2:UInt8))else(((xz fu b fu (0:Int) () ([]:List UInt8))).bind fun(c:((Unit×(List UInt8))⊕(aC×UInt8)))=>fC (fun(a:(Unit×(List UInt8)))=>(gd (a.2.length<=140737488355328)<|some (a.2,(0:UInt8)))) (fun q=>some q) c))
def ajr(fu:Nat)(a_0:AQ):Option (aC×UInt8):=
 ((wi fu a_0.1).bind fun(b:(aC×UInt8))=>(if b.2=0 then((atj fu a_0.2.1).bind fun(a:(aC×UInt8))=>(if a.2=0 then((dq fu a_0.2.2).bind fun(d:LQ)=>((SH fu d).bind fun(c:(aC×UInt8))=>(if c.2=0 then(if a_0.1=([]:aC)then(gd (([60]:aC).length+a.1.length<=9223372036854775807)<|(gd ((([60]:aC)++a.1).length+([62]:aC).length<=9223372036854775807)<|(gd (((([60]:aC)++a.1)++([62]:aC)).length+c.1.length<=9223372036854775807)<|some (((([60]:aC)++a.1)++([62]:aC))++c.1,(0:UInt8)))))else(gd (b.1.length+([32,60]:aC).length<=9223372036854775807)<|(gd ((b.1++([32,60]:aC)).length+a.1.length<=9223372036854775807)<|(gd (((b.1++([32,60]:aC))++a.1).length+([62]:aC).length<=9223372036854775807)<|(gd ((((b.1++([32,60]:aC))++a.1)++([62]:aC)).length+c.1.length<=9223372036854775807)<|some ((((b.1++([32,60]:aC))++a.1)++([62]:aC))++c.1,(0:UInt8)))))))else some (([]:aC),(2:UInt8)))))else some (([]:aC),(2:UInt8))))else some (([]:aC),(2:UInt8))))
def acq(fu:Nat)(s_0:aC)(d:aC->Int->Option aC)(b:aC)(a:Int):Option aC:=
 (if a<(s_0.length:Int)then(gd (0<=a/\a<(b.length:Int))<|(gd (0<=a/\a<(b.length:Int))<|((akh fu (at_ b a)).bind fun(c:UInt8)=>(gd (0<=a/\a<(b.length:Int))<|(gd (0<=a/\a<(b.length:Int))<|(gd (bZ (a+1))<|(d (jV b (aZ a) c) (a+1))))))))else some b)
def acu(fu:Nat)(s_0:aC):Nat->aC->Int->Option aC:=fun c b a=>bT (fun(g:(aC×Int)->Option aC) v=>acq fu s_0 (fun b a=>g (b,a)) v.1 v.2) c (b,a)
theorem ahq:acu a e (b+1) s d=acq a e (acu a e b) s d:=rfl
def yc(fu:Nat)(s_0:aC):Option aC:=
 (((acu fu s_0 fu s_0 (0:Int))).bind fun(a:aC)=>some a)
def aqw(fu:Nat)(s_0:aC):Option PQ:=
 (gd (s_0.length<=1000000000)<|(((if(jW (·==(58:UInt8)) s_0)<(0:Int)then some true else(gd (0<=(jW (·==(58:UInt8)) s_0)/\(jW (·==(58:UInt8)) s_0)<=(s_0.length:Int))<|(gd ((nZ (aZ (jW (·==(58:UInt8)) s_0)) s_0).length<=1000000000)<|(bif (Lib.contains (nZ (aZ (jW (·==(58:UInt8)) s_0)) s_0) ([91]:aC))then(gd (0<=(jW (·==(58:UInt8)) s_0)/\(jW (·==(58:UInt8)) s_0)<=(s_0.length:Int))<|(gd ((bN (aZ (jW (·==(58:UInt8)) s_0)) s_0).length<=1000000000)<|some (Lib.contains (bN (aZ (jW (·==(58:UInt8)) s_0)) s_0) ([93]:aC))))else some false))))).bind fun(a:Bool)=>(bif a then some (s_0,([]:aC),false)else(gd (0<=(jW (·==(58:UInt8)) s_0)/\(jW (·==(58:UInt8)) s_0)<=(s_0.length:Int))<|(gd (bZ ((jW (·==(58:UInt8)) s_0)+1))<|(gd (0<=((jW (·==(58:UInt8)) s_0)+1)/\((jW (·==(58:UInt8)) s_0)+1)<=(s_0.length:Int))<|some (nZ (aZ (jW (·==(58:UInt8)) s_0)) s_0,bN (aZ ((jW (·==(58:UInt8)) s_0)+1)) s_0,true)))))))
def apc(fu:Nat)(b:LQ)(c:aC)(e:Int->Option (Unit⊕(aC×Bool)))(a:Int):Option (Unit⊕(aC×Bool)):=
 (if a<(b.length:Int)then(gd (0<=a/\a<(b.length:Int))<|(gd (0<=a/\a<(b.length:Int))<|((SE fu ((el b a).1)).bind fun(d:aC)=>(if d=c then some (.inr ((el b a).2.1,true))else(gd (bZ (a+1))<|(e (a+1)))))))else some (.inl ()))
def amn(fu:Nat)(d:LQ)(b:aC):Nat->Int->Option (Unit⊕(aC×Bool)):=fun c a=>bT (fun(g:Int->Option (Unit⊕(aC×Bool))) v=>apc fu d b (fun a=>g a) v) c a
theorem axd:amn a g e (b+1) d=apc a g e (amn a g e b) d:=rfl
def atk(fu:Nat)(d:LQ)(c:aC):Option (aC×Bool):=
 ((SE fu c).bind fun(a:aC)=>(((amn fu d a fu (0:Int))).bind fun(b:(Unit⊕(aC×Bool)))=>fC (fun(e:Unit)=>some (([]:aC),false)) (fun q=>some q) b))
def axv(fu:Nat)(t:aC):Option ((aC×aC×Int×aC×LQ)×UInt8):=
 ((TJ fu t).bind fun(a:aC)=>(((if(a.length:Int)<(8:Int)then some true else(gd (0<=(8:Int)/\(8:Int)<=(a.length:Int))<|((yc fu (nZ (aZ (8:Int)) a)).bind fun(s:aC)=>some (!decide (s=([83,73,80,47,50,46,48,47]:aC))))))).bind fun(r:Bool)=>(bif r then some ((([]:aC),([]:aC),(0:Int),([]:aC),([]:LQ)),(5:UInt8))else((dr fu a (8:Int)).bind fun(d:Int)=>((O1 fu a d).bind fun(c:Int)=>(((if d=(8:Int)then some true else some (decide (c=d)))).bind fun(p:Bool)=>(bif p then some ((([]:aC),([]:aC),(0:Int),([]:aC),([]:LQ)),(5:UInt8))else(gd (0<=(8:Int)/\(8:Int)<=d/\d<=(a.length:Int))<|((yc fu (sub a (8:Int) d)).bind fun(o:aC)=>(gd (0<=c/\c<=(a.length:Int))<|(((gd ((bN (aZ c) a).length<=1000000000/\([59,32,9]:aC).length<=1000/\([59,32,9]:aC).all (fun b=>decide (b.toNat<128))=true)<|(if(0:Int)<=(Bk (bN (aZ c) a) ([59,32,9]:aC))then(gd (0<=(Bk (bN (aZ c) a) ([59,32,9]:aC))/\(Bk (bN (aZ c) a) ([59,32,9]:aC))<=((bN (aZ c) a).length:Int))<|(gd (0<=(Bk (bN (aZ c) a) ([59,32,9]:aC))/\(Bk (bN (aZ c) a) ([59,32,9]:aC))<=((bN (aZ c) a).length:Int))<|some (nZ (aZ (Bk (bN (aZ c) a) ([59,32,9]:aC))) (bN (aZ c) a),bN (aZ (Bk (bN (aZ c) a) ([59,32,9]:aC))) (bN (aZ c) a))))else some (bN (aZ c) a,([]:aC))))).bind fun(j:(aC×aC))=>((aqw fu j.1).bind fun(g:PQ)=>((O0 fu g.1).bind fun(i:(aC×Bool))=>(bif (!i.2)then some ((([]:aC),([]:aC),(0:Int),([]:aC),([]:LQ)),(5:UInt8))else(((bif g.2.2 then((jz fu g.2.1).bind fun(e:(Int×UInt8))=>(((((if e.2=0 then(if e.1<(1:Int)then some true else some (decide ((65535:Int)<e.1)))else some false)).bind fun(n:Bool)=>(bif n then some (3:UInt8)else some e.2))).bind fun(h:UInt8)=>(if h=0 then some (.inl e.1)else some (.inr ((([]:aC),([]:aC),(0:Int),([]:aC),([]:LQ)),h)))))else some (.inl (0:Int)))).bind fun(m:(Int⊕((aC×aC×Int×aC×LQ)×UInt8)))=>fC (fun(l:Int)=>((kb fu j.2).bind fun(f:(LQ×Int×UInt8))=>(if f.2.2=0 then((atk fu f.1 ([98,114,97,110,99,104]:aC)).bind fun(k:(aC×Bool))=>some ((o,i.1,l,k.1,f.1),(0:UInt8)))else some ((([]:aC),([]:aC),(0:Int),([]:aC),([]:LQ)),f.2.2)))) (fun q=>some q) m)))))))))))))))
def akd(fu:Nat)(s_0:LQ):Option LQ:=
 some s_0
def abq(fu:Nat)(b:PQ)(a:LQ):Option (Nat×LQ):=
 (gd ((a.length+([b]:LQ).length)*40<=140737488355328)<|some (0,a++([b]:LQ)))
def aao(fu:Nat)(x_4:LQ)(d:Int->LQ->Option (LQ×Nat))(a:Int)(c:LQ):Option (LQ×Nat):=
 (if a<(x_4.length:Int)then(gd (0<=a/\a<(x_4.length:Int))<|(gd (0<=a/\a<(x_4.length:Int))<|((abq fu ((el x_4 a).1,(el x_4 a).2.1,((el x_4 a).2.2)) c).bind fun(b:(Nat×LQ))=>(if b.1=0 then(gd (bZ (a+1))<|(d (a+1) b.2))else some (b.2,b.1)))))else some (c,0))
def yi(fu:Nat)(x_4:LQ):Nat->Int->LQ->Option (LQ×Nat):=fun c b a=>bT (fun(g:(Int×LQ)->Option (LQ×Nat)) v=>aao fu x_4 (fun b a=>g (b,a)) v.1 v.2) c (b,a)
theorem abg:yi a g (b+1) d u=aao a g (yi a g b) d u:=rfl
def aaz(fu:Nat)(x_1:LQ)(x_4:LQ):Option (LQ×Nat):=
 (yi fu x_4 fu (0:Int) x_1)
def adj(fu:Nat)(s_0:LQ)(b:LQ):Option LQ:=
 ((aaz fu s_0 b).bind fun(a:(LQ×Nat))=>(if a.2=0 then some a.1 else none))
def acl(fu:Nat)(b:LQ):Option LQ:=
 ((adj fu ([]:LQ) b).bind fun(a:LQ)=>some a)
def Ax(fu:Nat)(a_0:PQ)(b:PQ):Option Int:=
 ((ali fu a_0.1 b.1).bind fun(a:Int)=>some a)
def ajj:=yg
def amu:=abw
def abx:=yf
def aba(fu:Nat)(c:LQ):Option LQ:=
 ((acl fu c).bind fun(b:LQ)=>((abx fu b).bind fun(a:LQ)=>some a))
def SF(fu:Nat)(a:LQ):Option LQ:=
 ((akd fu a).bind fun(c:LQ)=>((aba fu a).bind fun(b:LQ)=>some b))
def ajn(fu:Nat)(b:(aC×aC×Int×aC×LQ))(d:LQ->Int->Option LQ)(c:LQ)(a:Int):Option LQ:=
 (if a<(b.2.2.2.2.length:Int)then(gd (0<=a/\a<(b.2.2.2.2.length:Int))<|(gd (0<=a/\a<(b.2.2.2.2.length:Int))<|(if((el b.2.2.2.2 a).1)=([98,114,97,110,99,104]:aC)then(gd (bZ (a+1))<|(d c (a+1)))else(gd ((c.length+([((el b.2.2.2.2 a).1,(el b.2.2.2.2 a).2.1,((el b.2.2.2.2 a).2.2))]:LQ).length)*40<=140737488355328)<|(gd (bZ (a+1))<|(d (c++([((el b.2.2.2.2 a).1,(el b.2.2.2.2 a).2.1,((el b.2.2.2.2 a).2.2))]:LQ)) (a+1)))))))else some c)
def ahw(fu:Nat)(d:(aC×aC×Int×aC×LQ)):Nat->LQ->Int->Option LQ:=fun c b a=>bT (fun(g:(LQ×Int)->Option LQ) v=>ajn fu d (fun b a=>g (b,a)) v.1 v.2) c (b,a)
theorem atb{c:(aC×aC×Int×aC×LQ)}:ahw a c (b+1) g d=ajn a c (ahw a c b) g d:=rfl
def apw(fu:Nat)(a:(aC×aC×Int×aC×LQ)):Option (aC×UInt8):=
 ((O0 fu a.2.1).bind fun(c:(aC×Bool))=>(((bif (!c.2)then some true else((TK fu a.1).bind fun(j:Bool)=>(bif (!j)then some true else(if a.2.2.1<(0:Int)then some true else some (decide ((65535:Int)<a.2.2.1))))))).bind fun(i:Bool)=>(bif i then some (([]:aC),(2:UInt8))else(((ahw fu a fu ([]:LQ) (0:Int))).bind fun(f:LQ)=>(((if a.2.2.2.1=([]:aC)then some f else(gd ((f.length+([(([98,114,97,110,99,104]:aC),a.2.2.2.1,true)]:LQ).length)*40<=140737488355328)<|some (f++([(([98,114,97,110,99,104]:aC),a.2.2.2.1,true)]:LQ))))).bind fun(h:LQ)=>((SF fu h).bind fun(g:LQ)=>((SH fu g).bind fun(e:(aC×UInt8))=>(if e.2=0 then(((if a.2.2.1=(0:Int)then some c.1 else(gd (bZ a.2.2.1)<|(gd (([58]:aC).length+(dO a.2.2.1).length<=9223372036854775807)<|(gd (c.1.length+(([58]:aC)++(dO a.2.2.1)).length<=9223372036854775807)<|some (c.1++(([58]:aC)++(dO a.2.2.1)))))))).bind fun(d:aC)=>((yc fu a.1).bind fun(b:aC)=>(gd (([83,73,80,47,50,46,48,47]:aC).length+b.length<=9223372036854775807)<|(gd ((([83,73,80,47,50,46,48,47]:aC)++b).length+([32]:aC).length<=9223372036854775807)<|(gd (((([83,73,80,47,50,46,48,47]:aC)++b)++([32]:aC)).length+d.length<=9223372036854775807)<|(gd ((((([83,73,80,47,50,46,48,47]:aC)++b)++([32]:aC))++d).length+e.1.length<=9223372036854775807)<|some ((((([83,73,80,47,50,46,48,47]:aC)++b)++([32]:aC))++d)++e.1,(0:UInt8))))))))else some (([]:aC),(2:UInt8))))))))))
def amc(fu:Nat)(s_0:aC):Option (Int×aC×UInt8):=
 (gd (s_0.length<=1000000000/\([32,9]:aC).length<=1000/\([32,9]:aC).all (fun b=>decide (b.toNat<128))=true)<|(((if(Bk s_0 [32,9])<(0:Int)then some (s_0.length:Int)else some (Bk s_0 [32,9]))).bind fun(a:Int)=>(gd (0<=a/\a<=(s_0.length:Int))<|((jz fu (nZ (aZ a) s_0)).bind fun(d:(Int×UInt8))=>((O1 fu s_0 a).bind fun(c:Int)=>(gd (0<=c/\c<=(s_0.length:Int))<|some (d.1,bN (aZ c) s_0,d.2)))))))
def atd(fu:Nat)(d:aC):Option (Int×aC×UInt8):=
 ((TJ fu d).bind fun(b:aC)=>((amc fu b).bind fun(a:(Int×aC×UInt8))=>(if a.2.2=0 then((TK fu a.2.1).bind fun(c:Bool)=>(bif (!c)then some ((0:Int),([]:aC),(5:UInt8))else some (a.1,a.2.1,(0:UInt8))))else some ((0:Int),([]:aC),a.2.2))))
def avw(fu:Nat)(d:aC):Option (Int×Int×aC×UInt8):=
 ((TJ fu d).bind fun(c:aC)=>((amc fu c).bind fun(a:(Int×aC×UInt8))=>(if a.2.2=0 then((atd fu a.2.1).bind fun(b:(Int×aC×UInt8))=>(if b.2.2=0 then some (a.1,b.1,b.2.1,(0:UInt8))else some ((0:Int),(0:Int),([]:aC),b.2.2)))else some ((0:Int),(0:Int),([]:aC),a.2.2))))
def atc(fu:Nat)(c:aC):Option (Int×UInt8):=
 ((TJ fu c).bind fun(b:aC)=>((jz fu b).bind fun(a:(Int×UInt8))=>some (a.1,a.2)))
def avy(fu:Nat)(h:aC):Option ((aC×LQ)×UInt8):=
 ((TJ fu h).bind fun(b:aC)=>((dr fu b (0:Int)).bind fun(a:Int)=>(if a=(0:Int)then some ((([]:aC),([]:LQ)),(5:UInt8))else(((((if a<(b.length:Int)then(gd (0<=a/\a<(b.length:Int))<|some (decide ((at_ b a)=47)))else some false)).bind fun(g:Bool)=>(bif g then(gd (bZ (a+1))<|((dr fu b (a+1)).bind fun(e:Int)=>(gd (bZ (a+1))<|(if e=(a+1)then some (.inr ((([]:aC),([]:LQ)),(5:UInt8)))else some (.inl e)))))else some (.inl a)))).bind fun(f:(Int⊕((aC×LQ)×UInt8)))=>fC (fun(c:Int)=>(gd (0<=c/\c<=(b.length:Int))<|((kb fu (bN (aZ c) b)).bind fun(d:(LQ×Int×UInt8))=>(if d.2.2=0 then(gd (0<=c/\c<=(b.length:Int))<|some ((nZ (aZ c) b,d.1),(0:UInt8)))else some ((([]:aC),([]:LQ)),d.2.2))))) (fun q=>some q) f))))
open Go.Lib renaming cut → cW, itoa → dO, join → dA
def aox(fu:Nat)(a:(aC×LQ)):Option (aC×UInt8):=
 (gd (a.1.length<=1000000000)<|((((TK fu ((cW a.1 ([47]:aC)).1)).bind fun(f:Bool)=>(bif (!f)then some true else(bif ((cW a.1 ([47]:aC)).2.2)then((TK fu ((cW a.1 ([47]:aC)).2.1)).bind fun(e:Bool)=>some (!e))else some false)))).bind fun(d:Bool)=>(bif d then some (([]:aC),(2:UInt8))else((SF fu a.2).bind fun(c:LQ)=>((SH fu c).bind fun(b:(aC×UInt8))=>(if b.2=0 then(gd (a.1.length+b.1.length<=9223372036854775807)<|some (a.1++b.1,(0:UInt8)))else some (([]:aC),(2:UInt8))))))))
def ata(fu:Nat)(m:aC)(d:aC):Option (aC×UInt8):=
 ((ka fu m).bind fun(c:Int)=>(if c=(1:Int)then(((if m=([67,111,110,116,97,99,116]:aC)then((TJ fu d).bind fun(q:aC)=>some (decide (q=([42]:aC))))else some false)).bind fun(p:Bool)=>(bif p then some (([42]:aC),(0:UInt8))else((aqy fu d).bind fun(h:(AQ×UInt8))=>(if h.2=0 then((ajr fu h.1).bind fun(l:(aC×UInt8))=>some (l.1,l.2))else some (([]:aC),h.2)))))else(if c=(2:Int)then((axv fu d).bind fun(g:((aC×aC×Int×aC×LQ)×UInt8))=>(if g.2=0 then((apw fu g.1).bind fun(k:(aC×UInt8))=>some (k.1,k.2))else some (([]:aC),g.2)))else(if c=(3:Int)then((atd fu d).bind fun(b:(Int×aC×UInt8))=>(if b.2.2=0 then(gd (bZ b.1)<|(gd ((dO b.1).length+([32]:aC).length<=9223372036854775807)<|(gd (((dO b.1)++([32]:aC)).length+b.2.1.length<=9223372036854775807)<|some (((dO b.1)++([32]:aC))++b.2.1,(0:UInt8)))))else some (([]:aC),b.2.2)))else(if c=(4:Int)then((avw fu d).bind fun(a:(Int×Int×aC×UInt8))=>(if a.2.2.2=0 then(gd (bZ a.1)<|(gd ((dO a.1).length+([32]:aC).length<=9223372036854775807)<|(gd (bZ a.2.1)<|(gd (((dO a.1)++([32]:aC)).length+(dO a.2.1).length<=9223372036854775807)<|(gd ((((dO a.1)++([32]:aC))++(dO a.2.1)).length+([32]:aC).length<=9223372036854775807)<|(gd (((((dO a.1)++([32]:aC))++(dO a.2.1))++([32]:aC)).length+a.2.2.1.length<=9223372036854775807)<|some (((((dO a.1)++([32]:aC))++(dO a.2.1))++([32]:aC))++a.2.2.1,(0:UInt8))))))))else some (([]:aC),a.2.2.2)))else(if c=(5:Int)then((atc fu d).bind fun(e:(Int×UInt8))=>(if e.2=0 then(gd (bZ e.1)<|some (dO e.1,(0:UInt8)))else some (([]:aC),e.2)))else(((if c=(6:Int)then some (decide (c=(6:Int)))else some (decide (c=(7:Int))))).bind fun(o:Bool)=>(bif o then((avy fu d).bind fun(f:((aC×LQ)×UInt8))=>(if f.2=0 then((aox fu f.1).bind fun(j:(aC×UInt8))=>some (j.1,j.2))else some (([]:aC),f.2)))else((TJ fu d).bind fun(i:aC)=>((wi fu i).bind fun(n:(aC×UInt8))=>(if n.2=0 then some (i,(0:UInt8))else some (([]:aC),(5:UInt8)))))))))))))
def asx(fu:Nat)(s_0:aC)(d:Int)(a:Int):Option (Int×aC):=
 ((O1 fu s_0 d).bind fun(c:Int)=>(gd (0<=(min c a)/\(min c a)<=a/\a<=(s_0.length:Int))<|(gd ((sub s_0 (min c a) a).length<=1000000000)<|gd (([32,9]:aC).length<=1000/\([32,9]:aC).all (fun b=>decide (b.toNat<128))=true)<|some (min c a,Lib.trimRightS (sub s_0 (min c a) a) ([32,9]:aC)))))
def akf(fu:Nat)(s_0:aC)(g:UInt8)(e:dP->Int->Int->Option ((dP×Int)⊕(dP×Int×UInt8)))(b:dP)(c:Int)(a:Int):Option ((dP×Int)⊕(dP×Int×UInt8)):=
 (if a<(s_0.length:Int)then(gd (0<=a/\a<(s_0.length:Int))<|(if(at_ s_0 a)=34 then((wx fu s_0 a).bind fun(d:(aC×Int×UInt8))=>(if d.2.2=0 then(e b c d.2.1)else some (.inr (([]:dP),d.2.1,d.2.2))))else(if(at_ s_0 a)=60 then(gd (0<=a/\a<=(s_0.length:Int))<|(if(dT (·==(62:UInt8)) (bN (aZ a) s_0))<(0:Int)then some (.inr (([]:dP),(s_0.length:Int),(6:UInt8)))else(gd (bZ ((dT (·==(62:UInt8)) (bN (aZ a) s_0))+1))<|(gd (bZ (a+((dT (·==(62:UInt8)) (bN (aZ a) s_0))+1)))<|(e b c (a+((dT (·==(62:UInt8)) (bN (aZ a) s_0))+1)))))))else(if(at_ s_0 a)=62 then some (.inr (([]:dP),a,(5:UInt8)))else(if(at_ s_0 a)=g then((asx fu s_0 c a).bind fun(f:(Int×aC))=>(gd ((b.length+([f]:dP).length)*24<=140737488355328)<|(gd (bZ (a+1))<|(e (b++([f]:dP)) (a+1) (a+1)))))else(gd (bZ (a+1))<|(e b c (a+1))))))))else some (.inl (b,c)))
def aly(fu:Nat)(s_0:aC)(e:UInt8):Nat->dP->Int->Int->Option ((dP×Int)⊕(dP×Int×UInt8)):=fun d c b a=>bT (fun(g:(dP×Int×Int)->Option ((dP×Int)⊕(dP×Int×UInt8))) v=>akf fu s_0 e (fun c b a=>g (c,b,a)) v.1 v.2.1 v.2.2) d (c,b,a)
theorem ark{c:dP}:aly a e o (b+1) c d f=akf a e o (aly a e o b) c d f:=rfl
def avv(fu:Nat)(s_0:aC)(a:UInt8):Option (dP×Int×UInt8):=
 ((((ke fu a).bind fun(f:Bool)=>(bif f then some true else(if a=34 then some true else(if a=60 then some true else some (decide (a=62))))))).bind fun(e:Bool)=>(bif e then some (([]:dP),(0:Int),(2:UInt8))else(((aly fu s_0 a fu ([]:dP) (0:Int) (0:Int))).bind fun(d:((dP×Int)⊕(dP×Int×UInt8)))=>fC (fun(b:(dP×Int))=>((asx fu s_0 b.2 (s_0.length:Int)).bind fun(c:(Int×aC))=>(gd ((b.1.length+([c]:dP).length)*24<=140737488355328)<|some (b.1++([c]:dP),(0:Int),(0:UInt8))))) (fun q=>some q) d)))
def aoy(fu:Nat)(b:(dP×Int×UInt8))(d:(List aC)->Int->Option ((List aC)⊕((List aC)×UInt8)))(c:List aC)(a:Int):Option ((List aC)⊕((List aC)×UInt8)):=
 (if a<(b.1.length:Int)then(gd (0<=a/\a<(b.1.length:Int))<|(gd (0<=a/\a<(b.1.length:Int))<|(if((el b.1 a).2)=([]:aC)then some (.inr (([]:List aC),(5:UInt8)))else(gd ((c.length+([(el b.1 a).2]:List aC).length)*16<=140737488355328)<|(gd (bZ (a+1))<|(d (c++([(el b.1 a).2]:List aC)) (a+1)))))))else some (.inl c))
def ame(fu:Nat)(c:(dP×Int×UInt8)):Nat->(List aC)->Int->Option ((List aC)⊕((List aC)×UInt8)):=fun d b a=>bT (fun(g:((List aC)×Int)->Option ((List aC)⊕((List aC)×UInt8))) v=>aoy fu c (fun b a=>g (b,a)) v.1 v.2) d (b,a)
variable {j:(dP×Int×UInt8)}
theorem axc:ame a j (b+1) i d=aoy a j (ame a j b) i d:=rfl
def avx(fu:Nat)(d:aC):Option ((List aC)×UInt8):=
 ((avv fu d (44:UInt8)).bind fun(a:(dP×Int×UInt8))=>(if a.2.2=0 then(((ame fu a fu ([]:List aC) (0:Int))).bind fun(c:((List aC)⊕((List aC)×UInt8)))=>fC (fun(b:List aC)=>some (b,(0:UInt8))) (fun q=>some q) c)else some (([]:List aC),a.2.2)))
def aow(fu:Nat)(d:(aC×UInt8))(f:((List aC)×UInt8))(e:(List aC)->Int->Option ((List aC)⊕(aC×UInt8)))(b:List aC)(a:Int):Option ((List aC)⊕(aC×UInt8)):=
 (if a<(f.1.length:Int)then(gd (0<=a/\a<(b.length:Int))<|(gd (0<=a/\a<(b.length:Int))<|((ata fu d.1 (el b a)).bind fun(c:(aC×UInt8))=>(gd (0<=a/\a<(b.length:Int))<|(gd (0<=a/\a<(b.length:Int))<|(if c.2=0 then(gd (bZ (a+1))<|(e (jV b (aZ a) c.1) (a+1)))else some (.inr (([]:aC),c.2))))))))else some (.inl b))
def amd(fu:Nat)(c:(aC×UInt8))(e:((List aC)×UInt8)):Nat->(List aC)->Int->Option ((List aC)⊕(aC×UInt8)):=fun d b a=>bT (fun(g:((List aC)×Int)->Option ((List aC)⊕(aC×UInt8))) v=>aow fu c e (fun b a=>g (b,a)) v.1 v.2) d (b,a)
theorem axb{c:(aC×UInt8)}{e:((List aC)×UInt8)}:amd a c e (b+1) i d=aow a c e (amd a c e b) i d:=rfl
def wh(fu:Nat)(h:aC)(e:aC):Option (aC×UInt8):=
 ((jy fu h).bind fun(a:(aC×UInt8))=>(if a.2=0 then((ug fu a.1).bind fun(f:Bool)=>(bif (!f)then((ata fu a.1 e).bind fun(d:(aC×UInt8))=>some (d.1,d.2))else((avx fu e).bind fun(b:((List aC)×UInt8))=>(if b.2=0 then(((amd fu a b fu b.1 (0:Int))).bind fun(g:((List aC)⊕(aC×UInt8)))=>fC (fun(c:List aC)=>(gd (c.length<=1000000000/\(dA c ([44,32]:aC)).length<=100000000000)<|some (dA c ([44,32]:aC),(0:UInt8)))) (fun q=>some q) g)else some (([]:aC),b.2)))))else some (([]:aC),(5:UInt8))))
def xr(fu:Nat)(c:aC)(b:aC):Option ((aC×aC)×UInt8):=
 (if(1024:Int)<(b.length:Int)then some ((([]:aC),([]:aC)),(4:UInt8))else((wh fu c b).bind fun(a:(aC×UInt8))=>(if a.2=0 then(if(1024:Int)<(a.1.length:Int)then some ((([]:aC),([]:aC)),(4:UInt8))else some ((c,a.1),(0:UInt8)))else some ((([]:aC),([]:aC)),a.2))))
def amg(fu:Nat)(a:aC):Option ((aC×aC)×UInt8):=
 (gd (a.length<=1000000000)<|(bif (!((cW a [58]).2.2))then some ((([]:aC),([]:aC)),(5:UInt8))else(gd (((cW a [58]).1).length<=1000000000)<|gd (([32,9]:aC).length<=1000/\([32,9]:aC).all (fun b=>decide (b.toNat<128))=true)<|((jy fu (Lib.trimRightS ((cW a [58]).1) ([32,9]:aC))).bind fun(d:(aC×UInt8))=>(if d.2=0 then(gd (((cW a [58]).2.1).length<=1000000000)<|gd (([32,9]:aC).length<=1000/\([32,9]:aC).all (fun b=>decide (b.toNat<128))=true)<|((xr fu d.1 (Lib.trimS ((cW a [58]).2.1) ([32,9]:aC))).bind fun(c:((aC×aC)×UInt8))=>some (c.1,c.2)))else some ((([]:aC),([]:aC)),(5:UInt8)))))))
open Go.Lib renaming cut → cW, hasPrefix → eZ, index → cE, trimPrefix → eJ
open List renaming replicate → iZ, set → jV, take → nZ
def ahd(fu:Nat)(b:(dP×Int×UInt8))(g:Int->eC->Option (eC⊕(uU×Int×UInt8)))(a:Int)(d:eC):Option (eC⊕(uU×Int×UInt8)):=
 (if a<(b.1.length:Int)then(gd (0<=a/\a<(b.1.length:Int))<|(gd (0<=a/\a<(b.1.length:Int))<|((amg fu ((el b.1 a).2)).bind fun(c:((aC×aC)×UInt8))=>(((((if c.2=0 then some (decide ((d.length:Int)=(64:Int)))else some false)).bind fun(f:Bool)=>(bif f then some (4:UInt8)else some c.2))).bind fun(e:UInt8)=>(if e=0 then(gd ((d.length+([c.1]:eC).length)*32<=140737488355328)<|(gd (bZ (a+1))<|(g (a+1) (d++([c.1]:eC)))))else some (.inr ((([]:eC),([]:List UInt8)),(el b.1 a).1,e)))))))else some (.inl d))
def xu(fu:Nat)(d:(dP×Int×UInt8)):Nat->Int->eC->Option (eC⊕(uU×Int×UInt8)):=fun c b a=>bT (fun(g:(Int×eC)->Option (eC⊕(uU×Int×UInt8))) v=>ahd fu d (fun b a=>g (b,a)) v.1 v.2) c (b,a)
variable {v:eC}
theorem anl:xu a j (b+1) d v=ahd a j (xu a j b) d v:=rfl
def amf(fu:Nat)(a:aC):Option (uU×Int×UInt8):=
 (bif (eZ a [13,10])then some ((([]:eC),eJ a [13,10]),(0:Int),(0:UInt8))else(gd (a.length<=1000000000)<|(bif (!((cW a [13,10,13,10]).2.2))then some ((([]:eC),([]:List UInt8)),(0:Int),(5:UInt8))else(gd (((cW a [13,10,13,10]).1).length+([13,10]:aC).length<=9223372036854775807)<|((aqq fu (((cW a [13,10,13,10]).1)++([13,10]:aC))).bind fun(b:(dP×Int×UInt8))=>(if b.2.2=0 then(((xu fu b fu (0:Int) ([]:eC))).bind fun(d:(eC⊕(uU×Int×UInt8)))=>fC (fun(c:eC)=>some ((c,(cW a [13,10,13,10]).2.1),(0:Int),(0:UInt8))) (fun q=>some q) d)else some ((([]:eC),([]:List UInt8)),b.2.1,b.2.2)))))))
def ajm(fu:Nat)(e:List UInt8)(i:aC)(h:dB->Int->Int->Bool->Option ((dB×Int×Int×Bool)⊕(dB×Int×UInt8)))(d:dB)(g:Int)(a:Int)(f:Bool):Option ((dB×Int×Int×Bool)⊕(dB×Int×UInt8)):=
 (bif (!f)then(if(d.length:Int)=(8:Int)then some (.inr (([]:dB),g,(4:UInt8)))else((kj fu e a i).bind fun(b:((Int×Int×Bool)×Bool))=>(bif (!b.2)then some (.inr (([]:dB),(e.length:Int),(6:UInt8)))else(gd (bZ (b.1.1-2))<|(gd (0<=a/\a<=(max (b.1.1-2) a)/\(max (b.1.1-2) a)<=(e.length:Int))<|((amf fu (sub e a (max (b.1.1-2) a))).bind fun(c:(uU×Int×UInt8))=>(if c.2.2=0 then(gd ((d.length+1)*48<=140737488355328)<|(h (d++[c.1]) b.1.1 b.1.2.1 b.1.2.2))else(gd (bZ (a+c.2.1))<|some (.inr (([]:dB),a+c.2.1,c.2.2))))))))))else some (.inl (d,g,a,f)))
def kd(fu:Nat)(h:List UInt8)(f:aC):Nat->dB->Int->Int->Bool->Option ((dB×Int×Int×Bool)⊕(dB×Int×UInt8)):=fun e d c b a=>bT (fun(g:(dB×Int×Int×Bool)->Option ((dB×Int×Int×Bool)⊕(dB×Int×UInt8))) v=>ajm fu h f (fun d c b a=>g (d,c,b,a)) v.1 v.2.1 v.2.2.1 v.2.2.2) e (d,c,b,a)
variable {h:dB}
theorem aqj:kd a c e (b+1) h d f l=ajm a c e (kd a c e b) h d f l:=rfl
def uj(fu:Nat)(b:List UInt8)(c:aC):Option (dB×Int×UInt8):=
 ((wu fu c).bind fun(d:Bool)=>(bif (!d)then some (([]:dB),(0:Int),(2:UInt8))else(if(8192:Int)<(b.length:Int)then some (([]:dB),(8192:Int),(4:UInt8))else((kj fu b (0:Int) c).bind fun(a:((Int×Int×Bool)×Bool))=>(bif (!a.2)then some (([]:dB),(b.length:Int),(6:UInt8))else(bif a.1.2.2 then some (([]:dB),a.1.1,(5:UInt8))else(((kd fu b c fu ([]:dB) a.1.1 a.1.2.1 a.1.2.2)).bind fun(f:((dB×Int×Int×Bool)⊕(dB×Int×UInt8)))=>fC (fun(e:(dB×Int×Int×Bool))=>some (e.1,(0:Int),(0:UInt8))) (fun q=>some q) f)))))))
def aik(fu:Nat)(b:uU)(f:Int->eC->Option (eC⊕(uU×Bool)))(a:Int)(d:eC):Option (eC⊕(uU×Bool)):=
 (if a<(b.1.length:Int)then(gd (0<=a/\a<(b.1.length:Int))<|(gd (0<=a/\a<(b.1.length:Int))<|((jy fu ((el b.1 a).1)).bind fun(e:(aC×UInt8))=>(if e.2=0 then((xr fu e.1 ((el b.1 a).2)).bind fun(c:((aC×aC)×UInt8))=>(if c.2=0 then(gd ((d.length+([c.1]:eC).length)*32<=140737488355328)<|(gd (bZ (a+1))<|(f (a+1) (d++([c.1]:eC)))))else some (.inr ((([]:eC),([]:List UInt8)),false))))else some (.inr ((([]:eC),([]:List UInt8)),false))))))else some (.inl d))
def xn(fu:Nat)(d:uU):Nat->Int->eC->Option (eC⊕(uU×Bool)):=fun c b a=>bT (fun(g:(Int×eC)->Option (eC⊕(uU×Bool))) v=>aik fu d (fun b a=>g (b,a)) v.1 v.2) c (b,a)
theorem apl{c:uU}:xn a c (b+1) d v=aik a c (xn a c b) d v:=rfl
def apm(fu:Nat)(a:uU):Option (uU×Bool):=
 (if(64:Int)<(a.1.length:Int)then some ((([]:eC),([]:List UInt8)),false)else(gd ((0+a.2.length)*1<=140737488355328)<|(((xn fu a fu (0:Int) ([]:eC))).bind fun(c:(eC⊕(uU×Bool)))=>fC (fun(b:eC)=>some ((b,a.2),true)) (fun q=>some q) c)))
def ate(fu:Nat)(a_0:List UInt8)(a:List UInt8):Option Bool:=
 some (decide (a_0=a))
def uq(fu:Nat)(s_0:List UInt8)(a:List UInt8):Option Bool:=
 (((if(a.length:Int)<=(s_0.length:Int)then(gd (0<=(a.length:Int)/\(a.length:Int)<=(s_0.length:Int))<|((ate fu (nZ (aZ (a.length:Int)) s_0) a).bind fun(c:Bool)=>some c))else some false)).bind fun(b:Bool)=>some b)
def aoa(fu:Nat)(b:List UInt8)(a:List UInt8):Option Bool:=
 (gd (b.length<=1000000000/\2<=a.length/\a.length<=1000000000)<|some (!decide ((cE b a)=(-1:Int))))
def akm(fu:Nat)(c:dB)(e:dB->Int->Option (dB⊕((List UInt8)×UInt8)))(b:dB)(a:Int):Option (dB⊕((List UInt8)×UInt8)):=
 (if a<(c.length:Int)then(gd (0<=a/\a<(c.length:Int))<|(gd (0<=a/\a<(c.length:Int))<|((apm fu (el c a)).bind fun(d:(uU×Bool))=>(bif (!d.2)then some (.inr (([]:List UInt8),(2:UInt8)))else(gd (0<=a/\a<(b.length:Int))<|(gd (0<=a/\a<(b.length:Int))<|(gd (bZ (a+1))<|(e (jV b (aZ a) d.1) (a+1)))))))))else some (.inl b))
def um(fu:Nat)(d:dB):Nat->dB->Int->Option (dB⊕((List UInt8)×UInt8)):=fun c b a=>bT (fun(g:(dB×Int)->Option (dB⊕((List UInt8)×UInt8))) v=>akm fu d (fun b a=>g (b,a)) v.1 v.2) c (b,a)
variable {q:dB}
theorem aro:um a h (b+1) q d=akm a h (um a h b) q d:=rfl
def akl(fu:Nat)(c:aC)(b:dB)(g:Int->Option (Unit⊕((List UInt8)×UInt8)))(a:Int):Option (Unit⊕((List UInt8)×UInt8)):=
 (if a<(b.length:Int)then(gd (0<=a/\a<(b.length:Int))<|(gd (0<=a/\a<(b.length:Int))<|((((uq fu ((el b a).2) (([45,45]:aC)++c)).bind fun(f:Bool)=>(bif f then some true else(gd (0<(([45,45]:aC)++c).length/\(([13,10]:List UInt8).length+(([45,45]:aC)++c).length)*1<=140737488355328)<|((aoa fu ((el b a).2) (([13,10]:List UInt8)++(([45,45]:aC)++c))).bind fun(e:Bool)=>some e))))).bind fun(d:Bool)=>(bif d then some (.inr (([]:List UInt8),(7:UInt8)))else(gd (bZ (a+1))<|(g (a+1)))))))else some (.inl ()))
def uo(fu:Nat)(d:aC)(c:dB):Nat->Int->Option (Unit⊕((List UInt8)×UInt8)):=fun b a=>bT (fun(g:Int->Option (Unit⊕((List UInt8)×UInt8))) v=>akl fu d c (fun a=>g a) v) b a
theorem arn:uo a e h (b+1) d=akl a e h (uo a e h b) d:=rfl
def akj(fu:Nat)(c:dB)(b:Int)(e:(List UInt8)->Int->Option (List UInt8))(d:List UInt8)(a:Int):Option (List UInt8):=
 (if a<(((el c b).1).length:Int)then(gd (0<=a/\a<(((el c b).1).length:Int))<|(gd (0<=a/\a<(((el c b).1).length:Int))<|(gd (((el ((el c b).1) a).1).length+([58,32]:aC).length<=9223372036854775807)<|(gd ((((el ((el c b).1) a).1)++([58,32]:aC)).length+((el ((el c b).1) a).2).length<=9223372036854775807)<|(gd (((((el ((el c b).1) a).1)++([58,32]:aC))++((el ((el c b).1) a).2)).length+([13,10]:aC).length<=9223372036854775807)<|(gd ((d.length+(((((el ((el c b).1) a).1)++([58,32]:aC))++((el ((el c b).1) a).2))++([13,10]:aC)).length)*1<=140737488355328)<|(gd (bZ (a+1))<|(e (d++(((((el ((el c b).1) a).1)++([58,32]:aC))++((el ((el c b).1) a).2))++([13,10]:aC))) (a+1)))))))))else some d)
def xg(fu:Nat)(e:dB)(d:Int):Nat->(List UInt8)->Int->Option (List UInt8):=fun c b a=>bT (fun(g:((List UInt8)×Int)->Option (List UInt8)) v=>akj fu e d (fun b a=>g (b,a)) v.1 v.2) c (b,a)
theorem arl:xg a h d (b+1) c f=akj a h d (xg a h d b) c f:=rfl
def akk(fu:Nat)(d:aC)(b:dB)(h:(List UInt8)->Int->Option ((List UInt8)⊕((List UInt8)×UInt8)))(e:List UInt8)(a:Int):Option ((List UInt8)⊕((List UInt8)×UInt8)):=
 (if a<(b.length:Int)then(((gd (0<=a/\a<(b.length:Int))<|(gd (0<=a/\a<(b.length:Int))<|(gd (([45,45]:aC).length+d.length<=9223372036854775807)<|(gd ((([45,45]:aC)++d).length+([13,10]:aC).length<=9223372036854775807)<|(gd ((e.length+((([45,45]:aC)++d)++([13,10]:aC)).length)*1<=140737488355328)<|(((xg fu b a fu (e++((([45,45]:aC)++d)++([13,10]:aC))) (0:Int))).bind fun(c:List UInt8)=>(gd ((c.length+([13,10]:aC).length)*1<=140737488355328)<|(gd (((c++([13,10]:aC)).length+((el b a).2).length)*1<=140737488355328)<|(gd ((((c++([13,10]:aC))++((el b a).2)).length+([13,10]:aC).length)*1<=140737488355328)<|(if(8192:Int)<((((c++([13,10]:aC))++((el b a).2))++([13,10]:aC)).length:Int)then some (.inr (([]:List UInt8),(4:UInt8)))else some (.inl (((c++([13,10]:aC))++((el b a).2))++([13,10]:aC)))))))))))))).bind fun(g:((List UInt8)⊕((List UInt8)×UInt8)))=>fC (fun(f:List UInt8)=>(gd (bZ (a+1))<|(h f (a+1)))) (fun q=>some (.inr q)) g)else some (.inl e))
def xf(fu:Nat)(e:aC)(d:dB):Nat->(List UInt8)->Int->Option ((List UInt8)⊕((List UInt8)×UInt8)):=fun c b a=>bT (fun(g:((List UInt8)×Int)->Option ((List UInt8)⊕((List UInt8)×UInt8))) v=>akk fu e d (fun b a=>g (b,a)) v.1 v.2) c (b,a)
theorem arm:xf a e h (b+1) c d=akk a e h (xf a e h b) c d:=rfl
def uf(fu:Nat)(b:dB)(a:aC):Option ((List UInt8)×UInt8):=
 ((((wu fu a).bind fun(i:Bool)=>(bif (!i)then some true else(if(b.length:Int)<(1:Int)then some true else some (decide ((8:Int)<(b.length:Int))))))).bind fun(h:Bool)=>(bif h then some (([]:List UInt8),(2:UInt8))else(@gd _ (0<=(b.length:Int)/\(48:Int)*(b.length:Int)<=281474976710656) (dMk 48 (b.length:Int))<|(((um fu b fu (iZ (aZ (b.length:Int)) (([]:eC),([]:List UInt8))) (0:Int))).bind fun(g:(dB⊕((List UInt8)×UInt8)))=>fC (fun(d:dB)=>(gd (([45,45]:aC).length+a.length<=9223372036854775807)<|(((uo fu a d fu (0:Int))).bind fun(f:(Unit⊕((List UInt8)×UInt8)))=>fC (fun(j:Unit)=>(((xf fu a d fu ([]:List UInt8) (0:Int))).bind fun(e:((List UInt8)⊕((List UInt8)×UInt8)))=>fC (fun(c:List UInt8)=>(gd (([45,45]:aC).length+a.length<=9223372036854775807)<|(gd ((([45,45]:aC)++a).length+([45,45,13,10]:aC).length<=9223372036854775807)<|(gd ((c.length+((([45,45]:aC)++a)++([45,45,13,10]:aC)).length)*1<=140737488355328)<|(if(8192:Int)<((c++((([45,45]:aC)++a)++([45,45,13,10]:aC))).length:Int)then some (([]:List UInt8),(4:UInt8))else some (c++((([45,45]:aC)++a)++([45,45,13,10]:aC)),(0:UInt8))))))) (fun q=>some q) e)) (fun q=>some q) f))) (fun q=>some q) g))))
def alw(fu:Nat)(a_0:(aC×aC×Int×aC×eC×(List UInt8)))(b_3:(aC×aC×Int×aC×eC×(List UInt8)))(b:Int->Option (Unit⊕Bool))(a:Int):Option (Unit⊕Bool):=
 (if a<(a_0.2.2.2.2.1.length:Int)then(gd (0<=a/\a<(a_0.2.2.2.2.1.length:Int))<|(gd (0<=a/\a<(a_0.2.2.2.2.1.length:Int))<|(gd (0<=a/\a<(b_3.2.2.2.2.1.length:Int))<|(gd (0<=a/\a<(b_3.2.2.2.2.1.length:Int))<|(if(el a_0.2.2.2.2.1 a)=(el b_3.2.2.2.2.1 a)then(gd (bZ (a+1))<|(b (a+1)))else some (.inr false))))))else some (.inl ()))
def xc(fu:Nat)(a_0:(aC×aC×Int×aC×eC×(List UInt8)))(b_3:(aC×aC×Int×aC×eC×(List UInt8))):Nat->Int->Option (Unit⊕Bool):=fun b a=>bT (fun(g:Int->Option (Unit⊕Bool)) v=>alw fu a_0 b_3 (fun a=>g a) v) b a
theorem asw{a_0:(aC×aC×Int×aC×eC×(List UInt8))}{b_3:(aC×aC×Int×aC×eC×(List UInt8))}:xc a a_0 b_3 (b+1) d=alw a a_0 b_3 (xc a a_0 b_3 b) d:=rfl
def axu(fu:Nat)(a_0:(aC×aC×Int×aC×eC×(List UInt8)))(b_3:(aC×aC×Int×aC×eC×(List UInt8))):Option Bool:=
 (((if a_0.1=b_3.1 then(if a_0.2.1=b_3.2.1 then(if a_0.2.2.1=b_3.2.2.1 then(if a_0.2.2.2.1=b_3.2.2.2.1 then(if(a_0.2.2.2.2.1.length:Int)=(b_3.2.2.2.2.1.length:Int)then some (!decide (a_0.2.2.2.2.2=b_3.2.2.2.2.2))else some true)else some true)else some true)else some true)else some true)).bind fun(b:Bool)=>(bif b then some false else(((xc fu a_0 b_3 fu (0:Int))).bind fun(a:(Unit⊕Bool))=>fC (fun(c:Unit)=>some true) (fun q=>some q) a)))
open Go.Lib renaming index → cE, itoa → dO
def anx(fu:Nat)(a_0:uU)(b_3:uU):Option Bool:=
 ((axu fu (([]:aC),([]:aC),(0:Int),([]:aC),a_0.1,a_0.2) (([]:aC),([]:aC),(0:Int),([]:aC),b_3.1,b_3.2)).bind fun(a:Bool)=>some a)
def alv(fu:Nat)(a_0:dB)(b_3:dB)(c:Int->Option (Unit⊕Bool))(a:Int):Option (Unit⊕Bool):=
 (if a<(a_0.length:Int)then(gd (0<=a/\a<(a_0.length:Int))<|(gd (0<=a/\a<(a_0.length:Int))<|(gd (0<=a/\a<(b_3.length:Int))<|(gd (0<=a/\a<(b_3.length:Int))<|((anx fu (el a_0 a) (el b_3 a)).bind fun(b:Bool)=>(bif (!b)then some (.inr false)else(gd (bZ (a+1))<|(c (a+1)))))))))else some (.inl ()))
def xd(fu:Nat)(a_0:dB)(b_3:dB):Nat->Int->Option (Unit⊕Bool):=fun b a=>bT (fun(g:Int->Option (Unit⊕Bool)) v=>alv fu a_0 b_3 (fun a=>g a) v) b a
theorem asv:xd a h q (b+1) d=alv a h q (xd a h q b) d:=rfl
def vz(fu:Nat)(a_0:dB)(b_3:dB):Option Bool:=
 (if(a_0.length:Int)=(b_3.length:Int)then(((xd fu a_0 b_3 fu (0:Int))).bind fun(a:(Unit⊕Bool))=>fC (fun(b:Unit)=>some true) (fun q=>some q) a)else some false)
def atf(fu:Nat)(b:List Int)(a:List UInt8)(c:Option (List Int)):Option (List Int):=
 (gd (a.length<=1000000000/\2<=([45,45,98]:List UInt8).length/\([45,45,98]:List UInt8).length<=1000000000)<|(if(0:Int)<=(cE a ([45,45,98]:List UInt8))then none else some b))
def apx(fu:Nat)(c:List Int)(b:List UInt8):Nat->Option (List Int):=fun a=>bT (fun(g:Unit->Option (List Int)) v=>atf fu c b (g ())) a ()
variable {k:List Int}
theorem uW:apx a k c (b+1)=atf a k c (apx a k c b):=rfl
def bac(fu:Nat)(b:List Int)(a:List UInt8):Option (List Int):=
 (apx fu b a fu)
def aon(fu:Nat)(b:dB)(e:Int->(List Int)->Option (List Int))(a:Int)(c:List Int):Option (List Int):=
 (if a<(b.length:Int)then(gd (0<=a/\a<(b.length:Int))<|(gd (0<=a/\a<(b.length:Int))<|((bac fu c ((el b a).2)).bind fun(d:List Int)=>(gd (bZ (a+1))<|(e (a+1) d)))))else some c)
def ako(fu:Nat)(d:dB):Nat->Int->(List Int)->Option (List Int):=fun c b a=>bT (fun(g:(Int×(List Int))->Option (List Int)) v=>aon fu d (fun b a=>g (b,a)) v.1 v.2) c (b,a)
theorem baf:ako a h (b+1) d k=aon a h (ako a h b) d k:=rfl
def aom(fu:Nat)(a:List Int)(b:Option Unit):Option Unit:=
 (if(0:Int)∈a then none else some ())
def akn(fu:Nat)(b:List Int):Nat->Option Unit:=fun a=>bT (fun(g:Unit->Option Unit) v=>aom fu b (g ())) a ()
theorem bae:akn a k (b+1)=aom a k (akn a k b):=rfl
def aui(fu:Nat)(b:dB):Option aC:=
 (((ako fu b fu (0:Int) ([]:List Int))).bind fun(a:List Int)=>(((akn fu a fu)).bind fun(c:Unit)=>(gd (bZ (0:Int))<|(gd (([98]:aC).length+(dO (0:Int)).length<=9223372036854775807)<|some (([98]:aC)++(dO (0:Int)))))))
def uh(fu:Nat):Option Bool:=
 ((uj fu ([45,45,98,13,10,99,58,32,116,101,120,116,47,112,108,97,105,110,13,10,13,10,104,105,13,10,45,45,98,45,45]:List UInt8) ([98]:aC)).bind fun(a:(dB×Int×UInt8))=>((uf fu ([(([(([67,111,110,116,101,110,116,45,84,121,112,101]:aC),([116,101,120,116,47,112,108,97,105,110]:aC))]:eC),([104,105]:List UInt8)),(([]:eC),([]:List UInt8))]:dB) ([120]:aC)).bind fun(b:((List UInt8)×UInt8))=>(((if a.2.2=0 then(if a.2.1=(0:Int)then((vz fu a.1 ([(([(([67,111,110,116,101,110,116,45,84,121,112,101]:aC),([116,101,120,116,47,112,108,97,105,110]:aC))]:eC),([104,105]:List UInt8))]:dB)).bind fun(e:Bool)=>(bif e then(if b.2=0 then(if b.1=([45,45,120,13,10,67,111,110,116,101,110,116,45,84,121,112,101,58,32,116,101,120,116,47,112,108,97,105,110,13,10,13,10,104,105,13,10,45,45,120,13,10,13,10,13,10,45,45,120,45,45,13,10]:aC)then((aui fu a.1).bind fun(d:aC)=>some (decide (d=([98,48]:aC))))else some false)else some false)else some false))else some false)else some false)).bind fun(c:Bool)=>some c)))
def alz(fu:Nat)(d:dB)(c:dB)(a:Int)(h:Int->Option (Unit⊕Bool))(b:Int):Option (Unit⊕Bool):=
 (gd (0<=a/\a<(d.length:Int))<|(gd (0<=a/\a<(d.length:Int))<|(if b<(((el d a).1).length:Int)then(gd (0<=a/\a<(c.length:Int))<|(gd (0<=a/\a<(c.length:Int))<|(gd (0<=b/\b<(((el c a).1).length:Int))<|(gd (0<=b/\b<(((el c a).1).length:Int))<|((jy fu ((el ((el c a).1) b).1)).bind fun(e:(aC×UInt8))=>(gd (0<=a/\a<(c.length:Int))<|(gd (0<=a/\a<(c.length:Int))<|(gd (0<=b/\b<(((el c a).1).length:Int))<|(gd (0<=b/\b<(((el c a).1).length:Int))<|((wh fu e.1 ((el ((el c a).1) b).2)).bind fun(f:(aC×UInt8))=>(((if e.2=0 then(if f.2=0 then(gd (0<=a/\a<(d.length:Int))<|(gd (0<=a/\a<(d.length:Int))<|(gd (0<=b/\b<(((el d a).1).length:Int))<|(gd (0<=b/\b<(((el d a).1).length:Int))<|some (!decide ((el ((el d a).1) b)=(e.1,f.1)))))))else some true)else some true)).bind fun(g:Bool)=>(bif g then some (.inr false)else(gd (bZ (b+1))<|(h (b+1)))))))))))))))else some (.inl ()))))
def xb(fu:Nat)(e:dB)(d:dB)(c:Int):Nat->Int->Option (Unit⊕Bool):=fun b a=>bT (fun(g:Int->Option (Unit⊕Bool)) v=>alz fu e d c (fun a=>g a) v) b a
theorem asy:xb a h q d (b+1) f=alz a h q d (xb a h q d b) f:=rfl
def ama(fu:Nat)(b:dB)(c:dB)(f:Int->Option (Unit⊕Bool))(a:Int):Option (Unit⊕Bool):=
 (if a<(b.length:Int)then(((((gd (0<=a/\a<(b.length:Int))<|(gd (0<=a/\a<(b.length:Int))<|(gd (0<=a/\a<(c.length:Int))<|(gd (0<=a/\a<(c.length:Int))<|(if((el b a).2)=((el c a).2)then(gd (0<=a/\a<(b.length:Int))<|(gd (0<=a/\a<(b.length:Int))<|(gd (0<=a/\a<(c.length:Int))<|(gd (0<=a/\a<(c.length:Int))<|some (!decide ((((el b a).1).length:Int)=(((el c a).1).length:Int)))))))else some true)))))).bind fun(e:Bool)=>(bif e then some (.inr false)else(xb fu b c a fu (0:Int))))).bind fun(d:(Unit⊕Bool))=>fC (fun(g:Unit)=>(gd (bZ (a+1))<|(f (a+1)))) (fun q=>some (.inr q)) d)else some (.inl ()))
def xa(fu:Nat)(d:dB)(c:dB):Nat->Int->Option (Unit⊕Bool):=fun b a=>bT (fun(g:Int->Option (Unit⊕Bool)) v=>ama fu d c (fun a=>g a) v) b a
theorem asz:xa a h q (b+1) d=ama a h q (xa a h q b) d:=rfl
def aut(fu:Nat)(b:dB)(a:dB):Option Bool:=
 (if(b.length:Int)=(a.length:Int)then(((xa fu b a fu (0:Int))).bind fun(c:(Unit⊕Bool))=>fC (fun(d:Unit)=>some true) (fun q=>some q) c)else some false)
def ani(fu:Nat)(e:dB)(d:aC)(c:List UInt8):Option Bool:=
 ((((axa fu e).bind fun(r:Bool)=>(bif (!r)then some true else some (decide ((200:Int)<(c.length:Int)))))).bind fun(q:Bool)=>(bif q then((uh fu).bind fun(p:Bool)=>some p)else((uf fu e d).bind fun(a:((List UInt8)×UInt8))=>(if a.2=0 then((uj fu a.1 d).bind fun(b:(dB×Int×UInt8))=>((uf fu b.1 d).bind fun(g:((List UInt8)×UInt8))=>(((if b.2.2=0 then(if b.2.1=(0:Int)then((aut fu b.1 e).bind fun(o:Bool)=>(bif (!o)then some true else(if g.2=0 then some (!decide (g.1=a.1))else some true)))else some true)else some true)).bind fun(n:Bool)=>(bif n then some false else(gd (bZ ((a.1.length:Int)+(c.length:Int)))<|(if(8192:Int)<((a.1.length:Int)+(c.length:Int))then((uh fu).bind fun(m:Bool)=>some m)else(gd ((([]:List UInt8).length+a.1.length)*1<=140737488355328)<|(gd (((([]:List UInt8)++a.1).length+c.length)*1<=140737488355328)<|((uj fu ((([]:List UInt8)++a.1)++c) d).bind fun(f:(dB×Int×UInt8))=>(((if f.2.2=0 then((vz fu b.1 f.1).bind fun(l:Bool)=>(bif l then((uh fu).bind fun(k:Bool)=>some k)else some false))else some false)).bind fun(j:Bool)=>some j))))))))))else(((if(a.1.length:Int)=(0:Int)then((uh fu).bind fun(i:Bool)=>some i)else some false)).bind fun(h:Bool)=>some h)))))
end Go.Wk
set_option maxRecDepth 100000
namespace Go.Wk
open Go.Px
open Int renaming toNat → aZ
open List renaming set → jV
open Sum renaming elim → fC
def FU:Nat:=18446744073709551616
theorem iD:FU=18446744073709551616:=rfl
theorem kH(p:aC)(c:UInt8)(l:aC):at_ (p++c::l) (p.length:Int)=c:=by simp [at_]
theorem Hg(p:aC)(c x:UInt8)(l:aC):jV (p++c::l) (aZ (p.length:Int)) x=(p++[x])++l:=aA2
theorem N2(p:aC)(x:UInt8):((p.length:Int)+1)=((p++[x]).length:Int):=aA2
theorem eT(a:Int)(b:0<=a)(h:a<=9223372036854775807):bZ a:=⟨aA0,aA0⟩
theorem ID(fu:Nat)(c:UInt8):aou fu c=some (cB c):=by show aou 0 c=_;revert c;exact eA _ aA3
theorem zB(fu:Nat)(c:UInt8):xj fu c=some (iF c):=by show xj 0 c=_;revert c;exact eA _ aA3
theorem Ud(fu:Nat)(c:UInt8):akh fu c=some (Tm c):=by show akh 0 c=_;revert c;exact eA _ aA3
variable {b:Nat}
theorem OK(s:aC)(g:s.length<=9223372036854775807)(n:Nat):∀(k a:Nat),k+n=s.length->n<a->
  aea b s a (k:Int)=some ((k+dQ cB (s.drop k):Nat):Int):=by
 induction n with
 |zero=>intro k a c d;obtain⟨a,rfl⟩:=dY a;rw [ajk,adv,aA bJ,O4 bJ];simp [dQ]
 |succ n i=>
  intro k a c d;obtain⟨a,rfl⟩:=dY a;rw [ajk,adv,aB bJ,bA bJ,ID,drop_at s k bJ];simp only [aY];cases h:cB (at_ s k)
  ·simp [dQ,h]
  ·rw [aL];rw [bA (eT _ bJ bJ)];have e:((k:Int)+1)=((k+1:Nat):Int):=rfl;rw [e,i (k+1) a bJ bJ];have f:dQ cB (at_ s k::s.drop (k+1))=1+dQ cB (s.drop (k+1)):=by simp [dQ,h,Gy]
   rw [f,Bn]
theorem Jk(s:aC)(a:s.length<=9223372036854775807)(i:Int):aey FU s i=some ((cD cB s i:Nat):Int):=by unfold aey cD;have h:min (max i 0) (s.length:Int)=((Xp i s.length:Nat):Int):=aD8;have:=Dx i s.length;rw [h,OK s a (s.length-Xp i s.length) _ FU bJ aA6];rfl
theorem OJ(s:aC):(if s=[]then some false else some (decide (((cD cB s 0:Nat):Int)=(s.length:Int))))=some (eY s):=by
 have:=Q7 s;by_cases h:s=[]
 ·subst h;rfl
 ·rw [aA h];congr 1;by_cases a:((cD cB s 0:Nat):Int)=(s.length:Int)
  ·rw [aK a,this.1 ⟨h,a⟩]
  ·rw [aO a];cases b:eY s
   ·rfl
   ·exact absurd (this.2 b).2 a
theorem js(s:aC)(a:s.length<=9223372036854775807):TK FU s=some (eY s):=by unfold TK dr;rw [Jk s a];simp only [aY,Option.bind_fun_some];exact OJ s
theorem Wa(p:aC)(c:UInt8)(l:aC):(0:Int)<=(p.length:Int)/\(p.length:Int)<((p++c::l).length:Int):=by rw [bM,bR];omega
theorem YY{fu:Nat}(s:aC)(g:s.length<=9223372036854775807)(l:aC):∀(p:aC) (a:Nat),p.length+l.length=s.length->l.length<a->
  acv fu s a (p++l) (p.length:Int)=some (p++l.map iF):=by
 induction l with
 |nil=>intro p a d e;obtain⟨a,rfl⟩:=dY a;simp only [eO]at d;rw [ahr,acr,aA bJ];rfl
 |cons c l f=>intro p a d e;obtain⟨a,rfl⟩:=dY a;simp only [bR]at d e;have b:=Wa p c l;rw [ahr,acr,aB bJ,bA b,bA b,kH,zB];simp only [aY];rw [bA b,bA b,bA (eT _ bJ bJ),Hg,N2 p (iF c),f (p++[iF c]) a aB7 bJ];simp
theorem YZ(s:aC)(a:s.length<=9223372036854775807):acn FU s=some (dH s):=by unfold acn;have:=YY (fu:=FU) s a s [] FU aA2 aA6;simp only [mQ,eO,Int.natCast_zero,Int.cast_ofNat_Int]at this;rw [this];rfl
theorem PZ(c:UInt8)(b:65<=c)(a:c<=90):c+32=iF c:=by simp [iF,b,a]
theorem tW(c:UInt8)(h:¬(65<=c/\c<=90)):iF c=c:=by simp only [iF,aA h]
def rR(c:UInt8):aC:=(apu FU c).getD []
theorem W7:∀c:UInt8,apu FU c=some (rR c):=eA _ aA3
def Ni:Bool->aC->aC
 |_,[]=>[]
 |f,c::l=>(if f then Tm c else iF c)::Ni (c==45) l
theorem RU(fu:Nat)(f:Bool)(c:UInt8):aqx fu c f=some (if f then Tm c else iF c,c==45):=by show aqx 0 c f=_;revert c;cases f<;>exact eA _ aA3
theorem VR{fu:Nat}(s:aC)(h:s.length<=9223372036854775807)(l:aC):∀(p:aC) (f:Bool) (a:Nat),p.length+l.length=s.length->l.length<a->
  (adk fu s a (p++l) (p.length:Int) f).map (·.1)=some (p++Ni f l):=by
 induction l with
 |nil=>intro p f a d e;obtain⟨a,rfl⟩:=dY a;simp only [eO]at d;rw [aif,ada,aA bJ];rfl
 |cons c l g=>
  intro p f a d e;obtain⟨a,rfl⟩:=dY a;simp only [bR]at d e;have b:=Wa p c l;rw [aif,ada,aB bJ,bA b,bA b,kH,RU,aY,
   bA b,bA b,bA (eT _ bJ bJ),Hg,N2 p (if f then Tm c else iF c),g _ _ a aB7 bJ,gJ]
  rfl
theorem VS(s:aC)(d:s.length<=9223372036854775807):∃b,acw FU s true=some (Ni true s,b):=by unfold acw;have:=VR (fu:=FU) s d s [] true FU aA2 aA6;obtain⟨r,c,a⟩:=bX.1 this;refine⟨r.2, ?_⟩;rw [show((0:Int))=(([]:aC).length:Int)from rfl,show s=[]++s from rfl];simp only [mQ]at c a⊢;rw [c,aY,a]
theorem low45:∀c:UInt8,(iF c==45)=(c==45):=eA _ aA3
def jP(s:aC):aC×UInt8:=
 if eY s=false\/64<s.length then([],5)
 else if s.length=1/\rR (iF (at_ s 0))≠[]then(rR (iF (at_ s 0)),0)
 else((aki FU (dH s) FU 0).getD (.inl ())).elim (fun _=>(Ni true s,0)) id
def mT:List aC->aC->Option (Unit⊕(aC×UInt8))
 |[],_=>some (.inl ())
 |n::l,y=>if dH n=y then some (.inr (n,0))else mT l y
theorem azg(y:aC):∀l,∃r,mT l y=some r
 |[]=>⟨_,rfl⟩
 |n::l=>by
  unfold mT;split
  ·exact⟨_,rfl⟩
  ·exact azg y l
theorem oP(y:aC):aki FU y FU 0=mT N9 y:=by kernel_rfl
theorem Ur(y:aC):∃r,aki FU y FU 0=some r:=by rw [oP];exact azg y _
theorem Ak(s:aC)(g:s.length<=9223372036854775807):jy FU s=some (jP s):=by
 unfold jy jP;rw [js s g,aY];obtain⟨r,k⟩:=Ur (dH s);obtain⟨b,m⟩:=VS s g;cases n:eY s
 ·rfl
 ·rw [jM,aG,aY];by_cases e:64<s.length
  ·rw [aK bJ,aL,aB (Or.inr e)]
  ·have l:¬(true=false\/64<s.length):=by simp [e]
   rw [aO bJ,aG,aA l,YZ s g,aY,k,aY,lU];have a:fC (fun(j:Unit)=>((acw FU s true).bind fun(d:(aC×Bool))=>some (d.1,(0:UInt8)))) (fun q=>some q) r=some (fC (fun _=>(Ni true s,0)) id r):=by
    cases r with
    |inl _=>rw [pR,m];rfl
    |inr _=>rfl
   by_cases i:s.length=1
   ·have c:(s.length:Int)=1:=by omega
    rw [aB c,bA bJ,zB,aY,W7,aY];by_cases f:rR (iF (at_ s 0))=[]
    ·rw [aB f,aY,pR,aA (fun h=>h.2 f)];exact a
    ·rw [aA f,aY,Yd,aB ⟨i,f⟩]
   ·have c:¬(s.length:Int)=1:=by omega
    rw [aA c,aY,pR,aA (fun h=>i h.1)];exact a
theorem Y5{fu:Nat}(c:aC)(d:∀x∈Gn,x.1≠c)(n:Nat):∀(k a:Nat),k+n=31->n<a->ank fu c a (k:Int)=some (.inl ()):=by
 have h:Gn.length=31:=aA3;induction n with
 |zero=>intro k a e f;obtain⟨a,rfl⟩:=dY a;rw [auu,alh,aA bJ]
 |succ n b=>
  intro k a e f;obtain⟨a,rfl⟩:=dY a;have g:(el Gn (k:Int)).1≠c:=by
   have:el Gn (k:Int)=Gn[k]'bJ:=by simp [el,show k<Gn.length by omega]
   rw [this];exact d _ (xE _)
  rw [auu,alh,aB bJ,bA bJ,bA bJ,aA g,bA (eT _ bJ bJ)];exact b (k+1) a bJ bJ
theorem BZ(c:aC)(a:∀x∈Gn,x.1≠c):ka FU c=some 0:=by unfold ka;have:=Y5 (fu:=FU) c a 31 0 FU bJ aA6;rw [show((0:Int))=((0:Nat):Int)from rfl,this];rfl
def Kt(c:aC):Bool:=(ug FU c).getD false
theorem W3:∀x∈Gn,ug FU x.1=some (Kt x.1):=aA3
theorem BG(c:aC)(b:∀x∈Gn,x.1≠c):ug FU c=some false:=by
 have a:∀n:aC,(Gn.any fun x=>x.1==n)=true->¬c=n:=fun n h e=>by obtain⟨x,hx,e'⟩:=eI.1 h;exact b x hx ((eq_of_beq e').trans e.symm)
 unfold ug;rw [aA (a _ aA3),aA (a _ aA3),aA (a _ aA3),aA (a _ aA3),aA (a _ aA3),aY,pR,BZ c b];rfl
theorem LH(c:aC):ug FU c=some (Kt c):=by
 by_cases h:∃x∈Gn,x.1=c
 ·obtain⟨x,hx,rfl⟩:=h;exact W3 x hx
 ·have:=BG c fun x hx e=>h ⟨x,hx,e⟩;rw [Kt,this];rfl
open Go.Lib renaming trimLeftS → Ye
variable {a:Type}{p:Prop}{k:Option a}
theorem sF[Decidable p](h:p:=by first|omega|exact eT _ bJ bJ|(simp only [pP,dM,List.length_nil,List.length_singleton];omega)):gd p k=k:=bA h
theorem Ot(k:Nat):(k:Int)+1=((k+1:Nat):Int):=rfl
theorem WJ(p:UInt8->Bool)(s:aC)(F:Nat->Int->Option Int)
  (g:∀a,F (a+1) (s.length:Int)=some (s.length:Int))
  (f:∀a (k:Nat),k<s.length->p (at_ s k)=false->F (a+1) (k:Int)=some (k:Int))
  (e:∀a (k:Nat),k<s.length->p (at_ s k)=true->F (a+1) (k:Int)=F a ((k:Int)+1)) (n:Nat):
  ∀(k a:Nat),k+n=s.length->n<a->F a (k:Int)=some ((k+dQ p (s.drop k):Nat):Int):=by
 induction n with
 |zero=>intro k a c d;obtain⟨a,rfl⟩:=dY a;obtain rfl:k=s.length:=aA0;rw [g,fP];rfl
 |succ n b=>
  intro k a c d;obtain⟨a,rfl⟩:=dY a;rw [drop_at s k bJ];cases h:p (at_ s k)
  ·rw [f a k bJ h];simp [dQ,h]
  ·rw [e a k bJ h,Ot,b (k+1) a bJ bJ];have i:dQ p (at_ s k::s.drop (k+1))=1+dQ p (s.drop (k+1)):=by simp [dQ,h,Gy]
   rw [i,Bn]
theorem RQ(i:Int)(n:Nat):min (max i 0) (n:Int)=((Xp i n:Nat):Int):=aD8
theorem N4(p:UInt8->Bool):∀(a b:aC),a.all p=true->dQ p (a++b)=a.length+dQ p b
 |[],b,_=>by simp
 |c::a,b,h=>by rw [Ej,fS]at h;rw [Bo,dQ,aB h.1,N4 p a b h.2,bR];omega
theorem cz(p:UInt8->Bool)(c:UInt8)(l:aC)(h:p c=false):dQ p (c::l)=0:=by rw [dQ,aA (by simp [h])]
theorem vt(fu:Nat)(c:UInt8):ke fu c=some (cC c):=by show ke 0 c=_;revert c;exact eA _ aA3
theorem axt(fu:Nat)(c:UInt8):xq fu c=some (eW c):=by show xq 0 c=_;revert c;exact eA _ aA3
theorem Xe(fu:Nat)(c:UInt8):alg fu c=some (N0 c):=by show alg 0 c=_;revert c;exact eA _ aA3
theorem nT(s:aC)(c:s.length<=4194304)(i:Int):O1 FU s i=some ((cD cC s i:Nat):Int):=by
 unfold O1 aih;have d:=Dx i s.length;rw [RQ,WJ cC s (aeb FU s) ?_ ?_ ?_ (s.length-Xp i s.length) _ FU bJ aA6]
 ·rfl
 ·intro a;rw [afh,acm,aA bJ];rfl
 ·intro a k b h;rw [afh,acm,aB bJ,sF,vt,h];rfl
 ·intro a k b h;rw [afh,acm,aB bJ,sF,vt,h,aY,aY,aL,sF]
def Yh(p:UInt8->Bool)(l:aC):aC:=(l.reverse.dropWhile p).reverse
theorem AI(p:UInt8->Bool)(c:UInt8)(l:aC):Yh p (c::l)=if Yh p l=[]then(if p c then []else [c])else c::Yh p l:=by
 unfold Yh;rw [List.reverse_cons,List.dropWhile_append];cases h:l.reverse.dropWhile p with
 |nil=>cases b:p c<;>simp [b]
 |cons a t=>simp
theorem XB(p:UInt8->Bool)(l:aC)(c:UInt8):Yh p (l++[c])=if p c then Yh p l else l++[c]:=by unfold Yh;rw [List.reverse_append,JA,Yf,iG];split<;>simp
theorem rD(p:UInt8->Bool):∀l:aC,(Yh p l).dropWhile p=Yh p (l.dropWhile p)
 |[]=>rfl
 |c::l=>by
  have b:=rD p l;cases a:p c
  ·have e:List.dropWhile p (c::l)=c::l:=by simp [a]
   rw [e,AI];split<;>simp [a]
  ·have e:List.dropWhile p (c::l)=l.dropWhile p:=by simp [a]
   rw [e,<-b,AI];split
   ·rename_i h;simp [h,a]
   ·simp [a]
theorem Ab(p:UInt8->Bool):∀l:aC,(l.dropWhile p).dropWhile p=l.dropWhile p
 |[]=>rfl
 |c::l=>by
  cases h:p c with
  |true=>rw [List.dropWhile_cons_of_pos h];exact Ab p l
  |false=>rw [lM (by rw [h];decide),lM (by rw [h];decide)]
def cH(s:aC):aC:=Yh cC (s.dropWhile cC)
theorem uF:(fun c=>([32,9]:aC).contains c)=cC:=by funext c;revert c;exact eA _ aA3
theorem xV(s:aC):Lib.trimS s [32,9]=cH s:=by unfold Lib.trimS Ye Lib.trimRightS cH;rw [uF];exact rD cC s
theorem mA(s:aC)(a:s.length<=4194304):TJ FU s=some (cH s):=by unfold TJ;rw [sF,bA aA1,xV]
theorem ayg(p:UInt8->Bool):∀l:aC,l.drop (dQ p l)=l.dropWhile p
 |[]=>rfl
 |c::l=>by
  have b:=ayg p l;cases a:p c
  ·simp [dQ,a]
  ·simp [dQ,a,b]
theorem ayl(p:UInt8->Bool)(s:aC):cD p s 0=dQ p s:=by have a:Xp 0 s.length=0:=aD8;unfold cD;rw [a];simp
theorem T3(p:UInt8->Bool)(l:aC):(Yh p l).length<=l.length:=by unfold Yh;have:=avt p l.reverse;simpa using this
theorem NQ(s:aC):(cH s).length<=s.length:=qN (T3 _ _) (avt _ _)
def fT:aC->Nat->aC->aC×Int×UInt8
 |[],k,_=>([],(k:Int),6)
 |[c],k,a=>if c=34 then(a,((k+1:Nat):Int),0)else if c=92 then([],((k+1:Nat):Int),6)else if eW c then([],(k:Int),5)else([],((k+1:Nat):Int),6)
 |c::d::r,k,a=>
  if c=34 then(a,((k+1:Nat):Int),0)
  else if c=92 then(if N0 d then fT r (k+2) (a++[d])else([],(k:Int),5))
  else if eW c then([],(k:Int),5)else fT (d::r) (k+1) (a++[c])
theorem ua(c:UInt8)(l:aC)(k:Nat)(a:aC):fT (c::l) k a=
  if c=34 then(a,((k+1:Nat):Int),0)
  else if c=92 then(if l=[]then([],((k+1:Nat):Int),6)else if N0 (at_ l 0)then fT (l.drop 1) (k+2) (a++[at_ l 0])else([],(k:Int),5))
  else if eW c then([],(k:Int),5)else fT l (k+1) (a++[c]):=by
 cases l with
 |nil=>simp [fT]
 |cons d r=>simp [fT,at_]
def Nj(s:aC)(i:Int):aC×Int×UInt8:=
 if i<0\/(s.length:Int)<i then([],0,2)
 else if i=(s.length:Int)\/at_ s i≠34 then([],i,5)
 else fT (s.drop (i.toNat+1)) (i.toNat+1) []
theorem J1(s:aC)(k:Nat):at_ (s.drop k) 0=at_ s (k:Int):=by simp [at_]
theorem Af(s:aC)(k:Nat):s.drop k=[]↔s.length<=k:=by rw [List.drop_eq_nil_iff]
def It(s:aC)(j:((aC×Int)⊕(aC×Int×UInt8))):Option (aC×Int×UInt8):=
 fC (fun(v:(aC×Int))=>(if(s.length:Int)<=v.2 then some (([]:aC),(s.length:Int),(6:UInt8))else(gd (bZ (v.2+(1:Int)))<|some (v.1,v.2+(1:Int),(0:UInt8))))) (fun q=>some q) j
theorem ma(s:aC)(p:s.length<=4194304)(n:Nat):∀(k b:Nat) (a:aC),s.length-k<=n->n<b->k<=s.length->a.length<=k->
  ((anf FU s b a (k:Int)).bind (It s))=some (fT (s.drop k) k a):=by
 induction n with
 |zero=>intro k b a g l j m;obtain⟨b,rfl⟩:=dY b;obtain rfl:k=s.length:=aA0;rw [apk,aij,aA bJ,fP,aY];unfold It;rw [pR,aB aA2];rfl
 |succ n e=>
  intro k b a g l j m;obtain⟨b,rfl⟩:=dY b;by_cases i:k<s.length
  ·rw [drop_at s k i,ua,apk,aij,aB bJ,sF];by_cases d:at_ s (k:Int)=34
   ·rw [aB d,aB d,aY];unfold It;rw [pR,aA aA5,bA (eT _ aA5 aA5)];rfl
   ·rw [aA d,aA d];by_cases c:at_ s (k:Int)=92
    ·rw [aB c,aB c,sF];by_cases f:k+1=s.length
     ·rw [aB bJ,aB ((Af s (k+1)).2 bJ),aY];unfold It;rw [Yd,f]
     ·rw [aA bJ,aA (fun h=>f (by have:=(Af s (k+1)).1 h;omega)),sF,sF,Xe,aY,J1,Ot];cases o:N0 (at_ s ((k+1:Nat):Int))
      ·rfl
      ·rw [jM,aG,aB rfl,sF,sF,sF,sF,JE,Ot,
        e (k+1+1) b _ bJ bJ bJ aA5]
    ·rw [aA c,aA c,axt,aY];cases o:eW (at_ s (k:Int))
     ·rw [aG,aA aA1,sF,sF,sF,Ot,e (k+1) b _ bJ bJ bJ aA5]
     ·rfl
  ·obtain rfl:k=s.length:=by omega
   rw [apk,aij,aA bJ,fP,aY];unfold It;rw [pR,aB aA2];rfl
theorem vZ(s:aC)(e:s.length<=4194304)(i:Int):wx FU s i=some (Nj s i):=by
 unfold wx Nj;by_cases d:i<0
 ·rw [aB d,aB (show i<0\/(s.length:Int)<i from .inl d)];rfl
 ·rw [aA d,aY];by_cases c:(s.length:Int)<i
  ·rw [aK c,aB (show i<0\/(s.length:Int)<i from .inr c)];rfl
  ·rw [aO c,aG,aA (show¬(i<0\/(s.length:Int)<i)by omega)];by_cases b:i=(s.length:Int)
   ·rw [aB b,aB (show i=(s.length:Int)\/at_ s i≠34 from .inl b)];rfl
   ·rw [aA b,sF,aY];by_cases a:at_ s i=34
    ·rw [aK a,jM,aG,aA (by simp [b,a]),sF];obtain⟨k,rfl⟩:∃k:Nat,i=(k:Int):=⟨i.toNat,aA0⟩;exact ma s e s.length (k+1) FU [] bJ aA6 bJ aA2
    ·rw [aO a,aB (show i=(s.length:Int)\/at_ s i≠34 from .inr a)];rfl
theorem dp(p:UInt8->Bool)(s:aC)(r:a)(F:Nat->Int->Option (Unit⊕a))
  (i:∀b,F (b+1) (s.length:Int)=some (.inl ()))
  (g:∀b (k:Nat),k<s.length->p (at_ s k)=false->F (b+1) (k:Int)=some (.inr r))
  (f:∀b (k:Nat),k<s.length->p (at_ s k)=true->F (b+1) (k:Int)=F b ((k:Int)+1)) (n:Nat):
  ∀(k b:Nat),k+n=s.length->n<b->F b (k:Int)=some (if(s.drop k).all p=true then .inl ()else .inr r):=by
 induction n with
 |zero=>intro k b d e;obtain⟨b,rfl⟩:=dY b;obtain rfl:k=s.length:=aA0;rw [i,fP];rfl
 |succ n c=>
  intro k b d e;obtain⟨b,rfl⟩:=dY b;rw [drop_at s k bJ,Ej];cases h:p (at_ s k)
  ·rw [g b k bJ h];rfl
  ·rw [f b k bJ h,Ot,c (k+1) b bJ bJ];simp
theorem Ns(p:UInt8->Bool)(s:aC)(f:s.length<=4194304)(r:a)(F:Nat->Int->Option (Unit⊕a))
  (e:∀b,F (b+1) (s.length:Int)=some (.inl ()))
  (d:∀b (k:Nat),k<s.length->p (at_ s k)=false->F (b+1) (k:Int)=some (.inr r))
  (c:∀b (k:Nat),k<s.length->p (at_ s k)=true->F (b+1) (k:Int)=F b ((k:Int)+1)):F FU 0=some (if s.all p=true then .inl ()else .inr r):=by
 have:=dp p s r F e d c s.length 0 FU bJ aA6;rw [SR]at this;exact this
theorem IU(s:aC)(k:s.length<=4194304)(l:aC):∀(p:aC) (a:Nat),p.length+l.length=s.length->l.length<a->
  ann FU s a (p++l) (p.length:Int)=some (p++l.map iF):=by
 induction l with
 |nil=>intro p a g i;obtain⟨a,rfl⟩:=dY a;simp only [eO]at g;rw [auv,alj,aA bJ];rfl
 |cons c l f=>
  intro p a g i;obtain⟨a,rfl⟩:=dY a;simp only [bR]at g i;have j:=Wa p c l;have d:=f (p++[iF c]) a aB7 bJ;have ok:bZ ((p.length:Int)+1):=eT _ bJ bJ;rw [auv,alj,aB bJ];simp only [bA j,kH,bA ok,Hg];by_cases b:65<=c
  ·by_cases e:c<=90
   ·simp only [aB b,aK e,aY,aL,PZ c b e];rw [N2 p (iF c),d];simp
   ·simp only [aB b,aO e,aY,aG];rw [tW c (fun h=>e h.2)]at d;rw [N2 p c,show p++c::l=(p++[c])++l by simp,d];simp [tW c (fun h=>e h.2)]
  ·simp only [aA b,aY,aG];rw [tW c (fun h=>b h.1)]at d;rw [N2 p c,show p++c::l=(p++[c])++l by simp,d];simp [tW c (fun h=>b h.1)]
theorem N6(s:aC)(a:s.length<=4194304):SE FU s=some (dH s):=by unfold SE;have:=IU s a s [] FU aA2 aA6;simp only [mQ,eO,Int.natCast_zero,Int.cast_ofNat_Int]at this;rw [this];rfl
theorem Ts(c:UInt8):wz FU c=some (tY c):=by revert c;exact eA _ aA3
theorem sW(c:UInt8):TL FU c=some (gW c):=by revert c;exact eA _ aA3
theorem dx:∀c:UInt8,(kc FU c).map (·.2)=some (jD c):=eA _ aA3
theorem K2(c:UInt8):∃v,kc FU c=some (v,jD c):=by obtain⟨⟨v,b⟩,d,a⟩:=bX.1 (dx c);exact⟨v,by rw [d,<-a]⟩
def psp(y:aC)(l:List aC):List aC:=match l with|x::r=>(y++x)::r|[]=>[y]
theorem awk(c:UInt8)(l:aC):cU c (c::l)=[]::cU c l:=by rw [cU,aB rfl]
theorem vw(c b:UInt8)(l:aC)(h:b≠c):cU c (b::l)=psp [b] (cU c l):=by rw [cU,aA h];cases cU c l<;>rfl
theorem tN(s:aC)(k:Nat):sub s (k:Int) (k:Int)=[]:=by unfold sub;simp
open Go.Lib renaming cut → cW, index → cE, join → dA, trimLeftS → Ye
theorem cnd2{c:Type}(v:a)(b:Bool)(A B:c):(bif !(v,b).2 then A else B)=bif !b then A else B:=rfl
theorem RA(l:List aC)(x:Int)(d:(el l x).length<=4194304):agk FU l x FU 0=some (if(el l x).all jD=true then .inl ()else .inr ([],false)):=by
 refine Ns jD (el l x) d (([]:List aC),false) (agk FU l x) ?_ ?_ ?_
 ·intro b;rw [alb,aft,aA bJ]
 ·intro b k c h;obtain⟨v,a⟩:=K2 (at_ (el l x) k);rw [h]at a;rw [alb,aft,aB bJ,sF,a];simp only [aY,xI,aL]
 ·intro b k c h;obtain⟨v,a⟩:=K2 (at_ (el l x) k);rw [h]at a;rw [alb,aft,aB bJ,sF,a,aY,cnd2,jM,aG,sF]
theorem B6(s:aC)(p:s.length<=4194304)(n:Nat):∀(k c:Nat),k+n=(cU 58 s).length->n<c->((cU 58 s).take k).all Ap=true->
  xx FU s c (NC (cU 58 s) k) (k:Int)=some (if(cU 58 s).all Ap=true then .inl ((cU 58 s).map lH)else .inr ([],false)):=by
 have u:=oO 58 s;induction n with
 |zero=>intro k c r t f;obtain⟨c,rfl⟩:=dY c;obtain rfl:k=(cU 58 s).length:=aA0;rw [xC]at f;rw [aqr,aig,aA bJ,aB f,HL]
 |succ n m=>
  intro k c r t f;obtain⟨c,rfl⟩:=dY c;have b:k<(cU 58 s).length:=aA0;have q:=HK (cU 58 s) k bJ;have a:(0:Int)<=(k:Int)/\(k:Int)<((NC (cU 58 s) k).length:Int):=aA0;have l:=qv (cU 58 s) k b;have d:(el (cU 58 s) (k:Int)).length<=4194304:=qN (u.2 _ (Ww _ k b)) p;have fail:Ap (el (cU 58 s) (k:Int))=false->(cU 58 s).all Ap=false:=fun h=>Qc Ap _ k b h;rw [aqr,aig,aB bJ,bA a,bA a,l];by_cases i:((el (cU 58 s) (k:Int)).length:Int)<1
  ·rw [aB i,fail (Sn _ (.inl i))];rfl
  ·rw [aA i,aY];by_cases g:4<((el (cU 58 s) (k:Int)).length:Int)
   ·rw [aK g,fail (Sn _ (.inr g))];rfl
   ·rw [aO g,aG,RA _ _ (by rw [l];exact d),l,aY];cases hx:(el (cU 58 s) (k:Int)).all jD with
    |false=>rw [fail (QV _ hx)];rfl
    |true=>
     have j:=QU _ i g hx;rw [aB rfl,pR,N6 _ d,aY,bA (by simp [dH];omega),bA aA1];have step:∀v,v=lH (el (cU 58 s) (k:Int))->xx FU s c (jV (NC (cU 58 s) k) (aZ (k:Int)) v) ((k:Int)+1)=some (if(cU 58 s).all Ap=true then .inl ((cU 58 s).map lH)else .inr ([],false)):=fun v o=>by rw [<-B4 (cU 58 s) k v b o,Ot];exact m (k+1) c bJ bJ (Nr Ap _ k b f j)
     have ok:bZ ((k:Int)+1):=eT _ bJ bJ;by_cases e:Ye (dH (el (cU 58 s) (k:Int))) [48]=[]
     ·rw [aB e,bA a,bA a,aY,pR,bA ok,step [48] (QW _ e)]
     ·rw [aA e,bA a,bA a,aY,pR,bA ok,step (Ye (dH (el (cU 58 s) (k:Int))) [48]) (QY _ e)]
theorem DJ(s:aC)(c:s.length<=4194304):uv FU s=some (Au s):=by
 have d:=oO 58 s;have:=B6 s c (cU 58 s).length 0 FU bJ aA6 rfl;rw [DG]at this;have a:xx FU s FU (cU 58 s) (0:Int)=_:=this;unfold uv;rw [bA bJ,a,aY];cases b:(cU 58 s).all Ap with
 |false=>rw [HM s b];rfl
 |true=>rw [DH s b];rfl
theorem B7(x:aC)(hx:x.length<=4194304):(if x=([]:aC)then some (([]:List aC),true)else((uv FU x).bind fun(a:((List aC)×Bool))=>some (a.1,a.2)))=some (pZ x):=by
 by_cases h:x=[]
 ·rw [aB h,QZ x h]
 ·rw [aA h,HN x h,DJ x hx];rfl
theorem Mh(x:aC):(pZ x).1.length<=x.length+1/\∀y∈(pZ x).1,y.length<=4:=by
 unfold pZ;split
 ·simp
 ·exact ayz x
theorem Wn(x:aC)(h:x.length<=4194304):(dA (pZ x).1 [58]).length<=24000000:=by have b:=Mh x;have a:=N1 [58] 4 (pZ x).1 b.2;simp only [eL]at a;omega
theorem EZ(s:aC):aqz FU s=some (Aq s):=by
 unfold aqz Aq;by_cases a:39<s.length
 ·rw [aB bJ,aB a]
 ·rw [aA bJ,aA a,bA bJ];have h:=Xb s [58,58];cases g:(cW s [58,58]).2.2 with
  |false=>have d:=ayz s;rw [xI,aL,aB rfl,DJ s bJ,aY,bA ⟨aA0,ZM s bJ⟩];cases c:(Au s).2<;>rfl
  |true=>
   rw [jM,aG,B7 _ bJ,aY,B7 _ bJ,aY,aA (show¬(true=false)by decide)];have j:=Mh (cW s [58,58]).1;have i:=Mh (cW s [58,58]).2.1;have f:=Wn (cW s [58,58]).1 bJ;have e:=Wn (cW s [58,58]).2.1 bJ;cases d:(pZ (cW s [58,58]).1).2
   ·simp
   ·cases c:(pZ (cW s [58,58]).2.1).2
    ·simp
    ·rw [jM,aG,aG,sF,aY,SP,eD];by_cases b:7<((pZ (cW s [58,58]).1).1.length:Int)+((pZ (cW s [58,58]).2.1).1.length:Int)
     ·rw [aK b,aB rfl];rfl
     ·rw [aO b,aA aA1,aG,bA ⟨aA0,aA0⟩,bA aB5,bA ⟨aA0,aA0⟩,bA aB2]
theorem index_ge(p:aC):∀l:aC,-1<=cE l p
 |[]=>by unfold cE;split<;>omega
 |b::l=>by
  have:=index_ge p l;rw [cE];split
  ·omega
  ·split
   ·omega
   ·omega
theorem ayy(p:aC)(b:UInt8)(l:aC):cE (b::l) p=if p.isPrefixOf (b::l)=true then 0 else if cE l p= -1 then-1 else cE l p+1:=by
 rw [cE];split
 ·rfl
 ·by_cases h:cE l p= -1
  ·rw [aB h,aB aA9]
  ·rw [aA h,aA aA9]
theorem wP(s p:aC):cW s p=if cE s p= -1 then(s,[],false)else(s.take (cE s p).toNat,s.drop ((cE s p).toNat+p.length),true):=by
 unfold cW;have:=index_ge p s;by_cases h:cE s p= -1
 ·rw [aB h,aA bJ]
 ·rw [aA h,aB bJ]
open Go.Lib renaming index → cE, itoa → dO
open List renaming isPrefixOf → Ou, length → aR
theorem ay(c:UInt8)(h:gW c=true):(c-48).toNat=c.toNat-48/\c.toNat<=57/\48<=c.toNat:=by
 have b:=(pB c).1 h;have a:(48:UInt8)<=c:=by rw [vN];show 48<=c.toNat;omega
 exact⟨by rw [UInt8.toNat_sub_of_le _ _ a];rfl,aA0,aA0⟩
theorem YL(s:aC)(x:Int)(o:(el (cU 46 s) x).length<=15)(l:aC):∀(p:aC) (a:Nat),el (cU 46 s) x=p++l->aR l<a->p.all gW=true->
  ahx FU s x a (vK p:Int) (aR p:Int)=some (if l.all gW=true then .inl (vK (el (cU 46 s) x):Int)else .inr false):=by
 induction l with
 |nil=>intro p a h f b;obtain⟨a,rfl⟩:=dY a;rw [gA]at h;rw [atg,ajo,aA aE6,h];rfl
 |cons c l i=>
  intro p a h f b;obtain⟨a,rfl⟩:=dY a;have j:=bD aR h;simp only [bM,bR]at j f;have d:(0:Int)<=(aR p:Int)/\(aR p:Int)<((el (cU 46 s) x).length:Int):=aA0;have m:at_ (el (cU 46 s) x) (aR p:Int)=c:=by rw [h,kH]
  have n:=Dw 14 p bJ b;rw [atg,ajo,aB d.2,bA d,m,sW,aY,Ej];cases g:gW c with
  |false=>rfl
  |true=>
   have k:=ay c g;rw [jM,aG,k.1,bA (eT _ bJ bJ),bA d,bA (eT _ bJ bJ),bA (eT _ bJ bJ),Ig];have e:(10:Int)*(vK p:Int)+((c.toNat-48:Nat):Int)=(vK (p++[c]):Int):=by rw [azz];omega
   rw [e,N2 p c];exact i (p++[c]) a aA7 bJ (by rw [oH,b];simpa using g)
theorem V5(s:aC)(j:aR s<=15)(n:Nat):∀(k a:Nat),k+n=(cU 46 s).length->n<a->
  ahy FU s a (k:Int)=some (if((cU 46 s).drop k).all lD=true then .inl ()else .inr false):=by
 have p:=oO 46 s;induction n with
 |zero=>intro k a l m;obtain⟨a,rfl⟩:=dY a;obtain rfl:k=(cU 46 s).length:=aA0;rw [ath,ajp,aA bJ,fP];rfl
 |succ n i=>
  intro k a l m;obtain⟨a,rfl⟩:=dY a;have b:k<(cU 46 s).length:=aA0;have c:(0:Int)<=(k:Int)/\(k:Int)<((cU 46 s).length:Int):=aA0;have d:(el (cU 46 s) (k:Int)).length<=15:=qN (p.2 _ (Ww _ k b)) j;have o:(cU 46 s).drop k=el (cU 46 s) (k:Int)::(cU 46 s).drop (k+1):=by rw [Mq _ _ b,dS b]
  have q:=YL s (k:Int) d (el (cU 46 s) (k:Int)) [] FU aA2 aA6 rfl;have h:ahx FU s (k:Int) FU (0:Int) (0:Int)=_:=q;rw [ath,ajp,aB bJ,bA c,bA c,h,aY,o,Ej];cases hx:(el (cU 46 s) (k:Int)).all gW with
  |false=>rw [Ri _ hx];rfl
  |true=>
   have r:=Dw 15 _ d hx;rw [aB rfl,pR];by_cases g:el (cU 46 s) (k:Int)=[]
   ·rw [aB g,nB _ (.inl (.inl g))];rfl
   ·rw [aA g];by_cases f:255<(vK (el (cU 46 s) (k:Int)):Int)
    ·rw [aB f,nB _ (.inl (.inr f))];rfl
    ·rw [aA f,bA (eT _ bJ bJ),aY];by_cases e:el (cU 46 s) (k:Int)=dO (vK (el (cU 46 s) (k:Int)):Int)
     ·rw [aK e,jM,aG,aY,pR,bA (eT _ bJ bJ),PO _ hx g f e,Ig];exact i (k+1) a bJ bJ
     ·rw [aO e,nB _ (.inr e)];rfl
theorem Xu(s:aC):apy FU s=some (jQ s):=by
 unfold apy;by_cases h:15<(aR s:Int)
 ·rw [aB h,GX s h]
 ·have c:=oO 46 s;have:=V5 s bJ (cU 46 s).length 0 FU bJ aA6;rw [SR]at this;have a:ahy FU s FU (0:Int)=_:=this;rw [aA h,bA bJ,a,aY];cases b:(cU 46 s).all lD with
  |false=>rw [YM s b];rfl
  |true=>rw [PS s h b];rfl
def lQ(c:UInt8):Bool:=tY c||gW c||c==45
def Pw(x:aC):Bool:=decide (1<=aR x)&&decide (aR x<=63)&& !(at_ x 0==45)&& !(at_ x ((aR x:Int)-1)==45)&&x.all lQ
def Gb(x:aC):Bool:=x.any (fun c=> !gW c)
def I2(x:aC):Bool:=decide ((aR x:Int)<1)||decide (63<(aR x:Int))||(at_ x 0==45)||(at_ x ((aR x:Int)-1)==45)
theorem Y4(x:aC):Pw x=(!I2 x&&x.all lQ):=by
 unfold Pw I2;have b:decide (1<=aR x)= !decide ((aR x:Int)<1):=by rw [M3];simp;omega
 have a:decide (aR x<=63)= !decide (63<(aR x:Int)):=by rw [M3];simp;omega
 rw [b,a];simp [Bool.not_or,Bool.and_assoc]
theorem cu(x:aC)(hx:aR x<=4194304):(if(aR x:Int)<(1:Int)then some true else(if(63:Int)<(aR x:Int)then some true else(gd (0<=(0:Int)/\(0:Int)<(aR x:Int))<|(if(at_ x (0:Int))=(45:UInt8)then some true else(gd (bZ ((aR x:Int)-(1:Int)))<|(gd (0<=((aR x:Int)-(1:Int))/\((aR x:Int)-(1:Int))<(aR x:Int))<|some (decide ((at_ x ((aR x:Int)-(1:Int)))=(45:UInt8)))))))))=some (I2 x):=by
 unfold I2;by_cases c:(aR x:Int)<1
 ·rw [aB c,aK c];rfl
 ·rw [aA c,aO c,eD];by_cases b:63<(aR x:Int)
  ·rw [aB b,aK b];rfl
  ·rw [aA b,aO b,eD,bA bJ];by_cases a:at_ x 0=45
   ·rw [aB a,show(at_ x 0==45)=true by simpa using a];rfl
   ·rw [aA a,show(at_ x 0==45)=false by simpa using a,eD,bA (eT _ bJ bJ),bA bJ];rfl
theorem dw(c:UInt8):((wz FU c).bind fun(b:Bool)=>(bif (!b)then((TL FU c).bind fun(a:Bool)=>(bif (!a)then some (!decide (c=(45:UInt8)))else some false))else some false))=some (!lQ c):=by
 rw [Ts,sW];unfold lQ;by_cases h:c=45
 ·subst h;rfl
 ·rw [show(c==45)=false by simpa using h,aO h];cases tY c<;>cases gW c<;>rfl
theorem PW(x:aC)(hx:aR x<=4194304)(r:Bool)(l:aC):∀(p:aC) (a:Nat) (w:Bool),x=p++l->aR l<a->
  (l.all lQ=true->eb FU x r a (aR p:Int) w=some (0,w||Gb l,r))/\(l.all lQ=false->∃b,eb FU x r a (aR p:Int) w=some (1,b,false)):=by
 induction l with
 |nil=>intro p a w h g;obtain⟨a,rfl⟩:=dY a;rw [gA]at h;refine⟨fun _=> ?_,fun h=>by cases h⟩;rw [ala,afs,aA aE6];simp [Gb]
 |cons c l j=>
  intro p a w h g;obtain⟨a,rfl⟩:=dY a;have k:=bD aR h;simp only [bM,bR]at k g;have i:(0:Int)<=(aR p:Int)/\(aR p:Int)<(aR x:Int):=aA0;have m:at_ x (aR p:Int)=c:=by rw [h,kH]
  have ok:bZ ((aR p:Int)+1):=eT _ bJ bJ;have d:=j (p++[c]) a (w|| !gW c) aA7 bJ;rw [<-N2 p c]at d;rw [ala,afs,aB i.2,bA i,m,dw,aY,Ej];cases n:lQ c with
  |false=>exact⟨fun h=>by simp at h,fun _=>⟨w,by rw [xI,aL]⟩⟩
  |true=>
   rw [jM,aG,Ig];have e:(bif w then gd (bZ ((aR p:Int)+1)) (eb FU x r a ((aR p:Int)+1) true)else(TL FU c).bind fun(f:Bool)=>gd (bZ ((aR p:Int)+1)) (eb FU x r a ((aR p:Int)+1) (!f)))=eb FU x r a ((aR p:Int)+1) (w|| !gW c):=by
    cases w with
    |true=>rw [aL,bA ok,lX]
    |false=>rw [aG,sW,aY,bA ok,eD]
   rw [e];refine⟨fun h=> ?_,fun h=>d.2 h⟩;rw [d.1 h];simp [Gb,Bool.or_assoc]
theorem Kn(x:aC)(hx:aR x<=4194304)(w r:Bool):(Pw x=true->du FU x w r=some (0,w||Gb x,r))/\(Pw x=false->∃b,du FU x w r=some (1,b,false)):=by
 have a:=PW x hx r x [] FU w aA2 aA6;unfold du;rw [cu x hx,aY,Y4];cases c:I2 x with
 |true=>exact⟨fun h=>by simp at h,fun _=>⟨w,by rw [aL]⟩⟩
 |false=>rw [aG,xI,Ig];exact a
theorem qi(c:UInt8)(f:aC):(cE f [c]= -1/\cU c f=[f])\/(0<=cE f [c]/\cE f [c]<(aR f:Int)/\cU c f=f.take (cE f [c]).toNat::cU c (f.drop ((cE f [c]).toNat+1))):=by
 induction f with
 |nil=>exact .inl ⟨rfl,rfl⟩
 |cons b l g=>
  rw [ayy];have e:([c]:aC).isPrefixOf (b::l)=(c==b):=by simp [Ou]
  rw [e];by_cases h:b=c
  ·subst h;right;rw [aB aA2,awk];refine⟨qE _,by simp only [bR];omega,aA2⟩
  ·rw [aA (by simpa using fun x=>h x.symm),vw c b l h];rcases g with⟨d,a⟩|⟨d,a,i⟩
   ·left;rw [aB d,a];exact⟨rfl,rfl⟩
   ·right;rw [aA bJ,i];have j:(cE l [c]+1).toNat=(cE l [c]).toNat+1:=aA0;refine⟨aA0,by simp only [bR];omega, ?_⟩;rw [j];simp [psp]
theorem mw(n:Nat):∀(f:aC) (d:Nat) (w r:Bool),aR f<=n->n<d->n<=4194304->
  ∃w' f' k,((abn FU [46] 0 d w r f).bind fun(g:((Bool×Bool×aC)⊕(Bool×Bool×aC×Nat)))=>fC (fun(c:(Bool×Bool×aC))=>((du FU c.2.2 c.1 c.2.1).bind fun(a:(Nat×Bool×Bool))=>(if a.1=0 then some (a.2.1,a.2.2,c.2.2,0)else some (a.2.1,a.2.2,c.2.2,a.1)))) (fun q=>some q) g)=some (w',(if(cU 46 f).all Pw=true then r else false),f',k)/\
   (k=if(cU 46 f).all Pw=true then 0 else 1)/\((cU 46 f).all Pw=true->w'=(w||(cU 46 f).any Gb)):=by
 induction n with
 |zero=>intro f d w r t s m;obtain⟨d,rfl⟩:=dY d;obtain rfl:f=[]:=Fp bJ;have e:cE ([]:aC) [46]= -1:=rfl;rw [adl,abl,bA aA2,e,aB aA1,aY,pR];obtain⟨b,l⟩:=(Kn [] aA2 w r).2 rfl;simp only;rw [l,aY,aA aA2];exact⟨b,[],1,rfl,rfl,fun h=>absurd h aA1⟩
 |succ n p=>
  intro f d w r t s m;obtain⟨d,rfl⟩:=dY d;rw [adl,abl,bA bJ];rcases qi 46 f with⟨v,o⟩|⟨v,o,u⟩
  ·rw [aB bJ,aY,pR,o,Ej,List.all_nil,Bool.and_true];simp only;have i:=Kn f bJ w r;cases j:Pw f with
   |true=>rw [i.1 j,aY,aB rfl];exact⟨_,_,0,rfl,rfl,fun _=>by simp⟩
   |false=>obtain⟨b,l⟩:=i.2 j;rw [l,aY,aA aA2];exact⟨b,_,1,rfl,rfl,fun h=>by cases h⟩
  ·have B:cE f [46]+0=cE f [46]:=by omega
   have A:(cE f [46]+((([46]:aC).length:Nat):Int)).toNat=(cE f [46]).toNat+1:=aB0;rw [aA bJ,B,bA (eT _ bJ bJ),bA bJ,u,Ej];have i:=Kn (f.take (cE f [46]).toNat) aC4 w r;cases j:Pw (f.take (cE f [46]).toNat)with
   |true=>rw [i.1 j,aY,aB rfl,bA (eT _ aB0 aB0),bA aB0,A,Ig];obtain⟨w',f',k,z,y,x⟩:=p (f.drop ((cE f [46]).toNat+1)) d (w||Gb (f.take (cE f [46]).toNat)) r aB9 bJ bJ;exact⟨w',f',k,z,y,fun h=>by rw [x h,Ol,Bool.or_assoc]⟩
   |false=>obtain⟨b,l⟩:=i.2 j;rw [l,aY,aA aA2,aY];exact⟨b,_,1,rfl,rfl,fun h=>by cases h⟩
def RV(s:aC):Bool:=decide (1<=aR s)&&decide (aR s<=255)&&(cU 46 s).all Pw&&(cU 46 s).any Gb
theorem IT(s:aC)(e:aR s<=4194304):wq FU s=some (RV s):=by
 unfold wq RV;by_cases d:(aR s:Int)<1
 ·rw [aB d,show decide (1<=aR s)=false by(rw [bU];omega)];rfl
 ·rw [aA d,show decide (1<=aR s)=true by(rw [aV];omega),aY,Ig];by_cases c:255<(aR s:Int)
  ·rw [aK c,show decide (aR s<=255)=false by(rw [bU];omega)];rfl
  ·rw [aO c,aG,show decide (aR s<=255)=true by(rw [aV];omega),Ig];obtain⟨w',f',k,g,b,f⟩:=mw s.length s FU false false (eV _) aA6 e;unfold aos aor;rw [aY,aY];unfold acs;rw [aA aA2,aY,pR,g,aY];simp only;cases a:(cU 46 s).all Pw with
   |true=>rw [b,a,aB rfl,aB rfl,f a];simp
   |false=>rw [a]at b;rw [b];simp
open Go.Lib renaming cut → cW, itoa → dO
open UInt8 renaming ofNat → Fo
def yW(x:aC):Bool:=decide (1<=x.length)&&decide (x.length<=3)&& !(decide (1<x.length)&&(at_ x 0==48))&&x.all gW&&decide (vK x<=255)
def dg(n:Fin 10):UInt8:=Fo (48+n.val)
theorem Sw:∀c:UInt8,gW c=true->∃n:Fin 10,c=dg n:=eA _ aA3
theorem oct1:∀a:Fin 10,lD [dg a]=yW [dg a]:=aA3
theorem oct2:∀a b:Fin 10,lD [dg a,dg b]=yW [dg a,dg b]:=aA3
theorem oct3:∀a b c:Fin 10,lD [dg a,dg b,dg c]=yW [dg a,dg b,dg c]:=aA3
theorem Z6:∀n:Fin 256,(dO (n.val:Int)).length<=3:=aA3
theorem yT(x:aC):lD x=yW x:=by
 cases f:x.all gW with
 |false=>rw [Ri x f,yW,f];simp
 |true=>
  have e:=aT.1 f
  match x,f,e with
  |[],_,_=>rfl
  |[a],_,e=>obtain⟨n,rfl⟩:=Sw a (e a aA2);exact oct1 n
  |[a,b],_,e=>obtain⟨n,rfl⟩:=Sw a (e a aA2);obtain⟨m,rfl⟩:=Sw b (e b aA2);exact oct2 n m
  |[a,b,c],_,e=>obtain⟨n,rfl⟩:=Sw a (e a aA2);obtain⟨m,rfl⟩:=Sw b (e b aA2);obtain⟨k,rfl⟩:=Sw c (e c aA2);exact oct3 n m k
  |a::b::c::d::l,f,_=>
   have g:yW (a::b::c::d::l)=false:=by unfold yW;rw [show decide ((a::b::c::d::l).length<=3)=false by(rw [bU];simp only [bR];omega)];simp
   rw [g];by_cases i:vK (a::b::c::d::l)<=255
   ·refine nB _ (.inr fun h=> ?_);have:=Z6 ⟨vK (a::b::c::d::l),aA0⟩;simp only at this;rw [<-h]at this;simp only [bR]at this;omega
   ·exact nB _ (.inl (.inr bJ))
def Dz(s:aC):Bool:=decide (2<=s.length)&&(at_ s 0==91)&&(at_ s ((s.length:Int)-1)==93)
def dZ(s:aC):aC×Bool:=
 if Dz s=true then(if(Aq (sub s 1 ((s.length:Int)-1))).2=true then([91]++(Aq (sub s 1 ((s.length:Int)-1))).1++[93],true)else([],false))
 else if jQ s=true then(s,true)else if RV s=true then(dH s,true)else([],false)
theorem th(s:aC)(c:s.length<=4194304):(if(2:Int)<=(s.length:Int)then(gd (0<=(0:Int)/\(0:Int)<(s.length:Int))<|(if(at_ s (0:Int))=(91:UInt8)then(gd (bZ ((s.length:Int)-(1:Int)))<|(gd (0<=((s.length:Int)-(1:Int))/\((s.length:Int)-(1:Int))<(s.length:Int))<|some (decide ((at_ s ((s.length:Int)-(1:Int)))=(93:UInt8)))))else some false))else some false)=some (Dz s):=by
 unfold Dz;by_cases b:(2:Int)<=(s.length:Int)
 ·rw [aB b,show decide (2<=s.length)=true by(rw [aV];omega),Ig,bA bJ];by_cases a:at_ s 0=91
  ·rw [aB a,show(at_ s 0==91)=true by simpa using a,Ig,bA (eT _ bJ bJ),bA bJ];rfl
  ·rw [aA a,show(at_ s 0==91)=false by simpa using a];rfl
 ·rw [aA b,show decide (2<=s.length)=false by(rw [bU];omega)];rfl
variable {s:aC}
theorem cg(h:Dz s=true):2<=s.length:=by unfold Dz at h;simp only [fS,aV]at h;exact h.1.1
theorem Sm(s:aC):(Aq s).1.length<=60000000:=by
 unfold Aq;by_cases a:39<s.length
 ·rw [aB a];simp
 ·rw [aA a];have f:=Xb s [58,58];have e:=Wn (cW s [58,58]).1 bJ;have d:=Wn (cW s [58,58]).2.1 bJ;split
  ·have c:=ayz s;have b:=N1 [58] 4 (Au s).1 c.2;simp only [eL]at b⊢;omega
  ·split
   ·simp
   ·simp only [bM,bR,eO];omega
theorem vk(s:aC)(a:s.length<=4194304):O0 FU s=some (dZ s):=by
 unfold O0 dZ;rw [th s a,aY];cases b:Dz s with
 |true=>
  have g:=cg b;have e:=Sm (sub s 1 ((s.length:Int)-1));rw [aL,bA (eT _ bJ bJ),bA bJ,EZ,aY,aB rfl];cases f:(Aq (sub s 1 ((s.length:Int)-1))).2 with
  |false=>rfl
  |true=>rw [jM,aG,bA aB0,bA aA8,aB rfl]
 |false=>
  rw [aG,Xu,aY,aA (show¬(false=true)by decide)];cases c:jQ s with
  |true=>rfl
  |false=>
   rw [aG,IT s a,aY,aA (show¬(false=true)by decide)];cases d:RV s with
   |true=>rw [aL,N6 s a];rfl
   |false=>rfl
theorem TE(c:UInt8)(p:UInt8->Bool):∀s:aC,(∀x∈cU c s,x.all p=true)->∀b∈s,p b=true\/b=c
 |[],_,b,e=>by simp at e
 |d::l,h,b,e=>by
  by_cases g:d=c
  ·subst g;rw [awk]at h;rcases aP.1 e with rfl|e
   ·exact .inr rfl
   ·exact TE d p l (fun x hx=>h x (fB _ hx)) b e
  ·rw [vw c d l g]at h;cases hx:cU c l with
   |nil=>exact absurd hx (WB c l)
   |cons y r=>
    rw [hx]at h;have f:=h ([d]++y) fQ;rw [oH,fS]at f;rcases aP.1 e with rfl|e
    ·left;simpa using f.1
    ·refine TE c p l (fun x a=> ?_) b e;rw [hx]at a;rcases aP.1 a with rfl|a
     ·exact f.2
     ·exact h x (fB _ a)
theorem nC(x:aC)(h:yW x=true):1<=x.length/\x.length<=3/\x.all gW=true:=by unfold yW at h;simp only [fS,aV]at h;exact⟨h.1.1.1.1,h.1.1.1.2,h.1.2⟩
theorem at_mem(x:aC)(k:Nat)(h:k<x.length):at_ x (k:Int)∈x:=by simp [at_,h]
theorem Ru(s:aC)(h:∀b∈s,iF b=b):dH s=s:=by
 unfold dH
 conv=>rhs;rw [<-List.map_id s]
 exact L9 fun b a=>h b a
theorem Sj(s:aC):(dZ s).1.length<=60000002+s.length:=by
 have:=Sm (sub s 1 ((s.length:Int)-1));unfold dZ;split
 ·split
  ·simp only [bM,eL];omega
  ·simp
 ·split
  ·show s.length<=_;omega
  ·split
   ·simp [dH]
   ·simp
open Go.Lib renaming indexAny → Bk
theorem Hf(n:Nat):∀(l:aC) (k:Nat) (a:aC),l.length<=n->(fT l k a).1.length<=a.length+l.length/\((fT l k a).2.2=0->(k:Int)+1<=(fT l k a).2.1/\(fT l k a).2.1<=((k+l.length:Nat):Int)):=by
 induction n with
 |zero=>intro l k a f;obtain rfl:l=[]:=Fp bJ;exact⟨by simp [fT],fun h=>absurd h (show¬((6:UInt8)=0)by decide)⟩
 |succ n d=>
  intro l k a f;cases l with
  |nil=>exact⟨by simp [fT],fun h=>absurd h (show¬((6:UInt8)=0)by decide)⟩
  |cons c l=>
   simp only [bR]at f;rw [ua];by_cases i:c=34
   ·rw [aB i];exact⟨aA2,fun _=>⟨aA2,by simp only [bR];omega⟩⟩
   ·rw [aA i];by_cases g:c=92
    ·rw [aB g];by_cases b:l=[]
     ·rw [aB b];exact⟨aA2,fun h=>absurd h (show¬((6:UInt8)=0)by decide)⟩
     ·rw [aA b];have e:0<l.length:=bK.2 b;cases j:N0 (at_ l 0)with
      |true=>rw [aB rfl];have:=d (l.drop 1) (k+2) (a++[at_ l 0]) aB9;rw [bM,eL,iX]at this;exact⟨by simp only [bR];omega,fun h=>⟨by have:=(this.2 h).1;omega,by have:=(this.2 h).2;simp only [bR];omega⟩⟩
      |false=>rw [aA aA1];exact⟨aA2,fun h=>absurd h (show¬((5:UInt8)=0)by decide)⟩
    ·rw [aA g];cases j:eW c with
     |true=>rw [aB rfl];exact⟨aA2,fun h=>absurd h (show¬((5:UInt8)=0)by decide)⟩
     |false=>rw [aA aA1];have:=d l (k+1) (a++[c]) bJ;rw [bM,eL]at this;exact⟨by simp only [bR];omega,fun h=>⟨by have:=(this.2 h).1;omega,by have:=(this.2 h).2;simp only [bR];omega⟩⟩
theorem xU(s:aC)(k:Nat)(a:at_ s (k:Int)=34)(b:k<s.length):(Nj s (k:Int)).1.length<=s.length/\((Nj s (k:Int)).2.2=0->(k:Int)+2<=(Nj s (k:Int)).2.1/\(Nj s (k:Int)).2.1<=(s.length:Int)):=by unfold Nj;rw [aA bJ,aA (by rintro(h|h);omega;exact h a)];have e:((k:Int).toNat+1)=k+1:=aA0;rw [e];have:=Hf _ (s.drop (k+1)) (k+1) [] (eV _);rw [iX,eO]at this;exact⟨aA0,fun h=>⟨by have:=(this.2 h).1;omega,by have:=(this.2 h).2;omega⟩⟩
theorem jt(s:aC)(a:s.length<=4194304)(i:Int):O2 FU (s,i)=some (s,((cD cC s i:Nat):Int)):=by unfold O2;simp only;rw [nT s a];rfl
theorem nS(s:aC)(i:Int):ki FU (s,i)=some (decide ((s.length:Int)<=i)):=rfl
def fJ(s:aC)(k:Nat)(b:UInt8):Bool:=decide (k<s.length)&&(at_ s (k:Int)==b)
theorem FM(s:aC)(k:Nat)(b:UInt8):Gp FU (s,(k:Int)) b=some (fJ s k b):=by
 unfold Gp fJ;rw [nS,aY];by_cases h:k<s.length
 ·rw [aO (show¬(s.length:Int)<=(k:Int)by omega),xI,aL,bA (by simp only;omega),aK h];rfl
 ·rw [aK (show(s.length:Int)<=(k:Int)by omega),aO h];rfl
theorem oN(s:aC)(a:s.length<=4194304)(i:Int):dr FU s i=some ((cD cB s i:Nat):Int):=by unfold dr;rw [Jk s bJ];rfl
theorem Xt(p:UInt8->Bool)(s:aC)(k:Nat)(h:k<=s.length):k<=cD p s (k:Int):=by unfold cD;rw [jx k _ h];omega
theorem tM(s:aC)(a:s.length<=4194304)(k:Nat)(b:k<=s.length):xv FU (s,(k:Int))=some (sub s (k:Int) ((cD cB s (k:Int):Nat):Int),(s,((cD cB s (k:Int):Nat):Int))):=by have d:=Xt cB s k b;have c:=qA cB s (k:Int);unfold xv;simp only;rw [oN s a,aY,bA bJ]
theorem vx(s:aC)(a b:Nat)(h:b<=s.length)(d:a<=b):sub s (a:Int) (b:Int)=[]↔b=a:=by
 have:=IJ s (a:Int) (b:Int);constructor
 ·intro c;rw [c]at this;simp at this;omega
 ·intro c;apply Fp;rw [this];omega
theorem Us(c:UInt8)(l:aC):(if(0:Int)<=dT (·==c) l then dT (·==c) l else(l.length:Int))=(dQ (fun b=> !(b==c)) l:Int):=by
 rcases dh (·==c) l with⟨d,a⟩|⟨d,a,e⟩
 ·rw [aA bJ,a]
 ·rw [aB d,e]
theorem RP(c:UInt8):(fun b=>([c]:aC).contains b)=(·==c):=by funext b;simp [List.contains_cons];rfl
theorem OG(s:aC)(i:s.length<=4194304)(k:Nat)(j:k<=s.length)(c:UInt8)(g:c.toNat<128):Xv FU s (k:Int) [c]=some ((k+dQ (fun b=> !(b==c)) (s.drop k):Nat):Int):=by
 have e:((k:Nat):Int).toNat=k:=aA0;have l:(s.drop k).length=s.length-k:=iX;have a:=Us c (s.drop k);have f:Bk (s.drop k) [c]=dT (·==c) (s.drop k):=by rw [wa,RP]
 have d:=dh (·==c) (s.drop k);unfold Xv;rw [bA bJ,e,bA ⟨aA0,aA2,aE2⟩,f];by_cases h:(0:Int)<=dT (·==c) (s.drop k)
 ·rw [aB h]at a⊢;rw [bA (eT _ bJ bJ),a];rfl
 ·rw [aA h]at a⊢;congr 1;omega
def kT(s:aC)(k:Nat):aC×Int×UInt8:=
 if fJ s k 34=true then Nj s (k:Int)
 else if fJ s k 91=true then
  (if(dZ (sub s (k:Int) (min ((k+dQ (fun b=> !(b==93)) (s.drop k):Nat)+1:Int) (s.length:Int)))).2=true then
   ((dZ (sub s (k:Int) (min ((k+dQ (fun b=> !(b==93)) (s.drop k):Nat)+1:Int) (s.length:Int)))).1,((k+dQ (fun b=> !(b==93)) (s.drop k):Nat):Int)+1,0)else([],(k:Int),5))
 else if cD cB s (k:Int)=k then([],(k:Int),5)else(sub s (k:Int) ((cD cB s (k:Int):Nat):Int),((cD cB s (k:Int):Nat):Int),0)
theorem Nu{k:UInt8}(h:fJ s b k=true):b<s.length/\at_ s (b:Int)=k:=by unfold fJ at h;simp only [fS,aV,beq_iff_eq]at h;exact h
theorem Q1(s:aC)(e:s.length<=4194304)(k:Nat)(c:k<=s.length):(kT s k).1.length<=90000000/\((kT s k).2.2=0->(k:Int)+1<=(kT s k).2.1/\(kT s k).2.1<=(s.length:Int)+1):=by
 unfold kT;have g:=Xt cB s k c;have f:=qA cB s (k:Int);have a:=FN (fun b=> !(b==93)) (s.drop k);rw [iX]at a;split
 ·rename_i h;have:=xU s k (Nu h).2 (Nu h).1;exact⟨aA0,fun h=>⟨by have:=(this.2 h).1;omega,by have:=(this.2 h).2;omega⟩⟩
 ·split
  ·split
   ·have d:=Sj (sub s (k:Int) (min ((k+dQ (fun b=> !(b==93)) (s.drop k):Nat)+1:Int) (s.length:Int)));rw [IJ]at d;exact⟨by simp only;omega,fun _=>⟨by simp only;omega,by simp only;omega⟩⟩
   ·exact⟨aA2,fun h=>absurd h (show¬((5:UInt8)=0)by decide)⟩
  ·split
   ·exact⟨aA2,fun h=>absurd h (show¬((5:UInt8)=0)by decide)⟩
   ·rename_i h;exact⟨by simp only [IJ];omega,fun _=>⟨by simp only;omega,by simp only;omega⟩⟩
theorem nj(s:aC)(k:Nat)(b:UInt8):(if(k:Int)<(s.length:Int)then(gd (0<=(k:Int)/\(k:Int)<(s.length:Int))<|some (decide ((at_ s (k:Int))=b)))else some false)=some (fJ s k b):=by
 unfold fJ;by_cases h:k<s.length
 ·rw [aB bJ,bA bJ,aK h];rfl
 ·rw [aA bJ,aO h];rfl
theorem Cw(l:aC):dH l=[]↔l=[]:=by unfold dH;simp
theorem Cb(p:UInt8->Bool)(s:aC)(y:Nat):cD p s ((y:Int)+1)=cD p s ((y+1:Nat):Int):=rfl
def ym:aC×aC×Bool:=([],[],false)
def wT(s:aC)(b:Nat):PQ×Int×UInt8×(aC×Int):=
 if cD cB s (b:Int)=b then(ym,(b:Int),5,(s,(b:Int)))
 else if fJ s (cD cC s ((cD cB s (b:Int):Nat):Int)) 61=false then((dH (sub s (b:Int) ((cD cB s (b:Int):Nat):Int)),[],false),0,0,(s,((cD cC s ((cD cB s (b:Int):Nat):Int):Nat):Int)))
 else if(kT s (cD cC s ((cD cC s ((cD cB s (b:Int):Nat):Int)+1:Nat):Int))).2.2=0 then((dH (sub s (b:Int) ((cD cB s (b:Int):Nat):Int)),(kT s (cD cC s ((cD cC s ((cD cB s (b:Int):Nat):Int)+1:Nat):Int))).1,true),0,0,(s,(kT s (cD cC s ((cD cC s ((cD cB s (b:Int):Nat):Int)+1:Nat):Int))).2.1))
 else(ym,(kT s (cD cC s ((cD cC s ((cD cB s (b:Int):Nat):Int)+1:Nat):Int))).2.1,(kT s (cD cC s ((cD cC s ((cD cB s (b:Int):Nat):Int)+1:Nat):Int))).2.2,(s,((cD cC s ((cD cC s ((cD cB s (b:Int):Nat):Int)+1:Nat):Int):Nat):Int)))
theorem QA(s:aC)(e:s.length<=4194304)(b:Nat)(o:b<=s.length):ait FU (s,(b:Int))=some (wT s b):=by
 unfold ait wT;have d:=Xt cB s b o;have c:=qA cB s (b:Int);rw [tM s e b o,aY];simp only;generalize w:cD cB s (b:Int)=t at d c⊢;have l:=qA cC s (t:Int);have m:=Xt cC s t c;rw [N6 _ aD6,aY];by_cases j:t=b
 ·have:dH (sub s (b:Int) (t:Int))=[]:=(Cw _).2 ((vx s b t c d).2 j);rw [aB this,aB j,j];rfl
 ·have:¬dH (sub s (b:Int) (t:Int))=[]:=fun h=>j ((vx s b t c d).1 ((Cw _).1 h));rw [aA this,aA j,jt s e,aY];generalize v:cD cC s (t:Int)=y at m l⊢;rw [FM,aY];cases q:fJ s y 61 with
  |false=>rw [xI,aL,aB rfl]
  |true=>
   rw [jM,aG,aA (show¬(true=false)by decide),sF,jt s e,aY,Cb];have a:=qA cC s ((y+1:Nat):Int);generalize u:cD cC s ((y+1:Nat):Int)=z at a⊢;have g:=Xt cB s z a;have f:=qA cB s (z:Int);have n:=FN (fun b=> !(b==93)) (s.drop z);rw [iX]at n;rw [FM,aY];unfold kT;cases r:fJ s z 34 with
   |true=>
    rw [aL,aB rfl,vZ s e,aY];by_cases k:(Nj s (z:Int)).2.2=0
    ·rw [aB k,aB k]
    ·rw [aA k,aA k];rfl
   |false=>
    rw [aG,aA (show¬(false=true)by decide),FM,aY];cases p:fJ s z 91 with
    |true=>
     rw [aL,aB rfl,OG s e z a 93 aA1,aY];simp only;rw [sF,bA bJ,vk _ aD6,aY];cases x:(dZ (sub s (z:Int) (min ((z+dQ (fun b=> !(b==93)) (s.drop z):Nat)+1:Int) (s.length:Int)))).2 with
     |false=>rw [xI,aL,aA (show¬(false=true)by decide),aA (show¬((5:UInt8)=0)by decide)];rfl
     |true=>rw [jM,aG,sF,aB rfl,aB rfl]
    |false=>
     rw [aG,aA (show¬(false=true)by decide),tM s e z a,aY];simp only;by_cases i:cD cB s (z:Int)=z
     ·rw [aB ((vx s z _ f g).2 i),aB i,aA (show¬((5:UInt8)=0)by decide),i];rfl
     ·rw [aA (fun h=>i ((vx s z _ f g).1 h)),aA i,aB rfl]
open List renaming drop → bN, take → nZ
abbrev PP:=aC×aC×Bool
theorem D4[Inhabited a](p:a->Bool)(l:List a)(F:Nat->Int->Option (Unit⊕Int))
  (o:∀c,F (c+1) (l.length:Int)=some (.inl ()))
  (m:∀c (k:Nat),k<l.length->p (el l k)=true->F (c+1) (k:Int)=some (.inr (k:Int)))
  (i:∀c (k:Nat),k<l.length->p (el l k)=false->F (c+1) (k:Int)=F c ((k:Int)+1)) (n:Nat):
  ∀(k c:Nat),k+n=l.length->n<c->F c (k:Int)=some (match(l.drop k).findIdx? p with|none=>.inl ()|some j=>.inr ((k+j:Nat):Int)):=by
 induction n with
 |zero=>intro k c e f;obtain⟨c,rfl⟩:=dY c;obtain rfl:k=l.length:=aA0;rw [o,fP];rfl
 |succ n d=>
  intro k c e f;obtain⟨c,rfl⟩:=dY c;have b:k<l.length:=aA0;have g:l.drop k=el l (k:Int)::l.drop (k+1):=by rw [Mq _ _ b,dS b]
  rw [g,List.findIdx?_cons];cases h:p (el l (k:Int))with
  |true=>rw [m c k b h];rfl
  |false=>
   rw [i c k b h,Ot,d (k+1) c bJ bJ];cases(l.drop (k+1)).findIdx? p with
   |none=>rfl
   |some j=>show some (Sum.inr _)=some (Sum.inr _);congr 2;show((k+1+j:Nat):Int)=((k+(j+1):Nat):Int);omega
theorem RD[Inhabited a](p:a->Bool)(l:List a)(g:l.length<=4194304)(F:Nat->Int->Option (Unit⊕Int))
  (f:∀b,F (b+1) (l.length:Int)=some (.inl ()))
  (e:∀b (k:Nat),k<l.length->p (el l k)=true->F (b+1) (k:Int)=some (.inr (k:Int)))
  (d:∀b (k:Nat),k<l.length->p (el l k)=false->F (b+1) (k:Int)=F b ((k:Int)+1)):F FU 0=some (match l.findIdx? p with|none=>.inl ()|some j=>.inr ((j:Nat):Int)):=by
 have:=D4 p l F f e d l.length 0 FU bJ aA6;rw [SR]at this;have c:F FU (0:Int)=_:=this;rw [c];cases l.findIdx? p with
 |none=>rfl
 |some j=>show some (Sum.inr _)=some (Sum.inr _);congr 2;show((0+j:Nat):Int)=_;omega
def fIdx(o:Option Nat):Int:=match o with|none=> -1|some j=>(j:Int)
theorem D6(p:a->Bool)(l:List a):decide ((0:Int)<=fIdx (l.findIdx? p))=l.any p:=by
 rw [<-List.findIdx?_isSome];cases l.findIdx? p with
 |none=>rfl
 |some j=>show decide ((0:Int)<=(j:Int))=true;rw [aV];omega
theorem Mb(l:List PP)(d:l.length<=4194304)(name:aC):wo FU l name=some (l.any fun p=>p.1==name):=by
 have h:=RD (fun p:PP=>p.1==name) l d (abz FU l name)
  (fun b=>by rw [acx,abi,aA bJ])
  (fun b k f h=>by have a:(el l (k:Int)).1=name:=aA9;rw [acx,abi,aB bJ,bA bJ,bA bJ];unfold apz;rw [aY,aK a,aL])
  (fun b k f h=>by have a:¬(el l (k:Int)).1=name:=aA9;rw [acx,abi,aB bJ,bA bJ,bA bJ];unfold apz;rw [aY,aO a,aG,sF])
 unfold wo adq aed;rw [h,aY];have e:fC (fun(c:Unit)=>some (-1:Int)) (fun q=>some q) (match l.findIdx? (fun p:PP=>p.1==name)with|none=>(Sum.inl ():Unit⊕Int)|some j=>Sum.inr ((j:Nat):Int))=some (fIdx (l.findIdx? (fun p:PP=>p.1==name))):=by cases l.findIdx? (fun p:PP=>p.1==name)<;>rfl
 rw [e,aY,D6];rfl
def Ea(l:List PP)(name:aC):UInt8:=if(l.any fun p=>p.1==name)=true then 7 else if 16<=l.length then 4 else 0
theorem KH(l:List PP)(a:l.length<=4194304)(name:aC):wj FU l name=some (Ea l name):=by
 unfold wj Ea;rw [Mb l a,aY];cases l.any fun p=>p.1==name with
 |true=>rfl
 |false=>
  rw [aG,aA (show¬(false=true)by decide)];by_cases h:16<=l.length
  ·rw [aB bJ,aB h]
  ·rw [aA bJ,aA h]
theorem aw(l:List PP)(k:Nat)(h:k<l.length):el l (k:Int)∈l:=Ww l k h
def lP (s : aC) : Nat -> List PP -> Nat -> List PP × Int × UInt8
  | 0, _, _ => ([], 0, 0)
  | f + 1, l, i =>
    if s.length <= cD cC s (i : Int) then (l, 0, 0)
    else if ¬ at_ s ((cD cC s (i : Int) : Nat) : Int) = 59 then ([], ((cD cC s (i : Int) : Nat) : Int), 5)
    else if (wT s (cD cC s ((cD cC s (i : Int) + 1 : Nat) : Int))).2.2.1 = 0 then
      (if Ea l (wT s (cD cC s ((cD cC s (i : Int) + 1 : Nat) : Int))).1.1 = 0 then lP s f (l ++ [(wT s (cD cC s ((cD cC s (i : Int) + 1 : Nat) : Int))).1]) (wT s (cD cC s ((cD cC s (i : Int) + 1 : Nat) : Int))).2.2.2.2.toNat
       else ([], ((cD cC s ((cD cC s (i : Int) + 1 : Nat) : Int) : Nat) : Int), Ea l (wT s (cD cC s ((cD cC s (i : Int) + 1 : Nat) : Int))).1.1))
    else ([], (wT s (cD cC s ((cD cC s (i : Int) + 1 : Nat) : Int))).2.1, (wT s (cD cC s ((cD cC s (i : Int) + 1 : Nat) : Int))).2.2.1)
theorem low2:∀c:UInt8,iF (iF c)=iF c:=eA _ aA3
theorem zA(l:aC):dH (dH l)=dH l:=by unfold dH;rw [jL];apply L9;intro c _;exact low2 c
theorem BJ(s:aC)(n:s.length<=4194304)(b:Nat)(o:b<=s.length)(a:(wT s b).2.2.1=0):(wT s b).2.2.2.1=s/\(b:Int)+1<=(wT s b).2.2.2.2/\(wT s b).2.2.2.2<=(s.length:Int)+1/\dH (wT s b).1.1=(wT s b).1.1/\(wT s b).1.1.length<=s.length/\(wT s b).1.2.1.length<=90000000:=by
 have k:=Xt cB s b o;have f:=qA cB s (b:Int);unfold wT at a⊢;generalize r:cD cB s (b:Int)=t at k f a⊢;have i:=qA cC s (t:Int);have j:=Xt cC s t f;have c:(dH (sub s (b:Int) (t:Int))).length<=s.length:=by unfold dH;rw [Hb,IJ];omega
 by_cases l:t=b
 ·rw [aB l]at a;exact absurd a (show¬((5:UInt8)=0)by decide)
 ·rw [aA l]at a⊢;generalize q:cD cC s (t:Int)=y at j i a⊢;cases g:fJ s y 61 with
  |false=>rw [aB rfl];exact⟨rfl,by simp only;omega,by simp only;omega,zA _,c,aA2⟩
  |true=>
   have m:=(Nu g).1;rw [g,aA (show¬(true=false)by decide)]at a;rw [aA (show¬(true=false)by decide)];have h:=Xt cC s (y+1) bJ;have d:=qA cC s ((y+1:Nat):Int);generalize p:cD cC s ((y+1:Nat):Int)=z at h d a⊢;by_cases e:(kT s z).2.2=0
   ·have:=Q1 s n z d;rw [aB e];exact⟨rfl,by simp only;have:=(this.2 e).1;omega,by simp only;exact(this.2 e).2,zA _,c,this.1⟩
   ·rw [aA e]at a;exact absurd a e
theorem PM(s:aC)(m:s.length<=4194304)(n:Nat):∀(k e:Nat) (l:List PP),s.length-k<=n->n<e->k<=4194305->l.length<=16->
  alo FU e l s (k:Int)=some (lP s (n+1) l k):=by
 have L:¬(false=true):=aA1;induction n with
 |zero=>
  intro k e l w A z x;obtain⟨e,rfl⟩:=dY e;have u:=qA cC s (k:Int);have B:s.length<=cD cC s (k:Int):=by unfold cD Xp;omega
  rw [att,akt,jt s m,aY,nS,aY,aK bJ,aL,lP,aB B]
 |succ n v=>
  intro k e l w A z x;obtain⟨e,rfl⟩:=dY e;have u:=qA cC s (k:Int);have p:k<=s.length->k<=cD cC s (k:Int):=Xt cC s k;rw [lP,att,akt,jt s m,aY,nS,aY];generalize E:cD cC s (k:Int)=j at u p⊢;by_cases t:s.length<=j
  ·rw [aK bJ,aL,aB t]
  ·have y:k<=s.length:=by
    rcases tE s.length k with h|h
    ·exfalso;have:cD cC s (k:Int)=s.length:=by have a:=qA cC s (k:Int);unfold cD Xp at a⊢;omega
     omega
    ·exact h
   rw [aO bJ,aG,aA t,FM,aY];have o:j<s.length:=aA0;unfold fJ;rw [aK o,Ig];by_cases d:at_ s (j:Int)=59
   ·have g:(at_ s (j:Int)==59)=true:=by simpa using d
    rw [g,jM,aG,aA aD0];simp only;rw [sF,jt s m,aY,Cb];have f:=qA cC s ((j+1:Nat):Int);have q:=Xt cC s (j+1) bJ;generalize F:cD cC s ((j+1:Nat):Int)=b at q f⊢;rw [QA s m b f,aY];by_cases i:(wT s b).2.2.1=0
    ·obtain⟨C,K,J,I,H,G⟩:=BJ s m b f i;rw [aB i,aB i,KH l bJ,aY,aY];by_cases c:Ea l (wT s b).1.1=0
     ·have r:l.length<16:=by
       unfold Ea at c;split at c
       ·exact absurd c aA1
       ·split at c
        ·exact absurd c aA1
        ·omega
      have D:(wT s b).2.2.2.2=(((wT s b).2.2.2.2.toNat:Nat):Int):=aA0;rw [aB c];try simp only
      rw [aB c,bA aB0,C,D];have:=v (wT s b).2.2.2.2.toNat e (l++[(wT s b).1]) bJ bJ bJ aA8;rw [this];congr 2
     ·rw [aA c];try simp only
      rw [aA c]
    ·rw [aA i,aA i,aY];simp only;rw [aA i]
   ·have g:(at_ s (j:Int)==59)=false:=by simpa using d
    rw [g,xI,aL,aB d]
def kV(s:aC):List PP×Int×UInt8:=lP s (s.length+1) [] 0
theorem Cq(s:aC)(a:s.length<=4194304):kb FU s=some (kV s):=by unfold kb;exact PM s a s.length 0 FU [] bJ aA6 bJ aA2
def kP(s:aC):Nat:=if cD cB s 0=0 then 0 else if fJ s (cD cB s 0) 47=true then(if cD cB s ((cD cB s 0+1:Nat):Int)=cD cB s 0+1 then 0 else cD cB s ((cD cB s 0+1:Nat):Int))else cD cB s 0
def Tg(v:aC):(aC×List PP)×UInt8:=
 if kP (cH v)=0 then(([],[]),5)
 else if(kV ((cH v).drop (kP (cH v)))).2.2=0 then(((cH v).take (kP (cH v)),(kV ((cH v).drop (kP (cH v)))).1),0)
 else(([],[]),(kV ((cH v).drop (kP (cH v)))).2.2)
theorem Z7(v:aC)(j:v.length<=4194304):avy FU v=some (Tg v):=by
 have l:=NQ v;have i:=qA cB (cH v) 0;unfold avy Tg kP;rw [mA v j,aY,oN _ bJ,aY];generalize cH v=s at l i⊢;have d:∀e:Nat,e<=s.length->e≠0->fC (fun(a:Int)=>(gd (0<=a/\a<=(s.length:Int))<|((kb FU (bN (aZ a) s)).bind fun(b:((List PP)×Int×UInt8))=>(if b.2.2=(0:UInt8)then(gd (0<=a/\a<=(s.length:Int))<|some ((nZ (aZ a) s,b.1),(0:UInt8)))else some ((([]:aC),([]:List PP)),b.2.2))))) (fun q=>some q) (.inl (e:Int):Int⊕((aC×List PP)×UInt8))=some (if e=0 then(([],[]),5)else if(kV (s.drop e)).2.2=0 then((s.take e,(kV (s.drop e)).1),0)else(([],[]),(kV (s.drop e)).2.2)):=by
  intro e g c;have n:((e:Nat):Int).toNat=e:=aA0;rw [pR,bA bJ,n,Cq _ aB9,aY,aA c];by_cases f:(kV (s.drop e)).2.2=0
  ·rw [aB f,aB f,bA bJ]
  ·rw [aA f,aA f]
 generalize cD cB s 0=k at i⊢;by_cases c:k=0
 ·subst c;rfl
 ·rw [aA bJ,nj,aY,aA c];cases h:fJ s k 47 with
  |true=>
   have o:=(Nu h).1;have m:=qA cB s ((k+1:Nat):Int);have p:=Xt cB s (k+1) bJ;rw [aL,sF,oN _ bJ,aY,sF,Cb,aB rfl];by_cases g:cD cB s ((k+1:Nat):Int)=k+1
   ·rw [aB bJ,aB g];rfl
   ·rw [aA bJ,aA g,aY,d _ m bJ]
  |false=>rw [aG,aY,aA (show¬(false=true)by decide),d _ i c]
open Go.Lib renaming join → dA
open List renaming intercalate → NX, length → aR, take → nZ
def jA(s:aC):aC:=34::(s.flatMap nV++[34])
def AM(s:aC):aC×UInt8:=if s.any eW=true then([],5)else(jA s,0)
theorem PB(c:UInt8):(nV c).length<=2:=by unfold nV;split<;>simp
theorem tS:∀s:aC,(s.flatMap nV).length<=2*aR s
 |[]=>by simp
 |c::l=>by have b:=PB c;have a:=tS l;rw [kS,bM,bR];omega
theorem ny(s:aC)(u:aR s<=4194304)(l:aC):∀(p:aC) (d:Nat),s=p++l->aR l<d->
  xh FU s d (34::p.flatMap nV) (aR p:Int)=some (if l.any eW=true then .inr ([],5)else .inl (34::s.flatMap nV)):=by
 induction l with
 |nil=>intro p d h o;obtain⟨d,rfl⟩:=dY d;rw [gA]at h;subst h;rw [awz,aov,aA bJ];rfl
 |cons c l q=>
  intro p d h o;obtain⟨d,rfl⟩:=dY d;have r:=bD aR h;simp only [bM,bR]at r o;have n:(0:Int)<=(aR p:Int)/\(aR p:Int)<(aR s:Int):=aA0;have t:at_ s (aR p:Int)=c:=by rw [h,kH]
  have v:=tS p;have k:=q (p++[c]) d aA7 bJ;rw [<-N2 p c,SN,JB]at k;rw [awz,aov,aB n.2,bA n,t,axt,aY,Ol];cases w:eW c with
  |true=>rw [aL,lX,aB rfl]
  |false=>
   rw [aG,eD];have a:∀b:Bool,nV c=(bif b then [92,c]else [c])->(bif b then gd (((34::p.flatMap nV).length+([(92:UInt8)]:List UInt8).length)*1<=140737488355328) (some ((34::p.flatMap nV)++([(92:UInt8)]:List UInt8)))else some (34::p.flatMap nV))=some ((34::p.flatMap nV)++(bif b then [92]else [])):=by
    intro b _;cases b with
    |true=>rw [aL,aL,bA aB5]
    |false=>rw [aG,aG,gA]
   have j:∀b:Bool,nV c=(bif b then [92,c]else [c])->((some ((34::p.flatMap nV)++(bif b then [92]else []))).bind fun(i:List UInt8)=>(gd (0<=(aR p:Int)/\(aR p:Int)<(aR s:Int))<|(gd ((aR i+([c]:List UInt8).length)*1<=140737488355328)<|(gd (bZ ((aR p:Int)+(1:Int)))<|(xh FU s d (i++([c]:List UInt8)) ((aR p:Int)+(1:Int)))))))=some (if l.any eW=true then .inr ([],5)else .inl (34::s.flatMap nV)):=by intro b m;rw [aY,bA n,bA (by cases b<;>simp only [aL,aG,bM,bR,eO]<;>omega),bA (eT _ bJ bJ),<-k,m];cases b<;>simp
   by_cases g:c=34
   ·have e:nV c=(bif true then [92,c]else [c]):=by rw [g];rfl
    rw [aB g,aY,a true e,j true e]
   ·rw [aA g,aY];by_cases f:c=92
    ·have e:nV c=(bif true then [92,c]else [c]):=by rw [f];rfl
     rw [aK f,a true e,j true e]
    ·have e:nV c=(bif false then [92,c]else [c]):=by unfold nV;rw [aA (by simp [g,f])];rfl
     rw [aO f,a false e,j false e]
theorem B9{b:Decidable p}(h:p): @gd _ p b k=k:=by unfold gd;exact aB h
theorem Jt(s:aC)(b:aR s<=4194304):wi FU s=some (AM s):=by
 have:=ny s b s [] FU aA2 aA6;have a:xh FU s FU (([]:List UInt8)++([(34:UInt8)]:List UInt8)) (0:Int)=_:=this;have c:=tS s;unfold wi AM;rw [bA (eT _ bJ bJ),B9 bJ,bA aA1,a,aY];cases s.any eW with
 |true=>rfl
 |false=>rw [aA (show¬(false=true)by decide),pR,bA aB5,aA (show¬(false=true)by decide)];rfl
theorem rH(s:aC):(jA s).length<=2*aR s+2:=by have:=tS s;unfold jA;rw [bR,bM,eL];omega
theorem mf:∀c:UInt8,cB c=true->eW c=false:=eA _ aA3
theorem qq:∀c:UInt8,jD c=true->eW (iF c)=false:=eA _ aA3
theorem py:∀c:UInt8,lQ c=true->eW (iF c)=false:=eA _ aA3
theorem sw:∀c:UInt8,gW c=true->eW c=false:=eA _ aA3
theorem jw(l:aC)(h:∀c∈l,eW c=false):l.any eW=false:=by rw [dX];intro c a;rw [h c a];decide
theorem ZR(s:aC)(h:eY s=true):s.any eW=false:=by unfold eY at h;rw [fS]at h;exact jw s fun c a=>mf c (aT.1 h.2 c a)
theorem ae(g:aC)(h:Ap g=true):∀c∈lH g,eW c=false:=by
 have hx:g.all jD=true:=aD7;intro c a;unfold lH at a;split at a
 ·rw [aE.1 a];decide
 ·have b:c∈Fy g:=(vP _).subset a;obtain⟨d,e,rfl⟩:=cN.1 b;exact qq d (aT.1 hx d e)
theorem Hv:∀(l:List aC),(∀x∈l,∀c∈x,eW c=false)->∀c∈dA l [58],eW c=false
 |[],_,c,d=>by simp [dA,NX]at d
 |[a],h,c,d=>by simp [dA,NX]at d;exact h a aA2 c d
 |a::b::l,h,c,d=>by
  have e:dA (a::b::l) [58]=a++(58::dA (b::l) [58]):=aD4;rw [e]at d;rcases aS.1 d with d|d
  ·exact h a aA2 c d
  ·rcases aP.1 d with rfl|d
   ·decide
   ·exact Hv (b::l) (fun x hx=>h x (fB _ hx)) c d
theorem Me(s:aC):∀x∈(Au s).1,∀c∈x,eW c=false:=by
 intro x hx;unfold Au at hx;split at hx
 ·rename_i b;obtain⟨y,a,rfl⟩:=cN.1 hx;exact ae y (aT.1 b y a)
 ·simp at hx
theorem DI(s:aC):∀x∈(pZ s).1,∀c∈x,eW c=false:=by
 intro x hx;unfold pZ at hx;split at hx
 ·simp at hx
 ·exact Me s x hx
theorem B3(s:aC):∀c∈(Aq s).1,eW c=false:=by
 intro c a;unfold Aq at a;split at a
 ·simp at a
 ·split at a
  ·exact Hv _ (Me s) c a
  ·split at a
   ·simp at a
   ·rcases aS.1 a with a|a
    ·rcases aS.1 a with a|a
     ·exact Hv _ (DI _) c a
     ·have b:c=58:=by simpa using a
      rw [b];decide
    ·exact Hv _ (DI _) c a
theorem A1(s:aC):((dZ s).1).any eW=false:=by
 refine jw _ fun c a=> ?_;unfold dZ at a;split at a
 ·split at a
  ·rcases aS.1 a with a|a
   ·rcases aS.1 a with a|a
    ·rw [aE.1 a];decide
    ·exact B3 _ c a
   ·rw [aE.1 a];decide
  ·simp at a
 ·split at a
  ·rename_i b;unfold jQ at b;simp only [fS]at b;rcases TE 46 gW s (fun x hx=>(nC x (by rw [<-yT];exact aT.1 b.1.2 x hx)).2.2) c a with h|h
   ·exact sw c h
   ·rw [h];decide
  ·split at a
   ·rename_i b;unfold RV at b;simp only [fS]at b;obtain⟨d,e,rfl⟩:=cN.1 a;rcases TE 46 lQ s (fun x hx=>by have:=aT.1 b.1.2 x hx;unfold Pw at this;simp only [fS]at this;exact this.2) d e with h|h
    ·exact py d h
    ·rw [h];decide
   ·simp at a
def Te(v:aC):Bool:=(dZ v).2&&decide ((dZ v).1=v)&&(at_ v 0==91)
def Rh(pre:List PP)(p:PP):Bool:=eY p.1&&decide (dH p.1=p.1)&& !(pre.any fun q=>q.1==p.1)
def On(p:PP):Bool:=bif p.2.2 then !p.2.1.any eW else decide (p.2.1=[])
def tL(p:PP):aC:=bif p.2.2 then 61::(bif eY p.2.1||Te p.2.1 then p.2.1 else jA p.2.1)else []
def mZ:List PP->List PP->Option aC
 |_,[]=>some []
 |pre,p::r=>bif Rh pre p&&On p then(mZ (pre++[p]) r).map fun t=>59::(p.1++(tL p++t))else none
def iP(l:List PP):aC×UInt8:=if 16<aR l then([],2)else match mZ [] l with|some t=>(t,0)|none=>([],2)
theorem ti(v:aC)(h:Te v=true):v.any eW=false:=by unfold Te at h;simp only [fS,aV]at h;rw [<-h.1.2];exact A1 v
theorem MG(v:aC)(h:(dZ v).2=true)(a:(dZ v).1=v):v≠[]:=by intro e;subst e;exact absurd h aA1
theorem JQ(p:PP)(a:aR p.2.1<=4194304):(tL p).length<=8388611:=by
 have:=rH p.2.1;unfold tL;cases p.2.2 with
 |false=>simp
 |true=>
  rw [aL,bR];cases(eY p.2.1||Te p.2.1)with
  |true=>rw [aL];omega
  |false=>rw [aG];omega
theorem pp_lp(l:List PP)(J:aR l<=16)(G:∀p∈l,aR p.1<=4194304/\p.2.1.length<=4194304)(r:List PP):∀(pre:List PP) (b:Nat) (out:aC),l=pre++r->aR r<b->aR out<=aR pre*16000000->
  xz FU l b (aR pre:Int) () out=some (match mZ pre r with|some t=>.inl ((),out++t)|none=>.inr ([],2)):=by
 induction r with
 |nil=>intro pre b out h B E;obtain⟨b,rfl⟩:=dY b;rw [gA]at h;rw [apo,aha,aA aE6];simp [mZ]
 |cons p r D=>
  intro pre b out h B E;obtain⟨b,rfl⟩:=dY b;have n:=bD aR h;simp only [bM,bR]at n B;have g:(0:Int)<=(aR pre:Int)/\(aR pre:Int)<(aR l:Int):=aA0;have F:el l (aR pre:Int)=p:=aB4;have x:nZ (aZ (aR pre:Int)) l=pre:=aA7
  have c:=G p aA7;have H:=JQ p c.2;have f:bZ ((aR pre:Int)+1):=eT _ bJ bJ;have next:∀o:aC,o=out++(59::(p.1++tL p))->Rh pre p=true->On p=true->xz FU l b ((aR pre:Int)+1) () o=some (match mZ pre (p::r)with|some t=>.inl ((),out++t)|none=>.inr ([],2)):=by
   intro o m w k;have s:=D (pre++[p]) b o aA7 bJ (by rw [m];simp only [bM,bR,eO];omega);rw [show((pre++[p]).length:Int)=(aR pre:Int)+1 by simp]at s;rw [s,mZ,w,k,Ig,aL];cases mZ (pre++[p]) r with
   |none=>rfl
   |some t=>rw [m];simp
  have a:Rh pre p=false\/On p=false->mZ pre (p::r)=none:=by
   rintro(h|h)
   ·rw [mZ,h];rfl
   ·rw [mZ,h,L7];rfl
  rw [apo,aha,aB g.2,bA g,bA g,F,js _ bJ,aY];cases w:eY p.1 with
  |false=>rw [a (.inl (by unfold Rh;rw [w];rfl))];rfl
  |true=>
   rw [jM,aG,N6 _ c.1,aY];by_cases k:p.1=dH p.1
   ·rw [aB k,bA bJ,x,Mb pre bJ,aY,aY];cases C:pre.any fun q=>q.1==p.1 with
    |true=>rw [a (.inl (by unfold Rh;rw [C];simp))];rfl
    |false=>
     have A:Rh pre p=true:=by unfold Rh;rw [w,C,aK k.symm];rfl
     rw [aG,bA aB0];unfold Ym;rw [bA aA8,aY];simp only;cases j:p.2.2 with
     |false=>
      rw [xI,aL];by_cases d:p.2.1=[]
      ·have z:On p=true:=by unfold On;rw [j,aG];exact aK d
       rw [aB d,bA f];refine next _ ?_ A z
       have:tL p=[]:=by unfold tL;rw [j];rfl
       rw [this];simp
      ·have z:On p=false:=by unfold On;rw [j,aG];exact aO d
       rw [aA d,a (.inr z)]
     |true=>
      have i:On p= !p.2.1.any eW:=by unfold On;rw [j];rfl
      rw [jM,aG,vk _ c.2,aY,js _ bJ,aY];have e:(bif (!eY p.2.1)then(bif (dZ p.2.1).2 then(if(dZ p.2.1).1=p.2.1 then(gd (0<=(0:Int)/\(0:Int)<(aR p.2.1:Int))<|some (!decide ((at_ p.2.1 (0:Int))=(91:UInt8))))else some true)else some true)else some false)=some (!(eY p.2.1||Te p.2.1)):=by
       unfold Te;cases eY p.2.1 with
       |true=>rfl
       |false=>
        rw [xI,aL,eD];cases v:(dZ p.2.1).2 with
        |false=>rfl
        |true=>
         rw [aL,Ig];by_cases u:(dZ p.2.1).1=p.2.1
         ·have:=bK.2 (MG p.2.1 v u);rw [aB u,aK u,bA bJ,Ig];rfl
         ·rw [aA u,aO u];rfl
      rw [e,aY];cases d:(eY p.2.1||Te p.2.1)with
      |true=>
       have y:p.2.1.any eW=false:=by
        rcases Bool.or_eq_true_iff.1 d with h|h
        ·exact ZR _ h
        ·exact ti _ h
       rw [jM,aG,aY,pR,bA aB0,bA aA8,aY,bA f];refine next _ ?_ A (by rw [i,y];rfl)
       have:tL p=61::p.2.1:=by unfold tL;rw [j,d];rfl
       rw [this];simp
      |false=>
       rw [xI,aL,Jt _ c.2,aY];unfold AM;have I:=rH p.2.1;cases v:p.2.1.any eW with
       |true=>rw [aB rfl,aA (show¬((5:UInt8)=0)by decide),aY,Yd,a (.inr (by rw [i,v];rfl))]
       |false=>
        rw [aA (show¬(false=true)by decide),aB rfl,aY,pR];simp only;rw [bA aB0,bA aA8,aY,bA f];refine next _ ?_ A (by rw [i,v];rfl)
        have:tL p=61::jA p.2.1:=by unfold tL;rw [j,d];rfl
        rw [this];simp
   ·rw [aA k,aY,aL,a (.inl (by unfold Rh;rw [aO (fun h=>k h.symm)];simp))]
theorem Vo:∀(r pre:List PP) (t:aC),(∀p∈r,aR p.1<=4194304/\p.2.1.length<=4194304)->mZ pre r=some t->aR t<=aR r*16000000
 |[],_,t,_,h=>by simp [mZ]at h;subst h;simp
 |p::r,pre,t,c,h=>by
  rw [mZ]at h;cases b:Rh pre p&&On p with
  |false=>rw [b]at h;cases h
  |true=>rw [b,aL,M2]at h;obtain⟨u,d,rfl⟩:=h;have:=Vo r _ u (fun q e=>c q (fB _ e)) d;have a:=c p fQ;have f:=JQ p a.2;simp only [bR,bM];omega
theorem axy(l:List PP)(b:∀p∈l,aR p.1<=4194304/\p.2.1.length<=4194304):SH FU l=some (iP l):=by
 unfold SH iP;by_cases h:16<aR l
 ·rw [aB bJ,aB h]
 ·have:=pp_lp l bJ b l [] FU [] aA2 aA6 aA2;have a:xz FU l FU (0:Int) () []=_:=this;rw [aA bJ,aA h,a,aY];cases c:mZ [] l with
  |none=>rfl
  |some t=>have:=Vo l [] t b c;rw [pR];simp only [mQ];rw [bA bJ]
open Go.Op renaming bytesLess → uH
theorem zy(pre:List PP)(nm:aC):(Ea pre nm=0)↔((pre.any fun q=>q.1==nm)=false/\pre.length<16):=by
 unfold Ea;cases pre.any fun q=>q.1==nm with
 |true=>simp
 |false=>
  rw [aA (show¬(false=true)by decide)];by_cases h:16<=pre.length
  ·rw [aB h];simp;omega
  ·rw [aA h];simp;omega
theorem Vm(x:PP):(x.1,x.2.1,x.2.2)=x:=rfl
theorem rT:∀x y:aC,uH x y= !(uH y x||y==x)
 |[],[]=>rfl
 |[],b::y=>rfl
 |a::x,[]=>rfl
 |a::x,b::y=>by
  have i:=rT x y;rw [uH,uH,i];rcases Nat.lt_trichotomy a.toNat b.toNat with h|h|h
  ·have d:a<b:=h;have g:¬b<a:=by rw [M1];omega
   have c:¬a=b:=fun e=>by subst e;omega
   have f:(b::y==a::x)=false:=by simp;intro e;exact absurd e.symm c
   rw [f];simp [d,g,c];exact .inl fun e=>c e.symm
  ·have e:a=b:=oD.1 h;subst e;have d:¬a<a:=by rw [M1];omega
   have f:(a::y==a::x)=(y==x):=by simp [List.cons_beq_cons]
   rw [f];simp [d]
  ·have d:b<a:=h;have g:¬a<b:=by rw [M1];omega
   have c:¬a=b:=fun e=>by subst e;omega
   simp [d,g,c]
def B2(a b:aC):Bool:= !(uH a b||a==b)
def Dj(x:PP):List PP->List PP
 |[]=>[x]
 |a::V=>bif B2 a.1 x.1 then a::Dj x V else x::a::V
def nO(x:PP)(l:List PP):List PP:=(Dj x l.reverse).reverse
theorem QN(x a:PP)(l:List PP):nO x (l++[a])=bif B2 a.1 x.1 then nO x l++[a]else l++[a,x]:=by unfold nO;rw [List.reverse_append,JA,Yf,Dj];cases B2 a.1 x.1<;>simp
theorem CO(x:PP):∀V:List PP,(Dj x V).length=V.length+1
 |[]=>rfl
 |a::V=>by
  rw [Dj];cases B2 a.1 x.1 with
  |true=>rw [aL,bR,CO x V,bR]
  |false=>rfl
theorem CQ(x:PP)(l:List PP):(nO x l).length=l.length+1:=by unfold nO;rw [List.length_reverse,CO,List.length_reverse]
theorem Lv(x y:PP):∀V:List PP,y∈Dj x V->y=x\/y∈V
 |[],h=>by left;simpa [Dj] using h
 |a::V,h=>by
  rw [Dj]at h;cases b:B2 a.1 x.1 with
  |true=>
   rw [b,aL]at h;rcases aP.1 h with rfl|h
   ·right;simp
   ·rcases Lv x y V h with h|h
    ·exact .inl h
    ·right;simp [h]
  |false=>
   rw [b,aG]at h;rcases aP.1 h with rfl|h
   ·left;rfl
   ·right;exact h
theorem ZU(x y:PP)(l:List PP)(h:y∈nO x l):y=x\/y∈l:=by
 unfold nO at h;rcases Lv x y _ (List.mem_reverse.1 h)with h|h
 ·exact .inl h
 ·exact .inr (List.mem_reverse.1 h)
def dW(l:List PP):List PP:=l.foldl (fun out x=>nO x out) []
theorem DN:∀(q p:List PP),(q.foldl (fun out x=>nO x out) p).length=p.length+q.length
 |[],p=>by simp
 |a::q,p=>by rw [oG,DN q,CQ,bR];omega
theorem DM(y:PP):∀(q p:List PP),y∈q.foldl (fun out x=>nO x out) p->y∈p\/y∈q
 |[],p,h=>.inl h
 |a::q,p,h=>by
  rw [oG]at h;rcases DM y q _ h with h|h
  ·rcases ZU a y p h with h|h
   ·right;simp [h]
   ·exact .inl h
  ·right;simp [h]
theorem tZ(l:List PP):(dW l).length=l.length:=by unfold dW;rw [DN];simp
theorem vn(l:List PP)(y:PP)(h:y∈dW l):y∈l:=by
 rcases DM y l [] h with h|h
 ·simp at h
 ·exact h
open List renaming length → aR, set → jV
def bq(a b:aC):Int:=bif uH a b then-1 else bif !(uH a b||a==b)then 1 else 0
theorem qm(fu:Nat)(x y:PP):apb fu x y=some (bq x.1 y.1):=by
 unfold apb ali aoz bq;rw [aY,aY,aK rfl,aK rfl,jM,aG,aG];cases uH x.1 y.1 with
 |true=>rfl
 |false=>rw [aG,aG];cases(!(false||x.1==y.1))<;>rfl
theorem te(a b:aC):decide (bq a b<0)=uH a b:=by
 unfold bq;cases uH a b with
 |true=>rfl
 |false=>rw [aG];cases(!(false||a==b))<;>rfl
theorem bp(x:List PP)(hx:aR x<=4194304)(q:List PP):∀(p:List PP) (b:Nat),x=p++q->aR q<b->
  yi FU x b (aR p:Int) p=some (x,0):=by
 induction q with
 |nil=>intro p b h e;obtain⟨b,rfl⟩:=dY b;rw [gA]at h;subst h;rw [abg,aao,aA bJ]
 |cons a q f=>intro p b h e;obtain⟨b,rfl⟩:=dY b;have d:=bD aR h;simp only [bM,bR]at d e;have c:(0:Int)<=(aR p:Int)/\(aR p:Int)<(aR x:Int):=aA0;have g:el x (aR p:Int)=a:=aB4;rw [abg,aao,aB c.2,bA c,bA c,g];unfold abq;simp only [Vm];rw [bA aB0,aY,aB rfl,bA (eT _ bJ bJ)];have:=f (p++[a]) b aA7 bJ;rw [show((p++[a]).length:Int)=(aR p:Int)+1 by simp]at this;exact this
theorem IB(x:List PP)(hx:aR x<=4194304):acl FU x=some x:=by have:=bp x hx x [] FU aA2 aA6;unfold acl adj aaz;have a:yi FU x FU (0:Int) []=_:=this;rw [a,aY,aB rfl];rfl
theorem jf(P S:List PP)(x:PP):el (P++x::S) (aR P:Int)=x:=by simp [el]
theorem y4(n:Nat):∀(P S:List PP) (x:PP) (c:Nat),aR P=n->n<c->aR P+aR S<=1048575->
  abf FU 0 c (P++x::S) (aR P:Int)=some (nO x P++S):=by
 induction n with
 |zero=>intro P S x c h t l;obtain⟨c,rfl⟩:=dY c;obtain rfl:P=[]:=Fp h;rw [adi,abd,aA aA2];rfl
 |succ n q=>
  intro P S x c h t l;obtain⟨c,rfl⟩:=dY c;rcases vO P with rfl|⟨b,a,rfl⟩
  ·simp at h
  ·simp only [vQ]at*;have p:aR b=n:=by simp at h;omega
   have u:(((b++[a]).length:Int)-1)=(aR b:Int):=aA2;have r:el (b++[a]++x::S) ((b++[a]).length:Int)=x:=jf _ _ _;have m:el (b++[a]++x::S) (aR b:Int)=a:=by rw [gJ];exact jf b (x::S) a
   have d:(b++[a]++x::S).length=aR b+2+aR S:=aA5;have o:(0:Int)<=((b++[a]).length:Int)/\((b++[a]).length:Int)<((b++[a]++x::S).length:Int):=by rw [d];simp;omega
   have g:(0:Int)<=(aR b:Int)/\(aR b:Int)<((b++[a]++x::S).length:Int):=by rw [d];omega
   have k:bZ (aR b:Int):=eT _ bJ (by simp at l;omega);have j:((b++[a]).length:Int).toNat=aR b+1:=aA2;have i:((aR b:Nat):Int).toNat=aR b:=aA0;rw [adi,abd,u];simp only [r,m,Vm,qm,aY,te,bA o,bA g,bA k];rw [aB aB7,aY,rT x.1 a.1,QN];have s:(!(uH a.1 x.1||a.1==x.1))=B2 a.1 x.1:=rfl;rw [s];cases B2 a.1 x.1 with
   |false=>rw [aG,aG];simp
   |true=>
    have f:jV (b++[a]++x::S) ((b++[a]).length:Int).toNat a=b++a::a::S:=by rw [j,gJ,gE _ _ bJ];simp
    have e:jV (b++a::a::S) ((aR b:Nat):Int).toNat x=b++x::a::S:=by rw [i,gE _ _ bJ];simp
    rw [aL,aL,f,e,bA aA5,bA aA5,q b (a::S) x c p bJ (by simp at l⊢;omega)];simp
theorem y5(R:List PP):∀(P:List PP) (b:Nat) (n:Int),n=((P++R).length:Int)->(P++R).length<=1048575->aR R<b->
  yh FU 0 n b (P++R) (aR P:Int)=some (R.foldl (fun out x=>nO x out) P):=by
 induction R with
 |nil=>intro P b n d f g;obtain⟨b,rfl⟩:=dY b;rw [abt,aaw,aA aD1];simp
 |cons a R h=>intro P b n d f g;obtain⟨b,rfl⟩:=dY b;simp only [bM,bR]at f g;rw [abt,aaw,aB (by rw [d];simp;omega),y4 P.length P R a FU rfl aA6 bJ,aY,bA (eT _ bJ bJ)];have c:=CQ a P;have:=h (nO a P) b n (by rw [d];simp [c];omega) (by simp only [bM,c];omega) bJ;rw [c]at this;have e:((aR P:Int)+1)=((aR P+1:Nat):Int):=rfl;rw [e,this];rfl
theorem qg(l:List PP)(b:aR l<=1048575):yg FU l 0 (aR l:Int)=some (dW l):=by
 unfold yg;rw [bA (eT _ bJ bJ)];cases l with
 |nil=>obtain⟨m,c⟩:∃m,FU=m+1:=⟨FU-1,by rw [iD]⟩;rw [show(yh FU 0 (([]:List PP).length:Int) FU [] (0+1))=yh FU 0 (([]:List PP).length:Int) (m+1) [] (0+1)by rw [<-c]];rw [abt,aaw,aA aA2];rfl
 |cons a l=>have:=y5 l [a] FU ((a::l).length:Int) rfl b (by rw [iD];simp at b;omega);exact this
open Go.Lib renaming cut → cW, index → cE
open List renaming isPrefixOf → Ou
theorem Jg(l:List PP)(d:l.length<20):yf FU l=some (dW l):=by
 unfold yf abw;obtain⟨m,a⟩:∃m,FU=m+1:=⟨FU-1,by rw [iD]⟩
 have c:abc FU (l.length:Int) FU l (0:Int) (20:Int)=some (l,0):=by
  have:∀k,abc FU (l.length:Int) (k+1) l (0:Int) (20:Int)=some (l,0):=fun k=>by rw [aji,acj,aA bJ]
  have:=this m;rw [<-a]at this;exact this
 have b:abb FU (l.length:Int) FU (dW l) (20:Int)=some (dW l):=by
  have:∀k,abb FU (l.length:Int) (k+1) (dW l) (20:Int)=some (dW l):=fun k=>by rw [ajh,aci,aA bJ]
  have:=this m;rw [<-a]at this;exact this
 rw [c,aY];simp only;rw [qg l bJ,aY,b];rfl
theorem OR:abx FU=yf FU:=by kernel_rfl
theorem tO(l:List PP)(a:l.length<20):SF FU l=some (dW l):=by unfold SF akd aba;rw [aY,IB l bJ,aY,OR,Jg l a];rfl
theorem CS(c:UInt8):∀v:aC,(cE v [c]= -1/\∀b∈v,b≠c)\/(∃f a,v=f++c::a/\(∀b∈f,b≠c)/\cE v [c]=(f.length:Int))
 |[]=>.inl ⟨rfl,aA2⟩
 |b::l=>by
  rw [ayy];have e:([c]:aC).isPrefixOf (b::l)=(c==b):=by simp [Ou]
  rw [e];by_cases h:b=c
  ·subst h;right;exact⟨[],l,rfl,aA2,by rw [aB aA2];rfl⟩
  ·rw [aA (by simpa using fun x=>h x.symm)];rcases CS c l with⟨g,d⟩|⟨f,a,g,d,i⟩
   ·left;rw [aB g];exact⟨rfl,fun x hx=>by rcases aP.1 hx with rfl|hx;exact h;exact d x hx⟩
   ·right;refine⟨b::f,a,by rw [g];rfl,fun x hx=>by rcases aP.1 hx with rfl|hx;exact h;exact d x hx, ?_⟩;rw [aA bJ,i,bR];omega
def Ag(v:aC):Bool:=eY (cW v [47]).1&&(!(cW v [47]).2.2||eY (cW v [47]).2.1)
theorem zg:cB 47=false:=aA1
theorem oQ(p:UInt8->Bool)(l:aC):l.all p=decide (dQ p l=l.length):=by have:=qX p l;rw [M3,aV];exact this.symm
theorem Qq(p:UInt8->Bool):∀(f:aC) (c:UInt8) (b:aC),f.all p=false->dQ p (f++c::b)<f.length/\p (at_ (f++c::b) (dQ p (f++c::b):Int))=false
 |[],c,b,h=>by cases h
 |a::f,c,b,h=>by
  cases d:p a with
  |false=>rw [Bo,cz p a _ d];exact⟨aA2,by simpa [at_] using d⟩
  |true=>
   rw [Ej,d,Ig]at h;have g:=Qq p f c b h;have e:dQ p (a::f++c::b)=dQ p (f++c::b)+1:=by rw [Bo,dQ,aB d]
   rw [e];refine⟨by rw [bR];omega, ?_⟩;have:=g.2;simpa [at_] using this
theorem CJ(v:aC):Ag v=decide (v≠[]/\kP v=v.length):=by
 unfold Ag kP;rw [ayl,wP];have w:=FN cB v;rcases CS 47 v with⟨i,p⟩|⟨f,g,i,p,y⟩
 ·rw [aB i];simp only [xI,lX,Bool.and_true];have j:fJ v (dQ cB v) 47=false:=by
   cases h:fJ v (dQ cB v) 47 with
   |false=>rfl
   |true=>have:=Nu h;exact absurd this.2 (p _ (at_mem v _ this.1))
  rw [j,aA (show¬(false=true)by decide)];unfold eY;rw [oQ,M3];simp only [fS,cP,Qg,aV];constructor
  ·rintro⟨a,b⟩;have:=bK.2 a;exact⟨a,by rw [aA bJ];exact b⟩
  ·rintro⟨a,b⟩;have:=bK.2 a;refine⟨a, ?_⟩;split at b
   ·omega
   ·exact b
 ·rw [aA bJ,y];have z:((f.length:Nat):Int).toNat=f.length:=by omega
  have A:v.take f.length=f:=by rw [i,Ov]
  have s:v.drop (f.length+([47]:aC).length)=g:=by rw [i,eL,show f++47::g=(f++[47])++g by simp,show f.length+1=(f++[47]).length by simp,Fq]
  rw [z,A,s];simp only [jM,eD];have m:v.length=f.length+1+g.length:=by rw [i];simp;omega
  have o:v≠[]:=by intro e;rw [e,eO]at m;omega
  cases k:f.all cB with
  |false=>
   have d:=Qq cB f 47 g k;rw [<-i]at d;have j:fJ v (dQ cB v) 47=false:=by
    cases h:fJ v (dQ cB v) 47 with
    |false=>rfl
    |true=>
     exfalso;have r:=(Nu h).2;have u:at_ v (dQ cB v:Int)∈f:=by
      have:at_ v (dQ cB v:Int)=at_ f (dQ cB v:Int):=by rw [i];simp only [at_,bP];rw [aH (by rw [<-i];omega)]
      rw [this];exact at_mem f _ d.1
     exact p _ u r
   have t:eY f=false:=by unfold eY;rw [k,L7]
   rw [t,Bool.false_and,j,aA (show¬(false=true)by decide)];symm;rw [bU];rintro⟨_,b⟩;split at b<;>omega
  |true=>
   have d:dQ cB v=f.length:=by rw [i,N4 cB f _ k,cz cB 47 g zg];omega
   have kX:at_ v ((f.length:Nat):Int)=47:=by rw [i,kH]
   have j:fJ v (dQ cB v) 47=true:=by unfold fJ;rw [d,kX,aK bJ];rfl
   have n:cD cB v ((f.length+1:Nat):Int)=f.length+1+dQ cB g:=by
    unfold cD;rw [jx _ _ bJ];have:v.drop (f.length+1)=g:=by rw [<-s,eL]
    rw [this]
   rw [j,aB rfl,d,n];unfold eY;rw [k,Bool.and_true,oQ];have x:=FN cB g;rw [M3];simp only [fS,cP,Qg,aV];constructor
   ·rintro⟨a,b,c⟩;have r:=bK.2 a;have B:=bK.2 b;refine⟨o, ?_⟩;rw [aA bJ,aA bJ];omega
   ·rintro⟨_,b⟩;by_cases q:f.length=0
    ·rw [aB q]at b;omega
    ·rw [aA q]at b;by_cases l:f.length+1+dQ cB g=f.length+1
     ·rw [aB l]at b;omega
     ·rw [aA l]at b;exact⟨fun e=>q aE9,fun e=>by rw [e]at l;simp [dQ]at l,aA0⟩
theorem Vn(l:List PP)(b:∀p∈l,p.1.length<=4194304/\p.2.1.length<=4194304):(iP l).1.length<=256000000:=by
 unfold iP;split
 ·simp
 ·rename_i h;cases a:mZ [] l with
  |none=>simp
  |some t=>have:=Vo l [] t b a;simp only;omega
def Oq(x:aC×List PP):aC×UInt8:=if Ag x.1=true/\(iP (dW x.2)).2=0 then(x.1++(iP (dW x.2)).1,0)else([],2)
theorem BI(l:List PP)(h:16<l.length):SH FU l=some ([],2):=by unfold SH;rw [aB bJ]
theorem Vj(x:aC×List PP)(t:x.1.length<=4194304)(q:x.2.length<=19)(n:∀p∈x.2,p.1.length<=4194304/\p.2.1.length<=4194304):aox FU x=some (Oq x):=by
 have b:∀p∈dW x.2,p.1.length<=4194304/\p.2.1.length<=4194304:=fun p k=>n p (vn _ p k);have m:=tZ x.2;have j:=Vn (dW x.2) b;have s:=Xb x.1 [47];unfold aox Oq;rw [bA bJ,js _ bJ,aY];have e:(bif (!eY (cW x.1 [47]).1)then some true else(bif ((cW x.1 [47]).2.2)then((TK FU ((cW x.1 [47]).2.1)).bind fun(f:Bool)=>some (!f))else some false))=some (!Ag x.1):=by unfold Ag;rw [js _ bJ];cases eY (cW x.1 [47]).1<;>cases(cW x.1 [47]).2.2<;>simp
 rw [e,aY];cases r:Ag x.1 with
 |false=>rw [xI,aL,aA (fun h=>absurd h.1 aA1)]
 |true=>
  rw [jM,aG];obtain⟨y,g,i⟩:∃y,((SF FU x.2).bind fun(d:List PP)=>((SH FU d).bind fun(a:(aC×UInt8))=>(if a.2=(0:UInt8)then(gd (x.1.length+a.1.length<=9223372036854775807)<|some (x.1++a.1,(0:UInt8)))else some (([]:aC),(2:UInt8)))))=(if(iP (dW x.2)).2=(0:UInt8)then(gd (x.1.length+(iP (dW x.2)).1.length<=9223372036854775807)<|some (x.1++(iP (dW x.2)).1,(0:UInt8)))else some (([]:aC),(2:UInt8)))/\y=0:=by
   refine⟨0, ?_,rfl⟩;by_cases o:16<x.2.length
   ·have l:iP (dW x.2)=([],2):=by unfold iP;rw [aB bJ]
    rw [tO x.2 bJ,aY,BI _ bJ,aY,l]
   ·rw [tO x.2 bJ,aY,axy _ b,aY]
  rw [g];by_cases c:(iP (dW x.2)).2=0
  ·rw [aB c,bA bJ,aB ⟨rfl,c⟩]
  ·rw [aA c,aA (fun h=>c h.2)]
theorem Kf(s:aC):∀(f:Nat) (l:List PP) (i:Nat),l.length<=16->(lP s f l i).1.length<=16
 |0,_,_,_=>by simp [lP]
 |f+1,l,i,h=>by
  rw [lP];split
  ·exact h
  ·split
   ·simp
   ·split
    ·split
     ·rename_i b;have a:=((zy l _).1 b).2;exact Kf s f _ _ aA8
     ·simp
    ·simp
theorem Sd(v:aC):(Tg v).1.2.length<=16:=by
 unfold Tg;split
 ·simp
 ·split
  ·exact Kf _ _ _ _ aA2
  ·simp
end Go.Wk
set_option maxRecDepth 20000
namespace Go.Wk
open Go.Px
open List renaming length → aR
variable {c:UInt8}
theorem bc(h:gW c=false):c<48\/(57:UInt8)<c:=by
 by_cases b:c<48
 ·exact .inl b
 ·by_cases a:(57:UInt8)<c
  ·exact .inr a
  ·exfalso;have:gW c=true:=by rw [pB];rw [M1]at b a;have e:(48:UInt8).toNat=48:=rfl;have d:(57:UInt8).toNat=57:=rfl;omega
   rw [this]at h;cases h
theorem F4(h:gW c=true):(c-48).toNat=c.toNat-48/\¬c<48/\¬(57:UInt8)<c/\c.toNat<=57:=by
 have b:=(pB c).1 h;refine⟨?_, ?_, ?_,aA0⟩
 ·have a:(48:UInt8)<=c:=by rw [vN];show 48<=c.toNat;omega
  rw [UInt8.toNat_sub_of_le _ _ a];rfl
 ·rw [M1];show¬c.toNat<48;omega
 ·rw [M1];show¬57<c.toNat;omega
def gX(s:aC):Int×UInt8:=
 if s.length<1\/10<aR s\/s.all gW=false then(0,5)else if 2147483647<vK s then(0,3)else((vK s:Int),0)
theorem GY(s:aC)(t:aR s<=18)(l:aC):∀(p:aC) (a:Nat),s=p++l->aR l<a->p.all gW=true->
  akg FU s a (vK p:Int) (aR p:Int)=some (if l.all gW=true then .inl (vK s:Int)else .inr ((0:Int),(5:UInt8))):=by
 induction l with
 |nil=>intro p a h i f;obtain⟨a,rfl⟩:=dY a;rw [gA]at h;subst h;rw [aqi,ajl,aA bJ];rfl
 |cons c l o=>
  intro p a h i f;obtain⟨a,rfl⟩:=dY a;have b:(0:Int)<=(aR p:Int)/\(aR p:Int)<(aR s:Int):=by rw [h,bM,bR];omega
  have j:at_ s (aR p:Int)=c:=by rw [h,kH]
  simp only [bR]at i;cases d:gW c with
  |false=>
   rw [aqi,ajl,aB b.2,bA b,j,Ej,d,Bool.false_and,aA (show¬false=true by decide)];rcases bc d with g|g
   ·rw [aB g,aY,aL]
   ·by_cases k:c<48
    ·rw [aB k,aY,aL]
    ·rw [aA k,bA b,aK g,aY,aL]
  |true=>
   obtain⟨hx,n,m,q⟩:=F4 d;have r:=Dw 17 p (by have:=bD aR h;rw [bM,bR]at this;omega) f;rw [aqi,ajl,aB b.2,bA b,j,aA n,bA b,aO m,aY,aG,hx,bA (eT _ bJ bJ),bA b,bA (eT _ bJ bJ),bA (eT _ bJ bJ)];have e:(10:Int)*(vK p:Int)+((c.toNat-48:Nat):Int)=(vK (p++[c]):Int):=by rw [azz];omega
   rw [e,N2 p c,Ej,d,Ig];exact o (p++[c]) a aA7 bJ (by rw [oH,f];simpa using d)
theorem tV(s:aC):jz FU s=some (gX s):=by
 unfold jz gX;by_cases c:aR s<1
 ·rw [aB bJ,aY,aL,aB (.inl c)]
 ·rw [aA bJ,aY];by_cases b:10<aR s
  ·rw [aK bJ,aL,aB (.inr (.inl b))]
  ·rw [aO bJ,aG];have:=GY s bJ s [] FU aA2 aA6 aA2;change akg FU s FU (0:Int) (0:Int)=_ at this;rw [this,aY];cases d:s.all gW with
   |false=>rw [aA (show¬false=true by decide),Yd,aB (.inr (.inr rfl))]
   |true=>
    rw [aB rfl,pR,aA (show¬(aR s<1\/10<aR s\/true=false)by rintro(h|h|h)<;>first|omega|cases h)];by_cases a:2147483647<vK s
    ·rw [aB bJ,aB a]
    ·rw [aA bJ,aA a]
def kO(s:aC):Int×UInt8:=if(gX s).2=0/\((gX s).1<1\/65535<(gX s).1)then(0,3)else gX s
end Go.Wk
set_option maxRecDepth 100000
namespace Go.Wk
open Go.Px
open Go.Lib renaming itoa → dO
open UInt8 renaming ofNat → Fo
theorem su:∀n:Fin 10,gW (Fo (48+n.val))=true/\(Fo (48+n.val)).toNat-48=n.val/\sub ([48,49,50,51,52,53,54,55,56,57]:aC) (n.val:Int) ((n.val:Int)+1)=[Fo (48+n.val)]:=aA3
theorem HW(n:Nat)(h:n<10):gW (Fo (48+n))=true/\(Fo (48+n)).toNat-48=n/\sub ([48,49,50,51,52,53,54,55,56,57]:aC) (n:Int) ((n:Int)+1)=[Fo (48+n)]:=su ⟨n,h⟩
theorem ji:∀(k n:Nat),n<10^(k+1)->(Lib.decDigits n).all gW=true/\vK (Lib.decDigits n)=n/\1<=(Lib.decDigits n).length/\(Lib.decDigits n).length<=k+1:=by
 intro k;induction k with
 |zero=>intro n h;have h:n<10:=aA9;have:=HW n h;rw [Lib.decDigits,dif_pos h];refine⟨by simpa using this.1, ?_,aA2,aA2⟩;show 10*0+_=n;omega
 |succ k c=>
  intro n h;rw [Lib.decDigits];by_cases a:n<10
  ·have:=HW n a;rw [dif_pos a];refine⟨by simpa using this.1, ?_,aA2,aA2⟩;show 10*0+_=n;omega
  ·have b:=HW (n%10) (Nat.mod_lt _ aA1);have:=c (n/10) (by rw [Nat.pow_succ]at h;omega);rw [dif_neg a];refine⟨by rw [oH,this.1];simpa using b.1, ?_,aA2,by simp;omega⟩;rw [azz,this.2.1,b.2.1];omega
theorem CI(n:Nat):dO (n:Int)=Lib.decDigits n:=by unfold dO;rw [aA aA0,iY]
theorem alt(n:Int)(e:0<=n)(h:n<=65535):gX (dO n)=(n,0)/\1<=(dO n).length/\(dO n).length<=5/\(dO n).all gW=true:=by obtain⟨m,rfl⟩:∃m:Nat,n=(m:Int):=⟨n.toNat,aA0⟩;obtain⟨a,d,c,b⟩:=ji 4 m aA0;rw [CI];refine⟨?_,c,b,a⟩;unfold gX;rw [a,d,aA (by rintro(h|h|h)<;>first|omega|cases h),aA aA0]
open Int renaming toNat → aZ
open List renaming drop → bN, length → aR, take → nZ
abbrev VV:=aC×aC×Int×aC×List PP
def vU:VV:=([],[],0,[],[])
def Aw:aC:=[83,73,80,47,50,46,48,47]
def TN:aC:=[98,114,97,110,99,104]
def jH(s:aC):aC:=s.map Tm
theorem vY(s:aC):(jH s).length=aR s:=by unfold jH;exact Hb ..
theorem VH(s:aC)(g:aR s<=9223372036854775807)(l:aC):∀(p:aC) (a:Nat),aR p+aR l=aR s->aR l<a->
  acu FU s a (p++l) (aR p:Int)=some (p++l.map Tm):=by
 induction l with
 |nil=>intro p a d e;obtain⟨a,rfl⟩:=dY a;simp only [eO]at d;rw [ahq,acq,aA bJ];rfl
 |cons c l f=>intro p a d e;obtain⟨a,rfl⟩:=dY a;simp only [bR]at d e;have b:=Wa p c l;rw [ahq,acq,aB bJ,bA b,bA b,kH,Ud];simp only [aY];rw [bA b,bA b,bA (eT _ bJ bJ),Hg,N2 p (Tm c),f (p++[Tm c]) a aB7 bJ];simp
theorem Ip(s:aC)(a:aR s<=9223372036854775807):yc FU s=some (jH s):=by unfold yc;have:=VH s a s [] FU aA2 aA6;simp only [mQ,eO,Int.natCast_zero,Int.cast_ofNat_Int]at this;rw [this];rfl
theorem qy(l:List PP)(j:aR l<=4194304)(e:∀p∈l,aR p.1<=4194304)(y:aC)(n:Nat):∀(k a:Nat),k+n=aR l->n<a->
  amn FU l y a (k:Int)=some (match(l.drop k).find? (fun p=>dH p.1==y)with|none=>.inl ()|some p=>.inr (p.2.1,true)):=by
 induction n with
 |zero=>intro k a f g;obtain⟨a,rfl⟩:=dY a;obtain rfl:k=aR l:=aA0;rw [axd,apc,aA bJ,fP];rfl
 |succ n d=>
  intro k a f g;obtain⟨a,rfl⟩:=dY a;have b:k<aR l:=aA0;have c:(0:Int)<=(k:Int)/\(k:Int)<(aR l:Int):=aA0;have i:l.drop k=el l (k:Int)::l.drop (k+1):=by rw [Mq _ _ b,dS b]
  rw [axd,apc,aB c.2,bA c,bA c,N6 _ (e _ (aw l k b)),aY,i,List.find?_cons];by_cases h:dH (el l (k:Int)).1=y
  ·rw [aB h,show(dH (el l (k:Int)).1==y)=true by simpa using h]
  ·rw [aA h,show(dH (el l (k:Int)).1==y)=false by simpa using h,bA (eT _ bJ bJ),Ot,d (k+1) a bJ bJ]
theorem get_eq(l:List PP)(d:aR l<=4194304)(b:∀p∈l,aR p.1<=4194304)(name:aC)(c:aR name<=4194304):atk FU l name=some (wN l name):=by have:=qy l d b (dH name) l.length 0 FU bJ aA6;rw [SR]at this;have a:amn FU l (dH name) FU (0:Int)=_:=this;unfold atk;rw [N6 _ c,aY,a,aY];have e:wN l name=(match l.find? (fun p=>dH p.1==dH name)with|some p=>(p.2.1,true)|none=>([],false)):=rfl;rw [e];cases l.find? (fun p=>dH p.1==dH name)<;>rfl
theorem pD(v:aC)(c:UInt8):Lib.contains v [c]=v.any (·==c):=by
 unfold Lib.contains;rcases CS c v with⟨a,b⟩|⟨f,e,a,b,d⟩
 ·rw [a,aO bJ];symm;rw [dX];intro x hx;simpa using b x hx
 ·rw [d,aK bJ,a];simp
def kF(P:aC):aC×aC×Bool:=
 if jW (·==(58:UInt8)) P<0 then(P,[],false)
 else if((P.take (jW (·==(58:UInt8)) P).toNat).any (·==91)&&(P.drop (jW (·==(58:UInt8)) P).toNat).any (·==93))=true then(P,[],false)
 else(P.take (jW (·==(58:UInt8)) P).toNat,P.drop (jW (·==(58:UInt8)) P+1).toNat,true)
theorem HY(P:aC)(f:aR P<=4194304):aqw FU P=some (kF P):=by
 have b:=tX (·==(58:UInt8)) P;unfold aqw kF;rw [bA bJ];generalize jW (·==(58:UInt8)) P=a at b⊢;by_cases h:a<0
 ·rw [aB h,aY,aL,aB h]
 ·have e:0<=a/\a<(aR P:Int):=by omega
  rw [aA h,aA h,bA bJ,bA aC4,pD,pD];have c:∀o:Option Bool,o=some ((P.take a.toNat).any (·==91)&&(P.drop a.toNat).any (·==93))->(o.bind fun(v:Bool)=>(bif v then some (P,([]:aC),false)else(gd (0<=a/\a<=(aR P:Int))<|(gd (bZ (a+(1:Int)))<|(gd (0<=(a+(1:Int))/\(a+(1:Int))<=(aR P:Int))<|some (nZ (aZ a) P,bN (aZ (a+(1:Int))) P,true))))))=some (if((P.take a.toNat).any (·==91)&&(P.drop a.toNat).any (·==93))=true then(P,[],false)else(P.take a.toNat,P.drop (a+1).toNat,true)):=by
   intro o d;rw [d,aY];cases((P.take a.toNat).any (·==91)&&(P.drop a.toNat).any (·==93))with
   |true=>rfl
   |false=>rw [aG,bA bJ,bA (eT _ bJ bJ),bA bJ,aA (show¬(false=true)by decide)]
  refine c _ ?_;cases(P.take a.toNat).any (·==91)with
  |false=>rfl
  |true=>rw [aL,bA bJ,bA aB9,Ig]
theorem EF(P:aC):(kF P).1.length<=aR P/\(kF P).2.1.length<=aR P:=by
 unfold kF;split
 ·simp
 ·split
  ·simp
  ·simp only [kR,iX];omega
def lA(c:UInt8):Bool:=c==59||cC c
theorem S4:(fun c=>([59,32,9]:aC).contains c)=lA:=by funext c;revert c;exact eA _ aA3
def Bu(c h:aC)(b:Int)(a:aC):VV×UInt8:=if(kV a).2.2=0 then((c,h,b,(wN (kV a).1 TN).1,(kV a).1),0)else(vU,(kV a).2.2)
def Ua(b place a:aC):VV×UInt8:=
 if(dZ (kF place).1).2=false then(vU,5)
 else if(kF place).2.2=true then(if(kO (kF place).2.1).2=0 then Bu b (dZ (kF place).1).1 (kO (kF place).2.1).1 a else(vU,(kO (kF place).2.1).2))
 else Bu b (dZ (kF place).1).1 0 a
def lO(v:aC):VV×UInt8:=
 if(cH v).length<8 then(vU,5)
 else if¬jH ((cH v).take 8)=Aw then(vU,5)
 else if cD cB (cH v) 8=8 then(vU,5)
 else if cD cC (cH v) (cD cB (cH v) 8:Int)=cD cB (cH v) 8 then(vU,5)
 else Ua (jH (sub (cH v) 8 (cD cB (cH v) 8:Int)))
  (((cH v).drop (cD cC (cH v) (cD cB (cH v) 8:Int))).take (dQ (fun c=> !lA c) ((cH v).drop (cD cC (cH v) (cD cB (cH v) 8:Int)))))
  (((cH v).drop (cD cC (cH v) (cD cB (cH v) 8:Int))).drop (dQ (fun c=> !lA c) ((cH v).drop (cD cC (cH v) (cD cB (cH v) 8:Int)))))
theorem Ke(s:aC)(d:aR s<=4194304):∀(f:Nat) (l:List PP) (i:Nat),(∀p∈l,dH p.1=p.1/\p.1.length<=aR s/\p.2.1.length<=90000000)->∀p∈(lP s f l i).1,dH p.1=p.1/\p.1.length<=aR s/\p.2.1.length<=90000000
 |0,_,_,_=>by simp [lP]
 |f+1,l,i,h=>by
  rw [lP];split
  ·exact h
  ·split
   ·simp
   ·split
    ·rename_i e;have c:=qA cC s ((cD cC s (i:Int)+1:Nat):Int);have a:=BJ s d _ c e;split
     ·refine Ke s d f _ _ fun p b=> ?_;rcases aS.1 b with b|b
      ·exact h p b
      ·rw [aE.1 b];exact⟨a.2.2.2.1,a.2.2.2.2.1,a.2.2.2.2.2⟩
     ·simp
    ·simp
theorem vu(s:aC)(a:aR s<=4194304):∀p∈(kV s).1,dH p.1=p.1/\p.1.length<=aR s/\p.2.1.length<=90000000:=Ke s a _ [] 0 aA2
theorem Kd(s:aC):(kV s).1.length<=16:=Kf s _ [] 0 aA2
theorem JO(d h:aC)(b:Int)(a:aC)(e:aR a<=4194304):((kb FU a).bind fun(y:((List PP)×Int×UInt8))=>(if y.2.2=(0:UInt8)then((atk FU y.1 ([98,114,97,110,99,104]:aC)).bind fun(g:(aC×Bool))=>some ((d,h,b,g.1,y.1),(0:UInt8)))else some ((([]:aC),([]:aC),(0:Int),([]:aC),([]:List PP)),y.2.2)))=some (Bu d h b a):=by
 have j:=Kd a;have i:=vu a e;unfold Bu;rw [Cq a e,aY];by_cases c:(kV a).2.2=0
 ·rw [aB c,aB c,get_eq _ bJ (fun p f=>by have:=(i p f).2.1;omega) _ aA1,aY];rfl
 ·rw [aA c,aA c];rfl
theorem KY(y:Int×UInt8):((if y.2=(0:UInt8)then(if y.1<(1:Int)then some true else some (decide ((65535:Int)<y.1)))else some false).bind fun(b:Bool)=>(bif b then some (3:UInt8)else some y.2))=some (if y.2=0/\(y.1<1\/65535<y.1)then 3 else y.2):=by
 by_cases a:y.2=0
 ·rw [aB a];by_cases d:y.1<1
  ·rw [aB d,aB ⟨a,.inl d⟩];rfl
  ·rw [aA d];by_cases c:65535<y.1
   ·rw [aK c,aB ⟨a,.inr c⟩];rfl
   ·rw [aO c,aA (by rintro⟨_,h|h⟩<;>contradiction)];rfl
 ·rw [aA a,aA (fun h=>a h.1)];rfl
theorem lv(v:aC)(C:aR v<=4194304):axv FU v=some (lO v):=by
 have E:=NQ v;unfold axv lO;rw [mA v C,aY];generalize cH v=s at E⊢;by_cases B:aR s<8
 ·rw [aB (show(aR s:Int)<8 by omega),aB B];rfl
 rw [aA (show¬(aR s:Int)<8 by omega),aA B,bA bJ,Ip _ aC4,aY,aY];by_cases q:jH (s.take 8)=Aw
 ·have d:jH (nZ (aZ (8:Int)) s)=([83,73,80,47,50,46,48,47]:aC):=q;have u:=Xt cB s 8 bJ;have l:=qA cB s 8;have m:8<=cD cB s 8:=u;rw [aK d,jM,aG,aA (not_not_intro q),oN s bJ,aY,nT s bJ,aY];generalize cD cB s 8=k at m l⊢;have x:=Xt cC s k l;have w:=qA cC s (k:Int);generalize cD cC s (k:Int)=i at x w⊢;by_cases j:k=8
  ·rw [aB bJ,aY,aL,aB j];rfl
  rw [aA bJ,aY,aA j];by_cases n:i=k
  ·rw [aK bJ,aL,aB n];rfl
  rw [aO bJ,aG,aA n,bA bJ,Ip _ (by rw [show(8:Int)=((8:Nat):Int)from rfl,IJ];omega),aY,bA bJ,iY];have y:(s.drop i).length<=4194304:=aB9;generalize jH (sub s (8:Int) (k:Int))=G;generalize s.drop i=P at y⊢;have e:=dh lA P;have A:=FN (fun c=> !lA c) P;have t:∀o:Option (aC×aC),o=some (P.take (dQ (fun c=> !lA c) P),P.drop (dQ (fun c=> !lA c) P))->∀f:aC×aC->Option (VV×UInt8),o.bind f=f (P.take (dQ (fun c=> !lA c) P),P.drop (dQ (fun c=> !lA c) P)):=fun o D f=>by rw [D];rfl
  rw [t _ (by
   rw [bA ⟨aA0,aA1,aA1⟩,wa,S4];by_cases hx:(0:Int)<=dT lA P
   ·rcases e with h|h
    ·omega
    ·rw [aB hx,bA bJ,bA bJ,h.2.2,iY]
   ·rcases e with h|h
    ·rw [aA hx,h.2,xC,fP]
    ·omega)]
  have g:(P.take (dQ (fun c=> !lA c) P)).length<=4194304:=aC4;have b:(P.drop (dQ (fun c=> !lA c) P)).length<=4194304:=aB9;generalize P.take (dQ (fun c=> !lA c) P)=a at g⊢;generalize P.drop (dQ (fun c=> !lA c) P)=z at b⊢;have F:=EF a;unfold Ua;simp only;rw [HY a g,aY,vk _ bJ,aY];cases H:(dZ (kF a).1).2 with
  |false=>rfl
  |true=>
   rw [jM,aG,aA (show¬(true=false)by decide)];cases I:(kF a).2.2 with
   |false=>rw [aG,aY,pR,JO _ _ _ _ b,aA (show¬(false=true)by decide)]
   |true=>
    rw [aL,tV,aY,KY,aY,aB rfl];unfold kO;by_cases p:(gX (kF a).2.1).2=0/\((gX (kF a).2.1).1<1\/65535<(gX (kF a).2.1).1)
    ·rw [aB p,aB p,aA aA1,aY,Yd,aA aA1];rfl
    ·rw [aA p,aA p];by_cases r:(gX (kF a).2.1).2=0
     ·rw [aB r,aB r,aY,pR,JO _ _ _ _ b]
     ·rw [aA r,aA r,aY,Yd];rfl
 ·have d:¬jH (nZ (aZ (8:Int)) s)=([83,73,80,47,50,46,48,47]:aC):=q;rw [aO d,xI,aL,aB q];rfl
def iT(l:List PP):List PP:=l.filter fun p=> !(p.1==TN)
def lG(b:aC):List PP:=if b=[]then []else [(TN,b,true)]
def Qb(h:aC)(n:Int):aC:=if n=0 then h else h++([58]++dO n)
def Fj(x:VV):aC×UInt8:=
 if(dZ x.2.1).2=true/\eY x.1=true/\0<=x.2.2.1/\x.2.2.1<=65535/\(iP (dW (iT x.2.2.2.2++lG x.2.2.2.1))).2=0
 then(Aw++jH x.1++[32]++Qb (dZ x.2.1).1 x.2.2.1++(iP (dW (iT x.2.2.2.2++lG x.2.2.2.1))).1,0)else([],2)
theorem BB(l:List PP):(iT l).length<=aR l:=List.length_filter_le _ _
theorem YN(l:List PP)(p:PP)(h:p∈iT l):p∈l:=(List.mem_filter.1 h).1
theorem H5(b:aC):(lG b).length<=1:=by unfold lG;split<;>simp
theorem V7(x:VV)(m:aR x.2.2.2.2<=4194304)(q:List PP):∀(p:List PP) (c:Nat),x.2.2.2.2=p++q->aR q<c->
  ahw FU x c (iT p) (aR p:Int)=some (iT (p++q)):=by
 induction q with
 |nil=>intro p c h i;obtain⟨c,rfl⟩:=dY c;rw [atb,ajn,aA aA7,gA]
 |cons a q j=>
  intro p c h i;obtain⟨c,rfl⟩:=dY c;have f:=bD aR h;simp only [bM,bR]at f i;have d:(0:Int)<=(aR p:Int)/\(aR p:Int)<(aR x.2.2.2.2:Int):=aA0;have l:el x.2.2.2.2 (aR p:Int)=a:=aB4;have b:=j (p++[a]) c aA7 bJ;rw [show((p++[a]).length:Int)=(aR p:Int)+1 by simp,gJ,Yf]at b;have k:=BB p;rw [atb,ajn,aB d.2,bA d,bA d,l];by_cases g:a.1=TN
  ·have e:iT (p++[a])=iT p:=by unfold iT;rw [List.filter_append];simp [g]
   rw [aB (show a.1=([98,114,97,110,99,104]:aC)from g),bA (eT _ bJ bJ)];rw [e]at b;exact b
  ·have e:iT (p++[a])=iT p++[a]:=by unfold iT;rw [List.filter_append];simp [g]
   rw [aA (show¬a.1=([98,114,97,110,99,104]:aC)from g)];simp only [Vm];rw [bA aB0,bA (eT _ bJ bJ)];rw [e]at b;exact b
theorem lu(x:VV)(b:∀p∈x.2.2.2.2,aR p.1<=4194304/\p.2.1.length<=4194304)(c:aR x.2.2.2.1<=4194304):∀p∈iT x.2.2.2.2++lG x.2.2.2.1,aR p.1<=4194304/\p.2.1.length<=4194304:=by
 intro p a;rcases aS.1 a with h|h
 ·exact b p (YN _ p h)
 ·unfold lG at h;split at h
  ·simp at h
  ·rw [aE.1 h];exact⟨show TN.length<=4194304 by decide,c⟩
theorem QM(l:List PP)(f:aR l<=19)(d:∀p∈l,aR p.1<=4194304/\p.2.1.length<=4194304):((SF FU l).bind fun y=>SH FU y)=some (iP (dW l)):=by
 have c:=tZ l;by_cases e:16<aR l
 ·have b:iP (dW l)=([],2):=by unfold iP;rw [aB bJ]
  rw [tO l bJ,aY,BI _ bJ,b]
 ·rw [tO l bJ,aY,axy _ (fun p a=>d p (vn _ p a))]
theorem mX(x:VV)(h:¬((dZ x.2.1).2=true/\eY x.1=true/\0<=x.2.2.1/\x.2.2.1<=65535/\(iP (dW (iT x.2.2.2.2++lG x.2.2.2.1))).2=0)):Fj x=([],2):=by unfold Fj;rw [aA h]
theorem Ck(x:VV)(h:(dZ x.2.1).2=true/\eY x.1=true/\0<=x.2.2.1/\x.2.2.1<=65535/\(iP (dW (iT x.2.2.2.2++lG x.2.2.2.1))).2=0):Fj x=(Aw++jH x.1++[32]++Qb (dZ x.2.1).1 x.2.2.1++(iP (dW (iT x.2.2.2.2++lG x.2.2.2.1))).1,0):=by unfold Fj;rw [aB h]
theorem AN(x:VV)(I:aR x.1<=4194304)(C:aR x.2.1<=4194304)(F:aR x.2.2.2.2<=18)(A:∀p∈x.2.2.2.2,aR p.1<=4194304/\p.2.1.length<=4194304)(B:aR x.2.2.2.1<=4194304):apw FU x=some (Fj x):=by
 have w:=BB x.2.2.2.2;have z:=H5 x.2.2.2.1;have d:=lu x A B;have s:(iT x.2.2.2.2++lG x.2.2.2.1).length<=19:=aC2;have m:=Vn (dW (iT x.2.2.2.2++lG x.2.2.2.1)) (fun p v=>d p (vn _ p v));have H:=Sj x.2.1;have t:=vY x.1;unfold apw;rw [vk _ C,aY];cases r:(dZ x.2.1).2 with
 |false=>rw [mX x (fun h=>by rw [r]at h;exact absurd h.1 aA1)];rfl
 |true=>
  rw [jM,aG,js _ bJ,aY];cases q:eY x.1 with
  |false=>rw [mX x (fun h=>by rw [q]at h;exact absurd h.2.1 aA1)];rfl
  |true=>
   rw [jM,aG];by_cases c:x.2.2.1<0
   ·rw [aB c,aY,aL,mX x (by rintro⟨_,_,h,_⟩;omega)]
   by_cases e:65535<x.2.2.1
   ·rw [aA c,aK e,aY,aL,mX x (by rintro⟨_,_,_,h,_⟩;omega)]
   have n:=V7 x bJ x.2.2.2.2 [] FU rfl aA6;have i:ahw FU x FU ([]:List PP) (0:Int)=some (iT x.2.2.2.2):=n;rw [aA c,aO e,aY,aG,i,aY];have E:(if x.2.2.2.1=([]:aC)then some (iT x.2.2.2.2)else(gd (((iT x.2.2.2.2).length+([(([98,114,97,110,99,104]:aC),x.2.2.2.1,true)]:List PP).length)*40<=140737488355328)<|some (iT x.2.2.2.2++([(([98,114,97,110,99,104]:aC),x.2.2.2.1,true)]:List PP))))=some (iT x.2.2.2.2++lG x.2.2.2.1):=by
    unfold lG;by_cases a:x.2.2.2.1=[]
    ·rw [aB a,aB a,gA]
    ·rw [aA a,aA a,bA aB0];rfl
   rw [E,aY];have o:=QM (iT x.2.2.2.2++lG x.2.2.2.1) bJ d;have b:=Ck x;have g:=mX x;generalize iT x.2.2.2.2++lG x.2.2.2.1=l at o m b g⊢;have key:∀f:aC×UInt8->Option (aC×UInt8),((SF FU l).bind fun(y:List PP)=>((SH FU y).bind f))=f (iP (dW l)):=by
    intro f;have:((SF FU l).bind fun(y:List PP)=>((SH FU y).bind f))=((SF FU l).bind fun y=>SH FU y).bind f:=by cases SF FU l<;>rfl
    rw [this,o];rfl
   rw [key];by_cases k:(iP (dW l)).2=0
   ·have G:=alt x.2.2.1 bJ bJ;have D:(if x.2.2.1=(0:Int)then some (dZ x.2.1).1 else(gd (bZ x.2.2.1)<|(gd (([58]:aC).length+(dO x.2.2.1).length<=9223372036854775807)<|(gd ((dZ x.2.1).1.length+(([58]:aC)++(dO x.2.2.1)).length<=9223372036854775807)<|some ((dZ x.2.1).1++(([58]:aC)++(dO x.2.2.1)))))))=some (Qb (dZ x.2.1).1 x.2.2.1):=by
     unfold Qb;by_cases j:x.2.2.1=0
     ·rw [aB j,aB j]
     ·rw [aA j,aA j,bA (eT _ bJ bJ),bA aB0,bA aA8]
    have u:(Qb (dZ x.2.1).1 x.2.2.1).length<=(dZ x.2.1).1.length+6:=by
     unfold Qb;split
     ·omega
     ·simp only [bM,eL];omega
    rw [aB k,D,aY,Ip _ bJ,aY,bA aB5,bA aB2,bA aB2,bA aB2,b ⟨r,q,aA0,aA0,k⟩];rfl
   ·rw [aA k,g (fun h=>k h.2.2.2.2)]
theorem CH(l:aC)(c:UInt8):decide ((0:Int)<=dT (·==c) l)=jO l c:=CG l c
theorem Lw(c:UInt8)(k:Int)(h:k=0\/k=1\/k=2):amj FU c k=some (Lx c k):=by
 unfold amj;rw [Ts,aY];have a:∀b:Bool,Lx c k=(b||jO (IC k) c)->((some b).bind fun(e:Bool)=>(bif e then some true else(((if(0:Int)<=k then(if k<=(2:Int)then(gd (0<=k/\k<(3:Int))<|(gd (0<=k/\k<(N7.length:Int))<|some (decide ((0:Int)<=(dT (·==c) (el N7 k))))))else some false)else some false)).bind fun(d:Bool)=>some d)))=some (Lx c k):=by
  intro b j;rw [j,aY];cases b with
  |true=>rfl
  |false=>
   have l:(N7.length:Int)=3:=rfl;have i:el N7 k=IC k:=by rcases h with rfl|rfl|rfl<;>rfl
   rw [aG,aB aA0,aB aA0,bA aA0,bA aA0,i,CH];rfl
 cases f:tY c with
 |true=>rw [aL];exact a true (by unfold Lx;rw [f];rfl)
 |false=>
  rw [aG,sW,aY];cases g:gW c with
  |true=>rw [aL];exact a true (by unfold Lx;rw [f,g];rfl)
  |false=>rw [aG,CH];exact a _ (by unfold Lx;rw [f,g];rfl)
def hx(c:UInt8):UInt8:=((kc FU c).getD (0,false)).1
theorem MI:∀c:UInt8,kc FU c=some (hx c,jD c):=eA _ aA3
theorem gx:∀c:UInt8,(hx c).toNat<16:=eA _ aA3
theorem mq:∀a b:Fin 16,(GI (Fo a.val) (4:Int))|||Fo b.val=Fo (16*a.val+b.val):=aA3
def esV(a b:UInt8):UInt8:=Fo (16*(hx a).toNat+(hx b).toNat)
theorem R9(a b:UInt8):(GI (hx a) (4:Int))|||hx b=esV a b:=by have:=mq ⟨(hx a).toNat,gx a⟩ ⟨(hx b).toNat,gx b⟩;simp only [UInt8.ofNat_toNat]at this;exact this
def Ds(l:aC):Option UInt8:=if 2<l.length/\at_ l 0=37/\jD (at_ l 1)=true/\jD (at_ l 2)=true then some (esV (at_ l 1) (at_ l 2))else none
theorem pI(s:aC)(i:Nat)(j:Nat):at_ (s.drop i) (j:Int)=at_ s ((i+j:Nat):Int):=by simp only [at_,iY,bP,bW]
theorem DT(s:aC)(m:s.length<=4194304)(i:Nat)(n:i<s.length):∃v,akq FU s (i:Int)=some (v,(Ds (s.drop i)).isSome)/\((Ds (s.drop i)).isSome=true->Ds (s.drop i)=some v):=by
 have e:=pI s i 0;have l:=pI s i 1;have k:=pI s i 2;have j:(i:Int)+1=((i+1:Nat):Int):=rfl;have g:(i:Int)+2=((i+2:Nat):Int):=rfl;have f:(s.drop i).length=s.length-i:=iX;rw [Bm]at e;have d:at_ (s.drop i) 0=at_ s (i:Int):=e;have c:at_ (s.drop i) 1=at_ s ((i+1:Nat):Int):=l;have b:at_ (s.drop i) 2=at_ s ((i+2:Nat):Int):=k;unfold akq Ds;rw [bA (eT _ aA0 aA0),j,g,f,d,c,b];by_cases q:s.length<=i+2
 ·rw [aB aA0,aY,aL,aA aA0];exact⟨0,rfl,fun h=>absurd h aA1⟩
 ·rw [aA aA0,bA aA0,aY];by_cases a:at_ s (i:Int)=37
  ·rw [aK a,jM,aG,bA (eT _ aA0 aA0),bA aA0,MI,aY,bA (eT _ aA0 aA0),bA aA0,MI,aY,R9];cases p:jD (at_ s ((i+1:Nat):Int))with
   |false=>rw [aG,aY,aA (fun h=>absurd h.2.2.1 aA1)];exact⟨_,rfl,fun h=>absurd h aA1⟩
   |true=>
    rw [aL,aY];cases o:jD (at_ s ((i+2:Nat):Int))with
    |false=>rw [aA (fun h=>absurd h.2.2.2 aA1)];exact⟨_,rfl,fun h=>absurd h aA1⟩
    |true=>rw [aB ⟨aA0,a,rfl,rfl⟩];exact⟨_,rfl,fun _=>rfl⟩
  ·rw [aO a,xI,aL,aA (fun h=>a h.2.1)];exact⟨0,rfl,fun h=>absurd h aA1⟩
def mN(k:Int):Nat->aC->Option Nat
 |0,_=>none
 |f+1,l=>if l=[]then none else if Lx (at_ l 0) k=true then(mN k f (l.drop 1)).map (·+1)
  else match Ds l with
   |some v=>if eW v=true then some 0 else(mN k f (l.drop 3)).map (·+3)
   |none=>some 0
def sN(k:Int):Nat->aC->aC
 |0,_=>[]
 |f+1,l=>if l=[]then []else if Lx (at_ l 0) k=true then at_ l 0::sN k f (l.drop 1)
  else match Ds l with
   |some v=>v::sN k f (l.drop 3)
   |none=>[]
def uQ(k:Int)(l:aC):Option Nat:=mN k (l.length+1) l
def qK(k:Int)(l:aC):aC:=sN k (l.length+1) l
theorem gv(k:Int)(a:k=0\/k=1\/k=2):Lx 37 k=false:=by rcases a with rfl|rfl|rfl<;>decide
variable {T:aC}
theorem Dr{v:UInt8}(h:Ds T=some v):2<T.length/\at_ T 0=37:=by
 unfold Ds at h;split at h
 ·rename_i a;exact⟨a.1,a.2.1⟩
 ·cases h
theorem wW(c:UInt8):aqa FU c=some (eW c):=by revert c;exact eA _ aA3
theorem UN(s:aC)(t:Int)(e:Nat)(D:s.length<=4194304)(E:e<=s.length)(k:Int)(x:k=0\/k=1\/k=2)(n:Nat):∀(i a f:Nat),e-i<=n->n<a->i<=e->e-i<f->
  agz FU (s,t) (e:Int) k a (i:Int)=some (match mN k f ((s.take e).drop i)with|none=>.inl ()|some j=>.inr (((i+j:Nat):Int),true)):=by
 induction n with
 |zero=>intro i a f y z g l;obtain⟨a,rfl⟩:=dY a;obtain⟨f,rfl⟩:∃m,f=m+1:=⟨f-1,aA0⟩;rw [air,aej,aA aA0,mN,aB (O4 aC4)]
 |succ n p=>
  intro i a f y z g l;obtain⟨a,rfl⟩:=dY a;obtain⟨f,rfl⟩:∃m,f=m+1:=⟨f-1,aA0⟩;by_cases d:i<e
  ·have b:((s.take e).drop i).length=e-i:=by rw [iX,kR];omega
   have c:¬(s.take e).drop i=[]:=fun h=>by rw [h]at b;simp at b;omega
   have kX:at_ ((s.take e).drop i) 0=at_ s (i:Int):=by have:=pI (s.take e) i 0;rw [Bm]at this;rw [show at_ ((s.take e).drop i) 0=at_ (s.take e) (i:Int)from this];simp only [at_,iY,bP];rw [List.getElem?_take_of_lt d]
   have d1:((s.take e).drop i).drop 1=(s.take e).drop (i+1):=by rw [JE]
   have d3:((s.take e).drop i).drop 3=(s.take e).drop (i+3):=by rw [JE]
   rw [air,aej,aB aA0,bA (show 0<=(i:Int)/\(i:Int)<(s.length:Int)by omega),Lw _ k x,aY,mN,aA c,kX];cases F:Lx (at_ s (i:Int)) k with
   |true=>
    rw [aL,bA (eT _ aA0 aA0),Ot,p (i+1) a f aA0 aA0 aA0 aA0,aB rfl,d1];cases mN k f ((s.take e).drop (i+1))with
    |none=>rfl
    |some j=>
     show some (Sum.inr _)=some (Sum.inr _);congr 3;try dsimp only
     omega
   |false=>
    have u:(s.take e).length=e:=aC4;obtain⟨v,B,r⟩:=DT (s.take e) aA0 i aA0;rw [aG,bA (show 0<=(e:Int)/\(e:Int)<=(s.length:Int)by omega),iY,B,aY,aA (show¬(false=true)by decide)];cases q:Ds ((s.take e).drop i)with
    |none=>simp only [Option.isSome_none,xI,aL,aY];congr 3
    |some o=>
     rw [q]at r;obtain rfl:o=v:=by have:=r rfl;simpa using this
     have w:=(Dr q).1;simp only [Option.isSome_some,jM,aG];rw [wW,aY,aY];cases A:eW o with
     |true=>rw [aL,aB rfl];rfl
     |false=>
      rw [aG,bA (eT _ aA0 aA0),bA (eT _ aA0 aA0),aA (show¬(false=true)by decide),d3];have C:(i:Int)+2+1=((i+3:Nat):Int):=aA0;rw [C,p (i+3) a f aA0 aA0 aA0 aA0];cases mN k f ((s.take e).drop (i+3))with
      |none=>rfl
      |some j=>
       show some (Sum.inr _)=some (Sum.inr _);congr 3;try dsimp only
       omega
  ·rw [air,aej,aA aA0,mN,aB (O4 aC4)]
theorem Ik(s:aC)(d:s.length<=4194304)(i e:Nat)(c:i<=e)(g:e<=s.length)(k:Int)(f:k=0\/k=1\/k=2):
  xw FU (s,(i:Int)) (e:Int) k=some (match uQ k (sub s (i:Int) (e:Int))with|none=>((0:Int),false)|some j=>(((i+j:Nat):Int),true)):=by
 have a:sub s (i:Int) (e:Int)=(s.take e).drop i:=by unfold sub;rw [iY,iY,List.drop_take]
 have b:((s.take e).drop i).length=e-i:=by rw [iX,kR];omega
 have:=UN s (i:Int) e d g k f (e-i) i FU ((sub s (i:Int) (e:Int)).length+1) (eV _) aA6 c (by rw [a,b];omega);unfold xw;simp only;rw [this,aY,<-a];unfold uQ;cases mN k ((sub s (i:Int) (e:Int)).length+1) (sub s (i:Int) (e:Int))<;>rfl
theorem VJ(s:aC)(A:s.length<=4194304)(k:Int)(C:k=0\/k=1\/k=2)(n:Nat):∀(i c f:Nat) (b:aC),s.length-i<=n->n<c->i<=s.length->s.length-i<f->b.length<=i->mN k f (s.drop i)=none->
  ahf FU s c b (i:Int)=some (.inl (b++sN k f (s.drop i))):=by
 induction n with
 |zero=>intro i c f b D E t u F a;obtain⟨c,rfl⟩:=dY c;obtain⟨f,rfl⟩:∃m,f=m+1:=⟨f-1,aA0⟩;rw [amm,ago,aA aA0,sN,aB (O4 aA0),gA]
 |succ n w=>
  intro i c f b D E t u F a;obtain⟨c,rfl⟩:=dY c;obtain⟨f,rfl⟩:∃m,f=m+1:=⟨f-1,aA0⟩;by_cases r:i<s.length
  ·have g:0<=(i:Int)/\(i:Int)<(s.length:Int):=by omega
   have d:(s.drop i).length=s.length-i:=iX;have l:¬s.drop i=[]:=fun h=>by rw [h]at d;simp at d;omega
   have kX:at_ (s.drop i) 0=at_ s (i:Int):=by have:=pI s i 0;rw [Bm]at this;exact this
   have d1:(s.drop i).drop 1=s.drop (i+1):=by rw [JE]
   have d3:(s.drop i).drop 3=s.drop (i+3):=by rw [JE]
   rw [mN,aA l,kX]at a;rw [amm,ago,aB g.2,bA g,sN,aA l,kX];by_cases p:Lx (at_ s (i:Int)) k=true
   ·have j:¬at_ s (i:Int)=37:=fun e=>by rw [e,gv k C]at p;cases p
    rw [aB p,tD,d1]at a;rw [aA j,bA g,bA aB0,bA (eT _ aA0 aA0),Ot,w (i+1) c f _ aA0 aA0 aA0 aA0 aA8 a,aB p,d1];simp
   ·rw [aA p]at a⊢;cases q:Ds (s.drop i)with
    |none=>rw [q]at a;cases a
    |some v=>
     rw [q]at a;simp only at a;have B:=(Dr q).1;have j:at_ s (i:Int)=37:=by rw [<-kX];exact(Dr q).2
     obtain⟨z,y,x⟩:=DT s A i r;rw [q]at y x;obtain rfl:v=z:=by have:=x rfl;simpa using this
     by_cases o:eW v=true
     ·rw [aB o]at a;cases a
     ·rw [aA o,tD,d3]at a;have G:(i:Int)+2+1=((i+3:Nat):Int):=by omega
      rw [aB j,y,aY];simp only [Option.isSome_some,jM,aG];rw [bA aB0,bA (eT _ aA0 aA0),bA (eT _ aA0 aA0),G,w (i+3) c f _ aA0 aA0 aA0 aA0 aA8 a,d3];simp
  ·rw [amm,ago,aA aA0,sN,aB (O4 aA0),gA]
theorem wQ(s:aC)(c:s.length<=4194304)(k:Int)(d:k=0\/k=1\/k=2)(b:uQ k s=none):xe FU s=some (qK k s):=by have:=VJ s c k d s.length 0 FU (s.length+1) [] aA0 aA6 aA0 aA0 aA2 (by rw [SR];exact b);have a:ahf FU s FU ([]:List UInt8) (0:Int)=_:=this;unfold xe ati;rw [B9 aA0,a,aY,pR,aY,mQ,SR];rfl
open Go.Lib renaming indexAny → Bk
def cM(st:aC)(s:aC)(i:Nat):Nat:=i+dQ (fun c=> !jO st c) (s.drop i)
theorem jZ(st s:aC)(i:Nat):i<=cM st s i:=Nat.le_add_right _ _
theorem NG(st s:aC)(i:Nat)(a:i<=s.length):cM st s i<=s.length:=by have:=FN (fun c=> !jO st c) (s.drop i);rw [iX]at this;unfold cM;omega
theorem Pt(st:aC):(fun c=>st.contains c)=jO st:=by funext c;unfold jO;rw [List.contains_eq_any_beq];congr 1;funext b;exact Bool.beq_comm
theorem di(s:aC)(k:s.length<=4194304)(i:Nat)(l:i<=s.length)(st:aC)(j:st.length<=1000)(h:st.all (fun b=>decide (b.toNat<128))=true):Xv FU s (i:Int) st=some ((cM st s i:Nat):Int):=by
 have f:(s.drop i).length=s.length-i:=iX;have a:=dh (jO st) (s.drop i);have c:Bk (s.drop i) st=dT (jO st) (s.drop i):=by rw [wa,Pt]
 unfold Xv cM;rw [bA aA0,iY,bA ⟨aA0,j,h⟩,c];rcases a with⟨e,d⟩|⟨e,d,g⟩
 ·rw [aA aA0,d,f];congr 1;try dsimp only
  omega
 ·rw [aB e,bA (eT _ aA0 aA0),g];rfl
theorem Zc(st s:aC)(i:Nat)(f:i<=s.length)(h:cM st s i<s.length):jO st (at_ s ((cM st s i:Nat):Int))=true:=by
 have g:(s.drop i).length=s.length-i:=iX;have key:∀l:aC,dQ (fun c=> !jO st c) l<l.length->jO st (at_ l (dQ (fun c=> !jO st c) l:Int))=true:=by
  intro l;induction l with
  |nil=>intro h;simp at h
  |cons a l d=>
   intro h;cases b:jO st a with
   |true=>have e:dQ (fun c=> !jO st c) (a::l)=0:=cz _ a l (by simp [b]);rw [e];exact b
   |false=>
    have e:dQ (fun c=> !jO st c) (a::l)=dQ (fun c=> !jO st c) l+1:=by rw [dQ,aB (by simp [b])]
    rw [e]at h⊢;have:=d (by simp only [bR]at h;omega);simpa [at_] using this
 unfold cM at h⊢;have:=key (s.drop i) aA0;rw [pI]at this;exact this
theorem sT(k:Int):∀(f:Nat) (l:aC) (j:Nat),mN k f l=some j->j<l.length
 |0,_,_,h=>by cases h
 |f+1,l,j,h=>by
  rw [mN]at h;by_cases a:l=[]
  ·rw [aB a]at h;cases h
  ·have b:=bK.2 a;rw [aA a]at h;split at h
   ·rw [M2]at h;obtain⟨x,hx,rfl⟩:=h;have:=sT k f _ x hx;rw [iX]at this;omega
   ·split at h
    ·rename_i v c;split at h
     ·rw [aU]at h;omega
     ·rw [M2]at h;obtain⟨x,hx,rfl⟩:=h;have:=sT k f _ x hx;rw [iX]at this;omega
    ·rw [aU]at h;omega
theorem My(k:Int):∀(f:Nat) (l:aC),(sN k f l).length<=l.length
 |0,_=>by simp [sN]
 |f+1,l=>by
  rw [sN];by_cases a:l=[]
  ·rw [aB a];simp
  ·have b:=bK.2 a;rw [aA a];split
   ·have:=My k f (l.drop 1);rw [iX]at this;rw [bR];omega
   ·split
    ·have:=My k f (l.drop 3);rw [iX]at this;rw [bR];omega
    ·simp
theorem Ai(k:Int)(l:aC):(qK k l).length<=l.length:=My k _ l
theorem Ah(k:Int)(l:aC)(a:uQ k l=none):qK k l=[]↔l=[]:=by
 unfold qK uQ at*;rw [sN];rw [mN]at a;by_cases b:l=[]
 ·rw [aB b];simp [b]
 ·rw [aA b]at a⊢;constructor
  ·intro h;exfalso;split at h
   ·cases h
   ·rename_i c;rw [aA c]at a;split at h
    ·cases h
    ·rename_i d;rw [d]at a;cases a
  ·intro h;exact absurd h b
abbrev UU:=aC×aC×aC×Int×List PP×List PP
def Fs(U:aC):UInt8×aC:=match uQ 0 U with|some j=>(if at_ U (j:Int)=58 then 15 else 5,[])|none=>if U=[]then(5,[])else(0,qK 0 U)
theorem zc(b:UInt8)(s:aC)(i:Nat):cM [b] s i=i+dQ (fun c=> !(c==b)) (s.drop i):=by
 have e:(fun c=> !jO [b] c)=(fun c=> !(c==b)):=by funext c;unfold jO;rw [Ol,tG,SP,Bool.beq_comm]
 unfold cM;rw [e]
def jR(s:aC)(i:Nat):Nat:=if fJ s i 91=true then min (cM [93] s i+1) s.length else cM [58,59,63] s i
def Oo (s : aC) (i : Nat) : UInt8 × aC × Int × Nat :=
  if (dZ (sub s (i : Int) (jR s i : Int))).2 = false then (5, [], 0, 0)
  else if fJ s (jR s i) 58 = true then
    (if (kO (sub s ((jR s i + 1 : Nat) : Int) (cM [59, 63] s (jR s i + 1) : Int))).2 = 0 then (0, (dZ (sub s (i : Int) (jR s i : Int))).1, (kO (sub s ((jR s i + 1 : Nat) : Int) (cM [59, 63] s (jR s i + 1) : Int))).1, cM [59, 63] s (jR s i + 1))
     else ((kO (sub s ((jR s i + 1 : Nat) : Int) (cM [59, 63] s (jR s i + 1) : Int))).2, [], 0, 0))
  else if jR s i < s.length /\ fJ s (jR s i) 59 = false /\ fJ s (jR s i) 63 = false then (5, [], 0, 0)
  else (0, (dZ (sub s (i : Int) (jR s i : Int))).1, 0, jR s i)
theorem ML(s:aC)(i:Nat)(a:i<=s.length):i<=jR s i/\jR s i<=s.length:=by
 have e:=jZ [93] s i;have d:=NG [93] s i a;have c:=jZ [58,59,63] s i;have b:=NG [58,59,63] s i a;unfold jR;split
 ·rename_i h;have:=(Nu h).1;omega
 ·omega
def wE(s:aC)(i:Nat):UInt8×aC×(aC×Int×Nat):=
 if cM [64] s i<s.length then
  (if(Fs (sub s (i:Int) (cM [64] s i:Int))).1=0 then((Oo s (cM [64] s i+1)).1,(Fs (sub s (i:Int) (cM [64] s i:Int))).2,(Oo s (cM [64] s i+1)).2)else((Fs (sub s (i:Int) (cM [64] s i:Int))).1,[],[],0,0))
 else((Oo s i).1,[],(Oo s i).2)
theorem NT(s:aC)(D:s.length<=4194304)(i:Nat)(B:i<=s.length)(j r:aC):∃a c u,0<=a/\a<=5000000/\((Xv FU s (i:Int) ([58,59,63]:aC)).bind fun(C:Int)=>((((Gp FU (s,(i:Int)) (91:UInt8)).bind fun(p:Bool)=>(bif p then((Xv FU s (i:Int) ([93]:aC)).bind fun(k:Int)=>(gd (bZ (k+(1:Int)))<|some (min (k+(1:Int)) (s.length:Int))))else some C))).bind fun(b:Int)=>(gd (0<=(i:Int)/\(i:Int)<=b/\b<=(s.length:Int))<|((O0 FU (sub s (i:Int) b)).bind fun(f:(aC×Bool))=>(bif (!f.2)then some ((i:Int),(5:UInt8),(s,(i:Int)),((j,r,([]:aC),(0:Int),([]:List PP),([]:List PP)):UU))else((Gp FU (s,b) (58:UInt8)).bind fun(t:Bool)=>(bif t then(gd (bZ (b+(1:Int)))<|((Xv FU s (b+(1:Int)) ([59,63]:aC)).bind fun(g:Int)=>(gd (0<=(b+(1:Int))/\(b+(1:Int))<=g/\g<=(s.length:Int))<|((jz FU (sub s (b+(1:Int)) g)).bind fun(d:(Int×UInt8))=>(((((if d.2=(0:UInt8)then(if d.1<(1:Int)then some true else some (decide ((65535:Int)<d.1)))else some false)).bind fun(w:Bool)=>(bif w then some (3:UInt8)else some d.2))).bind fun(o:UInt8)=>(if o=(0:UInt8)then some ((0:Int),(0:UInt8),(s,g),((j,r,f.1,d.1,([]:List PP),([]:List PP)):UU))else some (b+(1:Int),o,(s,b+(1:Int)),((j,r,f.1,(0:Int),([]:List PP),([]:List PP)):UU))))))))else((((ki FU (s,b)).bind fun(n:Bool)=>(bif (!n)then((Gp FU (s,b) (59:UInt8)).bind fun(m:Bool)=>(bif (!m)then((Gp FU (s,b) (63:UInt8)).bind fun(l:Bool)=>some (!l))else some false))else some false))).bind fun(v:Bool)=>(bif v then some (b,(5:UInt8),(s,b),((j,r,f.1,(0:Int),([]:List PP),([]:List PP)):UU))else some ((0:Int),(0:UInt8),(s,b),((j,r,f.1,(0:Int),([]:List PP),([]:List PP)):UU)))))))))))
  =some (a,(Oo s i).1,c,u)/\((Oo s i).1=0->c=(s,((Oo s i).2.2.2:Int))/\u=(j,r,(Oo s i).2.1,(Oo s i).2.2.1,[],[])):=by
 have H:=ML s i B;have M:((if fJ s i 91=true then some ((min (cM [93] s i+1) s.length:Nat):Int)else some ((cM [58,59,63] s i:Nat):Int)))=some ((jR s i:Nat):Int):=by unfold jR;split<;>rfl
 have L:((Gp FU (s,(i:Int)) (91:UInt8)).bind fun(p:Bool)=>(bif p then((Xv FU s (i:Int) ([93]:aC)).bind fun(k:Int)=>(gd (bZ (k+(1:Int)))<|some (min (k+(1:Int)) (s.length:Int))))else some ((cM [58,59,63] s i:Nat):Int)))=some ((jR s i:Nat):Int):=by
  have N:=NG [93] s i B;rw [FM,aY,<-M];cases fJ s i 91 with
  |false=>rfl
  |true=>
   rw [aL,di s D i B _ aA1 aA1,aY,bA (eT _ aA0 aA0),aB rfl];congr 1;try dsimp only
   omega
 rw [di s D i B _ aA1 aA1,aY,L,aY];unfold Oo;generalize jR s i=e at H⊢;rw [bA aA0,vk _ aD6,aY];cases O:(dZ (sub s (i:Int) (e:Int))).2 with
 |false=>exact⟨_,_,_,aA0,aA0,rfl,fun h=>by rw [aB rfl]at h;exact absurd h aA1⟩
 |true=>
  rw [jM,aG,aA (show¬(true=false)by decide),FM,aY];cases E:fJ s e 58 with
  |true=>
   have y:=(Nu E).1;have G:=jZ [59,63] s (e+1);have F:=NG [59,63] s (e+1) y;rw [aL,aB rfl,bA (eT _ aA0 aA0),Ot,di s D (e+1) y _ aA1 aA1,aY,bA aA0,tV,aY,KY,aY];unfold kO;generalize gX (sub s ((e+1:Nat):Int) ((cM [59,63] s (e+1):Nat):Int))=q;by_cases A:q.2=0/\(q.1<1\/65535<q.1)
   ·rw [aB A,aB A,aA aA1,aA aA1];exact⟨_,_,_,aA0,aA0,rfl,fun h=>absurd h aA1⟩
   ·rw [aA A,aA A];by_cases z:q.2=0
    ·rw [aB z,aB z];exact⟨_,_,_,aA0,aA0,rfl,fun _=>⟨rfl,rfl⟩⟩
    ·rw [aA z,aA z];exact⟨_,_,_,aA0,aA0,rfl,fun h=>absurd h z⟩
  |false=>
   have K:((ki FU (s,(e:Int))).bind fun(n:Bool)=>(bif (!n)then((Gp FU (s,(e:Int)) (59:UInt8)).bind fun(m:Bool)=>(bif (!m)then((Gp FU (s,(e:Int)) (63:UInt8)).bind fun(l:Bool)=>some (!l))else some false))else some false))=some (decide (e<s.length/\fJ s e 59=false/\fJ s e 63=false)):=by
    rw [nS,aY];by_cases x:e<s.length
    ·rw [aO (show¬(s.length:Int)<=(e:Int)by omega),xI,aL,FM,aY];cases J:fJ s e 59 with
     |true=>rw [aO (by rintro⟨_,h,_⟩;cases h)];rfl
     |false=>
      rw [xI,aL,FM,aY];cases I:fJ s e 63 with
      |true=>rw [aO (by rintro⟨_,_,h⟩;cases h)];rfl
      |false=>rw [aK ⟨x,rfl,rfl⟩];rfl
    ·rw [aK (show(s.length:Int)<=(e:Int)by omega),aO (fun h=>x h.1)];rfl
   rw [aG,aA (show¬(false=true)by decide),K,aY];by_cases hx:e<s.length/\fJ s e 59=false/\fJ s e 63=false
   ·rw [aK hx,aL,aB hx];exact⟨_,_,_,aA0,aA0,rfl,fun h=>absurd h aA1⟩
   ·rw [aO hx,aG,aA hx];exact⟨_,_,_,aA0,aA0,rfl,fun _=>⟨rfl,rfl⟩⟩
theorem XX(s:aC)(z:s.length<=4194303)(i:Nat)(v:i<=s.length)(b:aC):∃a c u,0<=a/\a<=5000000/\ajq FU (s,(i:Int)) (b,[],[],0,[],[])=some (a,(wE s i).1,c,u)/\((wE s i).1=0->c=(s,((wE s i).2.2.2.2:Int))/\u=(b,(wE s i).2.1,(wE s i).2.2.1,(wE s i).2.2.2.1,[],[])):=by
 have A:(s.drop i).length=s.length-i:=iX;have g:=dh (·==(64:UInt8)) (s.drop i);have r:=zc 64 s i;unfold ajq wE;simp only;rw [bA aA0,iY];rcases g with⟨p,x⟩|⟨p,x,w⟩
 ·have f:¬cM [64] s i<s.length:=by omega
  rw [aA aA0,aY,pR,aA f];exact NT s aA0 i v b []
 ·have y:(i:Int)+dT (·==(64:UInt8)) (s.drop i)=((cM [64] s i:Nat):Int):=by rw [w,r];rfl
  have l:cM [64] s i<s.length:=aA0;have m:=jZ [64] s i;have q:(dT (·==(64:UInt8)) (s.drop i)=0)↔cM [64] s i=i:=aA0;rw [aB p,y,bA (eT _ aA0 aA0),aB l,Ik s aA0 i _ m aA0 0 (.inl rfl),aY];have e:(sub s (i:Int) (cM [64] s i:Int)).length=cM [64] s i-i:=aD6;unfold Fs;cases o:uQ 0 (sub s (i:Int) (cM [64] s i:Int))with
  |some j=>
   have t:j<cM [64] s i-i:=by have:=sT 0 _ _ j o;omega
   have kX:at_ s ((i+j:Nat):Int)=at_ (sub s (i:Int) (cM [64] s i:Int)) (j:Int):=by unfold sub;rw [iY,iY];have:=pI s i j;rw [<-this];simp only [at_,iY,bP];rw [List.getElem?_take_of_lt t]
   simp only;rw [aL,bA aA0,kX];by_cases d:at_ (sub s (i:Int) (cM [64] s i:Int)) (j:Int)=58
   ·rw [aB d,aB d,aY,Yd,aA aA1];exact⟨_,_,_,aA0,aA0,rfl,fun h=>absurd h aA1⟩
   ·rw [aA d,aA d,aY,Yd,aA aA1];exact⟨_,_,_,aA0,aA0,rfl,fun h=>absurd h aA1⟩
  |none=>
   simp only;rw [aG];by_cases n:cM [64] s i=i
   ·have k:sub s (i:Int) (cM [64] s i:Int)=[]:=by apply Fp;omega
    rw [aB (q.2 n),aB k,aY,Yd,aA aA1];exact⟨_,_,_,aA0,aA0,rfl,fun h=>absurd h aA1⟩
   ·have k:¬sub s (i:Int) (cM [64] s i:Int)=[]:=fun h=>by rw [h]at e;simp at e;omega
    rw [aA (fun h=>n (q.1 h)),aA k,bA aA0,wQ _ aA0 0 (.inl rfl) o,aY,bA (eT _ aA0 aA0),aY,pR,Ot,aB rfl];exact NT s aA0 _ aA0 b _
theorem VT(s:aC)(i e n:Nat)(h:i+n<=e):sub s (i:Int) ((i+n:Nat):Int)=(sub s (i:Int) (e:Int)).take n:=by
 unfold sub;simp only [iY];rw [L4];congr 1;try dsimp only
 omega
theorem ON(s:aC)(i e n:Nat):sub s ((i+n+1:Nat):Int) (e:Int)=(sub s (i:Int) (e:Int)).drop (n+1):=by
 unfold sub;simp only [iY];rw [List.drop_take,JE];congr 1;try dsimp only
 omega
def kG(T:aC):Nat:=dQ (fun c=> !(c==61)) T
def hZ(k:Int)(l:List PP)(T:aC):UInt8×PP:=
 match uQ k (T.take (kG T))with
 |some _=>(5,([],[],false))
 |none=>if kG T=0 then(5,([],[],false))else if kG T<T.length then
   (match uQ k (T.drop (kG T+1))with
   |some _=>(5,([],[],false))
   |none=>if T.drop (kG T+1)=[]/\k=1 then(5,([],[],false))else(Ea l (dH (qK k (T.take (kG T)))),(dH (qK k (T.take (kG T))),qK k (T.drop (kG T+1)),true)))
  else if k=2 then(5,([],[],false))else(Ea l (dH (qK k (T.take (kG T)))),(dH (qK k (T.take (kG T))),[],false))
theorem DR(s:aC)(N:s.length<=4194303)(i e:Nat)(I:i<=e)(P:e<=s.length)(l:List PP)(O:l.length<=16)(k:Int)(H:k=1\/k=2):
  ∃l' a c,0<=a/\a<=5000000/\ahe FU (s,(i:Int)) l (e:Int) k=some (l',a,(hZ k l (sub s (i:Int) (e:Int))).1,c)/\
   ((hZ k l (sub s (i:Int) (e:Int))).1=0->l'=l++[(hZ k l (sub s (i:Int) (e:Int))).2]/\c=(s,(e:Int))):=by
 have f:k=0\/k=1\/k=2:=.inr H;have L:(sub s (i:Int) (e:Int)).length=e-i:=aD6;have r:=fun n h=>VT s i e n h;have t:=fun n=>ON s i e n
 have b:∀(nm v:aC) (h:Bool),∃l' a c,0<=a/\a<=5000000/\((wj FU l nm).bind fun(g:UInt8)=>(if g=(0:UInt8)then(gd ((l.length+([(nm,v,h)]:List PP).length)*40<=140737488355328)<|some (l++([(nm,v,h)]:List PP),(0:Int),(0:UInt8),(s,(e:Int))))else some (([]:List PP),(i:Int),g,(s,(e:Int)))))=some (l',a,Ea l nm,c)/\(Ea l nm=0->l'=l++[(nm,v,h)]/\c=(s,(e:Int))):=by
  intro nm v h;rw [KH l aA0,aY];by_cases q:Ea l nm=0
  ·rw [aB q,bA aB5,q];exact⟨_,_,_,aA0,aA0,rfl,fun _=>⟨rfl,rfl⟩⟩
  ·rw [aA q];exact⟨_,_,_,aA0,aA0,rfl,fun h=>absurd h q⟩
 unfold ahe;simp only;rw [bA aA0];generalize K:sub s (i:Int) (e:Int)=T at L r t⊢;have G:kG T<=T.length:=FN _ _;have u:=dh (·==(61:UInt8)) T;have D:(if(0:Int)<=(dT (·==(61:UInt8)) T)then(gd (bZ ((i:Int)+(dT (·==(61:UInt8)) T)))<|some ((i:Int)+(dT (·==(61:UInt8)) T)))else some (e:Int))=some ((i+kG T:Nat):Int):=by
  unfold kG at G⊢;rcases u with⟨z,o⟩|⟨z,o,M⟩
  ·rw [aA aA0];congr 1;omega
  ·rw [aB z,bA (eT _ aA0 aA0)];congr 1;omega
 have m:(0:Int)<=dT (·==(61:UInt8)) T↔kG T<T.length:=by unfold kG;rcases u with⟨z,o⟩|⟨z,o,M⟩<;>constructor<;>intro h<;>omega
 rw [D,aY,Ik s aA0 i (i+kG T) aA0 aA0 k f,aY,r (kG T) aA0];unfold hZ;cases F:uQ k (T.take (kG T))with
 |some j=>have B:=sT _ _ _ j F;rw [kR]at B;simp only;rw [aL];exact⟨_,_,_,aA0,aA0,rfl,fun h=>absurd h aA1⟩
 |none=>
  simp only;rw [aG];by_cases q:kG T=0
  ·rw [aB aA0,aB q];exact⟨_,_,_,aA0,aA0,rfl,fun h=>absurd h aA1⟩
  ·have A:(T.take (kG T)).length<=4194304:=by rw [kR];omega
   have J:=Ai k (T.take (kG T));rw [aA aA0,aA q,bA aA0,wQ _ A k f F,aY,N6 _ aA0,aY];by_cases d:kG T<T.length
   ·have p:(0:Int)<=dT (·==(61:UInt8)) T:=m.2 d;rw [aB d];simp only [p,decide_true,fM];rw [bA (eT _ aA0 aA0),Ot,Ik s aA0 (i+kG T+1) e aA0 aA0 k f,aY,t];cases x:uQ k (T.drop (kG T+1))with
    |some j=>have B:=sT _ _ _ j x;rw [iX]at B;simp only;rw [aL,aY];exact⟨_,_,_,aA0,aA0,rfl,fun h=>absurd h aA1⟩
    |none=>
     have w:(T.drop (kG T+1)).length=T.length-(kG T+1):=iX;have C:(if((i+kG T+1:Nat):Int)=(e:Int)then some (decide (k=(1:Int)))else some false)=some (decide (T.drop (kG T+1)=[]/\k=1)):=by
      by_cases y:T.drop (kG T+1)=[]
      ·rw [y]at w;rw [aB (by simp at w;omega)];congr 1;simp [y]
      ·have:¬(T.drop (kG T+1)).length=0:=fun h=>y (Fp h);rw [aA aA0,aO (fun h=>y h.1)]
     simp only;rw [aG,C,aY];by_cases hx:T.drop (kG T+1)=[]/\k=1
     ·rw [aK hx,aL,aY,aB hx];exact⟨_,_,_,aA0,aA0,rfl,fun h=>absurd h aA1⟩
     ·rw [aO hx,aG,bA aA0,wQ _ aA0 k f x,aY,aY,aA hx];exact b _ _ _
   ·have p:¬(0:Int)<=dT (·==(61:UInt8)) T:=fun h=>d (m.1 h);have E:((i+kG T:Nat):Int)=(e:Int):=aA0;rw [aA d];simp only [p,decide_false,cX];by_cases o:k=2
    ·rw [aB o,aB o,aY];exact⟨_,_,_,aA0,aA0,rfl,fun h=>absurd h aA1⟩
    ·rw [aA o,aA o,aY];exact b _ _ _
def qG (st : aC) (s : aC) : Nat -> Nat -> List PP -> UInt8 × Nat × List PP
  | 0, i, l => (0, i, l)
  | f + 1, i, l => if fJ s i 59 = true then
      (if (hZ 1 l (sub s ((i + 1 : Nat) : Int) (cM st s (i + 1) : Int))).1 = 0 then qG st s f (cM st s (i + 1)) (l ++ [(hZ 1 l (sub s ((i + 1 : Nat) : Int) (cM st s (i + 1) : Int))).2])
       else ((hZ 1 l (sub s ((i + 1 : Nat) : Int) (cM st s (i + 1) : Int))).1, 0, []))
    else (0, i, l)
def Gd (s : aC) : Nat -> Nat -> List PP -> UInt8 × List PP
  | 0, i, l => (0, l)
  | f + 1, i, l => if i < s.length then
      (if (hZ 2 l (sub s ((i + 1 : Nat) : Int) (cM [38] s (i + 1) : Int))).1 = 0 then Gd s f (cM [38] s (i + 1)) (l ++ [(hZ 2 l (sub s ((i + 1 : Nat) : Int) (cM [38] s (i + 1) : Int))).2])
       else ((hZ 2 l (sub s ((i + 1 : Nat) : Int) (cM [38] s (i + 1) : Int))).1, []))
    else (0, l)
variable {l:List PP}
theorem Zz(h:Ea l T=0):l.length<16:=by
 unfold Ea at h;split at h
 ·exact absurd h aA1
 ·split at h
  ·exact absurd h aA1
  ·omega
theorem Hx{k:Int}(h:(hZ k l T).1=0):l.length<16:=by
 unfold hZ at h;split at h
 ·exact absurd h aA1
 ·split at h
  ·exact absurd h aA1
  ·split at h
   ·split at h
    ·exact absurd h aA1
    ·split at h
     ·exact absurd h aA1
     ·exact Zz h
   ·split at h
    ·exact absurd h aA1
    ·exact Zz h
theorem PK(s:aC)(y:s.length<=4194303)(v:Int×UInt8×aC×aC×Int×aC×aC×aC×Int×List PP×List PP)(C:v.2.2.1.length<=1000)(B:v.2.2.1.all (fun b=>decide (b.toNat<128))=true)(n:Nat):
  ∀(i d f:Nat) (l:List PP) (a:Int),0<=a->a<=5000000->s.length-i<=n->n+1<d->n<f->i<=s.length->l.length<=16->
  ∃a' u i' l',0<=a'/\a'<=5000000/\xk FU v d a 0 s (i:Int) l=some (a',(qG v.2.2.1 s f i l).1,u,i',l')/\((qG v.2.2.1 s f i l).1=0->u=s/\i'=((qG v.2.2.1 s f i l).2.1:Int)/\l'=(qG v.2.2.1 s f i l).2.2):=by
 induction n with
 |zero=>
  intro i d f l a t r z A q p w;obtain⟨d,rfl⟩:=dY d;obtain⟨f,rfl⟩:∃m,f=m+1:=⟨f-1,aA0⟩;have k:fJ s i 59=false:=by unfold fJ;rw [aO aA0];rfl
  rw [aks,xo,aB rfl,FM,aY,k,aY,aG,qG,k,aA aA1];exact⟨_,_,_,_,aA0,aA0,rfl,fun _=>⟨rfl,rfl,rfl⟩⟩
 |succ n x=>
  intro i d f l a t r z A q p w;obtain⟨d,rfl⟩:=dY d;obtain⟨f,rfl⟩:∃m,f=m+1:=⟨f-1,aA0⟩;rw [aks,xo,aB rfl,FM,aY,aY,qG];cases k:fJ s i 59 with
  |false=>rw [aG,aA aA1];exact⟨_,_,_,_,aA0,aA0,rfl,fun _=>⟨rfl,rfl,rfl⟩⟩
  |true=>
   have j:=(Nu k).1;have o:=jZ v.2.2.1 s (i+1);have g:=NG v.2.2.1 s (i+1) j;rw [aL,aB rfl,bA (eT _ aA0 aA0),Ot,di s aA0 (i+1) j _ C B,aY];obtain⟨l',a',c,G,F,E,D⟩:=DR s y (i+1) (cM v.2.2.1 s (i+1)) o g l w 1 (.inl rfl);rw [E,aY];by_cases e:(hZ 1 l (sub s ((i+1:Nat):Int) (cM v.2.2.1 s (i+1):Int))).1=0
   ·obtain⟨rfl,rfl⟩:=D e;have:=Hx e;rw [aB e,e];exact x (cM v.2.2.1 s (i+1)) d f _ _ aA0 aA0 aA0 aA0 aA0 g aB2
   ·rw [aA e];simp only;obtain⟨d,rfl⟩:=dY d;rw [aks,xo,aA e,aY,aG];exact⟨_,_,_,_,aA0,aA0,rfl,fun h=>absurd h e⟩
theorem QR(s:aC)(v:s.length<=4194303)(n:Nat):
  ∀(i b f:Nat) (l:List PP) (a:Int),0<=a->a<=5000000->s.length-i<=n->n+1<b->n<f->i<=s.length->l.length<=16->
  ∃a' t i' l',0<=a'/\a'<=5000000/\xl FU b a 0 s (i:Int) l=some (a',(Gd s f i l).1,t,i',l')/\((Gd s f i l).1=0->l'=(Gd s f i l).2):=by
 induction n with
 |zero=>intro i b f l a q p w x o k r;obtain⟨b,rfl⟩:=dY b;obtain⟨f,rfl⟩:∃m,f=m+1:=⟨f-1,aA0⟩;rw [akr,xp,aB rfl,nS,aY,aK aA0,aY,jM,aG,Gd,aA aA0];exact⟨_,_,_,_,aA0,aA0,rfl,fun _=>rfl⟩
 |succ n u=>
  intro i b f l a q p w x o k r;obtain⟨b,rfl⟩:=dY b;obtain⟨f,rfl⟩:∃m,f=m+1:=⟨f-1,aA0⟩;rw [akr,xp,aB rfl,nS,aY,aY,Gd];by_cases d:i<s.length
  ·have j:=jZ [38] s (i+1);have g:=NG [38] s (i+1) d;rw [aO aA0,xI,aL,aB d,bA (eT _ aA0 aA0),Ot,di s aA0 (i+1) d _ aA1 aA1,aY];obtain⟨l',a',c,B,A,z,y⟩:=DR s v (i+1) (cM [38] s (i+1)) j g l r 2 (.inr rfl);rw [z,aY];by_cases e:(hZ 2 l (sub s ((i+1:Nat):Int) (cM [38] s (i+1):Int))).1=0
   ·obtain⟨rfl,rfl⟩:=y e;have:=Hx e;rw [aB e,e];exact u (cM [38] s (i+1)) b f _ _ aA0 aA0 aA0 aA0 aA0 g aB2
   ·rw [aA e];simp only;obtain⟨b,rfl⟩:=dY b;rw [akr,xp,aA e,aY,aG];exact⟨_,_,_,_,aA0,aA0,rfl,fun h=>absurd h e⟩
  ·rw [aK aA0,jM,aG,aA d];exact⟨_,_,_,_,aA0,aA0,rfl,fun _=>rfl⟩
theorem pJ(l:List PP)(a:l.length<20):dq FU l=some (dW l):=by unfold dq;rw [bA aA0,Jg l a];rfl
open Go.Lib renaming hasPrefix → eZ, trimPrefix → eJ
def sL(a:Bool)(c:UInt8):Bool:=gW c||(!a&&(c==42||c==35))
def ra(c:UInt8):Bool:=c==45||c==46||c==40||c==41
def Pv(a:Bool):aC->Option aC
 |[]=>some []
 |c::T=>if sL a c=true then(Pv a T).map (c::·)else if ra c=true then Pv a T else none
theorem bf(b:Bool)(c:UInt8):(((if(48:UInt8)<=c then some (decide (c<=(57:UInt8)))else some false)).bind fun(a:Bool)=>(bif a then some a else(bif (!b)then(if c=(42:UInt8)then some true else some (decide (c=(35:UInt8))))else some false)))=some (sL b c):=by revert c;cases b<;>exact eA _ aA3
theorem qz(c:UInt8):(if c=(45:UInt8)then some false else(if c=(46:UInt8)then some false else(if c=(40:UInt8)then some false else some (!decide (c=(41:UInt8))))))=some (!ra c):=by revert c;exact eA _ aA3
theorem JR(s:aC)(v:s.length<=4194303)(o:Int)(u:UU)(e:Nat)(y:e<=s.length)(h:Bool)(n:Nat):∀(k f:Nat) (b:aC),k+n=e->n<f->b.length<=k->
  ∃j,agn FU (s,o) u (e:Int) h f b (k:Int)=some j/\
   (match Pv h (sub s (k:Int) (e:Int))with
   |some d=>j=.inl (b++d,(e:Int))
   |none=>∃a c w,0<=a/\a<=5000000/\j=.inr (a,5,c,w)):=by
 induction n with
 |zero=>intro k f b p q r;obtain⟨f,rfl⟩:=dY f;obtain rfl:k=e:=aA0;rw [aoc,afu,aA aA0,tN];exact⟨_,rfl,by simp only [Pv,gA]⟩
 |succ n m=>
  intro k f b p q r;obtain⟨f,rfl⟩:=dY f;have l:sub s (k:Int) (e:Int)=at_ s (k:Int)::sub s ((k+1:Nat):Int) (e:Int):=by unfold sub;simp only [iY];rw [drop_at s k aA0,show e-k=(e-(k+1))+1 by omega,fH]
  rw [aoc,afu,aB aA0,sF,bf,aY,l];unfold Pv;cases z:sL h (at_ s (k:Int))with
  |true=>
   rw [aL,bA aB5,aY,pR,bA (eT _ aA0 aA0),Ot,aB rfl];obtain⟨j,t,i⟩:=m (k+1) f (b++[at_ s (k:Int)]) aA0 aA0 aB2;refine⟨j,t, ?_⟩;cases g:Pv h (sub s ((k+1:Nat):Int) (e:Int))with
   |none=>rw [g]at i;exact i
   |some d=>rw [g]at i;simp only [Yp];rw [i,gJ];rfl
  |false=>
   rw [aG,qz,aY,aA aA1];cases x:ra (at_ s (k:Int))with
   |true=>rw [jM,aG,aY,pR,bA (eT _ aA0 aA0),Ot,aB rfl];exact m (k+1) f b aA0 aA0 aA0
   |false=>rw [xI,aL,aY,Yd,aA aA1];exact⟨_,rfl,_,_,_,aA0,aA0,rfl⟩
def qW(s:aC)(i:Nat):UInt8×aC:=
 match Pv (fJ s i 43) (sub s ((if fJ s i 43=true then i+1 else i:Nat):Int) (cM [59] s i:Int))with
 |none=>(5,[])
 |some d=>if d=[]then(5,[])else if 30<d.length then(4,[])else(0,if fJ s i 43=true then 43::d else d)
theorem Lm(T d:aC)(h:Pv false T=some d):eJ d ([43]:aC)=d:=by
 have key:∀(T d:aC),Pv false T=some d->∀c∈d,c≠43:=by
  intro T;induction T with
  |nil=>intro d h;simp only [Pv,aU]at h;subst h;simp
  |cons a T g=>
   intro d h;unfold Pv at h;split at h
   ·rename_i i;cases b:Pv false T with
    |none=>rw [b]at h;cases h
    |some d'=>
     rw [b]at h;simp only [Yp,aU]at h;subst h;intro c f;rcases aP.1 f with rfl|f
     ·intro e;subst e;exact absurd i aA1
     ·exact g d' b c f
   ·split at h
    ·exact g d h
    ·cases h
 cases d with
 |nil=>rfl
 |cons c d=>have:=key T (c::d) h c aA2;have j:¬(43:UInt8)=c:=fun e=>this e.symm;unfold eJ eZ;simp [j]
theorem VF(st s:aC)(i:Nat)(a:i<s.length)(h:jO st (at_ s (i:Int))=false):cM st s i=cM st s (i+1):=by unfold cM;rw [drop_at s i a,dQ,aB (by rw [h];rfl)];omega
theorem mh(s:aC)(q:s.length<=4194303)(i:Nat)(r:i<=s.length)(b:aC):∃a c u,0<=a/\a<=5000000/\ais FU (s,(i:Int)) (b,[],[],0,[],[])=some (a,(qW s i).1,c,u)/\
  ((qW s i).1=0->c=(s,(cM [59] s i:Int))/\u=(b,(qW s i).2,[],0,[],[])):=by
 have A:=jZ [59] s i;have k:=NG [59] s i r;have f:∀(d v:aC) (t:aC),eJ v ([43]:aC)=d->∃a c u,0<=a/\a<=5000000/\
   (if(eJ v ([43]:aC))=([]:aC)then some ((i:Int),(5:UInt8),(s,(cM [59] s i:Int)),((b,v,([]:aC),(0:Int),([]:List PP),([]:List PP)):UU))else(if(30:Int)<((eJ v ([43]:aC)).length:Int)then some ((i:Int),(4:UInt8),(s,(cM [59] s i:Int)),((b,v,([]:aC),(0:Int),([]:List PP),([]:List PP)):UU))else some ((0:Int),(0:UInt8),(s,(cM [59] s i:Int)),((b,v,([]:aC),(0:Int),([]:List PP),([]:List PP)):UU))))=
   some (a,(if d=[]then((5,[]):UInt8×aC)else if 30<d.length then(4,[])else(0,v)).1,c,u)/\((if d=[]then((5,[]):UInt8×aC)else if 30<d.length then(4,[])else(0,v)).1=0->c=(s,(cM [59] s i:Int))/\u=(b,(if d=[]then((5,[]):UInt8×aC)else if 30<d.length then(4,[])else(0,v)).2,[],0,[],[])):=by
  intro d v t C;rw [C];by_cases n:d=[]
  ·rw [aB n,aB n];exact⟨_,_,_,aA0,aA0,rfl,fun h=>absurd h aA1⟩
  ·rw [aA n,aA n];by_cases m:30<d.length
   ·rw [aB aA0,aB m];exact⟨_,_,_,aA0,aA0,rfl,fun h=>absurd h aA1⟩
   ·rw [aA aA0,aA m];exact⟨_,_,_,aA0,aA0,rfl,fun _=>⟨rfl,rfl⟩⟩
 unfold ais qW;simp only;rw [di s aA0 i r _ aA1 aA1,aY,FM,aY];cases l:fJ s i 43 with
 |true=>
  have o:=(Nu l).1;have kX:=(Nu l).2;have B:=VF [59] s i o (by rw [kX];decide);have z:=jZ [59] s (i+1);rw [aL,bA aA1,bA (eT _ aA0 aA0),aY,Ot,aB rfl];simp only;obtain⟨j,p,e⟩:=JR s q (i:Int) (b,[],[],0,[],[]) (cM [59] s i) k true (cM [59] s i-(i+1)) (i+1) FU ([]++[43]) aA0 aA6 (by simp only [mQ,bR,eO];omega);rw [p,aY];cases g:Pv true (sub s ((i+1:Nat):Int) ((cM [59] s i:Nat):Int))with
  |none=>rw [g]at e;obtain⟨a,c,w,y,x,rfl⟩:=e;rw [Yd];exact⟨_,_,_,aA0,aA0,rfl,fun h=>absurd h aA1⟩
  |some d=>rw [g]at e;simp only at e;subst e;rw [pR];simp only [fM];exact f d _ [] (by show eJ (43::d) [43]=d;unfold eJ eZ;simp)
 |false=>
  rw [aG,aY,aA (show¬(false=true)by decide)];simp only;obtain⟨j,p,e⟩:=JR s q (i:Int) (b,[],[],0,[],[]) (cM [59] s i) k false (cM [59] s i-i) i FU [] aA0 aA6 aA2;rw [p,aY];cases g:Pv false (sub s (i:Int) ((cM [59] s i:Nat):Int))with
  |none=>rw [g]at e;obtain⟨a,c,w,y,x,rfl⟩:=e;rw [Yd];exact⟨_,_,_,aA0,aA0,rfl,fun h=>absurd h aA1⟩
  |some d=>
   rw [g]at e;simp only at e;subst e;rw [pR];simp only;try rw [aA (show¬(false=true)by decide)]
   try simp only [pQ,cX]
   rw [mQ];exact f d d [] (Lm _ _ g)
def rQ:UU:=([],[],[],0,[],[])
theorem Vq(st s:aC):∀(f i:Nat) (l:List PP),l.length<=16->(qG st s f i l).2.2.length<=16
 |0,i,l,h=>h
 |f+1,i,l,h=>by
  unfold qG;split
  ·split
   ·rename_i a;have:=Hx a;exact Vq st s f _ _ aB2
   ·exact dL _
  ·exact h
theorem Wp(s:aC):∀(f i:Nat) (l:List PP),l.length<=16->(Gd s f i l).2.length<=16
 |0,i,l,h=>h
 |f+1,i,l,h=>by
  unfold Gd;split
  ·split
   ·rename_i a;have:=Hx a;exact Wp s f _ _ aB2
   ·exact dL _
  ·exact h
theorem YA(st s:aC):∀(f i:Nat) (l:List PP),i<=s.length->(qG st s f i l).1=0->(qG st s f i l).2.1<=s.length
 |0,i,l,h,_=>h
 |f+1,i,l,h,a=>by
  unfold qG at a⊢;split
  ·rename_i b;rw [aB b]at a;split
   ·rename_i c;rw [aB c]at a;exact YA st s f _ _ (NG st s _ (Nu b).1) a
   ·exact dL _
  ·exact h
def mV (st s b c h : aC) (a : Int) (i : Nat) : UInt8 × UU :=
  if (qG st s (s.length + 1) i []).1 = 0 then
    (if (Gd s (s.length + 1) (qG st s (s.length + 1) i []).2.1 []).1 = 0 then (0, (b, c, h, a, dW (qG st s (s.length + 1) i []).2.2, dW (Gd s (s.length + 1) (qG st s (s.length + 1) i []).2.1 []).2))
     else ((Gd s (s.length + 1) (qG st s (s.length + 1) i []).2.1 []).1, rQ))
  else ((qG st s (s.length + 1) i []).1, rQ)
abbrev PV:=Int×UInt8×aC×aC×Int×aC×aC×aC×Int×List PP×List PP
def KM(v:PV):Option (UU×Int×UInt8):=((xk FU v FU v.1 v.2.1 v.2.2.2.1 v.2.2.2.2.1 v.2.2.2.2.2.2.2.2.2.1)).bind fun(a:(Int×UInt8×aC×Int×(List PP)))=>(((xl FU FU a.1 a.2.1 a.2.2.1 a.2.2.2.1 v.2.2.2.2.2.2.2.2.2.2)).bind fun(b:(Int×UInt8×aC×Int×(List PP)))=>(if b.2.1=(0:UInt8)then((dq FU a.2.2.2.2).bind fun(d:List PP)=>((dq FU b.2.2.2.2).bind fun(c:List PP)=>some ((v.2.2.2.2.2.1,v.2.2.2.2.2.2.1,v.2.2.2.2.2.2.2.1,v.2.2.2.2.2.2.2.2.1,d,c),(0:Int),(0:UInt8))))else some ((([]:aC),([]:aC),([]:aC),(0:Int),([]:List PP),([]:List PP)),b.1,b.2.1)))
theorem YW(b:Nat)(d:0<b)(a:Int)(e:UInt8)(c:¬e=0)(x:aC)(i:Int)(l:List PP):xl FU b a e x i l=some (a,e,x,i,l):=by obtain⟨b,rfl⟩:=dY b;rw [akr,xp,aA c,aY,aG]
theorem pj(v:PV)(b:Nat)(d:0<b)(a:Int)(e:UInt8)(c:¬e=0)(x:aC)(i:Int)(l:List PP):xk FU v b a e x i l=some (a,e,x,i,l):=by obtain⟨b,rfl⟩:=dY b;rw [aks,xo,aA c,aY,aG]
theorem Vc(v:PV)(a:¬v.2.1=0):KM v=some (rQ,v.1,v.2.1):=by unfold KM;rw [pj v FU aA6 _ _ a,aY];simp only;rw [YW FU aA6 _ _ a,aY];simp only;rw [aA a];rfl
theorem KL(s:aC)(n:s.length<=4194303)(st:aC)(u:st.length<=1000)(t:st.all (fun b=>decide (b.toNat<128))=true)(a:Int)(m:0<=a)(l:a<=5000000)(e j h:aC)(d:Int)(i:Nat)(o:i<=s.length):
  ∃a',0<=a'/\a'<=5000000/\KM (a,0,st,s,(i:Int),e,j,h,d,[],[])=some ((mV st s e j h d i).2,a',(mV st s e j h d i).1):=by
 unfold KM mV;simp only;obtain⟨A,c,F,D,z,y,x,p⟩:=PK s n (a,0,st,s,(i:Int),e,j,h,d,[],[]) u t s.length i FU (s.length+1) [] a m l aA0 aA6 aA0 o aA2;rw [x,aY];simp only at p⊢;by_cases f:(qG st s (s.length+1) i []).1=0
 ·obtain⟨rfl,rfl,rfl⟩:=p f;have k:=YA st c (c.length+1) i [] o f;have r:=Vq st c (c.length+1) i [] aA2;have q:=Wp c (c.length+1) (qG st c (c.length+1) i []).2.1 [] aA2;obtain⟨I,B,E,C,H,G,w,v⟩:=QR c n c.length (qG st c (c.length+1) i []).2.1 FU (c.length+1) [] A z y aA0 aA6 aA0 k aA2;rw [f,w,aY,aB rfl];simp only;by_cases g:(Gd c (c.length+1) (qG st c (c.length+1) i []).2.1 []).1=0
  ·rw [aB g,aB g,v g,pJ _ aA0,aY,pJ _ aA0,aY];exact⟨_,aA0,aA0,rfl⟩
  ·rw [aA g,aA g];exact⟨_,aA0,aA0,rfl⟩
 ·rw [aA f,YW FU aA6 _ _ f,aY];simp only;rw [aA f];exact⟨_,aA0,aA0,rfl⟩
def K6:aC:=[115,105,112]
def Xy:aC:=[115,105,112,115]
def kq:aC:=[116,101,108]
def Tl (s : aC) : UInt8 × UU :=
  if 1024 < s.length then (4, rQ) else if cM [58] s 0 < s.length then
    (if dH (s.take (cM [58] s 0)) = K6 \/ dH (s.take (cM [58] s 0)) = Xy then
      (if (wE s (cM [58] s 0 + 1)).1 = 0 then mV [59, 63] s (dH (s.take (cM [58] s 0))) (wE s (cM [58] s 0 + 1)).2.1 (wE s (cM [58] s 0 + 1)).2.2.1 (wE s (cM [58] s 0 + 1)).2.2.2.1 (wE s (cM [58] s 0 + 1)).2.2.2.2 else ((wE s (cM [58] s 0 + 1)).1, rQ))
     else if dH (s.take (cM [58] s 0)) = kq then
      (if (qW s (cM [58] s 0 + 1)).1 = 0 then mV [59] s (dH (s.take (cM [58] s 0))) (qW s (cM [58] s 0 + 1)).2 [] 0 (cM [59] s (cM [58] s 0 + 1)) else ((qW s (cM [58] s 0 + 1)).1, rQ))
     else (15, rQ))
  else (5, rQ)
theorem ZZ(s:aC)(i:Nat)(b:i<=s.length):(Oo s i).2.2.2<=s.length:=by
 have c:=ML s i b;unfold Oo;split
 ·exact dL _
 ·split
  ·rename_i a;split
   ·exact NG [59,63] s _ (Nu a).1
   ·exact dL _
  ·split
   ·exact dL _
   ·exact c.2
theorem oo(s:aC)(i:Nat)(a:i<=s.length):(wE s i).2.2.2.2<=s.length:=by
 unfold wE;split
 ·split
  ·exact ZZ s _ aA0
  ·exact dL _
 ·exact ZZ s i a
theorem YE(s:aC):∃a,0<=a/\a<=5000000/\apq FU s=some ((Tl s).2,a,(Tl s).1):=by
 unfold apq Tl;by_cases r:1024<s.length
 ·rw [aB aA0,aB r];exact⟨_,aA0,aA0,rfl⟩
 ·rw [aA aA0,aA r];have t:=zc 58 s 0;rw [SR,Gz]at t;rcases dh (·==(58:UInt8)) s with⟨w,v⟩|⟨w,v,x⟩
  ·rw [aB aA0,aA aA0];exact⟨_,aA0,aA0,rfl⟩
  ·have n:dT (·==(58:UInt8)) s=((cM [58] s 0:Nat):Int):=by omega
   rw [n];have g:cM [58] s 0<s.length:=aA0
   generalize cM [58] s 0=c at g⊢;rw [aA aA0,aB g,bA (eT _ aA0 aA0),bA aA0,iY,N6 _ aC4,aY,Ot];generalize dH (s.take c)=b;have q:(if b=([115,105,112]:aC)then some (decide (b=([115,105,112]:aC)))else some (decide (b=([115,105,112,115]:aC))))=some (decide (b=K6\/b=Xy)):=by
    by_cases i:b=K6
    ·rw [aB (show b=([115,105,112]:aC)from i),aK (show b=([115,105,112]:aC)from i),aK (Or.inl i)]
    ·rw [aA (show¬b=([115,105,112]:aC)from i)];congr 1;rw [eH];exact⟨Or.inr,fun h=>h.resolve_left i⟩
   rw [q,aY];by_cases e:b=K6\/b=Xy
   ·obtain⟨a,j,u,l,k,p,o⟩:=XX s aA0 (c+1) g b;rw [aK e,aL,aB e,p,aY,aY];by_cases f:(wE s (c+1)).1=0
    ·obtain⟨rfl,rfl⟩:=o f;rw [aB f,f];have m:(wE s (c+1)).2.2.2.2<=s.length:=oo s (c+1) g;exact KL s aA0 [59,63] aA1 aA1 a l k b _ _ _ _ m
    ·rw [aA f];exact⟨_,l,k,Vc (a,(wE s (c+1)).1,[59,63],j.1,j.2,u) f⟩
   ·rw [aO e,aG,aA e];by_cases d:b=kq
    ·obtain⟨a,j,u,l,k,p,o⟩:=mh s aA0 (c+1) g b;rw [aB (show b=([116,101,108]:aC)from d),aB d,p,aY,aY];by_cases f:(qW s (c+1)).1=0
     ·obtain⟨rfl,rfl⟩:=o f;rw [aB f,f];exact KL s aA0 [59] aA1 aA1 a l k b _ _ _ _ (NG [59] s (c+1) g)
     ·rw [aA f];exact⟨_,l,k,Vc (a,(qW s (c+1)).1,[59],j.1,j.2,u) f⟩
    ·rw [aA (show¬b=([116,101,108]:aC)from d),aA d,aY];exact⟨_,qE 0,(show(0:Int)<=5000000 by decide),Vc (0,15,[59,63],s,((c+1:Nat):Int),b,[],[],0,[],[]) (show¬(15:UInt8)=0 by decide)⟩
end Go.Wk
