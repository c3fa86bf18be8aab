/-
  The law BodiesBack holds (part 4 of 9).
-/
import Derived.Test.YtomjpealmhpciaaGreatDoorYe3
import Derived.Laws.Bits64
open Bool renaming false → η, true → ζ
open List renaming length → γ
open Option renaming none → ε, some → δ
set_option linter.unusedVariables false
set_option linter.unusedSimpArgs false
set_option maxRecDepth 20000
set_option maxHeartbeats 1000000
namespace Go.Wk
open Go.Px
open Int renaming toNat → bF
open List renaming set → gQ
open Sum renaming elim → eN
def asz(fu:Nat)(c:UInt8)(d:Bool):Option (UInt8×Bool):=
 (bif d then((amd fu c).bind λb=>δ (b,(decide (b=45))))else((ajn fu c).bind λa=>δ (a,(decide (a=45)))))
def adq(fu:Nat)(s_0:aC)(e:aC->Int->Bool->Option (aC×Bool))(b:aC)(a:Int)(d:Bool):Option (aC×Bool):=
 (if a<γ s_0 then(gd (0<=a/\a<γ b)<|(gd (0<=a/\a<γ b)<|((asz fu (at_ b a) d).bind λc=>(gd (0<=a/\a<γ b)<|(gd (0<=a/\a<γ b)<|(gd (acl (a+1))<|(e (gQ b (bF a) c.1) (a+1) c.2)))))))else δ (b,d))
def ady(fu:Nat)(s_0:aC):Nat->aC->Int->Bool->Option (aC×Bool):=λd c b a=>bN (λg v=>adq fu s_0 (λc b a=>g (c,b,a)) v.1 v.2.1 v.2.2) d (c,b,a)
variable {a:Nat}{d:aC}{b:Nat}{o:aC}{c:Int}{k:Bool}
theorem ajo:ady a d (b+1) o c k=adq a d (ady a d b) o c k:=rfl
def adn(fu:Nat)(s_0:aC)(b:Bool):Option (aC×Bool):=
 (((ady fu s_0 fu s_0 0 b)).bind λa=>δ (a.1,a.2))
def vU(fu:Nat)(d:aC)(c:Int->Option (Unit⊕(aC×UInt8)))(a:Int):Option (Unit⊕(aC×UInt8)):=
 (if a<7 then(gd (0<=a/\a<γ W6)<|((adc fu (el W6 a)).bind λb=>(if b=d then δ (.inr (el W6 a,0))else(gd (acl (a+1))<|(c (a+1))))))else δ (.inl ()))
def ajp(fu:Nat)(c:aC):Nat->Int->Option (Unit⊕(aC×UInt8)):=λb a=>bN (λg v=>vU fu c (λa=>g a) v) b a
def RL(fu:Nat)(a:aC):Option (aC×UInt8):=
 ((((XL fu a).bind λi=>(bif (!i)then δ ζ else δ (decide (64<(γ a:Int)))))).bind λh=>(bif h then δ ([],5)else(((if γ a=(1:Int)then(gd (0<=(0:Int)/\0<(γ a:Int))<|((ajn fu (at_ a 0)).bind λg=>((arx fu g).bind λb=>(if b=[]then δ (.inl ())else δ (.inr (b,0))))))else δ (.inl ()))).bind λf=>eN (λk=>((adc fu a).bind λe=>(((ajp fu e fu 0)).bind λd=>eN (λj=>((adn fu a ζ).bind λc=>δ (c.1,0))) (λq=>δ q) d))) (λq=>δ q) f)))
def anc(fu:Nat)(c:aC)(b:Int->Option (Unit⊕Int))(a:Int):Option (Unit⊕Int):=
 (if a<31 then(gd (0<=a/\a<31)<|(gd (0<=a/\a<γ Iq)<|(if((el Iq a).1)=c then(gd (0<=a/\a<31)<|(gd (0<=a/\a<γ Iq)<|some (.inr ((el Iq a).2))))else(gd (acl (a+1))<|(b (a+1))))))else δ (.inl ()))
def apg(fu:Nat)(c:aC):Nat->Int->Option (Unit⊕Int):=λb a=>bN (λg v=>anc fu c (λa=>g a) v) b a
theorem awy:apg a d (b+1) c=anc a d (apg a d b) c:=rfl
def tc(fu:Nat)(b:aC):Option Int:=
 (((apg fu b fu 0)).bind λa=>eN (λc=>δ 0) (λq=>δ q) a)
def apf(fu:Nat)(a:aC):Option Bool:=
 (((if a=([67,111,110,116,97,99,116])then(if a=([67,111,110,116,97,99,116])then δ (.inr ζ)else δ (.inl ()))else(if a=([80,97,116,104])then(if a=([80,97,116,104])then δ (.inr ζ)else δ (.inl ()))else(if a=([82,101,99,111,114,100,45,82,111,117,116,101])then(if a=([82,101,99,111,114,100,45,82,111,117,116,101])then δ (.inr ζ)else δ (.inl ()))else(if a=([82,111,117,116,101])then(if a=([82,111,117,116,101])then δ (.inr ζ)else δ (.inl ()))else(if a=([83,101,114,118,105,99,101,45,82,111,117,116,101])then δ (.inr ζ)else δ (.inl ()))))))).bind λd=>eN (λe=>((tc fu a).bind λb=>(((if b=2 then δ ζ else δ (decide (b=7)))).bind λc=>δ c))) (λq=>δ q) d)
def XK(fu:Nat)(s_0:aC):Option aC:=
 (gd (γ s_0<=1000000000)<|gd (γ ([32,9]:aC)<=1000/\([32,9]:aC).all (λb=>decide (b.toNat<128))=ζ)<|some (Lib.trimS s_0 ([32,9])))
def ab(fu:Nat)(a:(aC×Int)):Option (aC×Int):=
 ((mi fu a.1 a.2).bind λb=>δ (a.1,b))
def tj(fu:Nat)(a:(aC×Int)):Option Bool:=
 δ (decide (γ a.1<=a.2))
open Go.Lib renaming indexAny → Dc, join → cY
open List renaming drop → cG, set → gQ
def Ir(fu:Nat)(a:(aC×Int))(d:UInt8):Option Bool:=
 ((((tj fu a).bind λc=>(bif (!c)then(gd (0<=a.2/\a.2<γ a.1)<|some (decide ((at_ a.1 a.2)=d)))else δ η))).bind λb=>δ b)
def anb(fu:Nat)(a:UInt8):Option Bool:=
 (((if 32<=a then δ (decide (a<=126))else δ η)).bind λb=>δ b)
def ajx(fu:Nat)(s_0:aC)(c:(List UInt8)->Int->Option (((List UInt8)×Int)⊕(aC×Int×UInt8)))(b:List UInt8)(a:Int):Option (((List UInt8)×Int)⊕(aC×Int×UInt8)):=
 (if a<γ s_0 then(gd (0<=a/\a<γ s_0)<|(if(at_ s_0 a)=34 then δ (.inl (b,a))else(if(at_ s_0 a)=92 then(gd (acl (a+1))<|(if(a+1)=γ s_0 then δ (.inr ([],γ s_0,6))else(gd (acl (a+1))<|(gd (0<=(a+1)/\(a+1)<γ s_0)<|((anb fu (at_ s_0 (a+1))).bind λe=>(bif (!e)then δ (.inr ([],a,5))else(gd (acl (a+1))<|(gd (0<=(a+1)/\(a+1)<γ s_0)<|(gd ((γ b+γ ([at_ s_0 (a+(1:Int))]))*1<=140737488355328)<|(gd (acl ((a+1)+1))<|(c (b++([at_ s_0 (a+(1:Int))])) ((a+1)+1))))))))))))else((ahr fu (at_ s_0 a)).bind λd=>(bif d then δ (.inr ([],a,5))else(gd (0<=a/\a<γ s_0)<|(gd ((γ b+γ ([at_ s_0 a]))*1<=140737488355328)<|(gd (acl (a+1))<|(c (b++([at_ s_0 a])) (a+1))))))))))else δ (.inl (b,a)))
def apc(fu:Nat)(s_0:aC):Nat->(List UInt8)->Int->Option (((List UInt8)×Int)⊕(aC×Int×UInt8)):=λc b a=>bN (λg v=>ajx fu s_0 (λb a=>g (b,a)) v.1 v.2) c (b,a)
variable {e:List UInt8}
theorem arl:apc a d (b+1) e c=ajx a d (apc a d b) e c:=rfl
def anu(fu:Nat)(s_0:aC)(a:Int):Option (aC×Int×UInt8):=
 (((if a<0 then δ ζ else δ (decide (γ s_0<a)))).bind λc=>(bif c then δ ([],0,2)else(((if a=γ s_0 then δ ζ else(gd (0<=a/\a<γ s_0)<|some (!decide ((at_ s_0 a)=34))))).bind λe=>(bif e then δ ([],a,5)else(gd (acl (a+1))<|(((apc fu s_0 fu [] (a+1))).bind λd=>eN (λb=>(if(γ s_0:Int)<=b.2 then δ ([],γ s_0,6)else(gd (acl (b.2+1))<|some (b.1,b.2+1,0)))) (λq=>δ q) d))))))
def aho(fu:Nat)(d:(aC×Int))(b:AQ):Option (Int×UInt8×(aC×Int)×AQ):=
 ((anu fu d.1 d.2).bind λa=>(if a.2.2=0 then((ab fu (d.1,a.2.1)).bind λc=>((Ir fu c 60).bind λe=>(bif (!e)then δ (c.2,5,c,(a.1,b.2.1,b.2.2))else δ (0,0,c,(a.1,b.2.1,b.2.2)))))else δ (a.2.1,a.2.2,d,b)))
def afr(fu:Nat)(a:(aC×Int)):Option (aC×(aC×Int)):=
 ((mo fu a.1 a.2).bind λb=>(gd (0<=a.2/\a.2<=b/\b<=γ a.1)<|some (sub a.1 a.2 b,(a.1,b))))
def afl(fu:Nat)(h:AQ)(g:(List aC)->aC->Int->Option (((List aC)×aC×Int)⊕(Int×UInt8×(aC×Int)×AQ)))(d:List aC)(c:aC)(b:Int):Option (((List aC)×aC×Int)⊕(Int×UInt8×(aC×Int)×AQ)):=
 ((Ir fu (c,b) 60).bind λf=>(bif (!f)then((afr fu (c,b)).bind λa=>(if a.1=[]then δ (.inr (a.2.2,5,a.2,h))else(gd ((γ d+[a.1].length)*16<=140737488355328)<|((ab fu a.2).bind λe=>(g (d++[a.1]) e.1 e.2)))))else δ (.inl (d,c,b))))
def afo(fu:Nat)(e:AQ):Nat->(List aC)->aC->Int->Option (((List aC)×aC×Int)⊕(Int×UInt8×(aC×Int)×AQ)):=λd c b a=>bN (λg v=>afl fu e (λc b a=>g (c,b,a)) v.1 v.2.1 v.2.2) d (c,b,a)
variable {i:List aC}
theorem amy{e:AQ}:afo a e (b+1) i d c=afl a e (afo a e b) i d c:=rfl
def aed(fu:Nat)(c:(aC×Int))(b:AQ):Option (Int×UInt8×(aC×Int)×AQ):=
 (((afo fu b fu [] c.1 c.2)).bind λd=>eN (λa=>(gd (γ a.1<=1000000000/\γ (cY a.1 [32])<=100000000000)<|some (0,0,a.2,(cY a.1 [32],b.2.1,b.2.2)))) (λq=>δ q) d)
def AS(fu:Nat)(c:aC)(a:Int)(d:aC):Option Int:=
 (gd (0<=a/\a<=γ c)<|(gd (γ (cG (bF a) c)<=1000000000/\γ d<=1000/\d.all (λb=>decide (b.toNat<128))=ζ)<|(if 0<=(Dc (cG (bF a) c) d)then(gd (acl (a+(Dc (cG (bF a) c) d)))<|some (a+(Dc (cG (bF a) c) d)))else δ (γ c))))
def ani(fu:Nat)(s_0:aC)(c:aC->Int->Option aC)(b:aC)(a:Int):Option aC:=
 (if a<γ s_0 then(gd (0<=a/\a<γ b)<|(gd (0<=a/\a<γ b)<|(((if 65<=(at_ b a)then δ (decide ((at_ b a)<=90))else δ η)).bind λd=>(bif d then(gd (0<=a/\a<γ b)<|(gd (0<=a/\a<γ b)<|(gd (acl (a+1))<|(c (gQ b (bF a) ((at_ b a)+32)) (a+1)))))else(gd (acl (a+1))<|(c b (a+1)))))))else δ b)
def apm(fu:Nat)(s_0:aC):Nat->aC->Int->Option aC:=λc b a=>bN (λg v=>ani fu s_0 (λb a=>g (b,a)) v.1 v.2) c (b,a)
theorem axb:apm a d (b+1) o c=ani a d (apm a d b) o c:=rfl
def WI(fu:Nat)(s_0:aC):Option aC:=
 (((apm fu s_0 fu s_0 0)).bind λa=>δ a)
open List renaming take → jV
def alq(fu:Nat)(a:UInt8):Option Bool:=
 (((if 97<=a then(if a<=122 then δ ζ else(if 65<=a then δ (decide (a<=90))else δ η))else(if 65<=a then δ (decide (a<=90))else δ η))).bind λb=>δ b)
def XM(fu:Nat)(a:UInt8):Option Bool:=
 (((if 48<=a then δ (decide (a<=57))else δ η)).bind λb=>δ b)
def aom(fu:Nat)(b:UInt8)(a:Int):Option Bool:=
 ((((alq fu b).bind λf=>(bif f then δ ζ else((XM fu b).bind λe=>(bif e then δ ζ else δ (decide (0<=(dP (·==b) ([45,95,46,33,126,42,39,40,41]))))))))).bind λd=>(bif d then δ ζ else(((if 0<=a then(if a<=2 then(gd (0<=a/\a<3)<|(gd (0<=a/\a<γ z7)<|some (decide (0<=(dP (·==b) (el z7 a))))))else δ η)else δ η)).bind λc=>δ c)))
def tf(fu:Nat)(a:UInt8):Option (UInt8×Bool):=
 ((XM fu a).bind λb=>(bif b then δ (a-48,ζ)else(((if 97<=a then δ (decide (a<=102))else δ η)).bind λd=>(bif d then δ ((a-97)+10,ζ)else(((if 65<=a then δ (decide (a<=70))else δ η)).bind λc=>(bif c then δ ((a-65)+10,ζ)else δ (0,η)))))))
def aml(fu:Nat)(s_0:aC)(a:Int):Option (UInt8×Bool):=
 (((gd (acl (a+2))<|(if γ s_0<=(a+2)then δ ζ else(gd (0<=a/\a<γ s_0)<|some (!decide ((at_ s_0 a)=37)))))).bind λd=>(bif d then δ (0,η)else(gd (acl (a+1))<|(gd (0<=(a+1)/\(a+1)<γ s_0)<|((tf fu (at_ s_0 (a+1))).bind λc=>(gd (acl (a+2))<|(gd (0<=(a+2)/\(a+2)<γ s_0)<|((tf fu (at_ s_0 (a+2))).bind λb=>(((bif c.2 then δ b.2 else δ η)).bind λe=>δ ((SU c.1 4)|||b.1,e))))))))))
def asc(fu:Nat)(a:UInt8):Option Bool:=
 (((if a<32 then(if a=9 then δ (decide (a=127))else δ ζ)else δ (decide (a=127)))).bind λv6=>δ v6)
def aff(fu:Nat)(c:(aC×Int))(b:Int)(i:Int)(e:Int->Option (Unit⊕(Int×Bool)))(a:Int):Option (Unit⊕(Int×Bool)):=
 (if a<b then(gd (0<=a/\a<γ c.1)<|((aom fu (at_ c.1 a) i).bind λh=>(bif h then(gd (acl (a+1))<|(e (a+1)))else(gd (0<=b/\b<=γ c.1)<|((aml fu (jV (bF b) c.1) a).bind λd=>(((bif (!d.2)then δ ζ else((asc fu d.1).bind λg=>δ g))).bind λf=>(bif f then δ (.inr (a,ζ))else(gd (acl (a+2))<|(gd (acl ((a+2)+1))<|(e ((a+2)+1)))))))))))else δ (.inl ()))
def aia(fu:Nat)(e:(aC×Int))(d:Int)(c:Int):Nat->Int->Option (Unit⊕(Int×Bool)):=λb a=>bN (λg v=>aff fu e d c (λa=>g a) v) b a
variable {s:(aC×Int)}{f q:Int}
theorem akf:aia a s c f (b+1) q=aff a s c f (aia a s c f b) q:=rfl
def afq(fu:Nat)(a:(aC×Int))(d:Int)(c:Int):Option (Int×Bool):=
 (((aia fu a d c fu a.2)).bind λb=>eN (λe=>δ (0,η)) (λq=>δ q) b)
def ahq(fu:Nat)(s_0:aC)(d:(List UInt8)->Int->Option ((List UInt8)⊕(aC×Int×UInt8)))(b:List UInt8)(a:Int):Option ((List UInt8)⊕(aC×Int×UInt8)):=
 (if a<γ s_0 then(gd (0<=a/\a<γ s_0)<|(if(at_ s_0 a)=37 then((aml fu s_0 a).bind λc=>(bif (!c.2)then δ (.inr ([],a,5))else(gd ((γ b+[c.1].length)*1<=140737488355328)<|(gd (acl (a+2))<|(gd (acl ((a+2)+1))<|(d (b++[c.1]) ((a+2)+1)))))))else(gd (0<=a/\a<γ s_0)<|(gd ((γ b+γ ([at_ s_0 a]))*1<=140737488355328)<|(gd (acl (a+1))<|(d (b++([at_ s_0 a])) (a+1)))))))else δ (.inl b))
def aih(fu:Nat)(s_0:aC):Nat->(List UInt8)->Int->Option ((List UInt8)⊕(aC×Int×UInt8)):=λc b a=>bN (λg v=>ahq fu s_0 (λb a=>g (b,a)) v.1 v.2) c (b,a)
theorem aop:aih a d (b+1) e c=ahq a d (aih a d b) e c:=rfl
def avi(fu:Nat)(s_0:aC):Option (aC×Int×UInt8):=
 (@gd _ (0<=(γ s_0:Int)/\1*(γ s_0:Int)<=281474976710656) (dMk 1 (γ s_0))<|(((aih fu s_0 fu [] 0)).bind λb=>eN (λ(a:List UInt8)=>δ (a,0,0)) (λq=>δ q) b))
open Go.Lib renaming cut → eD, index → cK, itoa → dU, join → cY, trimLeftS → AZ
open List renaming drop → cG, set → gQ, take → jV
def akr(fu:Nat)(s_0:aC):Option aC:=
 ((avi fu s_0).bind λa=>δ a.1)
def agt(fu:Nat)(c:List aC)(b:Int)(e:Int->Option (Unit⊕((List aC)×Bool)))(a:Int):Option (Unit⊕((List aC)×Bool)):=
 (if a<(γ (el c b))then(gd (0<=a/\a<(γ (el c b)))<|((tf fu (at_ (el c b) a)).bind λd=>(bif (!d.2)then δ (.inr ([],η))else(gd (acl (a+1))<|(e (a+1))))))else δ (.inl ()))
def ahm(fu:Nat)(d:List aC)(c:Int):Nat->Int->Option (Unit⊕((List aC)×Bool)):=λb a=>bN (λg v=>agt fu d c (λa=>g a) v) b a
theorem amw:ahm a i c (b+1) f=agt a i c (ahm a i c b) f:=rfl
def ajq(fu:Nat)(s_0:aC)(i:(List aC)->Int->Option ((List aC)⊕((List aC)×Bool)))(c:List aC)(a:Int):Option ((List aC)⊕((List aC)×Bool)):=
 (if a<(γ (cR 58 s_0))then(((gd (0<=a/\a<γ c)<|(gd (0<=a/\a<γ c)<|(((if(γ (el c a))<(1:Int)then δ ζ else δ (decide (4<(γ (el c a):Int))))).bind λh=>(bif h then δ (.inr ([],η))else(((ahm fu c a fu 0)).bind λg=>eN (λj=>((WI fu (el c a)).bind λd=>(gd (γ d<=1000000000)<|gd (γ ([48]:aC)<=1000/\([48]:aC).all (λb=>decide (b.toNat<128))=ζ)<|(if(AZ d [48])=[]then(gd (0<=a/\a<γ c)<|(gd (0<=a/\a<γ c)<|some (.inl (gQ c (bF a) [48]))))else(gd (0<=a/\a<γ c)<|(gd (0<=a/\a<γ c)<|some (.inl (gQ c (bF a) (AZ d [48]))))))))) (λq=>δ (.inr q)) g)))))).bind λf=>eN (λe=>(gd (acl (a+1))<|(i e (a+1)))) (λq=>δ (.inr q)) f)else δ (.inl c))
def afk(fu:Nat)(s_0:aC):Nat->(List aC)->Int->Option ((List aC)⊕((List aC)×Bool)):=λc b a=>bN (λg v=>ajq fu s_0 (λb a=>g (b,a)) v.1 v.2) c (b,a)
theorem asv:afk a d (b+1) i c=ajq a d (afk a d b) i c:=rfl
def agi(fu:Nat)(s_0:aC):Option ((List aC)×Bool):=
 (gd (γ s_0<=1000000000)<|(((afk fu s_0 fu (cR 58 s_0) 0)).bind λb=>eN (λa=>δ (a,ζ)) (λq=>δ q) b))
def atb(fu:Nat)(s_0:aC):Option (aC×Bool):=
 (if 39<(γ s_0:Int)then δ ([],η)else(gd (γ s_0<=1000000000)<|(bif (!((eD s_0 ([58,58])).2.2))then((agi fu s_0).bind λc=>(((gd (γ c.1<=1000000000/\γ (cY c.1 [58])<=100000000000)<|(bif c.2 then δ (cY c.1 [58],(decide (γ c.1=(8:Int))))else δ (cY c.1 [58],η)))).bind λ(f:(aC×Bool))=>δ (f.1,f.2)))else(((if((eD s_0 ([58,58])).1)=[]then δ ([],ζ)else((agi fu ((eD s_0 ([58,58])).1)).bind λe=>δ (e.1,e.2)))).bind λa=>(((if((eD s_0 ([58,58])).2.1)=[]then δ ([],ζ)else((agi fu ((eD s_0 ([58,58])).2.1)).bind λd=>δ (d.1,d.2)))).bind λb=>(((bif (!a.2)then δ ζ else(bif (!b.2)then δ ζ else(gd (acl (γ a.1+γ b.1))<|some (decide (7<(γ a.1+(γ b.1:Int)))))))).bind λg=>(bif g then δ ([],η)else(gd (γ a.1<=1000000000/\γ (cY a.1 [58])<=100000000000)<|(gd (γ (cY a.1 [58])+γ ([58,58]:aC)<=9223372036854775807)<|(gd (γ b.1<=1000000000/\γ (cY b.1 [58])<=100000000000)<|(gd (γ ((cY a.1 [58])++([58,58]))+γ (cY b.1 [58])<=9223372036854775807)<|some (((cY a.1 [58])++([58,58]:aC))++(cY b.1 [58]),ζ))))))))))))
def alg(fu:Nat)(s_0:aC)(b:Int)(e:Int->Int->Option (Int⊕Bool))(c:Int)(a:Int):Option (Int⊕Bool):=
 (if a<(γ (el (cR 46 s_0) b))then(gd (0<=a/\a<(γ (el (cR 46 s_0) b)))<|((XM fu (at_ (el (cR 46 s_0) b) a)).bind λd=>(bif (!d)then δ (.inr η)else(gd (acl (10*c))<|(gd (0<=a/\a<(γ (el (cR 46 s_0) b)))<|(gd (acl ((10*c)+(((at_ (el (cR 46 s_0) b) a)-48).toNat)))<|(gd (acl (a+1))<|(e ((10*c)+(((at_ (el (cR 46 s_0) b) a)-48).toNat)) (a+1)))))))))else δ (.inl c))
def ajf(fu:Nat)(s_0:aC)(d:Int):Nat->Int->Int->Option (Int⊕Bool):=λc b a=>bN (λg v=>alg fu s_0 d (λb a=>g (b,a)) v.1 v.2) c (b,a)
theorem avg:ajf a d c (b+1) f q=alg a d c (ajf a d c b) f q:=rfl
def alh(fu:Nat)(s_0:aC)(f:Int->Option (Unit⊕Bool))(a:Int):Option (Unit⊕Bool):=
 (if a<(γ (cR 46 s_0))then(((gd (0<=a/\a<(γ (cR 46 s_0)))<|(gd (0<=a/\a<(γ (cR 46 s_0)))<|(((ajf fu s_0 a fu 0 0)).bind λe=>eN (λb=>(((if(el (cR 46 s_0) a)=[]then δ ζ else(if 255<b then δ ζ else(gd (acl b)<|some (!decide ((el (cR 46 s_0) a)=(dU b))))))).bind λd=>(bif d then δ (.inr η)else δ (.inl ())))) (λq=>δ (.inr q)) e)))).bind λc=>eN (λg=>(gd (acl (a+1))<|(f (a+1)))) (λq=>δ (.inr q)) c)else δ (.inl ()))
def ajg(fu:Nat)(s_0:aC):Nat->Int->Option (Unit⊕Bool):=λb a=>bN (λg v=>alh fu s_0 (λa=>g a) v) b a
theorem avh:ajg a d (b+1) c=alh a d (ajg a d b) c:=rfl
def asa(fu:Nat)(s_0:aC):Option Bool:=
 (if 15<(γ s_0:Int)then δ η else(gd (γ s_0<=1000000000)<|(((ajg fu s_0 fu 0)).bind λa=>eN (λb=>δ (decide ((γ (cR 46 s_0))=(4:Int)))) (λq=>δ q) a)))
def aqo(fu:Nat)(s_0:aC)(b:aC)(a:Int):Option (aC×aC×Int):=
 δ (b,s_0,a)
def aqp(fu:Nat)(s_0:aC)(b:aC):Option (aC×aC×Int):=
 ((aqo fu s_0 b 0).bind λa=>δ (a.1,a.2.1,a.2.2))
def ags(fu:Nat)(b:aC)(i:Bool)(d:Int->Bool->Option ((Nat×Bool×Bool)))(a:Int)(c:Bool):Option ((Nat×Bool×Bool)):=
 (if a<γ b then(gd (0<=a/\a<γ b)<|((((alq fu (at_ b a)).bind λh=>(bif (!h)then((XM fu (at_ b a)).bind λg=>(bif (!g)then δ (!decide ((at_ b a)=45))else δ η))else δ η))).bind λf=>(bif f then δ (1,c,η)else(bif c then(gd (acl (a+1))<|(d (a+1) ζ))else((XM fu (at_ b a)).bind λe=>(gd (acl (a+1))<|(d (a+1) (!e))))))))else δ (0,c,i))
def nh(fu:Nat)(e:aC)(d:Bool):Nat->Int->Bool->Option ((Nat×Bool×Bool)):=λc b a=>bN (λg v=>ags fu e d (λb a=>g (b,a)) v.1 v.2) c (b,a)
variable {u:Bool}
theorem amv:nh a d k (b+1) c u=ags a d k (nh a d k b) c u:=rfl
def mx(fu:Nat)(a:aC)(b:Bool)(d:Bool):Option (Nat×Bool×Bool):=
 (((if γ a<(1:Int)then δ ζ else(if 63<(γ a:Int)then δ ζ else(gd (0<=(0:Int)/\0<(γ a:Int))<|(if(at_ a 0)=45 then δ ζ else(gd (acl (γ a-1))<|(gd (0<=(γ a-(1:Int))/\(γ a-1)<(γ a:Int))<|some (decide ((at_ a (γ a-1))=45))))))))).bind λc=>(bif c then δ (1,b,η)else(nh fu a d fu 0 b)))
def aef(fu:Nat)(a:aC)(b:Option Unit):Option Unit:=
 (if 0<(γ a:Int)then ε else δ ())
def acu(fu:Nat)(b:aC):Nat->Option Unit:=λa=>bN (λg v=>aef fu b (g ())) a ()
theorem aos:acu a d (b+1)=aef a d (acu a d b):=rfl
def abu(fu:Nat)(b:aC)(d:Int)(g:Bool->Bool->aC->Option ((Bool×Bool×aC)⊕(Bool×Bool×aC×Nat)))(f:Bool)(e:Bool)(a:aC):Option ((Bool×Bool×aC)⊕(Bool×Bool×aC×Nat)):=
 (gd (γ a<=1000000000)<|(if(cK a b)<0 then δ (.inl (f,e,a))else(gd (acl ((cK a b)+d))<|(gd (0<=((cK a b)+d)/\((cK a b)+d)<=γ a)<|((mx fu (jV (bF ((cK a b)+d)) a) f e).bind λc=>(if c.1=0 then(gd (acl ((cK a b)+γ b))<|(gd (0<=((cK a b)+γ b)/\((cK a b)+γ b)<=γ a)<|(g c.2.1 c.2.2 (cG (bF ((cK a b)+γ b)) a))))else δ (.inr (c.2.1,c.2.2,a,c.1))))))))
def abw(fu:Nat)(f:aC)(e:Int):Nat->Bool->Bool->aC->Option ((Bool×Bool×aC)⊕(Bool×Bool×aC×Nat)):=λd c b a=>bN (λg v=>abu fu f e (λc b a=>g (c,b,a)) v.1 v.2.1 v.2.2) d (c,b,a)
theorem aea:abw a d c (b+1) k u o=abu a d c (abw a d c b) k u o:=rfl
def adi(fu:Nat)(f:Bool)(e:Bool)(d:aC)(c:aC)(i:Int):Option (Bool×Bool×aC×Nat):=
 (((if γ d=(0:Int)then(((acu fu c fu)).bind λk=>δ (.inr (f,e,c,0)))else δ (.inl ()))).bind λh=>eN (λj=>(((abw fu d i fu f e c)).bind λg=>eN (λb=>((mx fu b.2.2 b.1 b.2.1).bind λa=>(if a.1=0 then δ (a.2.1,a.2.2,b.2.2,0)else δ (a.2.1,a.2.2,b.2.2,a.1)))) (λq=>δ q) g)) (λq=>δ q) h)
open Go.Lib renaming trimPrefix → fK
open List renaming drop → cG
def aol(fu:Nat)(s_0:aC):Option Bool:=
 (((if γ s_0<(1:Int)then δ ζ else δ (decide (255<(γ s_0:Int))))).bind λc=>(bif c then δ η else((aqp fu s_0 [46]).bind λb=>((adi fu η η b.1 b.2.1 b.2.2).bind λa=>(if a.2.2.2=0 then δ a.1 else(if a.2.2.2=1 then δ a.2.1 else ε))))))
def aa(fu:Nat)(s_0:aC):Option (aC×Bool):=
 (((if 2<=(γ s_0:Int)then(gd (0<=(0:Int)/\0<(γ s_0:Int))<|(if(at_ s_0 0)=91 then(gd (acl (γ s_0-1))<|(gd (0<=(γ s_0-(1:Int))/\(γ s_0-1)<(γ s_0:Int))<|some (decide ((at_ s_0 (γ s_0-1))=93))))else δ η))else δ η)).bind λb=>(bif b then(gd (acl (γ s_0-1))<|(gd (0<=(1:Int)/\1<=(γ s_0-(1:Int))/\(γ s_0-1)<=(γ s_0:Int))<|((atb fu (sub s_0 1 (γ s_0-1))).bind λa=>(bif (!a.2)then δ ([],η)else(gd (γ ([91]:aC)+γ a.1<=9223372036854775807)<|(gd (γ ([91]++a.1)+γ ([93]:aC)<=9223372036854775807)<|some ((([91]:aC)++a.1)++([93]:aC),ζ)))))))else((asa fu s_0).bind λe=>(bif e then δ (s_0,ζ)else((aol fu s_0).bind λd=>(bif d then((WI fu s_0).bind λc=>δ (c,ζ))else δ ([],η)))))))
def alb(fu:Nat)(s_0:aC)(d:Int->Int->Option (Int⊕(Int×UInt8)))(b:Int)(a:Int):Option (Int⊕(Int×UInt8)):=
 (if a<γ s_0 then(((gd (0<=a/\a<γ s_0)<|(if(at_ s_0 a)<48 then δ ζ else(gd (0<=a/\a<γ s_0)<|some (decide (57<(at_ s_0 a))))))).bind λc=>(bif c then δ (.inr (0,5))else(gd (acl (10*b))<|(gd (0<=a/\a<γ s_0)<|(gd (acl ((10*b)+(((at_ s_0 a)-(48:UInt8)).toNat)))<|(gd (acl (a+1))<|(d ((10*b)+(((at_ s_0 a)-48).toNat)) (a+1))))))))else δ (.inl b))
def ama(fu:Nat)(s_0:aC):Nat->Int->Int->Option (Int⊕(Int×UInt8)):=λc b a=>bN (λg v=>alb fu s_0 (λb a=>g (b,a)) v.1 v.2) c (b,a)
theorem asn:ama a d (b+1) c f=alb a d (ama a d b) c f:=rfl
def tb(fu:Nat)(s_0:aC):Option (Int×UInt8):=
 (((if γ s_0<(1:Int)then δ ζ else δ (decide (10<(γ s_0:Int))))).bind λb=>(bif b then δ (0,5)else(((ama fu s_0 fu 0 0)).bind λc=>eN (λa=>(if 2147483647<a then δ (0,3)else δ (a,0))) (λq=>δ q) c)))
def ali(fu:Nat)(a:(aC×Int))(b:UQ):Option (Int×UInt8×(aC×Int)×UQ):=
 (((gd (0<=a.2/\a.2<=γ a.1)<|(if 0<=(dP (·==64) (cG (bF a.2) a.1))then(gd (acl (a.2+(dP (·==64) (cG (bF a.2) a.1))))<|((afq fu a (a.2+(dP (·==64) (cG (bF a.2) a.1))) 0).bind λe=>(bif e.2 then(gd (0<=e.1/\e.1<γ a.1)<|(if(at_ a.1 e.1)=58 then δ (.inr (e.1,15,a,b))else δ (.inr (e.1,5,a,b))))else(if(dP (·==64) (cG (bF a.2) a.1))=0 then δ (.inr (a.2+(dP (·==64) (cG (bF a.2) a.1)),5,a,b))else(gd (0<=a.2/\a.2<=(a.2+(dP (·==64) (cG (bF a.2) a.1)))/\(a.2+(dP (·==64) (cG (bF a.2) a.1)))<=γ a.1)<|((akr fu (sub a.1 a.2 (a.2+(dP (·==64) (cG (bF a.2) a.1))))).bind λu=>(gd (acl ((a.2+(dP (·==64) (cG (bF a.2) a.1)))+1))<|some (.inl ((a.2+(dP (·==64) (cG (bF a.2) a.1)))+1,u)))))))))else δ (.inl (a.2,b.2.1))))).bind λt=>eN (λd=>((AS fu a.1 d.1 ([58,59,63])).bind λs=>((((Ir fu (a.1,d.1) 91).bind λr=>(bif r then((AS fu a.1 d.1 [93]).bind λj=>(gd (acl (j+1))<|some (min (j+1) (γ a.1))))else δ s))).bind λc=>(gd (0<=d.1/\d.1<=c/\c<=γ a.1)<|((aa fu (sub a.1 d.1 c)).bind λg=>(bif (!g.2)then δ (d.1,5,(a.1,d.1),(b.1,d.2,b.2.2.1,b.2.2.2.1,b.2.2.2.2.1,b.2.2.2.2.2))else((Ir fu (a.1,c) 58).bind λp=>(bif p then(gd (acl (c+1))<|((AS fu a.1 (c+1) ([59,63])).bind λh=>(gd (0<=(c+1)/\(c+1)<=h/\h<=γ a.1)<|((tb fu (sub a.1 (c+1) h)).bind λf=>(((((if f.2=0 then(if f.1<1 then δ ζ else δ (decide (65535<f.1)))else δ η)).bind λo=>(bif o then δ 3 else δ f.2))).bind λi=>(if i=0 then δ (0,0,(a.1,h),(b.1,d.2,g.1,f.1,b.2.2.2.2.1,b.2.2.2.2.2))else δ (c+1,i,(a.1,c+1),(b.1,d.2,g.1,b.2.2.2.1,b.2.2.2.2.1,b.2.2.2.2.2))))))))else((((tj fu (a.1,c)).bind λn=>(bif (!n)then((Ir fu (a.1,c) 59).bind λm=>(bif (!m)then((Ir fu (a.1,c) 63).bind λl=>δ (!l))else δ η))else δ η))).bind λk=>(bif k then δ (c,5,(a.1,c),(b.1,d.2,g.1,b.2.2.2.1,b.2.2.2.2.1,b.2.2.2.2.2))else δ (0,0,(a.1,c),(b.1,d.2,g.1,b.2.2.2.1,b.2.2.2.2.1,b.2.2.2.2.2)))))))))))) (λq=>δ q) t)
def agu(fu:Nat)(b:(aC×Int))(l:UQ)(f:Int)(e:Bool)(k:(List UInt8)->Int->Option (((List UInt8)×Int)⊕(Int×UInt8×(aC×Int)×UQ)))(c:List UInt8)(a:Int):Option (((List UInt8)×Int)⊕(Int×UInt8×(aC×Int)×UQ)):=
 (if a<f then(((gd (0<=a/\a<γ b.1)<|(((((if 48<=(at_ b.1 a)then δ (decide ((at_ b.1 a)<=57))else δ η)).bind λd=>(bif d then δ d else(bif (!e)then(if(at_ b.1 a)=42 then δ ζ else δ (decide ((at_ b.1 a)=35)))else δ η)))).bind λj=>(bif j then(gd ((γ c+γ ([at_ b.1 a]))*1<=140737488355328)<|some (.inl (c++([at_ b.1 a]))))else(((if(at_ b.1 a)=45 then δ η else(if(at_ b.1 a)=46 then δ η else(if(at_ b.1 a)=40 then δ η else δ (!decide ((at_ b.1 a)=41)))))).bind λi=>(bif i then δ (.inr (a,5,(b.1,a),l))else δ (.inl c))))))).bind λh=>eN (λg=>(gd (acl (a+1))<|(k g (a+1)))) (λq=>δ (.inr q)) h)else δ (.inl (c,a)))
def ahp(fu:Nat)(h:(aC×Int))(f:UQ)(d:Int)(c:Bool):Nat->(List UInt8)->Int->Option (((List UInt8)×Int)⊕(Int×UInt8×(aC×Int)×UQ)):=λe b a=>bN (λg v=>agu fu h f d c (λb a=>g (b,a)) v.1 v.2) e (b,a)
theorem aqa{d:UQ}:ahp a s d c k (b+1) e f=agu a s d c k (ahp a s d c k b) e f:=rfl
def akg(fu:Nat)(b:(aC×Int))(a:UQ):Option (Int×UInt8×(aC×Int)×UQ):=
 ((AS fu b.1 b.2 [59]).bind λf=>((Ir fu b 43).bind λd=>(((bif d then(gd ((γ ([]:List UInt8)+γ ([(43:UInt8)]))*1<=140737488355328)<|(gd (acl (b.2+1))<|some ([]++([43]),b.2+1)))else δ ([],b.2))).bind λe=>(((ahp fu b a f d fu e.1 e.2)).bind λg=>eN (λc=>(if(fK c.1 [43])=[]then δ (b.2,5,(b.1,c.2),(a.1,c.1,a.2.2.1,a.2.2.2.1,a.2.2.2.2.1,a.2.2.2.2.2))else(if 30<(γ (fK c.1 ([43]:aC)):Int)then δ (b.2,4,(b.1,c.2),(a.1,c.1,a.2.2.1,a.2.2.2.1,a.2.2.2.2.1,a.2.2.2.2.2))else δ (0,0,(b.1,c.2),(a.1,c.1,a.2.2.1,a.2.2.2.1,a.2.2.2.2.1,a.2.2.2.2.2))))) (λq=>δ q) g))))
def asb(fu:Nat)(p_0:PQ)(a:aC):Option Bool:=
 δ (decide (p_0.1=a))
def abo(fu:Nat)(s_0:LQ)(d:aC)(c:Int->Option (Unit⊕Int))(a:Int):Option (Unit⊕Int):=
 (if a<γ s_0 then(gd (0<=a/\a<γ s_0)<|(gd (0<=a/\a<γ s_0)<|((asb fu ((el s_0 a).1,(el s_0 a).2.1,((el s_0 a).2.2)) d).bind λb=>(bif b then δ (.inr a)else(gd (acl (a+1))<|(c (a+1)))))))else δ (.inl ()))
def aco(fu:Nat)(s_0:LQ)(c:aC):Nat->Int->Option (Unit⊕Int):=λb a=>bN (λg v=>abo fu s_0 c (λa=>g a) v) b a
variable {g:LQ}
theorem ado:aco a g d (b+1) c=abo a g d (aco a g d b) c:=rfl
def aey(fu:Nat)(s_0:LQ)(b:aC):Option Int:=
 (((aco fu s_0 b fu 0)).bind λa=>eN (λc=>δ (-1)) (λq=>δ q) a)
def aeg(fu:Nat)(s_0:LQ)(b:aC):Option Bool:=
 ((aey fu s_0 b).bind λa=>δ (decide (0<=a)))
open Go.Op renaming bytesLess → vI
def aon(fu:Nat)(c:LQ)(b:aC):Option Bool:=
 ((aeg fu c b).bind λa=>δ a)
def aqh(fu:Nat)(a:LQ)(c:aC):Option UInt8:=
 ((aon fu a c).bind λb=>(bif b then δ 7 else(if 16<=(γ a:Int)then δ 4 else δ 0)))
def aig(fu:Nat)(a:(aC×Int))(g:LQ)(b:Int)(e:Int):Option (LQ×Int×UInt8×(aC×Int)):=
 (gd (0<=a.2/\a.2<=b/\b<=γ a.1)<|(((if 0<=(dP (·==61) (sub a.1 a.2 b))then(gd (acl (a.2+(dP (·==61) (sub a.1 a.2 b))))<|some (a.2+(dP (·==61) (sub a.1 a.2 b))))else δ b)).bind λc=>((afq fu a c e).bind λj=>(bif j.2 then δ ([],j.1,5,a)else(if c=a.2 then δ ([],a.2,5,a)else(gd (0<=a.2/\a.2<=c/\c<=γ a.1)<|((akr fu (sub a.1 a.2 c)).bind λn=>((WI fu n).bind λf=>(((if 0<=(dP (·==61) (sub a.1 a.2 b))then(gd (acl (c+1))<|((afq fu (a.1,c+1) b e).bind λi=>(bif i.2 then δ (.inr ([],i.1,5,(a.1,c+1)))else(((if(c+1)=b then δ (decide (e=1))else δ η)).bind λm=>(bif m then δ (.inr ([],b,5,(a.1,c+1)))else(gd (0<=(c+1)/\(c+1)<=b/\b<=γ a.1)<|((akr fu (sub a.1 (c+1) b)).bind λl=>δ (.inl (b,l)))))))))else(if e=2 then δ (.inr ([],b,5,(a.1,b)))else δ (.inl (b,[]))))).bind λk=>eN (λd=>((aqh fu g f).bind λh=>(if h=0 then(gd ((γ g+γ ([(f,d.2,(decide ((0:Int)<=(dP (·==(61:UInt8)) (sub a.1 a.2 b)))))]))*40<=140737488355328)<|some (g++([(f,d.2,(decide ((0:Int)<=(dP (·==(61:UInt8)) (sub a.1 a.2 b)))))]),0,0,(a.1,d.1)))else δ ([],a.2,h,(a.1,d.1))))) (λq=>δ q) k)))))))))
def aqy(fu:Nat)(a:aC):Option Bool:=
 δ (!decide (a=a))
def ane(fu:Nat)(b:aC)(a:aC):Option Int:=
 ((aqy fu b).bind λd=>((aqy fu a).bind λc=>(bif d then(bif c then δ 0 else δ (-1))else(bif c then δ 1 else(bif (vI b a)then δ (-1)else(bif (!(vI b a||b==a))then δ 1 else δ 0))))))
def ara(fu:Nat)(c:PQ)(b:PQ):Option Int:=
 ((ane fu c.1 b.1).bind λa=>δ a)
def abg(fu:Nat)(f:Int)(e:LQ->Int->Option LQ)(b:LQ)(a:Int):Option LQ:=
 (((if f<a then(gd (0<=a/\a<γ b)<|(gd (0<=a/\a<γ b)<|(gd (acl (a-1))<|(gd (0<=(a-1)/\(a-1)<γ b)<|(gd (0<=(a-1)/\(a-1)<γ b)<|((ara fu ((el b a).1,(el b a).2.1,((el b a).2.2)) ((el b (a-1)).1,(el b (a-1)).2.1,((el b (a-1)).2.2))).bind λd=>δ (decide (d<0))))))))else δ η)).bind λc=>(bif c then(gd (acl (a-1))<|(gd (acl (a-1))<|(gd (0<=(a-1)/\(a-1)<γ b)<|(gd (0<=(a-1)/\(a-1)<γ b)<|(gd (0<=a/\a<γ b)<|(gd (0<=a/\a<γ b)<|(gd (0<=a/\a<γ b)<|(gd (0<=a/\a<γ b)<|(gd (0<=(a-1)/\(a-1)<(γ (gQ b (bF a) ((el b (a-(1:Int))).1,(el b (a-(1:Int))).2.1,((el b (a-(1:Int))).2.2)))))<|(gd (0<=(a-1)/\(a-1)<(γ (gQ b (bF a) ((el b (a-(1:Int))).1,(el b (a-(1:Int))).2.1,((el b (a-(1:Int))).2.2)))))<|(gd (acl (a-1))<|(e (gQ (gQ b (bF a) ((el b (a-1)).1,(el b (a-1)).2.1,((el b (a-1)).2.2))) (bF (a-1)) ((el b a).1,(el b a).2.1,((el b a).2.2))) (a-1)))))))))))))else δ b))
def abi(fu:Nat)(d:Int):Nat->LQ->Int->Option LQ:=λc b a=>bN (λg v=>abg fu d (λb a=>g (b,a)) v.1 v.2) c (b,a)
theorem adw:abi a c (b+1) g f=abg a c (abi a c b) g f:=rfl
def aaw(fu:Nat)(f:Int)(e:Int)(d:LQ->Int->Option LQ)(b:LQ)(a:Int):Option LQ:=
 (if a<e then(((abi fu f fu b a)).bind λc=>(gd (acl (a+1))<|(d c (a+1))))else δ b)
def aao(fu:Nat)(e:Int)(d:Int):Nat->LQ->Int->Option LQ:=λc b a=>bN (λg v=>aaw fu e d (λb a=>g (b,a)) v.1 v.2) c (b,a)
theorem acd:aao a c f (b+1) g q=aaw a c f (aao a c f b) g q:=rfl
def aat(fu:Nat)(c:LQ)(a:Int)(b:Int):Option LQ:=
 (gd (acl (a+1))<|(aao fu a b fu c (a+1)))
def acz(fu:Nat)(f:Int)(e:LQ->Int->Int->Option (LQ×Int))(c:LQ)(b:Int)(a:Int):Option (LQ×Int):=
 (if a<=f then((aat fu c b a).bind λd=>(gd (acl (a+20))<|(e d a (a+20))))else δ (c,b))
def abf(fu:Nat)(e:Int):Nat->LQ->Int->Int->Option (LQ×Int):=λd c b a=>bN (λg v=>acz fu e (λc b a=>g (c,b,a)) v.1 v.2.1 v.2.2) d (c,b,a)
theorem aky:abf a c (b+1) g f q=acz a c (abf a c b) g f q:=rfl
def acy(fu:Nat)(c:Int)(d:LQ->Int->Option LQ)(b:LQ)(a:Int):Option LQ:=
 (if a<c then ε else δ b)
def abe(fu:Nat)(d:Int):Nat->LQ->Int->Option LQ:=λc b a=>bN (λg v=>acy fu d (λb a=>g (b,a)) v.1 v.2) c (b,a)
theorem akx:abe a c (b+1) g f=acy a c (abe a c b) g f:=rfl
def acm(fu:Nat)(d:LQ)(a:Int):Option LQ:=
 (((abf fu a fu d 0 20)).bind λb=>((aat fu b.1 b.2 a).bind λc=>(abe fu a fu c 20)))
open List renaming drop → cG, take → jV
def aba(fu:Nat)(a:LQ):Option LQ:=
 ((acm fu a (γ a)).bind λb=>δ b)
def ml(fu:Nat)(a:LQ):Option LQ:=
 (gd ((0+γ a)*40<=140737488355328)<|((aba fu a).bind λb=>δ b))
def aht(fu:Nat)(k:(Int×UInt8×aC×aC×Int×aC×aC×aC×Int×LQ×LQ))(j:Int->UInt8->aC->Int->LQ->Option (Int×UInt8×aC×Int×LQ))(i:Int)(e:UInt8)(c:aC)(b:Int)(d:LQ):Option (Int×UInt8×aC×Int×LQ):=
 (((if e=0 then((Ir fu (c,b) 59).bind λh=>δ h)else δ η)).bind λg=>(bif g then(gd (acl (b+1))<|((AS fu c (b+1) k.2.2.1).bind λf=>((aig fu (c,b+1) d f 1).bind λa=>(j a.2.1 a.2.2.1 a.2.2.2.1 a.2.2.2.2 a.1))))else δ (i,e,c,b,d)))
def air(fu:Nat)(h:(Int×UInt8×aC×aC×Int×aC×aC×aC×Int×LQ×LQ)):Nat->Int->UInt8->aC->Int->LQ->Option (Int×UInt8×aC×Int×LQ):=λf e d c b a=>bN (λg v=>aht fu h (λe d c b a=>g (e,d,c,b,a)) v.1 v.2.1 v.2.2.1 v.2.2.2.1 v.2.2.2.2) f (e,d,c,b,a)
variable {n:UInt8}
theorem amn{e:(Int×UInt8×aC×aC×Int×aC×aC×aC×Int×LQ×LQ)}:air a e (b+1) c n d f g=aht a e (air a e b) c n d f g:=rfl
def ahs(fu:Nat)(j:Int->UInt8->aC->Int->LQ->Option (Int×UInt8×aC×Int×LQ))(i:Int)(e:UInt8)(c:aC)(b:Int)(d:LQ):Option (Int×UInt8×aC×Int×LQ):=
 (((if e=0 then((tj fu (c,b)).bind λh=>δ (!h))else δ η)).bind λg=>(bif g then(gd (acl (b+1))<|((AS fu c (b+1) [38]).bind λf=>((aig fu (c,b+1) d f 2).bind λa=>(j a.2.1 a.2.2.1 a.2.2.2.1 a.2.2.2.2 a.1))))else δ (i,e,c,b,d)))
def aiq(fu:Nat):Nat->Int->UInt8->aC->Int->LQ->Option (Int×UInt8×aC×Int×LQ):=λf e d c b a=>bN (λg v=>ahs fu (λe d c b a=>g (e,d,c,b,a)) v.1 v.2.1 v.2.2.1 v.2.2.2.1 v.2.2.2.2) f (e,d,c,b,a)
theorem amm:aiq a (b+1) c n d f g=ahs a (aiq a b) c n d f g:=rfl
def aro(fu:Nat)(s_0:aC):Option (UQ×Int×UInt8):=
 (if 1024<(γ s_0:Int)then δ (([],[],[],0,[],[]),1024,4)else(if(dP (·==58) s_0)<0 then δ (([],[],[],0,[],[]),γ s_0,5)else(gd (acl ((dP (·==58) s_0)+1))<|(gd (0<=(dP (·==58) s_0)/\(dP (·==58) s_0)<=γ s_0)<|((WI fu (jV (bF (dP (·==58) s_0)) s_0)).bind λd=>(((((if d=([115,105,112])then δ (decide (d=([115,105,112])))else δ (decide (d=([115,105,112,115]))))).bind λi=>(bif i then((ali fu (s_0,(dP (·==58) s_0)+1) (d,[],[],0,[],[])).bind λc=>δ (c.1,c.2.1,([59,63]),c.2.2.1.1,c.2.2.1.2,c.2.2.2.1,c.2.2.2.2.1,c.2.2.2.2.2.1,c.2.2.2.2.2.2.1,c.2.2.2.2.2.2.2.1,c.2.2.2.2.2.2.2.2))else(if d=([116,101,108])then((akg fu (s_0,(dP (·==58) s_0)+1) (d,[],[],0,[],[])).bind λb=>δ (b.1,b.2.1,[59],b.2.2.1.1,b.2.2.1.2,b.2.2.2.1,b.2.2.2.2.1,b.2.2.2.2.2.1,b.2.2.2.2.2.2.1,b.2.2.2.2.2.2.2.1,b.2.2.2.2.2.2.2.2))else δ (0,15,([59,63]),s_0,(dP (·==58) s_0)+1,d,[],[],0,[],[]))))).bind λ(a:(Int×UInt8×aC×aC×Int×aC×aC×aC×Int×LQ×LQ))=>(((air fu a fu a.1 a.2.1 a.2.2.2.1 a.2.2.2.2.1 a.2.2.2.2.2.2.2.2.2.1)).bind λe=>(((aiq fu fu e.1 e.2.1 e.2.2.1 e.2.2.2.1 a.2.2.2.2.2.2.2.2.2.2)).bind λf=>(if f.2.1=0 then((ml fu e.2.2.2.2).bind λh=>((ml fu f.2.2.2.2).bind λg=>δ ((a.2.2.2.2.2.1,a.2.2.2.2.2.2.1,a.2.2.2.2.2.2.2.1,a.2.2.2.2.2.2.2.2.1,h,g),0,0)))else δ (([],[],[],0,[],[]),f.1,f.2.1))))))))))
def ahn(fu:Nat)(a:(aC×Int))(e:AQ):Option (Int×UInt8×(aC×Int)×AQ):=
 ((((Ir fu a 60).bind λi=>(bif i then(gd (acl (a.2+1))<|((AS fu a.1 (a.2+1) [62]).bind λd=>(if d=γ a.1 then δ (.inr (d,5,a,e))else(gd (acl (d+1))<|some (.inl (a.2+1,d,d+1))))))else((AS fu a.1 a.2 ([59,32,9])).bind λf=>((AS fu a.1 a.2 ([63,44])).bind λg=>(if g<f then δ (.inr (g,5,a,e))else δ (.inl (a.2,f,f)))))))).bind λh=>eN (λb=>(gd (0<=b.1/\b.1<=b.2.1/\b.2.1<=(γ a.1:Int))<|((aro fu (sub a.1 b.1 b.2.1)).bind λc=>(if c.2.2=0 then δ (0,0,(a.1,b.2.2),(e.1,c.1,e.2.2))else(gd (acl (b.1+c.2.1))<|some (b.1+c.2.1,c.2.2,a,e)))))) (λq=>δ q) h)
def akh(fu:Nat)(l:(aC×Int)):Option (PQ×Int×UInt8×(aC×Int)):=
 ((afr fu l).bind λg=>((WI fu g.1).bind λf=>(if f=[]then δ (([],[],η),g.2.2,5,g.2)else((ab fu g.2).bind λe=>((Ir fu e 61).bind λk=>(bif (!k)then δ ((f,[],η),0,0,e)else(gd (acl (e.2+1))<|((ab fu (e.1,e.2+1)).bind λa=>((Ir fu a 34).bind λj=>(bif j then((anu fu a.1 a.2).bind λd=>(if d.2.2=0 then δ ((f,d.1,ζ),0,0,(a.1,d.2.1))else δ (([],[],η),d.2.1,d.2.2,a)))else((Ir fu a 91).bind λi=>(bif i then((AS fu a.1 a.2 [93]).bind λb=>(gd (acl (b+1))<|(gd (0<=a.2/\a.2<=(min (b+1) (γ a.1))/\(min (b+1) (γ a.1))<=γ a.1)<|((aa fu (sub a.1 a.2 (min (b+1) (γ a.1)))).bind λh=>(bif (!h.2)then δ (([],[],η),a.2,5,a)else(gd (acl (b+1))<|some ((f,h.1,ζ),0,0,(a.1,b+1))))))))else((afr fu a).bind λc=>(if c.1=[]then δ (([],[],η),c.2.2,5,c.2)else δ ((f,c.1,ζ),0,0,c.2)))))))))))))))
def amo(fu:Nat)(k:LQ->aC->Int->Option (LQ×Int×UInt8))(c:LQ)(j:aC)(i:Int):Option (LQ×Int×UInt8):=
 ((ab fu (j,i)).bind λb=>((tj fu b).bind λh=>(bif h then δ (c,0,0)else((Ir fu b 59).bind λg=>(bif (!g)then δ ([],b.2,5)else(gd (acl (b.2+1))<|((ab fu (b.1,b.2+1)).bind λe=>((akh fu e).bind λa=>(((if a.2.2.1=0 then((aqh fu c a.1.1).bind λf=>δ (e.2,f))else δ (a.2.1,a.2.2.1))).bind λd=>(if d.2=0 then(gd ((γ c+[a.1].length)*40<=140737488355328)<|(k (c++[a.1]) a.2.2.2.1 a.2.2.2.2))else δ ([],d.1,d.2)))))))))))
def anm(fu:Nat):Nat->LQ->aC->Int->Option (LQ×Int×UInt8):=λd c b a=>bN (λg v=>amo fu (λc b a=>g (c,b,a)) v.1 v.2.1 v.2.2) d (c,b,a)
theorem avs:anm a (b+1) g d c=amo a (anm a b) g d c:=rfl
def td(fu:Nat)(s_0:aC):Option (LQ×Int×UInt8):=
 (anm fu fu [] s_0 0)
def alk(fu:Nat)(s_0:aC):Option (AQ×Int×UInt8):=
 (if 1024<(γ s_0:Int)then δ (([],([],[],[],0,[],[]),[]),1024,4)else((ab fu (s_0,0)).bind λf=>((((Ir fu f 34).bind λi=>(bif i then((aho fu f ([],([],[],[],0,[],[]),[])).bind λe=>δ (e.1,e.2.1,e.2.2.1.1,e.2.2.1.2,e.2.2.2.1,e.2.2.2.2.1.1,e.2.2.2.2.1.2.1,e.2.2.2.2.1.2.2.1,e.2.2.2.2.1.2.2.2.1,e.2.2.2.2.1.2.2.2.2.1,e.2.2.2.2.1.2.2.2.2.2,e.2.2.2.2.2))else(gd (γ s_0<=1000000000)<|(bif (Lib.contains s_0 [60])then((aed fu f ([],([],[],[],0,[],[]),[])).bind λd=>δ (d.1,d.2.1,d.2.2.1.1,d.2.2.1.2,d.2.2.2.1,d.2.2.2.2.1.1,d.2.2.2.2.1.2.1,d.2.2.2.2.1.2.2.1,d.2.2.2.2.1.2.2.2.1,d.2.2.2.2.1.2.2.2.2.1,d.2.2.2.2.1.2.2.2.2.2,d.2.2.2.2.2))else δ (0,0,f.1,f.2,[],[],[],[],0,[],[],[])))))).bind λa=>(((if a.2.1=0 then((ahn fu (a.2.2.1,a.2.2.2.1) (a.2.2.2.2.1,(a.2.2.2.2.2.1,a.2.2.2.2.2.2.1,a.2.2.2.2.2.2.2.1,a.2.2.2.2.2.2.2.2.1,a.2.2.2.2.2.2.2.2.2.1,a.2.2.2.2.2.2.2.2.2.2.1),a.2.2.2.2.2.2.2.2.2.2.2)).bind λc=>δ (c.1,c.2.1,c.2.2.1.1,c.2.2.1.2,c.2.2.2.1,c.2.2.2.2.1.1,c.2.2.2.2.1.2.1,c.2.2.2.2.1.2.2.1,c.2.2.2.2.1.2.2.2.1,c.2.2.2.2.1.2.2.2.2.1,c.2.2.2.2.1.2.2.2.2.2,c.2.2.2.2.2))else δ (a.1,a.2.1,a.2.2.1,a.2.2.2.1,a.2.2.2.2.1,a.2.2.2.2.2.1,a.2.2.2.2.2.2.1,a.2.2.2.2.2.2.2.1,a.2.2.2.2.2.2.2.2.1,a.2.2.2.2.2.2.2.2.2.1,a.2.2.2.2.2.2.2.2.2.2.1,a.2.2.2.2.2.2.2.2.2.2.2))).bind λb=>(((if b.2.1=0 then(gd (0<=b.2.2.2.1/\b.2.2.2.1<=γ s_0)<|((td fu (cG (bF b.2.2.2.1) s_0)).bind λh=>(gd (acl (h.2.1+b.2.2.2.1))<|some (h.2.1+b.2.2.2.1,h.2.2,h.1))))else δ (b.1,b.2.1,b.2.2.2.2.2.2.2.2.2.2.2))).bind λg=>(if g.2.1=0 then δ ((b.2.2.2.2.1,(b.2.2.2.2.2.1,b.2.2.2.2.2.2.1,b.2.2.2.2.2.2.2.1,b.2.2.2.2.2.2.2.2.1,b.2.2.2.2.2.2.2.2.2.1,b.2.2.2.2.2.2.2.2.2.2.1),g.2.2),0,0)else δ (([],([],[],[],0,[],[]),[]),g.1,g.2.1)))))))
def ata(fu:Nat)(c:aC):Option (AQ×UInt8):=
 ((XK fu c).bind λb=>((alk fu b).bind λa=>δ (a.1,a.2.2)))
open Go.Lib renaming hasPrefix → fW, trimPrefix → fK
def aqs(fu:Nat)(s_0:aC)(f:(List UInt8)->Int->Option ((List UInt8)⊕(aC×UInt8)))(b:List UInt8)(a:Int):Option ((List UInt8)⊕(aC×UInt8)):=
 (if a<γ s_0 then(gd (0<=a/\a<γ s_0)<|((ahr fu (at_ s_0 a)).bind λe=>(bif e then δ (.inr ([],5))else(((((if(at_ s_0 a)=34 then δ ζ else δ (decide ((at_ s_0 a)=92)))).bind λd=>(bif d then(gd ((γ b+γ ([(92:UInt8)]))*1<=140737488355328)<|some (b++([92])))else δ b))).bind λc=>(gd (0<=a/\a<γ s_0)<|(gd ((γ c+γ ([at_ s_0 a]))*1<=140737488355328)<|(gd (acl (a+1))<|(f (c++([at_ s_0 a])) (a+1)))))))))else δ (.inl b))
def akn(fu:Nat)(s_0:aC):Nat->(List UInt8)->Int->Option ((List UInt8)⊕(aC×UInt8)):=λc b a=>bN (λg v=>aqs fu s_0 (λb a=>g (b,a)) v.1 v.2) c (b,a)
theorem azj:akn a d (b+1) e c=aqs a d (akn a d b) e c:=rfl
def arw(fu:Nat)(s_0:aC):Option (aC×UInt8):=
 (gd (acl (γ s_0+2))<|(@gd _ (0<=(γ s_0+(2:Int))/\1*(γ s_0+(2:Int))<=281474976710656) (dMk 1 (γ s_0+2))<|(gd ((γ ([]:List UInt8)+γ ([(34:UInt8)]))*1<=140737488355328)<|(((akn fu s_0 fu ([]++([34])) 0)).bind λb=>eN (λ(a:List UInt8)=>(gd ((γ a+γ ([(34:UInt8)]))*1<=140737488355328)<|some (a++([(34:UInt8)]),0))) (λq=>δ q) b))))
def ajz(fu:Nat)(s_0:aC)(c:Int->Option (Unit⊕Bool))(a:Int):Option (Unit⊕Bool):=
 (if a<γ s_0 then(gd (0<=a/\a<γ s_0)<|((asc fu (at_ s_0 a)).bind λb=>(bif b then δ (.inr η)else(gd (acl (a+1))<|(c (a+1))))))else δ (.inl ()))
def apn(fu:Nat)(s_0:aC):Nat->Int->Option (Unit⊕Bool):=λb a=>bN (λg v=>ajz fu s_0 (λa=>g a) v) b a
theorem arm:apn a d (b+1) c=ajz a d (apn a d b) c:=rfl
def aoo(fu:Nat)(s_0:aC):Option Bool:=
 (((apn fu s_0 fu 0)).bind λa=>eN (λb=>δ ζ) (λq=>δ q) a)
def ajh(fu:Nat)(s_0:aC)(d:Int->Option (Unit⊕Bool))(a:Int):Option (Unit⊕Bool):=
 (if a<(γ (fK s_0 [43]))then(gd (0<=a/\a<(γ (fK s_0 [43])))<|((((XM fu (at_ (fK s_0 [43]) a)).bind λc=>(bif (!c)then(bif (fW s_0 [43])then δ ζ else(if(at_ (fK s_0 [43]) a)=42 then δ η else δ (!decide ((at_ (fK s_0 [43]) a)=35))))else δ η))).bind λb=>(bif b then δ (.inr η)else(gd (acl (a+1))<|(d (a+1))))))else δ (.inl ()))
def anj(fu:Nat)(s_0:aC):Nat->Int->Option (Unit⊕Bool):=λb a=>bN (λg v=>ajh fu s_0 (λa=>g a) v) b a
theorem aqk:anj a d (b+1) c=ajh a d (anj a d b) c:=rfl
def atc(fu:Nat)(s_0:aC):Option Bool:=
 (((if(fK s_0 [43])=[]then δ ζ else δ (decide (30<(γ (fK s_0 ([43]:aC)):Int))))).bind λa=>(bif a then δ η else(((anj fu s_0 fu 0)).bind λb=>eN (λc=>δ ζ) (λq=>δ q) b)))
def amk(fu:Nat)(b:LQ)(e:Int)(k:LQ->Int->Option (LQ⊕(LQ×Bool)))(d:LQ)(a:Int):Option (LQ⊕(LQ×Bool)):=
 (if a<γ b then(gd (0<=a/\a<γ b)<|(gd (0<=a/\a<γ b)<|((WI fu ((el b a).1)).bind λc=>(((if c=[]then δ ζ else((aoo fu c).bind λj=>(bif (!j)then δ ζ else((aoo fu ((el b a).2.1)).bind λi=>(bif (!i)then δ ζ else((aon fu d c).bind λh=>δ h))))))).bind λg=>(bif g then δ (.inr ([],η))else(((if e=2 then(bif (!((el b a).2.2))then δ ζ else(if e=1 then δ (!(((el b a).2.2)==(!decide (((el b a).2.1)=[]))))else δ η))else(if e=1 then δ (!(((el b a).2.2)==(!decide (((el b a).2.1)=[]))))else δ η))).bind λf=>(bif f then δ (.inr ([],η))else(gd ((γ d+γ ([(c,(el b a).2.1,((el b a).2.2))]))*40<=140737488355328)<|(gd (acl (a+1))<|(k (d++([(c,(el b a).2.1,((el b a).2.2))])) (a+1)))))))))))else δ (.inl d))
def ajy(fu:Nat)(e:LQ)(d:Int):Nat->LQ->Int->Option (LQ⊕(LQ×Bool)):=λc b a=>bN (λg v=>amk fu e d (λb a=>g (b,a)) v.1 v.2) c (b,a)
variable {v:LQ}
theorem avr:ajy a g c (b+1) v f=amk a g c (ajy a g c b) v f:=rfl
def apz(fu:Nat)(a:LQ)(e:Int):Option (LQ×Bool):=
 (if 16<(γ a:Int)then δ ([],η)else(((ajy fu a e fu [] 0)).bind λd=>eN (λc=>((ml fu c).bind λb=>δ (b,ζ))) (λq=>δ q) d))
def atd(fu:Nat)(a:UQ):Option (UQ×UInt8):=
 ((WI fu a.1).bind λb=>(((((if b=([115,105,112])then δ (decide (b=([115,105,112])))else δ (decide (b=([115,105,112,115]))))).bind λj=>(bif j then((aa fu a.2.2.1).bind λc=>(bif c.2 then(if 0<=a.2.2.2.1 then(if a.2.2.2.1<=65535 then((aoo fu a.2.1).bind λi=>δ (i,c.1))else δ (η,c.1))else δ (η,c.1))else δ (η,c.1)))else(if b=([116,101,108])then(if a.2.2.1=[]then(if a.2.2.2.1=0 then(if γ a.2.2.2.2.2=(0:Int)then((atc fu a.2.1).bind λh=>δ (h,[]))else δ (η,[]))else δ (η,[]))else δ (η,[]))else δ (η,[]))))).bind λf=>((apz fu a.2.2.2.2.1 1).bind λe=>((apz fu a.2.2.2.2.2 2).bind λd=>(((bif (!f.1)then δ ζ else(bif (!e.2)then δ ζ else δ (!d.2)))).bind λg=>(bif g then δ (([],[],[],0,[],[]),2)else δ ((b,a.2.1,f.2,a.2.2.2.1,e.1,d.1),0)))))))
def BF(fu:Nat)(b:(Unit×(List UInt8)))(a:aC):Option (Int×Unit×(Unit×(List UInt8))):=
 (gd ((γ b.2+γ a)*1<=140737488355328)<|some (γ a,(),((),b.2++a)))
def amq(fu:Nat)(s_0:aC)(e:Int)(c:(List UInt8)->Int->Option (List UInt8))(b:List UInt8)(a:Int):Option (List UInt8):=
 (if a<γ s_0 then(gd (0<=a/\a<γ s_0)<|((aom fu (at_ s_0 a) e).bind λd=>(bif d then(gd (0<=a/\a<γ s_0)<|(gd ((γ b+γ ([at_ s_0 a]))*1<=140737488355328)<|(gd (acl (a+1))<|(c (b++([at_ s_0 a])) (a+1)))))else(gd (0<=a/\a<γ s_0)<|(gd (0<=((Xs (at_ s_0 a) (4:Int)).toNat:Int)/\((Xs (at_ s_0 a) 4).toNat)<(γ ([48,49,50,51,52,53,54,55,56,57,65,66,67,68,69,70]:aC):Int))<|(gd (0<=a/\a<γ s_0)<|(gd (0<=(((at_ s_0 a)&&&(15:UInt8)).toNat:Int)/\(((at_ s_0 a)&&&15).toNat)<(γ ([48,49,50,51,52,53,54,55,56,57,65,66,67,68,69,70]:aC):Int))<|(gd ((γ b+γ ([37,at_ ([48,49,50,51,52,53,54,55,56,57,65,66,67,68,69,70]) ((Xs (at_ s_0 a) (4:Int)).toNat:Int),at_ ([48,49,50,51,52,53,54,55,56,57,65,66,67,68,69,70]) (((at_ s_0 a)&&&(15:UInt8)).toNat:Int)]))*1<=140737488355328)<|(gd (acl (a+1))<|(c (b++([37,at_ ([48,49,50,51,52,53,54,55,56,57,65,66,67,68,69,70]) ((Xs (at_ s_0 a) 4).toNat),at_ ([48,49,50,51,52,53,54,55,56,57,65,66,67,68,69,70]) (((at_ s_0 a)&&&15).toNat)])) (a+1)))))))))))else δ b)
def aka(fu:Nat)(s_0:aC)(d:Int):Nat->(List UInt8)->Int->Option (List UInt8):=λc b a=>bN (λg v=>amq fu s_0 d (λb a=>g (b,a)) v.1 v.2) c (b,a)
theorem avt:aka a d c (b+1) e f=amq a d c (aka a d c b) e f:=rfl
def W7(fu:Nat)(s_0:aC)(b:Int):Option aC:=
 (@gd _ (0<=(γ s_0:Int)/\1*(γ s_0:Int)<=281474976710656) (dMk 1 (γ s_0))<|(((aka fu s_0 b fu [] 0)).bind λa=>δ a))
def afd(fu:Nat)(b:(Unit×(List UInt8)))(a:UInt8):Option (Unit×(Unit×(List UInt8))):=
 (gd ((γ b.2+[a].length)*1<=140737488355328)<|some ((),((),b.2++[a])))
open Go.Lib renaming indexAny → Dc, itoa → dU
def anl(fu:Nat)(b:(UQ×UInt8))(g:Int->Unit->(List UInt8)->Option (Unit×(List UInt8)))(a:Int)(i:Unit)(f:List UInt8):Option (Unit×(List UInt8)):=
 (if a<γ b.1.2.2.2.2.1 then(gd (0<=a/\a<γ b.1.2.2.2.2.1)<|(gd (0<=a/\a<γ b.1.2.2.2.2.1)<|((W7 fu ((el b.1.2.2.2.2.1 a).1) 1).bind λe=>(gd (γ ([59]:aC)+γ e<=9223372036854775807)<|((BF fu ((),f) (([59]:aC)++e)).bind λd=>(bif ((el b.1.2.2.2.2.1 a).2.2)then((W7 fu ((el b.1.2.2.2.2.1 a).2.1) 1).bind λc=>(gd (γ ([61]:aC)+γ c<=9223372036854775807)<|((BF fu ((),d.2.2.2) (([61]:aC)++c)).bind λh=>(gd (acl (a+1))<|(g (a+1) () h.2.2.2)))))else(gd (acl (a+1))<|(g (a+1) () d.2.2.2))))))))else δ ((),f))
def aip(fu:Nat)(d:(UQ×UInt8)):Nat->Int->Unit->(List UInt8)->Option (Unit×(List UInt8)):=λe c b a=>bN (λg v=>anl fu d (λc b a=>g (c,b,a)) v.1 v.2.1 v.2.2) e (c,b,a)
variable {r:(UQ×UInt8)}{t:Unit}
theorem axd:aip a r (b+1) c t e=anl a r (aip a r b) c t e:=rfl
def ank(fu:Nat)(b:(UQ×UInt8))(j:Int->Unit->(List UInt8)->Option (Unit×(List UInt8)))(a:Int)(k:Unit)(d:List UInt8):Option (Unit×(List UInt8)):=
 (if a<γ b.1.2.2.2.2.2 then(gd (0<=a/\a<γ b.1.2.2.2.2.2)<|(gd (0<=a/\a<γ b.1.2.2.2.2.2)<|(((if a=0 then((afd fu ((),d) 63).bind λi=>δ ((),i.2.2))else((afd fu ((),d) 38).bind λh=>δ ((),h.2.2)))).bind λg=>((W7 fu ((el b.1.2.2.2.2.2 a).1) 2).bind λc=>(gd (γ c+γ ([61]:aC)<=9223372036854775807)<|((W7 fu ((el b.1.2.2.2.2.2 a).2.1) (2:Int)).bind λ(e:aC)=>(gd (γ (c++([61]:aC))+γ e<=9223372036854775807)<|((BF fu ((),g.2) ((c++([61]:aC))++e)).bind λ(f:(Int×Unit×(Unit×(List UInt8))))=>(gd (acl (a+(1:Int)))<|(j (a+(1:Int)) () f.2.2.2))))))))))else δ ((),d))
def agj(fu:Nat)(d:(UQ×UInt8)):Nat->Int->Unit->(List UInt8)->Option (Unit×(List UInt8)):=λe c b a=>bN (λg v=>ank fu d (λc b a=>g (c,b,a)) v.1 v.2.1 v.2.2) e (c,b,a)
theorem axc:agj a r (b+1) c t e=ank a r (agj a r b) c t e:=rfl
def avj(fu:Nat)(l:UQ):Option (aC×UInt8):=
 ((atd fu l).bind λa=>(if a.2=0 then(gd (γ a.1.1+γ ([58]:aC)<=9223372036854775807)<|((BF fu ((),[]) (a.1.1++[58])).bind λb=>(((if a.1.1=([116,101,108])then((BF fu ((),b.2.2.2) a.1.2.1).bind λk=>δ ((),k.2.2.2))else(if a.1.2.1=[]then δ ((),b.2.2.2)else((W7 fu a.1.2.1 0).bind λe=>(gd (γ e+γ ([64]:aC)<=9223372036854775807)<|((BF fu ((),b.2.2.2) (e++[64])).bind λj=>δ ((),j.2.2.2))))))).bind λi=>((BF fu ((),i.2) a.1.2.2.1).bind λd=>(((if a.1.2.2.2.1=0 then δ ((),d.2.2.2)else(gd (acl a.1.2.2.2.1)<|(gd (γ ([58]:aC)+γ (dU a.1.2.2.2.1)<=9223372036854775807)<|((BF fu ((),d.2.2.2) (([58]:aC)++(dU a.1.2.2.2.1))).bind λh=>δ ((),h.2.2.2)))))).bind λg=>(((aip fu a fu 0 () g.2)).bind λf=>(((agj fu a fu 0 () f.2)).bind λc=>(gd (γ c.2<=140737488355328)<|some (c.2,0)))))))))else δ ([],a.2)))
def aib(fu:Nat)(b:LQ)(h:Int->Unit->(List UInt8)->Option ((Unit×(List UInt8))⊕(aC×UInt8)))(a:Int)(r:Unit)(g:List UInt8):Option ((Unit×(List UInt8))⊕(aC×UInt8)):=
 (if a<γ b then(gd (0<=a/\a<γ b)<|(gd (0<=a/\a<γ b)<|((((XL fu ((el b a).1)).bind λp=>(bif (!p)then δ ζ else((WI fu ((el b a).1)).bind λo=>(if((el b a).1)=o then(gd (0<=a/\a<=γ b)<|((aon fu (jV (bF a) b) ((el b a).1)).bind λn=>δ n))else δ ζ))))).bind λm=>(bif m then δ (.inr ([],2))else(gd (γ ([59]:aC)+γ ((el b a).1)<=9223372036854775807)<|((BF fu ((),g) (([59]:aC)++((el b a).1))).bind λf=>(bif (!((el b a).2.2))then(if((el b a).2.1)=[]then(gd (acl (a+1))<|(h (a+1) () f.2.2.2))else δ (.inr ([],2)))else((((aa fu ((el b a).2.1)).bind λe=>((((XL fu ((el b a).2.1)).bind λl=>(bif (!l)then(bif e.2 then(if e.1=((el b a).2.1)then(gd (0<=(0:Int)/\0<(γ ((el b a).2.1):Int))<|some (!decide ((at_ ((el b a).2.1) 0)=91)))else δ ζ)else δ ζ)else δ η))).bind λk=>(bif k then((arw fu ((el b a).2.1)).bind λd=>(if d.2=0 then δ (.inl d.1)else δ (.inr ([],2))))else δ (.inl ((el b a).2.1)))))).bind λj=>eN (λc=>(gd (γ ([61]:aC)+γ c<=9223372036854775807)<|((BF fu ((),f.2.2.2) (([61]:aC)++c)).bind λi=>(gd (acl (a+1))<|(h (a+1) () i.2.2.2))))) (λq=>δ (.inr q)) j))))))))else δ (.inl ((),g)))
def aeq(fu:Nat)(e:LQ):Nat->Int->Unit->(List UInt8)->Option ((Unit×(List UInt8))⊕(aC×UInt8)):=λd c b a=>bN (λg v=>aib fu e (λc b a=>g (c,b,a)) v.1 v.2.1 v.2.2) d (c,b,a)
theorem arn:aeq a g (b+1) c t e=aib a g (aeq a g b) c t e:=rfl
def WL(fu:Nat)(b:LQ):Option (aC×UInt8):=
 (if 16<(γ b:Int)then δ ([],2)else(((aeq fu b fu 0 () [])).bind λc=>eN (λa=>(gd (γ a.2<=140737488355328)<|some (a.2,0))) (λq=>δ q) c))
def alj(fu:Nat)(d:AQ):Option (aC×UInt8):=
 ((arw fu d.1).bind λb=>(if b.2=0 then((avj fu d.2.1).bind λa=>(if a.2=0 then((ml fu d.2.2).bind λe=>((WL fu e).bind λc=>(if c.2=0 then(if d.1=[]then(gd (γ ([60]:aC)+γ a.1<=9223372036854775807)<|(gd (γ ([60]++a.1)+γ ([62]:aC)<=9223372036854775807)<|(gd (γ (([60]++a.1)++[62])+γ c.1<=9223372036854775807)<|some (((([60]:aC)++a.1)++([62]:aC))++c.1,0))))else(gd (γ b.1+γ ([32,60]:aC)<=9223372036854775807)<|(gd (γ (b.1++([32,60]))+γ a.1<=9223372036854775807)<|(gd (γ ((b.1++([32,60]))++a.1)+γ ([62]:aC)<=9223372036854775807)<|(gd (γ (((b.1++([32,60]))++a.1)++[62])+γ c.1<=9223372036854775807)<|some ((((b.1++([32,60]))++a.1)++[62])++c.1,0))))))else δ ([],2))))else δ ([],2)))else δ ([],2)))
def adg(fu:Nat)(s_0:aC)(d:aC->Int->Option aC)(b:aC)(a:Int):Option aC:=
 (if a<γ s_0 then(gd (0<=a/\a<γ b)<|(gd (0<=a/\a<γ b)<|((amd fu (at_ b a)).bind λc=>(gd (0<=a/\a<γ b)<|(gd (0<=a/\a<γ b)<|(gd (acl (a+1))<|(d (gQ b (bF a) c) (a+1))))))))else δ b)
def adk(fu:Nat)(s_0:aC):Nat->aC->Int->Option aC:=λc b a=>bN (λg v=>adg fu s_0 (λb a=>g (b,a)) v.1 v.2) c (b,a)
theorem ait:adk a d (b+1) o c=adg a d (adk a d b) o c:=rfl
def acg(fu:Nat)(s_0:aC):Option aC:=
 (((adk fu s_0 fu s_0 0)).bind λa=>δ a)
def asy(fu:Nat)(s_0:aC):Option PQ:=
 (gd (γ s_0<=1000000000)<|(((if(kC (·==58) s_0)<0 then δ ζ else(gd (0<=(kC (·==58) s_0)/\(kC (·==58) s_0)<=γ s_0)<|(gd (γ (jV (bF (kC (·==58) s_0)) s_0)<=1000000000)<|(bif (Lib.contains (jV (bF (kC (·==58) s_0)) s_0) [91])then(gd (0<=(kC (·==58) s_0)/\(kC (·==58) s_0)<=γ s_0)<|(gd (γ (cG (bF (kC (·==58) s_0)) s_0)<=1000000000)<|some (Lib.contains (cG (bF (kC (·==58) s_0)) s_0) [93])))else δ η))))).bind λa=>(bif a then δ (s_0,[],η)else(gd (0<=(kC (·==58) s_0)/\(kC (·==58) s_0)<=γ s_0)<|(gd (acl ((kC (·==58) s_0)+1))<|(gd (0<=((kC (·==58) s_0)+1)/\((kC (·==58) s_0)+1)<=γ s_0)<|some (jV (bF (kC (·==58) s_0)) s_0,cG (bF ((kC (·==58) s_0)+1)) s_0,ζ)))))))
def arb(fu:Nat)(b:LQ)(c:aC)(e:Int->Option (Unit⊕(aC×Bool)))(a:Int):Option (Unit⊕(aC×Bool)):=
 (if a<γ b then(gd (0<=a/\a<γ b)<|(gd (0<=a/\a<γ b)<|((WI fu ((el b a).1)).bind λd=>(if d=c then δ (.inr ((el b a).2.1,ζ))else(gd (acl (a+1))<|(e (a+1)))))))else δ (.inl ()))
def aoq(fu:Nat)(d:LQ)(b:aC):Nat->Int->Option (Unit⊕(aC×Bool)):=λc a=>bN (λg v=>arb fu d b (λa=>g a) v) c a
theorem azp:aoq a g d (b+1) c=arb a g d (aoq a g d b) c:=rfl
def avk(fu:Nat)(d:LQ)(c:aC):Option (aC×Bool):=
 ((WI fu c).bind λa=>(((aoq fu d a fu 0)).bind λb=>eN (λe=>δ ([],η)) (λq=>δ q) b))
def bak(fu:Nat)(t:aC):Option ((aC×aC×Int×aC×LQ)×UInt8):=
 ((XK fu t).bind λa=>(((if γ a<(8:Int)then δ ζ else(gd (0<=(8:Int)/\8<=(γ a:Int))<|((acg fu (jV (bF 8) a)).bind λs=>δ (!decide (s=([83,73,80,47,50,46,48,47]))))))).bind λr=>(bif r then δ (([],[],0,[],[]),5)else((mo fu a 8).bind λd=>((mi fu a d).bind λc=>(((if d=8 then δ ζ else δ (decide (c=d)))).bind λp=>(bif p then δ (([],[],0,[],[]),5)else(gd (0<=(8:Int)/\8<=d/\d<=γ a)<|((acg fu (sub a 8 d)).bind λo=>(gd (0<=c/\c<=γ a)<|(((gd (γ (cG (bF c) a)<=1000000000/\γ ([59,32,9]:aC)<=1000/\([59,32,9]:aC).all (λb=>decide (b.toNat<128))=ζ)<|(if 0<=(Dc (cG (bF c) a) ([59,32,9]))then(gd (0<=(Dc (cG (bF c) a) ([59,32,9]))/\(Dc (cG (bF c) a) ([59,32,9]))<=(γ (cG (bF c) a)))<|(gd (0<=(Dc (cG (bF c) a) ([59,32,9]))/\(Dc (cG (bF c) a) ([59,32,9]))<=(γ (cG (bF c) a)))<|some (jV (bF (Dc (cG (bF c) a) ([59,32,9]))) (cG (bF c) a),cG (bF (Dc (cG (bF c) a) ([59,32,9]))) (cG (bF c) a))))else δ (cG (bF c) a,[])))).bind λ(j:(aC×aC))=>((asy fu j.1).bind λg=>((aa fu g.1).bind λi=>(bif (!i.2)then δ (([],[],0,[],[]),5)else(((bif g.2.2 then((tb fu g.2.1).bind λe=>(((((if e.2=0 then(if e.1<1 then δ ζ else δ (decide (65535<e.1)))else δ η)).bind λn=>(bif n then δ 3 else δ e.2))).bind λh=>(if h=0 then δ (.inl e.1)else δ (.inr (([],[],0,[],[]),h)))))else δ (.inl 0))).bind λm=>eN (λl=>((td fu j.2).bind λf=>(if f.2.2=0 then((avk fu f.1 ([98,114,97,110,99,104])).bind λk=>δ ((o,i.1,l,k.1,f.1),0))else δ (([],[],0,[],[]),f.2.2)))) (λq=>δ q) m)))))))))))))))
def aly(fu:Nat)(s_0:LQ):Option LQ:=
 δ s_0
def acb(fu:Nat)(b:PQ)(a:LQ):Option (Nat×LQ):=
 (gd ((γ a+γ ([b]:LQ))*40<=140737488355328)<|some (0,a++([b]:LQ)))
def aan(fu:Nat)(b:LQ)(e:Int->LQ->Option (LQ×Nat))(a:Int)(d:LQ):Option (LQ×Nat):=
 (if a<(γ b:Int)then(gd (0<=a/\a<(γ b:Int))<|(gd (0<=a/\a<(γ b:Int))<|((acb fu ((el b a).1,(el b a).2.1,((el b a).2.2)) d).bind λ(c:(Nat×LQ))=>(if c.1=0 then(gd (acl (a+1))<|(e (a+1) c.2))else δ (c.2,c.1)))))else δ (d,0))
def aam(fu:Nat)(d:LQ):Nat->Int->LQ->Option (LQ×Nat):=λc b a=>bN (λ(g:(Int×LQ)->Option (LQ×Nat)) v=>aan fu d (λb a=>g (b,a)) v.1 v.2) c (b,a)
theorem abl:aam a g (b+1) c v=aan a g (aam a g b) c v:=rfl
def abc(fu:Nat)(b:LQ)(a:LQ):Option (LQ×Nat):=
 (aam fu a fu (0:Int) b)
def adx(fu:Nat)(s_0:LQ)(b:LQ):Option LQ:=
 ((abc fu s_0 b).bind λ(a:(LQ×Nat))=>(if a.2=0 then δ a.1 else ε))
def ada(fu:Nat)(b:LQ):Option LQ:=
 ((adx fu ([]:LQ) b).bind λ(a:LQ)=>δ a)
def Co(fu:Nat)(c:PQ)(b:PQ):Option Int:=
 ((ane fu c.1 b.1).bind λ(a:Int)=>δ a)
def akz:=aat
def aot:=acm
def acn:=aba
def abd(fu:Nat)(c:LQ):Option LQ:=
 ((ada fu c).bind λb=>((acn fu b).bind λa=>δ a))
def WJ(fu:Nat)(a:LQ):Option LQ:=
 ((aly fu a).bind λc=>((abd fu a).bind λb=>δ b))
def ale(fu:Nat)(b:(aC×aC×Int×aC×LQ))(d:LQ->Int->Option LQ)(c:LQ)(a:Int):Option LQ:=
 (if a<γ b.2.2.2.2 then(gd (0<=a/\a<γ b.2.2.2.2)<|(gd (0<=a/\a<γ b.2.2.2.2)<|(if((el b.2.2.2.2 a).1)=([98,114,97,110,99,104])then(gd (acl (a+1))<|(d c (a+1)))else(gd ((γ c+γ ([((el b.2.2.2.2 a).1,(el b.2.2.2.2 a).2.1,((el b.2.2.2.2 a).2.2))]))*40<=140737488355328)<|(gd (acl (a+1))<|(d (c++([((el b.2.2.2.2 a).1,(el b.2.2.2.2 a).2.1,((el b.2.2.2.2 a).2.2))])) (a+1)))))))else δ c)
def ajd(fu:Nat)(d:(aC×aC×Int×aC×LQ)):Nat->LQ->Int->Option LQ:=λc b a=>bN (λg v=>ale fu d (λb a=>g (b,a)) v.1 v.2) c (b,a)
theorem auy{d:(aC×aC×Int×aC×LQ)}:ajd a d (b+1) g c=ale a d (ajd a d b) g c:=rfl
def ary(fu:Nat)(a:(aC×aC×Int×aC×LQ)):Option (aC×UInt8):=
 ((aa fu a.2.1).bind λc=>(((bif (!c.2)then δ ζ else((XL fu a.1).bind λj=>(bif (!j)then δ ζ else(if a.2.2.1<0 then δ ζ else δ (decide (65535<a.2.2.1))))))).bind λi=>(bif i then δ ([],2)else(((ajd fu a fu [] 0)).bind λf=>(((if a.2.2.2.1=[]then δ f else(gd ((γ f+γ ([(([98,114,97,110,99,104]:aC),a.2.2.2.1,ζ)]:LQ))*40<=140737488355328)<|some (f++([(([98,114,97,110,99,104]:aC),a.2.2.2.1,ζ)]:LQ))))).bind λh=>((WJ fu h).bind λg=>((WL fu g).bind λe=>(if e.2=0 then(((if a.2.2.1=0 then δ c.1 else(gd (acl a.2.2.1)<|(gd (γ ([58]:aC)+γ (dU a.2.2.1)<=9223372036854775807)<|(gd (γ c.1+γ ([58]++(dU a.2.2.1))<=9223372036854775807)<|some (c.1++([58]++(dU a.2.2.1)))))))).bind λd=>((acg fu a.1).bind λb=>(gd (γ ([83,73,80,47,50,46,48,47]:aC)+γ b<=9223372036854775807)<|(gd (γ (([83,73,80,47,50,46,48,47])++b)+γ ([32]:aC)<=9223372036854775807)<|(gd (γ ((([83,73,80,47,50,46,48,47])++b)++[32])+γ d<=9223372036854775807)<|(gd (γ (((([83,73,80,47,50,46,48,47])++b)++[32])++d)+γ e.1<=9223372036854775807)<|some ((((([83,73,80,47,50,46,48,47]:aC)++b)++([32]:aC))++d)++e.1,0)))))))else δ ([],2)))))))))
def aoc(fu:Nat)(s_0:aC):Option (Int×aC×UInt8):=
 (gd (γ s_0<=1000000000/\γ ([32,9]:aC)<=1000/\([32,9]:aC).all (λb=>decide (b.toNat<128))=ζ)<|(((if(Dc s_0 ([32,9]))<0 then δ (γ s_0:Int)else δ (Dc s_0 ([32,9])))).bind λa=>(gd (0<=a/\a<=γ s_0)<|((tb fu (jV (bF a) s_0)).bind λd=>((mi fu s_0 a).bind λc=>(gd (0<=c/\c<=γ s_0)<|some (d.1,cG (bF c) s_0,d.2)))))))
def ava(fu:Nat)(d:aC):Option (Int×aC×UInt8):=
 ((XK fu d).bind λb=>((aoc fu b).bind λa=>(if a.2.2=0 then((XL fu a.2.1).bind λc=>(bif (!c)then δ (0,[],5)else δ (a.1,a.2.1,0)))else δ (0,[],a.2.2))))
def ayj(fu:Nat)(d:aC):Option (Int×Int×aC×UInt8):=
 ((XK fu d).bind λc=>((aoc fu c).bind λa=>(if a.2.2=0 then((ava fu a.2.1).bind λb=>(if b.2.2=0 then δ (a.1,b.1,b.2.1,0)else δ (0,0,[],b.2.2)))else δ (0,0,[],a.2.2))))
def auz(fu:Nat)(c:aC):Option (Int×UInt8):=
 ((XK fu c).bind λb=>((tb fu b).bind λa=>δ (a.1,a.2)))
def api(fu:Nat)(h:aC):Option ((aC×LQ)×UInt8):=
 ((XK fu h).bind λb=>((mo fu b 0).bind λa=>(if a=0 then δ (([],[]),5)else(((((if a<γ b then(gd (0<=a/\a<γ b)<|some (decide ((at_ b a)=47)))else δ η)).bind λg=>(bif g then(gd (acl (a+1))<|((mo fu b (a+1)).bind λe=>(gd (acl (a+1))<|(if e=(a+1)then δ (.inr (([],[]),5))else δ (.inl e)))))else δ (.inl a)))).bind λf=>eN (λc=>(gd (0<=c/\c<=(γ b:Int))<|((td fu (cG (bF c) b)).bind λd=>(if d.2.2=0 then(gd (0<=c/\c<=γ b)<|some ((jV (bF c) b,d.1),0))else δ (([],[]),d.2.2))))) (λq=>δ q) f))))
open Go.Lib renaming cut → eD, itoa → dU, join → cY
def aqw(fu:Nat)(a:(aC×LQ)):Option (aC×UInt8):=
 (gd (γ a.1<=1000000000)<|((((XL fu ((eD a.1 [47]).1)).bind λf=>(bif (!f)then δ ζ else(bif ((eD a.1 [47]).2.2)then((XL fu ((eD a.1 [47]).2.1)).bind λe=>δ (!e))else δ η)))).bind λd=>(bif d then δ ([],2)else((WJ fu a.2).bind λc=>((WL fu c).bind λb=>(if b.2=0 then(gd (γ a.1+γ b.1<=9223372036854775807)<|some (a.1++b.1,0))else δ ([],2)))))))
def aux(fu:Nat)(m:aC)(d:aC):Option (aC×UInt8):=
 ((tc fu m).bind λc=>(if c=1 then(((if m=([67,111,110,116,97,99,116])then((XK fu d).bind λq=>δ (decide (q=[42])))else δ η)).bind λp=>(bif p then δ ([42],0)else((ata fu d).bind λh=>(if h.2=0 then((alj fu h.1).bind λl=>δ (l.1,l.2))else δ ([],h.2)))))else(if c=2 then((bak fu d).bind λg=>(if g.2=0 then((ary fu g.1).bind λk=>δ (k.1,k.2))else δ ([],g.2)))else(if c=3 then((ava fu d).bind λb=>(if b.2.2=0 then(gd (acl b.1)<|(gd (γ (dU b.1)+γ ([32]:aC)<=9223372036854775807)<|(gd (γ ((dU b.1)++[32])+γ b.2.1<=9223372036854775807)<|some (((dU b.1)++([32]:aC))++b.2.1,0))))else δ ([],b.2.2)))else(if c=4 then((ayj fu d).bind λa=>(if a.2.2.2=0 then(gd (acl a.1)<|(gd (γ (dU a.1)+γ ([32]:aC)<=9223372036854775807)<|(gd (acl a.2.1)<|(gd (γ ((dU a.1)++[32])+γ (dU a.2.1)<=9223372036854775807)<|(gd (γ (((dU a.1)++[32])++(dU a.2.1))+γ ([32]:aC)<=9223372036854775807)<|(gd (γ ((((dU a.1)++[32])++(dU a.2.1))++[32])+γ a.2.2.1<=9223372036854775807)<|some (((((dU a.1)++([32]:aC))++(dU a.2.1))++([32]:aC))++a.2.2.1,0)))))))else δ ([],a.2.2.2)))else(if c=5 then((auz fu d).bind λe=>(if e.2=0 then(gd (acl e.1)<|some (dU e.1,0))else δ ([],e.2)))else(((if c=6 then δ (decide (c=6))else δ (decide (c=7)))).bind λo=>(bif o then((api fu d).bind λf=>(if f.2=0 then((aqw fu f.1).bind λj=>δ (j.1,j.2))else δ ([],f.2)))else((XK fu d).bind λi=>((arw fu i).bind λn=>(if n.2=0 then δ (i,0)else δ ([],5))))))))))))
def auu(fu:Nat)(s_0:aC)(d:Int)(a:Int):Option (Int×aC):=
 ((mi fu s_0 d).bind λc=>(gd (0<=(min c a)/\(min c a)<=a/\a<=γ s_0)<|(gd (γ (sub s_0 (min c a) a)<=1000000000)<|gd (γ ([32,9]:aC)<=1000/\([32,9]:aC).all (λb=>decide (b.toNat<128))=ζ)<|some (min c a,Lib.trimRightS (sub s_0 (min c a) a) ([32,9])))))
def alz(fu:Nat)(s_0:aC)(g:UInt8)(e:jU->Int->Int->Option ((jU×Int)⊕(jU×Int×UInt8)))(b:jU)(c:Int)(a:Int):Option ((jU×Int)⊕(jU×Int×UInt8)):=
 (if a<γ s_0 then(gd (0<=a/\a<γ s_0)<|(if(at_ s_0 a)=34 then((anu fu s_0 a).bind λd=>(if d.2.2=0 then(e b c d.2.1)else δ (.inr ([],d.2.1,d.2.2))))else(if(at_ s_0 a)=60 then(gd (0<=a/\a<=γ s_0)<|(if(dP (·==62) (cG (bF a) s_0))<0 then δ (.inr ([],γ s_0,6))else(gd (acl ((dP (·==62) (cG (bF a) s_0))+1))<|(gd (acl (a+((dP (·==62) (cG (bF a) s_0))+1)))<|(e b c (a+((dP (·==62) (cG (bF a) s_0))+1)))))))else(if(at_ s_0 a)=62 then δ (.inr ([],a,5))else(if(at_ s_0 a)=g then((auu fu s_0 c a).bind λf=>(gd ((γ b+[f].length)*24<=140737488355328)<|(gd (acl (a+1))<|(e (b++[f]) (a+1) (a+1)))))else(gd (acl (a+1))<|(e b c (a+1))))))))else δ (.inl (b,c)))
def anv(fu:Nat)(s_0:aC)(e:UInt8):Nat->jU->Int->Int->Option ((jU×Int)⊕(jU×Int×UInt8)):=λd c b a=>bN (λg v=>alz fu s_0 e (λc b a=>g (c,b,a)) v.1 v.2.1 v.2.2) d (c,b,a)
theorem atj{e:jU}:anv a d n (b+1) e c f=alz a d n (anv a d n b) e c f:=rfl
def ayi(fu:Nat)(s_0:aC)(a:UInt8):Option (jU×Int×UInt8):=
 ((((mw fu a).bind λf=>(bif f then δ ζ else(if a=34 then δ ζ else(if a=60 then δ ζ else δ (decide (a=62))))))).bind λe=>(bif e then δ ([],0,2)else(((anv fu s_0 a fu [] 0 0)).bind λd=>eN (λb=>((auu fu s_0 b.2 (γ s_0)).bind λc=>(gd ((γ b.1+[c].length)*24<=140737488355328)<|some (b.1++[c],0,0)))) (λq=>δ q) d)))
def aqx(fu:Nat)(b:(jU×Int×UInt8))(d:(List aC)->Int->Option ((List aC)⊕((List aC)×UInt8)))(c:List aC)(a:Int):Option ((List aC)⊕((List aC)×UInt8)):=
 (if a<γ b.1 then(gd (0<=a/\a<γ b.1)<|(gd (0<=a/\a<γ b.1)<|(if((el b.1 a).2)=[]then δ (.inr ([],5))else(gd ((γ c+γ ([(el b.1 a).2]))*16<=140737488355328)<|(gd (acl (a+1))<|(d (c++([(el b.1 a).2])) (a+1)))))))else δ (.inl c))
def aoe(fu:Nat)(c:(jU×Int×UInt8)):Nat->(List aC)->Int->Option ((List aC)⊕((List aC)×UInt8)):=λd b a=>bN (λg v=>aqx fu c (λb a=>g (b,a)) v.1 v.2) d (b,a)
variable {m:(jU×Int×UInt8)}
theorem azn:aoe a m (b+1) i c=aqx a m (aoe a m b) i c:=rfl
def ayk(fu:Nat)(d:aC):Option ((List aC)×UInt8):=
 ((ayi fu d 44).bind λa=>(if a.2.2=0 then(((aoe fu a fu [] 0)).bind λc=>eN (λb=>δ (b,0)) (λq=>δ q) c)else δ ([],a.2.2)))
def aqv(fu:Nat)(d:(aC×UInt8))(f:((List aC)×UInt8))(e:(List aC)->Int->Option ((List aC)⊕(aC×UInt8)))(b:List aC)(a:Int):Option ((List aC)⊕(aC×UInt8)):=
 (if a<γ f.1 then(gd (0<=a/\a<γ b)<|(gd (0<=a/\a<γ b)<|((aux fu d.1 (el b a)).bind λc=>(gd (0<=a/\a<γ b)<|(gd (0<=a/\a<γ b)<|(if c.2=0 then(gd (acl (a+1))<|(e (gQ b (bF a) c.1) (a+1)))else δ (.inr ([],c.2))))))))else δ (.inl b))
def aod(fu:Nat)(c:(aC×UInt8))(e:((List aC)×UInt8)):Nat->(List aC)->Int->Option ((List aC)⊕(aC×UInt8)):=λd b a=>bN (λg v=>aqv fu c e (λb a=>g (b,a)) v.1 v.2) d (b,a)
theorem azm{e:(aC×UInt8)}{d:((List aC)×UInt8)}:aod a e d (b+1) i c=aqv a e d (aod a e d b) i c:=rfl
def aph(fu:Nat)(h:aC)(e:aC):Option (aC×UInt8):=
 ((RL fu h).bind λa=>(if a.2=0 then((apf fu a.1).bind λf=>(bif (!f)then((aux fu a.1 e).bind λd=>δ (d.1,d.2))else((ayk fu e).bind λb=>(if b.2=0 then(((aod fu a b fu b.1 0)).bind λg=>eN (λ(c:List aC)=>(gd (γ c<=1000000000/\γ (cY c ([44,32]))<=100000000000)<|some (cY c ([44,32]),0))) (λq=>δ q) g)else δ ([],b.2)))))else δ ([],5)))
def aje(fu:Nat)(c:aC)(b:aC):Option ((aC×aC)×UInt8):=
 (if 1024<(γ b:Int)then δ (([],[]),4)else((aph fu c b).bind λa=>(if a.2=0 then(if 1024<(γ a.1:Int)then δ (([],[]),4)else δ ((c,a.1),0))else δ (([],[]),a.2))))
def aik(fu:Nat)(a:aC):Option ((aC×aC)×UInt8):=
 (gd (γ a<=1000000000)<|(bif (!((eD a [58]).2.2))then δ (([],[]),5)else(gd (γ ((eD a [58]).1)<=1000000000)<|gd (γ ([32,9]:aC)<=1000/\([32,9]:aC).all (λb=>decide (b.toNat<128))=ζ)<|((RL fu (Lib.trimRightS ((eD a [58]).1) ([32,9]))).bind λd=>(if d.2=0 then(gd (γ ((eD a [58]).2.1)<=1000000000)<|gd (γ ([32,9]:aC)<=1000/\([32,9]:aC).all (λb=>decide (b.toNat<128))=ζ)<|((aje fu d.1 (Lib.trimS ((eD a [58]).2.1) ([32,9]))).bind λc=>δ (c.1,c.2)))else δ (([],[]),5))))))
open Go.Lib renaming cut → eD, hasPrefix → fW, index → cK, trimPrefix → fK
open List renaming replicate → fH, set → gQ, take → jV
def aes(fu:Nat)(b:(jU×Int×UInt8))(g:Int->cD->Option (cD⊕(qL×Int×UInt8)))(a:Int)(d:cD):Option (cD⊕(qL×Int×UInt8)):=
 (if a<γ b.1 then(gd (0<=a/\a<γ b.1)<|(gd (0<=a/\a<γ b.1)<|((aik fu ((el b.1 a).2)).bind λc=>(((((if c.2=0 then δ (decide (γ d=(64:Int)))else δ η)).bind λf=>(bif f then δ 4 else δ c.2))).bind λe=>(if e=0 then(gd ((γ d+[c.1].length)*32<=140737488355328)<|(gd (acl (a+1))<|(g (a+1) (d++[c.1]))))else δ (.inr (([],[]),(el b.1 a).1,e)))))))else δ (.inl d))
def ti(fu:Nat)(d:(jU×Int×UInt8)):Nat->Int->cD->Option (cD⊕(qL×Int×UInt8)):=λc b a=>bN (λg v=>aes fu d (λb a=>g (b,a)) v.1 v.2) c (b,a)
variable {j:cD}
theorem ahl:ti a m (b+1) c j=aes a m (ti a m b) c j:=rfl
def aij(fu:Nat)(a:aC):Option (qL×Int×UInt8):=
 (bif (fW a ([13,10]))then δ (([],fK a ([13,10])),0,0)else(gd (γ a<=1000000000)<|(bif (!((eD a ([13,10,13,10])).2.2))then δ (([],[]),0,5)else(gd (γ ((eD a ([13,10,13,10])).1)+γ ([13,10]:aC)<=9223372036854775807)<|((amu fu (((eD a ([13,10,13,10])).1)++([13,10]:aC))).bind λb=>(if b.2.2=0 then(((ti fu b fu 0 [])).bind λd=>eN (λc=>δ ((c,(eD a ([13,10,13,10])).2.1),0,0)) (λq=>δ q) d)else δ (([],[]),b.2.1,b.2.2)))))))
def ail(fu:Nat)(e:List UInt8)(i:aC)(h:dO->Int->Int->Bool->Option ((dO×Int×Int×Bool)⊕(dO×Int×UInt8)))(d:dO)(g:Int)(a:Int)(f:Bool):Option ((dO×Int×Int×Bool)⊕(dO×Int×UInt8)):=
 (bif (!f)then(if γ d=(8:Int)then δ (.inr ([],g,4))else((X5 fu e a i).bind λb=>(bif (!b.2)then δ (.inr ([],γ e,6))else(gd (acl (b.1.1-2))<|(gd (0<=a/\a<=(max (b.1.1-2) a)/\(max (b.1.1-2) a)<=γ e)<|((aij fu (sub e a (max (b.1.1-2) a))).bind λc=>(if c.2.2=0 then(gd ((γ d+1)*48<=140737488355328)<|(h (d++[c.1]) b.1.1 b.1.2.1 b.1.2.2))else(gd (acl (a+c.2.1))<|some (.inr ([],a+c.2.1,c.2.2))))))))))else δ (.inl (d,g,a,f)))
def mu(fu:Nat)(h:List UInt8)(f:aC):Nat->dO->Int->Int->Bool->Option ((dO×Int×Int×Bool)⊕(dO×Int×UInt8)):=λe d c b a=>bN (λg v=>ail fu h f (λd c b a=>g (d,c,b,a)) v.1 v.2.1 v.2.2.1 v.2.2.2) e (d,c,b,a)
variable {h:dO}
theorem anh:mu a e d (b+1) h c f k=ail a e d (mu a e d b) h c f k:=rfl
def mh(fu:Nat)(b:List UInt8)(c:aC):Option (dO×Int×UInt8):=
 ((aoi fu c).bind λd=>(bif (!d)then δ ([],0,2)else(if 8192<(γ b:Int)then δ ([],8192,4)else((X5 fu b 0 c).bind λa=>(bif (!a.2)then δ ([],γ b,6)else(bif a.1.2.2 then δ ([],a.1.1,5)else(((mu fu b c fu [] a.1.1 a.1.2.1 a.1.2.2)).bind λf=>eN (λe=>δ (e.1,0,0)) (λq=>δ q) f)))))))
def anf(fu:Nat)(p_0:qL)(e:Int->cD->Option (cD⊕(qL×Bool)))(a:Int)(c:cD):Option (cD⊕(qL×Bool)):=
 (if a<γ p_0.1 then(gd (0<=a/\a<γ p_0.1)<|(gd (0<=a/\a<γ p_0.1)<|((RL fu ((el p_0.1 a).1)).bind λd=>(if d.2=0 then((aje fu d.1 ((el p_0.1 a).2)).bind λb=>(if b.2=0 then(gd ((γ c+[b.1].length)*32<=140737488355328)<|(gd (acl (a+1))<|(e (a+1) (c++[b.1]))))else δ (.inr (([],[]),η))))else δ (.inr (([],[]),η))))))else δ (.inl c))
def alc(fu:Nat)(p_0:qL):Nat->Int->cD->Option (cD⊕(qL×Bool)):=λc b a=>bN (λg v=>anf fu p_0 (λb a=>g (b,a)) v.1 v.2) c (b,a)
variable {w:qL}
theorem awz:alc a w (b+1) c j=anf a w (alc a w b) c j:=rfl
def aof(fu:Nat)(p_0:qL):Option (qL×Bool):=
 (if 64<(γ p_0.1:Int)then δ (([],[]),η)else(gd ((0+γ p_0.2)*1<=140737488355328)<|(((alc fu p_0 fu 0 [])).bind λb=>eN (λa=>δ ((a,p_0.2),ζ)) (λq=>δ q) b)))
def ayl(fu:Nat)(b:List UInt8)(a:List UInt8):Option Bool:=
 δ (decide (b=a))
def aii(fu:Nat)(s_0:List UInt8)(a:List UInt8):Option Bool:=
 (((if γ a<=(γ s_0:Int)then(gd (0<=(γ a:Int)/\γ a<=(γ s_0:Int))<|((ayl fu (jV (bF (γ a)) s_0) a).bind λc=>δ c))else δ η)).bind λb=>δ b)
def apx(fu:Nat)(b:List UInt8)(a:List UInt8):Option Bool:=
 (gd (γ b<=1000000000/\2<=γ a/\γ a<=1000000000)<|some (!decide ((cK b a)=(-1))))
def amj(fu:Nat)(c:dO)(e:dO->Int->Option (dO⊕((List UInt8)×UInt8)))(b:dO)(a:Int):Option (dO⊕((List UInt8)×UInt8)):=
 (if a<γ c then(gd (0<=a/\a<γ c)<|(gd (0<=a/\a<γ c)<|((aof fu (el c a)).bind λd=>(bif (!d.2)then δ (.inr ([],2))else(gd (0<=a/\a<γ b)<|(gd (0<=a/\a<γ b)<|(gd (acl (a+1))<|(e (gQ b (bF a) d.1) (a+1)))))))))else δ (.inl b))
def ain(fu:Nat)(d:dO):Nat->dO->Int->Option (dO⊕((List UInt8)×UInt8)):=λc b a=>bN (λg v=>amj fu d (λb a=>g (b,a)) v.1 v.2) c (b,a)
variable {p:dO}
theorem ato:ain a h (b+1) p c=amj a h (ain a h b) p c:=rfl
def ami(fu:Nat)(c:aC)(b:dO)(g:Int->Option (Unit⊕((List UInt8)×UInt8)))(a:Int):Option (Unit⊕((List UInt8)×UInt8)):=
 (if a<γ b then(gd (0<=a/\a<γ b)<|(gd (0<=a/\a<γ b)<|((((aii fu ((el b a).2) (([45,45])++c)).bind λf=>(bif f then δ ζ else(gd (0<γ (([45,45])++c)/\(γ ([13,(10:UInt8)])+γ (([45,45])++c))*1<=140737488355328)<|((apx fu ((el b a).2) (([13,10])++(([45,45])++c))).bind λe=>δ e))))).bind λd=>(bif d then δ (.inr ([],7))else(gd (acl (a+1))<|(g (a+1)))))))else δ (.inl ()))
def aim(fu:Nat)(d:aC)(c:dO):Nat->Int->Option (Unit⊕((List UInt8)×UInt8)):=λb a=>bN (λg v=>ami fu d c (λa=>g a) v) b a
theorem atn:aim a d h (b+1) c=ami a d h (aim a d h b) c:=rfl
def amg(fu:Nat)(c:dO)(b:Int)(e:(List UInt8)->Int->Option (List UInt8))(d:List UInt8)(a:Int):Option (List UInt8):=
 (if a<(γ ((el c b).1))then(gd (0<=a/\a<(γ ((el c b).1)))<|(gd (0<=a/\a<(γ ((el c b).1)))<|(gd (γ ((el ((el c b).1) a).1)+γ ([58,32]:aC)<=9223372036854775807)<|(gd (γ (((el ((el c b).1) a).1)++([58,32]))+γ ((el ((el c b).1) a).2)<=9223372036854775807)<|(gd (γ ((((el ((el c b).1) a).1)++([58,32]))++((el ((el c b).1) a).2))+γ ([13,10]:aC)<=9223372036854775807)<|(gd ((γ d+γ (((((el ((el c b).1) a).1)++([58,32]))++((el ((el c b).1) a).2))++([13,10])))*1<=140737488355328)<|(gd (acl (a+1))<|(e (d++(((((el ((el c b).1) a).1)++([58,32]))++((el ((el c b).1) a).2))++([13,10]))) (a+1)))))))))else δ d)
def akp(fu:Nat)(e:dO)(d:Int):Nat->(List UInt8)->Int->Option (List UInt8):=λc b a=>bN (λg v=>amg fu e d (λb a=>g (b,a)) v.1 v.2) c (b,a)
theorem atl:akp a h c (b+1) e f=amg a h c (akp a h c b) e f:=rfl
def amh(fu:Nat)(d:aC)(b:dO)(h:(List UInt8)->Int->Option ((List UInt8)⊕((List UInt8)×UInt8)))(e:List UInt8)(a:Int):Option ((List UInt8)⊕((List UInt8)×UInt8)):=
 (if a<γ b then(((gd (0<=a/\a<γ b)<|(gd (0<=a/\a<γ b)<|(gd (γ ([45,45]:aC)+γ d<=9223372036854775807)<|(gd (γ (([45,45])++d)+γ ([13,10]:aC)<=9223372036854775807)<|(gd ((γ e+γ ((([45,45])++d)++([13,10])))*1<=140737488355328)<|(((akp fu b a fu (e++((([45,45])++d)++([13,10]))) 0)).bind λc=>(gd ((γ c+γ ([13,10]:aC))*1<=140737488355328)<|(gd ((γ (c++([13,10]))+γ ((el b a).2))*1<=140737488355328)<|(gd ((γ ((c++([13,10]))++((el b a).2))+γ ([13,10]:aC))*1<=140737488355328)<|(if 8192<(γ (((c++([13,10]:aC))++((el b a).2))++([13,10]:aC)):Int)then δ (.inr ([],4))else δ (.inl (((c++([13,10]))++((el b a).2))++([13,10])))))))))))))).bind λg=>eN (λf=>(gd (acl (a+1))<|(h f (a+1)))) (λq=>δ (.inr q)) g)else δ (.inl e))
def akq(fu:Nat)(e:aC)(d:dO):Nat->(List UInt8)->Int->Option ((List UInt8)⊕((List UInt8)×UInt8)):=λc b a=>bN (λg v=>amh fu e d (λb a=>g (b,a)) v.1 v.2) c (b,a)
theorem atm:akq a d h (b+1) e c=amh a d h (akq a d h b) e c:=rfl
def arz(fu:Nat)(b:dO)(a:aC):Option ((List UInt8)×UInt8):=
 ((((aoi fu a).bind λi=>(bif (!i)then δ ζ else(if γ b<(1:Int)then δ ζ else δ (decide (8<(γ b:Int))))))).bind λh=>(bif h then δ ([],2)else(@gd _ (0<=(γ b:Int)/\48*(γ b:Int)<=281474976710656) (dMk 48 (γ b))<|(((ain fu b fu (fH (bF (γ b)) ([],[])) 0)).bind λg=>eN (λd=>(gd (γ ([45,45]:aC)+γ a<=9223372036854775807)<|(((aim fu a d fu 0)).bind λf=>eN (λj=>(((akq fu a d fu [] 0)).bind λe=>eN (λc=>(gd (γ ([45,45]:aC)+γ a<=9223372036854775807)<|(gd (γ (([45,45])++a)+γ ([45,45,13,10]:aC)<=9223372036854775807)<|(gd ((γ c+γ ((([45,45])++a)++([45,45,13,10])))*1<=140737488355328)<|(if 8192<(γ (c++((([45,45]:aC)++a)++([45,45,13,10]:aC))):Int)then δ ([],4)else δ (c++((([45,45])++a)++([45,45,13,10])),0)))))) (λq=>δ q) e)) (λq=>δ q) f))) (λq=>δ q) g))))
def Cn(fu:Nat)(b:(aC×aC×Int×aC×cD×(List UInt8)))(c:(aC×aC×Int×aC×cD×(List UInt8)))(d:Int->Option (Unit⊕Bool))(a:Int):Option (Unit⊕Bool):=
 (if a<γ b.2.2.2.2.1 then(gd (0<=a/\a<γ b.2.2.2.2.1)<|(gd (0<=a/\a<γ b.2.2.2.2.1)<|(gd (0<=a/\a<γ c.2.2.2.2.1)<|(gd (0<=a/\a<γ c.2.2.2.2.1)<|(if(el b.2.2.2.2.1 a)=(el c.2.2.2.2.1 a)then(gd (acl (a+1))<|(d (a+1)))else δ (.inr η))))))else δ (.inl ()))
def Fz(fu:Nat)(d:(aC×aC×Int×aC×cD×(List UInt8)))(c:(aC×aC×Int×aC×cD×(List UInt8))):Nat->Int->Option (Unit⊕Bool):=λb a=>bN (λg v=>Cn fu d c (λa=>g a) v) b a
def baj(fu:Nat)(b:(aC×aC×Int×aC×cD×(List UInt8)))(a:(aC×aC×Int×aC×cD×(List UInt8))):Option Bool:=
 (((if b.1=a.1 then(if b.2.1=a.2.1 then(if b.2.2.1=a.2.2.1 then(if b.2.2.2.1=a.2.2.2.1 then(if γ b.2.2.2.2.1=(γ a.2.2.2.2.1:Int)then δ (!decide (b.2.2.2.2.2=a.2.2.2.2.2))else δ ζ)else δ ζ)else δ ζ)else δ ζ)else δ ζ)).bind λd=>(bif d then δ η else(((Fz fu b a fu 0)).bind λc=>eN (λe=>δ ζ) (λq=>δ q) c)))
open Go.Lib renaming index → cK, itoa → dU
open List renaming drop → cG, replicate → fH
def axo(fu:Nat)(b:qL)(a:qL):Option Bool:=
 ((baj fu ([],[],0,[],b.1,b.2) ([],[],0,[],a.1,a.2)).bind λc=>δ c)
def awf(fu:Nat)(b:dO)(c:dO)(e:Int->Option Unit)(a:Int):Option Unit:=
 (if a<γ b then(gd (0<=a/\a<γ b)<|(gd (0<=a/\a<γ b)<|(gd (0<=a/\a<γ c)<|(gd (0<=a/\a<γ c)<|((axo fu (el b a) (el c a)).bind λd=>(bif (!d)then ε else(gd (acl (a+1))<|(e (a+1)))))))))else δ ())
def axn(fu:Nat)(d:dO)(c:dO):Nat->Int->Option Unit:=λb a=>bN (λg v=>awf fu d c (λa=>g a) v) b a
theorem yE:axn a h p (b+1) c=awf a h p (axn a h p b) c:=rfl
def qN(fu:Nat)(b:dO)(a:dO):Option Bool:=
 (if γ b=(γ a:Int)then(((axn fu b a fu 0)).bind λc=>δ ζ)else ε)
def ame(fu:Nat)(a:List UInt8)(f:Int->Int->(List Int)->Option (List Int))(c:Int)(b:Int)(d:List Int):Option (List Int):=
 (if b<(((γ a-(bF ((cK a ([45,45,98]:List UInt8))+(3:Int)))):Nat))then(gd (0<=b/\b<(γ (cG (bF ((cK a ([45,45,98]))+3)) a)))<|(gd (0<=b/\b<(γ (cG (bF ((cK a ([45,45,98]))+3)) a)))<|(((if(at_ (cG (bF ((cK a ([45,45,98]))+3)) a) b)<48 then δ ζ else(if 57<(at_ (cG (bF ((cK a ([45,45,98]))+3)) a) b)then δ ζ else(if 1125899906842624<c then δ ζ else(if 0<b then δ (decide (c=0))else δ η))))).bind λe=>(bif e then δ d else(gd (acl (10*c))<|(gd (acl ((10*c)+(((at_ (cG (bF ((cK a ([45,45,98]:List UInt8))+(3:Int))) a) b)-(48:UInt8)).toNat)))<|(gd (acl (b+1))<|(f ((10*c)+(((at_ (cG (bF ((cK a ([45,45,98]:List UInt8))+(3:Int))) a) b)-48).toNat)) (b+1) (jD d ((10*c)+(((at_ (cG (bF ((cK a ([45,45,98]))+3)) a) b)-48).toNat)))))))))))else δ d)
def ako(fu:Nat)(e:List UInt8):Nat->Int->Int->(List Int)->Option (List Int):=λd c b a=>bN (λg v=>ame fu e (λc b a=>g (c,b,a)) v.1 v.2.1 v.2.2) d (c,b,a)
variable {l:List Int}
theorem atk:ako a e (b+1) c f l=ame a e (ako a e b) c f l:=rfl
def aqz(fu:Nat)(d:(List UInt8)->(List Int)->Option (List Int))(a:List UInt8)(b:List Int):Option (List Int):=
 (gd (γ a<=1000000000/\2<=γ ([45,45,(98:UInt8)])/\γ ([45,45,(98:UInt8)])<=1000000000)<|(if 0<=(cK a ([45,45,98]))then(gd (0<=(cK a ([45,45,98]))/\(cK a ([45,45,98]))<=γ a)<|(gd (acl ((cK a ([45,45,98]))+3))<|(gd (0<=((cK a ([45,45,98]))+3)/\((cK a ([45,45,98]))+3)<=γ a)<|(((ako fu a fu 0 0 b)).bind λc=>(d (cG (bF ((cK a ([45,45,98]))+3)) a) c)))))else δ b))
def aog(fu:Nat):Nat->(List UInt8)->(List Int)->Option (List Int):=λc b a=>bN (λg v=>aqz fu (λb a=>g (b,a)) v.1 v.2) c (b,a)
theorem azo:aog a (b+1) e l=aqz a (aog a b) e l:=rfl
def aym(fu:Nat)(b:List Int)(a:List UInt8):Option (List Int):=
 (aog fu fu a b)
def aif(fu:Nat)(b:dO)(e:Int->(List Int)->Option (List Int))(a:Int)(c:List Int):Option (List Int):=
 (if a<γ b then(gd (0<=a/\a<γ b)<|(gd (0<=a/\a<γ b)<|((aym fu c ((el b a).2)).bind λd=>(gd (acl (a+1))<|(e (a+1) d)))))else δ c)
def agr(fu:Nat)(d:dO):Nat->Int->(List Int)->Option (List Int):=λc b a=>bN (λg v=>aif fu d (λb a=>g (b,a)) v.1 v.2) c (b,a)
theorem apl:agr a h (b+1) c l=aif a h (agr a h b) c l:=rfl
def alf(fu:Nat)(c:List Int)(b:Int->Option Int)(a:Int):Option Int:=
 (if a∈c then(gd (acl (a+1))<|(b (a+1)))else δ a)
def agq(fu:Nat)(c:List Int):Nat->Int->Option Int:=λb a=>bN (λg v=>alf fu c (λa=>g a) v) b a
theorem avf:agq a l (b+1) c=alf a l (agq a l b) c:=rfl
def aio(fu:Nat)(c:dO):Option aC:=
 (((agr fu c fu 0 [])).bind λb=>(((agq fu b fu 0)).bind λa=>(gd (acl a)<|(gd (γ ([98]:aC)+γ (dU a)<=9223372036854775807)<|some (([98]:aC)++(dU a))))))
def ape(fu:Nat):Option Bool:=
 ((mh fu ([45,45,98,13,10,99,58,32,116,101,120,116,47,112,108,97,105,110,13,10,13,10,104,105,13,10,45,45,98,45,45]) [98]).bind λa=>((arz fu ([(([(([67,111,110,116,101,110,116,45,84,121,112,101]),([116,101,120,116,47,112,108,97,105,110]))]),([(104:UInt8),(105:UInt8)])),([],[])]) [120]).bind λb=>(((if a.2.2=0 then(if a.2.1=0 then((qN fu a.1 ([(([(([67,111,110,116,101,110,116,45,84,121,112,101]),([116,101,120,116,47,112,108,97,105,110]))]),([104,(105:UInt8)]))])).bind λe=>(bif e then(if b.2=0 then(if b.1=([45,45,120,13,10,67,111,110,116,101,110,116,45,84,121,112,101,58,32,116,101,120,116,47,112,108,97,105,110,13,10,13,10,104,105,13,10,45,45,120,13,10,13,10,13,10,45,45,120,45,45,13,10])then((aio fu a.1).bind λd=>δ (decide (d=([98,48]))))else δ η)else δ η)else δ η))else δ η)else δ η)).bind λc=>δ c)))
def aoh(fu:Nat)(p_0:qL):Option qL:=
 (@gd _ (0<=(γ p_0.1:Int)/\32*(γ p_0.1:Int)<=281474976710656) (dMk 32 (γ p_0.1))<|(gd ((0+γ p_0.2)*1<=140737488355328)<|some (Z8 (fH (bF (γ p_0.1)) ([],[])) p_0.1,p_0.2)))
def ajs(fu:Nat)(d:(aC×aC)):Option (aC×Bool):=
 ((RL fu d.1).bind λa=>(((if a.2=0 then((tg fu a.1 ([67,111,110,116,101,110,116,45])).bind λc=>δ c)else δ η)).bind λb=>δ (a.1,b)))
def aqg(fu:Nat)(b:(aC×aC)):Option Bool:=
 ((ajs fu b).bind λa=>δ a.2)
def acq(fu:Nat)(s_0:cD)(c:Int->Option (Unit⊕Int))(a:Int):Option (Unit⊕Int):=
 (if a<γ s_0 then(gd (0<=a/\a<γ s_0)<|(gd (0<=a/\a<γ s_0)<|((aqg fu (el s_0 a)).bind λb=>(bif b then δ (.inr a)else(gd (acl (a+1))<|(c (a+1)))))))else δ (.inl ()))
def abx(fu:Nat)(s_0:cD):Nat->Int->Option (Unit⊕Int):=λb a=>bN (λg v=>acq fu s_0 (λa=>g a) v) b a
theorem agx:abx a j (b+1) c=acq a j (abx a j b) c:=rfl
def adj(fu:Nat)(s_0:cD):Option Int:=
 (((abx fu s_0 fu 0)).bind λa=>eN (λb=>δ (-1)) (λq=>δ q) a)
def abt(fu:Nat)(d:cD->Int->Int->Option (cD×Int))(b:cD)(c:Int)(a:Int):Option (cD×Int):=
 (if a<γ b then(gd (0<=a/\a<γ b)<|(gd (0<=a/\a<γ b)<|((aqg fu (el b a)).bind λe=>(bif (!e)then(gd (0<=c/\c<γ b)<|(gd (0<=c/\c<γ b)<|(gd (acl (c+1))<|(gd (acl (a+1))<|(d (gQ b (bF c) (el b a)) (c+1) (a+1))))))else(gd (acl (a+1))<|(d b c (a+1)))))))else δ (b,c))
def abv(fu:Nat):Nat->cD->Int->Int->Option (cD×Int):=λd c b a=>bN (λg v=>abt fu (λc b a=>g (c,b,a)) v.1 v.2.1 v.2.2) d (c,b,a)
theorem adt:abv a (b+1) j c f=abt a (abv a b) j c f:=rfl
def ach(fu:Nat)(s_0:cD):Option cD:=
 ((adj fu s_0).bind λb=>(if b=(-1)then δ s_0 else(((gd (acl (b+1))<|(abv fu fu s_0 b (b+1)))).bind λa=>(gd (0<=a.2/\a.2<=γ a.1)<|(gd (0<=a.2/\a.2<=(γ (XD a.1 (bF a.2) ([],[]))))<|some (jV (bF a.2) (XD a.1 (bF a.2) ([],[]))))))))
def aok(fu:Nat)(c:dO)(e:dO->Int->Option (dO⊕((aC×aC×Int×aC×cD×(List UInt8))×UInt8)))(b:dO)(a:Int):Option (dO⊕((aC×aC×Int×aC×cD×(List UInt8))×UInt8)):=
 (if a<γ c then(gd (0<=a/\a<γ c)<|(gd (0<=a/\a<γ c)<|((aof fu (el c a)).bind λd=>(bif (!d.2)then δ (.inr (([],[],0,[],[],[]),2))else(gd (0<=a/\a<γ b)<|(gd (0<=a/\a<γ b)<|(gd (acl (a+1))<|(e (gQ b (bF a) d.1) (a+1)))))))))else δ (.inl b))
def ajt(fu:Nat)(d:dO):Nat->dO->Int->Option (dO⊕((aC×aC×Int×aC×cD×(List UInt8))×UInt8)):=λc b a=>bN (λg v=>aok fu d (λb a=>g (b,a)) v.1 v.2) c (b,a)
theorem ave:ajt a h (b+1) p c=aok a h (ajt a h b) p c:=rfl
def aoj(fu:Nat)(b:dO)(e:Int->Option (Unit⊕((aC×aC×Int×aC×cD×(List UInt8))×UInt8)))(a:Int):Option (Unit⊕((aC×aC×Int×aC×cD×(List UInt8))×UInt8)):=
 (if a<(γ ((el b 0).1))then(gd (0<=a/\a<(γ ((el b 0).1)))<|(gd (0<=a/\a<(γ ((el b 0).1)))<|((ajs fu (el ((el b 0).1) a)).bind λc=>(((bif (!c.2)then δ ζ else δ (decide (c.1=([67,111,110,116,101,110,116,45,76,101,110,103,116,104]))))).bind λd=>(bif d then δ (.inr (([],[],0,[],[],[]),2))else(gd (acl (a+1))<|(e (a+1))))))))else δ (.inl ()))
def te(fu:Nat)(c:dO):Nat->Int->Option (Unit⊕((aC×aC×Int×aC×cD×(List UInt8))×UInt8)):=λb a=>bN (λg v=>aoj fu c (λa=>g a) v) b a
theorem avd:te a h (b+1) c=aoj a h (te a h b) c:=rfl
def axa(fu:Nat)(b:(aC×aC×Int×aC×cD×(List UInt8)))(c:dO):Option ((aC×aC×Int×aC×cD×(List UInt8))×UInt8):=
 (if 8<(γ c:Int)then δ (([],[],0,[],[],[]),2)else(@gd _ (0<=(γ c:Int)/\48*(γ c:Int)<=281474976710656) (dMk 48 (γ c))<|(((ajt fu c fu (fH (bF (γ c)) ([],[])) 0)).bind λj=>eN (λa=>((aoh fu (b.2.2.2.2.1,[])).bind λi=>((ach fu i.1).bind λd=>(((if γ a=(0:Int)then δ (.inr ((b.1,b.2.1,b.2.2.1,b.2.2.2.1,d,[]),0))else(if γ a=(1:Int)then(((gd (0<=(0:Int)/\0<(γ a:Int))<|(gd (0<=(0:Int)/\0<(γ a:Int))<|(te fu a fu 0)))).bind λh=>eN (λl=>(gd (0<=(0:Int)/\0<(γ a:Int))<|(gd (0<=(0:Int)/\0<(γ a:Int))<|(gd ((γ d+γ ((el a 0).1))*32<=140737488355328)<|(gd (0<=(0:Int)/\0<(γ a:Int))<|(gd (0<=(0:Int)/\(0:Int)<(γ a:Int))<|some (.inr ((b.1,b.2.1,b.2.2.1,b.2.2.2.1,d++((el a (0:Int)).1),(el a (0:Int)).2),(0:UInt8))))))))) (λq=>δ (.inr q)) h)else δ (.inl ())))).bind λ(g:(Unit⊕((aC×aC×Int×aC×cD×(List UInt8))×UInt8)))=>eN (λ(k:Unit)=>((aio fu a).bind λ(e:aC)=>((arz fu a e).bind λ(f:((List UInt8)×UInt8))=>(if f.2=(0:UInt8)then(gd (γ ([109,117,108,116,105,112,97,114,116,47,109,105,120,101,100,59,98,111,117,110,100,97,114,121,61]:aC)+γ e<=9223372036854775807)<|(gd ((γ d+γ ([(([67,111,110,116,101,110,116,45,84,121,112,101]:aC),([109,117,108,116,105,112,97,114,116,47,109,105,120,101,100,59,98,111,117,110,100,97,114,121,61]:aC)++e)]:cD))*32<=140737488355328)<|some ((b.1,b.2.1,b.2.2.1,b.2.2.2.1,d++([(([67,111,110,116,101,110,116,45,84,121,112,101]:aC),([109,117,108,116,105,112,97,114,116,47,109,105,120,101,100,59,98,111,117,110,100,97,114,121,61]:aC)++e)]:cD),f.1),(0:UInt8))))else δ ((([]:aC),([]:aC),(0:Int),([]:aC),([]:cD),([]:List UInt8)),f.2))))) (λq=>δ q) g)))) (λq=>δ q) j)))
def azi(fu:Nat)(b:aC):Option (UInt8×aC):=
 ((RL fu b).bind λa=>δ (a.2,a.1))
def art(fu:Nat)(e:(aC×aC))(d:UInt8)(c:aC):Option Bool:=
 ((RL fu e.1).bind λa=>(((if d=0 then(if a.2=0 then δ (decide (a.1=c))else δ η)else δ η)).bind λb=>δ b))
def acj(fu:Nat)(s_0:cD)(e:UInt8)(d:aC)(c:Int->Option (Unit⊕Int))(a:Int):Option (Unit⊕Int):=
 (if a<γ s_0 then(gd (0<=a/\a<γ s_0)<|(gd (0<=a/\a<γ s_0)<|((art fu (el s_0 a) e d).bind λb=>(bif b then δ (.inr a)else(gd (acl (a+1))<|(c (a+1)))))))else δ (.inl ()))
def abp(fu:Nat)(s_0:cD)(d:UInt8)(c:aC):Nat->Int->Option (Unit⊕Int):=λb a=>bN (λg v=>acj fu s_0 d c (λa=>g a) v) b a
theorem afu:abp a j n d (b+1) c=acj a j n d (abp a j n d b) c:=rfl
def aer(fu:Nat)(s_0:cD)(c:UInt8)(b:aC):Option Int:=
 (((abp fu s_0 c b fu 0)).bind λa=>eN (λd=>δ (-1)) (λq=>δ q) a)
def aru(fu:Nat)(b:(aC×aC×Int×aC×cD×(List UInt8)))(d:aC):Option (aC×Bool):=
 ((azi fu d).bind λc=>((aer fu b.2.2.2.2.1 c.1 c.2).bind λa=>(if a<0 then δ ([],η)else(gd (0<=a/\a<γ b.2.2.2.2.1)<|(gd (0<=a/\a<γ b.2.2.2.2.1)<|some ((el b.2.2.2.2.1 a).2,ζ))))))
def apj(fu:Nat)(s_0:aC)(c:aC->Int->Option aC)(b:aC)(a:Int):Option aC:=
 (if a<γ s_0 then(gd (0<=a/\a<γ b)<|(gd (0<=a/\a<γ b)<|(((if 65<=(at_ b a)then δ (decide ((at_ b a)<=90))else δ η)).bind λd=>(bif d then(gd (0<=a/\a<γ b)<|(gd (0<=a/\a<γ b)<|(gd (acl (a+1))<|(c (gQ b (bF a) ((at_ b a)+32)) (a+1)))))else(gd (acl (a+1))<|(c b (a+1)))))))else δ b)
def amf(fu:Nat)(s_0:aC):Nat->aC->Int->Option aC:=λc b a=>bN (λg v=>apj fu s_0 (λb a=>g (b,a)) v.1 v.2) c (b,a)
theorem axv:amf a d (b+1) o c=apj a d (amf a d b) o c:=rfl
def awn(fu:Nat)(s_0:aC):Option aC:=
 (((amf fu s_0 fu s_0 0)).bind λa=>δ a)
def avb(fu:Nat)(p_0:qL):Option (aC×LQ):=
 ((aru fu ([],[],0,[],p_0.1,[]) ([67,111,110,116,101,110,116,45,84,121,112,101])).bind λb=>(bif (!b.2)then δ (([116,101,120,116,47,112,108,97,105,110]),[])else((api fu b.1).bind λa=>(if a.2=0 then((awn fu a.1.1).bind λc=>δ (c,a.1.2))else δ (([116,101,120,116,47,112,108,97,105,110]),[])))))
def avc(fu:Nat)(a:PQ):Option Bool:=
 δ (decide (a.1=([98,111,117,110,100,97,114,121])))
def aci(fu:Nat)(s_0:LQ)(c:Int->Option (Unit⊕Int))(a:Int):Option (Unit⊕Int):=
 (if a<γ s_0 then(gd (0<=a/\a<γ s_0)<|(gd (0<=a/\a<γ s_0)<|((avc fu ((el s_0 a).1,(el s_0 a).2.1,((el s_0 a).2.2))).bind λb=>(bif b then δ (.inr a)else(gd (acl (a+1))<|(c (a+1)))))))else δ (.inl ()))
def abn(fu:Nat)(s_0:LQ):Nat->Int->Option (Unit⊕Int):=λb a=>bN (λg v=>aci fu s_0 (λa=>g a) v) b a
theorem aft:abn a g (b+1) c=aci a g (abn a g b) c:=rfl
def abz(fu:Nat)(s_0:LQ):Option Int:=
 (((abn fu s_0 fu 0)).bind λa=>eN (λb=>δ (-1)) (λq=>δ q) a)
def XN(fu:Nat)(p_0:qL):Option (aC×Bool):=
 ((avb fu p_0).bind λb=>((tg fu b.1 ([109,117,108,116,105,112,97,114,116,47])).bind λc=>(bif (!c)then δ ([],η)else((abz fu b.2).bind λa=>(if a<0 then δ ([],η)else(gd (0<=a/\a<γ b.2)<|(gd (0<=a/\a<γ b.2)<|some ((el b.2 a).2.1,ζ))))))))
def apy(fu:Nat)(b:(aC×aC×Int×aC×cD×(List UInt8)))(e:Int->cD->Option cD)(a:Int)(c:cD):Option cD:=
 (if a<γ b.2.2.2.2.1 then(gd (0<=a/\a<γ b.2.2.2.2.1)<|(gd (0<=a/\a<γ b.2.2.2.2.1)<|((ajs fu (el b.2.2.2.2.1 a)).bind λd=>(((bif d.2 then δ (!decide (d.1=([67,111,110,116,101,110,116,45,76,101,110,103,116,104])))else δ η)).bind λf=>(bif f then(gd ((γ c+γ ([el b.2.2.2.2.1 a]))*32<=140737488355328)<|(gd (acl (a+1))<|(e (a+1) (c++([el b.2.2.2.2.1 a])))))else(gd (acl (a+1))<|(e (a+1) c)))))))else δ c)
def ald(fu:Nat)(d:(aC×aC×Int×aC×cD×(List UInt8))):Nat->Int->cD->Option cD:=λc b a=>bN (λg v=>apy fu d (λb a=>g (b,a)) v.1 v.2) c (b,a)
theorem awh{d:(aC×aC×Int×aC×cD×(List UInt8))}:ald a d (b+1) c j=apy a d (ald a d b) c j:=rfl
def mb(fu:Nat)(a:(aC×aC×Int×aC×cD×(List UInt8))):Option (dO×UInt8):=
 ((XN fu a.2.2.2.2).bind λb=>(bif b.2 then((mh fu a.2.2.2.2.2 b.1).bind λc=>δ (c.1,c.2.2))else((aru fu a ([67,111,110,116,101,110,116,45,84,121,112,101])).bind λf=>(((bif (!f.2)then δ (decide (γ a.2.2.2.2.2=(0:Int)))else δ η)).bind λe=>(bif e then δ ([],0)else(gd ((0+γ a.2.2.2.2.2)*1<=140737488355328)<|(((ald fu a fu 0 [])).bind λd=>δ (([(d,a.2.2.2.2.2)]),0))))))))
def apd(fu:Nat)(b:cD)(e:cD->Int->Option cD)(c:cD)(a:Int):Option cD:=
 (if a<γ b then(gd (0<=a/\a<γ b)<|(gd (0<=a/\a<γ b)<|((RL fu ((el b a).1)).bind λd=>(((if γ d.1<(8:Int)then δ ζ else(gd (0<=(8:Int)/\8<=(γ d.1:Int))<|some (!decide ((jV (bF 8) d.1)=([67,111,110,116,101,110,116,45])))))).bind λf=>(bif f then(gd (0<=a/\a<γ b)<|(gd (0<=a/\a<γ b)<|(gd ((γ c+γ ([el b a]))*32<=140737488355328)<|(gd (acl (a+1))<|(e (c++([el b a])) (a+1))))))else(gd (acl (a+1))<|(e c (a+1))))))))else δ c)
def amc(fu:Nat)(d:cD):Nat->cD->Int->Option cD:=λc b a=>bN (λg v=>apd fu d (λb a=>g (b,a)) v.1 v.2) c (b,a)
variable {x:cD}
theorem axu:amc a j (b+1) x c=apd a j (amc a j b) x c:=rfl
def aqf(fu:Nat)(b:cD):Option cD:=
 (((amc fu b fu [] 0)).bind λa=>δ a)
def aqt(fu:Nat)(p_0:qL)(e:Bool->Int->Option (Bool⊕Bool))(d:Bool)(a:Int):Option (Bool⊕Bool):=
 (if a<γ p_0.1 then(gd (0<=a/\a<γ p_0.1)<|(gd (0<=a/\a<γ p_0.1)<|((RL fu ((el p_0.1 a).1)).bind λb=>(((if γ b.1<(8:Int)then δ ζ else(gd (0<=(8:Int)/\8<=(γ b.1:Int))<|(if(jV (bF 8) b.1)=([67,111,110,116,101,110,116,45])then δ (decide (b.1=([67,111,110,116,101,110,116,45,76,101,110,103,116,104])))else δ ζ)))).bind λh=>(bif h then δ (.inr η)else(gd (0<=a/\a<γ p_0.1)<|(gd (0<=a/\a<γ p_0.1)<|((aph fu b.1 ((el p_0.1 a).2)).bind λg=>((api fu g.1).bind λc=>(((if b.1=([67,111,110,116,101,110,116,45,84,121,112,101])then(if c.2=0 then(if γ c.1.1<(1:Int)then δ ζ else(gd (0<=(0:Int)/\0<(γ c.1.1:Int))<|(if(at_ c.1.1 0)=109 then δ ζ else(gd (0<=(0:Int)/\0<(γ c.1.1:Int))<|some (decide ((at_ c.1.1 0)=77))))))else δ ζ)else δ η)).bind λf=>(bif f then δ (.inr η)else(bif d then(gd (acl (a+1))<|(e ζ (a+1)))else(gd (acl (a+1))<|(e (decide (b.1=([67,111,110,116,101,110,116,45,84,121,112,101]))) (a+1)))))))))))))))else δ (.inl d))
def anz(fu:Nat)(p_0:qL):Nat->Bool->Int->Option (Bool⊕Bool):=λc b a=>bN (λg v=>aqt fu p_0 (λb a=>g (b,a)) v.1 v.2) c (b,a)
theorem azk:anz a w (b+1) k c=aqt a w (anz a w b) k c:=rfl
def sy(fu:Nat)(p_0:qL):Option Bool:=
 (((anz fu p_0 fu η 0)).bind λc=>eN (λb=>(((bif b then δ ζ else δ (decide (0<(γ p_0.2:Int))))).bind λa=>δ a)) (λq=>δ q) c)
def anw(fu:Nat)(d:dO)(c:dO)(a:Int)(h:Int->Option (Unit⊕Bool))(b:Int):Option (Unit⊕Bool):=
 (gd (0<=a/\a<γ d)<|(gd (0<=a/\a<γ d)<|(if b<(γ ((el d a).1))then(gd (0<=a/\a<γ c)<|(gd (0<=a/\a<γ c)<|(gd (0<=b/\b<(γ ((el c a).1)))<|(gd (0<=b/\b<(γ ((el c a).1)))<|((RL fu ((el ((el c a).1) b).1)).bind λe=>(gd (0<=a/\a<γ c)<|(gd (0<=a/\a<γ c)<|(gd (0<=b/\b<(γ ((el c a).1)))<|(gd (0<=b/\b<(γ ((el c a).1)))<|((aph fu e.1 ((el ((el c a).1) b).2)).bind λf=>(((if e.2=0 then(if f.2=0 then(gd (0<=a/\a<γ d)<|(gd (0<=a/\a<γ d)<|(gd (0<=b/\b<(γ ((el d a).1)))<|(gd (0<=b/\b<(γ ((el d a).1)))<|some (!decide ((el ((el d a).1) b)=(e.1,f.1)))))))else δ ζ)else δ ζ)).bind λg=>(bif g then δ (.inr η)else(gd (acl (b+1))<|(h (b+1)))))))))))))))else δ (.inl ()))))
def alo(fu:Nat)(e:dO)(d:dO)(c:Int):Nat->Int->Option (Unit⊕Bool):=λb a=>bN (λg v=>anw fu e d c (λa=>g a) v) b a
theorem auv:alo a h p c (b+1) f=anw a h p c (alo a h p c b) f:=rfl
def anx(fu:Nat)(b:dO)(c:dO)(f:Int->Option (Unit⊕Bool))(a:Int):Option (Unit⊕Bool):=
 (if a<γ b then(((((gd (0<=a/\a<γ b)<|(gd (0<=a/\a<γ b)<|(gd (0<=a/\a<γ c)<|(gd (0<=a/\a<γ c)<|(if((el b a).2)=((el c a).2)then(gd (0<=a/\a<γ b)<|(gd (0<=a/\a<γ b)<|(gd (0<=a/\a<γ c)<|(gd (0<=a/\a<γ c)<|some (!decide ((γ ((el b a).1))=(γ ((el c a).1):Int)))))))else δ ζ)))))).bind λe=>(bif e then δ (.inr η)else(alo fu b c a fu 0)))).bind λd=>eN (λg=>(gd (acl (a+1))<|(f (a+1)))) (λq=>δ (.inr q)) d)else δ (.inl ()))
def alp(fu:Nat)(d:dO)(c:dO):Nat->Int->Option (Unit⊕Bool):=λb a=>bN (λg v=>anx fu d c (λa=>g a) v) b a
theorem auw:alp a h p (b+1) c=anx a h p (alp a h p b) c:=rfl
def atz(fu:Nat)(b:dO)(a:dO):Option Bool:=
 (if γ b=(γ a:Int)then(((alp fu b a fu 0)).bind λc=>eN (λd=>δ ζ) (λq=>δ q) c)else δ η)
def ahk(fu:Nat)(b:cD)(c:cD)(d:Int->Option (Unit⊕Bool))(a:Int):Option (Unit⊕Bool):=
 (if a<γ b then(gd (0<=a/\a<γ b)<|(gd (0<=a/\a<γ b)<|(gd (0<=a/\a<γ c)<|(gd (0<=a/\a<γ c)<|(if(el b a)=(el c a)then(gd (acl (a+1))<|(d (a+1)))else δ (.inr η))))))else δ (.inl ()))
def afp(fu:Nat)(d:cD)(c:cD):Nat->Int->Option (Unit⊕Bool):=λb a=>bN (λg v=>ahk fu d c (λa=>g a) v) b a
theorem aob:afp a j x (b+1) c=ahk a j x (afp a j x b) c:=rfl
def aqu(fu:Nat)(c:(aC×aC×Int×aC×cD×(List UInt8)))(b:dO):Option Bool:=
 (((if 100<(γ c.2.2.2.2.1:Int)then δ ζ else((azl fu b).bind λu=>δ (!u)))).bind λt=>(bif t then((ape fu).bind λs=>δ s)else((axa fu c b).bind λa=>(if a.2=0 then((mb fu a.1).bind λf=>((aqf fu c.2.2.2.2.1).bind λe=>((aqf fu a.1.2.2.2.2.1).bind λd=>(((if a.1.1=c.1 then(if a.1.2.1=c.2.1 then(if a.1.2.2.1=c.2.2.1 then(if a.1.2.2.2.1=c.2.2.2.1 then δ (!decide (γ e=(γ d:Int)))else δ ζ)else δ ζ)else δ ζ)else δ ζ)).bind λr=>(bif r then δ η else(((afp fu e d fu 0)).bind λp=>eN (λv=>(((if γ b=(1:Int)then(gd (0<=(0:Int)/\0<(γ b:Int))<|(gd (0<=(0:Int)/\0<(γ b:Int))<|((sy fu (el b 0)).bind λo=>δ (!o))))else δ η)).bind λn=>(bif n then((ape fu).bind λm=>δ m)else(((if f.2=0 then((atz fu f.1 b).bind λl=>(bif l then((ape fu).bind λk=>δ k)else δ η))else δ η)).bind λj=>δ j)))) (λq=>δ q) p))))))else((((baj fu a.1 ([],[],0,[],[],[])).bind λi=>(bif i then((ape fu).bind λh=>δ h)else δ η))).bind λg=>δ g)))))
end Go.Wk
set_option maxRecDepth 100000
namespace Go.Wk
open Go.Px
open Int renaming toNat → bF
open List renaming set → gQ
open Sum renaming elim → eN
def FU:Nat:=18446744073709551616
theorem eZ:FU=18446744073709551616:=rfl
theorem VY(p:aC)(c:UInt8)(l:aC):at_ (p++c::l) (γ p)=c:=by simp [at_]
theorem zN(p:aC)(c x:UInt8)(l:aC):gQ (p++c::l) (bF (γ p)) x=(p++[x])++l:=aA2
theorem V7(p:aC)(x:UInt8):(γ p+1)=(γ (p++[x]):Int):=aA2
theorem cZ(a:Int)(b:0<=a)(h:a<=9223372036854775807):acl a:=⟨aA0,aA0⟩
theorem LD(fu:Nat)(c:UInt8):aqr fu c=δ (cA c):=by show aqr 0 c=_;revert c;exact dS _ aA3
theorem Ao(fu:Nat)(c:UInt8):ajn fu c=δ (gB c):=by show ajn 0 c=_;revert c;exact dS _ aA3
theorem Xc(fu:Nat)(c:UInt8):amd fu c=δ (HI c):=by show amd 0 c=_;revert c;exact dS _ aA3
variable {b:Nat}
theorem SJ(s:aC)(g:γ s<=9223372036854775807)(n:Nat):∀k a,k+n=γ s->n<a->
  aeu b s a k=δ ((k+dN cA (s.drop k):Nat):Int):=by
 induction n with
 |zero=>intro k a c d;obtain⟨a,rfl⟩:=cS a;rw [ala,aeo,aA bJ,af bJ];simp [dN]
 |succ n i=>
  intro k a c d;obtain⟨a,rfl⟩:=cS a;rw [ala,aeo,aB bJ,aU bJ,LD,drop_at s k bJ];simp only [aX];cases h:cA (at_ s k)
  ·simp [dN,h]
  ·rw [aQ];rw [aU (cZ _ bJ bJ)];have e:(k+1)=((k+1:Nat):Int):=rfl;rw [e,i (k+1) a bJ bJ];have f:dN cA (at_ s k::s.drop (k+1))=1+dN cA (s.drop (k+1)):=by simp [dN,h,Jc]
   rw [f,De]
theorem Ll(s:aC)(a:γ s<=9223372036854775807)(i:Int):afx FU s i=δ ((cC cA s i):Int):=by unfold afx cC;have h:min (max i 0) (γ s)=(AM i (γ s)):=aD5;rw [h,SJ s a (γ s-AM i (γ s)) _ FU bJ aA6];rfl
theorem SI(s:aC):(if s=[]then δ η else δ (decide (((cC cA s 0))=(γ s:Int))))=δ (eP s):=by
 have:=bk s;by_cases h:s=[]
 ·subst h;rfl
 ·rw [aA h];congr 1;by_cases a:(cC cA s 0)=(γ s:Int)
  ·rw [aK a,this.1 ⟨h,a⟩]
  ·rw [aL a];cases b:eP s
   ·rfl
   ·exact absurd (this.2 b).2 a
theorem sn(s:aC)(a:γ s<=9223372036854775807):XL FU s=δ (eP s):=by unfold XL mo;rw [Ll s a];simp;exact SI s
theorem Mx(p:aC)(c:UInt8)(l:aC):0<=(γ p:Int)/\γ p<(γ (p++c::l):Int):=by rw [bP,bX];omega
theorem J3{fu:Nat}(s:aC)(g:γ s<=9223372036854775807)(l:aC):∀p a,γ p+γ l=γ s->γ l<a->
  adl fu s a (p++l) (γ p)=δ (p++l.map gB):=by
 induction l with
 |nil=>intro p a d e;obtain⟨a,rfl⟩:=cS a;simp at d;rw [aiu,adh,aA bJ];rfl
 |cons c l f=>intro p a d e;obtain⟨a,rfl⟩:=cS a;simp at d e;have b:=Mx p c l;rw [aiu,adh,aB bJ,aU b,aU b,VY,Ao];simp only [aX];rw [aU b,aU b,aU (cZ _ bJ bJ),zN,V7 p _,f _ a aB5 bJ];simp
theorem J4(s:aC)(a:γ s<=9223372036854775807):adc FU s=δ (dR s):=by unfold adc;have:=J3 (fu:=FU) s a s [] FU aA2 aA6;simp at this;rw [this];rfl
theorem Ut(c:UInt8)(b:65<=c)(a:c<=90):c+32=gB c:=by simp [gB,b,a]
theorem oA(c:UInt8)(h:¬(65<=c/\c<=90)):gB c=c:=by simp only [gB,aA h]
def qS(c:UInt8):aC:=(arx FU c).getD []
theorem fi:∀c:UInt8,arx FU c=δ (qS c):=dS _ aA3
def Kd:Bool->aC->aC
 |_,[]=>[]
 |f,c::l=>(if f then HI c else gB c)::Kd (c==45) l
theorem VX(fu:Nat)(f:Bool)(c:UInt8):asz fu c f=δ (if f then HI c else gB c,c==45):=by show asz 0 c f=_;revert c;cases f<;>exact dS _ aA3
theorem ZU{fu:Nat}(s:aC)(h:γ s<=9223372036854775807)(l:aC):∀p f a,γ p+γ l=γ s->γ l<a->
  (ady fu s a (p++l) (γ p) f).map (·.1)=δ (p++Kd f l):=by
 induction l with
 |nil=>intro p f a d e;obtain⟨a,rfl⟩:=cS a;simp at d;rw [ajo,adq,aA bJ];rfl
 |cons c l g=>
  intro p f a d e;obtain⟨a,rfl⟩:=cS a;simp at d e
  have b:=Mx p c l;rw [ajo,adq,aB bJ,aU b,aU b,VY,VX,aX,
   aU b,aU b,aU (cZ _ bJ bJ),zN,V7 p _,g _ _ a aB5 bJ,gH]
  rfl
theorem ZV(s:aC)(d:γ s<=9223372036854775807):∃b,adn FU s ζ=δ (Kd ζ s,b):=by unfold adn;have:=ZU (fu:=FU) s d s [] ζ FU aA2 aA6;obtain⟨r,c,a⟩:=bT.1 this;refine⟨r.2, ?_⟩;rw [show((0:Int))=([].length)from rfl];simp only [vX]at c a⊢;rw [c,aX,a]
theorem low45:∀c:UInt8,(gB c==45)=(c==45):=dS _ aA3
def eQ(s:aC):aC×UInt8:=
 if eP s=η\/64<γ s then([],5)
 else if γ s=1/\qS (gB (at_ s 0))≠[]then(qS (gB (at_ s 0)),0)
 else((ajp FU (dR s) FU 0).getD (.inl ())).elim (λ_=>(Kd ζ s,0)) id
def nL:List aC->aC->Option (Unit⊕(aC×UInt8))
 |[],_=>δ (.inl ())
 |n::l,y=>if dR n=y then δ (.inr (n,0))else nL l y
theorem aya(y:aC):∀l,∃r,nL l y=δ r
 |[]=>⟨_,rfl⟩
 |n::l=>by
  unfold nL;split
  ·exact⟨_,rfl⟩
  ·exact aya y l
theorem azy(y:aC):ajp FU y FU 0=nL W6 y:=by kernel_rfl
theorem Xq(y:aC):∃r,ajp FU y FU 0=δ r:=by rw [azy];exact aya y _
theorem ls(s:aC)(g:γ s<=9223372036854775807):RL FU s=δ (eQ s):=by
 unfold RL eQ;rw [sn s g,aX];obtain⟨r,k⟩:=Xq _;obtain⟨b,m⟩:=ZV s g;cases n:eP s
 ·rfl
 ·rw [iN,aH,aX];by_cases e:64<γ s
  ·rw [aK bJ,aQ,aB (Or.inr e)]
  ·have l:¬(ζ=η\/64<γ s):=by simp [e]
   rw [aL bJ,aH,aA l,J4 s g,aX,k];have a:eN (λj=>((adn FU s ζ).bind λd=>δ (d.1,0))) (λq=>δ q) r=δ (eN (λ_=>(Kd ζ s,0)) id r):=by
    cases r with
    |inl _=>rw [m];rfl
    |inr _=>rfl
   by_cases i:γ s=1
   ·have c:(γ s:Int)=1:=by omega
    rw [aB c,aU bJ,Ao,aX,fi,aX];by_cases f:qS (gB (at_ s 0))=[]
    ·rw [aB f,aA (λh=>h.2 f)];exact a
    ·rw [aA f,aX,eF,aB ⟨i,f⟩]
   ·have c:¬(γ s:Int)=1:=by omega
    rw [aA c,aA (λh=>i h.1)];exact a
theorem gj{fu:Nat}(c:aC)(d:∀x∈Iq,x.1≠c)(n:Nat):∀k a,k+n=31->n<a->apg fu c a k=δ (.inl ()):=by
 have h:γ Iq=31:=aA3;induction n with
 |zero=>intro k a e f;obtain⟨a,rfl⟩:=cS a;rw [awy,anc,aA bJ]
 |succ n b=>
  intro k a e f;obtain⟨a,rfl⟩:=cS a;have g:(el Iq (k:Int)).1≠c:=by
   have:el Iq (k:Int)=Iq[k]'bJ:=by simp [el,show k<γ Iq by omega]
   rw [this];exact d _ (yN _)
  rw [awy,anc,aB bJ,aU bJ,aU bJ,aA g,aU (cZ _ bJ bJ)];exact b (k+1) a bJ bJ
theorem ER(c:aC)(a:∀x∈Iq,x.1≠c):tc FU c=δ 0:=by unfold tc;have:=gj (fu:=FU) c a 31 0 FU bJ aA6;rw [show((0:Int))=(0:Nat)from rfl,this];rfl
def My(c:aC):Bool:=(apf FU c).getD η
theorem fe:∀x∈Iq,apf FU x.1=δ (My x.1):=aA3
theorem DW(c:aC)(b:∀x∈Iq,x.1≠c):apf FU c=δ η:=by
 have a:∀n:aC,(Iq.any λx=>x.1==n)=ζ->¬c=n:=λn h e=>by obtain⟨x,hx,e'⟩:=iU.1 h;exact b x hx ((eq_of_beq e').trans e.symm)
 unfold apf;rw [aA (a _ aA3),aA (a _ aA3),aA (a _ aA3),aA (a _ aA3),aA (a _ aA3),ER c b];rfl
theorem OX(c:aC):apf FU c=δ (My c):=by
 by_cases h:∃x∈Iq,x.1=c
 ·obtain⟨x,hx,rfl⟩:=h;exact fe x hx
 ·have:=DW c λx hx e=>h ⟨x,hx,e⟩;rw [My,this];rfl
open Go.Lib renaming trimLeftS → AZ
variable {a:Type}{p:Prop}{k:Option a}
theorem tF[Decidable p](h:p:=by first|omega|exact cZ _ bJ bJ|(simp only [jO,dM,List.length_nil,List.length_singleton];omega)):gd p k=k:=aU h
theorem Su(k:Nat):(k:Int)+1=((k+1:Nat):Int):=rfl
theorem B4(p:UInt8->Bool)(s:aC)(F:Nat->Int->Option Int)
  (g:∀a,F (a+1) (γ s:Int)=δ (γ s:Int))
  (f:∀a (k:Nat),k<γ s->p (at_ s k)=η->F (a+1) (k:Int)=δ (k:Int))
  (e:∀a (k:Nat),k<γ s->p (at_ s k)=ζ->F (a+1) (k:Int)=F a ((k:Int)+1)) (n:Nat):
  ∀(k a:Nat),k+n=γ s->n<a->F a (k:Int)=δ ((k+dN p (s.drop k):Nat):Int):=by
 induction n with
 |zero=>intro k a c d;obtain⟨a,rfl⟩:=cS a;obtain rfl:k=γ s:=aA0;rw [g,fS];rfl
 |succ n b=>
  intro k a c d;obtain⟨a,rfl⟩:=cS a;rw [drop_at s k bJ];cases h:p (at_ s k)
  ·rw [f a k bJ h];simp [dN,h]
  ·rw [e a k bJ h,Su,b (k+1) a bJ bJ];have i:dN p (at_ s k::s.drop (k+1))=1+dN p (s.drop (k+1)):=by simp [dN,h,Jc]
   rw [i,De]
theorem VS(i:Int)(n:Nat):min (max i 0) (n:Int)=((AM i n:Nat):Int):=aD5
theorem y8(p:UInt8->Bool):∀(a b:aC),a.all p=ζ->dN p (a++b)=γ a+dN p b
 |[],b,_=>by simp
 |c::a,b,h=>by rw [Gf,hO]at h;rw [Kg,dN,aB h.1,y8 p a b h.2,bX];omega
theorem pR(p:UInt8->Bool)(c:UInt8)(l:aC)(h:p c=η):dN p (c::l)=0:=by rw [dN,aA (by simp [h])]
theorem sq(fu:Nat)(c:UInt8):mw fu c=δ (bY c):=by show mw 0 c=_;revert c;exact dS _ aA3
theorem awx(fu:Nat)(c:UInt8):ahr fu c=δ (eO c):=by show ahr 0 c=_;revert c;exact dS _ aA3
theorem AF(fu:Nat)(c:UInt8):anb fu c=δ (y5 c):=by show anb 0 c=_;revert c;exact dS _ aA3
theorem oQ(s:aC)(c:γ s<=4194304)(i:Int):mi FU s i=δ ((cC bY s i:Nat):Int):=by
 unfold mi ajr;have d:=Wa i (γ s);rw [VS,B4 bY s (aev FU s) ?_ ?_ ?_ (γ s-AM i (γ s)) _ FU bJ aA6]
 ·rfl
 ·intro a;rw [agh,adb,aA bJ];rfl
 ·intro a k b h;rw [agh,adb,aB bJ,tF,sq,h];rfl
 ·intro a k b h;rw [agh,adb,aB bJ,tF,sq,h,aX,aX,aQ,tF]
def BA(p:UInt8->Bool)(l:aC):aC:=(l.reverse.dropWhile p).reverse
theorem DA(p:UInt8->Bool)(c:UInt8)(l:aC):BA p (c::l)=if BA p l=[]then(if p c then []else [c])else c::BA p l:=by
 unfold BA;rw [List.reverse_cons,List.dropWhile_append];cases h:l.reverse.dropWhile p with
 |nil=>cases b:p c<;>simp [b]
 |cons a t=>simp
theorem D3(p:UInt8->Bool)(l:aC)(c:UInt8):BA p (l++[c])=if p c then BA p l else l++[c]:=by unfold BA;rw [List.reverse_append,ME,BI,iM];split<;>simp
theorem sM(p:UInt8->Bool):∀l:aC,(BA p l).dropWhile p=BA p (l.dropWhile p)
 |[]=>rfl
 |c::l=>by
  have b:=sM p l;cases a:p c
  ·have e:List.dropWhile p (c::l)=c::l:=by simp [a]
   rw [e,DA];split<;>simp [a]
  ·have e:List.dropWhile p (c::l)=l.dropWhile p:=by simp [a]
   rw [e,<-b,DA];split
   ·rename_i h;simp [h,a]
   ·simp [a]
theorem Bq(p:UInt8->Bool):∀l:aC,(l.dropWhile p).dropWhile p=l.dropWhile p
 |[]=>rfl
 |c::l=>by
  cases h:p c with
  |true=>rw [List.dropWhile_cons_of_pos h];exact Bq p l
  |false=>rw [lV (by rw [h];decide),lV (by rw [h];decide)]
def cF(s:aC):aC:=BA bY (s.dropWhile bY)
theorem vE:(λc=>([32,9]:aC).contains c)=bY:=by funext c;revert c;exact dS _ aA3
theorem zH(s:aC):Lib.trimS s [32,9]=cF s:=by unfold Lib.trimS AZ Lib.trimRightS cF;rw [vE];exact sM bY s
theorem mM(s:aC)(a:γ s<=4194304):XK FU s=δ (cF s):=by unfold XK;rw [tF,aU aA1,zH]
theorem bay(p:UInt8->Bool):∀l:aC,l.drop (dN p l)=l.dropWhile p
 |[]=>rfl
 |c::l=>by
  have b:=bay p l;cases a:p c
  ·simp [dN,a]
  ·simp [dN,a,b]
theorem bbf(p:UInt8->Bool)(s:aC):cC p s 0=dN p s:=by have a:AM 0 (γ s)=0:=aD5;unfold cC;rw [a];simp
theorem dj(p:UInt8->Bool)(l:aC):γ (BA p l)<=γ l:=by unfold BA;have:=auq p l.reverse;simpa using this
theorem IF(s:aC):γ (cF s)<=γ s:=lE (dj _ _) (auq _ _)
def fX:aC->Nat->aC->aC×Int×UInt8
 |[],k,_=>([],(k:Int),6)
 |[c],k,a=>if c=34 then(a,((k+1:Nat):Int),0)else if c=92 then([],((k+1:Nat):Int),6)else if eO c then([],(k:Int),5)else([],((k+1:Nat):Int),6)
 |c::d::r,k,a=>
  if c=34 then(a,((k+1:Nat):Int),0)
  else if c=92 then(if y5 d then fX r (k+2) (a++[d])else([],(k:Int),5))
  else if eO c then([],(k:Int),5)else fX (d::r) (k+1) (a++[c])
theorem ayr(c:UInt8)(l:aC)(k:Nat)(a:aC):fX (c::l) k a=
  if c=34 then(a,((k+1:Nat):Int),0)
  else if c=92 then(if l=[]then([],((k+1:Nat):Int),6)else if y5 (at_ l 0)then fX (l.drop 1) (k+2) (a++[at_ l 0])else([],(k:Int),5))
  else if eO c then([],(k:Int),5)else fX l (k+1) (a++[c]):=by
 cases l with
 |nil=>simp [fX]
 |cons d r=>simp [fX,at_]
def Pw(s:aC)(i:Int):aC×Int×UInt8:=
 if i<0\/(γ s:Int)<i then([],0,2)
 else if i=(γ s:Int)\/at_ s i≠34 then([],i,5)
 else fX (s.drop (i.toNat+1)) (i.toNat+1) []
theorem W1(s:aC)(k:Nat):at_ (s.drop k) 0=at_ s (k:Int):=by simp [at_]
theorem Bs(s:aC)(k:Nat):s.drop k=[]↔γ s<=k:=by rw [List.drop_eq_nil_iff]
def Kr(s:aC)(j:((aC×Int)⊕(aC×Int×UInt8))):Option (aC×Int×UInt8):=
 eN (λ(v:(aC×Int))=>(if(γ s:Int)<=v.2 then δ (([]:aC),(γ s:Int),(6:UInt8))else(gd (acl (v.2+(1:Int)))<|some (v.1,v.2+(1:Int),(0:UInt8))))) (λq=>δ q) j
theorem uz(s:aC)(p:γ s<=4194304)(n:Nat):∀(k b:Nat) (a:aC),γ s-k<=n->n<b->k<=γ s->γ a<=k->
  ((apc FU s b a (k:Int)).bind (Kr s))=δ (fX (s.drop k) k a):=by
 induction n with
 |zero=>intro k b a g l j m;obtain⟨b,rfl⟩:=cS b;obtain rfl:k=γ s:=aA0;rw [arl,ajx,aA bJ,fS,aX];unfold Kr;rw [yR,aB aA2];rfl
 |succ n e=>
  intro k b a g l j m;obtain⟨b,rfl⟩:=cS b;by_cases i:k<γ s
  ·rw [drop_at s k i,ayr,arl,ajx,aB bJ,tF];by_cases d:at_ s (k:Int)=34
   ·rw [aB d,aB d,aX];unfold Kr;rw [yR,aA aA4,aU (cZ _ aA4 aA4)];rfl
   ·rw [aA d,aA d];by_cases c:at_ s (k:Int)=92
    ·rw [aB c,aB c,tF];by_cases f:k+1=γ s
     ·rw [aB bJ,aB ((Bs s (k+1)).2 bJ),aX];unfold Kr;rw [eF,f]
     ·rw [aA bJ,aA (λh=>f (by have:=(Bs s (k+1)).1 h;omega)),tF,tF,AF,aX,W1,Su];cases o:y5 (at_ s ((k+1:Nat):Int))
      ·rfl
      ·rw [iN,aH,aB rfl,tF,tF,tF,tF,MJ,Su,
        e (k+1+1) b _ bJ bJ bJ aA4]
    ·rw [aA c,aA c,awx,aX];cases o:eO (at_ s (k:Int))
     ·rw [aH,aA aA1,tF,tF,tF,Su,e (k+1) b _ bJ bJ bJ aA4]
     ·rfl
  ·obtain rfl:k=γ s:=by omega
   rw [arl,ajx,aA bJ,fS,aX];unfold Kr;rw [yR,aB aA2];rfl
theorem wY(s:aC)(e:γ s<=4194304)(i:Int):anu FU s i=δ (Pw s i):=by
 unfold anu Pw;by_cases d:i<0
 ·rw [aB d,aB (show i<0\/(γ s:Int)<i from .inl d)];rfl
 ·rw [aA d,aX];by_cases c:(γ s:Int)<i
  ·rw [aK c,aB (show i<0\/(γ s:Int)<i from .inr c)];rfl
  ·rw [aL c,aH,aA (show¬(i<0\/(γ s:Int)<i)by omega)];by_cases b:i=(γ s:Int)
   ·rw [aB b,aB (show i=(γ s:Int)\/at_ s i≠34 from .inl b)];rfl
   ·rw [aA b,tF,aX];by_cases a:at_ s i=34
    ·rw [aK a,iN,aH,aA (by simp [b,a]),tF];obtain⟨k,rfl⟩:∃k:Nat,i=(k:Int):=⟨i.toNat,aA0⟩;exact uz s e (γ s) (k+1) FU [] bJ aA6 bJ aA2
    ·rw [aL a,aB (show i=(γ s:Int)\/at_ s i≠34 from .inr a)];rfl
theorem mg(p:UInt8->Bool)(s:aC)(r:a)(F:Nat->Int->Option (Unit⊕a))
  (i:∀b,F (b+1) (γ s:Int)=δ (.inl ()))
  (g:∀b (k:Nat),k<γ s->p (at_ s k)=η->F (b+1) (k:Int)=δ (.inr r))
  (f:∀b (k:Nat),k<γ s->p (at_ s k)=ζ->F (b+1) (k:Int)=F b ((k:Int)+1)) (n:Nat):
  ∀(k b:Nat),k+n=γ s->n<b->F b (k:Int)=δ (if(s.drop k).all p=ζ then .inl ()else .inr r):=by
 induction n with
 |zero=>intro k b d e;obtain⟨b,rfl⟩:=cS b;obtain rfl:k=γ s:=aA0;rw [i,fS];rfl
 |succ n c=>
  intro k b d e;obtain⟨b,rfl⟩:=cS b;rw [drop_at s k bJ,Gf];cases h:p (at_ s k)
  ·rw [g b k bJ h];rfl
  ·rw [f b k bJ h,Su,c (k+1) b bJ bJ];simp
theorem Qf(p:UInt8->Bool)(s:aC)(f:γ s<=4194304)(r:a)(F:Nat->Int->Option (Unit⊕a))
  (e:∀b,F (b+1) (γ s:Int)=δ (.inl ()))
  (d:∀b (k:Nat),k<γ s->p (at_ s k)=η->F (b+1) (k:Int)=δ (.inr r))
  (c:∀b (k:Nat),k<γ s->p (at_ s k)=ζ->F (b+1) (k:Int)=F b ((k:Int)+1)):F FU 0=δ (if s.all p=ζ then .inl ()else .inr r):=by
 have:=mg p s r F e d c (γ s) 0 FU bJ aA6;rw [WV]at this;exact this
theorem MB(s:aC)(k:γ s<=4194304)(l:aC):∀(p:aC) (a:Nat),γ p+γ l=γ s->γ l<a->
  apm FU s a (p++l) (γ p:Int)=δ (p++l.map gB):=by
 induction l with
 |nil=>intro p a g i;obtain⟨a,rfl⟩:=cS a;simp only [fT]at g;rw [axb,ani,aA bJ];rfl
 |cons c l f=>
  intro p a g i;obtain⟨a,rfl⟩:=cS a;simp only [bX]at g i;have j:=Mx p c l;have d:=f (p++[gB c]) a aB5 bJ;have ok:acl ((γ p:Int)+1):=cZ _ bJ bJ;rw [axb,ani,aB bJ];simp only [aU j,VY,aU ok,zN];by_cases b:65<=c
  ·by_cases e:c<=90
   ·simp only [aB b,aK e,aX,aQ,Ut c b e];rw [V7 p (gB c),d];simp
   ·simp only [aB b,aL e,aX,aH];rw [oA c (λh=>e h.2)]at d;rw [V7 p c,show p++c::l=(p++[c])++l by simp,d];simp [oA c (λh=>e h.2)]
  ·simp only [aA b,aX,aH];rw [oA c (λh=>b h.1)]at d;rw [V7 p c,show p++c::l=(p++[c])++l by simp,d];simp [oA c (λh=>b h.1)]
theorem z6(s:aC)(a:γ s<=4194304):WI FU s=δ (dR s):=by unfold WI;have:=MB s a s [] FU aA2 aA6;simp only [vX,fT,Int.natCast_zero,Int.cast_ofNat_Int]at this;rw [this];rfl
theorem Wr(c:UInt8):alq FU c=δ (uT c):=by revert c;exact dS _ aA3
theorem tT(c:UInt8):XM FU c=δ (hK c):=by revert c;exact dS _ aA3
theorem na:∀c:UInt8,(tf FU c).map (·.2)=δ (kL c):=dS _ aA3
theorem X4(c:UInt8):∃v,tf FU c=δ (v,kL c):=by obtain⟨⟨v,b⟩,d,a⟩:=bT.1 (na c);exact⟨v,by rw [d,<-a]⟩
def psp(y:aC)(l:List aC):List aC:=match l with|x::r=>(y++x)::r|[]=>[y]
theorem ayu(c:UInt8)(l:aC):cR c (c::l)=[]::cR c l:=by rw [cR,aB rfl]
theorem avx(c b:UInt8)(l:aC)(h:b≠c):cR c (b::l)=psp [b] (cR c l):=by rw [cR,aA h];cases cR c l<;>rfl
theorem uK(s:aC)(k:Nat):sub s (k:Int) (k:Int)=[]:=by unfold sub;simp
open Go.Lib renaming cut → eD, index → cK, join → cY, trimLeftS → AZ
theorem cnd2{c:Type}(v:a)(b:Bool)(A B:c):(bif !(v,b).2 then A else B)=bif !b then A else B:=rfl
theorem VF(l:List aC)(x:Int)(d:γ (el l x)<=4194304):ahm FU l x FU 0=δ (if(el l x).all kL=ζ then .inl ()else .inr ([],η)):=by
 refine Qf kL (el l x) d (([]:List aC),η) (ahm FU l x) ?_ ?_ ?_
 ·intro b;rw [amw,agt,aA bJ]
 ·intro b k c h;obtain⟨v,a⟩:=X4 (at_ (el l x) k);rw [h]at a;rw [amw,agt,aB bJ,tF,a];simp only [aX,yX,aQ]
 ·intro b k c h;obtain⟨v,a⟩:=X4 (at_ (el l x) k);rw [h]at a;rw [amw,agt,aB bJ,tF,a,aX,cnd2,iN,aH,tF]
theorem O2(s:aC)(p:γ s<=4194304)(n:Nat):∀(k c:Nat),k+n=γ (cR 58 s)->n<c->((cR 58 s).take k).all Cz=ζ->
  afk FU s c (QW (cR 58 s) k) (k:Int)=δ (if(cR 58 s).all Cz=ζ then .inl ((cR 58 s).map mR)else .inr ([],η)):=by
 have u:=pP 58 s;induction n with
 |zero=>intro k c r t f;obtain⟨c,rfl⟩:=cS c;obtain rfl:k=γ (cR 58 s):=aA0;rw [iS]at f;rw [asv,ajq,aA bJ,aB f,KI]
 |succ n m=>
  intro k c r t f;obtain⟨c,rfl⟩:=cS c;have b:k<γ (cR 58 s):=aA0;have q:=KH (cR 58 s) k bJ;have a:(0:Int)<=(k:Int)/\(k:Int)<(γ (QW (cR 58 s) k):Int):=aA0;have l:=yw (cR 58 s) k b;have d:γ (el (cR 58 s) (k:Int))<=4194304:=lE (u.2 _ (Zw _ k b)) p;have fail:Cz (el (cR 58 s) (k:Int))=η->(cR 58 s).all Cz=η:=λh=>Sr Cz _ k b h;rw [asv,ajq,aB bJ,aU a,aU a,l];by_cases i:(γ (el (cR 58 s) (k:Int)):Int)<1
  ·rw [aB i,fail (Vl _ (.inl i))];rfl
  ·rw [aA i,aX];by_cases g:4<(γ (el (cR 58 s) (k:Int)):Int)
   ·rw [aK g,fail (Vl _ (.inr g))];rfl
   ·rw [aL g,aH,VF _ _ (by rw [l];exact d),l,aX];cases hx:(el (cR 58 s) (k:Int)).all kL with
    |false=>rw [fail (VA _ hx)];rfl
    |true=>
     have j:=UZ _ i g hx;rw [aB rfl,yR,z6 _ d,aX,aU (by simp [dR];omega),aU aA1];have step:∀v,v=mR (el (cR 58 s) (k:Int))->afk FU s c (gQ (QW (cR 58 s) k) (bF (k:Int)) v) ((k:Int)+1)=δ (if(cR 58 s).all Cz=ζ then .inl ((cR 58 s).map mR)else .inr ([],η)):=λv o=>by rw [<-O0 (cR 58 s) k v b o,Su];exact m (k+1) c bJ bJ (Qe Cz _ k b f j)
     have ok:acl ((k:Int)+1):=cZ _ bJ bJ;by_cases e:AZ (dR (el (cR 58 s) (k:Int))) [48]=[]
     ·rw [aB e,aU a,aU a,aX,yR,aU ok,step [48] (VB _ e)]
     ·rw [aA e,aU a,aU a,aX,yR,aU ok,step (AZ (dR (el (cR 58 s) (k:Int))) [48]) (VD _ e)]
theorem FZ(s:aC)(c:γ s<=4194304):agi FU s=δ (Cj s):=by
 have d:=pP 58 s;have:=O2 s c (γ (cR 58 s)) 0 FU bJ aA6 rfl;rw [FW]at this;have a:afk FU s FU (cR 58 s) (0:Int)=_:=this;unfold agi;rw [aU bJ,a,aX];cases b:(cR 58 s).all Cz with
 |false=>rw [KJ s b];rfl
 |true=>rw [FX s b];rfl
theorem O3(x:aC)(hx:γ x<=4194304):(if x=([]:aC)then δ (([]:List aC),ζ)else((agi FU x).bind λ(a:((List aC)×Bool))=>δ (a.1,a.2)))=δ (qY x):=by
 by_cases h:x=[]
 ·rw [aB h,VE x h]
 ·rw [aA h,KK x h,FZ x hx];rfl
theorem Oo(x:aC):γ (qY x).1<=γ x+1/\∀y∈(qY x).1,γ y<=4:=by
 unfold qY;split
 ·simp
 ·exact bbs x
theorem Zh(x:aC)(h:γ x<=4194304):γ (cY (qY x).1 [58])<=24000000:=by have b:=Oo x;have a:=y6 [58] 4 (qY x).1 b.2;simp only [fD]at a;omega
theorem HN(s:aC):atb FU s=δ (Cc s):=by
 unfold atb Cc;by_cases a:39<γ s
 ·rw [aB bJ,aB a]
 ·rw [aA bJ,aA a,aU bJ];have h:=Bu s [58,58];cases g:(eD s [58,58]).2.2 with
  |false=>have d:=bbs s;rw [yX,aQ,aB rfl,FZ s bJ,aX,aU ⟨aA0,K7 s bJ⟩];cases c:(Cj s).2<;>rfl
  |true=>
   rw [iN,aH,O3 _ bJ,aX,O3 _ bJ,aX,aA (show¬(ζ=η)by decide)];have j:=Oo (eD s [58,58]).1;have i:=Oo (eD s [58,58]).2.1;have f:=Zh (eD s [58,58]).1 bJ;have e:=Zh (eD s [58,58]).2.1 bJ;cases d:(qY (eD s [58,58]).1).2
   ·simp
   ·cases c:(qY (eD s [58,58]).2.1).2
    ·simp
    ·rw [iN,aH,aH,tF,aX,eE,dX];by_cases b:7<(γ (qY (eD s [58,58]).1).1:Int)+(γ (qY (eD s [58,58]).2.1).1:Int)
     ·rw [aK b,aB rfl];rfl
     ·rw [aL b,aA aA1,aH,aU ⟨aA0,aA0⟩,aU aB4,aU ⟨aA0,aA0⟩,aU aC0]
theorem index_ge(p:aC):∀l:aC,-1<=cK l p
 |[]=>by unfold cK;split<;>omega
 |b::l=>by
  have:=index_ge p l;rw [cK];split
  ·omega
  ·split
   ·omega
   ·omega
theorem bbr(p:aC)(b:UInt8)(l:aC):cK (b::l) p=if p.isPrefixOf (b::l)=ζ then 0 else if cK l p= -1 then-1 else cK l p+1:=by
 rw [cK];split
 ·rfl
 ·by_cases h:cK l p= -1
  ·rw [aB h,aB aA8]
  ·rw [aA h,aA aA8]
theorem xS(s p:aC):eD s p=if cK s p= -1 then(s,[],η)else(s.take (cK s p).toNat,s.drop ((cK s p).toNat+γ p),ζ):=by
 unfold eD;have:=index_ge p s;by_cases h:cK s p= -1
 ·rw [aB h,aA bJ]
 ·rw [aA h,aB bJ]
open Go.Lib renaming index → cK, itoa → dU
open List renaming isPrefixOf → Sz, length → aM
theorem jt(c:UInt8)(h:hK c=ζ):(c-48).toNat=c.toNat-48/\c.toNat<=57/\48<=c.toNat:=by
 have b:=(qC c).1 h;have a:(48:UInt8)<=c:=by rw [wP];show 48<=c.toNat;omega
 exact⟨by rw [WQ _ _ a];rfl,aA0,aA0⟩
theorem H8(s:aC)(x:Int)(o:γ (el (cR 46 s) x)<=15)(l:aC):∀(p:aC) (a:Nat),el (cR 46 s) x=p++l->aM l<a->p.all hK=ζ->
  ajf FU s x a (wN p:Int) (aM p:Int)=δ (if l.all hK=ζ then .inl (wN (el (cR 46 s) x):Int)else .inr η):=by
 induction l with
 |nil=>intro p a h f b;obtain⟨a,rfl⟩:=cS a;rw [fI]at h;rw [avg,alg,aA aE3,h];rfl
 |cons c l i=>
  intro p a h f b;obtain⟨a,rfl⟩:=cS a;have j:=aV aM h;simp only [bP,bX]at j f;have d:(0:Int)<=(aM p:Int)/\(aM p:Int)<(γ (el (cR 46 s) x):Int):=aA0;have m:at_ (el (cR 46 s) x) (aM p:Int)=c:=by rw [h,VY]
  have n:=Ft 14 p bJ b;rw [avg,alg,aB d.2,aU d,m,tT,aX,Gf];cases g:hK c with
  |false=>rfl
  |true=>
   have k:=jt c g;rw [iN,aH,k.1,aU (cZ _ bJ bJ),aU d,aU (cZ _ bJ bJ),aU (cZ _ bJ bJ),Qx];have e:(10:Int)*(wN p:Int)+((c.toNat-48:Nat):Int)=(wN (p++[c]):Int):=by rw [bcr];omega
   rw [e,V7 p c];exact i (p++[c]) a aA5 bJ (by rw [pE,b];simpa using g)
theorem er(s:aC)(j:aM s<=15)(n:Nat):∀(k a:Nat),k+n=γ (cR 46 s)->n<a->
  ajg FU s a (k:Int)=δ (if((cR 46 s).drop k).all lK=ζ then .inl ()else .inr η):=by
 have p:=pP 46 s;induction n with
 |zero=>intro k a l m;obtain⟨a,rfl⟩:=cS a;obtain rfl:k=γ (cR 46 s):=aA0;rw [avh,alh,aA bJ,fS];rfl
 |succ n i=>
  intro k a l m;obtain⟨a,rfl⟩:=cS a;have b:k<γ (cR 46 s):=aA0;have c:(0:Int)<=(k:Int)/\(k:Int)<(γ (cR 46 s):Int):=aA0;have d:γ (el (cR 46 s) (k:Int))<=15:=lE (p.2 _ (Zw _ k b)) j;have o:(cR 46 s).drop k=el (cR 46 s) (k:Int)::(cR 46 s).drop (k+1):=by rw [Oz _ _ b,zbF b]
  have q:=H8 s (k:Int) d (el (cR 46 s) (k:Int)) [] FU aA2 aA6 rfl;have h:ajf FU s (k:Int) FU (0:Int) (0:Int)=_:=q;rw [avh,alh,aB bJ,aU c,aU c,h,aX,o,Gf];cases hx:(el (cR 46 s) (k:Int)).all hK with
  |false=>rw [Ue _ hx];rfl
  |true=>
   have r:=Ft 15 _ d hx;rw [aB rfl,yR];by_cases g:el (cR 46 s) (k:Int)=[]
   ·rw [aB g,nV _ (.inl (.inl g))];rfl
   ·rw [aA g];by_cases f:255<(wN (el (cR 46 s) (k:Int)):Int)
    ·rw [aB f,nV _ (.inl (.inr f))];rfl
    ·rw [aA f,aU (cZ _ bJ bJ),aX];by_cases e:el (cR 46 s) (k:Int)=dU (wN (el (cR 46 s) (k:Int)):Int)
     ·rw [aK e,iN,aH,aX,yR,aU (cZ _ bJ bJ),TU _ hx g f e,Qx];exact i (k+1) a bJ bJ
     ·rw [aL e,nV _ (.inr e)];rfl
theorem AR(s:aC):asa FU s=δ (jX s):=by
 unfold asa;by_cases h:15<(aM s:Int)
 ·rw [aB h,JS s h]
 ·have c:=pP 46 s;have:=er s bJ (γ (cR 46 s)) 0 FU bJ aA6;rw [WV]at this;have a:ajg FU s FU (0:Int)=_:=this;rw [aA h,aU bJ,a,aX];cases b:(cR 46 s).all lK with
  |false=>rw [H9 s b];rfl
  |true=>rw [TW s h b];rfl
def mC(c:UInt8):Bool:=uT c||hK c||c==45
def Sn(x:aC):Bool:=decide (1<=aM x)&&decide (aM x<=63)&& !(at_ x 0==45)&& !(at_ x ((aM x:Int)-1)==45)&&x.all mC
def Ij(x:aC):Bool:=x.any (λc=> !hK c)
def V0(x:aC):Bool:=decide ((aM x:Int)<1)||decide (63<(aM x:Int))||(at_ x 0==45)||(at_ x ((aM x:Int)-1)==45)
theorem gg(x:aC):Sn x=(!V0 x&&x.all mC):=by
 unfold Sn V0;have b:decide (1<=aM x)= !decide ((aM x:Int)<1):=by rw [Z2];simp;omega
 have a:decide (aM x<=63)= !decide (63<(aM x:Int)):=by rw [Z2];simp;omega
 rw [b,a];simp [Bool.not_or,Bool.and_assoc]
theorem lr(x:aC)(hx:aM x<=4194304):(if(aM x:Int)<(1:Int)then δ ζ else(if(63:Int)<(aM x:Int)then δ ζ else(gd (0<=(0:Int)/\(0:Int)<(aM x:Int))<|(if(at_ x (0:Int))=(45:UInt8)then δ ζ else(gd (acl ((aM x:Int)-(1:Int)))<|(gd (0<=((aM x:Int)-(1:Int))/\((aM x:Int)-(1:Int))<(aM x:Int))<|some (decide ((at_ x ((aM x:Int)-(1:Int)))=(45:UInt8)))))))))=δ (V0 x):=by
 unfold V0;by_cases c:(aM x:Int)<1
 ·rw [aB c,aK c];rfl
 ·rw [aA c,aL c,dX];by_cases b:63<(aM x:Int)
  ·rw [aB b,aK b];rfl
  ·rw [aA b,aL b,dX,aU bJ];by_cases a:at_ x 0=45
   ·rw [aB a,show(at_ x 0==45)=ζ by simpa using a];rfl
   ·rw [aA a,show(at_ x 0==45)=η by simpa using a,dX,aU (cZ _ bJ bJ),aU bJ];rfl
theorem mz(c:UInt8):((alq FU c).bind λ(b:Bool)=>(bif (!b)then((XM FU c).bind λ(a:Bool)=>(bif (!a)then δ (!decide (c=(45:UInt8)))else δ η))else δ η))=δ (!mC c):=by
 rw [Wr,tT];unfold mC;by_cases h:c=45
 ·subst h;rfl
 ·rw [show(c==45)=η by simpa using h,aL h];cases uT c<;>cases hK c<;>rfl
theorem TZ(x:aC)(hx:aM x<=4194304)(r:Bool)(l:aC):∀(p:aC) (a:Nat) (w:Bool),x=p++l->aM l<a->
  (l.all mC=ζ->nh FU x r a (aM p:Int) w=δ (0,w||Ij l,r))/\(l.all mC=η->∃b,nh FU x r a (aM p:Int) w=δ (1,b,η)):=by
 induction l with
 |nil=>intro p a w h g;obtain⟨a,rfl⟩:=cS a;rw [fI]at h;refine⟨λ_=> ?_,λh=>by cases h⟩;rw [amv,ags,aA aE3];simp [Ij]
 |cons c l j=>
  intro p a w h g;obtain⟨a,rfl⟩:=cS a;have k:=aV aM h;simp only [bP,bX]at k g;have i:(0:Int)<=(aM p:Int)/\(aM p:Int)<(aM x:Int):=aA0;have m:at_ x (aM p:Int)=c:=by rw [h,VY]
  have ok:acl ((aM p:Int)+1):=cZ _ bJ bJ;have d:=j (p++[c]) a (w|| !hK c) aA5 bJ;rw [<-V7 p c]at d;rw [amv,ags,aB i.2,aU i,m,mz,aX,Gf];cases n:mC c with
  |false=>exact⟨λh=>by simp at h,λ_=>⟨w,by rw [yX,aQ]⟩⟩
  |true=>
   rw [iN,aH,Qx];have e:(bif w then gd (acl ((aM p:Int)+1)) (nh FU x r a ((aM p:Int)+1) ζ)else(XM FU c).bind λ(f:Bool)=>gd (acl ((aM p:Int)+1)) (nh FU x r a ((aM p:Int)+1) (!f)))=nh FU x r a ((aM p:Int)+1) (w|| !hK c):=by
    cases w with
    |true=>rw [aQ,aU ok,mK]
    |false=>rw [aH,tT,aX,aU ok,dX]
   rw [e];refine⟨λh=> ?_,λh=>d.2 h⟩;rw [d.1 h];simp [Ij,Bool.or_assoc]
theorem Ms(x:aC)(hx:aM x<=4194304)(w r:Bool):(Sn x=ζ->mx FU x w r=δ (0,w||Ij x,r))/\(Sn x=η->∃b,mx FU x w r=δ (1,b,η)):=by
 have a:=TZ x hx r x [] FU w aA2 aA6;unfold mx;rw [lr x hx,aX,gg];cases c:V0 x with
 |true=>exact⟨λh=>by simp at h,λ_=>⟨w,by rw [aQ]⟩⟩
 |false=>rw [aH,yX,Qx];exact a
theorem ym(c:UInt8)(f:aC):(cK f [c]= -1/\cR c f=[f])\/(0<=cK f [c]/\cK f [c]<(aM f:Int)/\cR c f=f.take (cK f [c]).toNat::cR c (f.drop ((cK f [c]).toNat+1))):=by
 induction f with
 |nil=>exact .inl ⟨rfl,rfl⟩
 |cons b l g=>
  rw [bbr];have e:([c]:aC).isPrefixOf (b::l)=(c==b):=by simp [Sz]
  rw [e];by_cases h:b=c
  ·subst h;right;rw [aB aA2,ayu];refine⟨fO _,by simp only [bX];omega,aA2⟩
  ·rw [aA (by simpa using λx=>h x.symm),avx c b l h];rcases g with⟨d,a⟩|⟨d,a,i⟩
   ·left;rw [aB d,a];exact⟨rfl,rfl⟩
   ·right;rw [aA bJ,i];have j:(cK l [c]+1).toNat=(cK l [c]).toNat+1:=aA0;refine⟨aA0,by simp only [bX];omega, ?_⟩;rw [j];simp [psp]
theorem vp(n:Nat):∀(f:aC) (d:Nat) (w r:Bool),aM f<=n->n<d->n<=4194304->
  ∃w' f' k,((abw FU [46] 0 d w r f).bind λ(g:((Bool×Bool×aC)⊕(Bool×Bool×aC×Nat)))=>eN (λ(c:(Bool×Bool×aC))=>((mx FU c.2.2 c.1 c.2.1).bind λ(a:(Nat×Bool×Bool))=>(if a.1=0 then δ (a.2.1,a.2.2,c.2.2,0)else δ (a.2.1,a.2.2,c.2.2,a.1)))) (λq=>δ q) g)=δ (w',(if(cR 46 f).all Sn=ζ then r else η),f',k)/\
   (k=if(cR 46 f).all Sn=ζ then 0 else 1)/\((cR 46 f).all Sn=ζ->w'=(w||(cR 46 f).any Ij)):=by
 induction n with
 |zero=>intro f d w r t s m;obtain⟨d,rfl⟩:=cS d;obtain rfl:f=[]:=vJ bJ;have e:cK ([]:aC) [46]= -1:=rfl;rw [aea,abu,aU aA2,e,aB aA1,aX,yR];obtain⟨b,l⟩:=(Ms [] aA2 w r).2 rfl;simp only;rw [l,aX,aA aA2];exact⟨b,[],1,rfl,rfl,λh=>absurd h aA1⟩
 |succ n p=>
  intro f d w r t s m;obtain⟨d,rfl⟩:=cS d;rw [aea,abu,aU bJ];rcases ym 46 f with⟨v,o⟩|⟨v,o,u⟩
  ·rw [aB bJ,aX,yR,o,Gf,List.all_nil,Bool.and_true];simp only;have i:=Ms f bJ w r;cases j:Sn f with
   |true=>rw [i.1 j,aX,aB rfl];exact⟨_,_,0,rfl,rfl,λ_=>by simp⟩
   |false=>obtain⟨b,l⟩:=i.2 j;rw [l,aX,aA aA2];exact⟨b,_,1,rfl,rfl,λh=>by cases h⟩
  ·have B:cK f [46]+0=cK f [46]:=by omega
   have A:(cK f [46]+((γ ([46]:aC):Nat):Int)).toNat=(cK f [46]).toNat+1:=aB0;rw [aA bJ,B,aU (cZ _ bJ bJ),aU bJ,u,Gf];have i:=Ms (f.take (cK f [46]).toNat) aC4 w r;cases j:Sn (f.take (cK f [46]).toNat)with
   |true=>rw [i.1 j,aX,aB rfl,aU (cZ _ aB0 aB0),aU aB0,A,Qx];obtain⟨w',f',k,z,y,x⟩:=p (f.drop ((cK f [46]).toNat+1)) d (w||Ij (f.take (cK f [46]).toNat)) r aB7 bJ bJ;exact⟨w',f',k,z,y,λh=>by rw [x h,Re,Bool.or_assoc]⟩
   |false=>obtain⟨b,l⟩:=i.2 j;rw [l,aX,aA aA2,aX];exact⟨b,_,1,rfl,rfl,λh=>by cases h⟩
def VZ(s:aC):Bool:=decide (1<=aM s)&&decide (aM s<=255)&&(cR 46 s).all Sn&&(cR 46 s).any Ij
theorem MA(s:aC)(e:aM s<=4194304):aol FU s=δ (VZ s):=by
 unfold aol VZ;by_cases d:(aM s:Int)<1
 ·rw [aB d,show decide (1<=aM s)=η by(rw [bL];omega)];rfl
 ·rw [aA d,show decide (1<=aM s)=ζ by(rw [bD];omega),aX,Qx];by_cases c:255<(aM s:Int)
  ·rw [aK c,show decide (aM s<=255)=η by(rw [bL];omega)];rfl
  ·rw [aL c,aH,show decide (aM s<=255)=ζ by(rw [bD];omega),Qx];obtain⟨w',f',k,g,b,f⟩:=vp (γ s) s FU η η (eK _) aA6 e;unfold aqp aqo;rw [aX,aX];unfold adi;rw [aA aA2,aX,yR,g,aX];simp only;cases a:(cR 46 s).all Sn with
   |true=>rw [b,a,aB rfl,aB rfl,f a];simp
   |false=>rw [a]at b;rw [b];simp
open Go.Lib renaming cut → eD, itoa → dU
open UInt8 renaming ofNat → uF
def Aj(x:aC):Bool:=decide (1<=γ x)&&decide (γ x<=3)&& !(decide (1<γ x)&&(at_ x 0==48))&&x.all hK&&decide (wN x<=255)
def dg(n:Fin 10):UInt8:=uF (48+n.val)
theorem Vu:∀c:UInt8,hK c=ζ->∃n:Fin 10,c=dg n:=dS _ aA3
theorem oct1:∀a:Fin 10,lK [dg a]=Aj [dg a]:=aA3
theorem oct2:∀a b:Fin 10,lK [dg a,dg b]=Aj [dg a,dg b]:=aA3
theorem oct3:∀a b c:Fin 10,lK [dg a,dg b,dg c]=Aj [dg a,dg b,dg c]:=aA3
theorem ic:∀n:Fin 256,γ (dU (n.val:Int))<=3:=aA3
theorem Ag(x:aC):lK x=Aj x:=by
 cases f:x.all hK with
 |false=>rw [Ue x f,Aj,f];simp
 |true=>
  have e:=aT.1 f
  match x,f,e with
  |[],_,_=>rfl
  |[a],_,e=>obtain⟨n,rfl⟩:=Vu a (e a aA2);exact oct1 n
  |[a,b],_,e=>obtain⟨n,rfl⟩:=Vu a (e a aA2);obtain⟨m,rfl⟩:=Vu b (e b aA2);exact oct2 n m
  |[a,b,c],_,e=>obtain⟨n,rfl⟩:=Vu a (e a aA2);obtain⟨m,rfl⟩:=Vu b (e b aA2);obtain⟨k,rfl⟩:=Vu c (e c aA2);exact oct3 n m k
  |a::b::c::d::l,f,_=>
   have g:Aj (a::b::c::d::l)=η:=by unfold Aj;rw [show decide (γ (a::b::c::d::l)<=3)=η by(rw [bL];simp only [bX];omega)];simp
   rw [g];by_cases i:wN (a::b::c::d::l)<=255
   ·refine nV _ (.inr λh=> ?_);have:=ic ⟨wN (a::b::c::d::l),aA0⟩;simp only at this;rw [<-h]at this;simp only [bX]at this;omega
   ·exact nV _ (.inl (.inr bJ))
def Fu(s:aC):Bool:=decide (2<=γ s)&&(at_ s 0==91)&&(at_ s ((γ s:Int)-1)==93)
def dW(s:aC):aC×Bool:=
 if Fu s=ζ then(if(Cc (sub s 1 ((γ s:Int)-1))).2=ζ then([91]++(Cc (sub s 1 ((γ s:Int)-1))).1++[93],ζ)else([],η))
 else if jX s=ζ then(s,ζ)else if VZ s=ζ then(dR s,ζ)else([],η)
theorem brk_eq(s:aC)(c:γ s<=4194304):(if(2:Int)<=(γ s:Int)then(gd (0<=(0:Int)/\(0:Int)<(γ s:Int))<|(if(at_ s (0:Int))=(91:UInt8)then(gd (acl ((γ s:Int)-(1:Int)))<|(gd (0<=((γ s:Int)-(1:Int))/\((γ s:Int)-(1:Int))<(γ s:Int))<|some (decide ((at_ s ((γ s:Int)-(1:Int)))=(93:UInt8)))))else δ η))else δ η)=δ (Fu s):=by
 unfold Fu;by_cases b:2<=(γ s:Int)
 ·rw [aB b,show decide (2<=γ s)=ζ by(rw [bD];omega),Qx,aU bJ];by_cases a:at_ s 0=91
  ·rw [aB a,show(at_ s 0==91)=ζ by simpa using a,Qx,aU (cZ _ bJ bJ),aU bJ];rfl
  ·rw [aA a,show(at_ s 0==91)=η by simpa using a];rfl
 ·rw [aA b,show decide (2<=γ s)=η by(rw [bL];omega)];rfl
variable {s:aC}
theorem kx(h:Fu s=ζ):2<=γ s:=by unfold Fu at h;simp only [hO,bD]at h;exact h.1.1
theorem Vk(s:aC):γ (Cc s).1<=60000000:=by
 unfold Cc;by_cases a:39<γ s
 ·rw [aB a];simp
 ·rw [aA a];have f:=Bu s [58,58];have e:=Zh (eD s [58,58]).1 bJ;have d:=Zh (eD s [58,58]).2.1 bJ;split
  ·have c:=bbs s;have b:=y6 [58] 4 (Cj s).1 c.2;simp only [fD]at b⊢;omega
  ·split
   ·simp
   ·simp only [bP,bX,fT];omega
theorem bbx(s:aC)(a:γ s<=4194304):aa FU s=δ (dW s):=by
 unfold aa dW;rw [brk_eq s a,aX];cases b:Fu s with
 |true=>
  have g:=kx b;have e:=Vk (sub s 1 ((γ s:Int)-1));rw [aQ,aU (cZ _ bJ bJ),aU bJ,HN,aX,aB rfl];cases f:(Cc (sub s 1 ((γ s:Int)-1))).2 with
  |false=>rfl
  |true=>rw [iN,aH,aU aB0,aU aB2,aB rfl]
 |false=>
  rw [aH,AR,aX,aA (show¬(η=ζ)by decide)];cases c:jX s with
  |true=>rfl
  |false=>
   rw [aH,MA s a,aX,aA (show¬(η=ζ)by decide)];cases d:VZ s with
   |true=>rw [aQ,z6 s a];rfl
   |false=>rfl
theorem XH(c:UInt8)(p:UInt8->Bool):∀s:aC,(∀x∈cR c s,x.all p=ζ)->∀b∈s,p b=ζ\/b=c
 |[],_,b,e=>by simp at e
 |d::l,h,b,e=>by
  by_cases g:d=c
  ·subst g;rw [ayu]at h;rcases aP.1 e with rfl|e
   ·exact .inr rfl
   ·exact XH d p l (λx hx=>h x (eT _ hx)) b e
  ·rw [avx c d l g]at h;cases hx:cR c l with
   |nil=>exact absurd hx (A6 c l)
   |cons y r=>
    rw [hx]at h;have f:=h _ fE;rw [pE,hO]at f;rcases aP.1 e with rfl|e
    ·left;simpa using f.1
    ·refine XH c p l (λx a=> ?_) b e;rw [hx]at a;rcases aP.1 a with rfl|a
     ·exact f.2
     ·exact h x (eT _ a)
theorem nW(x:aC)(h:Aj x=ζ):1<=γ x/\γ x<=3/\x.all hK=ζ:=by unfold Aj at h;simp only [hO,bD]at h;exact⟨h.1.1.1.1,h.1.1.1.2,h.1.2⟩
theorem at_mem(x:aC)(k:Nat)(h:k<γ x):at_ x (k:Int)∈x:=by simp [at_,h]
theorem Us(s:aC)(h:∀b∈s,gB b=b):dR s=s:=by
 unfold dR
 conv=>rhs;rw [<-List.map_id s]
 exact Y9 λb a=>h b a
theorem Vg(s:aC):γ (dW s).1<=60000002+γ s:=by
 have:=Vk (sub s 1 (γ s-1));unfold dW;split
 ·split
  ·simp only [bP,fD];omega
  ·simp
 ·split
  ·show γ s<=_;omega
  ·split
   ·simp [dR]
   ·simp
open Go.Lib renaming indexAny → Dc
theorem Jg(n:Nat):∀(l:aC) (k:Nat) (a:aC),γ l<=n->γ (fX l k a).1<=γ a+γ l/\((fX l k a).2.2=0->(k:Int)+1<=(fX l k a).2.1/\(fX l k a).2.1<=((k+γ l:Nat):Int)):=by
 induction n with
 |zero=>intro l k a f;obtain rfl:l=[]:=vJ bJ;exact⟨by simp [fX],λh=>absurd h (show¬(6=0)by decide)⟩
 |succ n d=>
  intro l k a f;cases l with
  |nil=>exact⟨by simp [fX],λh=>absurd h (show¬(6=0)by decide)⟩
  |cons c l=>
   simp only [bX]at f;rw [ayr];by_cases i:c=34
   ·rw [aB i];exact⟨aA2,λ_=>⟨aA2,by simp only [bX];omega⟩⟩
   ·rw [aA i];by_cases g:c=92
    ·rw [aB g];by_cases b:l=[]
     ·rw [aB b];exact⟨aA2,λh=>absurd h (show¬(6=0)by decide)⟩
     ·rw [aA b];have e:=bK.2 b;cases j:y5 _ with
      |true=>rw [aB rfl];have:=d (l.drop 1) (k+2) (a++[at_ l 0]) aB7;rw [bP,fD,gZ]at this;exact⟨by simp only [bX];omega,λh=>⟨by have:=(this.2 h).1;omega,by have:=(this.2 h).2;simp only [bX];omega⟩⟩
      |false=>rw [aA aA1];exact⟨aA2,λh=>absurd h (show¬(5=0)by decide)⟩
    ·rw [aA g];cases j:eO c with
     |true=>rw [aB rfl];exact⟨aA2,λh=>absurd h (show¬(5=0)by decide)⟩
     |false=>rw [aA aA1];have:=d l (k+1) (a++[c]) bJ;rw [bP,fD]at this;exact⟨by simp only [bX];omega,λh=>⟨by have:=(this.2 h).1;omega,by have:=(this.2 h).2;simp only [bX];omega⟩⟩
theorem zG(s:aC)(k:Nat)(a:at_ s (k:Int)=34)(b:k<γ s):γ (Pw s (k:Int)).1<=γ s/\((Pw s (k:Int)).2.2=0->(k:Int)+2<=(Pw s (k:Int)).2.1/\(Pw s (k:Int)).2.1<=(γ s:Int)):=by unfold Pw;rw [aA bJ,aA (by rintro(h|h);omega;exact h a)];have e:((k:Int).toNat+1)=k+1:=aA0;rw [e];have:=Jg _ (s.drop (k+1)) (k+1) [] (eK _);rw [gZ,fT]at this;exact⟨aA0,λh=>⟨by have:=(this.2 h).1;omega,by have:=(this.2 h).2;omega⟩⟩
theorem so(s:aC)(a:γ s<=4194304)(i:Int):ab FU (s,i)=δ (s,((cC bY s i:Nat):Int)):=by unfold ab;simp only;rw [oQ s a];rfl
theorem oP(s:aC)(i:Int):tj FU (s,i)=δ (decide ((γ s:Int)<=i)):=rfl
def fJ(s:aC)(k:Nat)(b:UInt8):Bool:=decide (k<γ s)&&(at_ s (k:Int)==b)
theorem IC(s:aC)(k:Nat)(b:UInt8):Ir FU (s,(k:Int)) b=δ (fJ s k b):=by
 unfold Ir fJ;rw [oP,aX];by_cases h:k<γ s
 ·rw [aL (show¬(γ s:Int)<=k by omega),yX,aQ,aU (by simp only;omega),aK h];rfl
 ·rw [aK (show(γ s:Int)<=k by omega),aL h];rfl
theorem pO(s:aC)(a:γ s<=4194304)(i:Int):mo FU s i=δ ((cC cA s i:Nat):Int):=by unfold mo;rw [Ll s bJ];rfl
theorem AP(p:UInt8->Bool)(s:aC)(k:Nat)(h:k<=γ s):k<=cC p s (k:Int):=by unfold cC;rw [ta k _ h];omega
theorem uJ(s:aC)(a:γ s<=4194304)(k:Nat)(b:k<=γ s):afr FU (s,(k:Int))=δ (sub s (k:Int) ((cC cA s (k:Int):Nat):Int),(s,((cC cA s (k:Int):Nat):Int))):=by have d:=AP cA s k b;have c:=rU cA s k;unfold afr;simp only;rw [pO s a,aX,aU bJ]
theorem avw(s:aC)(a b:Nat)(h:b<=γ s)(d:a<=b):sub s (a:Int) (b:Int)=[]↔b=a:=by
 have:=LL s a b;constructor
 ·intro c;rw [c]at this;simp at this;omega
 ·intro c;apply vJ;rw [this];omega
theorem Xr(c:UInt8)(l:aC):(if(0:Int)<=dP (·==c) l then dP (·==c) l else(γ l:Int))=(dN (λb=> !(b==c)) l:Int):=by
 rcases lx (·==c) l with⟨d,a⟩|⟨d,a,e⟩
 ·rw [aA bJ,a]
 ·rw [aB d,e]
theorem VR(c:UInt8):(λb=>([c]:aC).contains b)=(·==c):=by funext b;simp [List.contains_cons];rfl
theorem SE(s:aC)(i:γ s<=4194304)(k:Nat)(j:k<=γ s)(c:UInt8)(g:c.toNat<128):AS FU s (k:Int) [c]=δ ((k+dN (λb=> !(b==c)) (s.drop k):Nat):Int):=by
 have e:((k:Nat):Int).toNat=k:=aA0;have l:γ (s.drop k)=γ s-k:=gZ;have a:=Xr c (s.drop k);have f:Dc (s.drop k) [c]=dP (·==c) (s.drop k):=by rw [att,VR]
 have d:=lx (·==c) (s.drop k);unfold AS;rw [aU bJ,e,aU ⟨aA0,aA2,aD9⟩,f];by_cases h:(0:Int)<=dP (·==c) (s.drop k)
 ·rw [aB h]at a⊢;rw [aU (cZ _ bJ bJ),a];rfl
 ·rw [aA h]at a⊢;congr 1;omega
def kZ(s:aC)(k:Nat):aC×Int×UInt8:=
 if fJ s k 34=ζ then Pw s (k:Int)
 else if fJ s k 91=ζ then
  (if(dW (sub s (k:Int) (min ((k+dN (λb=> !(b==93)) (s.drop k):Nat)+1:Int) (γ s:Int)))).2=ζ then
   ((dW (sub s (k:Int) (min ((k+dN (λb=> !(b==93)) (s.drop k):Nat)+1:Int) (γ s:Int)))).1,((k+dN (λb=> !(b==93)) (s.drop k):Nat):Int)+1,0)else([],(k:Int),5))
 else if cC cA s (k:Int)=k then([],(k:Int),5)else(sub s (k:Int) ((cC cA s (k:Int):Nat):Int),((cC cA s (k:Int):Nat):Int),0)
theorem Qh{k:UInt8}(h:fJ s b k=ζ):b<γ s/\at_ s (b:Int)=k:=by unfold fJ at h;simp only [hO,bD,beq_iff_eq]at h;exact h
theorem az(s:aC)(e:γ s<=4194304)(k:Nat)(c:k<=γ s):γ (kZ s k).1<=90000000/\((kZ s k).2.2=0->(k:Int)+1<=(kZ s k).2.1/\(kZ s k).2.1<=(γ s:Int)+1):=by
 unfold kZ;have g:=AP cA s k c;have f:=rU cA s k;have a:=ID (λb=> !(b==93)) (s.drop k);rw [gZ]at a;split
 ·rename_i h;have:=zG s k (Qh h).2 (Qh h).1;exact⟨aA0,λh=>⟨by have:=(this.2 h).1;omega,by have:=(this.2 h).2;omega⟩⟩
 ·split
  ·split
   ·have d:=Vg (sub s k (min ((k+dN (λb=> !(b==93)) (s.drop k):Nat)+1:Int) (γ s:Int)));rw [LL]at d;exact⟨by simp only;omega,λ_=>⟨by simp only;omega,by simp only;omega⟩⟩
   ·exact⟨aA2,λh=>absurd h (show¬(5=0)by decide)⟩
  ·split
   ·exact⟨aA2,λh=>absurd h (show¬(5=0)by decide)⟩
   ·rename_i h;exact⟨by simp only [LL];omega,λ_=>⟨by simp only;omega,by simp only;omega⟩⟩
theorem vw(s:aC)(k:Nat)(b:UInt8):(if(k:Int)<(γ s:Int)then(gd (0<=(k:Int)/\(k:Int)<(γ s:Int))<|some (decide ((at_ s (k:Int))=b)))else δ η)=δ (fJ s k b):=by
 unfold fJ;by_cases h:k<γ s
 ·rw [aB bJ,aU bJ,aK h];rfl
 ·rw [aA bJ,aL h];rfl
theorem Ej(l:aC):dR l=[]↔l=[]:=by unfold dR;simp
theorem Dr(p:UInt8->Bool)(s:aC)(y:Nat):cC p s ((y:Int)+1)=cC p s ((y+1:Nat):Int):=rfl
def zPrm:aC×aC×Bool:=([],[],η)
def xW(s:aC)(b:Nat):PQ×Int×UInt8×(aC×Int):=
 if cC cA s (b:Int)=b then(zPrm,(b:Int),5,(s,(b:Int)))
 else if fJ s (cC bY s ((cC cA s (b:Int):Nat):Int)) 61=η then((dR (sub s (b:Int) ((cC cA s (b:Int):Nat):Int)),[],η),0,0,(s,((cC bY s ((cC cA s (b:Int):Nat):Int):Nat):Int)))
 else if(kZ s (cC bY s ((cC bY s ((cC cA s (b:Int):Nat):Int)+1:Nat):Int))).2.2=0 then((dR (sub s (b:Int) ((cC cA s (b:Int):Nat):Int)),(kZ s (cC bY s ((cC bY s ((cC cA s (b:Int):Nat):Int)+1:Nat):Int))).1,ζ),0,0,(s,(kZ s (cC bY s ((cC bY s ((cC cA s (b:Int):Nat):Int)+1:Nat):Int))).2.1))
 else(zPrm,(kZ s (cC bY s ((cC bY s ((cC cA s (b:Int):Nat):Int)+1:Nat):Int))).2.1,(kZ s (cC bY s ((cC bY s ((cC cA s (b:Int):Nat):Int)+1:Nat):Int))).2.2,(s,((cC bY s ((cC bY s ((cC cA s (b:Int):Nat):Int)+1:Nat):Int):Nat):Int)))
theorem UD(s:aC)(e:γ s<=4194304)(b:Nat)(o:b<=γ s):akh FU (s,(b:Int))=δ (xW s b):=by
 unfold akh xW;have d:=AP cA s b o;have c:=rU cA s (b:Int);rw [uJ s e b o,aX];simp only;generalize w:cC cA s (b:Int)=t at d c⊢;have l:=rU bY s (t:Int);have m:=AP bY s t c;rw [z6 _ aD0,aX];by_cases j:t=b
 ·have:dR (sub s (b:Int) (t:Int))=[]:=(Ej _).2 ((avw s b t c d).2 j);rw [aB this,aB j,j];rfl
 ·have:¬dR (sub s (b:Int) (t:Int))=[]:=λh=>j ((avw s b t c d).1 ((Ej _).1 h));rw [aA this,aA j,so s e,aX];generalize v:cC bY s (t:Int)=y at m l⊢;rw [IC,aX];cases q:fJ s y 61 with
  |false=>rw [yX,aQ,aB rfl]
  |true=>
   rw [iN,aH,aA (show¬(ζ=η)by decide),tF,so s e,aX,Dr];have a:=rU bY s (y+1:Nat);generalize u:cC bY s (y+1:Nat)=z at a⊢;have g:=AP cA s z a;have f:=rU cA s z;have n:=ID (λb=> !(b==93)) (s.drop z);rw [gZ]at n;rw [IC,aX];unfold kZ;cases r:fJ s z 34 with
   |true=>
    rw [aQ,aB rfl,wY s e,aX];by_cases k:(Pw s z).2.2=0
    ·rw [aB k,aB k]
    ·rw [aA k,aA k];rfl
   |false=>
    rw [aH,aA (show¬(η=ζ)by decide),IC,aX];cases p:fJ s z 91 with
    |true=>
     rw [aQ,aB rfl,SE s e z a 93 aA1,aX];simp only;rw [tF,aU bJ,bbx _ aD0,aX];cases x:(dW (sub s (z:Int) (min ((z+dN (λb=> !(b==93)) (s.drop z):Nat)+1:Int) (γ s:Int)))).2 with
     |false=>rw [yX,aQ,aA (show¬(η=ζ)by decide),aA (show¬((5:UInt8)=0)by decide)];rfl
     |true=>rw [iN,aH,tF,aB rfl,aB rfl]
    |false=>
     rw [aH,aA (show¬(η=ζ)by decide),uJ s e z a,aX];simp only;by_cases i:cC cA s (z:Int)=z
     ·rw [aB ((avw s z _ f g).2 i),aB i,aA (show¬((5:UInt8)=0)by decide),i];rfl
     ·rw [aA (λh=>i ((avw s z _ f g).1 h)),aA i,aB rfl]
open List renaming drop → cG, take → jV
abbrev PP:=aC×aC×Bool
theorem Q2{c:Type}[Inhabited c](p:c->Bool)(l:List c)(F:Nat->Int->Option (Unit⊕Int))
  (o:∀a,F (a+1) (γ l:Int)=δ (.inl ()))
  (m:∀a (k:Nat),k<γ l->p (el l k)=ζ->F (a+1) (k:Int)=δ (.inr (k:Int)))
  (i:∀a (k:Nat),k<γ l->p (el l k)=η->F (a+1) (k:Int)=F a ((k:Int)+1)) (n:Nat):
  ∀(k a:Nat),k+n=γ l->n<a->F a (k:Int)=δ (match(l.drop k).findIdx? p with|none=>.inl ()|some j=>.inr ((k+j:Nat):Int)):=by
 induction n with
 |zero=>intro k a e f;obtain⟨a,rfl⟩:=cS a;obtain rfl:k=γ l:=aA0;rw [o,fS];rfl
 |succ n d=>
  intro k a e f;obtain⟨a,rfl⟩:=cS a;have b:k<γ l:=aA0;have g:l.drop k=el l k::l.drop (k+1):=by rw [Oz _ _ b,zbF b]
  rw [g,List.findIdx?_cons];cases h:p _ with
  |true=>rw [m a k b h];rfl
  |false=>
   rw [i a k b h,Su,d _ a bJ bJ];cases(l.drop _).findIdx? p with
   |none=>rfl
   |some j=>show δ (Sum.inr _)=δ (Sum.inr _);congr 2;show((k+1+j:Nat):Int)=((k+(j+1):Nat):Int);omega
theorem VI{c:Type}[Inhabited c](p:c->Bool)(l:List c)(g:γ l<=4194304)(F:Nat->Int->Option (Unit⊕Int))
  (f:∀b,F (b+1) (γ l:Int)=δ (.inl ()))
  (e:∀b (k:Nat),k<γ l->p (el l k)=ζ->F (b+1) (k:Int)=δ (.inr (k:Int)))
  (d:∀b (k:Nat),k<γ l->p (el l k)=η->F (b+1) (k:Int)=F b ((k:Int)+1)):F FU 0=δ (match l.findIdx? p with|none=>.inl ()|some j=>.inr ((j:Nat):Int)):=by
 have:=Q2 p l F f e d (γ l) 0 FU bJ aA6;rw [WV]at this;have a:F FU 0=_:=this;rw [a];cases l.findIdx? p with
 |none=>rfl
 |some j=>show δ (Sum.inr _)=δ (Sum.inr _);congr 2;show((0+j:Nat):Int)=_;omega
def fIdx(o:Option Nat):Int:=match o with|none=> -1|some j=>(j:Int)
theorem Q4(p:a->Bool)(l:List a):decide ((0:Int)<=fIdx (l.findIdx? p))=l.any p:=by
 rw [<-List.findIdx?_isSome];cases l.findIdx? p with
 |none=>rfl
 |some j=>show decide (0<=j)=ζ;rw [bD];omega
theorem Oi(l:List PP)(d:γ l<=4194304)(name:aC):aon FU l name=δ (l.any λp=>p.1==name):=by
 have h:=VI (λp:PP=>p.1==name) l d (aco FU l name)
  (λb=>by rw [ado,abo,aA bJ])
  (λb k f h=>by have a:(el l (k:Int)).1=name:=aA8;rw [ado,abo,aB bJ,aU bJ,aU bJ];unfold asb;rw [aX,aK a,aQ])
  (λb k f h=>by have a:¬(el l (k:Int)).1=name:=aA8;rw [ado,abo,aB bJ,aU bJ,aU bJ];unfold asb;rw [aX,aL a,aH,tF])
 unfold aon aeg aey;rw [h,aX];have e:eN (λ(c:Unit)=>δ (-1:Int)) (λq=>δ q) (match l.findIdx? (λp:PP=>p.1==name)with|none=>(Sum.inl ():Unit⊕Int)|some j=>Sum.inr ((j:Nat):Int))=δ (fIdx (l.findIdx? (λp:PP=>p.1==name))):=by cases l.findIdx? (λp:PP=>p.1==name)<;>rfl
 rw [e,aX,Q4];rfl
def Hq(l:List PP)(name:aC):UInt8:=if(l.any λp=>p.1==name)=ζ then 7 else if 16<=γ l then 4 else 0
theorem NR(l:List PP)(a:γ l<=4194304)(name:aC):aqh FU l name=δ (Hq l name):=by
 unfold aqh Hq;rw [Oi l a,aX];cases l.any λp=>p.1==name with
 |true=>rfl
 |false=>
  rw [aH,aA (show¬(η=ζ)by decide)];by_cases h:16<=γ l
  ·rw [aB bJ,aB h]
  ·rw [aA bJ,aA h]
theorem js(l:List PP)(k:Nat)(h:k<γ l):el l (k:Int)∈l:=Zw l k h
def mB (s : aC) : Nat -> List PP -> Nat -> List PP × Int × UInt8
  | 0, _, _ => ([], 0, 0)
  | f + 1, l, i =>
    if γ s <= cC bY s (i : Int) then (l, 0, 0)
    else if ¬ at_ s ((cC bY s (i : Int) : Nat) : Int) = 59 then ([], ((cC bY s (i : Int) : Nat) : Int), 5)
    else if (xW s (cC bY s ((cC bY s (i : Int) + 1 : Nat) : Int))).2.2.1 = 0 then
      (if Hq l (xW s (cC bY s ((cC bY s (i : Int) + 1 : Nat) : Int))).1.1 = 0 then mB s f (l ++ [(xW s (cC bY s ((cC bY s (i : Int) + 1 : Nat) : Int))).1]) (xW s (cC bY s ((cC bY s (i : Int) + 1 : Nat) : Int))).2.2.2.2.toNat
       else ([], ((cC bY s ((cC bY s (i : Int) + 1 : Nat) : Int) : Nat) : Int), Hq l (xW s (cC bY s ((cC bY s (i : Int) + 1 : Nat) : Int))).1.1))
    else ([], (xW s (cC bY s ((cC bY s (i : Int) + 1 : Nat) : Int))).2.1, (xW s (cC bY s ((cC bY s (i : Int) + 1 : Nat) : Int))).2.2.1)
theorem low2:∀c:UInt8,gB (gB c)=gB c:=dS _ aA3
theorem An(l:aC):dR (dR l)=dR l:=by unfold dR;rw [jN];apply Y9;intro c _;exact low2 c
theorem DZ(s:aC)(n:γ s<=4194304)(b:Nat)(o:b<=γ s)(a:(xW s b).2.2.1=0):(xW s b).2.2.2.1=s/\(b:Int)+1<=(xW s b).2.2.2.2/\(xW s b).2.2.2.2<=(γ s:Int)+1/\dR (xW s b).1.1=(xW s b).1.1/\γ (xW s b).1.1<=γ s/\γ (xW s b).1.2.1<=90000000:=by
 have k:=AP cA s b o;have f:=rU cA s (b:Int);unfold xW at a⊢;generalize r:cC cA s (b:Int)=t at k f a⊢;have i:=rU bY s (t:Int);have j:=AP bY s t f;have c:γ (dR (sub s (b:Int) (t:Int)))<=γ s:=by unfold dR;rw [Rf,LL];omega
 by_cases l:t=b
 ·rw [aB l]at a;exact absurd a (show¬((5:UInt8)=0)by decide)
 ·rw [aA l]at a⊢;generalize q:cC bY s (t:Int)=y at j i a⊢;cases g:fJ s y 61 with
  |false=>rw [aB rfl];exact⟨rfl,by simp only;omega,by simp only;omega,An _,c,aA2⟩
  |true=>
   have m:=(Qh g).1;rw [g,aA (show¬(ζ=η)by decide)]at a;rw [aA (show¬(ζ=η)by decide)];have h:=AP bY s (y+1) bJ;have d:=rU bY s ((y+1:Nat):Int);generalize p:cC bY s ((y+1:Nat):Int)=z at h d a⊢;by_cases e:(kZ s z).2.2=0
   ·have:=az s n z d;rw [aB e];exact⟨rfl,by simp only;have:=(this.2 e).1;omega,by simp only;exact(this.2 e).2,An _,c,this.1⟩
   ·rw [aA e]at a;exact absurd a e
theorem TQ(s:aC)(m:γ s<=4194304)(n:Nat):∀(k e:Nat) (l:List PP),γ s-k<=n->n<e->k<=4194305->γ l<=16->
  anm FU e l s (k:Int)=δ (mB s (n+1) l k):=by
 have L:¬(η=ζ):=aA1;induction n with
 |zero=>
  intro k e l w A z x;obtain⟨e,rfl⟩:=cS e;have u:=rU bY s (k:Int);have B:γ s<=cC bY s (k:Int):=by unfold cC AM;omega
  rw [avs,amo,so s m,aX,oP,aX,aK bJ,aQ,mB,aB B]
 |succ n v=>
  intro k e l w A z x;obtain⟨e,rfl⟩:=cS e;have u:=rU bY s (k:Int);have p:k<=γ s->k<=cC bY s (k:Int):=AP bY s k;rw [mB,avs,amo,so s m,aX,oP,aX];generalize E:cC bY s (k:Int)=j at u p⊢;by_cases t:γ s<=j
  ·rw [aK bJ,aQ,aB t]
  ·have y:k<=γ s:=by
    rcases uB (γ s) k with h|h
    ·exfalso;have:cC bY s (k:Int)=γ s:=by have a:=rU bY s (k:Int);unfold cC AM at a⊢;omega
     omega
    ·exact h
   rw [aL bJ,aH,aA t,IC,aX];have o:j<γ s:=aA0;unfold fJ;rw [aK o,Qx];by_cases d:at_ s (j:Int)=59
   ·have g:(at_ s (j:Int)==59)=ζ:=by simpa using d
    rw [g,iN,aH,aA aC9];simp only;rw [tF,so s m,aX,Dr];have f:=rU bY s ((j+1:Nat):Int);have q:=AP bY s (j+1) bJ;generalize F:cC bY s ((j+1:Nat):Int)=b at q f⊢;rw [UD s m b f,aX];by_cases i:(xW s b).2.2.1=0
    ·obtain⟨C,K,J,I,H,G⟩:=DZ s m b f i;rw [aB i,aB i,NR l bJ,aX,aX];by_cases c:Hq l (xW s b).1.1=0
     ·have r:γ l<16:=by
       unfold Hq at c;split at c
       ·exact absurd c aA1
       ·split at c
        ·exact absurd c aA1
        ·omega
      have D:(xW s b).2.2.2.2=(((xW s b).2.2.2.2.toNat:Nat):Int):=aA0;rw [aB c];try simp only
      rw [aB c,aU aB0,C,D];have:=v (xW s b).2.2.2.2.toNat e (l++[(xW s b).1]) bJ bJ bJ aB2;rw [this];congr 2
     ·rw [aA c];try simp only
      rw [aA c]
    ·rw [aA i,aA i,aX];simp only;rw [aA i]
   ·have g:(at_ s (j:Int)==59)=η:=by simpa using d
    rw [g,yX,aQ,aB d]
def lA(s:aC):List PP×Int×UInt8:=mB s (γ s+1) [] 0
theorem Ec(s:aC)(a:γ s<=4194304):td FU s=δ (lA s):=by unfold td;exact TQ s a (γ s) 0 FU [] bJ aA6 bJ aA2
def kU(s:aC):Nat:=if cC cA s 0=0 then 0 else if fJ s (cC cA s 0) 47=ζ then(if cC cA s ((cC cA s 0+1:Nat):Int)=cC cA s 0+1 then 0 else cC cA s ((cC cA s 0+1:Nat):Int))else cC cA s 0
def jS(v:aC):(aC×List PP)×UInt8:=
 if kU (cF v)=0 then(([],[]),5)
 else if(lA ((cF v).drop (kU (cF v)))).2.2=0 then(((cF v).take (kU (cF v)),(lA ((cF v).drop (kU (cF v)))).1),0)
 else(([],[]),(lA ((cF v).drop (kU (cF v)))).2.2)
theorem Zi(v:aC)(j:γ v<=4194304):api FU v=δ (jS v):=by
 have l:=IF v;have i:=rU cA (cF v) 0;unfold api jS kU;rw [mM v j,aX,pO _ bJ,aX];generalize cF v=s at l i⊢;have d:∀e:Nat,e<=γ s->e≠0->eN (λ(a:Int)=>(gd (0<=a/\a<=(γ s:Int))<|((td FU (cG (bF a) s)).bind λ(b:((List PP)×Int×UInt8))=>(if b.2.2=(0:UInt8)then(gd (0<=a/\a<=(γ s:Int))<|some ((jV (bF a) s,b.1),(0:UInt8)))else δ ((([]:aC),([]:List PP)),b.2.2))))) (λq=>δ q) (.inl (e:Int):Int⊕((aC×List PP)×UInt8))=δ (if e=0 then(([],[]),5)else if(lA (s.drop e)).2.2=0 then((s.take e,(lA (s.drop e)).1),0)else(([],[]),(lA (s.drop e)).2.2)):=by
  intro e g c;have n:((e:Nat):Int).toNat=e:=aA0;rw [yR,aU bJ,n,Ec _ aB7,aX,aA c];by_cases f:(lA (s.drop e)).2.2=0
  ·rw [aB f,aB f,aU bJ]
  ·rw [aA f,aA f]
 generalize cC cA s 0=k at i⊢;by_cases c:k=0
 ·subst c;rfl
 ·rw [aA bJ,vw,aX,aA c];cases h:fJ s k 47 with
  |true=>
   have o:=(Qh h).1;have m:=rU cA s ((k+1:Nat):Int);have p:=AP cA s (k+1) bJ;rw [aQ,tF,pO _ bJ,aX,tF,Dr,aB rfl];by_cases g:cC cA s ((k+1:Nat):Int)=k+1
   ·rw [aB bJ,aB g];rfl
   ·rw [aA bJ,aA g,aX,d _ m bJ]
  |false=>rw [aH,aX,aA (show¬(η=ζ)by decide),d _ i c]
open Go.Lib renaming join → cY
open List renaming length → aM, take → jV
def jG(s:aC):aC:=34::(s.flatMap oS++[34])
def DE(s:aC):aC×UInt8:=if s.any eO=ζ then([],5)else(jG s,0)
theorem TH(c:UInt8):γ (oS c)<=2:=by unfold oS;split<;>simp
theorem uO:∀s:aC,γ (s.flatMap oS)<=2*aM s
 |[]=>by simp
 |c::l=>by have b:=TH c;have a:=uO l;rw [rZ,bP,bX];omega
theorem wh(s:aC)(u:aM s<=4194304)(l:aC):∀p d,s=p++l->aM l<d->
  akn FU s d (34::p.flatMap oS) (γ p)=δ (if l.any eO=ζ then .inr ([],5)else .inl (34::s.flatMap oS)):=by
 induction l with
 |nil=>intro p d h o;obtain⟨d,rfl⟩:=cS d;rw [fI]at h;subst h;rw [azj,aqs,aA bJ];rfl
 |cons c l q=>
  intro p d h o;obtain⟨d,rfl⟩:=cS d;have r:=aV aM h;simp at r o;have n:(0:Int)<=(aM p:Int)/\(aM p:Int)<(aM s:Int):=aA0;have t:at_ s (aM p:Int)=c:=by rw [h,VY]
  have v:=uO p;have k:=q (p++[c]) d aA5 bJ;rw [IK,MF]at k;rw [azj,aqs,aB n.2,aU n,t,awx,aX,Re];cases w:eO c with
  |true=>rw [aQ,mK,aB rfl]
  |false=>
   rw [aH,dX];have a:∀b:Bool,oS c=(bif b then [92,c]else [c])->(bif b then gd ((γ (34::p.flatMap oS)+γ ([(92:UInt8)]:List UInt8))*1<=140737488355328) (δ ((34::p.flatMap oS)++([(92:UInt8)]:List UInt8)))else δ (34::p.flatMap oS))=δ ((34::p.flatMap oS)++(bif b then [92]else [])):=by
    intro b _;cases b with
    |true=>rw [aQ,aQ,aU aB4]
    |false=>rw [aH,aH,fI]
   have j:∀b:Bool,oS c=(bif b then [92,c]else [c])->((δ ((34::p.flatMap oS)++(bif b then [92]else []))).bind λ(i:List UInt8)=>(gd (0<=(aM p:Int)/\(aM p:Int)<(aM s:Int))<|(gd ((aM i+γ ([c]:List UInt8))*1<=140737488355328)<|(gd (acl ((aM p:Int)+(1:Int)))<|(akn FU s d (i++([c]:List UInt8)) ((aM p:Int)+(1:Int)))))))=δ (if l.any eO=ζ then .inr ([],5)else .inl (34::s.flatMap oS)):=by intro b m;rw [aX,aU n,aU (by cases b<;>simp only [aQ,aH,bP,bX,fT]<;>omega),aU (cZ _ bJ bJ),<-k,m];cases b<;>simp
   by_cases g:c=34
   ·have e:oS c=(bif ζ then [92,c]else [c]):=by rw [g];rfl
    rw [aB g,aX,a ζ e,j ζ e]
   ·rw [aA g,aX];by_cases f:c=92
    ·have e:oS c=(bif ζ then [92,c]else [c]):=by rw [f];rfl
     rw [aK f,a ζ e,j ζ e]
    ·have e:oS c=(bif η then [92,c]else [c]):=by unfold oS;rw [aA (by simp [g,f])];rfl
     rw [aL f,a η e,j η e]
theorem O5{b:Decidable p}(h:p): @gd _ p b k=k:=by unfold gd;exact aB h
theorem Lx(s:aC)(b:aM s<=4194304):arw FU s=δ (DE s):=by
 have:=wh s b s [] FU aA2 aA6;have a:akn FU s FU ([]++[34]) (0:Int)=_:=this;have c:=uO s;unfold arw DE;rw [aU (cZ _ bJ bJ),O5 bJ,aU aA1,a,aX];cases s.any eO with
 |true=>rfl
 |false=>rw [aA (show¬(η=ζ)by decide),yR,aU aB4];rfl
theorem sO(s:aC):γ (jG s)<=2*aM s+2:=by have:=uO s;unfold jG;rw [bX,bP,fD];omega
theorem vb:∀c:UInt8,cA c=ζ->eO c=η:=dS _ aA3
theorem yu:∀c:UInt8,kL c=ζ->eO (gB c)=η:=dS _ aA3
theorem yc:∀c:UInt8,mC c=ζ->eO (gB c)=η:=dS _ aA3
theorem dig_nc:∀c:UInt8,hK c=ζ->eO c=η:=dS _ aA3
theorem sx(l:aC)(h:∀c∈l,eO c=η):l.any eO=η:=by rw [dC];intro c a;rw [h c a];decide
theorem L6(s:aC)(h:eP s=ζ):s.any eO=η:=by unfold eP at h;rw [hO]at h;exact sx s λc a=>vb c (aT.1 h.2 c a)
theorem jb(g:aC)(h:Cz g=ζ):∀c∈mR g,eO c=η:=by
 have hx:g.all kL=ζ:=by unfold Cz at h;simp only [hO]at h;exact h.2
 intro c a;unfold mR at a;split at a
 ·rw [aE.1 a];decide
 ·have b:=(wR _).subset a;obtain⟨d,e,rfl⟩:=cJ.1 b;exact yu d (aT.1 hx d e)
theorem Ju:∀(l:List aC),(∀x∈l,∀c∈x,eO c=η)->∀c∈cY l [58],eO c=η
 |[],_,c,d=>by simp [cY]at d
 |[a],h,c,d=>by simp [cY]at d;exact h a aA2 c d
 |a::b::l,h,c,d=>by
  rcases aR.1 d with d|d
  ·exact h a aA2 c d
  ·rcases aP.1 d with rfl|d
   ·decide
   ·exact Ju _ (λx hx=>h x (eT _ hx)) c d
theorem Ol(s:aC):∀x∈(Cj s).1,∀c∈x,eO c=η:=by
 intro x hx;unfold Cj at hx;split at hx
 ·rename_i b;obtain⟨y,a,rfl⟩:=cJ.1 hx;exact jb y (aT.1 b y a)
 ·simp at hx
theorem FY(s:aC):∀x∈(qY s).1,∀c∈x,eO c=η:=by
 intro x hx;unfold qY at hx;split at hx
 ·simp at hx
 ·exact Ol s x hx
theorem N9(s:aC):∀c∈(Cc s).1,eO c=η:=by
 intro c a;unfold Cc at a;split at a
 ·simp at a
 ·split at a
  ·exact Ju _ (Ol s) c a
  ·split at a
   ·simp at a
   ·rcases aR.1 a with a|a
    ·rcases aR.1 a with a|a
     ·exact Ju _ (FY _) c a
     ·have b:c=58:=by simpa using a
      rw [b];decide
    ·exact Ju _ (FY _) c a
theorem M6(s:aC):((dW s).1).any eO=η:=by
 refine sx _ λc a=> ?_;unfold dW at a;split at a
 ·split at a
  ·rcases aR.1 a with a|a
   ·rcases aR.1 a with a|a
    ·rw [aE.1 a];decide
    ·exact N9 _ c a
   ·rw [aE.1 a];decide
  ·simp at a
 ·split at a
  ·rename_i b;unfold jX at b;simp only [hO]at b;rcases XH 46 hK s (λx hx=>(nW x (by rw [<-Ag];exact aT.1 b.1.2 x hx)).2.2) c a with h|h
   ·exact dig_nc c h
   ·rw [h];decide
  ·split at a
   ·rename_i b;unfold VZ at b;simp only [hO]at b;obtain⟨d,e,rfl⟩:=cJ.1 a;rcases XH 46 mC s (λx hx=>by have:=aT.1 b.1.2 x hx;unfold Sn at this;simp only [hO]at this;exact this.2) d e with h|h
    ·exact yc d h
    ·rw [h];decide
   ·simp at a
def We(v:aC):Bool:=(dW v).2&&decide ((dW v).1=v)&&(at_ v 0==91)
def Ru(pre:List PP)(p:PP):Bool:=eP p.1&&decide (dR p.1=p.1)&& !(pre.any λq=>q.1==p.1)
def Jo(p:PP):Bool:=bif p.2.2 then !p.2.1.any eO else decide (p.2.1=[])
def sE(p:PP):aC:=bif p.2.2 then 61::(bif eP p.2.1||We p.2.1 then p.2.1 else jG p.2.1)else []
def mX:List PP->List PP->Option aC
 |_,[]=>δ []
 |pre,p::r=>bif Ru pre p&&Jo p then(mX (pre++[p]) r).map λt=>59::(p.1++(sE p++t))else ε
def iV(l:List PP):aC×UInt8:=if 16<aM l then([],2)else match mX [] l with|some t=>(t,0)|none=>([],2)
theorem brV_nc(v:aC)(h:We v=ζ):v.any eO=η:=by unfold We at h;simp at h;rw [<-h.1.2];exact M6 v
theorem PY(v:aC)(h:(dW v).2=ζ)(a:(dW v).1=v):v≠[]:=by intro e;subst e;exact absurd h aA1
theorem MY(p:PP)(a:aM p.2.1<=4194304):γ (sE p)<=8388611:=by
 have:=sO p.2.1;unfold sE;cases p.2.2 with
 |false=>simp
 |true=>
  rw [aQ,bX];cases(eP p.2.1||We p.2.1)with
  |true=>rw [aQ];omega
  |false=>rw [aH];omega
theorem pp_lp(l:List PP)(J:aM l<=16)(G:∀p∈l,aM p.1<=4194304/\γ p.2.1<=4194304)(r:List PP):∀pre b (out:aC),l=pre++r->aM r<b->aM out<=aM pre*16000000->
  aeq FU l b (γ pre) () out=δ (match mX pre r with|some t=>.inl ((),out++t)|none=>.inr ([],2)):=by
 induction r with
 |nil=>intro pre b out h B E;obtain⟨b,rfl⟩:=cS b;rw [fI]at h;rw [arn,aib,aA aE3];simp [mX]
 |cons p r D=>
  intro pre b out h B E;obtain⟨b,rfl⟩:=cS b;have n:=aV aM h;simp only [bP,bX]at n B;have g:(0:Int)<=(aM pre:Int)/\(aM pre:Int)<(aM l:Int):=aA0;have F:el l (aM pre:Int)=p:=aB3;have x:jV (bF (aM pre:Int)) l=pre:=aA5
  have c:=G p aA5;have H:=MY p c.2;have f:acl ((aM pre:Int)+1):=cZ _ bJ bJ;have next:∀o:aC,o=out++(59::(p.1++sE p))->Ru pre p=ζ->Jo p=ζ->aeq FU l b ((aM pre:Int)+1) () o=δ (match mX pre (p::r)with|some t=>.inl ((),out++t)|none=>.inr ([],2)):=by
   intro o m w k;have s:=D (pre++[p]) b o aA5 bJ (by rw [m];simp only [bP,bX,fT];omega);rw [show(γ (pre++[p]):Int)=(aM pre:Int)+1 by simp]at s;rw [s,mX,w,k,Qx,aQ];cases mX (pre++[p]) r with
   |none=>rfl
   |some t=>rw [m];simp
  have a:Ru pre p=η\/Jo p=η->mX pre (p::r)=ε:=by
   rintro(h|h)
   ·rw [mX,h];rfl
   ·rw [mX,h,Qw];rfl
  rw [arn,aib,aB g.2,aU g,aU g,F,sn _ bJ,aX];cases w:eP p.1 with
  |false=>rw [a (.inl (by unfold Ru;rw [w];rfl))];rfl
  |true=>
   rw [iN,aH,z6 _ c.1,aX];by_cases k:p.1=dR p.1
   ·rw [aB k,aU bJ,x,Oi pre bJ,aX,aX];cases C:pre.any λq=>q.1==p.1 with
    |true=>rw [a (.inl (by unfold Ru;rw [C];simp))];rfl
    |false=>
     have A:Ru pre p=ζ:=by unfold Ru;rw [w,C,aK k.symm];rfl
     rw [aH,aU aA4];unfold BF;rw [aU aA4,aX];simp only;cases j:p.2.2 with
     |false=>
      rw [yX,aQ];by_cases d:p.2.1=[]
      ·have z:Jo p=ζ:=by unfold Jo;rw [j];exact aK d
       rw [aB d,aU f];refine next _ ?_ A z
       have:sE p=[]:=by unfold sE;rw [j];rfl
       rw [this];simp
      ·have z:Jo p=η:=by unfold Jo;rw [j];exact aL d
       rw [aA d,a (.inr z)]
     |true=>
      have i:Jo p= !p.2.1.any eO:=by unfold Jo;rw [j];rfl
      rw [iN,aH,bbx _ c.2,aX,sn _ bJ,aX];have e:(bif (!eP p.2.1)then(bif (dW p.2.1).2 then(if(dW p.2.1).1=p.2.1 then(gd (0<=(0:Int)/\(0:Int)<(aM p.2.1:Int))<|some (!decide ((at_ p.2.1 (0:Int))=(91:UInt8))))else δ ζ)else δ ζ)else δ η)=δ (!(eP p.2.1||We p.2.1)):=by
       unfold We;cases eP p.2.1 with
       |true=>rfl
       |false=>
        rw [yX];cases v:(dW p.2.1).2 with
        |false=>rfl
        |true=>
         rw [aQ];by_cases u:(dW p.2.1).1=p.2.1
         ·have:=bK.2 (PY p.2.1 v u);rw [aB u,aK u,aU bJ];rfl
         ·rw [aA u,aL u];rfl
      rw [e,aX];cases d:(eP p.2.1||We p.2.1)with
      |true=>
       have y:p.2.1.any eO=η:=by
        rcases Bool.or_eq_true_iff.1 d with h|h
        ·exact L6 _ h
        ·exact brV_nc _ h
       rw [iN,aH,aX,yR,aU aA4,aU aA4,aX,aU f];refine next _ ?_ A (by rw [i,y];rfl)
       have:sE p=61::p.2.1:=by unfold sE;rw [j,d];rfl
       rw [this];simp
      |false=>
       rw [yX,aQ,Lx _ c.2,aX];unfold DE;have I:=sO p.2.1;cases v:p.2.1.any eO with
       |true=>rw [aB rfl,aA (show¬((5:UInt8)=0)by decide),aX,eF,a (.inr (by rw [i,v];rfl))]
       |false=>
        rw [aA (show¬(η=ζ)by decide),aB rfl,aX,yR];simp only;rw [aU aA4,aU aA4,aX,aU f];refine next _ ?_ A (by rw [i,v];rfl)
        have:sE p=61::jG p.2.1:=by unfold sE;rw [j,d];rfl
        rw [this];simp
   ·rw [aA k,aX,aQ,a (.inl (by unfold Ru;rw [aL (λh=>k h.symm)];simp))]
theorem Yj:∀r pre t,(∀p∈r,aM p.1<=4194304/\γ p.2.1<=4194304)->mX pre r=δ t->aM t<=aM r*16000000
 |[],_,t,_,h=>by simp [mX]at h;subst h;simp
 |p::r,pre,t,c,h=>by
  rw [mX]at h;cases b:Ru pre p&&Jo p with
  |false=>rw [b]at h;cases h
  |true=>rw [b,aQ,Z1]at h;obtain⟨u,d,rfl⟩:=h;have:=Yj r _ u (λq e=>c q (eT _ e)) d;have a:=c p fE;have f:=MY p a.2;simp;omega
theorem bap(l:List PP)(b:∀p∈l,aM p.1<=4194304/\γ p.2.1<=4194304):WL FU l=δ (iV l):=by
 unfold WL iV;by_cases h:16<aM l
 ·rw [aB bJ,aB h]
 ·have:=pp_lp l bJ b l [] FU [] aA2 aA6 aA2;have a:aeq FU l FU 0 () []=_:=this;rw [aA bJ,aA h,a,aX];cases c:mX [] l with
  |none=>rfl
  |some t=>have:=Yj l [] t b c;simp;rw [aU bJ]
open Go.Op renaming bytesLess → vI
theorem room0(pre:List PP)(nm:aC):(Hq pre nm=0)↔((pre.any λq=>q.1==nm)=η/\γ pre<16):=by
 unfold Hq;cases pre.any λq=>q.1==nm with
 |true=>simp
 |false=>
  rw [aA (show¬(η=ζ)by decide)];by_cases h:16<=γ pre
  ·rw [aB h];simp;omega
  ·rw [aA h];simp;omega
theorem JO(x:PP):(x.1,x.2.1,x.2.2)=x:=rfl
theorem sX:∀x y:aC,vI x y= !(vI y x||y==x)
 |[],[]=>rfl
 |[],b::y=>rfl
 |a::x,[]=>rfl
 |a::x,b::y=>by
  have i:=sX x y;rw [vI,vI,i];rcases Nat.lt_trichotomy a.toNat b.toNat with h|h|h
  ·have d:a<b:=h;have g:¬b<a:=by rw [Z0];omega
   have c:¬a=b:=λe=>by subst e;omega
   have f:(b::y==a::x)=η:=by simp;intro e;exact absurd e.symm c
   rw [f];simp [d,g,c];exact .inl λe=>c e.symm
  ·have e:a=b:=pB.1 h;subst e;have d:¬a<a:=by rw [Z0];omega
   have f:(a::y==a::x)=(y==x):=by simp [List.cons_beq_cons]
   rw [f];simp [d]
  ·have d:b<a:=h;have g:¬a<b:=by rw [Z0];omega
   have c:¬a=b:=λe=>by subst e;omega
   simp [d,g,c]
def N7(a b:aC):Bool:= !(vI a b||a==b)
def Fg(x:PP):List PP->List PP
 |[]=>[x]
 |a::V=>bif N7 a.1 x.1 then a::Fg x V else x::a::V
def rR(x:PP)(l:List PP):List PP:=(Fg x l.reverse).reverse
theorem UP(x a:PP)(l:List PP):rR x (l++[a])=bif N7 a.1 x.1 then rR x l++[a]else l++[a,x]:=by unfold rR;rw [List.reverse_append,ME,BI,Fg];cases N7 a.1 x.1<;>simp
theorem FE(x:PP):∀V:List PP,γ (Fg x V)=γ V+1
 |[]=>rfl
 |a::V=>by
  rw [Fg];cases N7 a.1 x.1 with
  |true=>rw [aQ,bX,FE x V,bX]
  |false=>rfl
theorem FG(x:PP)(l:List PP):γ (rR x l)=γ l+1:=by unfold rR;rw [List.length_reverse,FE,List.length_reverse]
theorem Oa(x y:PP):∀V:List PP,y∈Fg x V->y=x\/y∈V
 |[],h=>by left;simpa [Fg] using h
 |a::V,h=>by
  rw [Fg]at h;cases b:N7 a.1 x.1 with
  |true=>
   rw [b,aQ]at h;rcases aP.1 h with rfl|h
   ·right;simp
   ·rcases Oa x y V h with h|h
    ·exact .inl h
    ·right;simp [h]
  |false=>
   rw [b,aH]at h;rcases aP.1 h with rfl|h
   ·left;rfl
   ·right;exact h
theorem L9(x y:PP)(l:List PP)(h:y∈rR x l):y=x\/y∈l:=by
 unfold rR at h;rcases Oa x y _ (List.mem_reverse.1 h)with h|h
 ·exact .inl h
 ·exact .inr (List.mem_reverse.1 h)
def eC(l:List PP):List PP:=l.foldl (λout x=>rR x out) []
theorem GF:∀(q p:List PP),γ (q.foldl (λout x=>rR x out) p)=γ p+γ q
 |[],p=>by simp
 |a::q,p=>by rw [RQ,GF q,FG,bX];omega
theorem GD(y:PP):∀(q p:List PP),y∈q.foldl (λout x=>rR x out) p->y∈p\/y∈q
 |[],p,h=>.inl h
 |a::q,p,h=>by
  rw [RQ]at h;rcases GD y q _ h with h|h
  ·rcases L9 a y p h with h|h
   ·right;simp [h]
   ·exact .inl h
  ·right;simp [h]
theorem uU(l:List PP):γ (eC l)=γ l:=by unfold eC;rw [GF];simp
theorem bbq(l:List PP)(y:PP)(h:y∈eC l):y∈l:=by
 rcases GD y l [] h with h|h
 ·simp at h
 ·exact h
open List renaming length → aM, set → gQ
def ki(a b:aC):Int:=bif vI a b then-1 else bif !(vI a b||a==b)then 1 else 0
theorem yq(fu:Nat)(x y:PP):ara fu x y=δ (ki x.1 y.1):=by
 unfold ara ane aqy ki;rw [aX,aX,aK rfl,aK rfl,iN,aH,aH];cases vI x.1 y.1 with
 |true=>rfl
 |false=>rw [aH,aH];cases(!(η||x.1==y.1))<;>rfl
theorem cmp_lt(a b:aC):decide (ki a b<0)=vI a b:=by
 unfold ki;cases vI a b with
 |true=>rfl
 |false=>rw [aH];cases(!(η||a==b))<;>rfl
theorem kg(x:List PP)(hx:aM x<=4194304)(q:List PP):∀(p:List PP) (b:Nat),x=p++q->aM q<b->
  aam FU x b (aM p:Int) p=δ (x,0):=by
 induction q with
 |nil=>intro p b h e;obtain⟨b,rfl⟩:=cS b;rw [fI]at h;subst h;rw [abl,aan,aA bJ]
 |cons a q f=>intro p b h e;obtain⟨b,rfl⟩:=cS b;have d:=aV aM h;simp only [bP,bX]at d e;have c:(0:Int)<=(aM p:Int)/\(aM p:Int)<(aM x:Int):=aA0;have g:el x (aM p:Int)=a:=aB3;rw [abl,aan,aB c.2,aU c,aU c,g];unfold acb;simp only [JO];rw [aU aB0,aX,aB rfl,aU (cZ _ bJ bJ)];have:=f (p++[a]) b aA5 bJ;rw [show(γ (p++[a]):Int)=(aM p:Int)+1 by simp]at this;exact this
theorem LA(x:List PP)(hx:aM x<=4194304):ada FU x=δ x:=by have:=kg x hx x [] FU aA2 aA6;unfold ada adx abc;have a:aam FU x FU (0:Int) []=_:=this;rw [a,aX,aB rfl];rfl
theorem ru(P S:List PP)(x:PP):el (P++x::S) (aM P:Int)=x:=aF0
theorem il(n:Nat):∀(P S:List PP) (x:PP) (c:Nat),aM P=n->n<c->aM P+aM S<=1048575->
  abi FU 0 c (P++x::S) (aM P:Int)=δ (rR x P++S):=by
 induction n with
 |zero=>intro P S x c h t l;obtain⟨c,rfl⟩:=cS c;obtain rfl:P=[]:=vJ h;rw [adw,abg,aA aA2];rfl
 |succ n q=>
  intro P S x c h t l;obtain⟨c,rfl⟩:=cS c;rcases wQ P with rfl|⟨b,a,rfl⟩
  ·simp at h
  ·simp only [wS]at*;have p:aM b=n:=by simp at h;omega
   have u:((γ (b++[a]):Int)-1)=(aM b:Int):=aA2;have r:el (b++[a]++x::S) (γ (b++[a]):Int)=x:=ru _ _ _;have m:el (b++[a]++x::S) (aM b:Int)=a:=by rw [gH];exact ru b (x::S) a
   have d:γ (b++[a]++x::S)=aM b+2+aM S:=aA4;have o:(0:Int)<=(γ (b++[a]):Int)/\(γ (b++[a]):Int)<(γ (b++[a]++x::S):Int):=by rw [d];simp;omega
   have g:(0:Int)<=(aM b:Int)/\(aM b:Int)<(γ (b++[a]++x::S):Int):=by rw [d];omega
   have k:acl (aM b:Int):=cZ _ bJ (by simp at l;omega);have j:(γ (b++[a]):Int).toNat=aM b+1:=aA2;have i:((aM b:Nat):Int).toNat=aM b:=aA0;rw [adw,abg,u];simp only [r,m,JO,yq,aX,cmp_lt,aU o,aU g,aU k];rw [aB aB5,aX,sX x.1 a.1,UP];have s:(!(vI a.1 x.1||a.1==x.1))=N7 a.1 x.1:=rfl;rw [s];cases N7 a.1 x.1 with
   |false=>rw [aH,aH];simp
   |true=>
    have f:gQ (b++[a]++x::S) (γ (b++[a]):Int).toNat a=b++a::a::S:=by rw [j,gH,kQ _ _ bJ];simp
    have e:gQ (b++a::a::S) ((aM b:Nat):Int).toNat x=b++x::a::S:=by rw [i,kQ _ _ bJ];simp
    rw [aQ,aQ,f,e,aU aA4,aU aA4,q b (a::S) x c p bJ (by simp at l⊢;omega)];simp
theorem im(R:List PP):∀(P:List PP) (b:Nat) (n:Int),n=(γ (P++R):Int)->γ (P++R)<=1048575->aM R<b->
  aao FU 0 n b (P++R) (aM P:Int)=δ (R.foldl (λout x=>rR x out) P):=by
 induction R with
 |nil=>intro P b n d f g;obtain⟨b,rfl⟩:=cS b;rw [acd,aaw,aA aD1];simp
 |cons a R h=>intro P b n d f g;obtain⟨b,rfl⟩:=cS b;simp only [bP,bX]at f g;rw [acd,aaw,aB (by rw [d];simp;omega),il (γ P) P R a FU rfl aA6 bJ,aX,aU (cZ _ bJ bJ)];have c:=FG a P;have:=h (rR a P) b n (by rw [d];simp [c];omega) (by simp only [bP,c];omega) bJ;rw [c]at this;have e:((aM P:Int)+1)=((aM P+1:Nat):Int):=rfl;rw [e,this];rfl
theorem yk(l:List PP)(b:aM l<=1048575):aat FU l 0 (aM l:Int)=δ (eC l):=by
 unfold aat;rw [aU (cZ _ bJ bJ)];cases l with
 |nil=>obtain⟨m,c⟩:∃m,FU=m+1:=⟨FU-1,by rw [eZ]⟩;rw [show(aao FU 0 (γ ([]:List PP):Int) FU [] (0+1))=aao FU 0 (γ ([]:List PP):Int) (m+1) [] (0+1)by rw [<-c]];rw [acd,aaw,aA aA2];rfl
 |cons a l=>have:=im l [a] FU (γ (a::l):Int) rfl b (by rw [eZ];simp at b;omega);exact this
open Go.Lib renaming cut → eD, index → cK
open List renaming isPrefixOf → Sz
theorem Lh(l:List PP)(d:γ l<20):aba FU l=δ (eC l):=by
 unfold aba acm;obtain⟨m,a⟩:∃m,FU=m+1:=⟨FU-1,by rw [eZ]⟩
 have c:abf FU (γ l:Int) FU l (0:Int) (20:Int)=δ (l,0):=by
  have:∀k,abf FU (γ l:Int) (k+1) l (0:Int) (20:Int)=δ (l,0):=λk=>by rw [aky,acz,aA bJ]
  have:=this m;rw [<-a]at this;exact this
 have b:abe FU (γ l:Int) FU (eC l) (20:Int)=δ (eC l):=by
  have:∀k,abe FU (γ l:Int) (k+1) (eC l) (20:Int)=δ (eC l):=λk=>by rw [akx,acy,aA bJ]
  have:=this m;rw [<-a]at this;exact this
 rw [c,aX];simp only;rw [yk l bJ,aX,b];rfl
theorem SQ:acn FU=aba FU:=by kernel_rfl
theorem uL(l:List PP)(a:γ l<20):WJ FU l=δ (eC l):=by unfold WJ aly abd;rw [aX,LA l bJ,aX,SQ,Lh l a];rfl
theorem FH(c:UInt8):∀v:aC,(cK v [c]= -1/\∀b∈v,b≠c)\/(∃f a,v=f++c::a/\(∀b∈f,b≠c)/\cK v [c]=(γ f:Int))
 |[]=>.inl ⟨rfl,aA2⟩
 |b::l=>by
  rw [bbr];have e:([c]:aC).isPrefixOf (b::l)=(c==b):=by simp [Sz]
  rw [e];by_cases h:b=c
  ·subst h;right;exact⟨[],l,rfl,aA2,by rw [aB aA2];rfl⟩
  ·rw [aA (by simpa using λx=>h x.symm)];rcases FH c l with⟨g,d⟩|⟨f,a,g,d,i⟩
   ·left;rw [aB g];exact⟨rfl,λx hx=>by rcases aP.1 hx with rfl|hx;exact h;exact d x hx⟩
   ·right;refine⟨b::f,a,by rw [g];rfl,λx hx=>by rcases aP.1 hx with rfl|hx;exact h;exact d x hx, ?_⟩;rw [aA bJ,i,bX];omega
def Bv(v:aC):Bool:=eP (eD v [47]).1&&(!(eD v [47]).2.2||eP (eD v [47]).2.1)
theorem tok47:cA 47=η:=aA1
theorem pS(p:UInt8->Bool)(l:aC):l.all p=decide (dN p l=γ l):=by have:=sH p l;rw [Z2,bD];exact this.symm
theorem Tm(p:UInt8->Bool):∀(f:aC) (c:UInt8) (b:aC),f.all p=η->dN p (f++c::b)<γ f/\p (at_ (f++c::b) (dN p (f++c::b):Int))=η
 |[],c,b,h=>by cases h
 |a::f,c,b,h=>by
  cases d:p a with
  |false=>rw [Kg,pR p a _ d];exact⟨aA2,by simpa [at_] using d⟩
  |true=>
   rw [Gf,d,Qx]at h;have g:=Tm p f c b h;have e:dN p (a::f++c::b)=dN p (f++c::b)+1:=by rw [Kg,dN,aB d]
   rw [e];refine⟨by rw [bX];omega, ?_⟩;have:=g.2;simpa [at_] using this
theorem EZ(v:aC):Bv v=decide (v≠[]/\kU v=γ v):=by
 unfold Bv kU;rw [bbf,xS];have w:=ID cA v;rcases FH 47 v with⟨i,p⟩|⟨f,g,i,p,y⟩
 ·rw [aB i];simp only [yX,mK,Bool.and_true];have j:fJ v (dN cA v) 47=η:=by
   cases h:fJ v (dN cA v) 47 with
   |false=>rfl
   |true=>have:=Qh h;exact absurd this.2 (p _ (at_mem v _ this.1))
  rw [j,aA (show¬(η=ζ)by decide)];unfold eP;rw [pS,Z2];simp only [hO,dT,Sx,bD];constructor
  ·rintro⟨a,b⟩;have:=bK.2 a;exact⟨a,by rw [aA bJ];exact b⟩
  ·rintro⟨a,b⟩;have:=bK.2 a;refine⟨a, ?_⟩;split at b
   ·omega
   ·exact b
 ·rw [aA bJ,y];have z:((γ f:Nat):Int).toNat=γ f:=by omega
  have A:v.take (γ f)=f:=by rw [i,Qy]
  have s:v.drop (γ f+γ ([47]:aC))=g:=by rw [i,fD,show f++47::g=(f++[47])++g by simp,show γ f+1=γ (f++[47]) by simp,Gg]
  rw [z,A,s];simp only [iN,dX];have m:γ v=γ f+1+γ g:=by rw [i];simp;omega
  have o:v≠[]:=by intro e;rw [e,fT]at m;omega
  cases k:f.all cA with
  |false=>
   have d:=Tm cA f 47 g k;rw [<-i]at d;have j:fJ v (dN cA v) 47=η:=by
    cases h:fJ v (dN cA v) 47 with
    |false=>rfl
    |true=>
     exfalso;have r:=(Qh h).2;have u:at_ v (dN cA v:Int)∈f:=by
      have:at_ v (dN cA v:Int)=at_ f (dN cA v:Int):=by rw [i];simp only [at_,bQ];rw [aI (by rw [<-i];omega)]
      rw [this];exact at_mem f _ d.1
     exact p _ u r
   have t:eP f=η:=by unfold eP;rw [k,Qw]
   rw [t,Y7,j,aA (show¬(η=ζ)by decide)];symm;rw [bL];rintro⟨_,b⟩;split at b<;>omega
  |true=>
   have d:dN cA v=γ f:=by rw [i,y8 cA f _ k,pR cA 47 g tok47];omega
   have kV:at_ v ((γ f:Nat):Int)=47:=by rw [i,VY]
   have j:fJ v (dN cA v) 47=ζ:=by unfold fJ;rw [d,kV,aK bJ];rfl
   have n:cC cA v ((γ f+1:Nat):Int)=γ f+1+dN cA g:=by
    unfold cC;rw [ta _ _ bJ];have:v.drop (γ f+1)=g:=by rw [<-s,fD]
    rw [this]
   rw [j,aB rfl,d,n];unfold eP;rw [k,Bool.and_true,pS];have x:=ID cA g;rw [Z2];simp only [hO,dT,Sx,bD];constructor
   ·rintro⟨a,b,c⟩;have r:=bK.2 a;have B:=bK.2 b;refine⟨o, ?_⟩;rw [aA bJ,aA bJ];omega
   ·rintro⟨_,b⟩;by_cases q:γ f=0
    ·rw [aB q]at b;omega
    ·rw [aA q]at b;by_cases l:γ f+1+dN cA g=γ f+1
     ·rw [aB l]at b;omega
     ·rw [aA l]at b;exact⟨λe=>q aE7,λe=>by rw [e]at l;simp [dN]at l,aA0⟩
theorem Yi(l:List PP)(b:∀p∈l,γ p.1<=4194304/\γ p.2.1<=4194304):γ (iV l).1<=256000000:=by
 unfold iV;split
 ·simp
 ·rename_i h;cases a:mX [] l with
  |none=>simp
  |some t=>have:=Yj l [] t b a;simp only;omega
def Ke(x:aC×List PP):aC×UInt8:=if Bv x.1=ζ/\(iV (eC x.2)).2=0 then(x.1++(iV (eC x.2)).1,0)else([],2)
theorem DY(l:List PP)(h:16<γ l):WL FU l=δ ([],2):=by unfold WL;rw [aB bJ]
theorem Yf(x:aC×List PP)(t:γ x.1<=4194304)(q:γ x.2<=19)(n:∀p∈x.2,γ p.1<=4194304/\γ p.2.1<=4194304):aqw FU x=δ (Ke x):=by
 have b:∀p∈eC x.2,γ p.1<=4194304/\γ p.2.1<=4194304:=λp k=>n p (bbq _ p k);have m:=uU x.2;have j:=Yi (eC x.2) b;have s:=Bu x.1 [47];unfold aqw Ke;rw [aU bJ,sn _ bJ,aX];have e:(bif (!eP (eD x.1 [47]).1)then δ ζ else(bif ((eD x.1 [47]).2.2)then((XL FU ((eD x.1 [47]).2.1)).bind λ(f:Bool)=>δ (!f))else δ η))=δ (!Bv x.1):=by unfold Bv;rw [sn _ bJ];cases eP (eD x.1 [47]).1<;>cases(eD x.1 [47]).2.2<;>simp
 rw [e,aX];cases r:Bv x.1 with
 |false=>rw [yX,aQ,aA (λh=>absurd h.1 aA1)]
 |true=>
  rw [iN,aH];obtain⟨y,g,i⟩:∃y,((WJ FU x.2).bind λ(d:List PP)=>((WL FU d).bind λ(a:(aC×UInt8))=>(if a.2=(0:UInt8)then(gd (γ x.1+γ a.1<=9223372036854775807)<|some (x.1++a.1,(0:UInt8)))else δ (([]:aC),(2:UInt8)))))=(if(iV (eC x.2)).2=(0:UInt8)then(gd (γ x.1+γ (iV (eC x.2)).1<=9223372036854775807)<|some (x.1++(iV (eC x.2)).1,(0:UInt8)))else δ (([]:aC),(2:UInt8)))/\y=0:=by
   refine⟨0, ?_,rfl⟩;by_cases o:16<γ x.2
   ·have l:iV (eC x.2)=([],2):=by unfold iV;rw [aB bJ]
    rw [uL x.2 bJ,aX,DY _ bJ,aX,l]
   ·rw [uL x.2 bJ,aX,bap _ b,aX]
  rw [g];by_cases c:(iV (eC x.2)).2=0
  ·rw [aB c,aU bJ,aB ⟨rfl,c⟩]
  ·rw [aA c,aA (λh=>c h.2)]
theorem Mj(s:aC):∀(f:Nat) (l:List PP) (i:Nat),γ l<=16->γ (mB s f l i).1<=16
 |0,_,_,_=>by simp [mB]
 |f+1,l,i,h=>by
  rw [mB];split
  ·exact h
  ·split
   ·simp
   ·split
    ·split
     ·rename_i b;have a:=((room0 l _).1 b).2;exact Mj s f _ _ aB2
     ·simp
    ·simp
theorem Fc(v:aC):γ (jS v).1.2<=16:=by
 unfold jS;split
 ·simp
 ·split
  ·exact Mj _ _ _ _ aA2
  ·simp
end Go.Wk
set_option maxRecDepth 20000
namespace Go.Wk
open Go.Px
open List renaming length → aM
variable {c:UInt8}
theorem jw(h:hK c=η):c<48\/(57:UInt8)<c:=by
 by_cases b:c<48
 ·exact .inl b
 ·by_cases a:(57:UInt8)<c
  ·exact .inr a
  ·exfalso;have:hK c=ζ:=by rw [qC];rw [Z0]at b a;have e:(48:UInt8).toNat=48:=rfl;have d:(57:UInt8).toNat=57:=rfl;omega
   rw [this]at h;cases h
theorem R9(h:hK c=ζ):(c-48).toNat=c.toNat-48/\¬c<48/\¬(57:UInt8)<c/\c.toNat<=57:=by
 have b:=(qC c).1 h;refine⟨?_, ?_, ?_,aA0⟩
 ·have a:(48:UInt8)<=c:=by rw [wP];show 48<=c.toNat;omega
  rw [WQ _ _ a];rfl
 ·rw [Z0];show¬c.toNat<48;omega
 ·rw [Z0];show¬57<c.toNat;omega
def hZ(s:aC):Int×UInt8:=
 if γ s<1\/10<aM s\/s.all hK=η then(0,5)else if 2147483647<wN s then(0,3)else((wN s:Int),0)
theorem JT(s:aC)(t:aM s<=18)(l:aC):∀(p:aC) (a:Nat),s=p++l->aM l<a->p.all hK=ζ->
  ama FU s a (wN p:Int) (aM p:Int)=δ (if l.all hK=ζ then .inl (wN s:Int)else .inr ((0:Int),(5:UInt8))):=by
 induction l with
 |nil=>intro p a h i f;obtain⟨a,rfl⟩:=cS a;rw [fI]at h;subst h;rw [asn,alb,aA bJ];rfl
 |cons c l o=>
  intro p a h i f;obtain⟨a,rfl⟩:=cS a;have b:(0:Int)<=(aM p:Int)/\(aM p:Int)<(aM s:Int):=by rw [h,bP,bX];omega
  have j:at_ s (aM p:Int)=c:=by rw [h,VY]
  simp only [bX]at i;cases d:hK c with
  |false=>
   rw [asn,alb,aB b.2,aU b,j,Gf,d,Y7,aA (show¬η=ζ by decide)];rcases jw d with g|g
   ·rw [aB g,aX,aQ]
   ·by_cases k:c<48
    ·rw [aB k,aX,aQ]
    ·rw [aA k,aU b,aK g,aX,aQ]
  |true=>
   obtain⟨hx,n,m,q⟩:=R9 d;have r:=Ft 17 p (by have:=aV aM h;rw [bP,bX]at this;omega) f;rw [asn,alb,aB b.2,aU b,j,aA n,aU b,aL m,aX,aH,hx,aU (cZ _ bJ bJ),aU b,aU (cZ _ bJ bJ),aU (cZ _ bJ bJ)];have e:(10:Int)*(wN p:Int)+((c.toNat-48:Nat):Int)=(wN (p++[c]):Int):=by rw [bcr];omega
   rw [e,V7 p c,Gf,d,Qx];exact o (p++[c]) a aA5 bJ (by rw [pE,f];simpa using d)
theorem uR(s:aC):tb FU s=δ (hZ s):=by
 unfold tb hZ;by_cases c:aM s<1
 ·rw [aB bJ,aX,aQ,aB (.inl c)]
 ·rw [aA bJ,aX];by_cases b:10<aM s
  ·rw [aK bJ,aQ,aB (.inr (.inl b))]
  ·rw [aL bJ,aH];have:=JT s bJ s [] FU aA2 aA6 aA2;change ama FU s FU (0:Int) (0:Int)=_ at this;rw [this,aX];cases d:s.all hK with
   |false=>rw [aA (show¬η=ζ by decide),eF,aB (.inr (.inr rfl))]
   |true=>
    rw [aB rfl,yR,aA (show¬(aM s<1\/10<aM s\/ζ=η)by rintro(h|h|h)<;>first|omega|cases h)];by_cases a:2147483647<wN s
    ·rw [aB bJ,aB a]
    ·rw [aA bJ,aA a]
def kT(s:aC):Int×UInt8:=if(hZ s).2=0/\((hZ s).1<1\/65535<(hZ s).1)then(0,3)else hZ s
end Go.Wk
set_option maxRecDepth 100000
namespace Go.Wk
open Go.Px
open Go.Lib renaming decDigits → kY, itoa → dU
open UInt8 renaming ofNat → uF
theorem dig_of:∀n:Fin 10,hK (uF (48+n.val))=ζ/\(uF (48+n.val)).toNat-48=n.val/\sub ([48,49,50,51,52,53,54,55,56,57]:aC) (n.val:Int) ((n.val:Int)+1)=[uF (48+n.val)]:=aA3
theorem KV(n:Nat)(h:n<10):hK (uF (48+n))=ζ/\(uF (48+n)).toNat-48=n/\sub ([48,49,50,51,52,53,54,55,56,57]:aC) (n:Int) ((n:Int)+1)=[uF (48+n)]:=dig_of ⟨n,h⟩
theorem QO:∀(k n:Nat),n<10^(k+1)->(kY n).all hK=ζ/\wN (kY n)=n/\1<=γ (kY n)/\γ (kY n)<=k+1:=by
 intro k;induction k with
 |zero=>intro n h;have h:n<10:=aA8;have:=KV n h;rw [kY,dif_pos h];refine⟨by simpa using this.1, ?_,aA2,aA2⟩;show 10*0+_=n;omega
 |succ k c=>
  intro n h;rw [kY];by_cases a:n<10
  ·have:=KV n a;rw [dif_pos a];refine⟨by simpa using this.1, ?_,aA2,aA2⟩;show 10*0+_=n;omega
  ·have b:=KV (n%10) (Nat.mod_lt _ aA1);have:=c (n/10) (by rw [Nat.pow_succ]at h;omega);rw [dif_neg a];refine⟨by rw [pE,this.1];simpa using b.1, ?_,aA2,by simp;omega⟩;rw [bcr,this.2.1,b.2.1];omega
theorem Ns(n:Nat):dU (n:Int)=kY n:=by unfold dU;rw [aA aA0,iO]
theorem WE(n:Int)(e:0<=n)(h:n<=65535):hZ (dU n)=(n,0)/\1<=γ (dU n)/\γ (dU n)<=5/\(dU n).all hK=ζ:=by obtain⟨m,rfl⟩:∃m:Nat,n=(m:Int):=⟨n.toNat,aA0⟩;obtain⟨a,d,c,b⟩:=QO 4 m aA0;rw [Ns];refine⟨?_,c,b,a⟩;unfold hZ;rw [a,d,aA (by rintro(h|h|h)<;>first|omega|cases h),aA aA0]
open Go.Lib renaming itoa → dU
open Int renaming toNat → bF
open List renaming drop → cG, length → aM, take → jV
abbrev VV:=aC×aC×Int×aC×List PP
def wT:VV:=([],[],0,[],[])
def Cm:aC:=[83,73,80,47,50,46,48,47]
def XO:aC:=[98,114,97,110,99,104]
def jI(s:aC):aC:=s.map HI
theorem wX(s:aC):γ (jI s)=aM s:=by unfold jI;exact Rf ..
theorem ZJ(s:aC)(g:aM s<=9223372036854775807)(l:aC):∀p a,aM p+aM l=aM s->aM l<a->
  adk FU s a (p++l) (γ p)=δ (p++l.map HI):=by
 induction l with
 |nil=>intro p a d e;obtain⟨a,rfl⟩:=cS a;simp at d;rw [ait,adg,aA bJ];rfl
 |cons c l f=>intro p a d e;obtain⟨a,rfl⟩:=cS a;simp at d e;have b:=Mx p c l;rw [ait,adg,aB bJ,aU b,aU b,VY,Xc];simp only [aX];rw [aU b,aU b,aU (cZ _ bJ bJ),zN,V7 p _,f _ a aB5 bJ];simp
theorem Ko(s:aC)(a:aM s<=9223372036854775807):acg FU s=δ (jI s):=by unfold acg;have:=ZJ s a s [] FU aA2 aA6;simp at this;rw [this];rfl
theorem yz(l:List PP)(j:aM l<=4194304)(e:∀p∈l,aM p.1<=4194304)(y:aC)(n:Nat):∀k a,k+n=aM l->n<a->
  aoq FU l y a k=δ (match(l.drop k).find? (λp=>dR p.1==y)with|none=>.inl ()|some p=>.inr (p.2.1,ζ)):=by
 induction n with
 |zero=>intro k a f g;obtain⟨a,rfl⟩:=cS a;obtain rfl:k=aM l:=aA0;rw [azp,arb,aA bJ,fS];rfl
 |succ n d=>
  intro k a f g;obtain⟨a,rfl⟩:=cS a;have b:k<aM l:=aA0;have c:0<=(k:Int)/\(k:Int)<(aM l:Int):=aA0;have i:l.drop k=el l (k:Int)::l.drop (k+1):=by rw [Oz _ _ b,zbF b]
  rw [azp,arb,aB c.2,aU c,aU c,z6 _ (e _ (js l k b)),aX,i,RS];by_cases h:dR (el l k).1=y
  ·rw [aB h,show(dR (el l _).1==y)=ζ by simpa using h]
  ·rw [aA h,show(dR (el l (k:Int)).1==y)=η by simpa using h,aU (cZ _ bJ bJ),Su,d _ a bJ bJ]
theorem get_eq(l:List PP)(d:aM l<=4194304)(b:∀p∈l,aM p.1<=4194304)(name:aC)(c:aM name<=4194304):avk FU l name=δ (xQ l name):=by have:=yz l d b (dR name) (γ l) 0 FU bJ aA6;rw [WV]at this;have a:aoq FU l _ FU 0=_:=this;unfold avk;rw [z6 _ c,aX,a];have e:xQ l name=(match l.find? (λp=>dR p.1==dR name)with|some p=>(p.2.1,ζ)|none=>([],η)):=rfl;rw [e];cases l.find? (λp=>dR p.1==dR name)<;>rfl
theorem qE(v:aC)(c:UInt8):Lib.contains v [c]=v.any (·==c):=by
 unfold Lib.contains;rcases FH c v with⟨a,b⟩|⟨f,e,a,b,d⟩
 ·rw [a,aL bJ];symm;rw [dC];intro x hx;simpa using b x hx
 ·rw [d,a];simp
def kO(P:aC):aC×aC×Bool:=
 if kC (·==58) P<0 then(P,[],η)
 else if((P.take (kC (·==58) P).toNat).any (·==91)&&(P.drop (kC (·==58) P).toNat).any (·==93))=ζ then(P,[],η)
 else(P.take (kC (·==58) P).toNat,P.drop (kC (·==58) P+1).toNat,ζ)
theorem KX(P:aC)(f:aM P<=4194304):asy FU P=δ (kO P):=by
 have b:=Ek (·==58) P;unfold asy kO;rw [aU bJ];generalize kC _ P=a at b⊢;by_cases h:a<0
 ·rw [aB h,aX,aQ,aB h]
 ·have e:0<=a/\a<aM P:=by omega
  rw [aA h,aA h,aU bJ,aU aC4,qE,qE];have c:∀o:Option Bool,o=δ ((P.take a.toNat).any (·==91)&&(P.drop a.toNat).any (·==93))->(o.bind λ(v:Bool)=>(bif v then δ (P,([]:aC),η)else(gd (0<=a/\a<=(aM P:Int))<|(gd (acl (a+(1:Int)))<|(gd (0<=(a+1)/\(a+1)<=aM P)<|some (jV (bF a) P,cG (bF (a+1)) P,ζ))))))=δ (if((P.take a.toNat).any (·==91)&&(P.drop a.toNat).any (·==93))=ζ then(P,[],η)else(P.take a.toNat,P.drop (a+1).toNat,ζ)):=by
   intro o d;rw [d,aX];cases((P.take a.toNat).any _&&(P.drop a.toNat).any _)with
   |true=>rfl
   |false=>rw [aH,aU bJ,aU (cZ _ bJ bJ),aU bJ,aA (show¬(η=ζ)by decide)]
  refine c _ ?_;cases(P.take a.toNat).any _ with
  |false=>rfl
  |true=>rw [aQ,aU bJ,aU aB7,Qx]
theorem GV(P:aC):γ (kO P).1<=aM P/\γ (kO P).2.1<=aM P:=by
 unfold kO;split
 ·simp
 ·split
  ·simp
  ·simp;omega
def lY(c:UInt8):Bool:=c==59||bY c
theorem cq:(λc=>([59,32,9]).contains c)=lY:=by funext c;revert c;exact dS _ aA3
def Di(c h:aC)(b:Int)(a:aC):VV×UInt8:=if(lA a).2.2=0 then((c,h,b,(xQ (lA a).1 XO).1,(lA a).1),0)else(wT,(lA a).2.2)
def Xa(b place a:aC):VV×UInt8:=
 if(dW (kO place).1).2=η then(wT,5)
 else if(kO place).2.2=ζ then(if(kT (kO place).2.1).2=0 then Di b (dW (kO place).1).1 (kT (kO place).2.1).1 a else(wT,(kT (kO place).2.1).2))
 else Di b (dW (kO place).1).1 0 a
def lX(v:aC):VV×UInt8:=
 if(cF v).length<8 then(wT,5)
 else if¬jI ((cF v).take 8)=Cm then(wT,5)
 else if cC cA (cF v) 8=8 then(wT,5)
 else if cC bY (cF v) (cC cA (cF v) 8)=cC cA (cF v) 8 then(wT,5)
 else Xa (jI (sub (cF v) 8 (cC cA (cF v) 8)))
  (((cF v).drop (cC bY (cF v) (cC cA (cF v) 8))).take (dN (λc=> !lY c) ((cF v).drop (cC bY (cF v) (cC cA (cF v) 8)))))
  (((cF v).drop (cC bY (cF v) (cC cA (cF v) 8))).drop (dN (λc=> !lY c) ((cF v).drop (cC bY (cF v) (cC cA (cF v) 8)))))
theorem Mi(s:aC)(d:aM s<=4194304):∀f l i,(∀p∈l,dR p.1=p.1/\γ p.1<=aM s/\γ p.2.1<=90000000)->∀p∈(mB s f l i).1,dR p.1=p.1/\γ p.1<=aM s/\γ p.2.1<=90000000
 |0,_,_,_=>by simp [mB]
 |f+1,l,i,h=>by
  rw [mB];split
  ·exact h
  ·split
   ·simp
   ·split
    ·rename_i e;have c:=rU bY s ((cC bY s i+1):Int);have a:=DZ s d _ c e;split
     ·refine Mi s d f _ _ λp b=> ?_;rcases aR.1 b with b|b
      ·exact h p b
      ·rw [aE.1 b];exact⟨a.2.2.2.1,a.2.2.2.2.1,a.2.2.2.2.2⟩
     ·simp
    ·simp
theorem avz(s:aC)(a:aM s<=4194304):∀p∈(lA s).1,dR p.1=p.1/\γ p.1<=aM s/\γ p.2.1<=90000000:=Mi s a _ [] 0 aA2
theorem Mh(s:aC):γ (lA s).1<=16:=Mj s _ [] 0 aA2
theorem MW(d h:aC)(b:Int)(a:aC)(e:aM a<=4194304):((td FU a).bind λ(y:((List PP)×Int×UInt8))=>(if y.2.2=0 then((avk FU y.1 ([98,114,97,110,99,104])).bind λg=>δ ((d,h,b,g.1,y.1),0))else δ (([],[],0,[],[]),y.2.2)))=δ (Di d h b a):=by
 have j:=Mh a;have i:=avz a e;unfold Di;rw [Ec a e,aX];by_cases c:(lA a).2.2=0
 ·rw [aB c,aB c,get_eq _ bJ (λp f=>by have:=(i p f).2.1;omega) _ aA1];rfl
 ·rw [aA c,aA c];rfl
theorem OJ(y:Int×UInt8):((if y.2=0 then(if y.1<1 then δ ζ else δ (decide (65535<y.1)))else δ η).bind λb=>(bif b then δ 3 else δ y.2))=δ (if y.2=0/\(y.1<1\/65535<y.1)then 3 else y.2):=by
 by_cases a:y.2=0
 ·rw [aB a];by_cases d:y.1<1
  ·rw [aB d,aB ⟨a,.inl d⟩];rfl
  ·rw [aA d];by_cases c:65535<y.1
   ·rw [aK c,aB ⟨a,.inr c⟩];rfl
   ·rw [aL c,aA (by rintro⟨_,h|h⟩<;>contradiction)];rfl
 ·rw [aA a,aA (λh=>a h.1)];rfl
theorem uu(v:aC)(C:aM v<=4194304):bak FU v=δ (lX v):=by
 have E:=IF v;unfold bak lX;rw [mM v C,aX];generalize cF v=s at E⊢;by_cases B:aM s<8
 ·rw [aB (show(aM s:Int)<8 by omega),aB B];rfl
 rw [aA (show¬(aM s:Int)<8 by omega),aA B,aU bJ,Ko _ aC4,aX,aX];by_cases q:jI (s.take 8)=Cm
 ·have d:jI (jV (bF (8:Int)) s)=([83,73,80,47,50,46,48,47]:aC):=q;have u:=AP cA s 8 bJ;have l:=rU cA s 8;have m:8<=cC cA s 8:=u;rw [aK d,iN,aH,aA (not_not_intro q),pO s bJ,aX,oQ s bJ,aX];generalize cC cA s 8=k at m l⊢;have x:=AP bY s k l;have w:=rU bY s (k:Int);generalize cC bY s (k:Int)=i at x w⊢;by_cases j:k=8
  ·rw [aB bJ,aB j];rfl
  rw [aA bJ,aX,aA j];by_cases n:i=k
  ·rw [aK bJ,aB n];rfl
  rw [aL bJ,aH,aA n,aU bJ,Ko _ aD0,aX,aU bJ,iO];have y:γ (s.drop i)<=4194304:=aB7;generalize jI (sub s (8:Int) (k:Int))=G;generalize s.drop i=P at y⊢;have e:=lx lY P;have A:=ID (λc=> !lY c) P;have t:∀o:Option (aC×aC),o=δ (P.take (dN (λc=> !lY c) P),P.drop (dN (λc=> !lY c) P))->∀f:aC×aC->Option (VV×UInt8),o.bind f=f (P.take (dN (λc=> !lY c) P),P.drop (dN (λc=> !lY c) P)):=λo D f=>by rw [D];rfl
  rw [t _ (by
   rw [aU ⟨aA0,aA1,aA1⟩,att,cq];by_cases hx:(0:Int)<=dP lY P
   ·rcases e with h|h
    ·omega
    ·rw [aB hx,aU bJ,aU bJ,h.2.2,iO]
   ·rcases e with h|h
    ·rw [aA hx,h.2,iS,fS]
    ·omega)]
  have g:γ (P.take (dN (λc=> !lY c) P))<=4194304:=aC4;have b:γ (P.drop (dN (λc=> !lY c) P))<=4194304:=aB7;generalize P.take (dN (λc=> !lY c) P)=a at g⊢;generalize P.drop (dN (λc=> !lY c) P)=z at b⊢;have F:=GV a;unfold Xa;simp only;rw [KX a g,aX,bbx _ bJ,aX];cases H:(dW (kO a).1).2 with
  |false=>rfl
  |true=>
   rw [iN,aH,aA (show¬(ζ=η)by decide)];cases I:(kO a).2.2 with
   |false=>rw [aH,aX,yR,MW _ _ _ _ b,aA (show¬(η=ζ)by decide)]
   |true=>
    rw [aQ,uR,aX,OJ,aX,aB rfl];unfold kT;by_cases p:(hZ (kO a).2.1).2=0/\((hZ (kO a).2.1).1<1\/65535<(hZ (kO a).2.1).1)
    ·rw [aB p,aB p,aA aA1];rfl
    ·rw [aA p,aA p];by_cases r:(hZ (kO a).2.1).2=0
     ·rw [aB r,aB r,aX,yR,MW _ _ _ _ b]
     ·rw [aA r,aA r];rfl
 ·have d:¬jI (jV (bF 8) s)=([83,73,80,47,50,46,48,47]:aC):=q;rw [aL d,aB q];rfl
def kE(l:List PP):List PP:=l.filter λp=> !(p.1==XO)
def nG(b:aC):List PP:=if b=[]then []else [(XO,b,ζ)]
def Sq(h:aC)(n:Int):aC:=if n=0 then h else h++([58]++dU n)
def Ho(x:VV):aC×UInt8:=
 if(dW x.2.1).2=ζ/\eP x.1=ζ/\0<=x.2.2.1/\x.2.2.1<=65535/\(iV (eC (kE x.2.2.2.2++nG x.2.2.2.1))).2=0
 then(Cm++jI x.1++[32]++Sq (dW x.2.1).1 x.2.2.1++(iV (eC (kE x.2.2.2.2++nG x.2.2.2.1))).1,0)else([],2)
theorem DT(l:List PP):γ (kE l)<=aM l:=WT _ _
theorem I2(l:List PP)(p:PP)(h:p∈kE l):p∈l:=(pC.1 h).1
theorem U6(b:aC):γ (nG b)<=1:=by unfold nG;split<;>simp
theorem et(x:VV)(m:aM x.2.2.2.2<=4194304)(q:List PP):∀p c,x.2.2.2.2=p++q->aM q<c->
  ajd FU x c (kE p) (γ p)=δ (kE (p++q)):=by
 induction q with
 |nil=>intro p c h i;obtain⟨c,rfl⟩:=cS c;rw [auy,ale,aA aA5,fI]
 |cons a q j=>
  intro p c h i;obtain⟨c,rfl⟩:=cS c;have f:=aV aM h;simp at f i;have d:(0:Int)<=(aM p:Int)/\(aM p:Int)<(aM x.2.2.2.2:Int):=aA0;have l:el x.2.2.2.2 (aM p:Int)=a:=aB3;have b:=j (p++[a]) c aA5 bJ;rw [show(γ (p++[a]):Int)=(aM p:Int)+1 by simp,gH]at b;have k:=DT p;rw [auy,ale,aB d.2,aU d,aU d,l];by_cases g:a.1=XO
  ·have e:kE (p++[a])=kE p:=by unfold kE;rw [jP];simp [g]
   rw [aB (show a.1=([98,114,97,110,99,104]:aC)from g),aU (cZ _ bJ bJ)];rw [e]at b;exact b
  ·have e:kE (p++[a])=kE p++[a]:=by unfold kE;rw [jP];simp [g]
   rw [aA (show¬a.1=([98,114,97,110,99,104]:aC)from g)];rw [aU aA4,aU (cZ _ bJ bJ)];rw [e]at b;exact b
theorem ur(x:VV)(b:∀p∈x.2.2.2.2,aM p.1<=4194304/\γ p.2.1<=4194304)(c:aM x.2.2.2.1<=4194304):∀p∈kE x.2.2.2.2++nG x.2.2.2.1,aM p.1<=4194304/\γ p.2.1<=4194304:=by
 intro p a;rcases aR.1 a with h|h
 ·exact b p (I2 _ p h)
 ·unfold nG at h;split at h
  ·simp at h
  ·rw [aE.1 h];exact⟨show γ XO<=4194304 by decide,c⟩
theorem UN(l:List PP)(f:aM l<=19)(d:∀p∈l,aM p.1<=4194304/\γ p.2.1<=4194304):((WJ FU l).bind λy=>WL FU y)=δ (iV (eC l)):=by
 have c:=uU l;by_cases e:16<aM l
 ·have b:iV (eC l)=([],2):=by unfold iV;rw [aB bJ]
  rw [uL l bJ,aX,DY _ bJ,b]
 ·rw [uL l bJ,aX,bap _ (λp a=>d p (bbq _ p a))]
theorem nS(x:VV)(h:¬((dW x.2.1).2=ζ/\eP x.1=ζ/\0<=x.2.2.1/\x.2.2.1<=65535/\(iV (eC (kE x.2.2.2.2++nG x.2.2.2.1))).2=0)):Ho x=([],2):=by unfold Ho;rw [aA h]
theorem Dy(x:VV)(h:(dW x.2.1).2=ζ/\eP x.1=ζ/\0<=x.2.2.1/\x.2.2.1<=65535/\(iV (eC (kE x.2.2.2.2++nG x.2.2.2.1))).2=0):Ho x=(Cm++jI x.1++[32]++Sq (dW x.2.1).1 x.2.2.1++(iV (eC (kE x.2.2.2.2++nG x.2.2.2.1))).1,0):=by unfold Ho;rw [aB h]
theorem DF(x:VV)(I:aM x.1<=4194304)(C:aM x.2.1<=4194304)(F:aM x.2.2.2.2<=18)(A:∀p∈x.2.2.2.2,aM p.1<=4194304/\γ p.2.1<=4194304)(B:aM x.2.2.2.1<=4194304):ary FU x=δ (Ho x):=by
 have w:=DT x.2.2.2.2;have z:=U6 x.2.2.2.1;have d:=ur x A B;have s:γ (kE x.2.2.2.2++nG x.2.2.2.1)<=19:=aC1;have m:=Yi (eC (kE x.2.2.2.2++nG x.2.2.2.1)) (λp v=>d p (bbq _ p v));have H:=Vg x.2.1;have t:=wX x.1;unfold ary;rw [bbx _ C,aX];cases r:(dW x.2.1).2 with
 |false=>rw [nS x (λh=>by rw [r]at h;exact absurd h.1 aA1)];rfl
 |true=>
  rw [iN,aH,sn _ bJ,aX];cases q:eP x.1 with
  |false=>rw [nS x (λh=>by rw [q]at h;exact absurd h.2.1 aA1)];rfl
  |true=>
   rw [iN,aH];by_cases c:x.2.2.1<0
   ·rw [aB c,aX,aQ,nS x (by rintro⟨_,_,h,_⟩;omega)]
   by_cases e:65535<x.2.2.1
   ·rw [aA c,aK e,aX,aQ,nS x (by rintro⟨_,_,_,h,_⟩;omega)]
   have n:=et x bJ x.2.2.2.2 [] FU rfl aA6;have i:ajd FU x FU ([]:List PP) (0:Int)=δ (kE x.2.2.2.2):=n;rw [aA c,aL e,aX,aH,i,aX];have E:(if x.2.2.2.1=([]:aC)then δ (kE x.2.2.2.2)else(gd ((γ (kE x.2.2.2.2)+γ ([(([98,114,97,110,99,104]:aC),x.2.2.2.1,ζ)]:List PP))*40<=140737488355328)<|some (kE x.2.2.2.2++([(([98,114,97,110,99,104]:aC),x.2.2.2.1,ζ)]:List PP))))=δ (kE x.2.2.2.2++nG x.2.2.2.1):=by
    unfold nG;by_cases a:x.2.2.2.1=[]
    ·rw [aB a,aB a,fI]
    ·rw [aA a,aA a,aU aA4];rfl
   rw [E,aX];have o:=UN (kE x.2.2.2.2++nG x.2.2.2.1) bJ d;have b:=Dy x;have g:=nS x;generalize kE x.2.2.2.2++nG x.2.2.2.1=l at o m b g⊢;have key:∀f:aC×UInt8->Option (aC×UInt8),((WJ FU l).bind λ(y:List PP)=>((WL FU y).bind f))=f (iV (eC l)):=by
    intro f;have:((WJ FU l).bind λ(y:List PP)=>((WL FU y).bind f))=((WJ FU l).bind λy=>WL FU y).bind f:=by cases WJ FU l<;>rfl
    rw [this,o];rfl
   rw [key];by_cases k:(iV (eC l)).2=0
   ·have G:=WE x.2.2.1 bJ bJ;have D:(if x.2.2.1=(0:Int)then δ (dW x.2.1).1 else(gd (acl x.2.2.1)<|(gd (γ ([58]:aC)+γ (dU x.2.2.1)<=9223372036854775807)<|(gd (γ (dW x.2.1).1+γ (([58]:aC)++(dU x.2.2.1))<=9223372036854775807)<|some ((dW x.2.1).1++(([58]:aC)++(dU x.2.2.1)))))))=δ (Sq (dW x.2.1).1 x.2.2.1):=by
     unfold Sq;by_cases j:x.2.2.1=0
     ·rw [aB j,aB j]
     ·rw [aA j,aA j,aU (cZ _ bJ bJ),aU aA4,aU aA4]
    have u:γ (Sq (dW x.2.1).1 x.2.2.1)<=γ (dW x.2.1).1+6:=by
     unfold Sq;split
     ·omega
     ·simp;omega
    rw [aB k,D,aX,Ko _ bJ,aX,aU aA4,aU aA4,aU aA4,aU aA4,b ⟨r,q,aA0,aA0,k⟩];rfl
   ·rw [aA k,g (λh=>k h.2.2.2.2)]
theorem EY(l:aC)(c:UInt8):decide ((0:Int)<=dP (·==c) l)=jR l c:=EX l c
theorem Oc(c:UInt8)(k:Int)(h:k=0\/k=1\/k=2):aom FU c k=δ (Od c k):=by
 unfold aom;rw [Wr,aX];have a:∀b:Bool,Od c k=(b||jR (LC k) c)->((δ b).bind λ(e:Bool)=>(bif e then δ ζ else(((if(0:Int)<=k then(if k<=(2:Int)then(gd (0<=k/\k<(3:Int))<|(gd (0<=k/\k<(γ z7:Int))<|some (decide ((0:Int)<=(dP (·==c) (el z7 k))))))else δ η)else δ η)).bind λ(d:Bool)=>δ d)))=δ (Od c k):=by
  intro b j;rw [j,aX];cases b with
  |true=>rfl
  |false=>
   have l:(γ z7:Int)=3:=rfl;have i:el z7 k=LC k:=by rcases h with rfl|rfl|rfl<;>rfl
   rw [aH,aB aA0,aB aA0,aU aA0,aU aA0,i,EY];rfl
 cases f:uT c with
 |true=>rw [aQ];exact a ζ (by unfold Od;rw [f];rfl)
 |false=>
  rw [aH,tT,aX];cases g:hK c with
  |true=>rw [aQ];exact a ζ (by unfold Od;rw [f,g];rfl)
  |false=>rw [aH,EY];exact a _ (by unfold Od;rw [f,g];rfl)
def hx(c:UInt8):UInt8:=((tf FU c).getD (0,η)).1
theorem QA:∀c:UInt8,tf FU c=δ (hx c,kL c):=dS _ aA3
theorem qk:∀c:UInt8,(hx c).toNat<16:=dS _ aA3
theorem vk:∀a b:Fin 16,(SU (uF a.val) (4:Int))|||uF b.val=uF (16*a.val+b.val):=aA3
def esV(a b:UInt8):UInt8:=uF (16*(hx a).toNat+(hx b).toNat)
theorem cp(a b:UInt8):(SU (hx a) (4:Int))|||hx b=esV a b:=by have:=vk ⟨(hx a).toNat,qk a⟩ ⟨(hx b).toNat,qk b⟩;simp only [UInt8.ofNat_toNat]at this;exact this
def Fo(l:aC):Option UInt8:=if 2<γ l/\at_ l 0=37/\kL (at_ l 1)=ζ/\kL (at_ l 2)=ζ then δ (esV (at_ l 1) (at_ l 2))else ε
theorem qH(s:aC)(i:Nat)(j:Nat):at_ (s.drop i) (j:Int)=at_ s ((i+j:Nat):Int):=by simp only [at_,iO,bQ,bZ]
theorem GL(s:aC)(m:γ s<=4194304)(i:Nat)(n:i<γ s):∃v,aml FU s (i:Int)=δ (v,(Fo (s.drop i)).isSome)/\((Fo (s.drop i)).isSome=ζ->Fo (s.drop i)=δ v):=by
 have e:=qH s i 0;have l:=qH s i 1;have k:=qH s i 2;have j:(i:Int)+1=((i+1:Nat):Int):=rfl;have g:(i:Int)+2=((i+2:Nat):Int):=rfl;have f:γ (s.drop i)=γ s-i:=gZ;rw [BG]at e;have d:at_ (s.drop i) 0=at_ s (i:Int):=e;have c:at_ (s.drop i) 1=at_ s ((i+1:Nat):Int):=l;have b:at_ (s.drop i) 2=at_ s ((i+2:Nat):Int):=k;unfold aml Fo;rw [aU (cZ _ aA0 aA0),j,g,f,d,c,b];by_cases q:γ s<=i+2
 ·rw [aB aA0,aX,aQ,aA aA0];exact⟨0,rfl,λh=>absurd h aA1⟩
 ·rw [aA aA0,aU aA0,aX];by_cases a:at_ s (i:Int)=37
  ·rw [aK a,iN,aH,aU (cZ _ aA0 aA0),aU aA0,QA,aX,aU (cZ _ aA0 aA0),aU aA0,QA,aX,cp];cases p:kL (at_ s ((i+1:Nat):Int))with
   |false=>rw [aH,aX,aA (λh=>absurd h.2.2.1 aA1)];exact⟨_,rfl,λh=>absurd h aA1⟩
   |true=>
    rw [aQ,aX];cases o:kL (at_ s ((i+2:Nat):Int))with
    |false=>rw [aA (λh=>absurd h.2.2.2 aA1)];exact⟨_,rfl,λh=>absurd h aA1⟩
    |true=>rw [aB ⟨aA0,a,rfl,rfl⟩];exact⟨_,rfl,λ_=>rfl⟩
  ·rw [aL a,yX,aQ,aA (λh=>a h.2.1)];exact⟨0,rfl,λh=>absurd h aA1⟩
def nC(k:Int):Nat->aC->Option Nat
 |0,_=>ε
 |f+1,l=>if l=[]then ε else if Od (at_ l 0) k=ζ then(nC k f (l.drop 1)).map (·+1)
  else match Fo l with
   |some v=>if eO v=ζ then δ 0 else(nC k f (l.drop 3)).map (·+3)
   |none=>δ 0
def tM(k:Int):Nat->aC->aC
 |0,_=>[]
 |f+1,l=>if l=[]then []else if Od (at_ l 0) k=ζ then at_ l 0::tM k f (l.drop 1)
  else match Fo l with
   |some v=>v::tM k f (l.drop 3)
   |none=>[]
def vR(k:Int)(l:aC):Option Nat:=nC k (γ l+1) l
def rT(k:Int)(l:aC):aC:=tM k (γ l+1) l
theorem qi(k:Int)(a:k=0\/k=1\/k=2):Od 37 k=η:=by rcases a with rfl|rfl|rfl<;>decide
variable {T:aC}
theorem Fl{v:UInt8}(h:Fo T=δ v):2<γ T/\at_ T 0=37:=by
 unfold Fo at h;split at h
 ·rename_i a;exact⟨a.1,a.2.1⟩
 ·cases h
theorem yB(c:UInt8):asc FU c=δ (eO c):=by revert c;exact dS _ aA3
theorem YP(s:aC)(t:Int)(e:Nat)(D:γ s<=4194304)(E:e<=γ s)(k:Int)(x:k=0\/k=1\/k=2)(n:Nat):∀(i a f:Nat),e-i<=n->n<a->i<=e->e-i<f->
  aia FU (s,t) (e:Int) k a (i:Int)=δ (match nC k f ((s.take e).drop i)with|none=>.inl ()|some j=>.inr (((i+j:Nat):Int),ζ)):=by
 induction n with
 |zero=>intro i a f y z g l;obtain⟨a,rfl⟩:=cS a;obtain⟨f,rfl⟩:∃m,f=m+1:=⟨f-1,aA0⟩;rw [akf,aff,aA aA0,nC,aB (af aC4)]
 |succ n p=>
  intro i a f y z g l;obtain⟨a,rfl⟩:=cS a;obtain⟨f,rfl⟩:∃m,f=m+1:=⟨f-1,aA0⟩;by_cases d:i<e
  ·have b:γ ((s.take e).drop i)=e-i:=by rw [gZ,kX];omega
   have c:¬(s.take e).drop i=[]:=λh=>by rw [h]at b;simp at b;omega
   have kV:at_ ((s.take e).drop i) 0=at_ s (i:Int):=by have:=qH (s.take e) i 0;rw [BG]at this;rw [show at_ ((s.take e).drop i) 0=at_ (s.take e) (i:Int)from this];simp only [at_,iO,bQ];rw [List.getElem?_take_of_lt d]
   have d1:((s.take e).drop i).drop 1=(s.take e).drop (i+1):=by rw [MJ]
   have d3:((s.take e).drop i).drop 3=(s.take e).drop (i+3):=by rw [MJ]
   rw [akf,aff,aB aA0,aU (show 0<=(i:Int)/\(i:Int)<(γ s:Int)by omega),Oc _ k x,aX,nC,aA c,kV];cases F:Od (at_ s (i:Int)) k with
   |true=>
    rw [aQ,aU (cZ _ aA0 aA0),Su,p (i+1) a f aA0 aA0 aA0 aA0,aB rfl,d1];cases nC k f ((s.take e).drop (i+1))with
    |none=>rfl
    |some j=>
     show δ (Sum.inr _)=δ (Sum.inr _);congr 3;try dsimp only
     omega
   |false=>
    have u:γ (s.take e)=e:=aC4;obtain⟨v,B,r⟩:=GL (s.take e) aA0 i aA0;rw [aH,aU (show 0<=(e:Int)/\(e:Int)<=(γ s:Int)by omega),iO,B,aX,aA (show¬(η=ζ)by decide)];cases q:Fo ((s.take e).drop i)with
    |none=>simp only [Option.isSome_none,yX,aQ,aX];congr 3
    |some o=>
     rw [q]at r;obtain rfl:o=v:=by have:=r rfl;simpa using this
     have w:=(Fl q).1;simp only [Option.isSome_some,iN,aH];rw [yB,aX,aX];cases A:eO o with
     |true=>rw [aQ,aB rfl];rfl
     |false=>
      rw [aH,aU (cZ _ aA0 aA0),aU (cZ _ aA0 aA0),aA (show¬(η=ζ)by decide),d3];have C:(i:Int)+2+1=((i+3:Nat):Int):=aA0;rw [C,p (i+3) a f aA0 aA0 aA0 aA0];cases nC k f ((s.take e).drop (i+3))with
      |none=>rfl
      |some j=>
       show δ (Sum.inr _)=δ (Sum.inr _);congr 3;try dsimp only
       omega
  ·rw [akf,aff,aA aA0,nC,aB (af aC4)]
theorem Kk(s:aC)(d:γ s<=4194304)(i e:Nat)(c:i<=e)(g:e<=γ s)(k:Int)(f:k=0\/k=1\/k=2):
  afq FU (s,(i:Int)) (e:Int) k=δ (match vR k (sub s (i:Int) (e:Int))with|none=>((0:Int),η)|some j=>(((i+j:Nat):Int),ζ)):=by
 have a:sub s (i:Int) (e:Int)=(s.take e).drop i:=by unfold sub;rw [iO,iO,Y6]
 have b:γ ((s.take e).drop i)=e-i:=by rw [gZ,kX];omega
 have:=YP s (i:Int) e d g k f (e-i) i FU (γ (sub s (i:Int) (e:Int))+1) (eK _) aA6 c (by rw [a,b];omega);unfold afq;simp only;rw [this,aX,<-a];unfold vR;cases nC k (γ (sub s (i:Int) (e:Int))+1) (sub s (i:Int) (e:Int))<;>rfl
theorem ZL(s:aC)(A:γ s<=4194304)(k:Int)(C:k=0\/k=1\/k=2)(n:Nat):∀(i c f:Nat) (b:aC),γ s-i<=n->n<c->i<=γ s->γ s-i<f->γ b<=i->nC k f (s.drop i)=ε->
  aih FU s c b (i:Int)=δ (.inl (b++tM k f (s.drop i))):=by
 induction n with
 |zero=>intro i c f b D E t u F a;obtain⟨c,rfl⟩:=cS c;obtain⟨f,rfl⟩:∃m,f=m+1:=⟨f-1,aA0⟩;rw [aop,ahq,aA aA0,tM,aB (af aA0),fI]
 |succ n w=>
  intro i c f b D E t u F a;obtain⟨c,rfl⟩:=cS c;obtain⟨f,rfl⟩:∃m,f=m+1:=⟨f-1,aA0⟩;by_cases r:i<γ s
  ·have g:0<=(i:Int)/\(i:Int)<(γ s:Int):=by omega
   have d:γ (s.drop i)=γ s-i:=gZ;have l:¬s.drop i=[]:=λh=>by rw [h]at d;simp at d;omega
   have kV:at_ (s.drop i) 0=at_ s (i:Int):=by have:=qH s i 0;rw [BG]at this;exact this
   have d1:(s.drop i).drop 1=s.drop (i+1):=by rw [MJ]
   have d3:(s.drop i).drop 3=s.drop (i+3):=by rw [MJ]
   rw [nC,aA l,kV]at a;rw [aop,ahq,aB g.2,aU g,tM,aA l,kV];by_cases p:Od (at_ s (i:Int)) k=ζ
   ·have j:¬at_ s (i:Int)=37:=λe=>by rw [e,qi k C]at p;cases p
    rw [aB p,uA,d1]at a;rw [aA j,aU g,aU aB0,aU (cZ _ aA0 aA0),Su,w (i+1) c f _ aA0 aA0 aA0 aA0 aB2 a,aB p,d1];simp
   ·rw [aA p]at a⊢;cases q:Fo (s.drop i)with
    |none=>rw [q]at a;cases a
    |some v=>
     rw [q]at a;simp only at a;have B:=(Fl q).1;have j:at_ s (i:Int)=37:=by rw [<-kV];exact(Fl q).2
     obtain⟨z,y,x⟩:=GL s A i r;rw [q]at y x;obtain rfl:v=z:=by have:=x rfl;simpa using this
     by_cases o:eO v=ζ
     ·rw [aB o]at a;cases a
     ·rw [aA o,uA,d3]at a;have G:(i:Int)+2+1=((i+3:Nat):Int):=by omega
      rw [aB j,y,aX];simp only [Option.isSome_some,iN,aH];rw [aU aB0,aU (cZ _ aA0 aA0),aU (cZ _ aA0 aA0),G,w (i+3) c f _ aA0 aA0 aA0 aA0 aB2 a,d3];simp
  ·rw [aop,ahq,aA aA0,tM,aB (af aA0),fI]
theorem xT(s:aC)(c:γ s<=4194304)(k:Int)(d:k=0\/k=1\/k=2)(b:vR k s=ε):akr FU s=δ (rT k s):=by have:=ZL s c k d (γ s) 0 FU (γ s+1) [] aA0 aA6 aA0 aA0 aA2 (by rw [WV];exact b);have a:aih FU s FU ([]:List UInt8) (0:Int)=_:=this;unfold akr avi;rw [O5 aA0,a,aX,yR,aX,vX,WV];rfl
open Go.Lib renaming indexAny → Dc
def cM(st:aC)(s:aC)(i:Nat):Nat:=i+dN (λc=> !jR st c) (s.drop i)
theorem kH(st s:aC)(i:Nat):i<=cM st s i:=Nat.le_add_right _ _
theorem QZ(st s:aC)(i:Nat)(a:i<=γ s):cM st s i<=γ s:=by have:=ID (λc=> !jR st c) (s.drop i);rw [gZ]at this;unfold cM;omega
theorem Sk(st:aC):(λc=>st.contains c)=jR st:=by funext c;unfold jR;rw [List.contains_eq_any_beq];congr 1;funext b;exact Bool.beq_comm
theorem ly(s:aC)(k:γ s<=4194304)(i:Nat)(l:i<=γ s)(st:aC)(j:γ st<=1000)(h:st.all (λb=>decide (b.toNat<128))=ζ):AS FU s (i:Int) st=δ ((cM st s i:Nat):Int):=by
 have f:γ (s.drop i)=γ s-i:=gZ;have a:=lx (jR st) (s.drop i);have c:Dc (s.drop i) st=dP (jR st) (s.drop i):=by rw [att,Sk]
 unfold AS cM;rw [aU aA0,iO,aU ⟨aA0,j,h⟩,c];rcases a with⟨e,d⟩|⟨e,d,g⟩
 ·rw [aA aA0,d,f];congr 1;try dsimp only
  omega
 ·rw [aB e,aU (cZ _ aA0 aA0),g];rfl
theorem BU(st s:aC)(i:Nat)(f:i<=γ s)(h:cM st s i<γ s):jR st (at_ s ((cM st s i:Nat):Int))=ζ:=by
 have g:γ (s.drop i)=γ s-i:=gZ;have key:∀l:aC,dN (λc=> !jR st c) l<γ l->jR st (at_ l (dN (λc=> !jR st c) l:Int))=ζ:=by
  intro l;induction l with
  |nil=>intro h;simp at h
  |cons a l d=>
   intro h;cases b:jR st a with
   |true=>have e:dN (λc=> !jR st c) (a::l)=0:=pR _ a l (by simp [b]);rw [e];exact b
   |false=>
    have e:dN (λc=> !jR st c) (a::l)=dN (λc=> !jR st c) l+1:=by rw [dN,aB (by simp [b])]
    rw [e]at h⊢;have:=d (by simp only [bX]at h;omega);simpa [at_] using this
 unfold cM at h⊢;have:=key (s.drop i) aA0;rw [qH]at this;exact this
theorem tS(k:Int):∀(f:Nat) (l:aC) (j:Nat),nC k f l=δ j->j<γ l
 |0,_,_,h=>by cases h
 |f+1,l,j,h=>by
  rw [nC]at h;by_cases a:l=[]
  ·rw [aB a]at h;cases h
  ·have b:=bK.2 a;rw [aA a]at h;split at h
   ·rw [Z1]at h;obtain⟨x,hx,rfl⟩:=h;have:=tS k f _ x hx;rw [gZ]at this;omega
   ·split at h
    ·rename_i v c;split at h
     ·rw [aW]at h;omega
     ·rw [Z1]at h;obtain⟨x,hx,rfl⟩:=h;have:=tS k f _ x hx;rw [gZ]at this;omega
    ·rw [aW]at h;omega
theorem Pl(k:Int):∀(f:Nat) (l:aC),γ (tM k f l)<=γ l
 |0,_=>by simp [tM]
 |f+1,l=>by
  rw [tM];by_cases a:l=[]
  ·rw [aB a];simp
  ·have b:=bK.2 a;rw [aA a];split
   ·have:=Pl k f (l.drop 1);rw [gZ]at this;rw [bX];omega
   ·split
    ·have:=Pl k f (l.drop 3);rw [gZ]at this;rw [bX];omega
    ·simp
theorem Bx(k:Int)(l:aC):γ (rT k l)<=γ l:=Pl k _ l
theorem Bw(k:Int)(l:aC)(a:vR k l=ε):rT k l=[]↔l=[]:=by
 unfold rT vR at*;rw [tM];rw [nC]at a;by_cases b:l=[]
 ·rw [aB b];simp [b]
 ·rw [aA b]at a⊢;constructor
  ·intro h;exfalso;split at h
   ·cases h
   ·rename_i c;rw [aA c]at a;split at h
    ·cases h
    ·rename_i d;rw [d]at a;cases a
  ·intro h;exact absurd h b
abbrev UU:=aC×aC×aC×Int×List PP×List PP
def Hz(U:aC):UInt8×aC:=match vR 0 U with|some j=>(if at_ U j=58 then 15 else 5,[])|none=>if U=[]then(5,[])else(0,rT 0 U)
theorem utl1(b:UInt8)(s:aC)(i:Nat):cM [b] s i=i+dN (λc=> !(c==b)) (s.drop i):=by
 have e:(λc=> !jR [b] c)=(λc=> !(c==b)):=by funext c;unfold jR;rw [Re,uD,eE,Bool.beq_comm]
 unfold cM;rw [e]
def jY(s:aC)(i:Nat):Nat:=if fJ s i 91=ζ then min (cM [93] s i+1) (γ s) else cM [58,59,63] s i
def Ra (s : aC) (i : Nat) : UInt8 × aC × Int × Nat :=
  if (dW (sub s (i : Int) (jY s i : Int))).2 = η then (5, [], 0, 0)
  else if fJ s (jY s i) 58 = ζ then
    (if (kT (sub s ((jY s i + 1 : Nat) : Int) (cM [59, 63] s (jY s i + 1) : Int))).2 = 0 then (0, (dW (sub s (i : Int) (jY s i : Int))).1, (kT (sub s ((jY s i + 1 : Nat) : Int) (cM [59, 63] s (jY s i + 1) : Int))).1, cM [59, 63] s (jY s i + 1))
     else ((kT (sub s ((jY s i + 1 : Nat) : Int) (cM [59, 63] s (jY s i + 1) : Int))).2, [], 0, 0))
  else if jY s i < γ s /\ fJ s (jY s i) 59 = η /\ fJ s (jY s i) 63 = η then (5, [], 0, 0)
  else (0, (dW (sub s (i : Int) (jY s i : Int))).1, 0, jY s i)
theorem QD(s:aC)(i:Nat)(a:i<=γ s):i<=jY s i/\jY s i<=γ s:=by
 have e:=kH [93] s i;have d:=QZ [93] s i a;have c:=kH [58,59,63] s i;have b:=QZ [58,59,63] s i a;unfold jY;split
 ·rename_i h;have:=(Qh h).1;omega
 ·omega
def xF(s:aC)(i:Nat):UInt8×aC×(aC×Int×Nat):=
 if cM [64] s i<γ s then
  (if(Hz (sub s (i:Int) (cM [64] s i:Int))).1=0 then((Ra s (cM [64] s i+1)).1,(Hz (sub s (i:Int) (cM [64] s i:Int))).2,(Ra s (cM [64] s i+1)).2)else((Hz (sub s (i:Int) (cM [64] s i:Int))).1,[],[],0,0))
 else((Ra s i).1,[],(Ra s i).2)
theorem RN(s:aC)(D:γ s<=4194304)(i:Nat)(B:i<=γ s)(j r:aC):∃a c u,0<=a/\a<=5000000/\((AS FU s (i:Int) ([58,59,63]:aC)).bind λ(C:Int)=>((((Ir FU (s,(i:Int)) (91:UInt8)).bind λ(p:Bool)=>(bif p then((AS FU s (i:Int) ([93]:aC)).bind λ(k:Int)=>(gd (acl (k+(1:Int)))<|some (min (k+(1:Int)) (γ s:Int))))else δ C))).bind λ(b:Int)=>(gd (0<=(i:Int)/\(i:Int)<=b/\b<=(γ s:Int))<|((aa FU (sub s (i:Int) b)).bind λ(f:(aC×Bool))=>(bif (!f.2)then δ ((i:Int),(5:UInt8),(s,(i:Int)),((j,r,([]:aC),(0:Int),([]:List PP),([]:List PP)):UU))else((Ir FU (s,b) (58:UInt8)).bind λ(t:Bool)=>(bif t then(gd (acl (b+(1:Int)))<|((AS FU s (b+(1:Int)) ([59,63]:aC)).bind λ(g:Int)=>(gd (0<=(b+(1:Int))/\(b+(1:Int))<=g/\g<=(γ s:Int))<|((tb FU (sub s (b+(1:Int)) g)).bind λ(d:(Int×UInt8))=>(((((if d.2=(0:UInt8)then(if d.1<(1:Int)then δ ζ else δ (decide ((65535:Int)<d.1)))else δ η)).bind λ(w:Bool)=>(bif w then δ (3:UInt8)else δ d.2))).bind λ(o:UInt8)=>(if o=(0:UInt8)then δ ((0:Int),(0:UInt8),(s,g),((j,r,f.1,d.1,([]:List PP),([]:List PP)):UU))else δ (b+(1:Int),o,(s,b+(1:Int)),((j,r,f.1,(0:Int),([]:List PP),([]:List PP)):UU))))))))else((((tj FU (s,b)).bind λ(n:Bool)=>(bif (!n)then((Ir FU (s,b) (59:UInt8)).bind λ(m:Bool)=>(bif (!m)then((Ir FU (s,b) (63:UInt8)).bind λ(l:Bool)=>δ (!l))else δ η))else δ η))).bind λ(v:Bool)=>(bif v then δ (b,(5:UInt8),(s,b),((j,r,f.1,(0:Int),([]:List PP),([]:List PP)):UU))else δ ((0:Int),(0:UInt8),(s,b),((j,r,f.1,(0:Int),([]:List PP),([]:List PP)):UU)))))))))))
  =δ (a,(Ra s i).1,c,u)/\((Ra s i).1=0->c=(s,((Ra s i).2.2.2:Int))/\u=(j,r,(Ra s i).2.1,(Ra s i).2.2.1,[],[])):=by
 have H:=QD s i B;have M:((if fJ s i 91=ζ then δ ((min (cM [93] s i+1) (γ s):Nat):Int)else δ ((cM [58,59,63] s i:Nat):Int)))=δ ((jY s i:Nat):Int):=by unfold jY;split<;>rfl
 have L:((Ir FU (s,(i:Int)) (91:UInt8)).bind λ(p:Bool)=>(bif p then((AS FU s (i:Int) ([93]:aC)).bind λ(k:Int)=>(gd (acl (k+(1:Int)))<|some (min (k+(1:Int)) (γ s:Int))))else δ ((cM [58,59,63] s i:Nat):Int)))=δ ((jY s i:Nat):Int):=by
  have N:=QZ [93] s i B;rw [IC,aX,<-M];cases fJ s i 91 with
  |false=>rfl
  |true=>
   rw [aQ,ly s D i B _ aA1 aA1,aX,aU (cZ _ aA0 aA0),aB rfl];congr 1;try dsimp only
   omega
 rw [ly s D i B _ aA1 aA1,aX,L,aX];unfold Ra;generalize jY s i=e at H⊢;rw [aU aA0,bbx _ aD0,aX];cases O:(dW (sub s (i:Int) (e:Int))).2 with
 |false=>exact⟨_,_,_,aA0,aA0,rfl,λh=>by rw [aB rfl]at h;exact absurd h aA1⟩
 |true=>
  rw [iN,aH,aA (show¬(ζ=η)by decide),IC,aX];cases E:fJ s e 58 with
  |true=>
   have y:=(Qh E).1;have G:=kH [59,63] s (e+1);have F:=QZ [59,63] s (e+1) y;rw [aQ,aB rfl,aU (cZ _ aA0 aA0),Su,ly s D (e+1) y _ aA1 aA1,aX,aU aA0,uR,aX,OJ,aX];unfold kT;generalize hZ (sub s ((e+1:Nat):Int) ((cM [59,63] s (e+1):Nat):Int))=q;by_cases A:q.2=0/\(q.1<1\/65535<q.1)
   ·rw [aB A,aB A,aA aA1,aA aA1];exact⟨_,_,_,aA0,aA0,rfl,λh=>absurd h aA1⟩
   ·rw [aA A,aA A];by_cases z:q.2=0
    ·rw [aB z,aB z];exact⟨_,_,_,aA0,aA0,rfl,λ_=>⟨rfl,rfl⟩⟩
    ·rw [aA z,aA z];exact⟨_,_,_,aA0,aA0,rfl,λh=>absurd h z⟩
  |false=>
   have K:((tj FU (s,(e:Int))).bind λ(n:Bool)=>(bif (!n)then((Ir FU (s,(e:Int)) (59:UInt8)).bind λ(m:Bool)=>(bif (!m)then((Ir FU (s,(e:Int)) (63:UInt8)).bind λ(l:Bool)=>δ (!l))else δ η))else δ η))=δ (decide (e<γ s/\fJ s e 59=η/\fJ s e 63=η)):=by
    rw [oP,aX];by_cases x:e<γ s
    ·rw [aL (show¬(γ s:Int)<=(e:Int)by omega),yX,aQ,IC,aX];cases J:fJ s e 59 with
     |true=>rw [aL (by rintro⟨_,h,_⟩;cases h)];rfl
     |false=>
      rw [yX,aQ,IC,aX];cases I:fJ s e 63 with
      |true=>rw [aL (by rintro⟨_,_,h⟩;cases h)];rfl
      |false=>rw [aK ⟨x,rfl,rfl⟩];rfl
    ·rw [aK (show(γ s:Int)<=(e:Int)by omega),aL (λh=>x h.1)];rfl
   rw [aH,aA (show¬(η=ζ)by decide),K,aX];by_cases hx:e<γ s/\fJ s e 59=η/\fJ s e 63=η
   ·rw [aK hx,aQ,aB hx];exact⟨_,_,_,aA0,aA0,rfl,λh=>absurd h aA1⟩
   ·rw [aL hx,aH,aA hx];exact⟨_,_,_,aA0,aA0,rfl,λ_=>⟨rfl,rfl⟩⟩
theorem G0(s:aC)(z:γ s<=4194303)(i:Nat)(v:i<=γ s)(b:aC):∃a c u,0<=a/\a<=5000000/\ali FU (s,(i:Int)) (b,[],[],0,[],[])=δ (a,(xF s i).1,c,u)/\((xF s i).1=0->c=(s,((xF s i).2.2.2.2:Int))/\u=(b,(xF s i).2.1,(xF s i).2.2.1,(xF s i).2.2.2.1,[],[])):=by
 have A:γ (s.drop i)=γ s-i:=gZ;have g:=lx (·==(64:UInt8)) (s.drop i);have r:=utl1 64 s i;unfold ali xF;simp only;rw [aU aA0,iO];rcases g with⟨p,x⟩|⟨p,x,w⟩
 ·have f:¬cM [64] s i<γ s:=by omega
  rw [aA aA0,aX,yR,aA f];exact RN s aA0 i v b []
 ·have y:(i:Int)+dP (·==(64:UInt8)) (s.drop i)=((cM [64] s i:Nat):Int):=by rw [w,r];rfl
  have l:cM [64] s i<γ s:=aA0;have m:=kH [64] s i;have q:(dP (·==(64:UInt8)) (s.drop i)=0)↔cM [64] s i=i:=aA0;rw [aB p,y,aU (cZ _ aA0 aA0),aB l,Kk s aA0 i _ m aA0 0 (.inl rfl),aX];have e:γ (sub s (i:Int) (cM [64] s i:Int))=cM [64] s i-i:=aD0;unfold Hz;cases o:vR 0 (sub s (i:Int) (cM [64] s i:Int))with
  |some j=>
   have t:j<cM [64] s i-i:=by have:=tS 0 _ _ j o;omega
   have kV:at_ s ((i+j:Nat):Int)=at_ (sub s (i:Int) (cM [64] s i:Int)) (j:Int):=by unfold sub;rw [iO,iO];have:=qH s i j;rw [<-this];simp only [at_,iO,bQ];rw [List.getElem?_take_of_lt t]
   simp only;rw [aQ,aU aA0,kV];by_cases d:at_ (sub s (i:Int) (cM [64] s i:Int)) (j:Int)=58
   ·rw [aB d,aB d,aX,eF,aA aA1];exact⟨_,_,_,aA0,aA0,rfl,λh=>absurd h aA1⟩
   ·rw [aA d,aA d,aX,eF,aA aA1];exact⟨_,_,_,aA0,aA0,rfl,λh=>absurd h aA1⟩
  |none=>
   simp only;rw [aH];by_cases n:cM [64] s i=i
   ·have k:sub s (i:Int) (cM [64] s i:Int)=[]:=by apply vJ;omega
    rw [aB (q.2 n),aB k,aX,eF,aA aA1];exact⟨_,_,_,aA0,aA0,rfl,λh=>absurd h aA1⟩
   ·have k:¬sub s (i:Int) (cM [64] s i:Int)=[]:=λh=>by rw [h]at e;simp at e;omega
    rw [aA (λh=>n (q.1 h)),aA k,aU aA0,xT _ aA0 0 (.inl rfl) o,aX,aU (cZ _ aA0 aA0),aX,yR,Su,aB rfl];exact RN s aA0 _ aA0 b _
theorem ZY(s:aC)(i e n:Nat)(h:i+n<=e):sub s (i:Int) ((i+n:Nat):Int)=(sub s (i:Int) (e:Int)).take n:=by
 unfold sub;simp only [iO];rw [uC];congr 1;try dsimp only
 omega
theorem SM(s:aC)(i e n:Nat):sub s ((i+n+1:Nat):Int) (e:Int)=(sub s (i:Int) (e:Int)).drop (n+1):=by
 unfold sub;simp only [iO];rw [Y6,MJ];congr 1;try dsimp only
 omega
def kP(T:aC):Nat:=dN (λc=> !(c==61)) T
def iH(k:Int)(l:List PP)(T:aC):UInt8×PP:=
 match vR k (T.take (kP T))with
 |some _=>(5,([],[],η))
 |none=>if kP T=0 then(5,([],[],η))else if kP T<γ T then
   (match vR k (T.drop (kP T+1))with
   |some _=>(5,([],[],η))
   |none=>if T.drop (kP T+1)=[]/\k=1 then(5,([],[],η))else(Hq l (dR (rT k (T.take (kP T)))),(dR (rT k (T.take (kP T))),rT k (T.drop (kP T+1)),ζ)))
  else if k=2 then(5,([],[],η))else(Hq l (dR (rT k (T.take (kP T)))),(dR (rT k (T.take (kP T))),[],η))
theorem GJ(s:aC)(N:γ s<=4194303)(i e:Nat)(I:i<=e)(P:e<=γ s)(l:List PP)(O:γ l<=16)(k:Int)(H:k=1\/k=2):
  ∃l' a c,0<=a/\a<=5000000/\aig FU (s,(i:Int)) l (e:Int) k=δ (l',a,(iH k l (sub s (i:Int) (e:Int))).1,c)/\
   ((iH k l (sub s (i:Int) (e:Int))).1=0->l'=l++[(iH k l (sub s (i:Int) (e:Int))).2]/\c=(s,(e:Int))):=by
 have f:k=0\/k=1\/k=2:=.inr H;have L:γ (sub s (i:Int) (e:Int))=e-i:=aD0;have r:=λn h=>ZY s i e n h;have t:=λn=>SM s i e n
 have b:∀(nm v:aC) (h:Bool),∃l' a c,0<=a/\a<=5000000/\((aqh FU l nm).bind λ(g:UInt8)=>(if g=(0:UInt8)then(gd ((γ l+γ ([(nm,v,h)]:List PP))*40<=140737488355328)<|some (l++([(nm,v,h)]:List PP),(0:Int),(0:UInt8),(s,(e:Int))))else δ (([]:List PP),(i:Int),g,(s,(e:Int)))))=δ (l',a,Hq l nm,c)/\(Hq l nm=0->l'=l++[(nm,v,h)]/\c=(s,(e:Int))):=by
  intro nm v h;rw [NR l aA0,aX];by_cases q:Hq l nm=0
  ·rw [aB q,aU aB4,q];exact⟨_,_,_,aA0,aA0,rfl,λ_=>⟨rfl,rfl⟩⟩
  ·rw [aA q];exact⟨_,_,_,aA0,aA0,rfl,λh=>absurd h q⟩
 unfold aig;simp only;rw [aU aA0];generalize K:sub s (i:Int) (e:Int)=T at L r t⊢;have G:kP T<=γ T:=ID _ _;have u:=lx (·==(61:UInt8)) T;have D:(if(0:Int)<=(dP (·==(61:UInt8)) T)then(gd (acl ((i:Int)+(dP (·==(61:UInt8)) T)))<|some ((i:Int)+(dP (·==(61:UInt8)) T)))else δ (e:Int))=δ ((i+kP T:Nat):Int):=by
  unfold kP at G⊢;rcases u with⟨z,o⟩|⟨z,o,M⟩
  ·rw [aA aA0];congr 1;omega
  ·rw [aB z,aU (cZ _ aA0 aA0)];congr 1;omega
 have m:(0:Int)<=dP (·==(61:UInt8)) T↔kP T<γ T:=by unfold kP;rcases u with⟨z,o⟩|⟨z,o,M⟩<;>constructor<;>intro h<;>omega
 rw [D,aX,Kk s aA0 i (i+kP T) aA0 aA0 k f,aX,r (kP T) aA0];unfold iH;cases F:vR k (T.take (kP T))with
 |some j=>have B:=tS _ _ _ j F;rw [kX]at B;simp only;rw [aQ];exact⟨_,_,_,aA0,aA0,rfl,λh=>absurd h aA1⟩
 |none=>
  simp only;rw [aH];by_cases q:kP T=0
  ·rw [aB aA0,aB q];exact⟨_,_,_,aA0,aA0,rfl,λh=>absurd h aA1⟩
  ·have A:γ (T.take (kP T))<=4194304:=by rw [kX];omega
   have J:=Bx k (T.take (kP T));rw [aA aA0,aA q,aU aA0,xT _ A k f F,aX,z6 _ aA0,aX];by_cases d:kP T<γ T
   ·have p:(0:Int)<=dP (·==(61:UInt8)) T:=m.2 d;rw [aB d];simp only [p,decide_true,iL];rw [aU (cZ _ aA0 aA0),Su,Kk s aA0 (i+kP T+1) e aA0 aA0 k f,aX,t];cases x:vR k (T.drop (kP T+1))with
    |some j=>have B:=tS _ _ _ j x;rw [gZ]at B;simp only;rw [aQ,aX];exact⟨_,_,_,aA0,aA0,rfl,λh=>absurd h aA1⟩
    |none=>
     have w:γ (T.drop (kP T+1))=γ T-(kP T+1):=gZ;have C:(if((i+kP T+1:Nat):Int)=(e:Int)then δ (decide (k=(1:Int)))else δ η)=δ (decide (T.drop (kP T+1)=[]/\k=1)):=by
      by_cases y:T.drop (kP T+1)=[]
      ·rw [y]at w;rw [aB (by simp at w;omega)];congr 1;simp [y]
      ·have:¬γ (T.drop (kP T+1))=0:=λh=>y (vJ h);rw [aA aA0,aL (λh=>y h.1)]
     simp only;rw [aH,C,aX];by_cases hx:T.drop (kP T+1)=[]/\k=1
     ·rw [aK hx,aQ,aX,aB hx];exact⟨_,_,_,aA0,aA0,rfl,λh=>absurd h aA1⟩
     ·rw [aL hx,aH,aU aA0,xT _ aA0 k f x,aX,aX,aA hx];exact b _ _ _
   ·have p:¬(0:Int)<=dP (·==(61:UInt8)) T:=λh=>d (m.1 h);have E:((i+kP T:Nat):Int)=(e:Int):=aA0;rw [aA d];simp only [p,decide_false,oZ];by_cases o:k=2
    ·rw [aB o,aB o,aX];exact⟨_,_,_,aA0,aA0,rfl,λh=>absurd h aA1⟩
    ·rw [aA o,aA o,aX];exact b _ _ _
def rM (st : aC) (s : aC) : Nat -> Nat -> List PP -> UInt8 × Nat × List PP
  | 0, i, l => (0, i, l)
  | f + 1, i, l => if fJ s i 59 = ζ then
      (if (iH 1 l (sub s ((i + 1 : Nat) : Int) (cM st s (i + 1) : Int))).1 = 0 then rM st s f (cM st s (i + 1)) (l ++ [(iH 1 l (sub s ((i + 1 : Nat) : Int) (cM st s (i + 1) : Int))).2])
       else ((iH 1 l (sub s ((i + 1 : Nat) : Int) (cM st s (i + 1) : Int))).1, 0, []))
    else (0, i, l)
def Im (s : aC) : Nat -> Nat -> List PP -> UInt8 × List PP
  | 0, i, l => (0, l)
  | f + 1, i, l => if i < γ s then
      (if (iH 2 l (sub s ((i + 1 : Nat) : Int) (cM [38] s (i + 1) : Int))).1 = 0 then Im s f (cM [38] s (i + 1)) (l ++ [(iH 2 l (sub s ((i + 1 : Nat) : Int) (cM [38] s (i + 1) : Int))).2])
       else ((iH 2 l (sub s ((i + 1 : Nat) : Int) (cM [38] s (i + 1) : Int))).1, []))
    else (0, l)
variable {l:List PP}
theorem CT(h:Hq l T=0):γ l<16:=by
 unfold Hq at h;split at h
 ·exact absurd h aA1
 ·split at h
  ·exact absurd h aA1
  ·omega
theorem Jx{k:Int}(h:(iH k l T).1=0):γ l<16:=by
 unfold iH at h;split at h
 ·exact absurd h aA1
 ·split at h
  ·exact absurd h aA1
  ·split at h
   ·split at h
    ·exact absurd h aA1
    ·split at h
     ·exact absurd h aA1
     ·exact CT h
   ·split at h
    ·exact absurd h aA1
    ·exact CT h
theorem TP(s:aC)(y:γ s<=4194303)(v:Int×UInt8×aC×aC×Int×aC×aC×aC×Int×List PP×List PP)(C:γ v.2.2.1<=1000)(B:v.2.2.1.all (λb=>decide (b.toNat<128))=ζ)(n:Nat):
  ∀(i d f:Nat) (l:List PP) (a:Int),0<=a->a<=5000000->γ s-i<=n->n+1<d->n<f->i<=γ s->γ l<=16->
  ∃a' u i' l',0<=a'/\a'<=5000000/\air FU v d a 0 s (i:Int) l=δ (a',(rM v.2.2.1 s f i l).1,u,i',l')/\((rM v.2.2.1 s f i l).1=0->u=s/\i'=((rM v.2.2.1 s f i l).2.1:Int)/\l'=(rM v.2.2.1 s f i l).2.2):=by
 induction n with
 |zero=>
  intro i d f l a t r z A q p w;obtain⟨d,rfl⟩:=cS d;obtain⟨f,rfl⟩:∃m,f=m+1:=⟨f-1,aA0⟩;have k:fJ s i 59=η:=by unfold fJ;rw [aL aA0];rfl
  rw [amn,aht,aB rfl,IC,aX,k,aX,aH,rM,k,aA aA1];exact⟨_,_,_,_,aA0,aA0,rfl,λ_=>⟨rfl,rfl,rfl⟩⟩
 |succ n x=>
  intro i d f l a t r z A q p w;obtain⟨d,rfl⟩:=cS d;obtain⟨f,rfl⟩:∃m,f=m+1:=⟨f-1,aA0⟩;rw [amn,aht,aB rfl,IC,aX,aX,rM];cases k:fJ s i 59 with
  |false=>rw [aH,aA aA1];exact⟨_,_,_,_,aA0,aA0,rfl,λ_=>⟨rfl,rfl,rfl⟩⟩
  |true=>
   have j:=(Qh k).1;have o:=kH v.2.2.1 s (i+1);have g:=QZ v.2.2.1 s (i+1) j;rw [aQ,aB rfl,aU (cZ _ aA0 aA0),Su,ly s aA0 (i+1) j _ C B,aX];obtain⟨l',a',c,G,F,E,D⟩:=GJ s y (i+1) (cM v.2.2.1 s (i+1)) o g l w 1 (.inl rfl);rw [E,aX];by_cases e:(iH 1 l (sub s ((i+1:Nat):Int) (cM v.2.2.1 s (i+1):Int))).1=0
   ·obtain⟨rfl,rfl⟩:=D e;have:=Jx e;rw [aB e,e];exact x (cM v.2.2.1 s (i+1)) d f _ _ aA0 aA0 aA0 aA0 aA0 g aC0
   ·rw [aA e];simp only;obtain⟨d,rfl⟩:=cS d;rw [amn,aht,aA e,aX,aH];exact⟨_,_,_,_,aA0,aA0,rfl,λh=>absurd h e⟩
theorem UW(s:aC)(v:γ s<=4194303)(n:Nat):
  ∀(i b f:Nat) (l:List PP) (a:Int),0<=a->a<=5000000->γ s-i<=n->n+1<b->n<f->i<=γ s->γ l<=16->
  ∃a' t i' l',0<=a'/\a'<=5000000/\aiq FU b a 0 s (i:Int) l=δ (a',(Im s f i l).1,t,i',l')/\((Im s f i l).1=0->l'=(Im s f i l).2):=by
 induction n with
 |zero=>intro i b f l a q p w x o k r;obtain⟨b,rfl⟩:=cS b;obtain⟨f,rfl⟩:∃m,f=m+1:=⟨f-1,aA0⟩;rw [amm,ahs,aB rfl,oP,aX,aK aA0,aX,iN,aH,Im,aA aA0];exact⟨_,_,_,_,aA0,aA0,rfl,λ_=>rfl⟩
 |succ n u=>
  intro i b f l a q p w x o k r;obtain⟨b,rfl⟩:=cS b;obtain⟨f,rfl⟩:∃m,f=m+1:=⟨f-1,aA0⟩;rw [amm,ahs,aB rfl,oP,aX,aX,Im];by_cases d:i<γ s
  ·have j:=kH [38] s (i+1);have g:=QZ [38] s (i+1) d;rw [aL aA0,yX,aQ,aB d,aU (cZ _ aA0 aA0),Su,ly s aA0 (i+1) d _ aA1 aA1,aX];obtain⟨l',a',c,B,A,z,y⟩:=GJ s v (i+1) (cM [38] s (i+1)) j g l r 2 (.inr rfl);rw [z,aX];by_cases e:(iH 2 l (sub s ((i+1:Nat):Int) (cM [38] s (i+1):Int))).1=0
   ·obtain⟨rfl,rfl⟩:=y e;have:=Jx e;rw [aB e,e];exact u (cM [38] s (i+1)) b f _ _ aA0 aA0 aA0 aA0 aA0 g aC0
   ·rw [aA e];simp only;obtain⟨b,rfl⟩:=cS b;rw [amm,ahs,aA e,aX,aH];exact⟨_,_,_,_,aA0,aA0,rfl,λh=>absurd h e⟩
  ·rw [aK aA0,iN,aH,aA d];exact⟨_,_,_,_,aA0,aA0,rfl,λ_=>rfl⟩
theorem qI(l:List PP)(a:γ l<20):ml FU l=δ (eC l):=by unfold ml;rw [aU aA0,Lh l a];rfl
open Go.Lib renaming hasPrefix → fW, trimPrefix → fK
def tK(a:Bool)(c:UInt8):Bool:=hK c||(!a&&(c==42||c==35))
def zc(c:UInt8):Bool:=c==45||c==46||c==40||c==41
def Sm(a:Bool):aC->Option aC
 |[]=>δ []
 |c::T=>if tK a c=ζ then(Sm a T).map (c::·)else if zc c=ζ then Sm a T else ε
theorem jy(b:Bool)(c:UInt8):(((if 48<=c then δ (decide (c<=57))else δ η)).bind λa=>(bif a then δ a else(bif (!b)then(if c=42 then δ ζ else δ (decide (c=35)))else δ η)))=δ (tK b c):=by revert c;cases b<;>exact dS _ aA3
theorem zb(c:UInt8):(if c=45 then δ η else(if c=46 then δ η else(if c=40 then δ η else δ (!decide (c=41)))))=δ (!zc c):=by revert c;exact dS _ aA3
theorem MZ(s:aC)(v:γ s<=4194303)(o:Int)(u:UU)(e:Nat)(y:e<=γ s)(h:Bool)(n:Nat):∀k f (b:aC),k+n=e->n<f->γ b<=k->
  ∃j,ahp FU (s,o) u e h f b k=δ j/\
   (match Sm h (sub s k e)with
   |some d=>j=.inl (b++d,e)
   |none=>∃a c w,0<=a/\a<=5000000/\j=.inr (a,5,c,w)):=by
 induction n with
 |zero=>intro k f b p q r;obtain⟨f,rfl⟩:=cS f;obtain rfl:k=e:=aA0;rw [aqa,agu,aA aA0,uK];exact⟨_,rfl,by simp only [Sm,fI]⟩
 |succ n m=>
  intro k f b p q r;obtain⟨f,rfl⟩:=cS f;have l:sub s (k:Int) (e:Int)=at_ s (k:Int)::sub s ((k+1:Nat):Int) (e:Int):=by unfold sub;simp;rw [drop_at s k aA0,show e-k=(e-(k+1))+1 by omega,fG]
  rw [aqa,agu,aB aA0,tF,jy,aX,l];unfold Sm;cases z:tK h (at_ s (k:Int))with
  |true=>
   rw [aQ,aU aA4,aX,yR,aU (cZ _ aA0 aA0)];obtain⟨j,t,i⟩:=m (k+1) f (b++[at_ s (k:Int)]) aA0 aA0 aA4;refine⟨j,t, ?_⟩;cases g:Sm h (sub s ((k+1:Nat):Int) (e:Int))with
   |none=>rw [g]at i;exact i
   |some d=>rw [g]at i;simp;rw [i,gH];rfl
  |false=>
   rw [aH,zb,aX];cases x:zc (at_ s (k:Int))with
   |true=>rw [iN,aH,aX,yR,aU (cZ _ aA0 aA0),Su];exact m _ f b aA0 aA0 aA0
   |false=>exact⟨_,rfl,_,_,_,aA0,aA0,rfl⟩
def vK(s:aC)(i:Nat):UInt8×aC:=
 match Sm (fJ s i 43) (sub s ((if fJ s i 43=ζ then i+1 else i:Nat)) (cM [59] s i))with
 |none=>(5,[])
 |some d=>if d=[]then(5,[])else if 30<γ d then(4,[])else(0,if fJ s i 43=ζ then 43::d else d)
theorem Nq(T d:aC)(h:Sm η T=δ d):fK d [43]=d:=by
 have key:∀(T d),Sm η T=δ d->∀c∈d,c≠43:=by
  intro T;induction T with
  |nil=>intro d h;simp only [Sm,aW]at h;subst h;simp
  |cons a T g=>
   intro d h;unfold Sm at h;split at h
   ·rename_i i;cases b:Sm η T with
    |none=>rw [b]at h;cases h
    |some d'=>
     rw [b]at h;simp at h;subst h;intro c f;rcases aP.1 f with rfl|f
     ·intro e;subst e;exact absurd i aA1
     ·exact g d' b c f
   ·split at h
    ·exact g d h
    ·cases h
 cases d with
 |nil=>rfl
 |cons c d=>have:=key T _ h c aA2;have j:¬43=c:=λe=>this e.symm;unfold fK fW;simp [j]
theorem ZH(st s:aC)(i:Nat)(a:i<γ s)(h:jR st (at_ s i)=η):cM st s i=cM st s (i+1):=by unfold cM;rw [drop_at s i a,dN,aB (by rw [h];rfl)];omega
theorem vd(s:aC)(q:γ s<=4194303)(i:Nat)(r:i<=γ s)(b:aC):∃a c u,0<=a/\a<=5000000/\akg FU (s,i) (b,[],[],0,[],[])=δ (a,(vK s i).1,c,u)/\
  ((vK s i).1=0->c=(s,(cM [59] s i:Int))/\u=(b,(vK s i).2,[],0,[],[])):=by
 have A:=kH [59] s i;have k:=QZ [59] s i r;have f:∀(d v:aC) (t:aC),fK v ([43]:aC)=d->∃a c u,0<=a/\a<=5000000/\
   (if(fK v ([43]:aC))=([]:aC)then δ ((i:Int),(5:UInt8),(s,(cM [59] s i:Int)),((b,v,([]:aC),(0:Int),([]:List PP),([]:List PP)):UU))else(if(30:Int)<(γ (fK v ([43]:aC)):Int)then δ ((i:Int),(4:UInt8),(s,(cM [59] s i:Int)),((b,v,([]:aC),(0:Int),([]:List PP),([]:List PP)):UU))else δ ((0:Int),(0:UInt8),(s,(cM [59] s i:Int)),((b,v,([]:aC),(0:Int),([]:List PP),([]:List PP)):UU))))=
   δ (a,(if d=[]then((5,[]):UInt8×aC)else if 30<γ d then(4,[])else(0,v)).1,c,u)/\((if d=[]then((5,[]):UInt8×aC)else if 30<γ d then(4,[])else(0,v)).1=0->c=(s,(cM [59] s i:Int))/\u=(b,(if d=[]then((5,[]):UInt8×aC)else if 30<γ d then(4,[])else(0,v)).2,[],0,[],[])):=by
  intro d v t C;rw [C];by_cases n:d=[]
  ·rw [aB n,aB n];exact⟨_,_,_,aA0,aA0,rfl,λh=>absurd h aA1⟩
  ·rw [aA n,aA n];by_cases m:30<γ d
   ·rw [aB aA0,aB m];exact⟨_,_,_,aA0,aA0,rfl,λh=>absurd h aA1⟩
   ·rw [aA aA0,aA m];exact⟨_,_,_,aA0,aA0,rfl,λ_=>⟨rfl,rfl⟩⟩
 unfold akg vK;simp only;rw [ly s aA0 i r _ aA1 aA1,aX,IC,aX];cases l:fJ s i 43 with
 |true=>
  have o:=(Qh l).1;have kV:=(Qh l).2;have B:=ZH [59] s i o (by rw [kV];decide);have z:=kH [59] s (i+1);rw [aQ,aU aA1,aU (cZ _ aA0 aA0),aX,Su,aB rfl];simp only;obtain⟨j,p,e⟩:=MZ s q (i:Int) (b,[],[],0,[],[]) (cM [59] s i) k ζ (cM [59] s i-(i+1)) (i+1) FU ([]++[43]) aA0 aA6 (by simp only [vX,bX,fT];omega);rw [p,aX];cases g:Sm ζ (sub s ((i+1:Nat):Int) ((cM [59] s i:Nat):Int))with
  |none=>rw [g]at e;obtain⟨a,c,w,y,x,rfl⟩:=e;rw [eF];exact⟨_,_,_,aA0,aA0,rfl,λh=>absurd h aA1⟩
  |some d=>rw [g]at e;simp only at e;subst e;rw [yR];exact f d _ [] (by unfold fK fW;simp)
 |false=>
  rw [aH,aX,aA (show¬(η=ζ)by decide)];obtain⟨j,p,e⟩:=MZ s q i _ _ k η (cM [59] s i-i) i FU [] aA0 aA6 aA2;rw [p,aX];cases g:Sm η _ with
  |none=>rw [g]at e;obtain⟨a,c,w,y,x,rfl⟩:=e;exact⟨_,_,_,aA0,aA0,rfl,λh=>absurd h aA1⟩
  |some d=>rw [g]at e;subst e;exact f d d [] (Nq _ _ g)
def vM:UU:=([],[],[],0,[],[])
theorem Yk(st s:aC):∀f i l,γ l<=16->γ (rM st s f i l).2.2<=16
 |0,i,l,h=>h
 |f+1,i,l,h=>by
  unfold rM;split
  ·split
   ·rename_i a;have:=Jx a;exact Yk st s f _ _ aA4
   ·exact cO _
  ·exact h
theorem Zm(s:aC):∀f i l,γ l<=16->γ (Im s f i l).2<=16
 |0,i,l,h=>h
 |f+1,i,l,h=>by
  unfold Im;split
  ·split
   ·rename_i a;have:=Jx a;exact Zm s f _ _ aA4
   ·exact cO _
  ·exact h
theorem G3(st s:aC):∀f i l,i<=γ s->(rM st s f i l).1=0->(rM st s f i l).2.1<=γ s
 |0,i,l,h,_=>h
 |f+1,i,l,h,a=>by
  unfold rM at a⊢;split
  ·rename_i b;rw [aB b]at a;split
   ·rename_i c;rw [aB c]at a;exact G3 st s f _ _ (QZ st s _ (Qh b).1) a
   ·exact cO _
  ·exact h
def nO (st s b c h : aC) (a : Int) (i : Nat) : UInt8 × UU :=
  if (rM st s (γ s + 1) i []).1 = 0 then
    (if (Im s (γ s + 1) (rM st s (γ s + 1) i []).2.1 []).1 = 0 then (0, (b, c, h, a, eC (rM st s (γ s + 1) i []).2.2, eC (Im s (γ s + 1) (rM st s (γ s + 1) i []).2.1 []).2))
     else ((Im s (γ s + 1) (rM st s (γ s + 1) i []).2.1 []).1, vM))
  else ((rM st s (γ s + 1) i []).1, vM)
abbrev PV:=Int×UInt8×aC×aC×Int×aC×aC×aC×Int×List PP×List PP
def NX(v:PV):Option (UU×Int×UInt8):=((air FU v FU v.1 v.2.1 v.2.2.2.1 v.2.2.2.2.1 v.2.2.2.2.2.2.2.2.2.1)).bind λ(a:(Int×UInt8×aC×Int×(List PP)))=>(((aiq FU FU a.1 a.2.1 a.2.2.1 a.2.2.2.1 v.2.2.2.2.2.2.2.2.2.2)).bind λ(b:(Int×UInt8×aC×Int×(List PP)))=>(if b.2.1=0 then((ml FU a.2.2.2.2).bind λ(d:List PP)=>((ml FU b.2.2.2.2).bind λ(c:List PP)=>δ ((v.2.2.2.2.2.1,v.2.2.2.2.2.2.1,v.2.2.2.2.2.2.2.1,v.2.2.2.2.2.2.2.2.1,d,c),0,0)))else δ (([],[],[],0,[],[]),b.1,b.2.1)))
theorem J1(b:Nat)(d:0<b)(a:Int)(e:UInt8)(c:¬e=0)(x:aC)(i:Int)(l:List PP):aiq FU b a e x i l=δ (a,e,x,i,l):=by obtain⟨b,rfl⟩:=cS b;rw [amm,ahs,aA c,aX,aH]
theorem xu(v:PV)(b:Nat)(d:0<b)(a:Int)(e:UInt8)(c:¬e=0)(x:aC)(i:Int)(l:List PP):air FU v b a e x i l=δ (a,e,x,i,l):=by obtain⟨b,rfl⟩:=cS b;rw [amn,aht,aA c,aX,aH]
theorem Ya(v:PV)(a:¬v.2.1=0):NX v=δ (vM,v.1,v.2.1):=by unfold NX;rw [xu v FU aA6 _ _ a,aX];rw [J1 FU aA6 _ _ a,aX];rw [aA a];rfl
theorem NW(s:aC)(n:γ s<=4194303)(st:aC)(t:γ st<=1000)(r:st.all (λb=>decide (b.toNat<128))=ζ)(a:Int)(m:0<=a)(l:a<=5000000)(e j h:aC)(d:Int)(i:Nat)(o:i<=γ s):
  ∃a',0<=a'/\a'<=5000000/\NX (a,0,st,s,i,e,j,h,d,[],[])=δ ((nO st s e j h d i).2,a',(nO st s e j h d i).1):=by
 unfold NX nO;obtain⟨A,c,F,D,z,y,x,w⟩:=TP s n (a,0,st,s,i,e,j,h,d,[],[]) t r (γ s) i FU (γ s+1) [] a m l aA0 aA6 aA0 o aA2;rw [x,aX];by_cases f:(rM st s (γ s+1) i []).1=0
 ·obtain⟨rfl,rfl,rfl⟩:=w f;have k:=G3 st c _ i [] o f;have q:=Yk st c (γ c+1) i [] aA2;have p:=Zm c (γ c+1) (rM st c (γ c+1) i []).2.1 [] aA2;obtain⟨I,B,E,C,H,G,v,u⟩:=UW c n (γ c) (rM st c _ i []).2.1 FU (γ c+1) [] A z y aA0 aA6 aA0 k aA2;rw [f,v,aX];simp only;by_cases g:(Im c (γ c+1) (rM st c (γ c+1) i []).2.1 []).1=0
  ·rw [aB g,aB g,u g,qI _ aA0,qI _ aA0];exact⟨_,aA0,aA0,rfl⟩
  ·rw [aA g,aA g];exact⟨_,aA0,aA0,rfl⟩
 ·rw [aA f,J1 FU aA6 _ _ f,aX];rw [aA f];exact⟨_,aA0,aA0,rfl⟩
def X9:aC:=[115,105,112]
def AT:aC:=[115,105,112,115]
def tn:aC:=[116,101,108]
def Wl (s : aC) : UInt8 × UU :=
  if 1024 < γ s then (4, vM) else if cM [58] s 0 < γ s then
    (if dR (s.take (cM [58] s 0)) = X9 \/ dR (s.take (cM [58] s 0)) = AT then
      (if (xF s (cM [58] s 0 + 1)).1 = 0 then nO [59, 63] s (dR (s.take (cM [58] s 0))) (xF s (cM [58] s 0 + 1)).2.1 (xF s (cM [58] s 0 + 1)).2.2.1 (xF s (cM [58] s 0 + 1)).2.2.2.1 (xF s (cM [58] s 0 + 1)).2.2.2.2 else ((xF s (cM [58] s 0 + 1)).1, vM))
     else if dR (s.take (cM [58] s 0)) = tn then
      (if (vK s (cM [58] s 0 + 1)).1 = 0 then nO [59] s (dR (s.take (cM [58] s 0))) (vK s (cM [58] s 0 + 1)).2 [] 0 (cM [59] s (cM [58] s 0 + 1)) else ((vK s (cM [58] s 0 + 1)).1, vM))
     else (15, vM))
  else (5, vM)
theorem M4(s:aC)(i:Nat)(b:i<=γ s):(Ra s i).2.2.2<=γ s:=by
 have c:=QD s i b;unfold Ra;split
 ·exact cO _
 ·split
  ·rename_i a;split
   ·exact QZ _ s _ (Qh a).1
   ·exact cO _
  ·split
   ·exact cO _
   ·exact c.2
theorem xa(s:aC)(i:Nat)(a:i<=γ s):(xF s i).2.2.2.2<=γ s:=by
 unfold xF;split
 ·split
  ·exact M4 s _ aA0
  ·exact cO _
 ·exact M4 s i a
theorem G7(s:aC):∃a,0<=a/\a<=5000000/\aro FU s=δ ((Wl s).2,a,(Wl s).1):=by
 unfold aro Wl;by_cases r:1024<γ s
 ·rw [aB aA0,aB r];exact⟨_,aA0,aA0,rfl⟩
 ·rw [aA aA0,aA r];have t:=utl1 58 s 0;rw [WV]at t;rcases lx (·==(58:UInt8)) s with⟨w,v⟩|⟨w,v,x⟩
  ·rw [aB aA0,aA aA0];exact⟨_,aA0,aA0,rfl⟩
  ·have m:dP (·==(58:UInt8)) s=((cM [58] s 0:Nat):Int):=by omega
   rw [m];have g:cM [58] s 0<γ s:=aA0
   generalize cM [58] s 0=c at g⊢;rw [aB g,aU (cZ _ aA0 aA0),aU aA0,iO,z6 _ aC4,aX,Su];generalize dR (s.take c)=b;have p:(if b=([115,105,112]:aC)then δ (decide (b=([115,105,112]:aC)))else δ (decide (b=([115,105,112,115]:aC))))=δ (decide (b=X9\/b=AT)):=by
    by_cases i:b=X9
    ·rw [aB (show b=([115,105,112]:aC)from i),aK (show b=([115,105,112]:aC)from i),aK (Or.inl i)]
    ·rw [aA (show¬b=([115,105,112]:aC)from i)];congr 1;rw [eA];exact⟨Or.inr,λh=>h.resolve_left i⟩
   rw [p,aX];by_cases e:b=X9\/b=AT
   ·obtain⟨a,q,u,k,j,o,n⟩:=G0 s aA0 (c+1) g b;rw [aK e,aB e,o,aX];by_cases f:(xF s (c+1)).1=0
    ·obtain⟨rfl,rfl⟩:=n f;rw [f];have l:(xF s (c+1)).2.2.2.2<=γ s:=xa s (c+1) g;exact NW s aA0 [59,63] aA1 aA1 a k j b _ _ _ _ l
    ·rw [aA f];exact⟨_,k,j,Ya (a,(xF s (c+1)).1,[59,63],q.1,q.2,u) f⟩
   ·rw [aL e,aH,aA e];by_cases d:b=tn
    ·obtain⟨a,q,u,k,j,o,n⟩:=vd s aA0 (c+1) g b;rw [aB (show b=[116,101,108]from d),aB d,o,aX];by_cases f:(vK s (c+1)).1=0
     ·obtain⟨rfl,rfl⟩:=n f;rw [f];exact NW s aA0 _ aA1 aA1 a k j b _ _ _ _ (QZ _ s _ g)
     ·rw [aA f];exact⟨_,k,j,Ya _ f⟩
    ·rw [aA (show¬b=[116,101,108]from d),aA d,aX];exact⟨_,fO 0,(show 0<=5000000 by decide),Ya _ (show¬15=0 by decide)⟩
end Go.Wk
