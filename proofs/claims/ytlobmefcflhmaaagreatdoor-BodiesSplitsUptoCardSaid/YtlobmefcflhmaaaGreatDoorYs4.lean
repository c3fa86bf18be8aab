/-
  The law BodiesSplits holds (part 4 of 9).
-/
import Derived.Test.YtlobmefcflhmaaaGreatDoorYs3
open Bool renaming false → ν, true → μ
open List renaming length → γ
open Option renaming none → ι, some → θ
set_option linter.unusedVariables false
set_option linter.unusedSimpArgs false
set_option maxRecDepth 20000
set_option maxHeartbeats 1000000
namespace Go.Wk
open Go.Px
open Go.Lib renaming index → cO, itoa → gK, trimPrefix → eH
open Int renaming toNat → bL
open List renaming drop → cC, take → eN
open Sum renaming elim → dA
def alz(fu:Nat)(s:aC)(b:Int)(e:Int->Int->ε (Int⊕η))(c:Int)(a:Int):ε (Int⊕η):=
 (if a<(γ (el (cJ 46 s) b))then(gd (0<=a/\a<(γ (el (cJ 46 s) b)))<|((ZC fu (Κ (el (cJ 46 s) b) a)).bind λd=>(bif (!d)then θ (.inr ν)else(gd (bJ (10*c))<|(gd (0<=a/\a<(γ (el (cJ 46 s) b)))<|(gd (bJ ((10*c)+(((Κ (el (cJ 46 s) b) a)-48).toNat)))<|(gd (bJ (a+1))<|(e ((10*c)+(((Κ (el (cJ 46 s) b) a)-48).toNat)) (a+1)))))))))else θ (.inl c))
def ajf(fu:Nat)(s:aC)(d:Int):Nat->Int->Int->ε (Int⊕η):=λc b a=>bE (λg v=>alz fu s d (λb a=>g (b,a)) v.1 v.2) c (b,a)
variable{a:Nat}{d:aC}{c:Int}{b:Nat}{e p:Int}
theorem bbs:ajf a d c (b+1) e p=alz a d c (ajf a d c b) e p:=rfl
def ama(fu:Nat)(s:aC)(f:Int->ε (Unit⊕η))(a:Int):ε (Unit⊕η):=
 (if a<(γ (cJ 46 s))then(((gd (0<=a/\a<(γ (cJ 46 s)))<|(gd (0<=a/\a<(γ (cJ 46 s)))<|(((ajf fu s a fu 0 0)).bind λe=>dA (λb=>(((if(el (cJ 46 s) a)=[]then θ μ else(if 255<b then θ μ else(gd (bJ b)<|some (!decide ((el (cJ 46 s) a)=(gK b))))))).bind λd=>(bif d then θ (.inr ν)else θ (.inl ())))) (λq=>θ (.inr q)) e)))).bind λc=>dA (λg=>(gd (bJ (a+1))<|(f (a+1)))) (λq=>θ (.inr q)) c)else θ (.inl ()))
def ajg(fu:Nat)(s:aC):Nat->Int->ε (Unit⊕η):=λb a=>bE (λg v=>ama fu s (λa=>g a) v) b a
theorem bbt:ajg a d (b+1) c=ama a d (ajg a d b) c:=rfl
def awt(fu:Nat)(s:aC):ε η:=
 (if 15<(γ s:Int)then θ ν else(gd (γ s<=1000000000)<|(((ajg fu s fu 0)).bind λa=>dA (λb=>θ (decide ((γ (cJ 46 s))=(4:Int)))) (λq=>θ q) a)))
def atk(fu:Nat)(s:aC)(b:aC)(a:Int):ε (aC×aC×Int):=
 θ (b,s,a)
def atl(fu:Nat)(s:aC)(b:aC):ε (aC×aC×Int):=
 ((atk fu s b 0).bind λa=>θ (a.1,a.2.1,a.2.2))
def agy(fu:Nat)(b:aC)(i:η)(d:Int->η->ε ((Nat×η×η)))(a:Int)(c:η):ε ((Nat×η×η)):=
 (if a<γ b then(gd (0<=a/\a<γ b)<|((((amm fu (Κ b a)).bind λh=>(bif (!h)then((ZC fu (Κ b a)).bind λg=>(bif (!g)then θ (!decide ((Κ b a)=45))else θ ν))else θ ν))).bind λf=>(bif f then θ (1,c,ν)else(bif c then(gd (bJ (a+1))<|(d (a+1) μ))else((ZC fu (Κ b a)).bind λe=>(gd (bJ (a+1))<|(d (a+1) (!e))))))))else θ (0,c,i))
def rm(fu:Nat)(e:aC)(d:η):Nat->Int->η->ε ((Nat×η×η)):=λc b a=>bE (λg v=>agy fu e d (λb a=>g (b,a)) v.1 v.2) c (b,a)
variable{l v:η}
theorem aoi:rm a d l (b+1) c v=agy a d l (rm a d l b) c v:=rfl
def rh(fu:Nat)(a:aC)(b:η)(d:η):ε (Nat×η×η):=
 (((if γ a<(1:Int)then θ μ else(if 63<(γ a:Int)then θ μ else(gd (0<=(0:Int)/\0<(γ a:Int))<|(if(Κ a 0)=45 then θ μ else(gd (bJ (γ a-1))<|(gd (0<=(γ a-(1:Int))/\(γ a-1)<(γ a:Int))<|some (decide ((Κ a (γ a-1))=45))))))))).bind λc=>(bif c then θ (1,b,ν)else(rm fu a d fu 0 b)))
def aeh(fu:Nat)(a:aC)(b:ε Unit):ε Unit:=
 (if 0<(γ a:Int)then ι else θ ())
def acr(fu:Nat)(b:aC):Nat->ε Unit:=λa=>bE (λg v=>aeh fu b (g ())) a ()
theorem aqr:acr a d (b+1)=aeh a d (acr a d b):=rfl
def abw(fu:Nat)(b:aC)(d:Int)(g:η->η->aC->ε ((η×η×aC)⊕(η×η×aC×Nat)))(f:η)(e:η)(a:aC):ε ((η×η×aC)⊕(η×η×aC×Nat)):=
 (gd (γ a<=1000000000)<|(if(cO a b)<0 then θ (.inl (f,e,a))else(gd (bJ ((cO a b)+d))<|(gd (0<=((cO a b)+d)/\((cO a b)+d)<=γ a)<|((rh fu (eN (bL ((cO a b)+d)) a) f e).bind λc=>(if c.1=0 then(gd (bJ ((cO a b)+γ b))<|(gd (0<=((cO a b)+γ b)/\((cO a b)+γ b)<=γ a)<|(g c.2.1 c.2.2 (cC (bL ((cO a b)+γ b)) a))))else θ (.inr (c.2.1,c.2.2,a,c.1))))))))
def aby(fu:Nat)(f:aC)(e:Int):Nat->η->η->aC->ε ((η×η×aC)⊕(η×η×aC×Nat)):=λd c b a=>bE (λg v=>abw fu f e (λc b a=>g (c,b,a)) v.1 v.2.1 v.2.2) d (c,b,a)
variable{m:aC}
theorem aeb:aby a d c (b+1) l v m=abw a d c (aby a d c b) l v m:=rfl
def adj(fu:Nat)(f:η)(e:η)(d:aC)(c:aC)(i:Int):ε (η×η×aC×Nat):=
 (((if γ d=(0:Int)then(((acr fu c fu)).bind λk=>θ (.inr (f,e,c,0)))else θ (.inl ()))).bind λh=>dA (λj=>(((aby fu d i fu f e c)).bind λg=>dA (λb=>((rh fu b.2.2 b.1 b.2.1).bind λa=>(if a.1=0 then θ (a.2.1,a.2.2,b.2.2,0)else θ (a.2.1,a.2.2,b.2.2,a.1)))) (λq=>θ q) g)) (λq=>θ q) h)
def aqk(fu:Nat)(s:aC):ε η:=
 (((if γ s<(1:Int)then θ μ else θ (decide (255<(γ s:Int))))).bind λc=>(bif c then θ ν else((atl fu s [46]).bind λb=>((adj fu ν ν b.1 b.2.1 b.2.2).bind λa=>(if a.2.2.2=0 then θ a.1 else(if a.2.2.2=1 then θ a.2.1 else ι))))))
def ed(fu:Nat)(s:aC):ε (aC×η):=
 (((if 2<=(γ s:Int)then(gd (0<=(0:Int)/\0<(γ s:Int))<|(if(Κ s 0)=91 then(gd (bJ (γ s-1))<|(gd (0<=(γ s-(1:Int))/\(γ s-1)<(γ s:Int))<|some (decide ((Κ s (γ s-1))=93))))else θ ν))else θ ν)).bind λb=>(bif b then(gd (bJ (γ s-1))<|(gd (0<=(1:Int)/\1<=(γ s-(1:Int))/\(γ s-1)<=(γ s:Int))<|((ayp fu (sub s 1 (γ s-1))).bind λa=>(bif (!a.2)then θ ([],ν)else(gd (γ ([91]:aC)+γ a.1<=9223372036854775807)<|(gd (γ ([91]++a.1)+γ ([93]:aC)<=9223372036854775807)<|some ((([91]:aC)++a.1)++([93]:aC),μ)))))))else((awt fu s).bind λe=>(bif e then θ (s,μ)else((aqk fu s).bind λd=>(bif d then((YF fu s).bind λc=>θ (c,μ))else θ ([],ν)))))))
def alx(fu:Nat)(s:aC)(d:Int->Int->ε (Int⊕(Int×ζ)))(b:Int)(a:Int):ε (Int⊕(Int×ζ)):=
 (if a<γ s then(((gd (0<=a/\a<γ s)<|(if(Κ s a)<48 then θ μ else(gd (0<=a/\a<γ s)<|some (decide (57<(Κ s a))))))).bind λc=>(bif c then θ (.inr (0,5))else(gd (bJ (10*b))<|(gd (0<=a/\a<γ s)<|(gd (bJ ((10*b)+(((Κ s a)-48).toNat)))<|(gd (bJ (a+1))<|(d ((10*b)+(((Κ s a)-48).toNat)) (a+1))))))))else θ (.inl b))
def anm(fu:Nat)(s:aC):Nat->Int->Int->ε (Int⊕(Int×ζ)):=λc b a=>bE (λg v=>alx fu s (λb a=>g (b,a)) v.1 v.2) c (b,a)
theorem axg:anm a d (b+1) c e=alx a d (anm a d b) c e:=rfl
def vz(fu:Nat)(s:aC):ε (Int×ζ):=
 (((if γ s<(1:Int)then θ μ else θ (decide (10<(γ s:Int))))).bind λb=>(bif b then θ (0,5)else(((anm fu s fu 0 0)).bind λc=>dA (λa=>(if 2147483647<a then θ (0,3)else θ (a,0))) (λq=>θ q) c)))
def amb(fu:Nat)(a:(aC×Int))(b:UQ):ε (Int×ζ×(aC×Int)×UQ):=
 (((gd (0<=a.2/\a.2<=γ a.1)<|(if 0<=(dM (·==64) (cC (bL a.2) a.1))then(gd (bJ (a.2+(dM (·==64) (cC (bL a.2) a.1))))<|((afv fu a (a.2+(dM (·==64) (cC (bL a.2) a.1))) 0).bind λe=>(bif e.2 then(gd (0<=e.1/\e.1<γ a.1)<|(if(Κ a.1 e.1)=58 then θ (.inr (e.1,15,a,b))else θ (.inr (e.1,5,a,b))))else(if(dM (·==64) (cC (bL a.2) a.1))=0 then θ (.inr (a.2+(dM (·==64) (cC (bL a.2) a.1)),5,a,b))else(gd (0<=a.2/\a.2<=(a.2+(dM (·==64) (cC (bL a.2) a.1)))/\(a.2+(dM (·==64) (cC (bL a.2) a.1)))<=γ a.1)<|((ald fu (sub a.1 a.2 (a.2+(dM (·==64) (cC (bL a.2) a.1))))).bind λu=>(gd (bJ ((a.2+(dM (·==64) (cC (bL a.2) a.1)))+1))<|some (.inl ((a.2+(dM (·==64) (cC (bL a.2) a.1)))+1,u)))))))))else θ (.inl (a.2,b.2.1))))).bind λt=>dA (λd=>((BZ fu a.1 d.1 ([58,59,63])).bind λs=>((((Iu fu (a.1,d.1) 91).bind λr=>(bif r then((BZ fu a.1 d.1 [93]).bind λj=>(gd (bJ (j+1))<|some (min (j+1) (γ a.1))))else θ s))).bind λc=>(gd (0<=d.1/\d.1<=c/\c<=γ a.1)<|((ed fu (sub a.1 d.1 c)).bind λg=>(bif (!g.2)then θ (d.1,5,(a.1,d.1),(b.1,d.2,b.2.2.1,b.2.2.2.1,b.2.2.2.2.1,b.2.2.2.2.2))else((Iu fu (a.1,c) 58).bind λp=>(bif p then(gd (bJ (c+1))<|((BZ fu a.1 (c+1) ([59,63])).bind λh=>(gd (0<=(c+1)/\(c+1)<=h/\h<=γ a.1)<|((vz fu (sub a.1 (c+1) h)).bind λf=>(((((if f.2=0 then(if f.1<1 then θ μ else θ (decide (65535<f.1)))else θ ν)).bind λo=>(bif o then θ 3 else θ f.2))).bind λi=>(if i=0 then θ (0,0,(a.1,h),(b.1,d.2,g.1,f.1,b.2.2.2.2.1,b.2.2.2.2.2))else θ (c+1,i,(a.1,c+1),(b.1,d.2,g.1,b.2.2.2.1,b.2.2.2.2.1,b.2.2.2.2.2))))))))else((((wk fu (a.1,c)).bind λn=>(bif (!n)then((Iu fu (a.1,c) 59).bind λm=>(bif (!m)then((Iu fu (a.1,c) 63).bind λl=>θ (!l))else θ ν))else θ ν))).bind λk=>(bif k then θ (c,5,(a.1,c),(b.1,d.2,g.1,b.2.2.2.1,b.2.2.2.2.1,b.2.2.2.2.2))else θ (0,0,(a.1,c),(b.1,d.2,g.1,b.2.2.2.1,b.2.2.2.2.1,b.2.2.2.2.2)))))))))))) (λq=>θ q) t)
def aha(fu:Nat)(b:(aC×Int))(l:UQ)(f:Int)(e:η)(k:(δ ζ)->Int->ε (((δ ζ)×Int)⊕(Int×ζ×(aC×Int)×UQ)))(c:δ ζ)(a:Int):ε (((δ ζ)×Int)⊕(Int×ζ×(aC×Int)×UQ)):=
 (if a<f then(((gd (0<=a/\a<γ b.1)<|(((((if 48<=(Κ b.1 a)then θ (decide ((Κ b.1 a)<=57))else θ ν)).bind λd=>(bif d then θ d else(bif (!e)then(if(Κ b.1 a)=42 then θ μ else θ (decide ((Κ b.1 a)=35)))else θ ν)))).bind λj=>(bif j then(gd ((γ c+γ ([Κ b.1 a]))*1<=140737488355328)<|some (.inl (c++([Κ b.1 a]))))else(((if(Κ b.1 a)=45 then θ ν else(if(Κ b.1 a)=46 then θ ν else(if(Κ b.1 a)=40 then θ ν else θ (!decide ((Κ b.1 a)=41)))))).bind λi=>(bif i then θ (.inr (a,5,(b.1,a),l))else θ (.inl c))))))).bind λh=>dA (λg=>(gd (bJ (a+1))<|(k g (a+1)))) (λq=>θ (.inr q)) h)else θ (.inl (c,a)))
def aht(fu:Nat)(h:(aC×Int))(f:UQ)(d:Int)(c:η):Nat->(δ ζ)->Int->ε (((δ ζ)×Int)⊕(Int×ζ×(aC×Int)×UQ)):=λe b a=>bE (λg v=>aha fu h f d c (λb a=>g (b,a)) v.1 v.2) e (b,a)
variable{f:δ ζ}
theorem aso{d:(aC×Int)}{g:UQ}:aht a d g c l (b+1) f e=aha a d g c l (aht a d g c l b) f e:=rfl
def aks(fu:Nat)(b:(aC×Int))(a:UQ):ε (Int×ζ×(aC×Int)×UQ):=
 ((BZ fu b.1 b.2 [59]).bind λf=>((Iu fu b 43).bind λd=>(((bif d then(gd ((γ ([]:δ ζ)+γ ([(43:ζ)]))*1<=140737488355328)<|(gd (bJ (b.2+1))<|some ([]++([43]),b.2+1)))else θ ([],b.2))).bind λe=>(((aht fu b a f d fu e.1 e.2)).bind λg=>dA (λc=>(if(eH c.1 [43])=[]then θ (b.2,5,(b.1,c.2),(a.1,c.1,a.2.2.1,a.2.2.2.1,a.2.2.2.2.1,a.2.2.2.2.2))else(if 30<(γ (eH c.1 [43]):Int)then θ (b.2,4,(b.1,c.2),(a.1,c.1,a.2.2.1,a.2.2.2.1,a.2.2.2.2.1,a.2.2.2.2.2))else θ (0,0,(b.1,c.2),(a.1,c.1,a.2.2.1,a.2.2.2.1,a.2.2.2.2.1,a.2.2.2.2.2))))) (λq=>θ q) g))))
open Go.Op renaming bytesLess → qS
open List renaming set → jH
def awu(fu:Nat)(b:PQ)(a:aC):ε η:=
 θ (decide (b.1=a))
def abq(fu:Nat)(s:LQ)(d:aC)(c:Int->ε (Unit⊕Int))(a:Int):ε (Unit⊕Int):=
 (if a<γ s then(gd (0<=a/\a<γ s)<|(gd (0<=a/\a<γ s)<|((awu fu ((el s a).1,(el s a).2.1,((el s a).2.2)) d).bind λb=>(bif b then θ (.inr a)else(gd (bJ (a+1))<|(c (a+1)))))))else θ (.inl ()))
def acn(fu:Nat)(s:LQ)(c:aC):Nat->Int->ε (Unit⊕Int):=λb a=>bE (λg v=>abq fu s c (λa=>g a) v) b a
variable{j:LQ}
theorem adn:acn a j d (b+1) c=abq a j d (acn a j d b) c:=rfl
def aez(fu:Nat)(s:LQ)(b:aC):ε Int:=
 (((acn fu s b fu 0)).bind λa=>dA (λc=>θ (-1)) (λq=>θ q) a)
def aei(fu:Nat)(s:LQ)(b:aC):ε η:=
 ((aez fu s b).bind λa=>θ (decide (0<=a)))
def aqm(fu:Nat)(c:LQ)(b:aC):ε η:=
 ((aei fu c b).bind λa=>θ a)
def asx(fu:Nat)(a:LQ)(c:aC):ε ζ:=
 ((aqm fu a c).bind λb=>(bif b then θ 7 else(if 16<=(γ a:Int)then θ 4 else θ 0)))
def aii(fu:Nat)(a:(aC×Int))(g:LQ)(b:Int)(e:Int):ε (LQ×Int×ζ×(aC×Int)):=
 (gd (0<=a.2/\a.2<=b/\b<=γ a.1)<|(((if 0<=(dM (·==61) (sub a.1 a.2 b))then(gd (bJ (a.2+(dM (·==61) (sub a.1 a.2 b))))<|some (a.2+(dM (·==61) (sub a.1 a.2 b))))else θ b)).bind λc=>((afv fu a c e).bind λj=>(bif j.2 then θ ([],j.1,5,a)else(if c=a.2 then θ ([],a.2,5,a)else(gd (0<=a.2/\a.2<=c/\c<=γ a.1)<|((ald fu (sub a.1 a.2 c)).bind λn=>((YF fu n).bind λf=>(((if 0<=(dM (·==61) (sub a.1 a.2 b))then(gd (bJ (c+1))<|((afv fu (a.1,c+1) b e).bind λi=>(bif i.2 then θ (.inr ([],i.1,5,(a.1,c+1)))else(((if(c+1)=b then θ (decide (e=1))else θ ν)).bind λm=>(bif m then θ (.inr ([],b,5,(a.1,c+1)))else(gd (0<=(c+1)/\(c+1)<=b/\b<=γ a.1)<|((ald fu (sub a.1 (c+1) b)).bind λl=>θ (.inl (b,l)))))))))else(if e=2 then θ (.inr ([],b,5,(a.1,b)))else θ (.inl (b,[]))))).bind λk=>dA (λd=>((asx fu g f).bind λh=>(if h=0 then(gd ((γ g+γ ([(f,d.2,(decide (0<=(dM (·==61) (sub a.1 a.2 b)))))]))*40<=140737488355328)<|some (g++([(f,d.2,(decide (0<=(dM (·==61) (sub a.1 a.2 b)))))]),0,0,(a.1,d.1)))else θ ([],a.2,h,(a.1,d.1))))) (λq=>θ q) k)))))))))
def auh(fu:Nat)(a:aC):ε η:=
 θ (!decide (a=a))
def aoy(fu:Nat)(b:aC)(a:aC):ε Int:=
 ((auh fu b).bind λd=>((auh fu a).bind λc=>(bif d then(bif c then θ 0 else θ (-1))else(bif c then θ 1 else(bif (qS b a)then θ (-1)else(bif (!(qS b a||b==a))then θ 1 else θ 0))))))
def auj(fu:Nat)(c:PQ)(b:PQ):ε Int:=
 ((aoy fu c.1 b.1).bind λa=>θ a)
def abk(fu:Nat)(f:Int)(e:LQ->Int->ε LQ)(b:LQ)(a:Int):ε LQ:=
 (((if f<a then(gd (0<=a/\a<γ b)<|(gd (0<=a/\a<γ b)<|(gd (bJ (a-1))<|(gd (0<=(a-1)/\(a-1)<γ b)<|(gd (0<=(a-1)/\(a-1)<γ b)<|((auj fu ((el b a).1,(el b a).2.1,((el b a).2.2)) ((el b (a-1)).1,(el b (a-1)).2.1,((el b (a-1)).2.2))).bind λd=>θ (decide (d<0))))))))else θ ν)).bind λc=>(bif c then(gd (bJ (a-1))<|(gd (bJ (a-1))<|(gd (0<=(a-1)/\(a-1)<γ b)<|(gd (0<=(a-1)/\(a-1)<γ b)<|(gd (0<=a/\a<γ b)<|(gd (0<=a/\a<γ b)<|(gd (0<=a/\a<γ b)<|(gd (0<=a/\a<γ b)<|(gd (0<=(a-1)/\(a-1)<(γ (jH b (bL a) ((el b (a-1)).1,(el b (a-1)).2.1,((el b (a-1)).2.2)))))<|(gd (0<=(a-1)/\(a-1)<(γ (jH b (bL a) ((el b (a-1)).1,(el b (a-1)).2.1,((el b (a-1)).2.2)))))<|(gd (bJ (a-1))<|(e (jH (jH b (bL a) ((el b (a-1)).1,(el b (a-1)).2.1,((el b (a-1)).2.2))) (bL (a-1)) ((el b a).1,(el b a).2.1,((el b a).2.2))) (a-1)))))))))))))else θ b))
def abl(fu:Nat)(d:Int):Nat->LQ->Int->ε LQ:=λc b a=>bE (λg v=>abk fu d (λb a=>g (b,a)) v.1 v.2) c (b,a)
theorem adx:abl a c (b+1) j e=abk a c (abl a c b) j e:=rfl
def aay(fu:Nat)(f:Int)(e:Int)(d:LQ->Int->ε LQ)(b:LQ)(a:Int):ε LQ:=
 (if a<e then(((abl fu f fu b a)).bind λc=>(gd (bJ (a+1))<|(d c (a+1))))else θ b)
def aap(fu:Nat)(e:Int)(d:Int):Nat->LQ->Int->ε LQ:=λc b a=>bE (λg v=>aay fu e d (λb a=>g (b,a)) v.1 v.2) c (b,a)
theorem acg:aap a c e (b+1) j p=aay a c e (aap a c e b) j p:=rfl
def aav(fu:Nat)(c:LQ)(a:Int)(b:Int):ε LQ:=
 (gd (bJ (a+1))<|(aap fu a b fu c (a+1)))
def acx(fu:Nat)(f:Int)(e:LQ->Int->Int->ε (LQ×Int))(c:LQ)(b:Int)(a:Int):ε (LQ×Int):=
 (if a<=f then((aav fu c b a).bind λd=>(gd (bJ (a+20))<|(e d a (a+20))))else θ (c,b))
def abh(fu:Nat)(e:Int):Nat->LQ->Int->Int->ε (LQ×Int):=λd c b a=>bE (λg v=>acx fu e (λc b a=>g (c,b,a)) v.1 v.2.1 v.2.2) d (c,b,a)
theorem aln:abh a c (b+1) j e p=acx a c (abh a c b) j e p:=rfl
def acw(fu:Nat)(c:Int)(d:LQ->Int->ε LQ)(b:LQ)(a:Int):ε LQ:=
 (if a<c then ι else θ b)
def abg(fu:Nat)(d:Int):Nat->LQ->Int->ε LQ:=λc b a=>bE (λg v=>acw fu d (λb a=>g (b,a)) v.1 v.2) c (b,a)
theorem alm:abg a c (b+1) j e=acw a c (abg a c b) j e:=rfl
def acl(fu:Nat)(d:LQ)(a:Int):ε LQ:=
 (((abh fu a fu d 0 20)).bind λb=>((aav fu b.1 b.2 a).bind λc=>(abg fu a fu c 20)))
def abb(fu:Nat)(a:LQ):ε LQ:=
 ((acl fu a (γ a)).bind λb=>θ b)
def qz(fu:Nat)(a:LQ):ε LQ:=
 (gd ((0+γ a)*40<=140737488355328)<|((abb fu a).bind λb=>θ b))
def ahx(fu:Nat)(k:(Int×ζ×aC×aC×Int×aC×aC×aC×Int×LQ×LQ))(j:Int->ζ->aC->Int->LQ->ε (Int×ζ×aC×Int×LQ))(i:Int)(e:ζ)(c:aC)(b:Int)(d:LQ):ε (Int×ζ×aC×Int×LQ):=
 (((if e=0 then((Iu fu (c,b) 59).bind λh=>θ h)else θ ν)).bind λg=>(bif g then(gd (bJ (b+1))<|((BZ fu c (b+1) k.2.2.1).bind λf=>((aii fu (c,b+1) d f 1).bind λa=>(j a.2.1 a.2.2.1 a.2.2.2.1 a.2.2.2.2 a.1))))else θ (i,e,c,b,d)))
def aiq(fu:Nat)(h:(Int×ζ×aC×aC×Int×aC×aC×aC×Int×LQ×LQ)):Nat->Int->ζ->aC->Int->LQ->ε (Int×ζ×aC×Int×LQ):=λf e d c b a=>bE (λg v=>ahx fu h (λe d c b a=>g (e,d,c,b,a)) v.1 v.2.1 v.2.2.1 v.2.2.2.1 v.2.2.2.2) f (e,d,c,b,a)
variable{h:ζ}
theorem anu{g:(Int×ζ×aC×aC×Int×aC×aC×aC×Int×LQ×LQ)}:aiq a g (b+1) c h d e j=ahx a g (aiq a g b) c h d e j:=rfl
def ahw(fu:Nat)(j:Int->ζ->aC->Int->LQ->ε (Int×ζ×aC×Int×LQ))(i:Int)(e:ζ)(c:aC)(b:Int)(d:LQ):ε (Int×ζ×aC×Int×LQ):=
 (((if e=0 then((wk fu (c,b)).bind λh=>θ (!h))else θ ν)).bind λg=>(bif g then(gd (bJ (b+1))<|((BZ fu c (b+1) [38]).bind λf=>((aii fu (c,b+1) d f 2).bind λa=>(j a.2.1 a.2.2.1 a.2.2.2.1 a.2.2.2.2 a.1))))else θ (i,e,c,b,d)))
def aip(fu:Nat):Nat->Int->ζ->aC->Int->LQ->ε (Int×ζ×aC×Int×LQ):=λf e d c b a=>bE (λg v=>ahw fu (λe d c b a=>g (e,d,c,b,a)) v.1 v.2.1 v.2.2.1 v.2.2.2.1 v.2.2.2.2) f (e,d,c,b,a)
theorem ant:aip a (b+1) c h d e j=ahw a (aip a b) c h d e j:=rfl
def avh(fu:Nat)(s:aC):ε (UQ×Int×ζ):=
 (if 1024<(γ s:Int)then θ (([],[],[],0,[],[]),1024,4)else(if(dM (·==58) s)<0 then θ (([],[],[],0,[],[]),γ s,5)else(gd (bJ ((dM (·==58) s)+1))<|(gd (0<=(dM (·==58) s)/\(dM (·==58) s)<=γ s)<|((YF fu (eN (bL (dM (·==58) s)) s)).bind λd=>(((((if d=([115,105,112])then θ (decide (d=([115,105,112])))else θ (decide (d=([115,105,112,115]))))).bind λi=>(bif i then((amb fu (s,(dM (·==58) s)+1) (d,[],[],0,[],[])).bind λc=>θ (c.1,c.2.1,([59,63]),c.2.2.1.1,c.2.2.1.2,c.2.2.2.1,c.2.2.2.2.1,c.2.2.2.2.2.1,c.2.2.2.2.2.2.1,c.2.2.2.2.2.2.2.1,c.2.2.2.2.2.2.2.2))else(if d=([116,101,108])then((aks fu (s,(dM (·==58) s)+1) (d,[],[],0,[],[])).bind λb=>θ (b.1,b.2.1,[59],b.2.2.1.1,b.2.2.1.2,b.2.2.2.1,b.2.2.2.2.1,b.2.2.2.2.2.1,b.2.2.2.2.2.2.1,b.2.2.2.2.2.2.2.1,b.2.2.2.2.2.2.2.2))else θ (0,15,([59,63]),s,(dM (·==58) s)+1,d,[],[],0,[],[]))))).bind λ(a:(Int×ζ×aC×aC×Int×aC×aC×aC×Int×LQ×LQ))=>(((aiq fu a fu a.1 a.2.1 a.2.2.2.1 a.2.2.2.2.1 a.2.2.2.2.2.2.2.2.2.1)).bind λe=>(((aip fu fu e.1 e.2.1 e.2.2.1 e.2.2.2.1 a.2.2.2.2.2.2.2.2.2.2)).bind λf=>(if f.2.1=0 then((qz fu e.2.2.2.2).bind λh=>((qz fu f.2.2.2.2).bind λg=>θ ((a.2.2.2.2.2.1,a.2.2.2.2.2.2.1,a.2.2.2.2.2.2.2.1,a.2.2.2.2.2.2.2.2.1,h,g),0,0)))else θ (([],[],[],0,[],[]),f.1,f.2.1))))))))))
def ahr(fu:Nat)(a:(aC×Int))(e:AQ):ε (Int×ζ×(aC×Int)×AQ):=
 ((((Iu fu a 60).bind λi=>(bif i then(gd (bJ (a.2+1))<|((BZ fu a.1 (a.2+1) [62]).bind λd=>(if d=γ a.1 then θ (.inr (d,5,a,e))else(gd (bJ (d+1))<|some (.inl (a.2+1,d,d+1))))))else((BZ fu a.1 a.2 ([59,32,9])).bind λf=>((BZ fu a.1 a.2 ([63,44])).bind λg=>(if g<f then θ (.inr (g,5,a,e))else θ (.inl (a.2,f,f)))))))).bind λh=>dA (λb=>(gd (0<=b.1/\b.1<=b.2.1/\b.2.1<=(γ a.1:Int))<|((avh fu (sub a.1 b.1 b.2.1)).bind λc=>(if c.2.2=0 then θ (0,0,(a.1,b.2.2),(e.1,c.1,e.2.2))else(gd (bJ (b.1+c.2.1))<|some (b.1+c.2.1,c.2.2,a,e)))))) (λq=>θ q) h)
def akt(fu:Nat)(l:(aC×Int)):ε (PQ×Int×ζ×(aC×Int)):=
 ((afw fu l).bind λg=>((YF fu g.1).bind λf=>(if f=[]then θ (([],[],ν),g.2.2,5,g.2)else((eo fu g.2).bind λe=>((Iu fu e 61).bind λk=>(bif (!k)then θ ((f,[],ν),0,0,e)else(gd (bJ (e.2+1))<|((eo fu (e.1,e.2+1)).bind λa=>((Iu fu a 34).bind λj=>(bif j then((aqc fu a.1 a.2).bind λd=>(if d.2.2=0 then θ ((f,d.1,μ),0,0,(a.1,d.2.1))else θ (([],[],ν),d.2.1,d.2.2,a)))else((Iu fu a 91).bind λi=>(bif i then((BZ fu a.1 a.2 [93]).bind λb=>(gd (bJ (b+1))<|(gd (0<=a.2/\a.2<=(min (b+1) (γ a.1))/\(min (b+1) (γ a.1))<=γ a.1)<|((ed fu (sub a.1 a.2 (min (b+1) (γ a.1)))).bind λh=>(bif (!h.2)then θ (([],[],ν),a.2,5,a)else(gd (bJ (b+1))<|some ((f,h.1,μ),0,0,(a.1,b+1))))))))else((afw fu a).bind λc=>(if c.1=[]then θ (([],[],ν),c.2.2,5,c.2)else θ ((f,c.1,μ),0,0,c.2)))))))))))))))
def anv(fu:Nat)(k:LQ->aC->Int->ε (LQ×Int×ζ))(c:LQ)(j:aC)(i:Int):ε (LQ×Int×ζ):=
 ((eo fu (j,i)).bind λb=>((wk fu b).bind λh=>(bif h then θ (c,0,0)else((Iu fu b 59).bind λg=>(bif (!g)then θ ([],b.2,5)else(gd (bJ (b.2+1))<|((eo fu (b.1,b.2+1)).bind λe=>((akt fu e).bind λa=>(((if a.2.2.1=0 then((asx fu c a.1.1).bind λf=>θ (e.2,f))else θ (a.2.1,a.2.2.1))).bind λd=>(if d.2=0 then(gd ((γ c+[a.1].length)*40<=140737488355328)<|(k (c++[a.1]) a.2.2.2.1 a.2.2.2.2))else θ ([],d.1,d.2)))))))))))
def apd(fu:Nat):Nat->LQ->aC->Int->ε (LQ×Int×ζ):=λd c b a=>bE (λg v=>anv fu (λc b a=>g (c,b,a)) v.1 v.2.1 v.2.2) d (c,b,a)
theorem bcb:apd a (b+1) j d c=anv a (apd a b) j d c:=rfl
def aka(fu:Nat)(s:aC):ε (LQ×Int×ζ):=
 (apd fu fu [] s 0)
def amd(fu:Nat)(s:aC):ε (AQ×Int×ζ):=
 (if 1024<(γ s:Int)then θ (([],([],[],[],0,[],[]),[]),1024,4)else((eo fu (s,0)).bind λf=>((((Iu fu f 34).bind λi=>(bif i then((ahs fu f ([],([],[],[],0,[],[]),[])).bind λe=>θ (e.1,e.2.1,e.2.2.1.1,e.2.2.1.2,e.2.2.2.1,e.2.2.2.2.1.1,e.2.2.2.2.1.2.1,e.2.2.2.2.1.2.2.1,e.2.2.2.2.1.2.2.2.1,e.2.2.2.2.1.2.2.2.2.1,e.2.2.2.2.1.2.2.2.2.2,e.2.2.2.2.2))else(gd (γ s<=1000000000)<|(bif (Lib.contains s [60])then((aee fu f ([],([],[],[],0,[],[]),[])).bind λd=>θ (d.1,d.2.1,d.2.2.1.1,d.2.2.1.2,d.2.2.2.1,d.2.2.2.2.1.1,d.2.2.2.2.1.2.1,d.2.2.2.2.1.2.2.1,d.2.2.2.2.1.2.2.2.1,d.2.2.2.2.1.2.2.2.2.1,d.2.2.2.2.1.2.2.2.2.2,d.2.2.2.2.2))else θ (0,0,f.1,f.2,[],[],[],[],0,[],[],[])))))).bind λa=>(((if a.2.1=0 then((ahr fu (a.2.2.1,a.2.2.2.1) (a.2.2.2.2.1,(a.2.2.2.2.2.1,a.2.2.2.2.2.2.1,a.2.2.2.2.2.2.2.1,a.2.2.2.2.2.2.2.2.1,a.2.2.2.2.2.2.2.2.2.1,a.2.2.2.2.2.2.2.2.2.2.1),a.2.2.2.2.2.2.2.2.2.2.2)).bind λc=>θ (c.1,c.2.1,c.2.2.1.1,c.2.2.1.2,c.2.2.2.1,c.2.2.2.2.1.1,c.2.2.2.2.1.2.1,c.2.2.2.2.1.2.2.1,c.2.2.2.2.1.2.2.2.1,c.2.2.2.2.1.2.2.2.2.1,c.2.2.2.2.1.2.2.2.2.2,c.2.2.2.2.2))else θ (a.1,a.2.1,a.2.2.1,a.2.2.2.1,a.2.2.2.2.1,a.2.2.2.2.2.1,a.2.2.2.2.2.2.1,a.2.2.2.2.2.2.2.1,a.2.2.2.2.2.2.2.2.1,a.2.2.2.2.2.2.2.2.2.1,a.2.2.2.2.2.2.2.2.2.2.1,a.2.2.2.2.2.2.2.2.2.2.2))).bind λb=>(((if b.2.1=0 then(gd (0<=b.2.2.2.1/\b.2.2.2.1<=γ s)<|((aka fu (cC (bL b.2.2.2.1) s)).bind λh=>(gd (bJ (h.2.1+b.2.2.2.1))<|some (h.2.1+b.2.2.2.1,h.2.2,h.1))))else θ (b.1,b.2.1,b.2.2.2.2.2.2.2.2.2.2.2))).bind λg=>(if g.2.1=0 then θ ((b.2.2.2.2.1,(b.2.2.2.2.2.1,b.2.2.2.2.2.2.1,b.2.2.2.2.2.2.2.1,b.2.2.2.2.2.2.2.2.1,b.2.2.2.2.2.2.2.2.2.1,b.2.2.2.2.2.2.2.2.2.2.1),g.2.2),0,0)else θ (([],([],[],[],0,[],[]),[]),g.1,g.2.1)))))))
def ayo(fu:Nat)(c:aC):ε (AQ×ζ):=
 ((ZA fu c).bind λb=>((amd fu b).bind λa=>θ (a.1,a.2.2)))
def aud(fu:Nat)(s:aC)(f:(δ ζ)->Int->ε ((δ ζ)⊕(aC×ζ)))(b:δ ζ)(a:Int):ε ((δ ζ)⊕(aC×ζ)):=
 (if a<γ s then(gd (0<=a/\a<γ s)<|((ahv fu (Κ s a)).bind λe=>(bif e then θ (.inr ([],5))else(((((if(Κ s a)=34 then θ μ else θ (decide ((Κ s a)=92)))).bind λd=>(bif d then(gd ((γ b+γ ([(92:ζ)]))*1<=140737488355328)<|some (b++([92])))else θ b))).bind λc=>(gd (0<=a/\a<γ s)<|(gd ((γ c+γ ([Κ s a]))*1<=140737488355328)<|(gd (bJ (a+1))<|(f (c++([Κ s a])) (a+1)))))))))else θ (.inl b))
def alc(fu:Nat)(s:aC):Nat->(δ ζ)->Int->ε ((δ ζ)⊕(aC×ζ)):=λc b a=>bE (λg v=>aud fu s (λb a=>g (b,a)) v.1 v.2) c (b,a)
theorem bhc:alc a d (b+1) f c=aud a d (alc a d b) f c:=rfl
def awl(fu:Nat)(s:aC):ε (aC×ζ):=
 (gd (bJ (γ s+2))<|(@gd _ (0<=(γ s+(2:Int))/\1*(γ s+(2:Int))<=281474976710656) (dMk 1 (γ s+2))<|(gd ((γ ([]:δ ζ)+γ ([(34:ζ)]))*1<=140737488355328)<|(((alc fu s fu ([]++([34])) 0)).bind λb=>dA (λ(a:δ ζ)=>(gd ((γ a+γ ([(34:ζ)]))*1<=140737488355328)<|some (a++([(34:ζ)]),0))) (λq=>θ q) b))))
open Go.Lib renaming hasPrefix → jF, itoa → gK, trimPrefix → eH
open List renaming take → eN
def akj(fu:Nat)(s:aC)(c:Int->ε (Unit⊕η))(a:Int):ε (Unit⊕η):=
 (if a<γ s then(gd (0<=a/\a<γ s)<|((awv fu (Κ s a)).bind λb=>(bif b then θ (.inr ν)else(gd (bJ (a+1))<|(c (a+1))))))else θ (.inl ()))
def asb(fu:Nat)(s:aC):Nat->Int->ε (Unit⊕η):=λb a=>bE (λg v=>akj fu s (λa=>g a) v) b a
theorem avf:asb a d (b+1) c=akj a d (asb a d b) c:=rfl
def aqn(fu:Nat)(s:aC):ε η:=
 (((asb fu s fu 0)).bind λa=>dA (λb=>θ μ) (λq=>θ q) a)
def ajh(fu:Nat)(s:aC)(d:Int->ε (Unit⊕η))(a:Int):ε (Unit⊕η):=
 (if a<(γ (eH s [43]))then(gd (0<=a/\a<(γ (eH s [43])))<|((((ZC fu (Κ (eH s [43]) a)).bind λc=>(bif (!c)then(bif (jF s [43])then θ μ else(if(Κ (eH s [43]) a)=42 then θ ν else θ (!decide ((Κ (eH s [43]) a)=35))))else θ ν))).bind λb=>(bif b then θ (.inr ν)else(gd (bJ (a+1))<|(d (a+1))))))else θ (.inl ()))
def apa(fu:Nat)(s:aC):Nat->Int->ε (Unit⊕η):=λb a=>bE (λg v=>ajh fu s (λa=>g a) v) b a
theorem atf:apa a d (b+1) c=ajh a d (apa a d b) c:=rfl
def ayq(fu:Nat)(s:aC):ε η:=
 (((if(eH s [43])=[]then θ μ else θ (decide (30<(γ (eH s [43]):Int))))).bind λa=>(bif a then θ ν else(((apa fu s fu 0)).bind λb=>dA (λc=>θ μ) (λq=>θ q) b)))
def anr(fu:Nat)(b:LQ)(e:Int)(k:LQ->Int->ε (LQ⊕(LQ×η)))(d:LQ)(a:Int):ε (LQ⊕(LQ×η)):=
 (if a<γ b then(gd (0<=a/\a<γ b)<|(gd (0<=a/\a<γ b)<|((YF fu ((el b a).1)).bind λc=>(((if c=[]then θ μ else((aqn fu c).bind λj=>(bif (!j)then θ μ else((aqn fu ((el b a).2.1)).bind λi=>(bif (!i)then θ μ else((aqm fu d c).bind λh=>θ h))))))).bind λg=>(bif g then θ (.inr ([],ν))else(((if e=2 then(bif (!((el b a).2.2))then θ μ else(if e=1 then θ (!(((el b a).2.2)==(!decide (((el b a).2.1)=[]))))else θ ν))else(if e=1 then θ (!(((el b a).2.2)==(!decide (((el b a).2.1)=[]))))else θ ν))).bind λf=>(bif f then θ (.inr ([],ν))else(gd ((γ d+γ ([(c,(el b a).2.1,((el b a).2.2))]))*40<=140737488355328)<|(gd (bJ (a+1))<|(k (d++([(c,(el b a).2.1,((el b a).2.2))])) (a+1)))))))))))else θ (.inl d))
def aki(fu:Nat)(e:LQ)(d:Int):Nat->LQ->Int->ε (LQ⊕(LQ×η)):=λc b a=>bE (λg v=>anr fu e d (λb a=>g (b,a)) v.1 v.2) c (b,a)
variable{s:LQ}
theorem bca:aki a j c (b+1) s e=anr a j c (aki a j c b) s e:=rfl
def asn(fu:Nat)(a:LQ)(e:Int):ε (LQ×η):=
 (if 16<(γ a:Int)then θ ([],ν)else(((aki fu a e fu [] 0)).bind λd=>dA (λc=>((qz fu c).bind λb=>θ (b,μ))) (λq=>θ q) d))
def ayr(fu:Nat)(a:UQ):ε (UQ×ζ):=
 ((YF fu a.1).bind λb=>(((((if b=([115,105,112])then θ (decide (b=([115,105,112])))else θ (decide (b=([115,105,112,115]))))).bind λj=>(bif j then((ed fu a.2.2.1).bind λc=>(bif c.2 then(if 0<=a.2.2.2.1 then(if a.2.2.2.1<=65535 then((aqn fu a.2.1).bind λi=>θ (i,c.1))else θ (ν,c.1))else θ (ν,c.1))else θ (ν,c.1)))else(if b=([116,101,108])then(if a.2.2.1=[]then(if a.2.2.2.1=0 then(if γ a.2.2.2.2.2=(0:Int)then((ayq fu a.2.1).bind λh=>θ (h,[]))else θ (ν,[]))else θ (ν,[]))else θ (ν,[]))else θ (ν,[]))))).bind λf=>((asn fu a.2.2.2.2.1 1).bind λe=>((asn fu a.2.2.2.2.2 2).bind λd=>(((bif (!f.1)then θ μ else(bif (!e.2)then θ μ else θ (!d.2)))).bind λg=>(bif g then θ (([],[],[],0,[],[]),2)else θ ((b,a.2.1,f.2,a.2.2.2.1,e.1,d.1),0)))))))
def CO(fu:Nat)(b:(Unit×(δ ζ)))(a:aC):ε (Int×Unit×(Unit×(δ ζ))):=
 (gd ((γ b.2+γ a)*1<=140737488355328)<|some (γ a,(),((),b.2++a)))
def anw(fu:Nat)(s:aC)(e:Int)(c:(δ ζ)->Int->ε (δ ζ))(b:δ ζ)(a:Int):ε (δ ζ):=
 (if a<γ s then(gd (0<=a/\a<γ s)<|((aql fu (Κ s a) e).bind λd=>(bif d then(gd (0<=a/\a<γ s)<|(gd ((γ b+γ ([Κ s a]))*1<=140737488355328)<|(gd (bJ (a+1))<|(c (b++([Κ s a])) (a+1)))))else(gd (0<=a/\a<γ s)<|(gd (0<=((Ym (Κ s a) 4).toNat:Int)/\((Ym (Κ s a) 4).toNat)<(γ ([48,49,50,51,52,53,54,55,56,57,65,66,67,68,69,70]:aC):Int))<|(gd (0<=a/\a<γ s)<|(gd (0<=(((Κ s a)&&&15).toNat:Int)/\(((Κ s a)&&&15).toNat)<(γ ([48,49,50,51,52,53,54,55,56,57,65,66,67,68,69,70]:aC):Int))<|(gd ((γ b+γ ([37,Κ ([48,49,50,51,52,53,54,55,56,57,65,66,67,68,69,70]) ((Ym (Κ s a) 4).toNat),Κ ([48,49,50,51,52,53,54,55,56,57,65,66,67,68,69,70]) (((Κ s a)&&&15).toNat)]))*1<=140737488355328)<|(gd (bJ (a+1))<|(c (b++([37,Κ ([48,49,50,51,52,53,54,55,56,57,65,66,67,68,69,70]) ((Ym (Κ s a) 4).toNat),Κ ([48,49,50,51,52,53,54,55,56,57,65,66,67,68,69,70]) (((Κ s a)&&&15).toNat)])) (a+1)))))))))))else θ b)
def akk(fu:Nat)(s:aC)(d:Int):Nat->(δ ζ)->Int->ε (δ ζ):=λc b a=>bE (λg v=>anw fu s d (λb a=>g (b,a)) v.1 v.2) c (b,a)
theorem bcc:akk a d c (b+1) f e=anw a d c (akk a d c b) f e:=rfl
def bq(fu:Nat)(s:aC)(b:Int):ε aC:=
 (@gd _ (0<=(γ s:Int)/\1*(γ s:Int)<=281474976710656) (dMk 1 (γ s))<|(((akk fu s b fu [] 0)).bind λa=>θ a))
def afe(fu:Nat)(b:(Unit×(δ ζ)))(a:ζ):ε (Unit×(Unit×(δ ζ))):=
 (gd ((γ b.2+[a].length)*1<=140737488355328)<|some ((),((),b.2++[a])))
def apc(fu:Nat)(b:(UQ×ζ))(g:Int->Unit->(δ ζ)->ε (Unit×(δ ζ)))(a:Int)(i:Unit)(f:δ ζ):ε (Unit×(δ ζ)):=
 (if a<γ b.1.2.2.2.2.1 then(gd (0<=a/\a<γ b.1.2.2.2.2.1)<|(gd (0<=a/\a<γ b.1.2.2.2.2.1)<|((bq fu ((el b.1.2.2.2.2.1 a).1) 1).bind λe=>(gd (γ ([59]:aC)+γ e<=9223372036854775807)<|((CO fu ((),f) (([59]:aC)++e)).bind λd=>(bif ((el b.1.2.2.2.2.1 a).2.2)then((bq fu ((el b.1.2.2.2.2.1 a).2.1) 1).bind λc=>(gd (γ ([61]:aC)+γ c<=9223372036854775807)<|((CO fu ((),d.2.2.2) (([61]:aC)++c)).bind λh=>(gd (bJ (a+1))<|(g (a+1) () h.2.2.2)))))else(gd (bJ (a+1))<|(g (a+1) () d.2.2.2))))))))else θ ((),f))
def aio(fu:Nat)(d:(UQ×ζ)):Nat->Int->Unit->(δ ζ)->ε (Unit×(δ ζ)):=λe c b a=>bE (λg v=>apc fu d (λc b a=>g (c,b,a)) v.1 v.2.1 v.2.2) e (c,b,a)
variable{t:(UQ×ζ)}{w:Unit}
theorem bdv:aio a t (b+1) c w f=apc a t (aio a t b) c w f:=rfl
def apb(fu:Nat)(b:(UQ×ζ))(j:Int->Unit->(δ ζ)->ε (Unit×(δ ζ)))(a:Int)(k:Unit)(d:δ ζ):ε (Unit×(δ ζ)):=
 (if a<γ b.1.2.2.2.2.2 then(gd (0<=a/\a<γ b.1.2.2.2.2.2)<|(gd (0<=a/\a<γ b.1.2.2.2.2.2)<|(((if a=0 then((afe fu ((),d) 63).bind λi=>θ ((),i.2.2))else((afe fu ((),d) 38).bind λh=>θ ((),h.2.2)))).bind λg=>((bq fu ((el b.1.2.2.2.2.2 a).1) 2).bind λc=>(gd (γ c+γ ([61]:aC)<=9223372036854775807)<|((bq fu ((el b.1.2.2.2.2.2 a).2.1) 2).bind λe=>(gd (γ (c++[61])+γ e<=9223372036854775807)<|((CO fu ((),g.2) ((c++[61])++e)).bind λf=>(gd (bJ (a+1))<|(j (a+1) () f.2.2.2))))))))))else θ ((),d))
def agn(fu:Nat)(d:(UQ×ζ)):Nat->Int->Unit->(δ ζ)->ε (Unit×(δ ζ)):=λe c b a=>bE (λg v=>apb fu d (λc b a=>g (c,b,a)) v.1 v.2.1 v.2.2) e (c,b,a)
theorem bdu:agn a t (b+1) c w f=apb a t (agn a t b) c w f:=rfl
def bbv(fu:Nat)(l:UQ):ε (aC×ζ):=
 ((ayr fu l).bind λa=>(if a.2=0 then(gd (γ a.1.1+γ ([58]:aC)<=9223372036854775807)<|((CO fu ((),[]) (a.1.1++[58])).bind λb=>(((if a.1.1=([116,101,108])then((CO fu ((),b.2.2.2) a.1.2.1).bind λk=>θ ((),k.2.2.2))else(if a.1.2.1=[]then θ ((),b.2.2.2)else((bq fu a.1.2.1 0).bind λe=>(gd (γ e+γ ([64]:aC)<=9223372036854775807)<|((CO fu ((),b.2.2.2) (e++[64])).bind λj=>θ ((),j.2.2.2))))))).bind λi=>((CO fu ((),i.2) a.1.2.2.1).bind λd=>(((if a.1.2.2.2.1=0 then θ ((),d.2.2.2)else(gd (bJ a.1.2.2.2.1)<|(gd (γ ([58]:aC)+γ (gK a.1.2.2.2.1)<=9223372036854775807)<|((CO fu ((),d.2.2.2) (([58]:aC)++(gK a.1.2.2.2.1))).bind λh=>θ ((),h.2.2.2)))))).bind λg=>(((aio fu a fu 0 () g.2)).bind λf=>(((agn fu a fu 0 () f.2)).bind λc=>(gd (γ c.2<=140737488355328)<|some (c.2,0)))))))))else θ ([],a.2)))
def aif(fu:Nat)(b:LQ)(h:Int->Unit->(δ ζ)->ε ((Unit×(δ ζ))⊕(aC×ζ)))(a:Int)(r:Unit)(g:δ ζ):ε ((Unit×(δ ζ))⊕(aC×ζ)):=
 (if a<γ b then(gd (0<=a/\a<γ b)<|(gd (0<=a/\a<γ b)<|((((ZB fu ((el b a).1)).bind λp=>(bif (!p)then θ μ else((YF fu ((el b a).1)).bind λo=>(if((el b a).1)=o then(gd (0<=a/\a<=γ b)<|((aqm fu (eN (bL a) b) ((el b a).1)).bind λn=>θ n))else θ μ))))).bind λm=>(bif m then θ (.inr ([],2))else(gd (γ ([59]:aC)+γ ((el b a).1)<=9223372036854775807)<|((CO fu ((),g) (([59]:aC)++((el b a).1))).bind λf=>(bif (!((el b a).2.2))then(if((el b a).2.1)=[]then(gd (bJ (a+1))<|(h (a+1) () f.2.2.2))else θ (.inr ([],2)))else((((ed fu ((el b a).2.1)).bind λe=>((((ZB fu ((el b a).2.1)).bind λl=>(bif (!l)then(bif e.2 then(if e.1=((el b a).2.1)then(gd (0<=(0:Int)/\0<(γ ((el b a).2.1):Int))<|some (!decide ((Κ ((el b a).2.1) 0)=91)))else θ μ)else θ μ)else θ ν))).bind λk=>(bif k then((awl fu ((el b a).2.1)).bind λd=>(if d.2=0 then θ (.inl d.1)else θ (.inr ([],2))))else θ (.inl ((el b a).2.1)))))).bind λj=>dA (λc=>(gd (γ ([61]:aC)+γ c<=9223372036854775807)<|((CO fu ((),f.2.2.2) (([61]:aC)++c)).bind λi=>(gd (bJ (a+1))<|(h (a+1) () i.2.2.2))))) (λq=>θ (.inr q)) j))))))))else θ (.inl ((),g)))
def aeq(fu:Nat)(e:LQ):Nat->Int->Unit->(δ ζ)->ε ((Unit×(δ ζ))⊕(aC×ζ)):=λd c b a=>bE (λg v=>aif fu e (λc b a=>g (c,b,a)) v.1 v.2.1 v.2.2) d (c,b,a)
theorem avg:aeq a j (b+1) c w f=aif a j (aeq a j b) c w f:=rfl
def YH(fu:Nat)(b:LQ):ε (aC×ζ):=
 (if 16<(γ b:Int)then θ ([],2)else(((aeq fu b fu 0 () [])).bind λc=>dA (λa=>(gd (γ a.2<=140737488355328)<|some (a.2,0))) (λq=>θ q) c))
def amc(fu:Nat)(d:AQ):ε (aC×ζ):=
 ((awl fu d.1).bind λb=>(if b.2=0 then((bbv fu d.2.1).bind λa=>(if a.2=0 then((qz fu d.2.2).bind λe=>((YH fu e).bind λc=>(if c.2=0 then(if d.1=[]then(gd (γ ([60]:aC)+γ a.1<=9223372036854775807)<|(gd (γ ([60]++a.1)+γ ([62]:aC)<=9223372036854775807)<|(gd (γ (([60]++a.1)++[62])+γ c.1<=9223372036854775807)<|some (((([60]:aC)++a.1)++([62]:aC))++c.1,0))))else(gd (γ b.1+γ ([32,60]:aC)<=9223372036854775807)<|(gd (γ (b.1++([32,60]))+γ a.1<=9223372036854775807)<|(gd (γ ((b.1++([32,60]))++a.1)+γ ([62]:aC)<=9223372036854775807)<|(gd (γ (((b.1++([32,60]))++a.1)++[62])+γ c.1<=9223372036854775807)<|some ((((b.1++([32,60]))++a.1)++[62])++c.1,0))))))else θ ([],2))))else θ ([],2)))else θ ([],2)))
open Go.Lib renaming indexAny → Cz
open List renaming drop → cC, set → jH, take → eN
def adf(fu:Nat)(s:aC)(d:aC->Int->ε aC)(b:aC)(a:Int):ε aC:=
 (if a<γ s then(gd (0<=a/\a<γ b)<|(gd (0<=a/\a<γ b)<|((ann fu (Κ b a)).bind λc=>(gd (0<=a/\a<γ b)<|(gd (0<=a/\a<γ b)<|(gd (bJ (a+1))<|(d (jH b (bL a) c) (a+1))))))))else θ b)
def adk(fu:Nat)(s:aC):Nat->aC->Int->ε aC:=λc b a=>bE (λg v=>adf fu s (λb a=>g (b,a)) v.1 v.2) c (b,a)
theorem air:adk a d (b+1) m c=adf a d (adk a d b) m c:=rfl
def aci(fu:Nat)(s:aC):ε aC:=
 (((adk fu s fu s 0)).bind λa=>θ a)
def aym(fu:Nat)(s:aC):ε PQ:=
 (gd (γ s<=1000000000)<|(((if(kR (·==58) s)<0 then θ μ else(gd (0<=(kR (·==58) s)/\(kR (·==58) s)<=γ s)<|(gd (γ (eN (bL (kR (·==58) s)) s)<=1000000000)<|(bif (Lib.contains (eN (bL (kR (·==58) s)) s) [91])then(gd (0<=(kR (·==58) s)/\(kR (·==58) s)<=γ s)<|(gd (γ (cC (bL (kR (·==58) s)) s)<=1000000000)<|some (Lib.contains (cC (bL (kR (·==58) s)) s) [93])))else θ ν))))).bind λa=>(bif a then θ (s,[],ν)else(gd (0<=(kR (·==58) s)/\(kR (·==58) s)<=γ s)<|(gd (bJ ((kR (·==58) s)+1))<|(gd (0<=((kR (·==58) s)+1)/\((kR (·==58) s)+1)<=γ s)<|some (eN (bL (kR (·==58) s)) s,cC (bL ((kR (·==58) s)+1)) s,μ)))))))
def auk(fu:Nat)(b:LQ)(c:aC)(e:Int->ε (Unit⊕(aC×η)))(a:Int):ε (Unit⊕(aC×η)):=
 (if a<γ b then(gd (0<=a/\a<γ b)<|(gd (0<=a/\a<γ b)<|((YF fu ((el b a).1)).bind λd=>(if d=c then θ (.inr ((el b a).2.1,μ))else(gd (bJ (a+1))<|(e (a+1)))))))else θ (.inl ()))
def aqp(fu:Nat)(d:LQ)(b:aC):Nat->Int->ε (Unit⊕(aC×η)):=λc a=>bE (λg v=>auk fu d b (λa=>g a) v) c a
theorem bhg:aqp a j d (b+1) c=auk a j d (aqp a j d b) c:=rfl
def bbw(fu:Nat)(d:LQ)(c:aC):ε (aC×η):=
 ((YF fu c).bind λa=>(((aqp fu d a fu 0)).bind λb=>dA (λe=>θ ([],ν)) (λq=>θ q) b))
def bir(fu:Nat)(t:aC):ε ((aC×aC×Int×aC×LQ)×ζ):=
 ((ZA fu t).bind λa=>(((if γ a<(8:Int)then θ μ else(gd (0<=(8:Int)/\8<=(γ a:Int))<|((aci fu (eN (bL 8) a)).bind λs=>θ (!decide (s=([83,73,80,47,50,46,48,47]))))))).bind λr=>(bif r then θ (([],[],0,[],[]),5)else((ra fu a 8).bind λd=>((qw fu a d).bind λc=>(((if d=8 then θ μ else θ (decide (c=d)))).bind λp=>(bif p then θ (([],[],0,[],[]),5)else(gd (0<=(8:Int)/\8<=d/\d<=γ a)<|((aci fu (sub a 8 d)).bind λo=>(gd (0<=c/\c<=γ a)<|(((gd (γ (cC (bL c) a)<=1000000000/\γ ([59,32,9]:aC)<=1000/\([59,32,9]:aC).all (λb=>decide (b.toNat<128))=μ)<|(if 0<=(Cz (cC (bL c) a) ([59,32,9]))then(gd (0<=(Cz (cC (bL c) a) ([59,32,9]))/\(Cz (cC (bL c) a) ([59,32,9]))<=(γ (cC (bL c) a)))<|(gd (0<=(Cz (cC (bL c) a) ([59,32,9]))/\(Cz (cC (bL c) a) ([59,32,9]))<=(γ (cC (bL c) a)))<|some (eN (bL (Cz (cC (bL c) a) ([59,32,9]))) (cC (bL c) a),cC (bL (Cz (cC (bL c) a) ([59,32,9]))) (cC (bL c) a))))else θ (cC (bL c) a,[])))).bind λ(j:(aC×aC))=>((aym fu j.1).bind λg=>((ed fu g.1).bind λi=>(bif (!i.2)then θ (([],[],0,[],[]),5)else(((bif g.2.2 then((vz fu g.2.1).bind λe=>(((((if e.2=0 then(if e.1<1 then θ μ else θ (decide (65535<e.1)))else θ ν)).bind λn=>(bif n then θ 3 else θ e.2))).bind λh=>(if h=0 then θ (.inl e.1)else θ (.inr (([],[],0,[],[]),h)))))else θ (.inl 0))).bind λm=>dA (λl=>((aka fu j.2).bind λf=>(if f.2.2=0 then((bbw fu f.1 ([98,114,97,110,99,104])).bind λk=>θ ((o,i.1,l,k.1,f.1),0))else θ (([],[],0,[],[]),f.2.2)))) (λq=>θ q) m)))))))))))))))
def amq(fu:Nat)(s:LQ):ε LQ:=
 θ s
def ace(fu:Nat)(b:PQ)(a:LQ):ε (Nat×LQ):=
 (gd ((γ a+[b].length)*40<=140737488355328)<|some (0,a++[b]))
def aao(fu:Nat)(b:LQ)(e:Int->LQ->ε (LQ×Nat))(a:Int)(d:LQ):ε (LQ×Nat):=
 (if a<γ b then(gd (0<=a/\a<γ b)<|(gd (0<=a/\a<γ b)<|((ace fu ((el b a).1,(el b a).2.1,((el b a).2.2)) d).bind λc=>(if c.1=0 then(gd (bJ (a+1))<|(e (a+1) c.2))else θ (c.2,c.1)))))else θ (d,0))
def aaj(fu:Nat)(d:LQ):Nat->Int->LQ->ε (LQ×Nat):=λc b a=>bE (λg v=>aao fu d (λb a=>g (b,a)) v.1 v.2) c (b,a)
theorem abn:aaj a j (b+1) c s=aao a j (aaj a j b) c s:=rfl
def abc(fu:Nat)(b:LQ)(a:LQ):ε (LQ×Nat):=
 (aaj fu a fu 0 b)
def ady(fu:Nat)(s:LQ)(b:LQ):ε LQ:=
 ((abc fu s b).bind λa=>(if a.2=0 then θ a.1 else ι))
def ada(fu:Nat)(b:LQ):ε LQ:=
 ((ady fu [] b).bind λa=>θ a)
def Ck(fu:Nat)(c:PQ)(b:PQ):ε Int:=
 ((aoy fu c.1 b.1).bind λa=>θ a)
open Go.Lib renaming indexAny → Cz, itoa → gK
def alo:=aav
def aqs:=acl
def acm:=abb
def abf(fu:Nat)(c:LQ):ε LQ:=
 ((ada fu c).bind λb=>((acm fu b).bind λa=>θ a))
def YG(fu:Nat)(a:LQ):ε LQ:=
 ((amq fu a).bind λc=>((abf fu a).bind λb=>θ b))
def aly(fu:Nat)(b:(aC×aC×Int×aC×LQ))(d:LQ->Int->ε LQ)(c:LQ)(a:Int):ε LQ:=
 (if a<γ b.2.2.2.2 then(gd (0<=a/\a<γ b.2.2.2.2)<|(gd (0<=a/\a<γ b.2.2.2.2)<|(if((el b.2.2.2.2 a).1)=([98,114,97,110,99,104])then(gd (bJ (a+1))<|(d c (a+1)))else(gd ((γ c+γ ([((el b.2.2.2.2 a).1,(el b.2.2.2.2 a).2.1,((el b.2.2.2.2 a).2.2))]))*40<=140737488355328)<|(gd (bJ (a+1))<|(d (c++([((el b.2.2.2.2 a).1,(el b.2.2.2.2 a).2.1,((el b.2.2.2.2 a).2.2))])) (a+1)))))))else θ c)
def ajd(fu:Nat)(d:(aC×aC×Int×aC×LQ)):Nat->LQ->Int->ε LQ:=λc b a=>bE (λg v=>aly fu d (λb a=>g (b,a)) v.1 v.2) c (b,a)
variable{o:(aC×aC×Int×aC×LQ)}
theorem bbk:ajd a o (b+1) j c=aly a o (ajd a o b) j c:=rfl
def awn(fu:Nat)(a:(aC×aC×Int×aC×LQ)):ε (aC×ζ):=
 ((ed fu a.2.1).bind λc=>(((bif (!c.2)then θ μ else((ZB fu a.1).bind λj=>(bif (!j)then θ μ else(if a.2.2.1<0 then θ μ else θ (decide (65535<a.2.2.1))))))).bind λi=>(bif i then θ ([],2)else(((ajd fu a fu [] 0)).bind λf=>(((if a.2.2.2.1=[]then θ f else(gd ((γ f+γ ([(([98,114,97,110,99,104]),a.2.2.2.1,μ)]:LQ))*40<=140737488355328)<|some (f++([(([98,114,97,110,99,104]),a.2.2.2.1,μ)]:LQ))))).bind λh=>((YG fu h).bind λg=>((YH fu g).bind λe=>(if e.2=0 then(((if a.2.2.1=0 then θ c.1 else(gd (bJ a.2.2.1)<|(gd (γ ([58]:aC)+γ (gK a.2.2.1)<=9223372036854775807)<|(gd (γ c.1+γ ([58]++(gK a.2.2.1))<=9223372036854775807)<|some (c.1++([58]++(gK a.2.2.1)))))))).bind λd=>((aci fu a.1).bind λb=>(gd (γ ([83,73,80,47,50,46,48,47]:aC)+γ b<=9223372036854775807)<|(gd (γ (([83,73,80,47,50,46,48,47])++b)+γ ([32]:aC)<=9223372036854775807)<|(gd (γ ((([83,73,80,47,50,46,48,47])++b)++[32])+γ d<=9223372036854775807)<|(gd (γ (((([83,73,80,47,50,46,48,47])++b)++[32])++d)+γ e.1<=9223372036854775807)<|some ((((([83,73,80,47,50,46,48,47]:aC)++b)++([32]:aC))++d)++e.1,0)))))))else θ ([],2)))))))))
def aqe(fu:Nat)(s:aC):ε (Int×aC×ζ):=
 (gd (γ s<=1000000000/\γ ([32,9]:aC)<=1000/\([32,9]:aC).all (λb=>decide (b.toNat<128))=μ)<|(((if(Cz s ([32,9]))<0 then θ (γ s:Int)else θ (Cz s ([32,9])))).bind λa=>(gd (0<=a/\a<=γ s)<|((vz fu (eN (bL a) s)).bind λd=>((qw fu s a).bind λc=>(gd (0<=c/\c<=γ s)<|some (d.1,cC (bL c) s,d.2)))))))
def bbm(fu:Nat)(d:aC):ε (Int×aC×ζ):=
 ((ZA fu d).bind λb=>((aqe fu b).bind λa=>(if a.2.2=0 then((ZB fu a.2.1).bind λc=>(bif (!c)then θ (0,[],5)else θ (a.1,a.2.1,0)))else θ (0,[],a.2.2))))
def bfp(fu:Nat)(d:aC):ε (Int×Int×aC×ζ):=
 ((ZA fu d).bind λc=>((aqe fu c).bind λa=>(if a.2.2=0 then((bbm fu a.2.1).bind λb=>(if b.2.2=0 then θ (a.1,b.1,b.2.1,0)else θ (0,0,[],b.2.2)))else θ (0,0,[],a.2.2))))
def bbl(fu:Nat)(c:aC):ε (Int×ζ):=
 ((ZA fu c).bind λb=>((vz fu b).bind λa=>θ (a.1,a.2)))
open Go.Lib renaming cut → eF, hasPrefix → jF, itoa → gK, join → cK, trimPrefix → eH
def bfr(fu:Nat)(h:aC):ε ((aC×LQ)×ζ):=
 ((ZA fu h).bind λb=>((ra fu b 0).bind λa=>(if a=0 then θ (([],[]),5)else(((((if a<γ b then(gd (0<=a/\a<γ b)<|some (decide ((Κ b a)=47)))else θ ν)).bind λg=>(bif g then(gd (bJ (a+1))<|((ra fu b (a+1)).bind λe=>(gd (bJ (a+1))<|(if e=(a+1)then θ (.inr (([],[]),5))else θ (.inl e)))))else θ (.inl a)))).bind λf=>dA (λc=>(gd (0<=c/\c<=(γ b:Int))<|((aka fu (cC (bL c) b)).bind λd=>(if d.2.2=0 then(gd (0<=c/\c<=γ b)<|some ((eN (bL c) b,d.1),0))else θ (([],[]),d.2.2))))) (λq=>θ q) f))))
def auf(fu:Nat)(a:(aC×LQ)):ε (aC×ζ):=
 (gd (γ a.1<=1000000000)<|((((ZB fu ((eF a.1 [47]).1)).bind λf=>(bif (!f)then θ μ else(bif ((eF a.1 [47]).2.2)then((ZB fu ((eF a.1 [47]).2.1)).bind λe=>θ (!e))else θ ν)))).bind λd=>(bif d then θ ([],2)else((YG fu a.2).bind λc=>((YH fu c).bind λb=>(if b.2=0 then(gd (γ a.1+γ b.1<=9223372036854775807)<|some (a.1++b.1,0))else θ ([],2)))))))
def bbj(fu:Nat)(m:aC)(d:aC):ε (aC×ζ):=
 ((wa fu m).bind λc=>(if c=1 then(((if m=([67,111,110,116,97,99,116])then((ZA fu d).bind λq=>θ (decide (q=[42])))else θ ν)).bind λp=>(bif p then θ ([42],0)else((ayo fu d).bind λh=>(if h.2=0 then((amc fu h.1).bind λl=>θ (l.1,l.2))else θ ([],h.2)))))else(if c=2 then((bir fu d).bind λg=>(if g.2=0 then((awn fu g.1).bind λk=>θ (k.1,k.2))else θ ([],g.2)))else(if c=3 then((bbm fu d).bind λb=>(if b.2.2=0 then(gd (bJ b.1)<|(gd (γ (gK b.1)+γ ([32]:aC)<=9223372036854775807)<|(gd (γ ((gK b.1)++[32])+γ b.2.1<=9223372036854775807)<|some (((gK b.1)++([32]:aC))++b.2.1,0))))else θ ([],b.2.2)))else(if c=4 then((bfp fu d).bind λa=>(if a.2.2.2=0 then(gd (bJ a.1)<|(gd (γ (gK a.1)+γ ([32]:aC)<=9223372036854775807)<|(gd (bJ a.2.1)<|(gd (γ ((gK a.1)++[32])+γ (gK a.2.1)<=9223372036854775807)<|(gd (γ (((gK a.1)++[32])++(gK a.2.1))+γ ([32]:aC)<=9223372036854775807)<|(gd (γ ((((gK a.1)++[32])++(gK a.2.1))++[32])+γ a.2.2.1<=9223372036854775807)<|some (((((gK a.1)++([32]:aC))++(gK a.2.1))++([32]:aC))++a.2.2.1,0)))))))else θ ([],a.2.2.2)))else(if c=5 then((bbl fu d).bind λe=>(if e.2=0 then(gd (bJ e.1)<|some (gK e.1,0))else θ ([],e.2)))else(((if c=6 then θ (decide (c=6))else θ (decide (c=7)))).bind λo=>(bif o then((bfr fu d).bind λf=>(if f.2=0 then((auf fu f.1).bind λj=>θ (j.1,j.2))else θ ([],f.2)))else((ZA fu d).bind λi=>((awl fu i).bind λn=>(if n.2=0 then θ (i,0)else θ ([],5))))))))))))
def bbi(fu:Nat)(s:aC)(d:Int)(a:Int):ε (Int×aC):=
 ((qw fu s d).bind λc=>(gd (0<=(min c a)/\(min c a)<=a/\a<=γ s)<|(gd (γ (sub s (min c a) a)<=1000000000)<|gd (γ ([32,9]:aC)<=1000/\([32,9]:aC).all (λb=>decide (b.toNat<128))=μ)<|some (min c a,Lib.trimRightS (sub s (min c a) a) ([32,9])))))
def anl(fu:Nat)(s:aC)(g:ζ)(e:eR->Int->Int->ε ((eR×Int)⊕(eR×Int×ζ)))(b:eR)(c:Int)(a:Int):ε ((eR×Int)⊕(eR×Int×ζ)):=
 (if a<γ s then(gd (0<=a/\a<γ s)<|(if(Κ s a)=34 then((aqc fu s a).bind λd=>(if d.2.2=0 then(e b c d.2.1)else θ (.inr ([],d.2.1,d.2.2))))else(if(Κ s a)=60 then(gd (0<=a/\a<=γ s)<|(if(dM (·==62) (cC (bL a) s))<0 then θ (.inr ([],γ s,6))else(gd (bJ ((dM (·==62) (cC (bL a) s))+1))<|(gd (bJ (a+((dM (·==62) (cC (bL a) s))+1)))<|(e b c (a+((dM (·==62) (cC (bL a) s))+1)))))))else(if(Κ s a)=62 then θ (.inr ([],a,5))else(if(Κ s a)=g then((bbi fu s c a).bind λf=>(gd ((γ b+[f].length)*24<=140737488355328)<|(gd (bJ (a+1))<|(e (b++[f]) (a+1) (a+1)))))else(gd (bJ (a+1))<|(e b c (a+1))))))))else θ (.inl (b,c)))
def aqd(fu:Nat)(s:aC)(e:ζ):Nat->eR->Int->Int->ε ((eR×Int)⊕(eR×Int×ζ)):=λd c b a=>bE (λg v=>anl fu s e (λc b a=>g (c,b,a)) v.1 v.2.1 v.2.2) d (c,b,a)
variable{x:eR}
theorem azh:aqd a d h (b+1) x c e=anl a d h (aqd a d h b) x c e:=rfl
def bfm(fu:Nat)(s:aC)(a:ζ):ε (eR×Int×ζ):=
 ((((eh fu a).bind λf=>(bif f then θ μ else(if a=34 then θ μ else(if a=60 then θ μ else θ (decide (a=62))))))).bind λe=>(bif e then θ ([],0,2)else(((aqd fu s a fu [] 0 0)).bind λd=>dA (λb=>((bbi fu s b.2 (γ s)).bind λc=>(gd ((γ b.1+[c].length)*24<=140737488355328)<|some (b.1++[c],0,0)))) (λq=>θ q) d)))
def aug(fu:Nat)(b:(eR×Int×ζ))(d:(δ aC)->Int->ε ((δ aC)⊕((δ aC)×ζ)))(c:δ aC)(a:Int):ε ((δ aC)⊕((δ aC)×ζ)):=
 (if a<γ b.1 then(gd (0<=a/\a<γ b.1)<|(gd (0<=a/\a<γ b.1)<|(if((el b.1 a).2)=[]then θ (.inr ([],5))else(gd ((γ c+γ ([(el b.1 a).2]))*16<=140737488355328)<|(gd (bJ (a+1))<|(d (c++([(el b.1 a).2])) (a+1)))))))else θ (.inl c))
def aqg(fu:Nat)(c:(eR×Int×ζ)):Nat->(δ aC)->Int->ε ((δ aC)⊕((δ aC)×ζ)):=λd b a=>bE (λg v=>aug fu c (λb a=>g (b,a)) v.1 v.2) d (b,a)
variable{i:(eR×Int×ζ)}{k:δ aC}
theorem bhe:aqg a i (b+1) k c=aug a i (aqg a i b) k c:=rfl
def bfq(fu:Nat)(d:aC):ε ((δ aC)×ζ):=
 ((bfm fu d 44).bind λa=>(if a.2.2=0 then(((aqg fu a fu [] 0)).bind λc=>dA (λb=>θ (b,0)) (λq=>θ q) c)else θ ([],a.2.2)))
def aue(fu:Nat)(d:(aC×ζ))(f:((δ aC)×ζ))(e:(δ aC)->Int->ε ((δ aC)⊕(aC×ζ)))(b:δ aC)(a:Int):ε ((δ aC)⊕(aC×ζ)):=
 (if a<γ f.1 then(gd (0<=a/\a<γ b)<|(gd (0<=a/\a<γ b)<|((bbj fu d.1 (el b a)).bind λc=>(gd (0<=a/\a<γ b)<|(gd (0<=a/\a<γ b)<|(if c.2=0 then(gd (bJ (a+1))<|(e (jH b (bL a) c.1) (a+1)))else θ (.inr ([],c.2))))))))else θ (.inl b))
def aqf(fu:Nat)(c:(aC×ζ))(e:((δ aC)×ζ)):Nat->(δ aC)->Int->ε ((δ aC)⊕(aC×ζ)):=λd b a=>bE (λg v=>aue fu c e (λb a=>g (b,a)) v.1 v.2) d (b,a)
variable{u:(aC×ζ)}{q:((δ aC)×ζ)}
theorem bhd:aqf a u q (b+1) k c=aue a u q (aqf a u q b) k c:=rfl
def bfo(fu:Nat)(h:aC)(e:aC):ε (aC×ζ):=
 ((asv fu h).bind λa=>(if a.2=0 then((arw fu a.1).bind λf=>(bif (!f)then((bbj fu a.1 e).bind λd=>θ (d.1,d.2))else((bfq fu e).bind λb=>(if b.2=0 then(((aqf fu a b fu b.1 0)).bind λg=>dA (λ(c:δ aC)=>(gd (γ c<=1000000000/\γ (cK c ([44,32]))<=100000000000)<|some (cK c ([44,32]),0))) (λq=>θ q) g)else θ ([],b.2)))))else θ ([],5)))
def aje(fu:Nat)(c:aC)(b:aC):ε ((aC×aC)×ζ):=
 (if 1024<(γ b:Int)then θ (([],[]),4)else((bfo fu c b).bind λa=>(if a.2=0 then(if 1024<(γ a.1:Int)then θ (([],[]),4)else θ ((c,a.1),0))else θ (([],[]),a.2))))
def aqi(fu:Nat)(a:aC):ε ((aC×aC)×ζ):=
 (gd (γ a<=1000000000)<|(bif (!((eF a [58]).2.2))then θ (([],[]),5)else(gd (γ ((eF a [58]).1)<=1000000000)<|gd (γ ([32,9]:aC)<=1000/\([32,9]:aC).all (λb=>decide (b.toNat<128))=μ)<|((asv fu (Lib.trimRightS ((eF a [58]).1) ([32,9]))).bind λd=>(if d.2=0 then(gd (γ ((eF a [58]).2.1)<=1000000000)<|gd (γ ([32,9]:aC)<=1000/\([32,9]:aC).all (λb=>decide (b.toNat<128))=μ)<|((aje fu d.1 (Lib.trimS ((eF a [58]).2.1) ([32,9]))).bind λc=>θ (c.1,c.2)))else θ (([],[]),5))))))
def aih(fu:Nat)(b:(eR×Int×ζ))(g:Int->jY->ε (jY⊕(Qy×Int×ζ)))(a:Int)(d:jY):ε (jY⊕(Qy×Int×ζ)):=
 (if a<γ b.1 then(gd (0<=a/\a<γ b.1)<|(gd (0<=a/\a<γ b.1)<|((aqi fu ((el b.1 a).2)).bind λc=>(((((if c.2=0 then θ (decide (γ d=(64:Int)))else θ ν)).bind λf=>(bif f then θ 4 else θ c.2))).bind λe=>(if e=0 then(gd ((γ d+[c.1].length)*32<=140737488355328)<|(gd (bJ (a+1))<|(g (a+1) (d++[c.1]))))else θ (.inr (([],[]),(el b.1 a).1,e)))))))else θ (.inl d))
def agx(fu:Nat)(d:(eR×Int×ζ)):Nat->Int->jY->ε (jY⊕(Qy×Int×ζ)):=λc b a=>bE (λg v=>aih fu d (λb a=>g (b,a)) v.1 v.2) c (b,a)
variable{y:jY}
theorem ary:agx a i (b+1) c y=aih a i (agx a i b) c y:=rfl
def aqh(fu:Nat)(a:aC):ε (Qy×Int×ζ):=
 (bif (jF a ([13,10]))then θ (([],eH a ([13,10])),0,0)else(gd (γ a<=1000000000)<|(bif (!((eF a ([13,10,13,10])).2.2))then θ (([],[]),0,5)else(gd (γ ((eF a ([13,10,13,10])).1)+γ ([13,10]:aC)<=9223372036854775807)<|((aoh fu (((eF a ([13,10,13,10])).1)++([13,10]:aC))).bind λb=>(if b.2.2=0 then(((agx fu b fu 0 [])).bind λd=>dA (λc=>θ ((c,(eF a ([13,10,13,10])).2.1),0,0)) (λq=>θ q) d)else θ (([],[]),b.2.1,b.2.2)))))))
def arz(fu:Nat)(e:δ ζ)(i:aC)(h:eK->Int->Int->η->ε ((eK×Int×Int×η)⊕(eK×Int×ζ)))(d:eK)(g:Int)(a:Int)(f:η):ε ((eK×Int×Int×η)⊕(eK×Int×ζ)):=
 (bif (!f)then(if γ d=(8:Int)then θ (.inr ([],g,4))else((aes fu e a i).bind λb=>(bif (!b.2)then θ (.inr ([],γ e,6))else(gd (bJ (b.1.1-2))<|(gd (0<=a/\a<=(max (b.1.1-2) a)/\(max (b.1.1-2) a)<=γ e)<|((aqh fu (sub e a (max (b.1.1-2) a))).bind λc=>(if c.2.2=0 then(gd ((γ d+1)*48<=140737488355328)<|(h (d++[c.1]) b.1.1 b.1.2.1 b.1.2.2))else(gd (bJ (a+c.2.1))<|some (.inr ([],a+c.2.1,c.2.2))))))))))else θ (.inl (d,g,a,f)))
def ano(fu:Nat)(h:δ ζ)(f:aC):Nat->eK->Int->Int->η->ε ((eK×Int×Int×η)⊕(eK×Int×ζ)):=λe d c b a=>bE (λg v=>arz fu h f (λd c b a=>g (d,c,b,a)) v.1 v.2.1 v.2.2.1 v.2.2.2) e (d,c,b,a)
variable{n:eK}
theorem bet:ano a f d (b+1) n c e l=arz a f d (ano a f d b) n c e l:=rfl
def asw(fu:Nat)(b:δ ζ)(c:aC):ε (eK×Int×ζ):=
 ((aqj fu c).bind λd=>(bif (!d)then θ ([],0,2)else(if 8192<(γ b:Int)then θ ([],8192,4)else((aes fu b 0 c).bind λa=>(bif (!a.2)then θ ([],γ b,6)else(bif a.1.2.2 then θ ([],a.1.1,5)else(((ano fu b c fu [] a.1.1 a.1.2.1 a.1.2.2)).bind λf=>dA (λe=>θ (e.1,0,0)) (λq=>θ q) f)))))))
def pN(fu:Nat)(c:ζ)(b:Int->ε (Unit⊕η))(a:Int):ε (Unit⊕η):=
 (if a<(γ ([45,46,33,37,42,95,43,39,126]:aC))then(gd (0<=a/\a<(γ ([45,46,33,37,42,95,43,39,126]:aC)))<|(if(Κ ([45,46,33,37,42,95,43,39,126]) a)=c then θ (.inr μ)else(gd (bJ (a+1))<|(b (a+1)))))else θ (.inl ()))
def qO(fu:Nat)(c:ζ):Nat->Int->ε (Unit⊕η):=λb a=>bE (λg v=>pN fu c (λa=>g a) v) b a
def awj(fu:Nat)(a:ζ):ε η:=
 (((if 65<=a then(if a<=90 then θ μ else(if 97<=a then(if a<=122 then θ μ else(if 48<=a then θ (decide (a<=57))else θ ν))else(if 48<=a then θ (decide (a<=57))else θ ν)))else(if 97<=a then(if a<=122 then θ μ else(if 48<=a then θ (decide (a<=57))else θ ν))else(if 48<=a then θ (decide (a<=57))else θ ν)))).bind λc=>(bif c then θ μ else(((qO fu a fu 0)).bind λb=>dA (λd=>θ (decide (a=96))) (λq=>θ q) b)))
def anh(fu:Nat)(s:aC)(d:Int->ε Int)(a:Int):ε Int:=
 (((if a<γ s then(gd (0<=a/\a<γ s)<|((awj fu (Κ s a)).bind λc=>θ c))else θ ν)).bind λb=>(bif b then(gd (bJ (a+1))<|(d (a+1)))else θ a))
def aou(fu:Nat)(s:aC):Nat->Int->ε Int:=λb a=>bE (λg v=>anh fu s (λa=>g a) v) b a
theorem bbz:aou a d (b+1) c=anh a d (aou a d b) c:=rfl
def eg(fu:Nat)(s:aC)(b:Int):ε Int:=
 (((aou fu s fu (min (max b 0) (γ s)))).bind λa=>θ a)
def bp(fu:Nat)(s:aC):ε η:=
 (((if s=[]then θ ν else((eg fu s 0).bind λb=>θ (decide (b=γ s))))).bind λa=>θ a)
def bas(fu:Nat)(s:aC):ε η:=
 ((((bp fu s).bind λb=>(bif b then θ (decide (γ s<=(70:Int)))else θ ν))).bind λa=>θ a)
def XZ(fu:Nat)(s:aC)(a:Int)(b:aC):ε η:=
 (((if 0<=a then(gd (bJ (a+γ b))<|(if(a+γ b)<=γ s then(gd (bJ (a+γ b))<|(gd (0<=a/\a<=(a+γ b)/\(a+γ b)<=γ s)<|some (decide ((sub s a (a+γ b))=b))))else θ ν))else θ ν)).bind λc=>θ c)
def bff(fu:Nat)(s:aC)(a:Int)(b:aC):ε η:=
 (((gd (γ ([45,45]:aC)+γ b<=9223372036854775807)<|((XZ fu s a (([45,45]:aC)++b)).bind λe=>(bif e then(if a=0 then θ μ else(gd (bJ (a-2))<|((XZ fu s (a-2) ([13,10])).bind λd=>θ d)))else θ ν)))).bind λc=>θ c)
def TA(fu:Nat)(a:ζ):ε η:=
 (((if a=32 then θ μ else θ (decide (a=9)))).bind λb=>θ b)
def alv(fu:Nat)(s:aC)(d:Int->ε Int)(a:Int):ε Int:=
 (((if a<γ s then(gd (0<=a/\a<γ s)<|((TA fu (Κ s a)).bind λc=>θ c))else θ ν)).bind λb=>(bif b then(gd (bJ (a+1))<|(d (a+1)))else θ a))
def aua(fu:Nat)(s:aC):Nat->Int->ε Int:=λb a=>bE (λg v=>alv fu s (λa=>g a) v) b a
theorem axf:aua a d (b+1) c=alv a d (aua a d b) c:=rfl
def JP(fu:Nat)(s:aC)(b:Int):ε Int:=
 (((aua fu s fu (min (max b 0) (γ s)))).bind λa=>θ a)
def avp(fu:Nat)(s:aC)(a:Int)(b:aC):ε (Int×η):=
 ((bff fu s a b).bind λe=>(bif (!e)then θ (0,ν)else(gd (bJ (a+2))<|(gd (bJ ((a+2)+γ b))<|((XZ fu s ((a+2)+γ b) ([45,45])).bind λd=>(((bif d then(gd (bJ (((a+2)+γ b)+2))<|some (((a+2)+γ b)+2))else θ ((a+2)+γ b))).bind λg=>((JP fu s g).bind λc=>(if c=γ s then θ (c,d)else((XZ fu s c ([13,10])).bind λf=>(bif f then(gd (bJ (c+2))<|some (c+2,d))else θ (0,ν)))))))))))
def avn(fu:Nat)(s:aC)(d:aC)(c:Int->ε (Unit⊕(Int×Int×η)))(a:Int):ε (Unit⊕(Int×Int×η)):=
 (if a<γ s then((avp fu s a d).bind λb=>(if 0<b.1 then θ (.inr (a,b.1,b.2))else(gd (bJ (a+1))<|(c (a+1)))))else θ (.inl ()))
def ayd(fu:Nat)(s:aC)(c:aC):Nat->Int->ε (Unit⊕(Int×Int×η)):=λb a=>bE (λg v=>avn fu s c (λa=>g a) v) b a
theorem bhy:ayd a d m (b+1) c=avn a d m (ayd a d m b) c:=rfl
def ava(fu:Nat)(s:aC)(c:Int)(b:aC):ε (Int×Int×η):=
 (((ayd fu s b fu c)).bind λa=>dA (λd=>θ ((-1),0,ν)) (λq=>θ q) a)
def qx(fu:Nat)(a:ζ):ε η:=
 (((if a<32 then(if a=9 then θ (decide (a=127))else θ μ)else θ (decide (a=127)))).bind λv6=>θ v6)
def ayk(fu:Nat)(s:aC)(e:Int->ε (Unit⊕(Int×Int×ζ)))(a:Int):ε (Unit⊕(Int×Int×ζ)):=
 (if a<γ s then(((gd (0<=a/\a<γ s)<|(if(Κ s a)=13 then(gd (bJ (a+1))<|(if(a+1)<γ s then(gd (bJ (a+1))<|(gd (0<=(a+1)/\(a+1)<γ s)<|some (decide ((Κ s (a+1))=10))))else θ ν))else θ ν))).bind λd=>(bif d then θ (.inr (a,0,0))else(((gd (0<=a/\a<γ s)<|((qx fu (Κ s a)).bind λc=>(bif c then(gd (0<=a/\a<γ s)<|(if(Κ s a)=13 then(gd (bJ (a+1))<|some (decide ((a+1)<γ s)))else θ μ))else θ ν)))).bind λb=>(bif b then θ (.inr (0,a,5))else(gd (bJ (a+1))<|(e (a+1)))))))else θ (.inl ()))
def bbg(fu:Nat)(s:aC):Nat->Int->ε (Unit⊕(Int×Int×ζ)):=λb a=>bE (λg v=>ayk fu s (λa=>g a) v) b a
theorem bki:bbg a d (b+1) c=ayk a d (bbg a d b) c:=rfl
def blm(fu:Nat)(s:aC)(b:Int):ε (Int×Int×ζ):=
 (((bbg fu s fu b)).bind λa=>dA (λc=>θ (0,γ s,6)) (λq=>θ q) a)
def awi(fu:Nat)(s:aC)(b:Int)(e:Int->ε Int)(a:Int):ε Int:=
 (((if 0<a then(gd (bJ (a-1))<|(gd (0<=(a-1)/\(a-1)<(γ (cC (bL b) s)))<|((TA fu (Κ (cC (bL b) s) (a-1))).bind λd=>θ d)))else θ ν)).bind λc=>(bif c then(gd (bJ (a-1))<|(e (a-1)))else θ a))
def ayl(fu:Nat)(s:aC)(b:Int):Nat->Int->ε Int:=λc a=>bE (λg v=>awi fu s b (λa=>g a) v) c a
theorem biq:ayl a d c (b+1) e=awi a d c (ayl a d c b) e:=rfl
def YB(fu:Nat)(s:aC):ε aC:=
 ((JP fu s 0).bind λa=>(gd (0<=a/\a<=γ s)<|(((ayl fu s a fu (γ (cC (bL a) s)))).bind λb=>(gd (0<=b/\b<=(γ (cC (bL a) s)))<|some (eN (bL b) (cC (bL a) s))))))
def alt(fu:Nat)(s:aC)(e:eR->Int->ε (eR⊕(eR×Int×ζ)))(a:eR)(c:Int):ε (eR⊕(eR×Int×ζ)):=
 (if c<γ s then(((if c=0 then(gd (0<=(0:Int)/\0<(γ s:Int))<|((TA fu (Κ s 0)).bind λi=>θ i))else θ ν)).bind λh=>(bif h then θ (.inr ([],0,5))else((blm fu s c).bind λb=>(if b.2.2=0 then(gd (0<=c/\c<=b.1/\b.1<=γ s)<|((YB fu (sub s c b.1)).bind λd=>(gd (0<=c/\c<γ s)<|((TA fu (Κ s c)).bind λg=>(bif (!g)then(gd ((γ a+γ ([(c,d)]))*24<=140737488355328)<|(gd (bJ (b.1+2))<|(e (a++([(c,d)])) (b.1+2))))else(if d=[]then(gd (bJ (b.1+2))<|(e a (b.1+2)))else(gd (bJ (γ a-1))<|(((gd (0<=(γ a-(1:Int))/\(γ a-1)<(γ a:Int))<|(gd (0<=(γ a-(1:Int))/\(γ a-1)<(γ a:Int))<|(if((el a (γ a-1)).2)=[]then θ d else(gd (0<=(γ a-(1:Int))/\(γ a-1)<(γ a:Int))<|(gd (0<=(γ a-(1:Int))/\(γ a-1)<(γ a:Int))<|(gd (γ ((el a (γ a-1)).2)+γ ([32]:aC)<=9223372036854775807)<|(gd (γ (((el a (γ a-1)).2)++[32])+γ d<=9223372036854775807)<|some ((((el a (γ a-1)).2)++[32])++d))))))))).bind λf=>(gd (0<=(γ a-(1:Int))/\(γ a-1)<(γ a:Int))<|(gd (0<=(γ a-(1:Int))/\(γ a-1)<(γ a:Int))<|(gd (bJ (b.1+2))<|(e (jH a (bL (γ a-1)) ((el a (γ a-1)).1,f)) (b.1+2)))))))))))))else θ (.inr ([],b.2.1,b.2.2))))))else θ (.inl a))
def aho(fu:Nat)(s:aC):Nat->eR->Int->ε (eR⊕(eR×Int×ζ)):=λc b a=>bE (λg v=>alt fu s (λb a=>g (b,a)) v.1 v.2) c (b,a)
theorem axd:aho a d (b+1) x c=alt a d (aho a d b) x c:=rfl
def axz(fu:Nat)(s:aC):ε (eR×Int×ζ):=
 (((aho fu s fu [] 0)).bind λb=>dA (λa=>θ (a,0,0)) (λq=>θ q) b)
def aty(fu:Nat)(s:aC)(c:aC->Int->ε aC)(b:aC)(a:Int):ε aC:=
 (if a<γ s then(((gd (0<=a/\a<γ b)<|(gd (0<=a/\a<γ b)<|(if 65<=(Κ b a)then(gd (0<=a/\a<γ b)<|(gd (0<=a/\a<γ b)<|some (decide ((Κ b a)<=90))))else θ ν)))).bind λd=>(bif d then(gd (0<=a/\a<γ b)<|(gd (0<=a/\a<γ b)<|(gd (0<=a/\a<γ b)<|(gd (0<=a/\a<γ b)<|(gd (bJ (a+1))<|(c (jH b (bL a) ((Κ b a)+32)) (a+1)))))))else(gd (bJ (a+1))<|(c b (a+1)))))else θ b)
def awg(fu:Nat)(s:aC):Nat->aC->Int->ε aC:=λc b a=>bE (λg v=>aty fu s (λb a=>g (b,a)) v.1 v.2) c (b,a)
theorem bgy:awg a d (b+1) m c=aty a d (awg a d b) m c:=rfl
def IU(fu:Nat)(s:aC):ε aC:=
 (((awg fu s fu s 0)).bind λa=>θ a)
def bav(fu:Nat)(c:ζ)(b:Int->ε (Unit⊕aC))(a:Int):ε (Unit⊕aC):=
 (if a<15 then(gd (0<=a/\a<(γ ([([98,82,101,102,101,114,114,101,100,45,66,121]),([99,67,111,110,116,101,110,116,45,84,121,112,101]),([101,67,111,110,116,101,110,116,45,69,110,99,111,100,105,110,103]),([102,70,114,111,109]),([105,67,97,108,108,45,73,68]),([107,83,117,112,112,111,114,116,101,100]),([108,67,111,110,116,101,110,116,45,76,101,110,103,116,104]),([109,67,111,110,116,97,99,116]),([111,69,118,101,110,116]),([114,82,101,102,101,114,45,84,111]),([115,83,117,98,106,101,99,116]),([116,84,111]),([117,65,108,108,111,119,45,69,118,101,110,116,115]),([118,86,105,97]),([120,83,101,115,115,105,111,110,45,69,120,112,105,114,101,115])]:δ aC)))<|(gd (0<=a/\a<(γ ([([98,82,101,102,101,114,114,101,100,45,66,121]),([99,67,111,110,116,101,110,116,45,84,121,112,101]),([101,67,111,110,116,101,110,116,45,69,110,99,111,100,105,110,103]),([102,70,114,111,109]),([105,67,97,108,108,45,73,68]),([107,83,117,112,112,111,114,116,101,100]),([108,67,111,110,116,101,110,116,45,76,101,110,103,116,104]),([109,67,111,110,116,97,99,116]),([111,69,118,101,110,116]),([114,82,101,102,101,114,45,84,111]),([115,83,117,98,106,101,99,116]),([116,84,111]),([117,65,108,108,111,119,45,69,118,101,110,116,115]),([118,86,105,97]),([120,83,101,115,115,105,111,110,45,69,120,112,105,114,101,115])]:δ aC)))<|(gd (0<=(0:Int)/\0<(γ (el ([([98,82,101,102,101,114,114,101,100,45,66,121]:aC),([99,67,111,110,116,101,110,116,45,84,121,112,101]:aC),([101,67,111,110,116,101,110,116,45,69,110,99,111,100,105,110,103]:aC),([102,70,114,111,109]:aC),([105,67,97,108,108,45,73,68]:aC),([107,83,117,112,112,111,114,116,101,100]:aC),([108,67,111,110,116,101,110,116,45,76,101,110,103,116,104]:aC),([109,67,111,110,116,97,99,116]:aC),([111,69,118,101,110,116]:aC),([114,82,101,102,101,114,45,84,111]:aC),([115,83,117,98,106,101,99,116]:aC),([116,84,111]:aC),([117,65,108,108,111,119,45,69,118,101,110,116,115]:aC),([118,86,105,97]:aC),([120,83,101,115,115,105,111,110,45,69,120,112,105,114,101,115]:aC)]:δ aC) a):Int))<|(if(Κ (el ([([98,82,101,102,101,114,114,101,100,45,66,121]),([99,67,111,110,116,101,110,116,45,84,121,112,101]),([101,67,111,110,116,101,110,116,45,69,110,99,111,100,105,110,103]),([102,70,114,111,109]),([105,67,97,108,108,45,73,68]),([107,83,117,112,112,111,114,116,101,100]),([108,67,111,110,116,101,110,116,45,76,101,110,103,116,104]),([109,67,111,110,116,97,99,116]),([111,69,118,101,110,116]),([114,82,101,102,101,114,45,84,111]),([115,83,117,98,106,101,99,116]),([116,84,111]),([117,65,108,108,111,119,45,69,118,101,110,116,115]),([118,86,105,97]),([120,83,101,115,115,105,111,110,45,69,120,112,105,114,101,115])]:δ aC) a) 0)=c then(gd (0<=a/\a<(γ ([([98,82,101,102,101,114,114,101,100,45,66,121]),([99,67,111,110,116,101,110,116,45,84,121,112,101]),([101,67,111,110,116,101,110,116,45,69,110,99,111,100,105,110,103]),([102,70,114,111,109]),([105,67,97,108,108,45,73,68]),([107,83,117,112,112,111,114,116,101,100]),([108,67,111,110,116,101,110,116,45,76,101,110,103,116,104]),([109,67,111,110,116,97,99,116]),([111,69,118,101,110,116]),([114,82,101,102,101,114,45,84,111]),([115,83,117,98,106,101,99,116]),([116,84,111]),([117,65,108,108,111,119,45,69,118,101,110,116,115]),([118,86,105,97]),([120,83,101,115,115,105,111,110,45,69,120,112,105,114,101,115])]:δ aC)))<|(gd (0<=a/\a<(γ ([([98,82,101,102,101,114,114,101,100,45,66,121]),([99,67,111,110,116,101,110,116,45,84,121,112,101]),([101,67,111,110,116,101,110,116,45,69,110,99,111,100,105,110,103]),([102,70,114,111,109]),([105,67,97,108,108,45,73,68]),([107,83,117,112,112,111,114,116,101,100]),([108,67,111,110,116,101,110,116,45,76,101,110,103,116,104]),([109,67,111,110,116,97,99,116]),([111,69,118,101,110,116]),([114,82,101,102,101,114,45,84,111]),([115,83,117,98,106,101,99,116]),([116,84,111]),([117,65,108,108,111,119,45,69,118,101,110,116,115]),([118,86,105,97]),([120,83,101,115,115,105,111,110,45,69,120,112,105,114,101,115])]:δ aC)))<|(gd (0<=(1:Int)/\1<=(γ (el ([([98,82,101,102,101,114,114,101,100,45,66,121]:aC),([99,67,111,110,116,101,110,116,45,84,121,112,101]:aC),([101,67,111,110,116,101,110,116,45,69,110,99,111,100,105,110,103]:aC),([102,70,114,111,109]:aC),([105,67,97,108,108,45,73,68]:aC),([107,83,117,112,112,111,114,116,101,100]:aC),([108,67,111,110,116,101,110,116,45,76,101,110,103,116,104]:aC),([109,67,111,110,116,97,99,116]:aC),([111,69,118,101,110,116]:aC),([114,82,101,102,101,114,45,84,111]:aC),([115,83,117,98,106,101,99,116]:aC),([116,84,111]:aC),([117,65,108,108,111,119,45,69,118,101,110,116,115]:aC),([118,86,105,97]:aC),([120,83,101,115,115,105,111,110,45,69,120,112,105,114,101,115]:aC)]:δ aC) a):Int))<|some (.inr (cC (bL 1) (el ([([98,82,101,102,101,114,114,101,100,45,66,121]),([99,67,111,110,116,101,110,116,45,84,121,112,101]),([101,67,111,110,116,101,110,116,45,69,110,99,111,100,105,110,103]),([102,70,114,111,109]),([105,67,97,108,108,45,73,68]),([107,83,117,112,112,111,114,116,101,100]),([108,67,111,110,116,101,110,116,45,76,101,110,103,116,104]),([109,67,111,110,116,97,99,116]),([111,69,118,101,110,116]),([114,82,101,102,101,114,45,84,111]),([115,83,117,98,106,101,99,116]),([116,84,111]),([117,65,108,108,111,119,45,69,118,101,110,116,115]),([118,86,105,97]),([120,83,101,115,115,105,111,110,45,69,120,112,105,114,101,115])]:δ aC) a))))))else(gd (bJ (a+1))<|(b (a+1)))))))else θ (.inl ()))
def bcs(fu:Nat)(c:ζ):Nat->Int->ε (Unit⊕aC):=λb a=>bE (λg v=>bav fu c (λa=>g a) v) b a
theorem vF:bcs a h (b+1) c=bav a h (bcs a h b) c:=rfl
def baw(fu:Nat)(b:ζ):ε aC:=
 (((bcs fu b fu 0)).bind λa=>dA (λc=>θ []) (λq=>θ q) a)
def bba(fu:Nat)(d:aC)(c:Int->ε (Unit⊕(aC×ζ)))(a:Int):ε (Unit⊕(aC×ζ)):=
 (if a<7 then(gd (0<=a/\a<(γ ([([67,97,108,108,45,73,68]),([67,83,101,113]),([77,73,77,69,45,86,101,114,115,105,111,110]),([77,105,110,45,83,69]),([82,65,99,107]),([82,83,101,113]),([87,87,87,45,65,117,116,104,101,110,116,105,99,97,116,101])]:δ aC)))<|(gd (0<=a/\a<(γ ([([67,97,108,108,45,73,68]),([67,83,101,113]),([77,73,77,69,45,86,101,114,115,105,111,110]),([77,105,110,45,83,69]),([82,65,99,107]),([82,83,101,113]),([87,87,87,45,65,117,116,104,101,110,116,105,99,97,116,101])]:δ aC)))<|((IU fu (el ([([67,97,108,108,45,73,68]),([67,83,101,113]),([77,73,77,69,45,86,101,114,115,105,111,110]),([77,105,110,45,83,69]),([82,65,99,107]),([82,83,101,113]),([87,87,87,45,65,117,116,104,101,110,116,105,99,97,116,101])]) a)).bind λb=>(if b=d then(gd (0<=a/\a<(γ ([([67,97,108,108,45,73,68]),([67,83,101,113]),([77,73,77,69,45,86,101,114,115,105,111,110]),([77,105,110,45,83,69]),([82,65,99,107]),([82,83,101,113]),([87,87,87,45,65,117,116,104,101,110,116,105,99,97,116,101])]:δ aC)))<|(gd (0<=a/\a<(γ ([([67,97,108,108,45,73,68]),([67,83,101,113]),([77,73,77,69,45,86,101,114,115,105,111,110]),([77,105,110,45,83,69]),([82,65,99,107]),([82,83,101,113]),([87,87,87,45,65,117,116,104,101,110,116,105,99,97,116,101])]:δ aC)))<|some (.inr (el ([([67,97,108,108,45,73,68]),([67,83,101,113]),([77,73,77,69,45,86,101,114,115,105,111,110]),([77,105,110,45,83,69]),([82,65,99,107]),([82,83,101,113]),([87,87,87,45,65,117,116,104,101,110,116,105,99,97,116,101])]) a,0))))else(gd (bJ (a+1))<|(c (a+1)))))))else θ (.inl ()))
def avx(fu:Nat)(c:aC):Nat->Int->ε (Unit⊕(aC×ζ)):=λb a=>bE (λg v=>bba fu c (λa=>g a) v) b a
theorem vG:avx a d (b+1) c=bba a d (avx a d b) c:=rfl
def amt(fu:Nat)(e:aC)(c:aC->Int->ε aC)(b:aC)(a:Int):ε aC:=
 (if a<γ e then(((if a=0 then(gd (0<=a/\a<γ b)<|(gd (0<=a/\a<γ b)<|(if 97<=(Κ b a)then(gd (0<=a/\a<γ b)<|(gd (0<=a/\a<γ b)<|some (decide ((Κ b a)<=122))))else θ ν)))else(gd (bJ (a-1))<|(gd (0<=(a-1)/\(a-1)<γ b)<|(gd (0<=(a-1)/\(a-1)<γ b)<|(if(Κ b (a-1))=45 then(gd (0<=a/\a<γ b)<|(gd (0<=a/\a<γ b)<|(if 97<=(Κ b a)then(gd (0<=a/\a<γ b)<|(gd (0<=a/\a<γ b)<|some (decide ((Κ b a)<=122))))else θ ν)))else θ ν)))))).bind λd=>(bif d then(gd (0<=a/\a<γ b)<|(gd (0<=a/\a<γ b)<|(gd (0<=a/\a<γ b)<|(gd (0<=a/\a<γ b)<|(gd (bJ (a+1))<|(c (jH b (bL a) ((Κ b a)-32)) (a+1)))))))else(gd (bJ (a+1))<|(c b (a+1)))))else θ b)
def ail(fu:Nat)(d:aC):Nat->aC->Int->ε aC:=λc b a=>bE (λg v=>amt fu d (λb a=>g (b,a)) v.1 v.2) c (b,a)
theorem azb:ail a d (b+1) m c=amt a d (ail a d b) m c:=rfl
def vx(fu:Nat)(b:aC):ε (aC×ζ):=
 ((((bp fu b).bind λi=>(bif (!i)then θ μ else θ (decide (64<(γ b:Int)))))).bind λh=>(bif h then θ ([],5)else((IU fu b).bind λa=>(((if γ b=(1:Int)then(gd (0<=(0:Int)/\0<(γ a:Int))<|((baw fu (Κ a 0)).bind λg=>θ (!decide (g=[]))))else θ ν)).bind λf=>(bif f then(gd (0<=(0:Int)/\0<(γ a:Int))<|((baw fu (Κ a 0)).bind λe=>θ (e,0)))else(((avx fu a fu 0)).bind λd=>dA (λj=>(((ail fu a fu a 0)).bind λc=>θ (c,0))) (λq=>θ q) d))))))
def atp(fu:Nat)(s:aC)(b:δ aC)(c:Int->ε (Unit⊕η))(a:Int):ε (Unit⊕η):=
 (if a<γ b then(gd (0<=a/\a<γ b)<|(gd (0<=a/\a<γ b)<|(if(el b a)=s then θ (.inr μ)else(gd (bJ (a+1))<|(c (a+1))))))else θ (.inl ()))
def avu(fu:Nat)(s:aC)(c:δ aC):Nat->Int->ε (Unit⊕η):=λb a=>bE (λg v=>atp fu s c (λa=>g a) v) b a
theorem bgs:avu a d k (b+1) c=atp a d k (avu a d k b) c:=rfl
def eb(fu:Nat)(s:aC)(b:δ aC):ε η:=
 (((avu fu s b fu 0)).bind λa=>dA (λc=>θ ν) (λq=>θ q) a)
def vt(fu:Nat)(a:aC):ε Int:=
 ((eb fu a ([([70,114,111,109]),([84,111]),([67,111,110,116,97,99,116]),([82,111,117,116,101]),([82,101,99,111,114,100,45,82,111,117,116,101]),([80,97,116,104]),([83,101,114,118,105,99,101,45,82,111,117,116,101]),([82,101,102,101,114,45,84,111]),([82,101,102,101,114,114,101,100,45,66,121]),([82,101,112,108,121,45,84,111])])).bind λb=>(bif b then θ 1 else(if a=([86,105,97])then θ 2 else(if a=([67,83,101,113])then θ 3 else(if a=([82,65,99,107])then θ 4 else((eb fu a ([([67,111,110,116,101,110,116,45,76,101,110,103,116,104]),([69,120,112,105,114,101,115]),([77,97,120,45,70,111,114,119,97,114,100,115]),([77,105,110,45,69,120,112,105,114,101,115]),([82,83,101,113])])).bind λe=>(bif e then θ 5 else((eb fu a ([([67,111,110,116,101,110,116,45,68,105,115,112,111,115,105,116,105,111,110]),([67,111,110,116,101,110,116,45,84,121,112,101]),([69,118,101,110,116]),([77,105,110,45,83,69]),([83,101,115,115,105,111,110,45,69,120,112,105,114,101,115]),([83,117,98,115,99,114,105,112,116,105,111,110,45,83,116,97,116,101])])).bind λd=>(bif d then θ 6 else((eb fu a ([([65,99,99,101,112,116]),([65,108,108,111,119]),([65,108,108,111,119,45,69,118,101,110,116,115]),([80,114,111,120,121,45,82,101,113,117,105,114,101]),([82,101,113,117,105,114,101]),([83,117,112,112,111,114,116,101,100]),([85,110,115,117,112,112,111,114,116,101,100])])).bind λc=>(bif c then θ 7 else θ 0)))))))))))
def big(fu:Nat)(e:aC):ε η:=
 ((vx fu e).bind λa=>(((if a.2=0 then((vt fu a.1).bind λd=>(if d=7 then θ μ else((eb fu a.1 ([([67,111,110,116,97,99,116]),([80,97,116,104]),([82,101,99,111,114,100,45,82,111,117,116,101]),([82,111,117,116,101]),([83,101,114,118,105,99,101,45,82,111,117,116,101]),([86,105,97])])).bind λc=>θ c)))else θ ν)).bind λb=>θ b))
def atw(fu:Nat)(s:aC)(c:ζ)(b:Int->ε (Unit⊕Int))(a:Int):ε (Unit⊕Int):=
 (if a<γ s then(gd (0<=a/\a<γ s)<|(if(Κ s a)=c then θ (.inr a)else(gd (bJ (a+1))<|(b (a+1)))))else θ (.inl ()))
def awa(fu:Nat)(s:aC)(c:ζ):Nat->Int->ε (Unit⊕Int):=λb a=>bE (λg v=>atw fu s c (λa=>g a) v) b a
theorem bgw:awa a d h (b+1) c=atw a d h (awa a d h b) c:=rfl
def awb(fu:Nat)(s:aC)(c:Int)(b:ζ):ε Int:=
 (((awa fu s b fu c)).bind λa=>dA (λd=>θ (-1)) (λq=>θ q) a)
def ajb(fu:Nat)(s:aC)(c:ζ)(b:Int->ε (Unit⊕η))(a:Int):ε (Unit⊕η):=
 (if a<γ s then(gd (0<=a/\a<γ s)<|(if(Κ s a)=c then θ (.inr μ)else(gd (bJ (a+1))<|(b (a+1)))))else θ (.inl ()))
def aos(fu:Nat)(s:aC)(c:ζ):Nat->Int->ε (Unit⊕η):=λb a=>bE (λg v=>ajb fu s c (λa=>g a) v) b a
theorem atc:aos a d h (b+1) c=ajb a d h (aos a d h b) c:=rfl
def ZE(fu:Nat)(s:aC)(b:ζ):ε η:=
 (((aos fu s b fu 0)).bind λa=>dA (λc=>θ ν) (λq=>θ q) a)
def afz(fu:Nat)(b:(aC×Int×Int×ζ))(f:aC)(e:Int->ε Int)(a:Int):ε Int:=
 (((if a<γ b.1 then(gd (0<=a/\a<γ b.1)<|((ZE fu f (Κ b.1 a)).bind λd=>θ (!d)))else θ ν)).bind λc=>(bif c then(gd (bJ (a+1))<|(e (a+1)))else θ a))
def ajo(fu:Nat)(d:(aC×Int×Int×ζ))(c:aC):Nat->Int->ε Int:=λb a=>bE (λg v=>afz fu d c (λa=>g a) v) b a
variable{g:(aC×Int×Int×ζ)}
theorem amh:ajo a g d (b+1) c=afz a g d (ajo a g d b) c:=rfl
def ZF(fu:Nat)(a:(aC×Int×Int×ζ))(c:aC):ε Int:=
 (((ajo fu a c fu a.2.1)).bind λb=>θ b)
def YE(fu:Nat)(a:ζ):ε η:=
 (((if 48<=a then θ (decide (a<=57))else θ ν)).bind λb=>θ b)
def dy(fu:Nat)(a:ζ):ε Int:=
 ((YE fu a).bind λb=>(bif b then θ ((a-48).toNat)else(((if 65<=a then θ (decide (a<=70))else θ ν)).bind λd=>(bif d then(gd (bJ (((a-65).toNat)+10))<|some (((a-65).toNat)+10))else(((if 97<=a then θ (decide (a<=102))else θ ν)).bind λc=>(bif c then(gd (bJ (((a-97).toNat)+10))<|some (((a-97).toNat)+10))else θ (-1)))))))
def bdb(fu:Nat)(s:aC)(a:Int):ε Int:=
 (((gd (bJ (a+2))<|(if γ s<=(a+2)then θ μ else(gd (0<=a/\a<γ s)<|(if(Κ s a)=37 then(gd (bJ (a+1))<|(gd (0<=(a+1)/\(a+1)<γ s)<|((dy fu (Κ s (a+1))).bind λf=>(if f<0 then θ μ else(gd (bJ (a+2))<|(gd (0<=(a+2)/\(a+2)<γ s)<|((dy fu (Κ s (a+2))).bind λe=>θ (decide (e<0)))))))))else θ μ))))).bind λd=>(bif d then θ (-1)else(gd (bJ (a+1))<|(gd (0<=(a+1)/\(a+1)<γ s)<|((dy fu (Κ s (a+1))).bind λb=>(gd (bJ (16*b))<|(gd (bJ (a+2))<|(gd (0<=(a+2)/\(a+2)<γ s)<|((dy fu (Κ s (a+2))).bind λc=>(gd (bJ ((16*b)+c))<|some ((16*b)+c)))))))))))
def Kg(fu:Nat)(a:(aC×Int×Int×ζ))(c:Int)(b:ζ):ε (aC×Int×Int×ζ):=
 (if a.2.2.2=0 then θ (a.1,a.2.1,c,b)else θ a)
def axx(fu:Nat)(a:ζ):ε η:=
 (((if 65<=a then(if a<=90 then θ μ else(if 97<=a then θ (decide (a<=122))else θ ν))else(if 97<=a then θ (decide (a<=122))else θ ν))).bind λb=>θ b)
def bkh(fu:Nat)(a:ζ)(b:Int):ε η:=
 ((((axx fu a).bind λi=>(bif i then θ μ else((YE fu a).bind λh=>(bif h then θ μ else((ZE fu ([45,95,46,33,126,42,39,40,41]) a).bind λg=>θ g)))))).bind λf=>(bif f then θ μ else(if b=0 then((ZE fu ([38,61,43,36,44,59,63,47]) a).bind λe=>θ e)else(if b=1 then((ZE fu ([91,93,47,58,38,43,36]) a).bind λd=>θ d)else(if b=2 then((ZE fu ([91,93,47,63,58,43,36]) a).bind λc=>θ c)else θ ν)))))
def aff(fu:Nat)(b:(aC×Int×Int×ζ))(d:Int)(n:Int)(m:(δ ζ)->Int->ε ((δ ζ)⊕(aC×(aC×Int×Int×ζ))))(f:δ ζ)(a:Int):ε ((δ ζ)⊕(aC×(aC×Int×Int×ζ))):=
 (if a<d then(gd (0<=a/\a<γ b.1)<|(((if((Κ b.1 a).toNat)=(37:Int)then(gd (0<=d/\d<=γ b.1)<|((bdb fu (eN (bL d) b.1) a).bind λe=>(((if e<0 then θ μ else((qx fu (YP e)).bind λl=>θ l))).bind λk=>(bif k then((Kg fu b a 5).bind λj=>θ (.inr ([],j)))else(gd (bJ (a+2))<|some (.inl (a+2,e)))))))else((bkh fu (YP ((Κ b.1 a).toNat)) n).bind λi=>(bif (!i)then((Kg fu b a 5).bind λh=>θ (.inr ([],h)))else θ (.inl (a,((Κ b.1 a).toNat))))))).bind λg=>dA (λc=>(gd ((γ f+γ ([YP c.2]))*1<=140737488355328)<|(gd (bJ (c.1+1))<|(m (f++([YP c.2])) (c.1+1))))) (λq=>θ (.inr q)) g))else θ (.inl f))
def aid(fu:Nat)(f:(aC×Int×Int×ζ))(e:Int)(d:Int):Nat->(δ ζ)->Int->ε ((δ ζ)⊕(aC×(aC×Int×Int×ζ))):=λc b a=>bE (λg v=>aff fu f e d (λb a=>g (b,a)) v.1 v.2) c (b,a)
theorem akp:aid a g c e (b+1) f p=aff a g c e (aid a g c e b) f p:=rfl
def wm(fu:Nat)(a:(aC×Int×Int×ζ))(b:Int)(e:Int):ε (aC×(aC×Int×Int×ζ)):=
 (((aid fu a b e fu [] a.2.1)).bind λd=>dA (λ(c:δ ζ)=>θ (c,(a.1,b,a.2.2.1,a.2.2.2))) (λq=>θ q) d)
def ajn(fu:Nat)(b:(aC×Int×Int×ζ))(d:Int)(g:Int->ε (Unit⊕(aC×(aC×Int×Int×ζ))))(a:Int):ε (Unit⊕(aC×(aC×Int×Int×ζ))):=
 (if a<d then(gd (0<=a/\a<γ b.1)<|(if(Κ b.1 a)=58 then((wm fu (b.1,b.2.1,0,0) a 0).bind λc=>((Kg fu b c.2.2.2.1 c.2.2.2.2).bind λf=>((Kg fu f a 15).bind λe=>θ (.inr ([],e)))))else(gd (bJ (a+1))<|(g (a+1)))))else θ (.inl ()))
def ahm(fu:Nat)(d:(aC×Int×Int×ζ))(b:Int):Nat->Int->ε (Unit⊕(aC×(aC×Int×Int×ζ))):=λc a=>bE (λg v=>ajn fu d b (λa=>g a) v) c a
theorem axu:ahm a g c (b+1) e=ajn a g c (ahm a g c b) e:=rfl
def alp(fu:Nat)(a:(aC×Int×Int×ζ)):ε (aC×(aC×Int×Int×ζ)):=
 ((ZF fu a [64]).bind λb=>(if b=γ a.1 then θ ([],a)else(((ahm fu a b fu a.2.1)).bind λf=>dA (λg=>(((if b=a.2.1 then((Kg fu a b 5).bind λd=>θ (d.1,d.2.1,d.2.2.1,d.2.2.2))else θ (a.1,a.2.1,a.2.2.1,a.2.2.2))).bind λe=>((wm fu e b 0).bind λc=>(gd (bJ (b+1))<|some (c.1,(c.2.1,b+1,c.2.2.2.1,c.2.2.2.2)))))) (λq=>θ q) f)))
def NN(fu:Nat)(a:(aC×Int×Int×ζ))(c:ζ):ε η:=
 (((if a.2.2.2=0 then(if a.2.1<γ a.1 then(gd (0<=a.2.1/\a.2.1<γ a.1)<|some (decide ((Κ a.1 a.2.1)=c)))else θ ν)else θ ν)).bind λb=>θ b)
def arm(fu:Nat)(s:aC)(e:ζ)(d:(δ aC)->Int->Int->ε ((δ aC)×Int))(c:δ aC)(b:Int)(a:Int):ε ((δ aC)×Int):=
 (if a<γ s then(gd (0<=a/\a<γ s)<|(if(Κ s a)=e then(gd (0<=b/\b<=a/\a<=γ s)<|(gd ((γ c+γ ([sub s b a]:δ aC))*16<=140737488355328)<|(gd (bJ (a+1))<|(gd (bJ (a+1))<|(d (c++([sub s b a]:δ aC)) (a+1) (a+1))))))else(gd (bJ (a+1))<|(d c b (a+1)))))else θ (c,b))
def amz(fu:Nat)(s:aC)(e:ζ):Nat->(δ aC)->Int->Int->ε ((δ aC)×Int):=λd c b a=>bE (λg v=>arm fu s e (λc b a=>g (c,b,a)) v.1 v.2.1 v.2.2) d (c,b,a)
theorem ben:amz a d h (b+1) k c e=arm a d h (amz a d h b) k c e:=rfl
def axw(fu:Nat)(s:aC)(b:ζ):ε (δ aC):=
 (((amz fu s b fu [] 0 0)).bind λa=>(gd (0<=a.2/\a.2<=γ s)<|(gd ((γ a.1+γ ([cC (bL a.2) s]:δ aC))*16<=140737488355328)<|some (a.1++([cC (bL a.2) s]:δ aC)))))
def anb(fu:Nat)(s:aC)(c:Int->ε (Unit⊕(aC×η)))(a:Int):ε (Unit⊕(aC×η)):=
 (if a<γ s then(gd (0<=a/\a<γ s)<|((dy fu (Κ s a)).bind λb=>(if b<0 then θ (.inr ([],ν))else(gd (bJ (a+1))<|(c (a+1))))))else θ (.inl ()))
def awd(fu:Nat)(s:aC):Nat->Int->ε (Unit⊕(aC×η)):=λb a=>bE (λg v=>anb fu s (λa=>g a) v) b a
theorem aze:awd a d (b+1) c=anb a d (awd a d b) c:=rfl
def atx(fu:Nat)(c:aC->ε aC)(a:aC):ε aC:=
 (((if 1<(γ a:Int)then(gd (0<=(0:Int)/\0<(γ a:Int))<|some (decide ((Κ a 0)=48)))else θ ν)).bind λb=>(bif b then(gd (0<=(1:Int)/\1<=(γ a:Int))<|(c (cC (bL 1) a)))else θ a))
def awc(fu:Nat):Nat->aC->ε aC:=λb a=>bE (λg v=>atx fu (λa=>g a) v) b a
theorem bgx:awc a (b+1) d=atx a (awc a b) d:=rfl
def bfi(fu:Nat)(s:aC):ε (aC×η):=
 (((if γ s<(1:Int)then θ μ else θ (decide (4<(γ s:Int))))).bind λa=>(bif a then θ ([],ν)else(((awd fu s fu 0)).bind λd=>dA (λe=>(((awc fu fu s)).bind λc=>((IU fu c).bind λb=>θ (b,μ)))) (λq=>θ q) d)))
def aro(fu:Nat)(b:δ aC)(f:aC->Int->ε (aC⊕(aC×Int×η)))(c:aC)(a:Int):ε (aC⊕(aC×Int×η)):=
 (if a<γ b then(gd (0<=a/\a<γ b)<|(gd (0<=a/\a<γ b)<|((bfi fu (el b a)).bind λd=>(bif (!d.2)then θ (.inr ([],0,ν))else(((if 0<a then(gd (γ c+γ ([58]:aC)<=9223372036854775807)<|some (c++[58]))else θ c)).bind λe=>(gd (γ e+γ d.1<=9223372036854775807)<|(gd (bJ (a+1))<|(f (e++d.1) (a+1)))))))))else θ (.inl c))
def ana(fu:Nat)(c:δ aC):Nat->aC->Int->ε (aC⊕(aC×Int×η)):=λd b a=>bE (λg v=>aro fu c (λb a=>g (b,a)) v.1 v.2) d (b,a)
theorem bep:ana a k (b+1) d c=aro a k (ana a k b) d c:=rfl
def asu(fu:Nat)(s:aC):ε (aC×Int×η):=
 (if s=[]then θ ([],0,μ)else((axw fu s 58).bind λa=>(((ana fu a fu [] 0)).bind λc=>dA (λb=>θ (b,γ a,μ)) (λq=>θ q) c)))
def ayg(fu:Nat)(s:aC)(f:Int->ε (Unit⊕(aC×η)))(a:Int):ε (Unit⊕(aC×η)):=
 (gd (bJ (a+1))<|(if(a+1)<γ s then(((gd (0<=a/\a<γ s)<|(if(Κ s a)=58 then(gd (bJ (a+1))<|(gd (0<=(a+1)/\(a+1)<γ s)<|some (!decide ((Κ s (a+1))=58))))else θ μ))).bind λe=>(bif e then(gd (bJ (a+1))<|(f (a+1)))else(gd (0<=a/\a<=γ s)<|((asu fu (eN (bL a) s)).bind λb=>(gd (bJ (a+2))<|(gd (0<=(a+2)/\(a+2)<=γ s)<|((asu fu (cC (bL (a+2)) s)).bind λc=>(((bif (!b.2.2)then θ μ else(bif (!c.2.2)then θ μ else(gd (bJ (b.2.1+c.2.1))<|some (decide (7<(b.2.1+c.2.1))))))).bind λd=>(bif d then θ (.inr ([],ν))else(gd (γ b.1+γ ([58,58]:aC)<=9223372036854775807)<|(gd (γ (b.1++([58,58]))+γ c.1<=9223372036854775807)<|some (.inr ((b.1++([58,58]))++c.1,μ)))))))))))))else θ (.inl ())))
def apw(fu:Nat)(s:aC):Nat->Int->ε (Unit⊕(aC×η)):=λb a=>bE (λg v=>ayg fu s (λa=>g a) v) b a
theorem bkg:apw a d (b+1) c=ayg a d (apw a d b) c:=rfl
def blj(fu:Nat)(s:aC):ε (aC×η):=
 (((apw fu s fu 0)).bind λc=>dA (λd=>((asu fu s).bind λa=>(((bif a.2.2 then θ (decide (a.2.1=8))else θ ν)).bind λb=>θ (a.1,b)))) (λq=>θ q) c)
def atv(fu:Nat)(s:aC)(c:η->Int->ε (η⊕(η×η)))(b:η)(a:Int):ε (η⊕(η×η)):=
 (if a<γ s then(((gd (0<=a/\a<γ s)<|((axx fu (Κ s a)).bind λg=>(bif (!g)then(gd (0<=a/\a<γ s)<|((YE fu (Κ s a)).bind λf=>(bif (!f)then(gd (0<=a/\a<γ s)<|some (!decide ((Κ s a)=45)))else θ ν)))else θ ν)))).bind λe=>(bif e then θ (.inr (ν,ν))else(bif b then(gd (bJ (a+1))<|(c μ (a+1)))else(gd (0<=a/\a<γ s)<|((YE fu (Κ s a)).bind λd=>(gd (bJ (a+1))<|(c (!d) (a+1))))))))else θ (.inl b))
def wg(fu:Nat)(s:aC):Nat->η->Int->ε (η⊕(η×η)):=λc b a=>bE (λg v=>atv fu s (λb a=>g (b,a)) v.1 v.2) c (b,a)
theorem bgv:wg a d (b+1) l c=atv a d (wg a d b) l c:=rfl
def bfh(fu:Nat)(s:aC):ε (η×η):=
 (((if γ s<(1:Int)then θ μ else(if 63<(γ s:Int)then θ μ else(gd (0<=(0:Int)/\0<(γ s:Int))<|(if(Κ s 0)=45 then θ μ else(gd (bJ (γ s-1))<|(gd (0<=(γ s-(1:Int))/\(γ s-1)<(γ s:Int))<|some (decide ((Κ s (γ s-1))=45))))))))).bind λc=>(bif c then θ (ν,ν)else(((wg fu s fu ν 0)).bind λb=>dA (λa=>θ (μ,a)) (λq=>θ q) b)))
def arn(fu:Nat)(s:aC)(d:Int->Int->ε (Int⊕η))(b:Int)(a:Int):ε (Int⊕η):=
 (if a<γ s then(gd (0<=a/\a<γ s)<|((YE fu (Κ s a)).bind λc=>(bif (!c)then θ (.inr ν)else(gd (bJ (10*b))<|(gd (0<=a/\a<γ s)<|(gd (bJ ((10*b)+(((Κ s a)-48).toNat)))<|(gd (bJ (a+1))<|(d ((10*b)+(((Κ s a)-48).toNat)) (a+1)))))))))else θ (.inl b))
def ajr(fu:Nat)(s:aC):Nat->Int->Int->ε (Int⊕η):=λc b a=>bE (λg v=>arn fu s (λb a=>g (b,a)) v.1 v.2) c (b,a)
theorem beo:ajr a d (b+1) c e=arn a d (ajr a d b) c e:=rfl
def bda(fu:Nat)(s:aC):ε η:=
 (((if γ s<(1:Int)then θ μ else(if 3<(γ s:Int)then θ μ else(if 1<(γ s:Int)then(gd (0<=(0:Int)/\0<(γ s:Int))<|some (decide ((Κ s 0)=48)))else θ ν)))).bind λa=>(bif a then θ ν else(((ajr fu s fu 0 0)).bind λc=>dA (λb=>θ (decide (b<=255))) (λq=>θ q) c)))
def awh(fu:Nat)(b:δ aC)(g:η->η->Int->ε ((η×η)⊕(aC×η)))(f:η)(e:η)(a:Int):ε ((η×η)⊕(aC×η)):=
 (if a<γ b then(gd (0<=a/\a<γ b)<|(gd (0<=a/\a<γ b)<|((bfh fu (el b a)).bind λd=>(bif (!d.1)then θ (.inr ([],ν))else(((bif e then θ μ else θ d.2)).bind λc=>(bif f then(gd (0<=a/\a<γ b)<|(gd (0<=a/\a<γ b)<|((bda fu (el b a)).bind λh=>(gd (bJ (a+1))<|(g h c (a+1))))))else(gd (bJ (a+1))<|(g ν c (a+1)))))))))else θ (.inl (f,e)))
def asl(fu:Nat)(e:δ aC):Nat->η->η->Int->ε ((η×η)⊕(aC×η)):=λd c b a=>bE (λg v=>awh fu e (λc b a=>g (c,b,a)) v.1 v.2.1 v.2.2) d (c,b,a)
theorem bio:asl a k (b+1) l v c=awh a k (asl a k b) l v c:=rfl
def qq(fu:Nat)(s:aC):ε (aC×η):=
 (((if 2<=(γ s:Int)then(gd (0<=(0:Int)/\0<(γ s:Int))<|(if(Κ s 0)=91 then(gd (bJ (γ s-1))<|(gd (0<=(γ s-(1:Int))/\(γ s-1)<(γ s:Int))<|some (decide ((Κ s (γ s-1))=93))))else θ ν))else θ ν)).bind λd=>(bif d then(gd (bJ (γ s-1))<|(gd (0<=(1:Int)/\1<=(γ s-(1:Int))/\(γ s-1)<=(γ s:Int))<|((blj fu (sub s 1 (γ s-1))).bind λa=>(bif (!a.2)then θ ([],ν)else(gd (γ ([91]:aC)+γ a.1<=9223372036854775807)<|(gd (γ ([91]++a.1)+γ ([93]:aC)<=9223372036854775807)<|some ((([91]:aC)++a.1)++([93]:aC),μ)))))))else((axw fu s 46).bind λc=>(((asl fu c fu (decide (γ c=(4:Int))) ν 0)).bind λg=>dA (λb=>(((if 255<(γ s:Int)then θ μ else(bif (!b.2)then θ (!b.1)else θ ν))).bind λf=>(bif f then θ ([],ν)else((IU fu s).bind λe=>θ (e,μ))))) (λq=>θ q) g))))
def ri(fu:Nat)(a:(aC×Int×Int×ζ)):ε (aC×(aC×Int×Int×ζ)):=
 (if a.2.2.2=0 then((ZF fu a ([58,59,63])).bind λg=>((((NN fu a 91).bind λh=>(bif h then((ZF fu a [93]).bind λf=>(gd (bJ (f+1))<|some (min (f+1) (γ a.1))))else θ g))).bind λc=>(gd (0<=a.2.1/\a.2.1<=c/\c<=γ a.1)<|((qq fu (sub a.1 a.2.1 c)).bind λe=>(((bif (!e.2)then((Kg fu a a.2.1 5).bind λb=>θ (b.1,b.2.1,b.2.2.1,b.2.2.2))else θ (a.1,a.2.1,a.2.2.1,a.2.2.2))).bind λd=>θ (e.1,(d.1,c,d.2.2.1,d.2.2.2)))))))else θ ([],a))
def alu(fu:Nat)(s:aC)(d:Int->Int->ε (Int⊕(Int×ζ)))(b:Int)(a:Int):ε (Int⊕(Int×ζ)):=
 (if a<γ s then(((gd (0<=a/\a<γ s)<|(if(Κ s a)<48 then θ μ else(gd (0<=a/\a<γ s)<|(if 57<(Κ s a)then θ μ else θ (decide (10<=a))))))).bind λc=>(bif c then θ (.inr (0,5))else(gd (bJ (10*b))<|(gd (0<=a/\a<γ s)<|(gd (bJ ((10*b)+(((Κ s a)-48).toNat)))<|(gd (bJ (a+1))<|(d ((10*b)+(((Κ s a)-48).toNat)) (a+1))))))))else θ (.inl b))
def ank(fu:Nat)(s:aC):Nat->Int->Int->ε (Int⊕(Int×ζ)):=λc b a=>bE (λg v=>alu fu s (λb a=>g (b,a)) v.1 v.2) c (b,a)
theorem axe:ank a d (b+1) c e=alu a d (ank a d b) c e:=rfl
def aog(fu:Nat)(s:aC):ε (Int×ζ):=
 (((ank fu s fu 0 0)).bind λb=>dA (λa=>(if s=[]then θ (0,5)else(if 2147483647<a then θ (0,3)else θ (a,0)))) (λq=>θ q) b)
def ei(fu:Nat)(a:(aC×Int×Int×ζ)):ε (Int×(aC×Int×Int×ζ)):=
 ((NN fu a 58).bind λi=>(bif (!i)then(((((if a.2.1<γ a.1 then((NN fu a 59).bind λn=>(bif (!n)then((NN fu a 63).bind λm=>θ (!m))else θ ν))else θ ν)).bind λl=>(bif l then((Kg fu a a.2.1 5).bind λg=>θ (g.1,g.2.1,g.2.2.1,g.2.2.2))else θ (a.1,a.2.1,a.2.2.1,a.2.2.2)))).bind λk=>θ (0,k))else(gd (bJ (a.2.1+1))<|((ZF fu (a.1,a.2.1+1,a.2.2.1,a.2.2.2) ([59,63])).bind λf=>(gd (0<=(a.2.1+1)/\(a.2.1+1)<=f/\f<=γ a.1)<|((aog fu (sub a.1 (a.2.1+1) f)).bind λc=>(((if c.2=0 then θ (a.1,a.2.1+1,a.2.2.1,a.2.2.2)else((Kg fu (a.1,a.2.1+1,a.2.2.1,a.2.2.2) (a.2.1+1) c.2).bind λe=>θ (e.1,e.2.1,e.2.2.1,e.2.2.2)))).bind λb=>(((((if c.1<1 then θ μ else θ (decide (65535<c.1)))).bind λj=>(bif j then((Kg fu b b.2.1 3).bind λd=>θ (d.1,d.2.1,d.2.2.1,d.2.2.2))else θ (b.1,b.2.1,b.2.2.1,b.2.2.2)))).bind λh=>θ (c.1,(h.1,f,h.2.2.1,h.2.2.2))))))))))
def aiu(fu:Nat)(b:(aC×Int×Int×ζ))(e:Int)(d:Int->ε Int)(a:Int):ε Int:=
 (((if a<e then(gd (0<=a/\a<γ b.1)<|some (!decide ((Κ b.1 a)=61)))else θ ν)).bind λc=>(bif c then(gd (bJ (a+1))<|(d (a+1)))else θ a))
def ajp(fu:Nat)(d:(aC×Int×Int×ζ))(c:Int):Nat->Int->ε Int:=λb a=>bE (λg v=>aiu fu d c (λa=>g a) v) b a
theorem awy:ajp a g c (b+1) e=aiu a g c (ajp a g c b) e:=rfl
def aoq(fu:Nat)(l:(aC×Int×Int×ζ))(e:Int)(k:Int):ε (PQ×(aC×Int×Int×ζ)):=
 (((ajp fu l e fu l.2.1)).bind λd=>((wm fu l d k).bind λc=>(((if c.1=[]then((Kg fu c.2 l.2.1 5).bind λj=>θ (j.1,j.2.1,j.2.2.1,j.2.2.2))else θ (c.2.1,c.2.2.1,c.2.2.2.1,c.2.2.2.2))).bind λg=>((IU fu c.1).bind λo=>(((((if k=2 then θ (decide (d=e))else θ ν)).bind λn=>(bif n then((Kg fu g e 5).bind λi=>θ (i.1,i.2.1,i.2.2.1,i.2.2.2))else θ (g.1,g.2.1,g.2.2.1,g.2.2.2)))).bind λb=>(((if d<e then(gd (bJ (d+1))<|((wm fu (b.1,d+1,b.2.2.1,b.2.2.2) e k).bind λa=>(((if k=1 then θ (decide (a.1=[]))else θ ν)).bind λm=>(bif m then(gd (bJ (d+1))<|((Kg fu a.2 (d+1) 5).bind λh=>θ (h.1,h.2.1,h.2.2.1,h.2.2.2,a.1,μ)))else θ (a.2.1,a.2.2.1,a.2.2.2.1,a.2.2.2.2,a.1,μ)))))else θ (b.1,b.2.1,b.2.2.1,b.2.2.2,[],ν))).bind λf=>θ ((o,f.2.2.2.2.1,f.2.2.2.2.2),(f.1,e,f.2.2.1,f.2.2.2.1))))))))
def apy(fu:Nat)(b:LQ)(f:aC)(e:Int->ε (Unit⊕Int))(a:Int):ε (Unit⊕Int):=
 (if a<γ b then(gd (0<=a/\a<γ b)<|(gd (0<=a/\a<γ b)<|((IU fu ((el b a).1)).bind λd=>((IU fu f).bind λc=>(if d=c then θ (.inr a)else(gd (bJ (a+1))<|(e (a+1))))))))else θ (.inl ()))
def ayh(fu:Nat)(d:LQ)(c:aC):Nat->Int->ε (Unit⊕Int):=λb a=>bE (λg v=>apy fu d c (λa=>g a) v) b a
theorem bbd:ayh a j d (b+1) c=apy a j d (ayh a j d b) c:=rfl
def bdr(fu:Nat)(c:LQ)(b:aC):ε Int:=
 (((ayh fu c b fu 0)).bind λa=>dA (λd=>θ (-1)) (λq=>θ q) a)
def IS(fu:Nat)(a:LQ)(c:aC):ε ζ:=
 ((bdr fu a c).bind λb=>(if 0<=b then θ 7 else(if 16<=(γ a:Int)then θ 4 else θ 0)))
def arp(fu:Nat)(d:LQ)(c:LQ)(b:Int)(f:Int->ε Int)(a:Int):ε Int:=
 (((if 0<a then(gd (bJ (a-1))<|(gd (0<=(a-1)/\(a-1)<γ c)<|(gd (0<=(a-1)/\(a-1)<γ c)<|(gd (0<=b/\b<γ d)<|(gd (0<=b/\b<γ d)<|some (!(qS ((el c (a-1)).1) ((el d b).1)||((el c (a-1)).1)==((el d b).1))))))))else θ ν)).bind λe=>(bif e then(gd (bJ (a-1))<|(f (a-1)))else θ a))
def anc(fu:Nat)(e:LQ)(d:LQ)(c:Int):Nat->Int->ε Int:=λb a=>bE (λg v=>arp fu e d c (λa=>g a) v) b a
theorem axb:anc a j s c (b+1) e=arp a j s c (anc a j s c b) e:=rfl
def als(fu:Nat)(b:LQ)(f:LQ->Int->ε LQ)(c:LQ)(a:Int):ε LQ:=
 (if a<γ b then(((((anc fu b c a fu (γ c))).bind λd=>(gd (0<=d/\d<=γ c)<|(gd ((γ ([]:LQ)+γ (eN (bL d) c))*40<=140737488355328)<|(gd (0<=a/\a<γ b)<|(gd (0<=a/\a<γ b)<|(gd ((γ ([]++(eN (bL d) c))+γ ([((el b a).1,(el b a).2.1,((el b a).2.2))]))*40<=140737488355328)<|(gd (0<=d/\d<=γ c)<|(gd ((γ (([]++(eN (bL d) c))++([((el b a).1,(el b a).2.1,((el b a).2.2))]))+γ (cC (bL d) c))*40<=140737488355328)<|some ((([]++(eN (bL d) c))++([((el b a).1,(el b a).2.1,((el b a).2.2))]))++(cC (bL d) c))))))))))).bind λe=>(gd (bJ (a+1))<|(f e (a+1))))else θ c)
def ajs(fu:Nat)(d:LQ):Nat->LQ->Int->ε LQ:=λc b a=>bE (λg v=>als fu d (λb a=>g (b,a)) v.1 v.2) c (b,a)
theorem axc:ajs a j (b+1) s c=als a j (ajs a j b) s c:=rfl
def ee(fu:Nat)(b:LQ):ε LQ:=
 (((ajs fu b fu [] 0)).bind λa=>θ a)
def ajq(fu:Nat)(p:ζ)(o:aC)(n:Int)(m:LQ->ζ->aC->Int->Int->ζ->ε (LQ×aC×Int×Int×ζ))(h:LQ)(l:ζ)(g:aC)(b:Int)(f:Int)(e:ζ):ε (LQ×aC×Int×Int×ζ):=
 ((NN fu (g,b,f,e) l).bind λk=>(bif k then(gd (bJ (b+1))<|((ZF fu (g,b+1,f,e) o).bind λj=>((aoq fu (g,b+1,f,e) j n).bind λa=>((IS fu h a.1.1).bind λi=>(((if i=0 then θ (a.2.1,a.2.2.1,a.2.2.2.1,a.2.2.2.2)else((Kg fu a.2 (b+1) i).bind λd=>θ (d.1,d.2.1,d.2.2.1,d.2.2.2)))).bind λc=>(gd ((γ h+[a.1].length)*40<=140737488355328)<|(m (h++[a.1]) p c.1 c.2.1 c.2.2.1 c.2.2.2)))))))else θ (h,g,b,f,e)))
def rn(fu:Nat)(k:ζ)(j:aC)(i:Int):Nat->LQ->ζ->aC->Int->Int->ζ->ε (LQ×aC×Int×Int×ζ):=λh f e d c b a=>bE (λg v=>ajq fu k j i (λf e d c b a=>g (f,e,d,c,b,a)) v.1 v.2.1 v.2.2.1 v.2.2.2.1 v.2.2.2.2.1 v.2.2.2.2.2) h (f,e,d,c,b,a)
theorem axv{i:ζ}{g:ζ}:rn a h d c (b+1) j i m e p g=ajq a h d c (rn a h d c b) j i m e p g:=rfl
def BY(fu:Nat)(a:(aC×Int×Int×ζ))(g:ζ)(f:ζ)(e:aC)(d:Int):ε (LQ×(aC×Int×Int×ζ)):=
 (((rn fu f e d fu [] g a.1 a.2.1 a.2.2.1 a.2.2.2)).bind λb=>((ee fu b.1).bind λc=>θ (c,b.2)))
def aem(fu:Nat)(b:(aC×Int×Int×ζ))(f:Int)(d:η)(e:(δ ζ)->Int->ε ((δ ζ)⊕(aC×(aC×Int×Int×ζ))))(c:δ ζ)(a:Int):ε ((δ ζ)⊕(aC×(aC×Int×Int×ζ))):=
 (if a<f then(gd (0<=a/\a<γ b.1)<|((((YE fu (Κ b.1 a)).bind λj=>(bif j then θ μ else(bif (!d)then(if(Κ b.1 a)=42 then θ μ else(if(Κ b.1 a)=35 then θ μ else(bif d then θ (decide (a=b.2.1))else θ ν)))else(bif d then θ (decide (a=b.2.1))else θ ν))))).bind λi=>(bif i then(gd ((γ c+γ ([Κ b.1 a]))*1<=140737488355328)<|(gd (bJ (a+1))<|(e (c++([Κ b.1 a])) (a+1))))else((ZE fu ([45,46,40,41]) (Κ b.1 a)).bind λh=>(bif (!h)then((Kg fu b a 5).bind λg=>θ (.inr ([],g)))else(gd (bJ (a+1))<|(e c (a+1))))))))else θ (.inl c))
def wq(fu:Nat)(f:(aC×Int×Int×ζ))(d:Int)(c:η):Nat->(δ ζ)->Int->ε ((δ ζ)⊕(aC×(aC×Int×Int×ζ))):=λe b a=>bE (λg v=>aem fu f d c (λb a=>g (b,a)) v.1 v.2) e (b,a)
theorem aja:wq a g c l (b+1) f e=aem a g c l (wq a g c l b) f e:=rfl
def afb(fu:Nat)(a:(aC×Int×Int×ζ)):ε (aC×(aC×Int×Int×ζ)):=
 ((ZF fu a [59]).bind λh=>((NN fu a 43).bind λg=>(((wq fu a h g fu [] a.2.1)).bind λj=>dA (λ(e:δ ζ)=>(((bif g then(gd (bJ (γ e-1))<|some (γ e-(1:Int)))else θ (γ e))).bind λi=>(((if i<1 then((Kg fu a a.2.1 5).bind λd=>θ (d.1,d.2.1,d.2.2.1,d.2.2.2))else θ (a.1,a.2.1,a.2.2.1,a.2.2.2))).bind λb=>(((if 30<i then((Kg fu b a.2.1 4).bind λc=>θ (c.1,c.2.1,c.2.2.1,c.2.2.2))else θ (b.1,b.2.1,b.2.2.1,b.2.2.2))).bind λf=>θ (e,(f.1,h,f.2.2.1,f.2.2.2)))))) (λq=>θ q) j)))
def bfk(fu:Nat)(s:aC):ε (UQ×Int×ζ):=
 (if 1024<(γ s:Int)then θ (([],[],[],0,[],[]),1024,4)else((ZF fu (s,0,0,0) [58]).bind λb=>(if b=γ s then θ (([],[],[],0,[],[]),γ s,5)else(gd (0<=b/\b<=γ s)<|((IU fu (eN (bL b) s)).bind λe=>(gd (bJ (b+1))<|(((((if e=([115,105,112])then θ (decide (e=([115,105,112])))else θ (decide (e=([115,105,112,115]))))).bind λl=>(bif l then((alp fu (s,b+1,0,0)).bind λj=>((ri fu j.2).bind λi=>((ei fu i.2).bind λh=>((BY fu h.2 59 59 ([59,63]) 1).bind λg=>((BY fu g.2 63 38 [38] 2).bind λd=>θ (.inl (d.2.1,d.2.2.1,d.2.2.2.1,d.2.2.2.2,j.1,i.1,h.1,g.1,d.1)))))))else(if e=([116,101,108])then((afb fu (s,b+1,0,0)).bind λf=>((BY fu f.2 59 59 [59] 1).bind λc=>θ (.inl (c.2.1,c.2.2.1,c.2.2.2.1,c.2.2.2.2,f.1,[],0,c.1,[]))))else θ (.inr (([],[],[],0,[],[]),0,15)))))).bind λk=>dA (λa=>(if a.2.2.2.1=0 then θ ((e,a.2.2.2.2.1,a.2.2.2.2.2.1,a.2.2.2.2.2.2.1,a.2.2.2.2.2.2.2.1,a.2.2.2.2.2.2.2.2),0,0)else θ (([],[],[],0,[],[]),a.2.2.1,a.2.2.2.1))) (λq=>θ q) k)))))))
open List renaming drop → cC
def bll(fu:Nat)(s:aC)(a:Int)(d:ζ):ε (Int×ζ):=
 (((if a<0 then θ μ else θ (decide (γ s<a)))).bind λb=>(bif b then θ (0,2)else(((if a=γ s then θ μ else(gd (0<=a/\a<γ s)<|some (!decide ((Κ s a)=d))))).bind λc=>(bif c then θ (a,5)else θ (0,0)))))
def bip(fu:Nat)(s:aC)(a:Int):ε (Int×Int×ζ):=
 (if γ s<=a then θ (0,γ s,6)else(gd (0<=a/\a<γ s)<|((qx fu (Κ s a)).bind λb=>(bif b then θ (0,a,5)else(gd (0<=a/\a<γ s)<|(if(Κ s a)=92 then(gd (bJ (a+1))<|(if γ s<=(a+1)then θ (0,γ s,6)else(((gd (bJ (a+1))<|(gd (0<=(a+1)/\(a+1)<γ s)<|(if(Κ s (a+1))<32 then θ μ else(gd (bJ (a+1))<|(gd (0<=(a+1)/\(a+1)<γ s)<|some (decide (126<(Κ s (a+1)))))))))).bind λc=>(bif c then θ (0,a,5)else θ (2,0,0)))))else θ (1,0,0)))))))
def ej(fu:Nat)(s:aC)(e:(δ ζ)->Int->ε (aC×Int×ζ))(c:δ ζ)(a:Int):ε (aC×Int×ζ):=
 ((bip fu s a).bind λb=>(if b.2.2=0 then(((if b.1=1 then(gd (0<=a/\a<γ s)<|some (decide ((Κ s a)=34)))else θ ν)).bind λd=>(bif d then(gd (bJ (a+1))<|some (c,a+1,0))else(gd (bJ (a+b.1))<|(gd (bJ ((a+b.1)-1))<|(gd (0<=((a+b.1)-1)/\((a+b.1)-1)<γ s)<|(gd ((γ c+γ ([Κ s ((a+b.1)-1)]))*1<=140737488355328)<|(gd (bJ (a+b.1))<|(e (c++([Κ s ((a+b.1)-1)])) (a+b.1)))))))))else θ ([],b.2.1,b.2.2)))
def art(fu:Nat)(s:aC):Nat->(δ ζ)->Int->ε (aC×Int×ζ):=λc b a=>bE (λg v=>ej fu s (λb a=>g (b,a)) v.1 v.2) c (b,a)
theorem wj:art a d (b+1) f c=ej a d (art a d b) f c:=rfl
def aqa(fu:Nat)(s:aC)(b:Int):ε (aC×Int×ζ):=
 ((bll fu s b 34).bind λa=>(if a.2=0 then(gd (bJ (b+1))<|(art fu s fu [] (b+1)))else θ ([],a.1,a.2)))
def amw(fu:Nat)(s:aC)(c:Int->ε Int)(a:Int):ε Int:=
 (((if a<γ s then(gd (0<=a/\a<γ s)<|some (!decide ((Κ s a)=93)))else θ ν)).bind λb=>(bif b then(gd (bJ (a+1))<|(c (a+1)))else θ a))
def avy(fu:Nat)(s:aC):Nat->Int->ε Int:=λb a=>bE (λg v=>amw fu s (λa=>g a) v) b a
theorem azc:avy a d (b+1) c=amw a d (avy a d b) c:=rfl
def bfg(fu:Nat)(s:aC)(a:Int):ε (aC×Int×ζ):=
 (((if a<γ s then(gd (0<=a/\a<γ s)<|some (decide ((Κ s a)=34)))else θ ν)).bind λv6=>(bif v6 then((aqa fu s a).bind λd=>θ (d.1,d.2.1,d.2.2))else(((((if a<γ s then(gd (0<=a/\a<γ s)<|some (decide ((Κ s a)=91)))else θ ν)).bind λg=>(bif g then(((avy fu s fu a)).bind λb=>(gd (bJ (b+1))<|(gd (0<=a/\a<=(min (b+1) (γ s))/\(min (b+1) (γ s))<=γ s)<|((qq fu (sub s a (min (b+1) (γ s)))).bind λe=>(bif (!e.2)then θ (.inr ([],a,5))else(gd (bJ (b+1))<|some (.inr (e.1,b+1,0))))))))else θ (.inl ())))).bind λf=>dA (λh=>((eg fu s a).bind λc=>(if c=a then θ ([],a,5)else(gd (0<=a/\a<=c/\c<=γ s)<|some (sub s a c,c,0))))) (λq=>θ q) f)))
def arq(fu:Nat)(s:aC)(n:LQ->Int->ε (LQ⊕(LQ×Int×ζ)))(g:LQ)(c:Int):ε (LQ⊕(LQ×Int×ζ)):=
 (if c<γ s then(gd (0<=c/\c<γ s)<|(if(Κ s c)=59 then(gd (bJ (c+1))<|((JP fu s (c+1)).bind λb=>((eg fu s b).bind λf=>(if f=b then θ (.inr ([],b,5))else(gd (0<=b/\b<=f/\f<=γ s)<|((IU fu (sub s b f)).bind λh=>((JP fu s f).bind λa=>(((((if a<γ s then(gd (0<=a/\a<γ s)<|some (decide ((Κ s a)=61)))else θ ν)).bind λm=>(bif m then(gd (bJ (a+1))<|((JP fu s (a+1)).bind λl=>((bfg fu s l).bind λe=>(if e.2.2=0 then((JP fu s e.2.1).bind λk=>θ (.inl (k,e.1,μ)))else θ (.inr ([],e.2.1,e.2.2))))))else θ (.inl (a,[],ν))))).bind λj=>dA (λd=>((IS fu g h).bind λi=>(if i=0 then(gd ((γ g+γ ([(h,d.2.1,d.2.2)]))*40<=140737488355328)<|(n (g++([(h,d.2.1,d.2.2)])) d.1))else θ (.inr ([],b,i))))) (λq=>θ (.inr q)) j))))))))else θ (.inr ([],c,5))))else θ (.inl g))
def ane(fu:Nat)(s:aC):Nat->LQ->Int->ε (LQ⊕(LQ×Int×ζ)):=λc b a=>bE (λg v=>arq fu s (λb a=>g (b,a)) v.1 v.2) c (b,a)
theorem ber:ane a d (b+1) j c=arq a d (ane a d b) j c:=rfl
def aoe(fu:Nat)(s:aC):ε (LQ×Int×ζ):=
 ((JP fu s 0).bind λa=>(((ane fu s fu [] a)).bind λc=>dA (λb=>θ (b,0,0)) (λq=>θ q) c))
def azp(fu:Nat)(s:aC)(f:aC)(d:Int)(e:Int)(c:Int):ε (AQ×Int×ζ):=
 (gd (0<=d/\d<=e/\e<=γ s)<|((bfk fu (sub s d e)).bind λa=>(if a.2.2=0 then(gd (0<=c/\c<=γ s)<|((aoe fu (cC (bL c) s)).bind λb=>(if b.2.2=0 then θ ((f,a.1,b.1),0,0)else(gd (bJ (c+b.2.1))<|some (([],([],[],[],0,[],[]),[]),c+b.2.1,b.2.2)))))else(gd (bJ (d+a.2.1))<|some (([],([],[],[],0,[],[]),[]),d+a.2.1,a.2.2)))))
def awf(fu:Nat)(s:aC)(d:Int->ε Int)(a:Int):ε Int:=
 (((if a<γ s then(gd (0<=a/\a<γ s)<|(if(Κ s a)=59 then θ ν else(gd (0<=a/\a<γ s)<|((TA fu (Κ s a)).bind λc=>θ (!c)))))else θ ν)).bind λb=>(bif b then(gd (bJ (a+1))<|(d (a+1)))else θ a))
def ayj(fu:Nat)(s:aC):Nat->Int->ε Int:=λb a=>bE (λg v=>awf fu s (λa=>g a) v) b a
theorem bil:ayj a d (b+1) c=awf a d (ayj a d b) c:=rfl
def awe(fu:Nat)(s:aC)(d:Int)(c:Int->ε (Unit⊕(AQ×Int×ζ)))(a:Int):ε (Unit⊕(AQ×Int×ζ)):=
 (if a<d then(((gd (0<=a/\a<γ s)<|(if(Κ s a)=63 then θ μ else(gd (0<=a/\a<γ s)<|some (decide ((Κ s a)=44)))))).bind λb=>(bif b then θ (.inr (([],([],[],[],0,[],[]),[]),a,5))else(gd (bJ (a+1))<|(c (a+1)))))else θ (.inl ()))
def ayi(fu:Nat)(s:aC)(c:Int):Nat->Int->ε (Unit⊕(AQ×Int×ζ)):=λb a=>bE (λg v=>awe fu s c (λa=>g a) v) b a
theorem bik:ayi a d c (b+1) e=awe a d c (ayi a d c b) e:=rfl
def bim(fu:Nat)(s:aC)(c:Int):ε (AQ×Int×ζ):=
 (((ayj fu s fu c)).bind λb=>(((ayi fu s b fu c)).bind λd=>dA (λe=>((azp fu s [] c b b).bind λa=>θ (a.1,a.2.1,a.2.2))) (λq=>θ q) d))
def akf(fu:Nat)(s:aC)(g:Int)(f:Int->aC->ε (aC⊕(aC×Int×Int×ζ)))(a:Int)(c:aC):ε (aC⊕(aC×Int×Int×ζ)):=
 (if a<g then((eg fu s a).bind λb=>(if b=a then θ (.inr ([],0,a,5))else(((if c=[]then θ c else(gd (γ c+γ ([32]:aC)<=9223372036854775807)<|some (c++[32])))).bind λd=>(gd (0<=a/\a<=b/\b<=γ s)<|(gd (γ d+γ (sub s a b)<=9223372036854775807)<|((JP fu s b).bind λe=>(f e (d++(sub s a b)))))))))else θ (.inl c))
def alr(fu:Nat)(s:aC)(d:Int):Nat->Int->aC->ε (aC⊕(aC×Int×Int×ζ)):=λc b a=>bE (λg v=>akf fu s d (λb a=>g (b,a)) v.1 v.2) c (b,a)
theorem avd:alr a d c (b+1) e m=akf a d c (alr a d c b) e m:=rfl
def bbe(fu:Nat)(s:aC)(c:Int)(d:Int):ε (aC×Int×Int×ζ):=
 (gd (0<=c/\c<γ s)<|(if(Κ s c)=34 then((aqa fu s c).bind λb=>(if b.2.2=0 then((JP fu s b.2.1).bind λa=>(((if a=γ s then θ μ else(gd (0<=a/\a<γ s)<|some (!decide ((Κ s a)=60))))).bind λg=>(bif g then θ ([],0,a,5)else θ (b.1,a,0,0))))else θ ([],0,b.2.1,b.2.2)))else(((alr fu s d fu c [])).bind λf=>dA (λe=>θ (e,d,0,0)) (λq=>θ q) f)))
def akg(fu:Nat)(s:aC):ε (AQ×Int×ζ):=
 (if 1024<(γ s:Int)then θ (([],([],[],[],0,[],[]),[]),1024,4)else((JP fu s 0).bind λa=>((awb fu s a 60).bind λf=>(((if f<0 then(if a=γ s then θ μ else(gd (0<=a/\a<γ s)<|some (!decide ((Κ s a)=34))))else θ ν)).bind λg=>(bif g then((bim fu s a).bind λe=>θ (e.1,e.2.1,e.2.2))else((bbe fu s a f).bind λb=>(if b.2.2.2=0 then((awb fu s b.2.1 62).bind λc=>(if c<0 then θ (([],([],[],[],0,[],[]),[]),γ s,5)else(gd (bJ (b.2.1+1))<|(gd (bJ (c+1))<|((azp fu s b.1 (b.2.1+1) c (c+1)).bind λd=>θ (d.1,d.2.1,d.2.2))))))else θ (([],([],[],[],0,[],[]),[]),b.2.2.1,b.2.2.2))))))))
def bbb(fu:Nat)(c:aC):ε (AQ×ζ):=
 ((YB fu c).bind λb=>((akg fu b).bind λa=>θ (a.1,a.2.2)))
def amx(fu:Nat)(s:aC)(c:Int->ε (Unit⊕η))(a:Int):ε (Unit⊕η):=
 (if a<γ s then(gd (0<=a/\a<γ s)<|((qx fu (Κ s a)).bind λb=>(bif b then θ (.inr ν)else(gd (bJ (a+1))<|(c (a+1))))))else θ (.inl ()))
def avz(fu:Nat)(s:aC):Nat->Int->ε (Unit⊕η):=λb a=>bE (λg v=>amx fu s (λa=>g a) v) b a
theorem azd:avz a d (b+1) c=amx a d (avz a d b) c:=rfl
def vv(fu:Nat)(s:aC):ε η:=
 (((avz fu s fu 0)).bind λa=>dA (λb=>θ μ) (λq=>θ q) a)
def atu(fu:Nat)(b:LQ)(c:Int)(m:Int->ε (Unit⊕η))(a:Int):ε (Unit⊕η):=
 (if a<γ b then(gd (0<=a/\a<γ b)<|(gd (0<=a/\a<γ b)<|(((if((el b a).1)=[]then θ μ else((vv fu ((el b a).1)).bind λl=>(bif (!l)then θ μ else((vv fu ((el b a).2.1)).bind λk=>(bif (!k)then θ μ else(bif (!((el b a).2.2))then(if((el b a).2.1)=[]then(if c=2 then θ μ else(bif ((el b a).2.2)then(if((el b a).2.1)=[]then(if c=1 then θ μ else(gd (0<=a/\a<=γ b)<|((IS fu (eN (bL a) b) ((el b a).1)).bind λj=>θ (!decide (j=0)))))else(gd (0<=a/\a<=γ b)<|((IS fu (eN (bL a) b) ((el b a).1)).bind λi=>θ (!decide (i=0)))))else(gd (0<=a/\a<=γ b)<|((IS fu (eN (bL a) b) ((el b a).1)).bind λh=>θ (!decide (h=0))))))else θ μ)else(bif ((el b a).2.2)then(if((el b a).2.1)=[]then(if c=1 then θ μ else(gd (0<=a/\a<=γ b)<|((IS fu (eN (bL a) b) ((el b a).1)).bind λg=>θ (!decide (g=0)))))else(gd (0<=a/\a<=γ b)<|((IS fu (eN (bL a) b) ((el b a).1)).bind λf=>θ (!decide (f=0)))))else(gd (0<=a/\a<=γ b)<|((IS fu (eN (bL a) b) ((el b a).1)).bind λe=>θ (!decide (e=0)))))))))))).bind λd=>(bif d then θ (.inr ν)else(gd (bJ (a+1))<|(m (a+1)))))))else θ (.inl ()))
def apx(fu:Nat)(d:LQ)(c:Int):Nat->Int->ε (Unit⊕η):=λb a=>bE (λg v=>atu fu d c (λa=>g a) v) b a
theorem bgu:apx a j c (b+1) e=atu a j c (apx a j c b) e:=rfl
def bbc(fu:Nat)(c:LQ)(b:Int):ε η:=
 (((apx fu c b fu 0)).bind λa=>dA (λd=>θ μ) (λq=>θ q) a)
def aor(fu:Nat)(b:LQ)(e:LQ->Int->ε LQ)(c:LQ)(a:Int):ε LQ:=
 (if a<γ b then(gd (0<=a/\a<γ b)<|(gd (0<=a/\a<γ b)<|((IU fu ((el b a).1)).bind λd=>(gd ((γ c+γ ([(d,(el b a).2.1,((el b a).2.2))]))*40<=140737488355328)<|(gd (bJ (a+1))<|(e (c++([(d,(el b a).2.1,((el b a).2.2))])) (a+1)))))))else θ c)
def alq(fu:Nat)(d:LQ):Nat->LQ->Int->ε LQ:=λc b a=>bE (λg v=>aor fu d (λb a=>g (b,a)) v.1 v.2) c (b,a)
theorem bdq:alq a j (b+1) s c=aor a j (alq a j b) s c:=rfl
def avc(fu:Nat)(c:LQ):ε LQ:=
 (((alq fu c fu [] 0)).bind λb=>((ee fu b).bind λa=>θ a))
def att(fu:Nat)(s:aC):ε η:=
 ((afb fu (s,0,0,0)).bind λa=>(((if a.2.2.2.2=0 then θ (decide (a.1=s))else θ ν)).bind λb=>θ b))
def bdc(fu:Nat)(a:UQ):ε (UQ×ζ):=
 ((IU fu a.1).bind λb=>((((bbc fu a.2.2.2.2.1 1).bind λm=>(bif (!m)then θ μ else((bbc fu a.2.2.2.2.2 2).bind λl=>(bif (!l)then θ μ else((vv fu a.2.1).bind λk=>θ (!k))))))).bind λj=>(bif j then θ (([],[],[],0,[],[]),2)else((avc fu a.2.2.2.2.1).bind λe=>((avc fu a.2.2.2.2.2).bind λc=>(((if b=([115,105,112])then θ (decide (b=([115,105,112])))else θ (decide (b=([115,105,112,115]))))).bind λi=>(bif i then((qq fu a.2.2.1).bind λd=>(((bif (!d.2)then θ μ else(if a.2.2.2.1<0 then θ μ else θ (decide (65535<a.2.2.2.1))))).bind λh=>(bif h then θ (([],[],[],0,[],[]),2)else θ ((b,a.2.1,d.1,a.2.2.2.1,e,c),0))))else(if b=([116,101,108])then(((if a.2.2.1=[]then(if a.2.2.2.1=0 then(if γ c=(0:Int)then((att fu a.2.1).bind λg=>θ g)else θ ν)else θ ν)else θ ν)).bind λf=>(bif f then θ ((b,a.2.1,a.2.2.1,a.2.2.2.1,e,c),0)else θ (([],[],[],0,[],[]),2)))else θ (([],[],[],0,[],[]),2)))))))))
def ars(fu:Nat)(s:aC)(e:Int)(c:(δ ζ)->Int->ε (δ ζ))(b:δ ζ)(a:Int):ε (δ ζ):=
 (if a<γ s then(gd (0<=a/\a<γ s)<|((bkh fu (Κ s a) e).bind λd=>(bif d then(gd (0<=a/\a<γ s)<|(gd ((γ b+γ ([Κ s a]))*1<=140737488355328)<|(gd (bJ (a+1))<|(c (b++([Κ s a])) (a+1)))))else(gd (0<=a/\a<γ s)<|(gd ((16:ζ)≠0)<|(gd (0<=(((Κ s a)/(16:ζ)).toNat:Int)/\(((Κ s a)/16).toNat)<(γ ([48,49,50,51,52,53,54,55,56,57,65,66,67,68,69,70]:aC):Int))<|(gd (0<=a/\a<γ s)<|(gd ((16:ζ)≠0)<|(gd (0<=(((Κ s a)%(16:ζ)).toNat:Int)/\(((Κ s a)%16).toNat)<(γ ([48,49,50,51,52,53,54,55,56,57,65,66,67,68,69,70]:aC):Int))<|(gd ((γ b+γ ([37,Κ ([48,49,50,51,52,53,54,55,56,57,65,66,67,68,69,70]) (((Κ s a)/16).toNat),Κ ([48,49,50,51,52,53,54,55,56,57,65,66,67,68,69,70]) (((Κ s a)%16).toNat)]))*1<=140737488355328)<|(gd (bJ (a+1))<|(c (b++([37,Κ ([48,49,50,51,52,53,54,55,56,57,65,66,67,68,69,70]) (((Κ s a)/16).toNat),Κ ([48,49,50,51,52,53,54,55,56,57,65,66,67,68,69,70]) (((Κ s a)%16).toNat)])) (a+1)))))))))))))else θ b)
def ang(fu:Nat)(s:aC)(d:Int):Nat->(δ ζ)->Int->ε (δ ζ):=λc b a=>bE (λg v=>ars fu s d (λb a=>g (b,a)) v.1 v.2) c (b,a)
theorem bes:ang a d c (b+1) f e=ars a d c (ang a d c b) f e:=rfl
def aof(fu:Nat)(s:aC)(b:Int):ε aC:=
 (((ang fu s b fu [] 0)).bind λa=>θ a)
def atr(fu:Nat)(b:LQ)(i:aC)(h:Int)(g:aC->aC->Int->ε aC)(c:aC)(d:aC)(a:Int):ε aC:=
 (if a<γ b then(gd (γ c+γ d<=9223372036854775807)<|(gd (0<=a/\a<γ b)<|(gd (0<=a/\a<γ b)<|((aof fu ((el b a).1) h).bind λe=>(gd (γ (c++d)+γ e<=9223372036854775807)<|(gd (0<=a/\a<γ b)<|(gd (0<=a/\a<γ b)<|(bif ((el b a).2.2)then(gd (γ ((c++d)++e)+γ ([61]:aC)<=9223372036854775807)<|(gd (0<=a/\a<γ b)<|(gd (0<=a/\a<γ b)<|((aof fu ((el b a).2.1) h).bind λf=>(gd (γ (((c++d)++e)++[61])+γ f<=9223372036854775807)<|(gd (bJ (a+1))<|(g ((((c++d)++e)++[61])++f) i (a+1))))))))else(gd (bJ (a+1))<|(g ((c++d)++e) i (a+1)))))))))))else θ c)
def ala(fu:Nat)(h:LQ)(f:aC)(e:Int):Nat->aC->aC->Int->ε aC:=λd c b a=>bE (λg v=>atr fu h f e (λc b a=>g (c,b,a)) v.1 v.2.1 v.2.2) d (c,b,a)
theorem bgt{f:aC}:ala a j d c (b+1) m f e=atr a j d c (ala a j d c b) m f e:=rfl
def vw(fu:Nat)(e:LQ)(d:aC)(c:aC)(b:Int):ε aC:=
 (((ala fu e c b fu [] d 0)).bind λa=>θ a)
def qy:Nat->Int->ε aC
 |0,_=>ι
 |c+1,a=>(if a<10 then(gd (bJ (a+1))<|(gd (0<=a/\a<=(a+1)/\(a+1)<=(γ ([48,49,50,51,52,53,54,55,56,57]:aC)))<|some (sub ([48,49,50,51,52,53,54,55,56,57]) a (a+1))))else(gd (0<=a/\0<(10:Int)/\bJ (a))<|((qy c (a/10)).bind λb=>(gd (0<=a/\0<(10:Int)/\bJ (a))<|(gd (0<=a/\0<(10:Int)/\bJ (a))<|(gd (bJ ((a%10)+1))<|(gd (0<=(a%10)/\(a%10)<=((a%10)+1)/\((a%10)+1)<=(γ ([48,49,50,51,52,53,54,55,56,57]:aC)))<|(gd (γ b+γ (sub ([48,49,50,51,52,53,54,55,56,57]) (a%10) ((a%10)+1))<=9223372036854775807)<|some (b++(sub ([48,49,50,51,52,53,54,55,56,57]) (a%10) ((a%10)+1)))))))))))
def bfj(fu:Nat)(i:UQ):ε (aC×ζ):=
 ((bdc fu i).bind λa=>(if a.2=0 then(if a.1.1=([116,101,108])then(gd (γ ([116,101,108,58]:aC)+γ a.1.2.1<=9223372036854775807)<|((vw fu a.1.2.2.2.2.1 [59] [59] 1).bind λh=>(gd (γ (([116,101,108,58])++a.1.2.1)+γ h<=9223372036854775807)<|some ((([116,101,108,58]:aC)++a.1.2.1)++h,0))))else(gd (γ a.1.1+γ ([58]:aC)<=9223372036854775807)<|(((if a.1.2.1=[]then θ (a.1.1++[58])else((aof fu a.1.2.1 0).bind λe=>(gd (γ (a.1.1++[58])+γ e<=9223372036854775807)<|(gd (γ ((a.1.1++[58])++e)+γ ([64]:aC)<=9223372036854775807)<|some (((a.1.1++[58])++e)++[64])))))).bind λb=>(gd (γ b+γ a.1.2.2.1<=9223372036854775807)<|(((if 0<a.1.2.2.2.1 then(gd (γ (b++a.1.2.2.1)+γ ([58]:aC)<=9223372036854775807)<|((qy fu a.1.2.2.2.1).bind λg=>(gd (γ ((b++a.1.2.2.1)++[58])+γ g<=9223372036854775807)<|some (((b++a.1.2.2.1)++[58])++g))))else θ (b++a.1.2.2.1))).bind λd=>((vw fu a.1.2.2.2.2.1 [59] [59] 1).bind λc=>(gd (γ d+γ c<=9223372036854775807)<|((vw fu a.1.2.2.2.2.2 [63] [38] 2).bind λf=>(gd (γ (d++c)+γ f<=9223372036854775807)<|some ((d++c)++f,0))))))))))else θ ([],a.2)))
def apz(fu:Nat)(s:aC):ε η:=
 ((qq fu s).bind λa=>(((bif a.2 then(if a.1=s then(gd (0<=(0:Int)/\0<(γ s:Int))<|some (decide ((Κ s 0)=91)))else θ ν)else θ ν)).bind λb=>θ b))
def atz(fu:Nat)(s:aC)(f:(δ ζ)->Int->ε ((δ ζ)⊕(aC×ζ)))(b:δ ζ)(a:Int):ε ((δ ζ)⊕(aC×ζ)):=
 (if a<γ s then(gd (0<=a/\a<γ s)<|((qx fu (Κ s a)).bind λe=>(bif e then θ (.inr ([],5))else(((((gd (0<=a/\a<γ s)<|(if(Κ s a)=34 then θ μ else(gd (0<=a/\a<γ s)<|some (decide ((Κ s a)=92)))))).bind λd=>(bif d then(gd ((γ b+γ ([(92:ζ)]))*1<=140737488355328)<|some (b++([92])))else θ b))).bind λc=>(gd (0<=a/\a<γ s)<|(gd ((γ c+γ ([Κ s a]))*1<=140737488355328)<|(gd (bJ (a+1))<|(f (c++([Κ s a])) (a+1)))))))))else θ (.inl b))
def alb(fu:Nat)(s:aC):Nat->(δ ζ)->Int->ε ((δ ζ)⊕(aC×ζ)):=λc b a=>bE (λg v=>atz fu s (λb a=>g (b,a)) v.1 v.2) c (b,a)
theorem bha:alb a d (b+1) f c=atz a d (alb a d b) f c:=rfl
def bbh(fu:Nat)(s:aC):ε (aC×ζ):=
 (((alb fu s fu ([34]) 0)).bind λb=>dA (λ(a:δ ζ)=>(gd ((γ a+γ ([(34:ζ)]))*1<=140737488355328)<|some (a++([(34:ζ)]),0))) (λq=>θ q) b)
def ajt(fu:Nat)(b:LQ)(d:aC->Int->ε (aC⊕(aC×ζ)))(c:aC)(a:Int):ε (aC⊕(aC×ζ)):=
 (if a<γ b then(gd (0<=a/\a<γ b)<|(gd (0<=a/\a<γ b)<|((((bp fu ((el b a).1)).bind λn=>(bif (!n)then θ μ else((IU fu ((el b a).1)).bind λm=>(if m=((el b a).1)then((vv fu ((el b a).2.1)).bind λl=>(bif (!l)then θ μ else(bif (!((el b a).2.2))then(if((el b a).2.1)=[]then(gd (0<=a/\a<=γ b)<|((IS fu (eN (bL a) b) ((el b a).1)).bind λk=>θ (!decide (k=0))))else θ μ)else(gd (0<=a/\a<=γ b)<|((IS fu (eN (bL a) b) ((el b a).1)).bind λj=>θ (!decide (j=0)))))))else θ μ))))).bind λi=>(bif i then θ (.inr ([],2))else(gd (γ c+γ ([59]:aC)<=9223372036854775807)<|(gd (γ (c++[59])+γ ((el b a).1)<=9223372036854775807)<|(((bif ((el b a).2.2)then((bp fu ((el b a).2.1)).bind λh=>(bif h then θ μ else((apz fu ((el b a).2.1)).bind λg=>θ g)))else θ ν)).bind λf=>(bif f then(gd (γ ((c++[59])++((el b a).1))+γ ([61]:aC)<=9223372036854775807)<|(gd (γ (((c++[59])++((el b a).1))++[61])+γ ((el b a).2.1)<=9223372036854775807)<|(gd (bJ (a+1))<|(d ((((c++[59])++((el b a).1))++[61])++((el b a).2.1)) (a+1)))))else(bif ((el b a).2.2)then((bbh fu ((el b a).2.1)).bind λe=>(gd (γ ((c++[59])++((el b a).1))+γ ([61]:aC)<=9223372036854775807)<|(gd (γ (((c++[59])++((el b a).1))++[61])+γ e.1<=9223372036854775807)<|(gd (bJ (a+1))<|(d ((((c++[59])++((el b a).1))++[61])++e.1) (a+1))))))else(gd (bJ (a+1))<|(d ((c++[59])++((el b a).1)) (a+1))))))))))))else θ (.inl c))
def afm(fu:Nat)(d:LQ):Nat->aC->Int->ε (aC⊕(aC×ζ)):=λc b a=>bE (λg v=>ajt fu d (λb a=>g (b,a)) v.1 v.2) c (b,a)
theorem axy:afm a j (b+1) d c=ajt a j (afm a j b) d c:=rfl
def aim(fu:Nat)(c:LQ):ε (aC×ζ):=
 (((afm fu c fu [] 0)).bind λb=>dA (λa=>θ (a,0)) (λq=>θ q) b)
def aot(fu:Nat)(d:AQ):ε (aC×ζ):=
 ((bfj fu d.2.1).bind λa=>((ee fu d.2.2).bind λe=>((aim fu e).bind λc=>((bbh fu d.1).bind λb=>(((if a.2=0 then(if c.2=0 then θ (!decide (b.2=0))else θ μ)else θ μ)).bind λf=>(bif f then θ ([],2)else(if d.1=[]then(gd (γ ([60]:aC)+γ a.1<=9223372036854775807)<|(gd (γ ([60]++a.1)+γ ([62]:aC)<=9223372036854775807)<|(gd (γ (([60]++a.1)++[62])+γ c.1<=9223372036854775807)<|some (((([60]:aC)++a.1)++([62]:aC))++c.1,0))))else(gd (γ b.1+γ ([32,60]:aC)<=9223372036854775807)<|(gd (γ (b.1++([32,60]))+γ a.1<=9223372036854775807)<|(gd (γ ((b.1++([32,60]))++a.1)+γ ([62]:aC)<=9223372036854775807)<|(gd (γ (((b.1++([32,60]))++a.1)++[62])+γ c.1<=9223372036854775807)<|some ((((b.1++([32,60]))++a.1)++[62])++c.1,0))))))))))))
def ato(fu:Nat)(s:aC)(c:aC->Int->ε aC)(b:aC)(a:Int):ε aC:=
 (if a<γ s then(((gd (0<=a/\a<γ b)<|(gd (0<=a/\a<γ b)<|(if 97<=(Κ b a)then(gd (0<=a/\a<γ b)<|(gd (0<=a/\a<γ b)<|some (decide ((Κ b a)<=122))))else θ ν)))).bind λd=>(bif d then(gd (0<=a/\a<γ b)<|(gd (0<=a/\a<γ b)<|(gd (0<=a/\a<γ b)<|(gd (0<=a/\a<γ b)<|(gd (bJ (a+1))<|(c (jH b (bL a) ((Κ b a)-32)) (a+1)))))))else(gd (bJ (a+1))<|(c b (a+1)))))else θ b)
def avr(fu:Nat)(s:aC):Nat->aC->Int->ε aC:=λc b a=>bE (λg v=>ato fu s (λb a=>g (b,a)) v.1 v.2) c (b,a)
theorem bgr:avr a d (b+1) m c=ato a d (avr a d b) m c:=rfl
def avs(fu:Nat)(s:aC):ε aC:=
 (((avr fu s fu s 0)).bind λa=>θ a)
def bic(fu:Nat)(s:aC):ε (Int×ζ):=
 ((aog fu s).bind λa=>(((if a.2=0 then(if a.1<1 then θ μ else θ (decide (65535<a.1)))else θ ν)).bind λb=>(bif b then θ (0,3)else θ (a.1,a.2))))
def bgz(fu:Nat)(b:LQ)(c:aC):ε (aC×η):=
 ((bdr fu b c).bind λa=>(if a<0 then θ ([],ν)else(gd (0<=a/\a<γ b)<|(gd (0<=a/\a<γ b)<|some ((el b a).2.1,μ)))))
def asi(fu:Nat)(b:aC)(e:Int->ε Int)(a:Int):ε Int:=
 (((if a<γ b then(gd (0<=a/\a<γ b)<|(if(Κ b a)=59 then θ ν else(gd (0<=a/\a<γ b)<|((TA fu (Κ b a)).bind λd=>θ (!d)))))else θ ν)).bind λc=>(bif c then(gd (bJ (a+1))<|(e (a+1)))else θ a))
def baz(fu:Nat)(b:aC):Nat->Int->ε Int:=λc a=>bE (λg v=>asi fu b (λa=>g a) v) c a
theorem bct:baz a d (b+1) c=asi a d (baz a d b) c:=rfl
def aye(fu:Nat)(b:aC)(e:Int)(d:Int->Int->ε Int)(c:Int)(a:Int):ε Int:=
 (if a<e then(((gd (0<=a/\a<γ b)<|(if(Κ b a)=58 then θ a else θ c))).bind λf=>(gd (0<=a/\a<γ b)<|(if(Κ b a)=93 then(gd (bJ (a+1))<|(d e (a+1)))else(gd (bJ (a+1))<|(d f (a+1))))))else θ c)
def bay(fu:Nat)(c:aC)(e:Int):Nat->Int->Int->ε Int:=λd b a=>bE (λg v=>aye fu c e (λb a=>g (b,a)) v.1 v.2) d (b,a)
theorem bkf:bay a d c (b+1) e p=aye a d c (bay a d c b) e p:=rfl
def bli(fu:Nat)(o:aC):ε ((aC×aC×Int×aC×LQ)×ζ):=
 ((YB fu o).bind λa=>((eg fu a 8).bind λd=>((JP fu a d).bind λe=>(((if γ a<(8:Int)then θ μ else(gd (0<=(8:Int)/\8<=(γ a:Int))<|((avs fu (eN (bL 8) a)).bind λn=>(if n=([83,73,80,47,50,46,48,47])then(if d=8 then θ μ else θ (decide (e=d)))else θ μ))))).bind λm=>(bif m then θ (([],[],0,[],[]),5)else(((baz fu a fu e)).bind λb=>(((bay fu a b fu b e)).bind λc=>(gd (0<=e/\e<=c/\c<=γ a)<|((qq fu (sub a e c)).bind λh=>(bif (!h.2)then θ (([],[],0,[],[]),5)else(gd (0<=(8:Int)/\8<=d/\d<=γ a)<|((avs fu (sub a 8 d)).bind λl=>(((if c<b then(gd (bJ (c+1))<|(gd (0<=(c+1)/\(c+1)<=b/\b<=γ a)<|((bic fu (sub a (c+1) b)).bind λg=>(if g.2=0 then θ (.inl g.1)else θ (.inr (([],[],0,[],[]),g.2))))))else θ (.inl 0))).bind λk=>dA (λj=>(gd (0<=b/\b<=γ a)<|((aoe fu (cC (bL b) a)).bind λf=>(if f.2.2=0 then((bgz fu f.1 ([98,114,97,110,99,104])).bind λi=>θ ((l,h.1,j,i.1,f.1),0))else θ (([],[],0,[],[]),f.2.2))))) (λq=>θ q) k)))))))))))))
def ZD:Nat->Int->ε aC
 |0,_=>ι
 |c+1,a=>(if a<10 then(gd (bJ (a+1))<|(gd (0<=a/\a<=(a+1)/\(a+1)<=(γ ([48,49,50,51,52,53,54,55,56,57]:aC)))<|some (sub ([48,49,50,51,52,53,54,55,56,57]) a (a+1))))else(gd (0<=a/\0<(10:Int)/\bJ (a))<|((ZD c (a/10)).bind λb=>(gd (0<=a/\0<(10:Int)/\bJ (a))<|(gd (0<=a/\0<(10:Int)/\bJ (a))<|(gd (bJ ((a%10)+1))<|(gd (0<=(a%10)/\(a%10)<=((a%10)+1)/\((a%10)+1)<=(γ ([48,49,50,51,52,53,54,55,56,57]:aC)))<|(gd (γ b+γ (sub ([48,49,50,51,52,53,54,55,56,57]) (a%10) ((a%10)+1))<=9223372036854775807)<|some (b++(sub ([48,49,50,51,52,53,54,55,56,57]) (a%10) ((a%10)+1)))))))))))
def ams(fu:Nat)(b:(aC×aC×Int×aC×LQ))(d:LQ->Int->ε LQ)(c:LQ)(a:Int):ε LQ:=
 (if a<γ b.2.2.2.2 then(gd (0<=a/\a<γ b.2.2.2.2)<|(gd (0<=a/\a<γ b.2.2.2.2)<|(if((el b.2.2.2.2 a).1)=([98,114,97,110,99,104])then(gd (bJ (a+1))<|(d c (a+1)))else(gd (0<=a/\a<γ b.2.2.2.2)<|(gd (0<=a/\a<γ b.2.2.2.2)<|(gd ((γ c+γ ([((el b.2.2.2.2 a).1,(el b.2.2.2.2 a).2.1,((el b.2.2.2.2 a).2.2))]))*40<=140737488355328)<|(gd (bJ (a+1))<|(d (c++([((el b.2.2.2.2 a).1,(el b.2.2.2.2 a).2.1,((el b.2.2.2.2 a).2.2))])) (a+1)))))))))else θ c)
def ake(fu:Nat)(d:(aC×aC×Int×aC×LQ)):Nat->LQ->Int->ε LQ:=λc b a=>bE (λg v=>ams fu d (λb a=>g (b,a)) v.1 v.2) c (b,a)
theorem bby:ake a o (b+1) j c=ams a o (ake a o b) j c:=rfl
def ayf(fu:Nat)(a:(aC×aC×Int×aC×LQ)):ε (aC×ζ):=
 ((qq fu a.2.1).bind λc=>((((bp fu a.1).bind λj=>(bif (!j)then θ μ else(bif (!c.2)then θ μ else(if a.2.2.1<0 then θ μ else θ (decide (65535<a.2.2.1))))))).bind λi=>(bif i then θ ([],2)else(((ake fu a fu [] 0)).bind λf=>(((if a.2.2.2.1=[]then θ f else(gd ((γ f+γ ([(([98,114,97,110,99,104]:aC),a.2.2.2.1,μ)]:LQ))*40<=140737488355328)<|some (f++([(([98,114,97,110,99,104]:aC),a.2.2.2.1,μ)]:LQ))))).bind λh=>((ee fu h).bind λg=>((aim fu g).bind λd=>(if d.2=0 then((avs fu a.1).bind λb=>(gd (γ ([83,73,80,47,50,46,48,47]:aC)+γ b<=9223372036854775807)<|(gd (γ (([83,73,80,47,50,46,48,47])++b)+γ ([32]:aC)<=9223372036854775807)<|(gd (γ ((([83,73,80,47,50,46,48,47])++b)++[32])+γ c.1<=9223372036854775807)<|(if 0<a.2.2.1 then(gd (γ (((([83,73,80,47,50,46,48,47])++b)++[32])++c.1)+γ ([58]:aC)<=9223372036854775807)<|((ZD fu a.2.2.1).bind λe=>(gd (γ ((((([83,73,80,47,50,46,48,47])++b)++[32])++c.1)++[58])+γ e<=9223372036854775807)<|(gd (γ (((((([83,73,80,47,50,46,48,47])++b)++[32])++c.1)++[58])++e)+γ d.1<=9223372036854775807)<|some ((((((([83,73,80,47,50,46,48,47]:aC)++b)++([32]:aC))++c.1)++([58]:aC))++e)++d.1,0)))))else(gd (γ (((([83,73,80,47,50,46,48,47])++b)++[32])++c.1)+γ d.1<=9223372036854775807)<|some ((((([83,73,80,47,50,46,48,47]:aC)++b)++([32]:aC))++c.1)++d.1,0)))))))else θ ([],2)))))))))
def amr(fu:Nat)(b:aC)(e:Int->ε Int)(a:Int):ε Int:=
 (((if a<γ b then(gd (0<=a/\a<γ b)<|((TA fu (Κ b a)).bind λd=>θ (!d)))else θ ν)).bind λc=>(bif c then(gd (bJ (a+1))<|(e (a+1)))else θ a))
def apv(fu:Nat)(b:aC):Nat->Int->ε Int:=λc a=>bE (λg v=>amr fu b (λa=>g a) v) c a
theorem aza:apv a d (b+1) c=amr a d (apv a d b) c:=rfl
def bax(fu:Nat)(e:aC):ε (Int×aC×ζ):=
 ((YB fu e).bind λa=>(((apv fu a fu 0)).bind λb=>(gd (0<=b/\b<=γ a)<|((aog fu (eN (bL b) a)).bind λd=>((JP fu a b).bind λc=>(gd (0<=c/\c<=γ a)<|some (d.1,cC (bL c) a,d.2)))))))
def bdp(fu:Nat)(c:aC):ε (Int×aC×ζ):=
 ((bax fu c).bind λa=>(if a.2.2=0 then((bp fu a.2.1).bind λb=>(bif (!b)then θ (0,[],5)else θ (a.1,a.2.1,0)))else θ (0,[],a.2.2)))
def bie(fu:Nat)(c:aC):ε (Int×Int×aC×ζ):=
 ((bax fu c).bind λb=>(if b.2.2=0 then((bdp fu b.2.1).bind λa=>(if a.2.2=0 then θ (b.1,a.1,a.2.1,0)else θ (0,0,[],a.2.2)))else θ (0,0,[],b.2.2)))
def bcz(fu:Nat)(c:aC):ε (Int×ζ):=
 ((YB fu c).bind λb=>((aog fu b).bind λa=>θ (a.1,a.2)))
def avb(fu:Nat)(s:aC):ε Int:=
 ((eg fu s 0).bind λa=>(((if a=0 then θ μ else(if a=γ s then θ μ else(gd (0<=a/\a<γ s)<|some (!decide ((Κ s a)=47)))))).bind λc=>(bif c then θ a else(gd (bJ (a+1))<|((eg fu s (a+1)).bind λb=>(gd (bJ (a+1))<|(if b=(a+1)then θ 0 else θ b)))))))
def bij(fu:Nat)(d:aC):ε ((aC×LQ)×ζ):=
 ((YB fu d).bind λb=>((avb fu b).bind λa=>(if a=0 then θ (([],[]),5)else(gd (0<=a/\a<=γ b)<|((aoe fu (cC (bL a) b)).bind λc=>(if c.2.2=0 then(gd (0<=a/\a<=γ b)<|some ((eN (bL a) b,c.1),0))else θ (([],[]),c.2.2)))))))
def avv(fu:Nat)(a:(aC×LQ)):ε (aC×ζ):=
 ((ee fu a.2).bind λc=>((aim fu c).bind λb=>(((if a.1=[]then θ μ else((avb fu a.1).bind λe=>(if e=γ a.1 then θ (!decide (b.2=0))else θ μ)))).bind λd=>(bif d then θ ([],2)else(gd (γ a.1+γ b.1<=9223372036854775807)<|some (a.1++b.1,0))))))
def avt(fu:Nat)(b:aC)(d:Int->ε (Unit⊕(aC×ζ)))(a:Int):ε (Unit⊕(aC×ζ)):=
 (if a<γ b then(gd (0<=a/\a<γ b)<|((qx fu (Κ b a)).bind λc=>(bif c then θ (.inr ([],5))else(gd (bJ (a+1))<|(d (a+1))))))else θ (.inl ()))
def ash(fu:Nat)(c:aC):Nat->Int->ε (Unit⊕(aC×ζ)):=λb a=>bE (λg v=>avt fu c (λa=>g a) v) b a
theorem bib:ash a d (b+1) c=avt a d (ash a d b) c:=rfl
def bdo(fu:Nat)(o:aC)(a:aC):ε (aC×ζ):=
 ((vt fu o).bind λb=>(if b=1 then(((if o=([67,111,110,116,97,99,116])then θ (decide (a=[42]))else θ ν)).bind λt=>(bif t then θ (a,0)else((bbb fu a).bind λk=>(if k.2=0 then((aot fu k.1).bind λn=>θ (n.1,n.2))else θ ([],k.2)))))else(if b=2 then((bli fu a).bind λj=>(if j.2=0 then((ayf fu j.1).bind λm=>θ (m.1,m.2))else θ ([],j.2)))else(if b=3 then((bdp fu a).bind λe=>(if e.2.2=0 then((ZD fu e.1).bind λi=>(gd (γ i+γ ([32]:aC)<=9223372036854775807)<|(gd (γ (i++[32])+γ e.2.1<=9223372036854775807)<|some ((i++[32])++e.2.1,0))))else θ ([],e.2.2)))else(if b=4 then((bie fu a).bind λc=>(if c.2.2.2=0 then((ZD fu c.1).bind λd=>(gd (γ d+γ ([32]:aC)<=9223372036854775807)<|((ZD fu c.2.1).bind λf=>(gd (γ (d++[32])+γ f<=9223372036854775807)<|(gd (γ ((d++[32])++f)+γ ([32]:aC)<=9223372036854775807)<|(gd (γ (((d++[32])++f)++[32])+γ c.2.2.1<=9223372036854775807)<|some ((((d++[32])++f)++[32])++c.2.2.1,0)))))))else θ ([],c.2.2.2)))else(if b=5 then((bcz fu a).bind λh=>(if h.2=0 then((ZD fu h.1).bind λs=>θ (s,0))else θ ([],h.2)))else(((if b=6 then θ (decide (b=6))else θ (decide (b=7)))).bind λr=>(bif r then((bij fu a).bind λg=>(if g.2=0 then((avv fu g.1).bind λl=>θ (l.1,l.2))else θ ([],g.2)))else(((ash fu a fu 0)).bind λp=>dA (λu=>θ (a,0)) (λq=>θ q) p)))))))))
def bbf(fu:Nat)(s:aC)(a:Int)(b:Int):ε (Int×aC):=
 (gd (0<=a/\a<=b/\b<=γ s)<|((JP fu (sub s a b) 0).bind λc=>(gd (bJ (a+c))<|((YB fu (sub s a b)).bind λd=>θ (a+c,d)))))
def ani(fu:Nat)(s:aC)(c:Int->ε Int)(a:Int):ε Int:=
 (((if a<γ s then(gd (0<=a/\a<γ s)<|some (!decide ((Κ s a)=62)))else θ ν)).bind λb=>(bif b then(gd (bJ (a+1))<|(c (a+1)))else θ a))
def awk(fu:Nat)(s:aC):Nat->Int->ε Int:=λb a=>bE (λg v=>ani fu s (λa=>g a) v) b a
theorem azf:awk a d (b+1) c=ani a d (awk a d b) c:=rfl
def anj(fu:Nat)(s:aC)(h:ζ)(e:eR->Int->Int->ε ((eR×Int)⊕(eR×Int×ζ)))(b:eR)(c:Int)(a:Int):ε ((eR×Int)⊕(eR×Int×ζ)):=
 (if a<γ s then(gd (0<=a/\a<γ s)<|(if(Κ s a)=h then((bbf fu s c a).bind λg=>(gd ((γ b+[g].length)*24<=140737488355328)<|(gd (bJ (a+1))<|(gd (bJ (a+1))<|(e (b++[g]) (a+1) (a+1))))))else(if(Κ s a)=34 then((aqa fu s a).bind λd=>(if d.2.2=0 then(e b c d.2.1)else θ (.inr ([],d.2.1,d.2.2))))else(if(Κ s a)=62 then θ (.inr ([],a,5))else(if(Κ s a)=60 then(((awk fu s fu a)).bind λf=>(if f=γ s then θ (.inr ([],γ s,6))else(gd (bJ (f+1))<|(e b c (f+1)))))else(gd (bJ (a+1))<|(e b c (a+1))))))))else θ (.inl (b,c)))
def aqb(fu:Nat)(s:aC)(e:ζ):Nat->eR->Int->Int->ε ((eR×Int)⊕(eR×Int×ζ)):=λd c b a=>bE (λg v=>anj fu s e (λc b a=>g (c,b,a)) v.1 v.2.1 v.2.2) d (c,b,a)
theorem azg:aqb a d h (b+1) x c e=anj a d h (aqb a d h b) x c e:=rfl
def bfl(fu:Nat)(s:aC)(a:ζ):ε (eR×Int×ζ):=
 ((((TA fu a).bind λf=>(bif f then θ μ else(if a=34 then θ μ else(if a=60 then θ μ else θ (decide (a=62))))))).bind λe=>(bif e then θ ([],0,2)else(((aqb fu s a fu [] 0 0)).bind λd=>dA (λb=>((bbf fu s b.2 (γ s)).bind λc=>(gd ((γ b.1+[c].length)*24<=140737488355328)<|some (b.1++[c],0,0)))) (λq=>θ q) d)))
def avw(fu:Nat)(b:(eR×Int×ζ))(d:(δ aC)->Int->ε ((δ aC)⊕((δ aC)×ζ)))(c:δ aC)(a:Int):ε ((δ aC)⊕((δ aC)×ζ)):=
 (if a<γ b.1 then(gd (0<=a/\a<γ b.1)<|(gd (0<=a/\a<γ b.1)<|(if((el b.1 a).2)=[]then θ (.inr ([],5))else(gd (0<=a/\a<γ b.1)<|(gd (0<=a/\a<γ b.1)<|(gd ((γ c+γ ([(el b.1 a).2]))*16<=140737488355328)<|(gd (bJ (a+1))<|(d (c++([(el b.1 a).2])) (a+1)))))))))else θ (.inl c))
def asj(fu:Nat)(c:(eR×Int×ζ)):Nat->(δ aC)->Int->ε ((δ aC)⊕((δ aC)×ζ)):=λd b a=>bE (λg v=>avw fu c (λb a=>g (b,a)) v.1 v.2) d (b,a)
theorem bih:asj a i (b+1) k c=avw a i (asj a i b) k c:=rfl
def bii(fu:Nat)(d:aC):ε ((δ aC)×ζ):=
 ((bfl fu d 44).bind λa=>(if a.2.2=0 then(((asj fu a fu [] 0)).bind λc=>dA (λb=>θ (b,0)) (λq=>θ q) c)else θ ([],a.2.2)))
def akz(fu:Nat)(f:(aC×ζ))(d:((δ aC)×ζ))(g:aC->Int->ε (aC⊕(aC×ζ)))(c:aC)(a:Int):ε (aC⊕(aC×ζ)):=
 (if a<γ d.1 then(gd (0<=a/\a<γ d.1)<|(gd (0<=a/\a<γ d.1)<|((bdo fu f.1 (el d.1 a)).bind λb=>(if b.2=0 then(((if 0<a then(gd (γ c+γ ([44,32]:aC)<=9223372036854775807)<|some (c++([44,32])))else θ c)).bind λe=>(gd (γ e+γ b.1<=9223372036854775807)<|(gd (bJ (a+1))<|(g (e++b.1) (a+1)))))else θ (.inr ([],b.2))))))else θ (.inl c))
def aml(fu:Nat)(c:(aC×ζ))(e:((δ aC)×ζ)):Nat->aC->Int->ε (aC⊕(aC×ζ)):=λd b a=>bE (λg v=>akz fu c e (λb a=>g (b,a)) v.1 v.2) d (b,a)
theorem atq:aml a u q (b+1) d c=akz a u q (aml a u q b) d c:=rfl
def bid(fu:Nat)(i:aC)(d:aC):ε (aC×ζ):=
 ((vx fu i).bind λa=>(if a.2=0 then((big fu a.1).bind λe=>(bif (!e)then((YB fu d).bind λh=>((bdo fu a.1 h).bind λc=>θ (c.1,c.2)))else((bii fu d).bind λb=>(if b.2=0 then(((aml fu a b fu [] 0)).bind λg=>dA (λf=>θ (f,0)) (λq=>θ q) g)else θ ([],b.2)))))else θ ([],a.2)))
def bcy(fu:Nat)(c:(aC×aC))(e:Int):ε ((aC×aC)×ζ):=
 ((vx fu c.1).bind λa=>(if a.2=0 then(if 1024<(γ c.2:Int)then θ (([],[]),4)else((bid fu a.1 c.2).bind λb=>(if b.2=0 then(((if 1024<(γ b.1:Int)then θ μ else θ (decide (64<=e)))).bind λd=>(bif d then θ (([],[]),4)else θ ((a.1,b.1),0)))else θ (([],[]),b.2))))else θ (([],[]),a.2)))
def avo(fu:Nat)(s:aC)(f:Int)(e:Int->ε (Unit⊕((aC×aC)×ζ)))(a:Int):ε (Unit⊕((aC×aC)×ζ)):=
 (if a<γ s then(gd (0<=a/\a<γ s)<|(if(Κ s a)=58 then(gd (0<=a/\a<=γ s)<|((YB fu (eN (bL a) s)).bind λd=>(gd (bJ (a+1))<|(gd (0<=(a+1)/\(a+1)<=γ s)<|((YB fu (cC (bL (a+1)) s)).bind λc=>((bcy fu (d,c) f).bind λb=>θ (.inr (b.1,b.2))))))))else(gd (bJ (a+1))<|(e (a+1)))))else θ (.inl ()))
def asd(fu:Nat)(s:aC)(c:Int):Nat->Int->ε (Unit⊕((aC×aC)×ζ)):=λb a=>bE (λg v=>avo fu s c (λa=>g a) v) b a
theorem bhz:asd a d c (b+1) e=avo a d c (asd a d c b) e:=rfl
def bdn(fu:Nat)(s:aC)(b:Int):ε ((aC×aC)×ζ):=
 (((asd fu s b fu 0)).bind λa=>dA (λc=>θ (([],[]),5)) (λq=>θ q) a)
def aps(fu:Nat)(s:aC)(d:Int->ε Int)(a:Int):ε Int:=
 (((if a<γ s then((XZ fu s a ([13,10,13,10])).bind λc=>θ (!c))else θ ν)).bind λb=>(bif b then(gd (bJ (a+1))<|(d (a+1)))else θ a))
def ajy(fu:Nat)(s:aC):Nat->Int->ε Int:=λb a=>bE (λg v=>aps fu s (λa=>g a) v) b a
theorem bar:ajy a d (b+1) c=aps a d (ajy a d b) c:=rfl
def apr(fu:Nat)(b:(eR×Int×ζ))(e:Int->jY->ε (jY⊕(Qy×Int×ζ)))(a:Int)(d:jY):ε (jY⊕(Qy×Int×ζ)):=
 (if a<γ b.1 then(gd (0<=a/\a<γ b.1)<|(gd (0<=a/\a<γ b.1)<|((bdn fu ((el b.1 a).2) a).bind λc=>(if c.2=0 then(gd ((γ d+[c.1].length)*32<=140737488355328)<|(gd (bJ (a+1))<|(e (a+1) (d++[c.1]))))else(gd (0<=a/\a<γ b.1)<|(gd (0<=a/\a<γ b.1)<|some (.inr (([],[]),(el b.1 a).1,c.2))))))))else θ (.inl d))
def amj(fu:Nat)(d:(eR×Int×ζ)):Nat->Int->jY->ε (jY⊕(Qy×Int×ζ)):=λc b a=>bE (λg v=>apr fu d (λb a=>g (b,a)) v.1 v.2) c (b,a)
theorem baq:amj a i (b+1) c y=apr a i (amj a i b) c y:=rfl
def bdm(fu:Nat)(s:aC):ε (Qy×Int×ζ):=
 ((XZ fu s 0 ([13,10])).bind λc=>(bif c then(gd (0<=(2:Int)/\2<=(γ s:Int))<|some (([],cC (bL 2) s),0,0))else(((ajy fu s fu 0)).bind λa=>(if a=γ s then θ (([],[]),0,5)else(gd (bJ (a+2))<|(gd (0<=(a+2)/\(a+2)<=γ s)<|((axz fu (eN (bL (a+2)) s)).bind λb=>(if b.2.2=0 then(gd (bJ (a+4))<|(gd (0<=(a+4)/\(a+4)<=γ s)<|(((amj fu b fu 0 [])).bind λe=>dA (λd=>θ ((d,cC (bL (a+4)) s),0,0)) (λq=>θ q) e)))else θ (([],[]),b.2.1,b.2.2)))))))))
def atn(fu:Nat)(e:δ ζ)(i:aC)(h:Int->Int->η->eK->ε (eK⊕(eK×Int×ζ)))(g:Int)(a:Int)(f:η)(d:eK):ε (eK⊕(eK×Int×ζ)):=
 (bif (!f)then(if γ d=(8:Int)then θ (.inr ([],g,4))else((ava fu e a i).bind λb=>(if b.1<0 then θ (.inr ([],γ e,6))else(gd (bJ (b.1-2))<|(gd (0<=a/\a<=(max a (b.1-2))/\(max a (b.1-2))<=γ e)<|((bdm fu (sub e a (max a (b.1-2)))).bind λc=>(if c.2.2=0 then(gd ((γ d+1)*48<=140737488355328)<|(h b.1 b.2.1 b.2.2 (d++[c.1])))else(gd (bJ (a+c.2.1))<|some (.inr ([],a+c.2.1,c.2.2))))))))))else θ (.inl d))
def apt(fu:Nat)(h:δ ζ)(f:aC):Nat->Int->Int->η->eK->ε (eK⊕(eK×Int×ζ)):=λe d c b a=>bE (λg v=>atn fu h f (λd c b a=>g (d,c,b,a)) v.1 v.2.1 v.2.2.1 v.2.2.2) e (d,c,b,a)
theorem bgq:apt a f d (b+1) c e l n=atn a f d (apt a f d b) c e l n:=rfl
def bat(fu:Nat)(b:δ ζ)(c:aC):ε (eK×Int×ζ):=
 ((bas fu c).bind λd=>(bif (!d)then θ ([],0,2)else(if 8192<(γ b:Int)then θ ([],8192,4)else((ava fu b 0 c).bind λa=>(if a.1<0 then θ ([],γ b,6)else(bif a.2.2 then θ ([],a.1,5)else(((apt fu b c fu a.1 a.2.1 a.2.2 [])).bind λf=>dA (λe=>θ (e,0,0)) (λq=>θ q) f)))))))
def avq(fu:Nat)(b:(aC×aC×Int×aC×jY×(δ ζ)))(c:(aC×aC×Int×aC×jY×(δ ζ)))(d:Int->ε (Unit⊕η))(a:Int):ε (Unit⊕η):=
 (if a<γ b.2.2.2.2.1 then(gd (0<=a/\a<γ b.2.2.2.2.1)<|(gd (0<=a/\a<γ b.2.2.2.2.1)<|(gd (0<=a/\a<γ c.2.2.2.2.1)<|(gd (0<=a/\a<γ c.2.2.2.2.1)<|(if(el b.2.2.2.2.1 a)=(el c.2.2.2.2.1 a)then(gd (bJ (a+1))<|(d (a+1)))else θ (.inr ν))))))else θ (.inl ()))
def asf(fu:Nat)(d:(aC×aC×Int×aC×jY×(δ ζ)))(c:(aC×aC×Int×aC×jY×(δ ζ))):Nat->Int->ε (Unit⊕η):=λb a=>bE (λg v=>avq fu d c (λa=>g a) v) b a
theorem bia{A:(aC×aC×Int×aC×jY×(δ ζ))}{d:(aC×aC×Int×aC×jY×(δ ζ))}:asf a A d (b+1) c=avq a A d (asf a A d b) c:=rfl
def pM(fu:Nat)(b:(aC×aC×Int×aC×jY×(δ ζ)))(a:(aC×aC×Int×aC×jY×(δ ζ))):ε η:=
 (((if b.1=a.1 then(if b.2.1=a.2.1 then(if b.2.2.1=a.2.2.1 then(if b.2.2.2.1=a.2.2.2.1 then(if γ b.2.2.2.2.1=(γ a.2.2.2.2.1:Int)then θ (!decide (b.2.2.2.2.2=a.2.2.2.2.2))else θ μ)else θ μ)else θ μ)else θ μ)else θ μ)).bind λd=>(bif d then θ ν else(((asf fu b a fu 0)).bind λc=>dA (λe=>θ μ) (λq=>θ q) c)))
def ase(fu:Nat)(b:Qy)(a:Qy):ε η:=
 ((pM fu ([],[],0,[],b.1,b.2) ([],[],0,[],a.1,a.2)).bind λc=>θ c)
def apu(fu:Nat)(b:eK)(c:eK)(e:Int->ε (Unit⊕η))(a:Int):ε (Unit⊕η):=
 (if a<γ b then(gd (0<=a/\a<γ b)<|(gd (0<=a/\a<γ b)<|(gd (0<=a/\a<γ c)<|(gd (0<=a/\a<γ c)<|((ase fu (el b a) (el c a)).bind λd=>(bif (!d)then θ (.inr ν)else(gd (bJ (a+1))<|(e (a+1)))))))))else θ (.inl ()))
def amk(fu:Nat)(d:eK)(c:eK):Nat->Int->ε (Unit⊕η):=λb a=>bE (λg v=>apu fu d c (λa=>g a) v) b a
variable{z:eK}
theorem bau:amk a n z (b+1) c=apu a n z (amk a n z b) c:=rfl
def azo(fu:Nat)(b:eK)(a:eK):ε η:=
 (if γ b=(γ a:Int)then(((amk fu b a fu 0)).bind λc=>dA (λd=>θ μ) (λq=>θ q) c)else θ ν)
def tF(fu:Nat)(b:Qy)(f:Int->jY->ε jY)(a:Int)(d:jY):ε jY:=
 (if a<γ b.1 then(gd (0<=a/\a<γ b.1)<|(gd (0<=a/\a<γ b.1)<|((asv fu ((el b.1 a).1)).bind λe=>(if e.2=0 then((aje fu e.1 ((el b.1 a).2)).bind λc=>(if c.2=0 then(gd ((γ d+[c.1].length)*32<=140737488355328)<|(gd (bJ (a+1))<|(f (a+1) (d++[c.1]))))else ι))else ι))))else θ d)
def vI(fu:Nat)(d:Qy):Nat->Int->jY->ε jY:=λc b a=>bE (λg v=>tF fu d (λb a=>g (b,a)) v.1 v.2) c (b,a)
def bhf(fu:Nat)(a:Qy):ε (Qy×η):=
 (if 64<(γ a.1:Int)then ι else(gd ((0+γ a.2)*1<=140737488355328)<|(((vI fu a fu 0 [])).bind λb=>θ ((b,a.2),μ))))
def wM(fu:Nat)(b:δ ζ)(a:δ ζ):ε η:=
 θ (decide (b=a))
open Go.Lib renaming index → cO, itoa → gK
open List renaming replicate → jZ, set → jH, take → eN
def bcu(fu:Nat)(s:δ ζ)(a:δ ζ):ε η:=
 (((if γ a<=(γ s:Int)then(gd (0<=(γ a:Int)/\γ a<=(γ s:Int))<|((wM fu (eN (bL (γ a)) s) a).bind λc=>θ c))else θ ν)).bind λb=>θ b)
def beg(fu:Nat)(b:δ ζ)(a:δ ζ):ε η:=
 (gd (γ b<=1000000000/\2<=γ a/\γ a<=1000000000)<|some (!decide ((cO b a)=(-1))))
def bbr(fu:Nat)(c:eK)(e:eK->Int->ε eK)(b:eK)(a:Int):ε eK:=
 (if a<γ c then(gd (0<=a/\a<γ c)<|(gd (0<=a/\a<γ c)<|((bhf fu (el c a)).bind λd=>(bif (!d.2)then ι else(gd (0<=a/\a<γ b)<|(gd (0<=a/\a<γ b)<|(gd (bJ (a+1))<|(e (jH b (bL a) d.1) (a+1)))))))))else θ b)
def aws(fu:Nat)(d:eK):Nat->eK->Int->ε eK:=λc b a=>bE (λg v=>bbr fu d (λb a=>g (b,a)) v.1 v.2) c (b,a)
theorem vN:aws a n (b+1) z c=bbr a n (aws a n b) z c:=rfl
def bbq(fu:Nat)(c:aC)(b:eK)(g:Int->ε Unit)(a:Int):ε Unit:=
 (if a<γ b then(gd (0<=a/\a<γ b)<|(gd (0<=a/\a<γ b)<|((((bcu fu ((el b a).2) (([45,45])++c)).bind λf=>(bif f then θ μ else(gd (0<γ (([45,45])++c)/\(γ ([13,(10:ζ)])+γ (([45,45])++c))*1<=140737488355328)<|((beg fu ((el b a).2) (([13,10])++(([45,45])++c))).bind λe=>θ e))))).bind λd=>(bif d then ι else(gd (bJ (a+1))<|(g (a+1)))))))else θ ())
def awr(fu:Nat)(d:aC)(c:eK):Nat->Int->ε Unit:=λb a=>bE (λg v=>bbq fu d c (λa=>g a) v) b a
theorem vM:awr a d n (b+1) c=bbq a d n (awr a d n b) c:=rfl
def bbo(fu:Nat)(c:eK)(b:Int)(e:(δ ζ)->Int->ε (δ ζ))(d:δ ζ)(a:Int):ε (δ ζ):=
 (if a<(γ ((el c b).1))then(gd (0<=a/\a<(γ ((el c b).1)))<|(gd (0<=a/\a<(γ ((el c b).1)))<|(gd (γ ((el ((el c b).1) a).1)+γ ([58,32]:aC)<=9223372036854775807)<|(gd (γ (((el ((el c b).1) a).1)++([58,32]))+γ ((el ((el c b).1) a).2)<=9223372036854775807)<|(gd (γ ((((el ((el c b).1) a).1)++([58,32]))++((el ((el c b).1) a).2))+γ ([13,10]:aC)<=9223372036854775807)<|(gd ((γ d+γ (((((el ((el c b).1) a).1)++([58,32]))++((el ((el c b).1) a).2))++([13,10])))*1<=140737488355328)<|(gd (bJ (a+1))<|(e (d++(((((el ((el c b).1) a).1)++([58,32]))++((el ((el c b).1) a).2))++([13,10]))) (a+1)))))))))else θ d)
def awp(fu:Nat)(e:eK)(d:Int):Nat->(δ ζ)->Int->ε (δ ζ):=λc b a=>bE (λg v=>bbo fu e d (λb a=>g (b,a)) v.1 v.2) c (b,a)
theorem vK:awp a n c (b+1) f e=bbo a n c (awp a n c b) f e:=rfl
def bbp(fu:Nat)(d:aC)(b:eK)(g:(δ ζ)->Int->ε (δ ζ))(e:δ ζ)(a:Int):ε (δ ζ):=
 (if a<γ b then(((gd (0<=a/\a<γ b)<|(gd (0<=a/\a<γ b)<|(gd (γ ([45,45]:aC)+γ d<=9223372036854775807)<|(gd (γ (([45,45])++d)+γ ([13,10]:aC)<=9223372036854775807)<|(gd ((γ e+γ ((([45,45])++d)++([13,10])))*1<=140737488355328)<|(((awp fu b a fu (e++((([45,45])++d)++([13,10]))) 0)).bind λc=>(gd ((γ c+γ ([13,10]:aC))*1<=140737488355328)<|(gd ((γ (c++([13,10]))+γ ((el b a).2))*1<=140737488355328)<|(gd ((γ ((c++([13,10]))++((el b a).2))+γ ([13,10]:aC))*1<=140737488355328)<|(if 8192<(γ (((c++([13,10]:aC))++((el b a).2))++([13,10]:aC)):Int)then ι else θ (((c++([13,10]))++((el b a).2))++([13,10]))))))))))))).bind λf=>(gd (bJ (a+1))<|(g f (a+1))))else θ e)
def awq(fu:Nat)(e:aC)(d:eK):Nat->(δ ζ)->Int->ε (δ ζ):=λc b a=>bE (λg v=>bbp fu e d (λb a=>g (b,a)) v.1 v.2) c (b,a)
theorem vL:awq a d n (b+1) f c=bbp a d n (awq a d n b) f c:=rfl
def blo(fu:Nat)(b:eK)(a:aC):ε ((δ ζ)×ζ):=
 ((((aqj fu a).bind λf=>(bif (!f)then θ μ else(if γ b<(1:Int)then θ μ else θ (decide (8<(γ b:Int))))))).bind λe=>(bif e then ι else(@gd _ (0<=(γ b:Int)/\48*(γ b:Int)<=281474976710656) (dMk 48 (γ b))<|(((aws fu b fu (jZ (bL (γ b)) ([],[])) 0)).bind λd=>(gd (γ ([45,45]:aC)+γ a<=9223372036854775807)<|(((awr fu a d fu 0)).bind λg=>(((awq fu a d fu [] 0)).bind λc=>(gd (γ ([45,45]:aC)+γ a<=9223372036854775807)<|(gd (γ (([45,45])++a)+γ ([45,45,13,10]:aC)<=9223372036854775807)<|(gd ((γ c+γ ((([45,45])++a)++([45,45,13,10])))*1<=140737488355328)<|(if 8192<(γ (c++((([45,45]:aC)++a)++([45,45,13,10]:aC))):Int)then ι else θ (c++((([45,45])++a)++([45,45,13,10])),0))))))))))))
def bbn(fu:Nat)(b:δ Int)(a:δ ζ)(c:ε (δ Int)):ε (δ Int):=
 (gd (γ a<=1000000000/\2<=γ ([45,45,(98:ζ)])/\γ ([45,45,(98:ζ)])<=1000000000)<|(if 0<=(cO a ([45,45,98]))then ι else θ b))
def awo(fu:Nat)(c:δ Int)(b:δ ζ):Nat->ε (δ Int):=λa=>bE (λg v=>bbn fu c b (g ())) a ()
variable{r:δ Int}
theorem vJ:awo a r f (b+1)=bbn a r f (awo a r f b):=rfl
def bln(fu:Nat)(b:δ Int)(a:δ ζ):ε (δ Int):=
 (awo fu b a fu)
def ate(fu:Nat)(b:eK)(e:Int->(δ Int)->ε (δ Int))(a:Int)(c:δ Int):ε (δ Int):=
 (if a<γ b then(gd (0<=a/\a<γ b)<|(gd (0<=a/\a<γ b)<|((bln fu c ((el b a).2)).bind λd=>(gd (bJ (a+1))<|(e (a+1) d)))))else θ c)
def anq(fu:Nat)(d:eK):Nat->Int->(δ Int)->ε (δ Int):=λc b a=>bE (λg v=>ate fu d (λb a=>g (b,a)) v.1 v.2) c (b,a)
theorem blq:anq a n (b+1) c r=ate a n (anq a n b) c r:=rfl
def atd(fu:Nat)(a:δ Int)(b:ε Unit):ε Unit:=
 (if 0∈a then ι else θ ())
def anp(fu:Nat)(b:δ Int):Nat->ε Unit:=λa=>bE (λg v=>atd fu b (g ())) a ()
theorem blp:anp a r (b+1)=atd a r (anp a r b):=rfl
def bcv(fu:Nat)(b:eK):ε aC:=
 (((anq fu b fu 0 [])).bind λa=>(((anp fu a fu)).bind λc=>(gd (bJ 0)<|(gd (γ ([98]:aC)+γ (gK 0)<=9223372036854775807)<|some (([98]:aC)++(gK 0))))))
def bfn(fu:Nat):ε η:=
 ((asw fu ([45,45,98,13,10,99,58,32,116,101,120,116,47,112,108,97,105,110,13,10,13,10,104,105,13,10,45,45,98,45,45]) [98]).bind λa=>((blo fu ([(([(([67,111,110,116,101,110,116,45,84,121,112,101]),([116,101,120,116,47,112,108,97,105,110]))]),([104,105])),([],[])]) [120]).bind λb=>(((if a.2.2=0 then(if a.2.1=0 then((azo fu a.1 ([(([(([67,111,110,116,101,110,116,45,84,121,112,101]),([116,101,120,116,47,112,108,97,105,110]))]),([104,105]))])).bind λe=>(bif e then(if b.2=0 then(if b.1=([45,45,120,13,10,67,111,110,116,101,110,116,45,84,121,112,101,58,32,116,101,120,116,47,112,108,97,105,110,13,10,13,10,104,105,13,10,45,45,120,13,10,13,10,13,10,45,45,120,45,45,13,10])then((bcv fu a.1).bind λd=>θ (decide (d=([98,48]))))else θ ν)else θ ν)else θ ν))else θ ν)else θ ν)).bind λc=>θ c)))
def aow(fu:Nat)(d:δ ζ)(c:aC):ε η:=
 ((asw fu d c).bind λa=>((bat fu d c).bind λb=>((((azo fu a.1 b.1).bind λg=>(bif g then(if a.2.1=b.2.1 then(if a.2.2=b.2.2 then((bfn fu).bind λf=>θ f)else θ ν)else θ ν)else θ ν))).bind λe=>θ e)))
end Go.Wk
set_option maxRecDepth 100000
namespace Go.Wk
open Go.Px
open Int renaming toNat → bL
open List renaming set → jH
open Sum renaming elim → dA
def FU:Nat:=18446744073709551616
theorem dJ:FU=18446744073709551616:=rfl
theorem Rr(p:aC)(c:ζ)(l:aC):Κ (p++c::l) (γ p)=c:=by simp[Κ]
theorem oR(p:aC)(c x:ζ)(l:aC):jH (p++c::l) (bL (γ p)) x=(p++[x])++l:=aA2
theorem Xk(p:aC)(x:ζ):(γ p+1)=(γ (p++[x]):Int):=aA2
theorem bW(a:Int)(b:0<=a)(h:a<=9223372036854775807):bJ a:=⟨aA0,aA0⟩
theorem MU(fu:Nat)(c:ζ):auc fu c=θ (cL c):=by show auc 0 c=_;revert c;exact fP _ aA5
theorem Me:∀c:ζ,awj FU c=θ (cL c):=fP _ aA5
theorem Ar(fu:Nat)(c:ζ):aju fu c=θ (eQ c):=by show aju 0 c=_;revert c;exact fP _ aA5
theorem Xw(fu:Nat)(c:ζ):ann fu c=θ (Ht c):=by show ann 0 c=_;revert c;exact fP _ aA5
variable{k:Nat}
theorem TX(s:aC)(g:γ s<=9223372036854775807)(n:Nat):∀i a,i+n=γ s->n<a->
  aew k s a i=θ ((i+cD cL (s.drop i):Nat):Int):=by
 induction n with
 |zero=>intro i a c d;obtain⟨a,rfl⟩:=cB a;rw[alw,aep,aA aU,Da aU];simp[cD]
 |succ n b=>
  intro i a c d;obtain⟨a,rfl⟩:=cB a;rw[alw,aep,aB aU,aS aU,MU,yZ s i aU];simp only[aR];cases h:cL (Κ s i)
  ·simp[cD,h]
  ·rw[aM];rw[aS (bW _ aU aU)];have e:(i+1)=((i+1:Nat):Int):=Τ;rw[e,b (i+1) a aU aU];have f:cD cL (Κ s i::s.drop (i+1))=1+cD cL (s.drop (i+1)):=by simp[cD,h,Ia]
   rw[f,Dc]
theorem Za(g:∀c,awj k c=θ (cL c))(s:aC)(j:γ s<=9223372036854775807)(n:Nat):∀(l a:Nat),l+n=γ s->n<a->
  aou k s a (l:Int)=θ ((l+cD cL (s.drop l):Nat):Int):=by
 induction n with
 |zero=>intro l a d f;obtain⟨a,rfl⟩:=cB a;rw[bbz,anh,aA aU,Da aU];simp[cD]
 |succ n b=>
  intro l a d f;obtain⟨a,rfl⟩:=cB a;rw[bbz,anh,aB aU,aS aU,g,yZ s l aU];simp only[aR];cases h:cL (Κ s l)
  ·simp[cD,h]
  ·rw[aM];rw[aS (bW _ aU aU)];have e:((l:Int)+1)=((l+1:Nat):Int):=Τ;rw[e,b (l+1) a aU aU];have i:cD cL (Κ s l::s.drop (l+1))=1+cD cL (s.drop (l+1)):=by simp[cD,h,Ia]
   rw[i,Dc]
theorem Lo(s:aC)(a:γ s<=9223372036854775807)(i:Int):agb FU s i=θ ((bT cL s i):Int):=by unfold agb bT;have h:min (max i 0) (γ s)=(Cv i (γ s)):=aD4;rw[h,TX s a (γ s-Cv i (γ s)) _ FU aU aA4];rfl
theorem aut(s:aC)(a:γ s<=9223372036854775807)(i:Int):eg FU s i=θ ((bT cL s i:Nat):Int):=by unfold eg bT;have h:min (max i 0) (γ s:Int)=((Cv i (γ s):Nat):Int):=aD4;have:=uR i (γ s);rw[h,Za Me s a (γ s-Cv i (γ s)) _ FU aU aA4];rfl
theorem Ug(s:aC):(if s=[]then θ ν else θ (decide (((bT cL s 0))=(γ s:Int))))=θ (jG s):=by
 have:=gg s;by_cases h:s=[]
 ·subst h;rfl
 ·rw[aA h];congr 1;by_cases a:(bT cL s 0)=(γ s:Int)
  ·rw[aE a,this.1 ⟨h,a⟩]
  ·rw[aD a];cases b:jG s
   ·rfl
   ·exact absurd (this.2 b).2 a
theorem vj(s:aC)(a:γ s<=9223372036854775807):ZB FU s=θ (jG s):=by unfold ZB ra;rw[Lo s a];simp;exact Ug s
theorem bch(s:aC)(a:γ s<=9223372036854775807):bp FU s=θ (jG s):=by unfold bp;rw[aut s a];simp only[aR,Option.bind_fun_some];exact Ug s
theorem xJ(p:aC)(c:ζ)(l:aC):0<=(γ p:Int)/\γ p<(γ (p++c::l):Int):=by rw[cE,cM];omega
theorem P6{fu:Nat}(s:aC)(g:γ s<=9223372036854775807)(l:aC):∀p a,γ p+γ l=γ s->γ l<a->
  adl fu s a (p++l) (γ p)=θ (p++l.map eQ):=by
 induction l with
 |nil=>intro p a d e;obtain⟨a,rfl⟩:=cB a;simp at d;rw[ais,adg,aA aU];rfl
 |cons c l f=>intro p a d e;obtain⟨a,rfl⟩:=cB a;simp at d e;have b:=xJ p c l;rw[ais,adg,aB aU,aS b,aS b,Rr,Ar];simp only[aR];rw[aS b,aS b,aS (bW _ aU aU),oR,Xk p _,f _ a aB5 aU];simp
theorem P7(s:aC)(a:γ s<=9223372036854775807):adc FU s=θ (cN s):=by unfold adc;have:=P6 (fu:=FU) s a s [] FU aA2 aA4;simp at this;rw[this];rfl
theorem Vt(c:ζ)(b:65<=c)(a:c<=90):c+32=eQ c:=by simp[eQ,b,a]
theorem vm(c:ζ)(h:¬(65<=c/\c<=90)):eQ c=c:=by simp only[eQ,aA h]
theorem EL{fu:Nat}(s:aC)(k:γ s<=9223372036854775807)(l:aC):∀(p:aC) (a:Nat),γ p+γ l=γ s->γ l<a->
  awg fu s a (p++l) (γ p:Int)=θ (p++l.map eQ):=by
 induction l with
 |nil=>intro p a g i;obtain⟨a,rfl⟩:=cB a;simp only[iH]at g;rw[bgy,aty,aA aU];rfl
 |cons c l f=>
  intro p a g i;obtain⟨a,rfl⟩:=cB a;simp only[cM]at g i;have j:=xJ p c l;have d:=f (p++[eQ c]) a aB5 aU;have ok:bJ ((γ p:Int)+1):=bW _ aU aU;rw[bgy,aty,aB aU];simp only[aS j,Rr,aS ok,oR];by_cases b:65<=c
  ·by_cases e:c<=90
   ·simp only[aB b,aE e,aR,aM,Vt c b e];rw[Xk p (eQ c),d];simp
   ·simp only[aB b,aD e,aR,aG];rw[vm c (λh=>e h.2)]at d;rw[Xk p c,show p++c::l=(p++[c])++l by simp,d];simp[vm c (λh=>e h.2)]
  ·simp only[aA b,aR,aG];rw[vm c (λh=>b h.1)]at d;rw[Xk p c,show p++c::l=(p++[c])++l by simp,d];simp[vm c (λh=>b h.1)]
theorem YA(s:aC)(a:γ s<=9223372036854775807):IU FU s=θ (cN s):=by unfold IU;have:=EL (fu:=FU) s a s [] FU aA2 aA4;simp only[Ic,iH,Int.natCast_zero,Int.cast_ofNat_Int]at this;rw[this];rfl
def nC(c:ζ):aC:=(awm FU c).getD []
theorem la:∀c:ζ,awm FU c=θ (nC c):=fP _ aA5
theorem G2:∀c:ζ,baw FU c=θ (nC c):=fP _ aA5
theorem KL(y:aC):avx FU y FU 0=ajw FU y FU 0:=by kernel_rfl
def yD:η->aC->aC
 |_,[]=>[]
 |f,c::l=>(if f then Ht c else eQ c)::yD (c==45) l
theorem XU(fu:Nat)(f:η)(c:ζ):ayn fu c f=θ (if f then Ht c else eQ c,c==45):=by show ayn 0 c f=_;revert c;cases f<;>exact fP _ aA5
theorem D7{fu:Nat}(s:aC)(h:γ s<=9223372036854775807)(l:aC):∀p f a,γ p+γ l=γ s->γ l<a->
  (aea fu s a (p++l) (γ p) f).map (·.1)=θ (p++yD f l):=by
 induction l with
 |nil=>intro p f a d e;obtain⟨a,rfl⟩:=cB a;simp at d;rw[ajv,adr,aA aU];rfl
 |cons c l g=>
  intro p f a d e;obtain⟨a,rfl⟩:=cB a;simp at d e
  have b:=xJ p c l;rw[ajv,adr,aB aU,aS b,aS b,Rr,XU,aR,
   aS b,aS b,aS (bW _ aU aU),oR,Xk p _,g _ _ a aB5 aU,jI]
  rfl
theorem D8(s:aC)(d:γ s<=9223372036854775807):∃b,adm FU s μ=θ (yD μ s,b):=by unfold adm;have:=D7 (fu:=FU) s d s [] μ FU aA2 aA4;obtain⟨r,c,a⟩:=bU.1 this;refine⟨r.2,?_⟩;rw[show((0:Int))=([].length)from Τ];simp only[Ic]at c a⊢;rw[c,aR,a]
def sQ(p:aC):η:=p.isEmpty||Κ p (γ p-1)==45
theorem qo(p:aC)(c:ζ)(l:aC)(h:p≠[]):Κ (p++c::l) (γ p-1)=Κ p (γ p-1):=by have:0<γ p:=bN.2 h;have e:((γ p:Int)-1).toNat=γ p-1:=aA0;simp only[Κ,e];rw[bH,bH,aJ aU]
theorem MG(p:aC)(x:ζ):sQ (p++[x])=(x==45):=by have e:((γ (p++[x]):Int)-1)=γ p:=aA2;simp only[sQ,e,Rr];simp
theorem up45:∀c:ζ,(Ht (eQ c)==45)=(c==45):=fP _ aA5
theorem uc:∀c:ζ,(eQ c==45)=(c==45):=fP _ aA5
theorem th:∀c:ζ,Ht (eQ c)=Ht c:=fP _ aA5
theorem Uc(c:ζ)(b:97<=c)(a:c<=122):c-32=Ht c:=by simp[Ht,b,a]
theorem bjh(c:ζ)(h:¬(97<=c/\c<=122)):Ht c=c:=by simp only[Ht,aA h]
theorem EI{fu:Nat}(s:aC)(z:γ s<=9223372036854775807)(l:aC):∀(p:aC) (e:Nat),γ p+γ l=γ s->γ l<e->
  ail fu s e (p++l.map eQ) (γ p:Int)=θ (p++yD (sQ p) l):=by
 induction l with
 |nil=>intro p e m q;obtain⟨e,rfl⟩:=cB e;simp only[iH]at m;rw[azb,amt,aA aU];rfl
 |cons c l k=>
  intro p e m q;obtain⟨e,rfl⟩:=cB e;simp only[cM]at m q;have u:=xJ p (eQ c) (l.map eQ);have ok:bJ ((γ p:Int)+1):=bW _ aU aU;have n:∀x,(x==45)=(c==45)->ail fu s e ((p++[x])++l.map eQ) ((γ p:Int)+1)=θ (p++x::yD (c==45) l):=λx hx=>by rw[Xk p x,k (p++[x]) e aB5 aU,MG,hx,jI];rfl
  have f:=n (eQ c) (uc c);have i:=n (Ht (eQ c)) (up45 c);rw[jI,jM]at f;rw[tR,azb,amt,aB aU];have sub:97<=eQ c->eQ c<=122->eQ c-32=Ht (eQ c):=λb d=>Uc _ b d
  have up:∀(A B:ε aC),(97<=eQ c->eQ c<=122->A=θ (p++Ht (eQ c)::yD (c==45) l))->B=θ (p++eQ c::yD (c==45) l)->
    (Option.bind (if 97<=eQ c then θ (decide (eQ c<=122))else θ ν) λv=>bif v then A else B)=θ (p++Ht (eQ c)::yD (c==45) l):=by
   intro A B w r;by_cases b:97<=eQ c
   ·by_cases d:eQ c<=122
    ·rw[aB b,aE d,aR,aM,w b d]
    ·rw[aB b,aD d,aR,aG,r,bjh _ (λh=>d h.2)]
   ·rw[aA b,aR,aG,r,bjh _ (λh=>b h.1)]
  simp only[aS u,Rr,aS ok,oR];by_cases j:p=[]
  ·have y:(γ p:Int)=0:=by rw[j];rfl
   have a:sQ p=μ:=by rw[j];rfl
   rw[aB y,up _ _ (λb d=>by rw[sub b d];exact i) f,a,th];rfl
  ·have C:0<γ p:=bN.2 j;have o:(0:Int)<=(γ p:Int)-1/\(γ p:Int)-1<(γ (p++eQ c::l.map eQ):Int):=by omega
   rw[aA aU,aS (bW _ aU aU),aS o,aS o,qo _ _ _ j];have t:p.isEmpty=ν:=by cases p with|nil=>exact absurd rfl j|cons _ _=>rfl
   by_cases g:Κ p ((γ p:Int)-1)=45
   ·have a:sQ p=μ:=by simp[sQ,g]
    rw[aB g,up _ _ (λb d=>by rw[sub b d];exact i) f,a,th];rfl
   ·have a:sQ p=ν:=by simp[sQ,g,t]
    rw[aA g,aR,aG,a];exact f
theorem EJ(s:aC)(a:γ s<=9223372036854775807):ail FU (cN s) FU (cN s) 0=θ (yD μ s):=by have:=EI (fu:=FU) (cN s) (by simpa [cN] using a) s [] FU (by simp[cN]) aA4;exact this
def gS(s:aC):aC×ζ:=
 if jG s=ν\/64<γ s then([],5)
 else if γ s=1/\nC (eQ (Κ s 0))≠[]then(nC (eQ (Κ s 0)),0)
 else((ajw FU (cN s) FU 0).getD (.inl ())).elim (λ_=>(yD μ s,0)) id
def mT:δ aC->aC->ε (Unit⊕(aC×ζ))
 |[],_=>θ (.inl ())
 |n::l,y=>if cN n=y then θ (.inr (n,0))else mT l y
theorem bex(y:aC):∀l,∃r,mT l y=θ r
 |[]=>⟨_,Τ⟩
 |n::l=>by
  unfold mT;split
  ·exact⟨_,Τ⟩
  ·exact bex y l
theorem bhn(y:aC):ajw FU y FU 0=mT bo y:=by kernel_rfl
theorem zM(y:aC):∃r,ajw FU y FU 0=θ r:=by rw[bhn];exact bex y _
theorem low_at(s:aC)(h:γ s=1):Κ (cN s) 0=eQ (Κ s 0):=by
 match s,h with
 |[c],_=>rfl
theorem IG(s:aC)(g:γ s<=9223372036854775807):asv FU s=θ (gS s):=by
 unfold asv gS;rw[vj s g,aR];obtain⟨r,k⟩:=zM _;obtain⟨b,m⟩:=D8 s g;cases n:jG s
 ·rfl
 ·rw[eY,aG,aR];by_cases e:64<γ s
  ·rw[aE aU,aM,aB (Or.inr e)]
  ·have l:¬(μ=ν\/64<γ s):=by simp[e]
   rw[aD aU,aG,aA l,P7 s g,aR,k];have a:dA (λj=>((adm FU s μ).bind λd=>θ (d.1,0))) (λq=>θ q) r=θ (dA (λ_=>(yD μ s,0)) id r):=by
    cases r with
    |inl _=>rw[m];rfl
    |inr _=>rfl
   by_cases i:γ s=1
   ·have c:(γ s:Int)=1:=by omega
    rw[aB c,aS aU,Ar,aR,la,aR];by_cases f:nC (eQ (Κ s 0))=[]
    ·rw[aB f,aA (λh=>h.2 f)];exact a
    ·rw[aA f,aR,Rt,aB ⟨i,f⟩]
   ·have c:¬(γ s:Int)=1:=by omega
    rw[aA c,aA (λh=>i h.1)];exact a
theorem rO(s:aC)(f:γ s<=9223372036854775807):vx FU s=θ (gS s):=by
 unfold vx gS;rw[bch s f,aR];obtain⟨r,i⟩:=zM (cN s);cases m:jG s
 ·rfl
 ·rw[eY,aG,aR];by_cases d:64<γ s
  ·rw[aE aU,aM,aB (Or.inr d)]
  ·have l:¬(μ=ν\/64<γ s):=by simp[d]
   rw[aD aU,aG,aA l,i,IY,YA s f,aR,KL,i,aR,EJ s f];have k:γ (cN s)=γ s:=by simp[cN]
   have a:dA (λ(j:Unit)=>((θ (yD μ s)).bind λ(c:aC)=>θ (c,(0:ζ)))) (λq=>θ q) r=θ (dA (λ_=>(yD μ s,0)) id r):=by cases r<;>rfl
   by_cases g:γ s=1
   ·have b:(γ s:Int)=1:=by omega
    rw[aB b,aS aU,low_at s g,G2,aR,aR];by_cases e:nC (eQ (Κ s 0))=[]
    ·rw[aE e,eY,aG,aA (λh=>h.2 e)];exact a
    ·rw[aD e,oF,aM,aS aU,aR,aB ⟨g,e⟩]
   ·have b:¬(γ s:Int)=1:=by omega
    rw[aA b,aR,aG,aA (λh=>g h.1)];exact a
theorem bj{fu:Nat}(c:aC)(l:δ aC)(i:γ l<=100)(e:∀x∈l,x≠c)(n:Nat):∀(k a:Nat),k+n=γ l->n<a->avu fu c l a (k:Int)=θ (.inl ()):=by
 induction n with
 |zero=>intro k a f g;obtain⟨a,rfl⟩:=cB a;rw[bgs,atp,aA aU]
 |succ n d=>
  intro k a f g;obtain⟨a,rfl⟩:=cB a;have b:(0:Int)<=(k:Int)/\(k:Int)<(γ l:Int):=aA0
  have h:el l (k:Int)≠c:=by
   have:el l (k:Int)=l[k]'aU:=by simp[el,show k<γ l by omega]
   rw[this];exact e _ (yP _)
  rw[bgs,atp,aB aU,aS b,aS b,aA h,aS (bW _ aU aU)];exact d (k+1) a aU aU
theorem Xj(c:aC)(l:δ aC)(b:γ l<=100)(a:∀x∈l,x≠c):eb FU c l=θ ν:=by unfold eb;have:=bj (fu:=FU) c l b a (γ l) 0 FU aU aA4;rw[show((0:Int))=((0:Nat):Int)from rfl,this];rfl
theorem mb{fu:Nat}(c:aC)(d:∀x∈vD,x.1≠c)(n:Nat):∀k a,k+n=31->n<a->arx fu c a k=θ (.inl ()):=by
 have h:γ vD=31:=aA5;induction n with
 |zero=>intro k a e f;obtain⟨a,rfl⟩:=cB a;rw[bds,aox,aA aU]
 |succ n b=>
  intro k a e f;obtain⟨a,rfl⟩:=cB a;have g:(el vD (k:Int)).1≠c:=by
   have:el vD (k:Int)=vD[k]'aU:=by simp[el,show k<γ vD by omega]
   rw[this];exact d _ (yP _)
  rw[bds,aox,aB aU,aS aU,aS aU,aA g,aS (bW _ aU aU)];exact b (k+1) a aU aU
theorem Nj(c:aC)(a:∀x∈vD,x.1≠c):wa FU c=θ 0:=by unfold wa;have:=mb (fu:=FU) c a 31 0 FU aU aA4;rw[show((0:Int))=(0:Nat)from rfl,this];rfl
theorem Gz(c:aC)(f:∀x∈vD,x.1≠c):vt FU c=θ 0:=by
 have d:∀n:aC,(vD.any λx=>x.1==n)=μ->n≠c:=λn h=>by obtain⟨x,hx,e⟩:=dS.1 h;rw[<-eq_of_beq e];exact f x hx
 have b:∀n:aC,(vD.any λx=>x.1==n)=μ->¬c=n:=λn h e=>d n h e.symm;have a:∀l:δ aC,γ l<=100->(l.all λn=>vD.any λx=>x.1==n)=μ->eb FU c l=θ ν:=λl g h=>Xj c l g λx hx=>d x (aT.1 h x hx);unfold vt;rw[a _ aA1 aA5,aR,aG,aA (b _ aA5),aA (b _ aA5),aA (b _ aA5),a _ aA1 aA5,aR,aG,a _ aA1 aA5,aR,aG,a _ aA1 aA5,aR,aG]
def Ap(c:aC):η:=(arw FU c).getD ν
theorem ku:∀x∈vD,arw FU x.1=θ (Ap x.1):=aA5
theorem FI(c:aC)(b:∀x∈vD,x.1≠c):arw FU c=θ ν:=by
 have a:∀n:aC,(vD.any λx=>x.1==n)=μ->¬c=n:=λn h e=>by obtain⟨x,hx,e'⟩:=dS.1 h;exact b x hx ((eq_of_beq e').trans e.symm)
 unfold arw;rw[aA (a _ aA5),aA (a _ aA5),aA (a _ aA5),aA (a _ aA5),aA (a _ aA5),Nj c b];rfl
theorem kv(c:aC):arw FU c=θ (Ap c):=by
 by_cases h:∃x∈vD,x.1=c
 ·obtain⟨x,hx,rfl⟩:=h;exact ku x hx
 ·have:=FI c λx hx e=>h ⟨x,hx,e⟩;rw[Ap,this];rfl
def zZ:δ aC:=[([67,111,110,116,97,99,116]),([80,97,116,104]),([82,101,99,111,114,100,45,82,111,117,116,101]),([82,111,117,116,101]),([83,101,114,118,105,99,101,45,82,111,117,116,101]),([86,105,97])]
theorem Zb(c:aC):((vt FU c).bind λ(b:Int)=>(if b=(7:Int)then θ μ else((eb FU c zZ).bind λ(a:η)=>θ a)))=θ (Ap c):=by
 by_cases h:∃x∈vD,x.1=c
 ·obtain⟨x,hx,rfl⟩:=h;revert x;decide+kernel
 ·have d:∀x∈vD,x.1≠c:=λx hx e=>h ⟨x,hx,e⟩;have f:∀n:aC,(vD.any λx=>x.1==n)=μ->n≠c:=λn h=>by obtain⟨x,hx,e⟩:=dS.1 h;rw[<-eq_of_beq e];exact d x hx
  have g:(zZ.all λn=>vD.any λx=>x.1==n)=μ:=aA5;rw[Gz c d,aR,aA aA1,Xj c zZ aA1 (λx hx=>f x (aT.1 g x hx)),Ap,FI c d];rfl
theorem Sk(s:aC)(a:γ s<=9223372036854775807):big FU s=θ (if(gS s).2=0 then Ap (gS s).1 else ν):=by
 unfold big;rw[rO s a,aR];by_cases h:(gS s).2=0
 ·have:=Zb (gS s).1;unfold zZ at this;rw[aB h,aB h,this];rfl
 ·rw[aA h,aA h];rfl
open Go.Lib renaming trimLeftS → Gh
variable{b:Type}
theorem dU{p:Prop}[Decidable p]{k:ε b}(h:p:=by first|omega|exact bW _ aU aU|(simp only[Rh,dH,List.length_nil,List.length_singleton];omega)):gd p k=k:=aS h
theorem mL(k:Nat):k+1=((k+1:Nat):Int):=rfl
theorem mV(p:ζ->η)(s:aC)(F:Nat->Int->ε Int)
  (g:∀a,F (a+1) (γ s)=θ (γ s:Int))
  (f:∀a k,k<γ s->p (Κ s k)=ν->F (a+1) k=θ (k:Int))
  (e:∀a k,k<γ s->p (Κ s k)=μ->F (a+1) k=F a (k+1)) (n:Nat):
  ∀k a,k+n=γ s->n<a->F a k=θ ((k+cD p (s.drop k):Nat):Int):=by
 induction n with
 |zero=>intro k a c d;obtain⟨a,rfl⟩:=cB a;obtain rfl:k=γ s:=aA0;rw[g,YN];rfl
 |succ n b=>
  intro k a c d;obtain⟨a,rfl⟩:=cB a;rw[yZ s k aU];cases h:p _
  ·rw[f a k aU h];simp[cD,h]
  ·rw[e a k aU h,mL,b _ a aU aU];have i:cD p (Κ s k::s.drop (k+1))=1+cD p (s.drop (k+1)):=by simp[cD,h,Ia]
   rw[i,Dc]
theorem Ww(i:Int)(n:Nat):min (max i 0) n=((Cv i n)):=aD4
theorem Ln(p:ζ->η):∀(a b:aC),a.all p=μ->cD p (a++b)=γ a+cD p b
 |[],b,_=>by simp
 |c::a,b,h=>by rw[Jg,lX]at h;rw[NU,cD,aB h.1,Ln p a b h.2,cM];omega
theorem lP(p:ζ->η)(c:ζ)(l:aC)(h:p c=ν):cD p (c::l)=0:=by rw[cD,aA (by simp[h])]
theorem bcq(fu:Nat)(c:ζ):eh fu c=θ (bR c):=by show eh 0 c=_;revert c;exact fP _ aA5
theorem dt(fu:Nat)(c:ζ):TA fu c=θ (bR c):=by show TA 0 c=_;revert c;exact fP _ aA5
theorem bhx(fu:Nat)(c:ζ):ahv fu c=θ (dQ c):=by show ahv 0 c=_;revert c;exact fP _ aA5
theorem qp(fu:Nat)(c:ζ):qx fu c=θ (dQ c):=by show qx 0 c=_;revert c;exact fP _ aA5
theorem BL(fu:Nat)(c:ζ):aov fu c=θ (au c):=by show aov 0 c=_;revert c;exact fP _ aA5
theorem nT(s:aC)(c:γ s<=4194304)(i:Int):qw FU s i=θ ((bT bR s i):Int):=by
 unfold qw ajz;have d:=uR i (γ s);rw[Ww,mV bR s (aex FU s) ?_ ?_ ?_ (γ s-Cv i (γ s)) _ FU aU aA4]
 ·rfl
 ·intro a;rw[agl,adb,aA aU];rfl
 ·intro a k b h;rw[agl,adb,aB aU,dU,bcq,h];rfl
 ·intro a k b h;rw[agl,adb,aB aU,dU,bcq,h,aR,aR,aM,dU]
theorem YD(s:aC)(c:γ s<=4194304)(i:Int):JP FU s i=θ ((bT bR s i):Int):=by
 unfold JP;have d:=uR i (γ s);rw[Ww,mV bR s (aua FU s) ?_ ?_ ?_ (γ s-Cv i (γ s)) _ FU aU aA4]
 ·rfl
 ·intro a;rw[axf,alv,aA aU];rfl
 ·intro a k b h;rw[axf,alv,aB aU,dU,dt,h];rfl
 ·intro a k b h;rw[axf,alv,aB aU,dU,dt,h,aR,aR,aM,dU]
def Jl(p:ζ->η)(l:aC):aC:=(l.reverse.dropWhile p).reverse
theorem EM(p:ζ->η)(c:ζ)(l:aC):Jl p (c::l)=if Jl p l=[]then(if p c then []else [c])else c::Jl p l:=by
 unfold Jl;rw[List.reverse_cons,List.dropWhile_append];cases h:l.reverse.dropWhile p with
 |nil=>cases b:p c<;>simp[b]
 |cons a t=>simp
theorem K4(p:ζ->η)(l:aC)(c:ζ):Jl p (l++[c])=if p c then Jl p l else l++[c]:=by unfold Jl;rw[List.reverse_append,List.reverse_singleton,jM,Hz];split<;>simp
theorem Mf(p:ζ->η):∀l:aC,(Jl p l).dropWhile p=Jl p (l.dropWhile p)
 |[]=>rfl
 |c::l=>by
  have b:=Mf p l;cases a:p c
  ·have e:List.dropWhile p (c::l)=c::l:=by simp[a]
   rw[e,EM];split<;>simp[a]
  ·have e:List.dropWhile p (c::l)=l.dropWhile p:=by simp[a]
   rw[e,<-b,EM];split
   ·rename_i h;simp[h]
   ·simp[a]
theorem Bx(p:ζ->η):∀l:aC,(l.dropWhile p).dropWhile p=l.dropWhile p
 |[]=>rfl
 |c::l=>by
  cases h:p c with
  |true=>rw[List.dropWhile_cons_of_pos h];exact Bx p l
  |false=>rw[List.dropWhile_cons_of_neg (by rw[h];decide),List.dropWhile_cons_of_neg (by rw[h];decide)]
def cI(s:aC):aC:=Jl bR (s.dropWhile bR)
theorem Fo:(λc=>([32,9]).contains c)=bR:=by funext c;revert c;exact fP _ aA5
theorem zK(s:aC):Lib.trimS s [32,9]=cI s:=by unfold Lib.trimS Gh Lib.trimRightS cI;rw[Fo];exact Mf bR s
theorem lO(s:aC)(a:γ s<=4194304):ZA FU s=θ (cI s):=by unfold ZA;rw[dU,aS aA1,zK]
theorem axr(p:ζ->η):∀l:aC,l.drop (cD p l)=l.dropWhile p
 |[]=>rfl
 |c::l=>by
  have b:=axr p l;cases a:p c
  ·simp[cD,a]
  ·simp[cD,a,b]
theorem bjj(p:ζ->η)(s:aC):bT p s 0=cD p s:=by have a:Cv 0 (γ s)=0:=aD4;unfold bT;rw[a];simp
theorem LC(s:aC)(y:Int)(i:γ (s.drop y.toNat)<=4194304)(n:Nat):∀a,n<=γ (s.drop y.toNat)->n<a->
  ∃m:Nat,m<=n/\ayl FU s y a (n:Int)=θ (m:Int)/\(s.drop y.toNat).take m=Jl bR ((s.drop y.toNat).take n):=by
 induction n with
 |zero=>intro a c d;obtain⟨a,rfl⟩:=cB a;exact⟨0,dK _,by rw[biq,awi,aA aU];rfl,Τ⟩
 |succ n b=>
  intro a c d;obtain⟨a,rfl⟩:=cB a;have e:(((n+1:Nat):Int)-1)=(n:Int):=aA0;rw[biq,awi,aB aU,e,dU,dU,dt,dU,tV _ n aU,K4];cases h:bR (Κ (s.drop y.toNat) (n:Int))
  ·exact⟨n+1,dK _,Τ,by simp[tV _ n (show n<γ (s.drop y.toNat) by omega)]⟩
  ·obtain⟨m,j,g,f⟩:=b a aU aU;exact⟨m,aA0,g,aE3⟩
theorem dx(s:aC)(a:γ s<=4194304):YB FU s=θ (cI s):=by
 unfold YB;have g:=jD bR s 0;have b:γ (s.drop (((bT bR s 0):Int)).toNat)<=4194304:=aB1;obtain⟨m,h,d,c⟩:=LC s _ b _ FU (dK _) aA4;rw[YD s a,aR,dU,d,aR,dU];have e:(m:Int).toNat=m:=aA0;rw[e,c,hC];have f:(((bT bR s 0):Int)).toNat=cD bR s:=by rw[bjj];omega
 rw[f,axr];rfl
theorem Zc(p:ζ->η)(l:aC):γ (Jl p l)<=γ l:=by unfold Jl;have:=avm p l.reverse;simpa using this
theorem Tp(s:aC):γ (cI s)<=γ s:=qT (Zc _ _) (avm _ _)
def fT:aC->Nat->aC->aC×Int×ζ
 |[],k,_=>([],k,6)
 |[c],k,a=>if c=34 then(a,((k+1:Nat)),0)else if c=92 then([],((k+1:Nat)),6)else if dQ c then([],k,5)else([],((k+1:Nat)),6)
 |c::d::r,k,a=>
  if c=34 then(a,((k+1:Nat)),0)
  else if c=92 then(if au d then fT r (k+2) (a++[d])else([],k,5))
  else if dQ c then([],k,5)else fT (d::r) (k+1) (a++[c])
theorem mQ(c:ζ)(l:aC)(k:Nat)(a:aC):fT (c::l) k a=
  if c=34 then(a,((k+1:Nat):Int),0)
  else if c=92 then(if l=[]then([],((k+1:Nat)),6)else if au (Κ l 0)then fT (l.drop 1) (k+2) (a++[Κ l 0])else([],k,5))
  else if dQ c then([],k,5)else fT l (k+1) (a++[c]):=by
 cases l with
 |nil=>simp[fT]
 |cons d r=>simp[fT,Κ]
def tE(s:aC)(i:Int):aC×Int×ζ:=
 if i<0\/γ s<i then([],0,2)
 else if i=γ s\/Κ s i≠34 then([],i,5)
 else fT (s.drop (i.toNat+1)) (i.toNat+1) []
theorem Qm(s:aC)(k:Nat):Κ (s.drop k) 0=Κ s k:=by simp[Κ]
theorem bhw(s:aC)(k:Nat):s.drop k=[]↔γ s<=k:=by rw[List.drop_eq_nil_iff]
def Kv(s:aC)(j:((aC×Int)⊕(aC×Int×ζ))):ε (aC×Int×ζ):=
 dA (λv=>(if(γ s:Int)<=v.2 then θ ([],γ s,6)else(gd (bJ (v.2+1))<|some (v.1,v.2+1,0)))) (λq=>θ q) j
theorem xv(s:aC)(p:γ s<=4194304)(n:Nat):∀k b (a:aC),γ s-k<=n->n<b->k<=γ s->γ a<=k->
  ((arv FU s b a k).bind (Kv s))=θ (fT (s.drop k) k a):=by
 induction n with
 |zero=>intro k b a g l j m;obtain⟨b,rfl⟩:=cB b;obtain rfl:k=γ s:=aA0;rw[ave,akh,aA aU,YN,aR];unfold Kv;rw[lB,aB aA2];rfl
 |succ n e=>
  intro k b a g l j m;obtain⟨b,rfl⟩:=cB b;by_cases i:k<γ s
  ·rw[yZ s k i,mQ,ave,akh,aB aU,dU];by_cases d:Κ s (k:Int)=34
   ·rw[aB d,aB d,aR];unfold Kv;rw[lB,aA aA3,aS (bW _ aA3 aA3)];rfl
   ·rw[aA d,aA d];by_cases c:Κ s k=92
    ·rw[aB c,aB c,dU];by_cases f:k+1=γ s
     ·rw[aB aU,aB ((bhw s _).2 aU),aR];unfold Kv;rw[Rt,f]
     ·rw[aA aU,aA (λh=>f (by have:=(bhw s _).1 h;omega)),dU,dU,BL,aR,Qm,mL];cases o:au _
      ·rfl
      ·rw[eY,aG,aB rfl,dU,dU,dU,dU,Gj,mL,
        e _ b _ aU aU aU aA3]
    ·rw[aA c,aA c,bhx,aR];cases o:dQ _
     ·rw[aG,aA aA1,dU,dU,dU,mL,e _ b _ aU aU aU aA3]
     ·rfl
  ·obtain rfl:k=γ s:=by omega
   rw[ave,akh,aA aU,YN,aR];unfold Kv;rw[lB,aB aA2];rfl
theorem wV(s:aC)(e:γ s<=4194304)(i:Int):aqc FU s i=θ (tE s i):=by
 unfold aqc tE;by_cases d:i<0
 ·rw[aB d,aB (show i<0\/γ s<i from .inl d)];rfl
 ·rw[aA d];by_cases c:γ s<i
  ·rw[aE c,aB (show i<0\/γ s<i from .inr c)];rfl
  ·rw[aD c,aA (show¬(i<0\/γ s<i)by omega)];by_cases b:i=(γ s:Int)
   ·rw[aB b,aB (show i=(γ s:Int)\/Κ s i≠34 from .inl b)];rfl
   ·rw[aA b,dU];by_cases a:Κ s i=34
    ·rw[aE a,aA (by simp[b,a]),dU];obtain⟨k,rfl⟩:∃k:Nat,i=k:=⟨i.toNat,aA0⟩;exact xv s e (γ s) (k+1) FU [] aU aA4 aU aA2
    ·rw[aD a,aB (.inr a)];rfl
open Go.Lib renaming join → cK, trimLeftS → Gh
open List renaming length → aL
theorem qu(p:ζ->η)(s:aC)(r:b)(F:Nat->Int->ε (Unit⊕b))
  (i:∀a,F (a+1) (γ s)=θ (.inl ()))
  (g:∀a k,k<aL s->p (Κ s k)=ν->F (a+1) k=θ (.inr r))
  (f:∀a k,k<aL s->p (Κ s k)=μ->F (a+1) k=F a (k+1)) (n:Nat):
  ∀k a,k+n=aL s->n<a->F a k=θ (if(s.drop k).all p=μ then .inl ()else .inr r):=by
 induction n with
 |zero=>intro k a d e;obtain⟨a,rfl⟩:=cB a;obtain rfl:k=aL s:=aA0;rw[i,YN];rfl
 |succ n c=>
  intro k a d e;obtain⟨a,rfl⟩:=cB a;rw[yZ s k aU,Jg];cases h:p _
  ·rw[g a k aU h];rfl
  ·rw[f a k aU h,mL,c _ a aU aU];simp
theorem nW(p:ζ->η)(s:aC)(f:aL s<=4194304)(r:b)(F:Nat->Int->ε (Unit⊕b))
  (e:∀a,F (a+1) (γ s)=θ (.inl ()))
  (d:∀a k,k<aL s->p (Κ s k)=ν->F (a+1) k=θ (.inr r))
  (c:∀a k,k<aL s->p (Κ s k)=μ->F (a+1) k=F a (k+1)):F FU 0=θ (if s.all p=μ then .inl ()else .inr r):=by
 have:=qu p s r F e d c (γ s) 0 FU aU aA4;exact this
theorem NM(s:aC)(k:aL s<=4194304)(l:aC):∀p a,aL p+aL l=aL s->aL l<a->
  asa FU s a (p++l) (γ p)=θ (p++l.map eQ):=by
 induction l with
 |nil=>intro p a g i;obtain⟨a,rfl⟩:=cB a;simp at g;rw[bdt,aoz,aA aU];rfl
 |cons c l f=>
  intro p a g i;obtain⟨a,rfl⟩:=cB a;simp at g i;have j:=xJ p c l;have b:=f (p++[eQ c]) a aB5 aU;have ok:bJ ((aL p:Int)+1):=bW _ aU aU;rw[bdt,aoz,aB aU];simp only[aS j,Rr,aS ok,oR];by_cases e:65<=c
  ·by_cases d:c<=90
   ·simp only[aB e,aE d,Vt c e d];rw[Xk p (eQ c),b];simp
   ·simp only[aD d];rw[vm c (λh=>d h.2)]at b;rw[Xk p c,show p++c::l=(p++[c])++l by simp,b];simp[vm c (λh=>d h.2)]
  ·simp only[aA e];rw[vm c (λh=>e h.1)]at b;rw[Xk p c,show p++c::l=(p++[c])++l by simp,b];simp[vm c (λh=>e h.1)]
theorem du(s:aC)(a:aL s<=4194304):YF FU s=θ (cN s):=by unfold YF;have:=NM s a s [] FU aA2 aA4;simp at this;rw[this];rfl
theorem Xo(c:ζ):amm FU c=θ (px c):=by revert c;exact fP _ aA5
theorem Cj(c:ζ):ZC FU c=θ (fZ c):=by revert c;exact fP _ aA5
theorem Us(c:ζ):axx FU c=θ (px c):=by revert c;exact fP _ aA5
theorem zR(c:ζ):YE FU c=θ (fZ c):=by revert c;exact fP _ aA5
theorem rk:∀c:ζ,(wh FU c).map (·.2)=θ (fW c):=fP _ aA5
theorem ca(c:ζ):∃v,wh FU c=θ (v,fW c):=by obtain⟨⟨v,b⟩,d,a⟩:=bU.1 (rk c);exact⟨v,by rw[d,<-a]⟩
theorem iy:∀c:ζ,(dy FU c).map (λn=>decide (n<0))=θ (!fW c):=fP _ aA5
theorem I5(c:ζ):∃n,dy FU c=θ n/\decide (n<0)= !fW c:=by obtain⟨n,b,a⟩:=bU.1 (iy c);exact⟨n,b,a⟩
def db(y:aC)(l:δ aC):δ aC:=match l with|x::r=>(y++x)::r|[]=>[y]
theorem QE(l:δ aC)(h:l≠[]):db [] l=l:=by cases l with|nil=>exact absurd rfl h|cons _ _=>rfl
theorem ayt(c:ζ)(l:aC):cJ c (c::l)=[]::cJ c l:=by rw[cJ,aB rfl]
theorem vr(c b:ζ)(l:aC)(h:b≠c):cJ c (b::l)=db [b] (cJ c l):=by rw[cJ,aA h];cases cJ c l<;>rfl
theorem jx(y z:aC)(l:δ aC)(h:l≠[]):db y (db z l)=db (y++z) l:=by cases l with|nil=>exact absurd rfl h|cons _ _=>simp[db]
theorem Lj(c:ζ):∀s:aC,((cJ c s).map aL).sum+γ (cJ c s)=aL s+1
 |[]=>rfl
 |b::l=>by
  have a:=Lj c l;by_cases h:b=c
  ·subst h;rw[ayt];simp;omega
  ·rw[vr c b l h];cases hx:cJ c l with
   |nil=>exact absurd hx (Dh c l)
   |cons x r=>rw[hx]at a;simp only[db,tR,CE,cM,cE,iH]at a⊢;omega
theorem DD(s:aC)(f k:Nat)(b:f<=k)(h:k<aL s):sub s f ((k+1:Nat))=sub s f k++[Κ s k]:=by unfold sub;have a:((k+1:Nat):Int).toNat-((f:Nat):Int).toNat=(k-f)+1:=aA0;rw[a,tV _ (k-f) aB1];congr 2;simp only[Κ,bH,bV];congr 2;omega
theorem bc(s:aC)(k:Nat):sub s k k=[]:=by unfold sub;simp
theorem VL(s:aC)(c:ζ)(r:aL s<=4194304)(n:Nat):∀k f b out,k+n=aL s->n<b->f<=k->aL out<=k->
  ∃a f':_,amz FU s c b out f k=θ (a,((f':Nat):Int))/\f'<=aL s/\γ a<=aL s/\a++[s.drop f']=out++db (sub s f k) (cJ c (s.drop k)):=by
 induction n with
 |zero=>intro k f b out q p m o;obtain⟨b,rfl⟩:=cB b;obtain rfl:k=aL s:=aA0;refine⟨out,f,by rw[ben,arm,aA aU],aA0,aA0,?_⟩;rw[YN];congr 2;unfold sub;rw[eX aB1];simp
 |succ n l=>
  intro k f b out q p m o;obtain⟨b,rfl⟩:=cB b;have d:k<aL s:=aA0;rw[ben,arm,aB aU,dU,yZ s k d];by_cases e:Κ s (k:Int)=c
  ·rw[aB e,aS aU,aS aA3,dU,dU];obtain⟨o',f',j,i,h,g⟩:=l (k+1) (k+1) b (out++[sub s (f:Int) (k:Int)]) aU aU aU aA3;refine⟨o',f',j,i,h,?_⟩;rw[g,e,ayt,bc,QE _ (Dh c _)];simp[db]
  ·rw[aA e,dU];obtain⟨o',f',j,i,h,g⟩:=l (k+1) f b out aU aU aU aU;refine⟨o',f',j,i,h,?_⟩;rw[g,vr c _ _ e,jx _ _ _ (Dh c _),DD s f k m d]
theorem pieces_eq(s:aC)(c:ζ)(b:aL s<=4194304):axw FU s c=θ (cJ c s):=by obtain⟨o',f',e,h,g,d⟩:=VL s c b (γ s) 0 0 FU [] aU aA4 aU aA2;unfold axw;have a:amz FU s c FU [] (0:Int) (0:Int)=θ (o',((f':Nat):Int)):=e;rw[a,aR,aS (by simp only;omega),aS aA3];simp;rw[d,NT,Ic];have f:sub s ((0:Nat):Int) ((0:Nat):Int)=[]:=bc s 0;rw[f,QE _ (Dh c s)]
def wX:aC->aC
 |[]=>[]
 |[c]=>[c]
 |c::d::l=>if c=48 then wX (d::l)else c::d::l
theorem low48:∀c:ζ,(eQ c==48)=(c==48):=fP _ aA5
theorem D4(c:ζ)(l:aC):Gh (cN (c::l)) [48]=if c=48 then Gh (cN l) [48]else cN (c::l):=by
 unfold Gh cN;rw[tR,Hz];have h:[48].contains (eQ c)=(c==48):=by rw[<-low48 c];simp;rfl
 rw[h];by_cases a:c=48
 ·rw[aB a,aB aC0]
 ·rw[aA a,aA aC0]
theorem Lg:∀g:aC,g≠[]->cN (wX g)=jL g
 |[],h=>absurd Τ h
 |[c],_=>by
  have e:jL [c]=if Gh (cN [c]) [48]=[]then [48]else Gh (cN [c]) [48]:=Τ;rw[e,D4];by_cases a:c=48
  ·subst a;rfl
  ·rw[aA a];rfl
 |c::d::l,_=>by
  have b:=Lg (d::l) aA2;have e:jL (c::d::l)=if Gh (cN _) _=[]then [48]else Gh (cN _) _:=Τ;rw[e,D4,wX];by_cases a:c=48
  ·simp only[aB a];rw[b];rfl
  ·simp only[aA a];rw[aA (by simp[cN])]
theorem WY(n:Nat):∀(g:aC) (a:Nat),aL g<=n->n<a->awc FU a g=θ (wX g):=by
 induction n with
 |zero=>intro g a b i;obtain⟨a,rfl⟩:=cB a;obtain rfl:g=[]:=qR aU;rw[bgx,atx,aA aA2];rfl
 |succ n f=>
  intro g a b i;obtain⟨a,rfl⟩:=cB a;rw[bgx,atx]
  match g,b with
  |[],_=>rw[aA aA2];rfl
  |[c],_=>rw[aA aA2];rfl
  |c::d::l,b=>
   have h:(1:Int)<(γ (c::d::l):Int):=by simp only[cM];omega
   rw[aB h,aS aU,aR,wX];have j:Κ (c::d::l) (0:Int)=c:=Τ;rw[j];by_cases e:c=48
   ·rw[aE e,aM,aS aU,aB e];exact f (d::l) a (by simp only[cM]at b⊢;omega) aU
   ·rw[aD e,aG,aA e]
theorem Ul:∀g:aC,γ (wX g)<=aL g
 |[]=>dK _
 |[c]=>dK _
 |c::d::l=>by
  rw[wX];split
  ·have:=Ul (d::l);simp at this⊢;omega
  ·exact dK _
theorem V0(g:aC)(l:aL g<=4194304):bfi FU g=θ (if qM g then(jL g,μ)else([],ν)):=by
 unfold bfi;by_cases b:(aL g:Int)<1
 ·rw[aB b,uL g (.inl b)];rfl
 ·rw[aA b,aR];by_cases c:4<(aL g:Int)
  ·rw[aE c,uL g (.inr c)];rfl
  ·rw[aD c];have d:=nW fW g l (([]:aC),ν) (awd FU g)
    (λi=>by rw[aze,anb,aA aU])
    (λi k j h=>by obtain⟨n,f,a⟩:=I5 (Κ g k);rw[h]at a;rw[aze,anb,aB aU,dU,f,aR,aB (bX a)])
    (λi k j h=>by obtain⟨n,f,a⟩:=I5 (Κ g k);rw[h]at a;rw[aze,anb,aB aU,dU,f,aR,aA (fF a),dU])
   rw[d,aR];cases hx:g.all fW with
   |false=>rw[Wj g hx];rfl
   |true=>
    rw[Wi g b c hx,WY (γ g) g FU (dK _) aA4,aR,
     YA _ (by have:=Ul g;omega),Lg g (by intro e;subst e;simp at b)]
    rfl
theorem WG(p:δ aC)(x:aC):cK (p++[x]) [58]=(if p=[]then []else cK p [58]++[58])++x:=by
 induction p with
 |nil=>simp[cK]
 |cons a p c=>
  cases p with
  |nil=>simp[cK]
  |cons b p=>
   have e:∀u v l,cK (u::v::l) [58]=u++(58::cK (v::l) [58]):=λu v l=>by simp[cK]
   rw[NU,NU,e,<-NU,c,e];simp
theorem WX(X:δ aC)(s:aL X<=4194305)(hx:∀x∈X,aL x<=4194304)(q:δ aC):∀p c,X=p++q->aL q<c->p.all qM=μ->
  ana FU X c (cK (p.map jL) [58]) (γ p)=θ (if X.all qM=μ then .inl (cK (X.map jL) [58])else .inr ([],0,ν)):=by
 induction q with
 |nil=>intro p c h k d;obtain⟨c,rfl⟩:=cB c;rw[gH]at h;subst h;rw[bep,aro,aA aU,aB d]
 |cons a q l=>
  intro p c h k d;obtain⟨c,rfl⟩:=cB c;have i:=bA aL h;simp at i k;have e:(0:Int)<=(aL p:Int)/\(aL p:Int)<(aL X:Int):=aA0;have n:el X (aL p:Int)=a:=aB2;have o:aL a<=4194304:=hx a aA6;rw[bep,aro,aB e.2,aS e,aS e,n,V0 a o,aR];cases g:qM a with
  |false=>
   have:X.all qM=ν:=by rw[h,dZ,Jg,g];simp
   rw[this];rfl
  |true=>
   have r:=Bm a g;have j:=av [58] 4 (p.map jL) (λx f=>by obtain⟨y,m,rfl⟩:=dW.1 f;exact Bm y (aT.1 d y m));simp at j;have:=l (p++[a]) c aA6 aU (by rw[dZ,d];simpa using g);rw[Rp,eu,WG]at this;rw[show(γ (p++[a]):Int)=(aL p:Int)+1 by simp]at this;simp only[eW];cases p with
   |nil=>rw[aA aA2,aR,aS (by simp only[cK];simp;omega)];exact this
   |cons b p=>simp only[cM]at j i e;rw[aB (by simp only[cM];omega),aS aB6,aR,aS aB7,aS (bW _ aU aA3)];exact this
theorem rJ(s:aC)(b:aL s<=4194304):asu FU s=θ (cK (iA s).1 [58],(γ (iA s).1:Int),(iA s).2):=by
 unfold asu;by_cases h:s=[]
 ·rw[aB h,Wl s h];rfl
 ·have d:=pz 58 s;have:=WX (cJ 58 s) aU (λx hx=>qT (d.2 x hx) b) (cJ 58 s) [] FU aA2 aA4 Τ;have a:ana FU _ FU [] 0=_:=this;rw[aA h,bjy s h,pieces_eq s 58 b,aR,a,aR];cases c:(cJ 58 s).all qM with
  |false=>rw[xW s c];rfl
  |true=>rw[sN s c,aB rfl,lB,Gk]
open Go.Lib renaming cut → eF, index → cO, join → cK, trimLeftS → Gh
open List renaming isPrefixOf → NX, set → jH
theorem WZ(l:δ aC)(x:Int)(d:γ (el l x)<=4194304):akq FU l x FU 0=θ (if(el l x).all fW=μ then .inl ()else .inr ([],ν)):=by
 refine nW fW _ d _ _ ?_ ?_ ?_
 ·intro b;rw[aoj,agz,aA aU]
 ·intro b k c h;obtain⟨v,a⟩:=ca _;rw[h]at a;rw[aoj,agz,aB aU,dU,a];simp
 ·intro b k c h;obtain⟨v,a⟩:=ca _;rw[h]at a;rw[aoj,agz,aB aU,dU,a,aR,eY,aG,dU]
theorem V1(s:aC)(p:γ s<=4194304)(n:Nat):∀k c,k+n=γ (cJ 58 s)->n<c->((cJ 58 s).take k).all qM=μ->
  afn FU s c (XV (cJ 58 s) k) k=θ (if(cJ 58 s).all qM=μ then .inl ((cJ 58 s).map jL)else .inr ([],ν)):=by
 have u:=pz 58 s;induction n with
 |zero=>intro k c r t f;obtain⟨c,rfl⟩:=cB c;obtain rfl:k=γ (cJ 58 s):=aA0;rw[hC]at f;rw[aya,ajx,aA aU,aB f,MD]
 |succ n m=>
  intro k c r t f;obtain⟨c,rfl⟩:=cB c;have b:k<γ (cJ 58 s):=aA0;have q:=MC (cJ 58 s) k aU;have a:0<=(k:Int)/\(k:Int)<(γ (XV (cJ 58 s) k):Int):=aA0;have l:=grp_el (cJ 58 s) k b;have d:γ (el (cJ 58 s) (k:Int))<=4194304:=qT (u.2 _ (BB _ k b)) p;have fail:qM (el (cJ 58 s) (k:Int))=ν->(cJ 58 s).all qM=ν:=λh=>Tn qM _ k b h;rw[aya,ajx,aB aU,aS a,aS a,l];by_cases i:(γ (el (cJ 58 s) k):Int)<1
  ·rw[aB i,fail (uL _ (.inl i))];rfl
  ·rw[aA i,aR];by_cases g:4<(γ (el (cJ 58 s) k):Int)
   ·rw[aE g,fail (uL _ (.inr g))];rfl
   ·rw[aD g,aG,WZ _ _ (by rw[l];exact d),l,aR];cases hx:(el (cJ 58 s) _).all fW with
    |false=>rw[fail (Wj _ hx)];rfl
    |true=>
     have j:=Wi _ i g hx;rw[aB rfl,lB,du _ d,aR,aS (by simp[cN];omega),aS aA1];have step:∀v,v=jL _->afn FU s c (jH _ _ v) ((k:Int)+1)=θ (if(cJ 58 s).all qM=μ then .inl ((cJ 58 s).map jL)else .inr ([],ν)):=λv o=>by rw[<-U8 (cJ 58 s) k v b o];exact m _ c aU aU (Qt qM _ k b f j)
     have ok:bJ (k+1):=bW _ aU aU;by_cases e:Gh (cN (el (cJ 58 s) k)) [48]=[]
     ·rw[aB e,aS a,aS a,aR,lB,aS ok,step [48] (WU _ e)]
     ·rw[aA e,aS a,aS a,aR,lB,aS ok,step (Gh (cN (el (cJ 58 s) (k:Int))) [48]) (WW _ e)]
theorem HC(s:aC)(c:γ s<=4194304):agm FU s=θ (zA s):=by
 have d:=pz 58 s;have:=V1 s c (γ (cJ 58 s)) 0 FU aU aA4 Τ;rw[GZ]at this;have a:afn FU s FU _ 0=_:=this;unfold agm;rw[aS aU,a];cases b:(cJ 58 s).all qM with
 |false=>rw[xW s b];rfl
 |true=>rw[sN s b];rfl
theorem V2(x:aC)(hx:γ x<=4194304):(if x=[]then θ ([],μ)else((agm FU x).bind λa=>θ (a.1,a.2)))=θ (iA x):=by
 by_cases h:x=[]
 ·rw[aB h,Wl x h]
 ·rw[aA h,bjy x h,HC x hx];rfl
theorem sO(x:aC):γ (iA x).1<=γ x+1/\∀y∈(iA x).1,γ y<=4:=by
 unfold iA;split
 ·simp
 ·exact bjx x
theorem Eu(x:aC)(h:γ x<=4194304):γ (cK (iA x).1 [58])<=24000000:=by have b:=sO x;have a:=av [58] 4 (iA x).1 b.2;simp at a;omega
theorem IV(s:aC):ayp FU s=θ (yW s):=by
 unfold ayp yW;by_cases a:39<γ s
 ·rw[aB aU,aB a]
 ·rw[aA aU,aA a,aS aU];have h:=BG s [58,58];cases g:(eF s [58,58]).2.2 with
  |false=>have d:=bjx s;rw[HC s aU,aR,aS ⟨aA0,R3 s aU⟩];cases c:(zA s).2<;>rfl
  |true=>
   rw[eY,aG,V2 _ aU,aR,V2 _ aU,aR,aA (show¬(μ=ν)by decide)];have j:=sO (eF s [58,58]).1;have i:=sO (eF s [58,58]).2.1;have f:=Eu (eF s [58,58]).1 aU;have e:=Eu (eF s [58,58]).2.1 aU;cases d:(iA (eF s _).1).2
   ·simp
   ·cases c:(iA (eF s _).2.1).2
    ·simp
    ·rw[eY,aG,aG,dU,aR];by_cases b:7<(γ (iA (eF s [58,58]).1).1:Int)+(γ (iA (eF s [58,58]).2.1).1:Int)
     ·rw[aE b];rfl
     ·rw[aD b,aA aA1,aG,aS ⟨aA0,aA0⟩,aS aA3,aS ⟨aA0,aA0⟩,aS aA3]
def UG(a b:aC):aC×η:=if(!(iA a).2|| !(iA b).2||decide (7<(γ (iA a).1)+(γ (iA b).1:Int)))=μ then([],ν)else(cK (iA a).1 [58]++[58,58]++cK (iA b).1 [58],μ)
theorem index_ge(p:aC):∀l:aC,-1<=cO l p
 |[]=>by unfold cO;split<;>omega
 |b::l=>by
  have:=index_ge p l;rw[cO];split
  ·omega
  ·split
   ·omega
   ·omega
theorem qm(p:aC)(b:ζ)(l:aC):cO (b::l) p=if p.isPrefixOf (b::l)=μ then 0 else if cO l p= -1 then-1 else cO l p+1:=by
 rw[cO];split
 ·rfl
 ·by_cases h:cO l p= -1
  ·rw[aB h,aB aA7]
  ·rw[aA h,aA aA7]
theorem pfx2(s:aC)(k:Nat)(h:k<γ s):([58,58]).isPrefixOf (Κ s k::s.drop (k+1))=(decide (k+1<γ s)&&(Κ s k==58)&&(Κ s ((k+1:Nat))==58)):=by
 by_cases b:k+1<γ s
 ·rw[yZ s (k+1) b,aE b];simp only[NX,Je,oB];rw[Bool.beq_comm,Bool.beq_comm (a:=58)]
 ·rw[Da aU,aD b];simp[NX]
theorem yd(s:aC)(w:γ s<=4194304)(n:Nat):∀k a,k+n=γ s->n<a->
  apw FU s a k=θ (if cO (s.drop k) [58,58]= -1 then .inl ()else .inr (UG (s.take (k+(cO (s.drop k) [58,58]).toNat)) (s.drop (k+(cO (s.drop k) [58,58]).toNat+2)))):=by
 induction n with
 |zero=>intro k a o p;obtain⟨a,rfl⟩:=cB a;obtain rfl:k=γ s:=aA0;rw[bkg,ayg,dU,aA aU,YN];rfl
 |succ n m=>
  intro k a o p;obtain⟨a,rfl⟩:=cB a;have b:k<γ s:=aA0
  rw[bkg,ayg,dU,yZ s k b,qm,pfx2 s k b];have step:apw FU s a ((k:Int)+1)=θ (if(if cO (s.drop (k+1)) [58,58]= -1 then(-1:Int)else cO (s.drop (k+1)) [58,58]+1)= -1 then .inl ()else .inr (UG (s.take (k+(if cO (s.drop (k+1)) [58,58]= -1 then(-1:Int)else cO (s.drop (k+1)) [58,58]+1).toNat)) (s.drop (k+(if cO (s.drop (k+1)) [58,58]= -1 then(-1:Int)else cO (s.drop (k+1)) [58,58]+1).toNat+2)))):=by
   rw[mL,m (k+1) a aU aU];have x:=index_ge [58,58] (s.drop (k+1));by_cases c:cO (s.drop (k+1)) [58,58]= -1
   ·rw[aB c,aB c];rfl
   ·rw[aA c,aA c,aA aU];have e:k+1+(cO (s.drop (k+1)) [58,58]).toNat=k+(cO (s.drop (k+1)) [58,58]+1).toNat:=by omega
    rw[e]
  by_cases l:k+1<γ s
  ·rw[aB aU,dU,aE l,Je];by_cases f:Κ s (k:Int)=58
   ·rw[aB f,dU,aS aU,aR,mL];have i:(Κ s (k:Int)==58)=μ:=by simpa using f
    rw[i,Je];by_cases d:Κ s ((k+1:Nat):Int)=58
    ·have h:(Κ s ((k+1:Nat):Int)==58)=μ:=by simpa using d
     have q:((k:Nat):Int).toNat=k:=aA0;have g:((k:Int)+2).toNat=k+2:=aA0;rw[aE d,eY,aG,h,aB rfl,aS aU,q,rJ _ aB3,aR,dU,aS aU,g,rJ _ aB1,aR];simp only[Int.toNat_zero,Ru,aA (show¬((0:Int)= -1)by decide)];unfold UG;have v:=Eu (s.take k) aB3;have u:=Eu (s.drop (k+2)) aB1;have t:=(sO (s.take k)).1;have r:=(sO (s.drop (k+2))).1;rw[iI]at t;rw[dY]at r;cases z:(iA (s.take k)).2
     ·simp
     ·cases y:(iA (s.drop (k+2))).2
      ·simp
      ·simp only[eY,aG,CI];rw[dU,aR];by_cases j:7<(γ (iA (s.take k)).1:Int)+(γ (iA (s.drop (k+2))).1:Int)
       ·rw[aE j,aM,aB rfl]
       ·rw[aD j,aG,aA aA1,aS aA3,aS aA3]
    ·have h:(Κ s ((k+1:Nat):Int)==58)=ν:=by simpa using d
     rw[aD d,oF,aM,h,aA (show¬(ν=μ)by decide),dU,<-mL,step]
   ·have i:(Κ s (k:Int)==58)=ν:=by simpa using f
    rw[aA f,aR,aM,i,kY,aA (show¬(ν=μ)by decide),dU,step]
  ·rw[aA aU,aD l,kY];have:cO (s.drop (k+1)) [58,58]= -1:=by rw[Da aU];rfl
   rw[aB this];rfl
theorem sU(s p:aC):eF s p=if cO s p= -1 then(s,[],ν)else(s.take (cO s p).toNat,s.drop ((cO s p).toNat+γ p),μ):=by
 unfold eF;have:=index_ge p s;by_cases h:cO s p= -1
 ·rw[aB h,aA aU]
 ·rw[aA h,aB aU]
def G1(s:aC):aC×η:=if(eF s [58,58]).2.2=ν then(cK (iA s).1 [58],(iA s).2&&decide ((γ (iA s).1:Int)=8))else UG (eF s [58,58]).1 (eF s [58,58]).2.1
theorem ye(s:aC)(b:γ s<=4194304):blj FU s=θ (G1 s):=by
 have:=yd s b (γ s) 0 FU aU aA4;rw[NT,Kh]at this;have a:apw FU s FU 0=_:=this;unfold blj G1;rw[a,sU];by_cases h:cO s [58,58]= -1
 ·rw[aB h,aB h,rJ s b];cases c:(iA s).2<;>rfl
 ·rw[aA h,aA h];rfl
open Go.Lib renaming index → cO, itoa → gK
theorem RY(c:ζ)(h:fZ c=μ):(c-48).toNat=c.toNat-48/\c.toNat<=57/\48<=c.toNat:=by
 have b:=(pB c).1 h;have a:48<=c:=by rw[wN];show 48<=c.toNat;omega
 exact⟨by rw[UInt8.toNat_sub_of_le _ _ a];rfl,aA0,aA0⟩
theorem O5(s:aC)(x:Int)(o:γ (el (cJ 46 s) x)<=15)(l:aC):∀(p:aC) a,el (cJ 46 s) x=p++l->aL l<a->p.all fZ=μ->
  ajf FU s x a (mK p) (γ p)=θ (if l.all fZ=μ then .inl (mK (el (cJ 46 s) x))else .inr ν):=by
 induction l with
 |nil=>intro p a h f b;obtain⟨a,rfl⟩:=cB a;rw[gH]at h;rw[bbs,alz,aA aC6,h];rfl
 |cons c l i=>
  intro p a h f b;obtain⟨a,rfl⟩:=cB a;have j:=bA aL h;simp at j f;have d:(0:Int)<=(aL p:Int)/\(aL p:Int)<(γ (el (cJ 46 s) x):Int):=aA0;have m:Κ (el (cJ 46 s) x) (aL p:Int)=c:=aE1;have n:=uQ 14 p aU b;rw[bbs,alz,aB d.2,aS d,m,Cj,Jg];cases g:fZ c with
  |false=>rfl
  |true=>
   have k:=RY c g;rw[k.1,aS (bW _ aU aU),aS d,aS (bW _ aU aU),aS (bW _ aU aU)];have e:10*(mK p)+(c.toNat-48:Nat)=(mK (p++[c]):Int):=by rw[bcp];omega
   rw[e,Xk p c];exact i _ a aA6 aU (by rw[dZ,b];simpa using g)
theorem kg(s:aC)(j:aL s<=15)(n:Nat):∀k a,k+n=γ (cJ 46 s)->n<a->
  ajg FU s a k=θ (if((cJ 46 s).drop k).all jP=μ then .inl ()else .inr ν):=by
 have p:=pz 46 s;induction n with
 |zero=>intro k a l m;obtain⟨a,rfl⟩:=cB a;obtain rfl:k=γ (cJ 46 s):=aA0;rw[bbt,ama,aA aU,YN];rfl
 |succ n i=>
  intro k a l m;obtain⟨a,rfl⟩:=cB a;have b:k<γ (cJ 46 s):=aA0;have c:0<=(k:Int)/\(k:Int)<(γ (cJ 46 s):Int):=aA0;have g:γ (el (cJ 46 s) (k:Int))<=15:=qT (p.2 _ (BB _ k b)) j;have o:(cJ 46 s).drop k=el (cJ 46 s) (k:Int)::(cJ 46 s).drop (k+1):=by rw[Ps _ _ b,zbF b]
  have q:=O5 s (k:Int) g (el (cJ 46 s) (k:Int)) [] FU aA2 aA4 Τ;have h:ajf FU s (k:Int) FU (0:Int) (0:Int)=_:=q;rw[bbt,ama,aB aU,aS c,aS c,h,aR,o,Jg];cases hx:(el (cJ 46 s) _).all fZ with
  |false=>rw[Vj _ hx];rfl
  |true=>
   rw[aB rfl,lB];by_cases f:el (cJ 46 s) k=[]
   ·rw[aB f,mX _ (.inl (.inl f))];rfl
   ·rw[aA f];by_cases e:255<(mK (el (cJ 46 s) k):Int)
    ·rw[aB e,mX _ (.inl (.inr e))];rfl
    ·rw[aA e,aS (bW _ aU aU)];by_cases d:el (cJ 46 s) k=gK (mK (el (cJ 46 s) k):Int)
     ·rw[aE d,aS (bW _ aU aU),VP _ hx f e d];exact i (k+1) a aU aU
     ·rw[aD d,mX _ (.inr d)];rfl
theorem BX(s:aC):awt FU s=θ (Kd s):=by
 unfold awt;by_cases h:15<(aL s:Int)
 ·rw[aB h,LK s h]
 ·have c:=pz 46 s;have:=kg s aU (γ (cJ 46 s)) 0 FU aU aA4;rw[NT]at this;have a:ajg FU s FU 0=_:=this;rw[aA h,aS aU,a];cases b:(cJ 46 s).all jP with
  |false=>rw[O6 s b];rfl
  |true=>rw[VR s h b];rfl
def jW(c:ζ):η:=px c||fZ c||c==45
def Fp(x:aC):η:=decide (1<=aL x)&&decide (aL x<=63)&& !(Κ x 0==45)&& !(Κ x (aL x-1)==45)&&x.all jW
def mD(x:aC):η:=x.any (λc=> !fZ c)
def XY(x:aC):η:=decide ((aL x:Int)<1)||decide (63<(aL x:Int))||(Κ x 0==45)||(Κ x (aL x-1)==45)
theorem QZ(x:aC):Fp x=(!XY x&&x.all jW):=by
 unfold Fp XY;have b:decide (1<=aL x)= !decide ((aL x:Int)<1):=by rw[cz];simp;omega
 have a:decide (aL x<=63)= !decide (63<(aL x:Int)):=by rw[cz];simp;omega
 rw[b,a];simp
theorem SO(x:aC)(hx:aL x<=4194304):(if γ x<(1:Int)then θ μ else(if 63<(aL x:Int)then θ μ else(gd (0<=(0:Int)/\0<(aL x:Int))<|(if(Κ x 0)=45 then θ μ else(gd (bJ (aL x-1))<|(gd (0<=(aL x-(1:Int))/\(aL x-1)<(aL x:Int))<|some (decide ((Κ x (aL x-1))=45))))))))=θ (XY x):=by
 unfold XY;by_cases c:(aL x:Int)<1
 ·rw[aB c,aE c];rfl
 ·rw[aA c,aD c];by_cases b:63<(aL x:Int)
  ·rw[aB b,aE b];rfl
  ·rw[aA b,aD b,aS aU];by_cases a:Κ x 0=45
   ·rw[aB a,show(Κ x 0==45)=μ by simpa using a];rfl
   ·rw[aA a,show(Κ x 0==45)=ν by simpa using a,aS (bW _ aU aU),aS aU];rfl
theorem rj(c:ζ):((amm FU c).bind λb=>(bif (!b)then((ZC FU c).bind λa=>(bif (!a)then θ (!decide (c=45))else θ ν))else θ ν))=θ (!jW c):=by
 rw[Xo,Cj];unfold jW;by_cases h:c=45
 ·subst h;rfl
 ·rw[show(c==45)=ν by simpa using h,aD h];cases px c<;>cases fZ c<;>rfl
theorem VU(x:aC)(hx:aL x<=4194304)(r:η)(l:aC):∀p a w,x=p++l->aL l<a->
  (l.all jW=μ->rm FU x r a (γ p) w=θ (0,w||mD l,r))/\(l.all jW=ν->∃b,rm FU x r a (γ p) w=θ (1,b,ν)):=by
 induction l with
 |nil=>intro p a w h g;obtain⟨a,rfl⟩:=cB a;rw[gH]at h;rw[aoi,agy,aA aC6];simp[mD]
 |cons c l j=>
  intro p a w h g;obtain⟨a,rfl⟩:=cB a;have k:=bA aL h;simp at k g;have i:0<=(aL p:Int)/\(aL p:Int)<(aL x:Int):=aA0;have m:Κ x (aL p:Int)=c:=aE1;have ok:bJ ((aL p:Int)+1):=bW _ aU aU;have d:=j (p++[c]) a (w|| !fZ c) aA6 aU;rw[<-Xk p c]at d;rw[aoi,agy,aB i.2,aS i,m,rj,aR,Jg];cases n:jW c with
  |false=>exact⟨λh=>by simp at h,λ_=>⟨w,by rw[oF,aM]⟩⟩
  |true=>
   have e:(bif w then gd (bJ ((aL p:Int)+1)) (rm FU x r a ((aL p:Int)+1) μ)else(ZC FU c).bind λ(f:η)=>gd (bJ (aL p+1)) (rm FU x r a (aL p+1) (!f)))=rm FU x r a (aL p+1) (w|| !fZ c):=by
    cases w with
    |true=>rw[aM,aS ok,iU]
    |false=>rw[aG,Cj,aR,aS ok,CI]
   rw[e];refine⟨λh=> ?_,λh=>d.2 h⟩;rw[d.1 h];simp[mD,CH]
theorem My(x:aC)(hx:aL x<=4194304)(w r:η):(Fp x=μ->rh FU x w r=θ (0,w||mD x,r))/\(Fp x=ν->∃b,rh FU x w r=θ (1,b,ν)):=by
 have a:=VU x hx r x [] FU w aA2 aA4;unfold rh;rw[SO x hx,aR,QZ];cases c:XY x with
 |true=>exact⟨λh=>by simp at h,λ_=>⟨w,by rw[aM]⟩⟩
 |false=>exact a
theorem index1(c:ζ)(f:aC):(cO f [c]= -1/\cJ c f=[f])\/(0<=cO f [c]/\cO f [c]<aL f/\cJ c f=f.take (cO f [c]).toNat::cJ c (f.drop ((cO f [c]).toNat+1))):=by
 induction f with
 |nil=>exact .inl ⟨Τ,Τ⟩
 |cons b l e=>
  rw[qm];by_cases h:b=c
  ·subst h;right;rw[aB aA2,ayt];refine⟨eZ _,by simp only[cM];omega,aA2⟩
  ·rw[aA (by simpa using λx=>h x.symm),vr c b l h];rcases e with⟨d,a⟩|⟨d,a,g⟩
   ·left;rw[aB d,a];exact⟨Τ,Τ⟩
   ·right;rw[aA aU,g];have i:(cO l [c]+1).toNat=(cO l [c]).toNat+1:=aA0;refine⟨aA0,by simp;omega,?_⟩;rw[i];simp[db]
theorem yj(n:Nat):∀f d (w r),aL f<=n->n<d->n<=4194304->
  ∃w' f' k,((aby FU [46] 0 d w r f).bind λg=>dA (λc=>((rh FU c.2.2 c.1 c.2.1).bind λa=>(if a.1=0 then θ (a.2.1,a.2.2,c.2.2,0)else θ (a.2.1,a.2.2,c.2.2,a.1)))) (λq=>θ q) g)=θ (w',(if(cJ 46 f).all Fp=μ then r else ν),f',k)/\
   (k=if(cJ 46 f).all Fp=μ then 0 else 1)/\((cJ 46 f).all Fp=μ->w'=(w||(cJ 46 f).any mD)):=by
 induction n with
 |zero=>intro f d w r t s m;obtain⟨d,rfl⟩:=cB d;obtain rfl:f=[]:=qR aU;have e:cO [] [46]= -1:=Τ;rw[aeb,abw,aS aA2,e,aB aA1,aR,lB];obtain⟨b,l⟩:=(My [] aA2 w r).2 Τ;simp only;rw[l];exact⟨b,[],1,Τ,Τ,λh=>absurd h aA1⟩
 |succ n p=>
  intro f d w r t s m;obtain⟨d,rfl⟩:=cB d;rw[aeb,abw,aS aU];rcases index1 46 f with⟨v,o⟩|⟨v,o,u⟩
  ·rw[aB aU,aR,lB,o,Jg];simp only;have i:=My f aU w r;cases j:Fp f with
   |true=>rw[i.1 j];exact⟨_,_,0,Τ,Τ,λ_=>by simp⟩
   |false=>obtain⟨b,l⟩:=i.2 j;rw[l];exact⟨b,_,1,Τ,Τ,λh=>by cases h⟩
  ·have B:cO f [46]+0=cO f [46]:=by omega
   have A:(cO f [46]+((γ ([46]:aC):Nat):Int)).toNat=(cO f [46]).toNat+1:=aA3;rw[aA aU,B,aS (bW _ aU aU),aS aU,u,Jg];have i:=My (f.take (cO f [46]).toNat) aB3 w r;cases j:Fp (f.take (cO f [46]).toNat)with
   |true=>rw[i.1 j,aR,aS (bW _ aA3 aA3),aS aA3,A];obtain⟨w',f',k,z,y,x⟩:=p (f.drop ((cO f _).toNat+1)) d (w||mD (f.take (cO f [46]).toNat)) r aB1 aU aU;exact⟨w',f',k,z,y,λh=>by rw[x h,Xr,CH]⟩
   |false=>obtain⟨b,l⟩:=i.2 j;rw[l,aR];exact⟨b,_,1,Τ,Τ,λh=>by cases h⟩
def JL(s:aC):η:=decide (1<=aL s)&&decide (aL s<=255)&&(cJ 46 s).all Fp&&(cJ 46 s).any mD
theorem NL(s:aC)(e:aL s<=4194304):aqk FU s=θ (JL s):=by
 unfold aqk JL;by_cases d:(aL s:Int)<1
 ·rw[aB d,show decide (1<=aL s)=ν by(rw[bK];omega)];rfl
 ·rw[aA d,show decide (1<=aL s)=μ by(rw[aX];omega),aR];by_cases c:255<(aL s:Int)
  ·rw[aE c,show decide (aL s<=255)=ν by(rw[bK];omega)];rfl
  ·rw[aD c,show decide (aL s<=255)=μ by(rw[aX];omega)];obtain⟨w',f',k,g,b,f⟩:=yj (γ s) s FU ν ν (dK _) aA4 e;unfold atl atk;rw[aR,aR];unfold adj;rw[aA aA2,aR,lB,g,aR];cases a:(cJ 46 s).all Fp with
   |true=>rw[b,a,aB rfl,f a];simp
   |false=>rw[a]at b;rw[b];simp
open Go.Lib renaming cut → eF, index → cO, itoa → gK
open UInt8 renaming ofNat → Gg
theorem iw(c:ζ):((axx FU c).bind λb=>(bif (!b)then((YE FU c).bind λa=>(bif (!a)then θ (!decide (c=45))else θ ν))else θ ν))=θ (!jW c):=by
 rw[Us,zR];unfold jW;by_cases h:c=45
 ·subst h;rfl
 ·rw[show(c==45)=ν by simpa using h,aD h];cases px c<;>cases fZ c<;>rfl
theorem Q8(x:aC)(hx:aL x<=4194304)(l:aC):∀p a w,x=p++l->aL l<a->
  wg FU x a w (γ p)=θ (if l.all jW=μ then .inl (w||mD l)else .inr (ν,ν)):=by
 induction l with
 |nil=>intro p a w h f;obtain⟨a,rfl⟩:=cB a;rw[gH]at h;rw[bgv,atv,aA aC6];simp[mD]
 |cons c l i=>
  intro p a w h f;obtain⟨a,rfl⟩:=cB a;have j:=bA aL h;simp at j f;have g:0<=(aL p:Int)/\(aL p:Int)<(aL x:Int):=aA0;have k:Κ x (aL p:Int)=c:=aE1;have ok:bJ ((aL p:Int)+1):=bW _ aU aU;have d:=i (p++[c]) a (w|| !fZ c) aA6 aU;rw[<-Xk p c]at d;rw[bgv,atv,aB g.2];simp only[aS g,k];rw[iw,aR,Jg];cases m:jW c with
  |false=>rw[oF,aM,kY,aA (show¬(ν=μ)by decide)]
  |true=>
   have e:(bif w then gd (bJ ((aL p:Int)+1)) (wg FU x a μ ((aL p:Int)+1))else(YE FU c).bind λ(b:η)=>gd (bJ (aL p+1)) (wg FU x a (!b) (aL p+1)))=wg FU x a (w|| !fZ c) (aL p+1):=by
    cases w with
    |true=>rw[aM,aS ok,iU]
    |false=>rw[aG,zR,aR,aS ok,CI]
   rw[e,d];simp[mD,CH]
theorem Q9(x:aC)(hx:aL x<=4194304):bfh FU x=θ (if Fp x=μ then(μ,mD x)else(ν,ν)):=by
 have b:=Q8 x hx x [] FU ν aA2 aA4;have a:wg FU x FU ν 0=_:=b;unfold bfh;rw[SO x hx,aR,QZ];cases c:XY x with
 |true=>rw[aM];simp
 |false=>
  rw[a];cases x.all jW with
  |true=>simp
  |false=>simp
def lQ(x:aC):η:=decide (1<=aL x)&&decide (aL x<=3)&& !(decide (1<aL x)&&(Κ x 0==48))&&x.all fZ&&decide (mK x<=255)
theorem zp(x:aC)(hx:aL x<=15)(l:aC):∀p a,x=p++l->aL l<a->p.all fZ=μ->
  ajr FU x a (mK p) (γ p)=θ (if l.all fZ=μ then .inl (mK x)else .inr ν):=by
 induction l with
 |nil=>intro p a h f b;obtain⟨a,rfl⟩:=cB a;rw[gH]at h;rw[beo,arn,aA aC6,h];rfl
 |cons c l i=>
  intro p a h f b;obtain⟨a,rfl⟩:=cB a;have j:=bA aL h;simp at j f;have d:(0:Int)<=(aL p:Int)/\(aL p:Int)<(aL x:Int):=aA0;have m:Κ x (aL p:Int)=c:=aE1;have n:=uQ 14 p aU b;rw[beo,arn,aB d.2,aS d,m,zR,Jg];cases g:fZ c with
  |false=>rfl
  |true=>
   have k:=RY c g;rw[k.1,aS (bW _ aU aU),aS d,aS (bW _ aU aU),aS (bW _ aU aU)];have e:10*(mK p)+(c.toNat-48:Nat)=(mK (p++[c]):Int):=by rw[bcp];omega
   rw[e,Xk p c];exact i _ a aA6 aU (by rw[dZ,b];simpa using g)
theorem zq(x:aC):bda FU x=θ (lQ x):=by
 unfold bda lQ;by_cases i:(aL x:Int)<1
 ·rw[aB i,show decide (1<=aL x)=ν by(rw[bK];omega)];rfl
 ·rw[aA i,show decide (1<=aL x)=μ by(rw[aX];omega)];by_cases h:3<(aL x:Int)
  ·rw[aB h,show decide (aL x<=3)=ν by(rw[bK];omega)];rfl
  ·rw[aA h,show decide (aL x<=3)=μ by(rw[aX];omega)];have f:=zp x aU x [] FU aA2 aA4 Τ;have a:ajr FU x FU 0 (0:Int)=_:=f;have b:((ajr FU x FU (0:Int) (0:Int)).bind λ(e:(Int⊕η))=>dA (λ(d:Int)=>θ (decide (d<=(255:Int)))) (λq=>θ q) e)=θ (x.all fZ&&decide (mK x<=255)):=by
    rw[a,aR];cases j:x.all fZ with
    |false=>rfl
    |true=>simp;omega
   by_cases g:1<(aL x:Int)
   ·rw[aB g,aS aU,show decide (1<aL x)=μ by(rw[aX];omega)];by_cases c:Κ x 0=48
    ·rw[aE c,show(Κ x 0==48)=μ by simpa using c];rfl
    ·rw[aD c,show(Κ x 0==48)=ν by simpa using c,b];rfl
   ·rw[aA g,show decide (1<aL x)=ν by(rw[bK];omega),b];rfl
def dg(n:Fin 10):ζ:=Gg (48+n.val)
theorem Ws:∀c:ζ,fZ c=μ->∃n:Fin 10,c=dg n:=fP _ aA5
theorem oct1:∀a:Fin 10,jP [dg a]=lQ [dg a]:=aA5
theorem oct2:∀a b:Fin 10,jP [dg a,dg b]=lQ [dg a,dg b]:=aA5
theorem oct3:∀a b c:Fin 10,jP [dg a,dg b,dg c]=lQ [dg a,dg b,dg c]:=aA5
theorem ml:∀n:Fin 256,γ (gK n.val)<=3:=aA5
theorem uD(x:aC):jP x=lQ x:=by
 cases f:x.all fZ with
 |false=>rw[Vj x f,lQ,f];simp
 |true=>
  have e:=aT.1 f
  match x,f,e with
  |[],_,_=>rfl
  |[a],_,e=>obtain⟨n,rfl⟩:=Ws a (e a aA2);exact oct1 n
  |[a,b],_,e=>obtain⟨n,rfl⟩:=Ws a (e a aA2);obtain⟨m,rfl⟩:=Ws b (e b aA2);exact oct2 n m
  |[a,b,c],_,e=>obtain⟨n,rfl⟩:=Ws a (e a aA2);obtain⟨m,rfl⟩:=Ws b (e b aA2);obtain⟨k,rfl⟩:=Ws c (e c aA2);exact oct3 n m k
  |a::b::c::d::l,f,_=>
   by_cases g:mK (a::b::c::d::l)<=255
   ·refine mX _ (.inr λh=> ?_);have:=ml ⟨mK (a::b::c::d::l),aA0⟩;rw[<-h]at this;simp only[cM]at this;omega
   ·exact mX _ (.inl (.inr aU))
theorem nj(X:δ aC)(o:aL X<=4194305)(hx:∀x∈X,aL x<=4194304)(q:δ aC):∀p c (b word),X=p++q->aL q<c->
  asl FU X c b word (γ p)=θ (if q.all Fp=μ then .inl (b&&q.all lQ,word||q.any mD)else .inr ([],ν)):=by
 induction q with
 |nil=>intro p c b word h i;obtain⟨c,rfl⟩:=cB c;rw[gH]at h;rw[bio,awh,aA aC6];simp
 |cons a q j=>
  intro p c b word h i;obtain⟨c,rfl⟩:=cB c;have k:=bA aL h;simp at k i;have g:0<=(aL p:Int)/\(aL p:Int)<(aL X:Int):=aA0;have l:el X (aL p:Int)=a:=aB2;have m:aL a<=4194304:=hx a aA6;have ok:bJ ((aL p:Int)+1):=bW _ aU aU;have d:=λf w=>j (p++[a]) c f w aA6 aU;rw[show(γ (p++[a]):Int)=(aL p:Int)+1 by simp]at d;rw[bio,awh,aB g.2,aS g,aS g,l,Q9 a m,aR,Jg];cases n:Fp a with
  |false=>rw[aA (show¬(ν=μ)by decide)];simp
  |true=>
   rw[aB rfl];have e:(bif word then θ μ else θ (mD a))=θ (word||mD a):=by cases word<;>rfl
   rw[e,aR];cases b with
   |true=>rw[aS g,aS g,zq,aR,aS ok,d];simp[CH]
   |false=>rw[aS ok,d];simp[CH]
def vB(s:aC):η:=decide (2<=aL s)&&(Κ s 0==91)&&(Κ s (aL s-1)==93)
def eM(s:aC):aC×η:=
 if vB s=μ then(if(yW (sub s 1 (aL s-1))).2=μ then([91]++(yW (sub s 1 (aL s-1))).1++[93],μ)else([],ν))
 else if Kd s=μ then(s,μ)else if JL s=μ then(cN s,μ)else([],ν)
theorem ae(s:aC)(c:aL s<=4194304):(if 2<=(aL s:Int)then(gd (0<=(0:Int)/\0<(aL s:Int))<|(if(Κ s 0)=91 then(gd (bJ (aL s-1))<|(gd (0<=(aL s-(1:Int))/\(aL s-1)<(aL s:Int))<|some (decide ((Κ s (aL s-1))=93))))else θ ν))else θ ν)=θ (vB s):=by
 unfold vB;by_cases b:2<=(aL s:Int)
 ·rw[aB b,show decide (2<=aL s)=μ by(rw[aX];omega),aS aU];by_cases a:Κ s 0=91
  ·rw[aB a,show(Κ s 0==91)=μ by simpa using a,aS (bW _ aU aU),aS aU];rfl
  ·rw[aA a,show(Κ s 0==91)=ν by simpa using a];rfl
 ·rw[aA b,show decide (2<=aL s)=ν by(rw[bK];omega)];rfl
variable{s:aC}
theorem SI(h:vB s=μ):2<=aL s:=by unfold vB at h;simp at h;exact h.1.1
theorem Fc(s:aC):γ (yW s).1<=60000000:=by
 unfold yW;by_cases a:39<aL s
 ·rw[aB a];simp
 ·rw[aA a];have f:=BG s [58,58];have e:=Eu (eF s [58,58]).1 aU;have d:=Eu (eF s [58,58]).2.1 aU;split
  ·have c:=bjx s;have b:=av [58] 4 (zA s).1 c.2;simp at b⊢;omega
  ·split
   ·simp
   ·simp;omega
theorem bke(s:aC)(a:aL s<=4194304):ed FU s=θ (eM s):=by
 unfold ed eM;rw[ae s a,aR];cases b:vB s with
 |true=>
  have g:=SI b;have e:=Fc (sub s 1 ((aL s:Int)-1));rw[aM,aS (bW _ aU aU),aS aU,IV,aR,aB rfl];cases f:(yW (sub s 1 ((aL s:Int)-1))).2 with
  |false=>rfl
  |true=>rw[eY,aG,aS aA3,aS aA3,aB rfl]
 |false=>
  rw[BX];cases c:Kd s with
  |true=>rfl
  |false=>
   rw[NL s a];cases d:JL s with
   |true=>rw[du s a];rfl
   |false=>rfl
theorem E2(l:δ aC)(m:Nat)(h:∀x∈l,aL x<=m):(l.map aL).sum<=m*aL l:=by
 induction l with
 |nil=>simp
 |cons a l b=>have d:=h a gQ;have c:=b λx hx=>h x (fB _ hx);rw[tR,CE,cM,Nat.mul_succ];omega
theorem WT(g:aC)(h:qM g=μ):aL g<=4:=by unfold qM at h;simp at h;exact h.1.2
theorem Bn(x:aC)(h:(zA x).2=μ):aL x+1<=5*γ (zA x).1:=by
 cases a:(cJ 58 x).all qM with
 |false=>rw[xW x a]at h;cases h
 |true=>rw[sN x a,Gk];have d:=E2 _ 4 λy b=>WT y (aT.1 a y b);have c:=Lj 58 x;omega
theorem Ph(x:aC)(h:(iA x).2=μ):aL x<=5*γ (iA x).1:=by
 by_cases hx:x=[]
 ·subst hx;simp
 ·rw[bjy x hx]at h⊢;have:=Bn x h;omega
theorem Wf:∀s:aC,cO s [58,58]≠-1->cO s [58,58]+2<=aL s
 |[],h=>absurd Τ h
 |b::l,h=>by
  rw[qm]at h⊢;by_cases a:[58,58].isPrefixOf (b::l)=μ
  ·rw[aB a];cases l with
   |nil=>simp at a
   |cons c l=>simp;omega
  ·rw[aA a]at h⊢;by_cases d:cO l [58,58]= -1
   ·rw[aB d]at h;exact absurd Τ h
   ·have:=Wf l d;rw[cM];omega
theorem G0(s:aC):(G1 s).2=(yW s).2/\((yW s).2=μ->(G1 s).1=(yW s).1):=by
 unfold G1 yW;by_cases b:39<aL s
 ·rw[aB b];refine⟨?_,λh=>by cases h⟩;have c:s≠[]:=by intro e;subst e;simp at b
  split
  ·rw[bjy s c];cases k:(zA s).2 with
   |false=>rfl
   |true=>have:=Bn s k;rw[Je,bK];omega
  ·rename_i a;unfold UG;have f:cO s [58,58]≠-1:=by intro e;rw[sU,aB e]at a;exact a Τ
   have g:=Wf s f;have n:γ (eF s [58,58]).1+2+γ (eF s [58,58]).2.1=aL s:=by rw[sU,aA f];simp;omega
   cases j:(iA (eF s _).1).2 with
   |false=>rfl
   |true=>
    cases i:(iA (eF s _).2.1).2 with
    |false=>rfl
    |true=>have m:=Ph _ j;have l:=Ph _ i;rw[aE aU];rfl
 ·rw[aA b];split
  ·by_cases d:s=[]
   ·subst d;exact⟨Τ,λh=>by cases h⟩
   ·rw[bjy s d];exact⟨Τ,λ_=>rfl⟩
  ·unfold UG;split<;>exact⟨Τ,λ_=>rfl⟩
theorem py(c:ζ)(p:ζ->η):∀s:aC,(∀x∈cJ c s,x.all p=μ)->∀b∈s,p b=μ\/b=c
 |[],_,b,e=>by simp at e
 |d::l,h,b,e=>by
  by_cases g:d=c
  ·subst g;rw[ayt]at h;rcases aQ.1 e with rfl|e
   ·exact .inr Τ
   ·exact py d p l (λx hx=>h x (fB _ hx)) b e
  ·rw[vr c d l g]at h;cases hx:cJ c l with
   |nil=>exact absurd hx (Dh c l)
   |cons y r=>
    rw[hx]at h;have f:=h _ gQ;rw[dZ,lX]at f;rcases aQ.1 e with rfl|e
    ·left;simpa using f.1
    ·refine py c p l (λx a=> ?_) b e;rw[hx]at a;rcases aQ.1 a with rfl|a
     ·exact f.2
     ·exact h x (fB _ a)
theorem ou:∀c:ζ,fZ c=μ->eQ c=c:=fP _ aA5
theorem BD:∀c:ζ,fZ c=μ->jW c=μ/\c≠45:=fP _ aA5
theorem bjn(x:aC)(h:lQ x=μ):1<=aL x/\γ x<=3/\x.all fZ=μ:=by unfold lQ at h;simp only[lX,aX]at h;exact⟨h.1.1.1.1,h.1.1.1.2,h.1.2⟩
theorem at_mem(x:aC)(k:Nat)(h:k<aL x):Κ x k∈x:=by simp[Κ,h]
theorem ki(x:aC)(h:lQ x=μ):Fp x=μ:=by obtain⟨f,j,e⟩:=bjn x h;have a:=aT.1 e;have i:=(BD _ (a _ (at_mem x 0 aU))).2;have b:=(BD _ (a _ (at_mem x (aL x-1) aU))).2;have g:(((aL x-1:Nat)):Int)=(aL x:Int)-1:=aA0;rw[g]at b;unfold Fp;rw[aE f,aE aU,show(Κ x 0==45)=ν by simpa using i,show(Κ x ((aL x:Int)-1)==45)=ν by simpa using b,aT.2 λc d=>(BD c (a c d)).1];rfl
theorem Ec(s:aC)(h:∀b∈s,eQ b=b):cN s=s:=by
 conv=>rhs;rw[<-List.map_id s]
 exact er λb a=>h b a
theorem bfx(s:aC)(m:aL s<=4194304):qq FU s=θ (eM s):=by
 unfold qq eM;rw[ae s m,aR];cases w:vB s with
 |true=>
  have r:=SI w;have u:=Fc (sub s 1 ((aL s:Int)-1));have l:γ (sub s 1 ((aL s:Int)-1))<=4194304:=aC4;obtain⟨A,z⟩:=G0 (sub s 1 ((aL s:Int)-1));rw[aM,aS (bW _ aU aU),aS aU,ye _ l,aR,aB rfl,A];cases v:(yW (sub s 1 ((aL s:Int)-1))).2 with
  |false=>rfl
  |true=>rw[eY,aG,z v,aS aA3,aS aA3,aB rfl]
 |false=>
  have g:=pz 46 s;have n:=nj (cJ 46 s) aU (λx hx=>qT (g.2 x hx) m) (cJ 46 s) [] FU (decide ((γ (cJ 46 s):Int)=4)) ν aA2 aA4;have j:asl FU (cJ 46 s) FU (decide ((γ (cJ 46 s):Int)=4)) ν (0:Int)=_:=n;rw[pieces_eq s 46 m,aR,j,aR,YA s aU];have o:=Lj 46 s;cases a:(cJ 46 s).all Fp with
  |false=>
   have d:Kd s=ν:=by
    cases d:Kd s with
    |false=>rfl
    |true=>exfalso;unfold Kd at d;simp only[lX]at d;have:(cJ 46 s).all Fp=μ:=aT.2 λx hx=>ki x (by rw[<-uD];exact aT.1 d.1.2 x hx);rw[a]at this;cases this
   have t:JL s=ν:=by unfold JL;rw[a];simp
   rw[d,t];rfl
  |true=>
   rw[aB rfl,lB];simp only;cases d:Kd s with
   |true=>
    have e:=d;unfold Kd at e;simp only[lX,aX]at e;have c:(cJ 46 s).all lQ=μ:=aT.2 λx hx=>by rw[<-uD];exact aT.1 e.1.2 x hx
    have k:cN s=s:=Ec s λb q=>by
     rcases py 46 fZ s (λx hx=>(bjn x (aT.1 c x hx)).2.2) b q with h|h
     ·exact ou b h
     ·subst h;rfl
    rw[c,aE aU,aA aU,k];cases(cJ 46 s).any mD<;>rfl
   |false=>
    have f:(decide ((γ (cJ 46 s):Int)=4)&&(cJ 46 s).all lQ)=ν:=by
     cases p:(decide ((γ (cJ 46 s):Int)=4)&&(cJ 46 s).all lQ)with
     |false=>rfl
     |true=>
      exfalso;simp only[lX,aX]at p;have u:=E2 (cJ 46 s) 3 λx hx=>(bjn x (aT.1 p.2 x hx)).2.1;have i:(cJ 46 s).all jP=μ:=aT.2 λx hx=>by rw[uD];exact aT.1 p.2 x hx
      have:Kd s=μ:=by unfold Kd;rw[i,aE (show γ s<=15 by omega),aE (show(cJ 46 s).length=4 by omega)];rfl
      rw[d]at this;cases this
    have y:1<=aL s:=by
     cases s with
     |nil=>simp[cJ,Fp]at a
     |cons _ _=>simp
    rw[f];unfold JL;rw[a,aE y];by_cases r:255<(aL s:Int)
    ·rw[aB r,aD (show¬γ s<=255 by omega)];rfl
    ·rw[aA r,aE (show γ s<=255 by omega)];cases(cJ 46 s).any mD<;>rfl
theorem Fa(s:aC):γ (eM s).1<=60000002+aL s:=by
 have:=Fc (sub s 1 (aL s-1));unfold eM;split
 ·split
  ·simp;omega
  ·simp
 ·split
  ·show γ s<=_;omega
  ·split
   ·simp[cN]
   ·simp
open Go.Lib renaming indexAny → Cz
theorem step_eq(s:aC)(f:γ s<=4194304)(k:Nat):bip FU s k=θ (if γ s<=k then(0,(γ s:Int),6)else if dQ (Κ s k)=μ then(0,k,5)else if Κ s k=92 then(if γ s<=k+1 then(0,γ s,6)else if au (Κ s ((k+1:Nat)))=μ then(2,0,0)else(0,k,5))else(1,0,0)):=by
 unfold bip;by_cases h:γ s<=k
 ·rw[aB aU,aB h]
 ·rw[aA aU,aA h,dU,qp,aR];cases g:dQ _ with
  |true=>rw[aM,aB rfl]
  |false=>
   rw[aG,aA (show¬(ν=μ)by decide),dU];by_cases c:Κ s (k:Int)=92
   ·rw[aB c,aB c,dU];by_cases e:γ s<=k+1
    ·rw[aB aU,aB e]
    ·rw[aA aU,aA e,dU,aS aU,mL];have d:au (Κ s _)=(decide (32<=Κ s (k+1:Nat))&&decide (Κ s (k+1:Nat)<=126)):=Τ;by_cases b:Κ s (k+1:Nat)<32
     ·rw[aB b,d,aD (UInt8.not_le.2 b)];rfl
     ·rw[aA b,dU,aS aU,d,aE (UInt8.not_lt.1 b)];by_cases a:126<Κ s (k+1:Nat)
      ·rw[aE a,aD (UInt8.not_le.2 a)];rfl
      ·rw[aD a,aE (UInt8.not_lt.1 a)];rfl
   ·rw[aA c,aA c]
theorem ctl34:dQ 34=ν:=aA1
theorem ctl92:dQ 92=ν:=aA1
theorem I7(s:aC)(m:γ s<=4194304)(n:Nat):∀k b (a:aC),γ s-k<=n->n<b->k<=γ s->γ a<=k->
  art FU s b a k=θ (fT (s.drop k) k a):=by
 have f6:¬((6:ζ)=0):=aA1;have f5:¬((5:ζ)=0):=aA1;have c:¬(ν=μ):=aA1;induction n with
 |zero=>intro k b a o r q t;obtain⟨b,rfl⟩:=cB b;obtain rfl:k=γ s:=aA0;have st:=step_eq s m (γ s);rw[aB (dK _)]at st;rw[wj,ej,st,aR];simp only;rw[aA f6,YN];rfl
 |succ n l=>
  intro k b a o r q t;obtain⟨b,rfl⟩:=cB b;have st:=step_eq s m k;by_cases p:k<γ s
  ·rw[aA (show¬γ s<=k by omega)]at st;rw[yZ s k p,mQ];by_cases f:Κ s (k:Int)=34
   ·rw[f,ctl34,aA c,aA (show¬((34:ζ)=92)by decide)]at st;rw[wj,ej,st,aR];simp only;rw[aB trivial,aB trivial,aS aU,aR,aE f,aM,dU,aB f];rfl
   ·rw[aA f];by_cases i:Κ s (k:Int)=92
    ·rw[i,ctl92,aA c,aB rfl]at st;rw[aB i];by_cases g:γ s<=k+1
     ·have e:s.drop (k+1)=[]:=(bhw s (k+1)).2 g;have v:γ s=k+1:=by omega
      rw[aB g]at st;rw[wj,ej,st,aR];simp only;rw[aA f6,aB e,v]
     ·rw[aA g]at st;rw[aA (λh=>g ((bhw s (k+1)).1 h)),Qm];cases d:au (Κ s ((k+1:Nat):Int))with
      |false=>rw[d,aA c]at st;rw[wj,ej,st,aR];simp only;rw[aA f5,aA c]
      |true=>have j:(k:Int)+2-1=((k+1:Nat):Int):=aA0;have u:(k:Int)+2=((k+2:Nat):Int):=aA0;rw[d,aB rfl]at st;rw[wj,ej,st,aR];simp only;rw[aB trivial,aA (show¬((2:Int)=1)by decide),aR,aG,dU,dU,j,aS aU,dU,dU,u,l (k+2) b _ aU aU aU aA3,Gj,aB trivial]
    ·rw[aA i];cases d:dQ (Κ s (k:Int))with
     |true=>rw[d,aB rfl]at st;rw[wj,ej,st,aR];simp only;rw[aA f5,aB trivial]
     |false=>have j:(k:Int)+1-1=(k:Int):=aA0;rw[d,aA c,aA i]at st;rw[wj,ej,st,aR];simp only;rw[aB trivial,aB trivial,aS aU,aR,aD f,aG,aA c,dU,dU,j,aS aU,dU,dU,mL,l (k+1) b _ aU aU aU aA3]
  ·obtain rfl:k=γ s:=by omega
   rw[aB (dK _)]at st;rw[wj,ej,st,aR];simp only;rw[YN];rfl
theorem oV(s:aC)(e:γ s<=4194304)(i:Int):aqa FU s i=θ (tE s i):=by
 unfold aqa bll tE;by_cases d:i<0
 ·rw[aB d,aB (show i<0\/γ s<i from .inl d)];rfl
 ·rw[aA d];by_cases c:γ s<i
  ·rw[aE c,aB (show i<0\/γ s<i from .inr c)];rfl
  ·rw[aD c,aA (show¬(i<0\/γ s<i)by omega)];by_cases b:i=(γ s:Int)
   ·rw[aB b,aB (show i=(γ s:Int)\/Κ s i≠34 from .inl b)];rfl
   ·rw[aA b,dU];by_cases a:Κ s i=34
    ·rw[aE a,aA (by simp[b,a]),dU];obtain⟨k,rfl⟩:∃k:Nat,i=k:=⟨i.toNat,aA0⟩;exact I7 s e (γ s) (k+1) FU [] aU aA4 aU aA2
    ·rw[aD a,aB (.inr a)];rfl
theorem zJ(n:Nat):∀l k a,γ l<=n->γ (fT l k a).1<=γ a+γ l/\((fT l k a).2.2=0->k+1<=(fT l k a).2.1/\(fT l k a).2.1<=((k+γ l:Nat))):=by
 induction n with
 |zero=>intro l k a f;obtain rfl:l=[]:=qR aU;exact⟨by simp[fT],λh=>absurd h (show¬(6=0)by decide)⟩
 |succ n d=>
  intro l k a f;cases l with
  |nil=>exact⟨by simp[fT],λh=>absurd h (show¬(6=0)by decide)⟩
  |cons c l=>
   simp at f;rw[mQ];by_cases i:c=34
   ·rw[aB i];exact⟨aA2,λ_=>⟨aA2,by simp;omega⟩⟩
   ·rw[aA i];by_cases g:c=92
    ·rw[aB g];by_cases b:l=[]
     ·rw[aB b];exact⟨aA2,λh=>absurd h (show¬(6=0)by decide)⟩
     ·rw[aA b];have e:=bN.2 b;cases j:au _ with
      |true=>rw[aB rfl];have:=d (l.drop 1) (k+2) (a++[Κ l 0]) aB1;rw[cE,eG,dY]at this;exact⟨by simp only[cM];omega,λh=>⟨by have:=(this.2 h).1;omega,by have:=(this.2 h).2;simp only[cM];omega⟩⟩
      |false=>rw[aA aA1];exact⟨aA2,λh=>absurd h (show¬(5=0)by decide)⟩
    ·rw[aA g];cases j:dQ c with
     |true=>rw[aB rfl];exact⟨aA2,λh=>absurd h (show¬(5=0)by decide)⟩
     |false=>rw[aA aA1];have:=d l (k+1) (a++[c]) aU;rw[cE,eG]at this;exact⟨by simp;omega,λh=>⟨by have:=(this.2 h).1;omega,by have:=(this.2 h).2;simp;omega⟩⟩
theorem zI(s:aC)(k:Nat)(a:Κ s k=34)(b:k<γ s):γ (tE s k).1<=γ s/\((tE s k).2.2=0->k+2<=(tE s k).2.1/\(tE s k).2.1<=γ s):=by unfold tE;rw[aA aU,aA (by rintro(h|h);omega;exact h a)];have e:((k:Int).toNat+1)=k+1:=aA0;rw[e];have:=zJ _ (s.drop (k+1)) (k+1) [] (dK _);rw[dY,iH]at this;exact⟨aA0,λh=>⟨by have:=(this.2 h).1;omega,by have:=(this.2 h).2;omega⟩⟩
theorem vp(s:aC)(a:γ s<=4194304)(i:Int):eo FU (s,i)=θ (s,((bT bR s i):Int)):=by unfold eo;rw[nT s a];rfl
theorem nP(s:aC)(i:Int):wk FU (s,i)=θ (decide (γ s<=i)):=rfl
def cV(s:aC)(k:Nat)(b:ζ):η:=decide (k<γ s)&&(Κ s k==b)
theorem JN(s:aC)(k:Nat)(b:ζ):Iu FU (s,k) b=θ (cV s k b):=by
 unfold Iu cV;rw[nP];by_cases h:k<γ s
 ·rw[aD (show¬(γ s:Int)<=k by omega),aS (by simp only;omega),aE h];rfl
 ·rw[aE (show(γ s:Int)<=k by omega),aD h];rfl
theorem oO(s:aC)(a:γ s<=4194304)(i:Int):ra FU s i=θ ((bT cL s i):Int):=by unfold ra;rw[Lo s aU];rfl
theorem Ci(p:ζ->η)(s:aC)(k:Nat)(h:k<=γ s):k<=bT p s k:=by unfold bT;rw[vy k _ h];omega
theorem tU(s:aC)(a:γ s<=4194304)(k:Nat)(b:k<=γ s):afw FU (s,k)=θ (sub s k ((bT cL s (k:Int))),(s,((bT cL s (k:Int):Nat):Int))):=by have d:=Ci cL s k b;have c:=jD cL s k;unfold afw;simp only;rw[oO s a,aR,aS aU]
theorem bce(s:aC)(a b:Nat)(h:b<=γ s)(d:a<=b):sub s a b=[]↔b=a:=by
 have:=Hw s a b;constructor
 ·intro c;rw[c]at this;simp at this;omega
 ·intro c;apply qR;rw[this];omega
theorem Yl(c:ζ)(l:aC):(if 0<=dM (·==c) l then dM (·==c) l else γ l)=(cD (λb=> !(b==c)) l):=by
 rcases qf (·==c) l with⟨d,a⟩|⟨d,a,e⟩
 ·rw[aA aU,a]
 ·rw[aB d,e]
theorem XQ(c:ζ):(λb=>[c].contains b)=(·==c):=by simp;rfl
theorem TS(s:aC)(i:γ s<=4194304)(k:Nat)(j:k<=γ s)(c:ζ)(g:c.toNat<128):BZ FU s k [c]=θ ((k+cD (λb=> !(b==c)) (s.drop k):Nat):Int):=by
 have e:((k:Nat):Int).toNat=k:=aA0;have l:γ (s.drop k)=γ s-k:=dY;have a:=Yl c (s.drop k);have f:Cz (s.drop k) [c]=dM (·==c) (s.drop k):=by rw[azl,XQ]
 have d:=qf (·==c) (s.drop k);unfold BZ;rw[aS aU,e,aS ⟨aA0,aA2,aE2⟩,f];by_cases h:(0:Int)<=dM (·==c) (s.drop k)
 ·rw[aB h]at a⊢;rw[aS (bW _ aU aU),a];rfl
 ·rw[aA h]at a⊢;congr 1;omega
def kB(s:aC)(k:Nat):aC×Int×ζ:=
 if cV s k 34=μ then tE s k
 else if cV s k 91=μ then
  (if(eM (sub s k (min ((k+cD (λb=> !(b==93)) (s.drop k):Nat)+1) (γ s)))).2=μ then
   ((eM (sub s k (min ((k+cD (λb=> !(b==93)) (s.drop k):Nat)+1) (γ s)))).1,((k+cD (λb=> !(b==93)) (s.drop k):Nat))+1,0)else([],k,5))
 else if bT cL s k=k then([],k,5)else(sub s k ((bT cL s (k:Int))),((bT cL s (k:Int))),0)
theorem wL{b:ζ}(h:cV s k b=μ):k<γ s/\Κ s k=b:=by unfold cV at h;simp at h;exact h
theorem OL(s:aC)(e:γ s<=4194304)(k:Nat)(c:k<=γ s):γ (kB s k).1<=90000000/\((kB s k).2.2=0->k+1<=(kB s k).2.1/\(kB s k).2.1<=γ s+1):=by
 unfold kB;have g:=Ci cL s k c;have f:=jD cL s k;have a:=Kf (λb=> !(b==93)) (s.drop k);rw[dY]at a;split
 ·rename_i h;have:=zI s k (wL h).2 (wL h).1;exact⟨aA0,λh=>⟨by have:=(this.2 h).1;omega,by have:=(this.2 h).2;omega⟩⟩
 ·split
  ·split
   ·have d:=Fa (sub s k (min ((k+cD (λb=> !(b==93)) (s.drop k):Nat)+1:Int) (γ s)));rw[Hw]at d;exact⟨by simp only;omega,λ_=>⟨by simp only;omega,by simp only;omega⟩⟩
   ·exact⟨aA2,λh=>absurd h (show¬(5=0)by decide)⟩
  ·split
   ·exact⟨aA2,λh=>absurd h (show¬(5=0)by decide)⟩
   ·rename_i h;exact⟨by simp only[Hw];omega,λ_=>⟨by simp only;omega,by simp only;omega⟩⟩
theorem Lv(s:aC)(k:Nat)(b:ζ):(if k<(γ s:Int)then(gd (0<=(k:Int)/\k<(γ s:Int))<|some (decide ((Κ s k)=b)))else θ ν)=θ (cV s k b):=by
 unfold cV;by_cases h:k<γ s
 ·rw[aB aU,aS aU,aE h];rfl
 ·rw[aA aU,aD h];rfl
theorem C3(s:aC)(e:γ s<=4194304)(k:Nat)(c:k<=γ s):avy FU s FU k=θ ((k+cD (λb=> !(b==93)) (s.drop k):Nat):Int):=by
 refine mV _ s _ ?_ ?_ ?_ (γ s-k) k FU aU aA4
 ·intro d;rw[azc,amw,aA aU];rfl
 ·intro d k c h;have a:Κ s k=93:=by simpa using h
  rw[azc,amw,aB aU,aS aU,aR,aE a,eY,aG]
 ·intro d k c h;have a:¬Κ s k=93:=by simpa using h
  rw[azc,amw,aB aU,aS aU,aR,aD a,oF,aM,dU]
theorem C4(s:aC)(d:γ s<=4194304)(k:Nat)(e:k<=γ s):bfg FU s k=θ (kB s k):=by
 have j:=Ci cL s k e;have i:=jD cL s (k:Int);have a:=Kf (λb=> !(b==93)) (s.drop k);rw[dY]at a;unfold bfg kB;rw[Lv,aR,Lv];cases g:cV s k 34 with
 |true=>rw[oV s d];rfl
 |false=>
  rw[aG,aR,aA (show¬(ν=μ)by decide)];cases f:cV s k 91 with
  |true=>
   rw[aM,C3 s d k e,aR,dU,aS aU,bfx _ aC4,aR,aB rfl];cases h:(eM _).2 with
   |false=>rfl
   |true=>rw[eY,aG,dU,aR,Rt,aB rfl]
  |false=>
   rw[aG,aR,lB,aut s aU,aR,aA (show¬(ν=μ)by decide)];by_cases c:bT cL s (k:Int)=k
   ·rw[aB aU,aB c]
   ·rw[aA aU,aA c,aS aU]
theorem Eb(l:aC):cN l=[]↔l=[]:=by unfold cN;simp
theorem bji(p:ζ->η)(s:aC)(y:Nat):bT p s (y+1)=bT p s ((y+1:Nat)):=rfl
def zPrm:aC×aC×η:=([],[],ν)
def yX(s:aC)(b:Nat):PQ×Int×ζ×(aC×Int):=
 if bT cL s b=b then(zPrm,b,5,(s,b))
 else if cV s (bT bR s ((bT cL s (b:Int)))) 61=ν then((cN (sub s b ((bT cL s (b:Int)))),[],ν),0,0,(s,((bT bR s ((bT cL s (b:Int):Nat):Int)))))
 else if(kB s (bT bR s ((bT bR s ((bT cL s (b:Int):Nat):Int)+1:Nat)))).2.2=0 then((cN (sub s b ((bT cL s (b:Int)))),(kB s (bT bR s ((bT bR s ((bT cL s (b:Int):Nat):Int)+1:Nat)))).1,μ),0,0,(s,(kB s (bT bR s ((bT bR s ((bT cL s (b:Int):Nat):Int)+1:Nat)))).2.1))
 else(zPrm,(kB s (bT bR s ((bT bR s ((bT cL s (b:Int):Nat):Int)+1:Nat)))).2.1,(kB s (bT bR s ((bT bR s ((bT cL s (b:Int):Nat):Int)+1:Nat)))).2.2,(s,((bT bR s ((bT bR s ((bT cL s (b:Int):Nat):Int)+1:Nat):Int)))))
theorem WA(s:aC)(e:γ s<=4194304)(b:Nat)(o:b<=γ s):akt FU (s,b)=θ (yX s b):=by
 unfold akt yX;have d:=Ci cL s b o;have c:=jD cL s (b:Int);rw[tU s e b o,aR];simp only;generalize w:bT cL s (b:Int)=t at d c⊢;have l:=jD bR s (t:Int);have m:=Ci bR s t c;rw[du _ aC4,aR];by_cases j:t=b
 ·have:cN (sub s (b:Int) (t:Int))=[]:=(Eb _).2 ((bce s b t c d).2 j);rw[aB this,aB j,j];rfl
 ·have:¬cN (sub s (b:Int) (t:Int))=[]:=λh=>j ((bce s b t c d).1 ((Eb _).1 h));rw[aA this,aA j,vp s e,aR];generalize v:bT bR s (t:Int)=y at m l⊢;rw[JN,aR];cases q:cV s y 61 with
  |false=>rw[oF,aM,aB rfl]
  |true=>
   rw[eY,aG,aA (show¬(μ=ν)by decide),dU,vp s e,aR,bji];have a:=jD bR s (y+1:Nat);generalize u:bT bR s (y+1:Nat)=z at a⊢;have g:=Ci cL s z a;have f:=jD cL s z;have n:=Kf (λb=> !(b==93)) (s.drop z);rw[dY]at n;rw[JN,aR];unfold kB;cases r:cV s z 34 with
   |true=>
    rw[aM,aB rfl,wV s e,aR];by_cases k:(tE s z).2.2=0
    ·rw[aB k,aB k]
    ·rw[aA k,aA k];rfl
   |false=>
    rw[aG,aA (show¬(ν=μ)by decide),JN,aR];cases p:cV s z 91 with
    |true=>
     rw[aM,aB rfl,TS s e z a 93 aA1,aR];simp only;rw[dU,aS aU,bke _ aC4,aR];cases x:(eM (sub s (z:Int) (min ((z+cD (λb=> !(b==93)) (s.drop z):Nat)+1:Int) (γ s:Int)))).2 with
     |false=>rw[oF];rfl
     |true=>rw[eY,aG,dU,aB rfl,aB rfl]
    |false=>
     rw[aG,aA (show¬(ν=μ)by decide),tU s e z a,aR];simp only;by_cases i:bT cL s (z:Int)=z
     ·rw[aB ((bce s z _ f g).2 i),aB i,i];rfl
     ·rw[aA (λh=>i ((bce s z _ f g).1 h)),aA i,aB rfl]
end Go.Wk
