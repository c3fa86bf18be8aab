/-
  The law BodiesJoins holds (part 4 of 9).
-/
import Derived.Test.YtlobmefcflhmaaaGreatDoorYj3
open Bool renaming false → ν, true → μ
open List renaming length → γ
open Option renaming none → ι, some → θ
set_option linter.unusedVariables false
set_option linter.unusedSimpArgs false
set_option maxRecDepth 20000
set_option maxHeartbeats 1000000
namespace Go.Wk
open Go.Px
open Go.Lib renaming trimPrefix → iD
open Go.Op renaming bytesLess → qZ
open Sum renaming elim → dE
def agt(fu:Nat)(b:(aC×Int))(l:UQ)(f:Int)(e:η)(k:(δ ζ)->Int->ε (((δ ζ)×Int)⊕(Int×ζ×(aC×Int)×UQ)))(c:δ ζ)(a:Int):ε (((δ ζ)×Int)⊕(Int×ζ×(aC×Int)×UQ)):=
 (if a<f then(((gd (0<=a/\a<γ b.1)<|(((((if 48<=(at_ b.1 a)then θ (decide ((at_ b.1 a)<=57))else θ ν)).bind λd=>(bif d then θ d else(bif (!e)then(if(at_ b.1 a)=42 then θ μ else θ (decide ((at_ b.1 a)=35)))else θ ν)))).bind λj=>(bif j then(gd ((γ c+γ ([at_ b.1 a]))*1<=140737488355328)<|some (.inl (c++([at_ b.1 a]))))else(((if(at_ b.1 a)=45 then θ ν else(if(at_ b.1 a)=46 then θ ν else(if(at_ b.1 a)=40 then θ ν else θ (!decide ((at_ b.1 a)=41)))))).bind λi=>(bif i then θ (.inr (a,5,(b.1,a),l))else θ (.inl c))))))).bind λh=>dE (λg=>(gd (bK (a+1))<|(k g (a+1)))) (λq=>θ (.inr q)) h)else θ (.inl (c,a)))
def ahn(fu:Nat)(h:(aC×Int))(f:UQ)(d:Int)(c:η):Nat->(δ ζ)->Int->ε (((δ ζ)×Int)⊕(Int×ζ×(aC×Int)×UQ)):=λe b a=>bD (λg v=>agt fu h f d c (λb a=>g (b,a)) v.1 v.2) e (b,a)
variable {a:Nat}{c:Int}{k:η}{b:Nat}{f:δ ζ}{e:Int}
theorem asr{d:(aC×Int)}{g:UQ}:ahn a d g c k (b+1) f e=agt a d g c k (ahn a d g c k b) f e:=rfl
def akp(fu:Nat)(b:(aC×Int))(a:UQ):ε (Int×ζ×(aC×Int)×UQ):=
 ((CD fu b.1 b.2 [59]).bind λf=>((Is fu b 43).bind λd=>(((bif d then(gd ((γ ([]:δ ζ)+γ ([(43:ζ)]))*1<=140737488355328)<|(gd (bK (b.2+1))<|some ([]++([43]),b.2+1)))else θ ([],b.2))).bind λe=>(((ahn fu b a f d fu e.1 e.2)).bind λg=>dE (λc=>(if(iD c.1 [43])=[]then θ (b.2,5,(b.1,c.2),(a.1,c.1,a.2.2.1,a.2.2.2.1,a.2.2.2.2.1,a.2.2.2.2.2))else(if 30<(γ (iD c.1 [43]):Int)then θ (b.2,4,(b.1,c.2),(a.1,c.1,a.2.2.1,a.2.2.2.1,a.2.2.2.2.1,a.2.2.2.2.2))else θ (0,0,(b.1,c.2),(a.1,c.1,a.2.2.1,a.2.2.2.1,a.2.2.2.2.1,a.2.2.2.2.2))))) (λq=>θ q) g))))
def awp(fu:Nat)(b:PQ)(a:aC):ε η:=
 θ (decide (b.1=a))
def abn(fu:Nat)(s_0:LQ)(d:aC)(c:Int->ε (Unit⊕Int))(a:Int):ε (Unit⊕Int):=
 (if a<γ s_0 then(gd (0<=a/\a<γ s_0)<|(gd (0<=a/\a<γ s_0)<|((awp fu ((el s_0 a).1,(el s_0 a).2.1,((el s_0 a).2.2)) d).bind λb=>(bif b then θ (.inr a)else(gd (bK (a+1))<|(c (a+1)))))))else θ (.inl ()))
def ach(fu:Nat)(s_0:LQ)(c:aC):Nat->Int->ε (Unit⊕Int):=λb a=>bD (λg v=>abn fu s_0 c (λa=>g a) v) b a
variable {j:LQ}{d:aC}
theorem adk:ach a j d (b+1) c=abn a j d (ach a j d b) c:=rfl
def aes(fu:Nat)(s_0:LQ)(b:aC):ε Int:=
 (((ach fu s_0 b fu 0)).bind λa=>dE (λc=>θ (-1)) (λq=>θ q) a)
def aed(fu:Nat)(s_0:LQ)(b:aC):ε η:=
 ((aes fu s_0 b).bind λa=>θ (decide (0<=a)))
def aqt(fu:Nat)(c:LQ)(b:aC):ε η:=
 ((aed fu c b).bind λa=>θ a)
def asz(fu:Nat)(a:LQ)(c:aC):ε ζ:=
 ((aqt fu a c).bind λb=>(bif b then θ 7 else(if 16<=(γ a:Int)then θ 4 else θ 0)))
def aic(fu:Nat)(a:(aC×Int))(g:LQ)(b:Int)(e:Int):ε (LQ×Int×ζ×(aC×Int)):=
 (gd (0<=a.2/\a.2<=b/\b<=γ a.1)<|(((if 0<=(dN (·==61) (sub a.1 a.2 b))then(gd (bK (a.2+(dN (·==61) (sub a.1 a.2 b))))<|some (a.2+(dN (·==61) (sub a.1 a.2 b))))else θ b)).bind λc=>((afq fu a c e).bind λj=>(bif j.2 then θ ([],j.1,5,a)else(if c=a.2 then θ ([],a.2,5,a)else(gd (0<=a.2/\a.2<=c/\c<=γ a.1)<|((alj fu (sub a.1 a.2 c)).bind λn=>((XL fu n).bind λf=>(((if 0<=(dN (·==61) (sub a.1 a.2 b))then(gd (bK (c+1))<|((afq fu (a.1,c+1) b e).bind λi=>(bif i.2 then θ (.inr ([],i.1,5,(a.1,c+1)))else(((if(c+1)=b then θ (decide (e=1))else θ ν)).bind λm=>(bif m then θ (.inr ([],b,5,(a.1,c+1)))else(gd (0<=(c+1)/\(c+1)<=b/\b<=γ a.1)<|((alj fu (sub a.1 (c+1) b)).bind λl=>θ (.inl (b,l)))))))))else(if e=2 then θ (.inr ([],b,5,(a.1,b)))else θ (.inl (b,[]))))).bind λk=>dE (λd=>((asz fu g f).bind λh=>(if h=0 then(gd ((γ g+γ ([(f,d.2,(decide (0<=(dN (·==61) (sub a.1 a.2 b)))))]))*40<=140737488355328)<|some (g++([(f,d.2,(decide (0<=(dN (·==61) (sub a.1 a.2 b)))))]),0,0,(a.1,d.1)))else θ ([],a.2,h,(a.1,d.1))))) (λq=>θ q) k)))))))))
def aul(fu:Nat)(a:aC):ε η:=
 θ (!decide (a=a))
def aph(fu:Nat)(b:aC)(a:aC):ε Int:=
 ((aul fu b).bind λd=>((aul fu a).bind λc=>(bif d then(bif c then θ 0 else θ (-1))else(bif c then θ 1 else(bif (qZ b a)then θ (-1)else(bif (!(qZ b a||b==a))then θ 1 else θ 0))))))
def auo(fu:Nat)(c:PQ)(b:PQ):ε Int:=
 ((aph fu c.1 b.1).bind λa=>θ a)
open Int renaming toNat → bH
open List renaming drop → cC, set → kZ, take → eZ
def abf(fu:Nat)(f:Int)(e:LQ->Int->ε LQ)(b:LQ)(a:Int):ε LQ:=
 (((if f<a then(gd (0<=a/\a<γ b)<|(gd (0<=a/\a<γ b)<|(gd (bK (a-1))<|(gd (0<=(a-1)/\(a-1)<γ b)<|(gd (0<=(a-1)/\(a-1)<γ b)<|((auo fu ((el b a).1,(el b a).2.1,((el b a).2.2)) ((el b (a-1)).1,(el b (a-1)).2.1,((el b (a-1)).2.2))).bind λd=>θ (decide (d<0))))))))else θ ν)).bind λc=>(bif c then(gd (bK (a-1))<|(gd (bK (a-1))<|(gd (0<=(a-1)/\(a-1)<γ b)<|(gd (0<=(a-1)/\(a-1)<γ b)<|(gd (0<=a/\a<γ b)<|(gd (0<=a/\a<γ b)<|(gd (0<=a/\a<γ b)<|(gd (0<=a/\a<γ b)<|(gd (0<=(a-1)/\(a-1)<(γ (kZ b (bH a) ((el b (a-1)).1,(el b (a-1)).2.1,((el b (a-1)).2.2)))))<|(gd (0<=(a-1)/\(a-1)<(γ (kZ b (bH a) ((el b (a-1)).1,(el b (a-1)).2.1,((el b (a-1)).2.2)))))<|(gd (bK (a-1))<|(e (kZ (kZ b (bH a) ((el b (a-1)).1,(el b (a-1)).2.1,((el b (a-1)).2.2))) (bH (a-1)) ((el b a).1,(el b a).2.1,((el b a).2.2))) (a-1)))))))))))))else θ b))
def abi(fu:Nat)(d:Int):Nat->LQ->Int->ε LQ:=λc b a=>bD (λg v=>abf fu d (λb a=>g (b,a)) v.1 v.2) c (b,a)
theorem adu:abi a c (b+1) j e=abf a c (abi a c b) j e:=rfl
def aaw(fu:Nat)(f:Int)(e:Int)(d:LQ->Int->ε LQ)(b:LQ)(a:Int):ε LQ:=
 (if a<e then(((abi fu f fu b a)).bind λc=>(gd (bK (a+1))<|(d c (a+1))))else θ b)
def aao(fu:Nat)(e:Int)(d:Int):Nat->LQ->Int->ε LQ:=λc b a=>bD (λg v=>aaw fu e d (λb a=>g (b,a)) v.1 v.2) c (b,a)
variable {r:Int}
theorem acb:aao a c e (b+1) j r=aaw a c e (aao a c e b) j r:=rfl
def aau(fu:Nat)(c:LQ)(a:Int)(b:Int):ε LQ:=
 (gd (bK (a+1))<|(aao fu a b fu c (a+1)))
def acp(fu:Nat)(f:Int)(e:LQ->Int->Int->ε (LQ×Int))(c:LQ)(b:Int)(a:Int):ε (LQ×Int):=
 (if a<=f then((aau fu c b a).bind λd=>(gd (bK (a+20))<|(e d a (a+20))))else θ (c,b))
def abc(fu:Nat)(e:Int):Nat->LQ->Int->Int->ε (LQ×Int):=λd c b a=>bD (λg v=>acp fu e (λc b a=>g (c,b,a)) v.1 v.2.1 v.2.2) d (c,b,a)
theorem alr:abc a c (b+1) j e r=acp a c (abc a c b) j e r:=rfl
def aco(fu:Nat)(c:Int)(d:LQ->Int->ε LQ)(b:LQ)(a:Int):ε LQ:=
 (if a<c then ι else θ b)
def abb(fu:Nat)(d:Int):Nat->LQ->Int->ε LQ:=λc b a=>bD (λg v=>aco fu d (λb a=>g (b,a)) v.1 v.2) c (b,a)
theorem alq:abb a c (b+1) j e=aco a c (abb a c b) j e:=rfl
def acf(fu:Nat)(d:LQ)(a:Int):ε LQ:=
 (((abc fu a fu d 0 20)).bind λb=>((aau fu b.1 b.2 a).bind λc=>(abb fu a fu c 20)))
def aay(fu:Nat)(a:LQ):ε LQ:=
 ((acf fu a (γ a)).bind λb=>θ b)
def oq(fu:Nat)(a:LQ):ε LQ:=
 (gd ((0+γ a)*40<=140737488355328)<|((aay fu a).bind λb=>θ b))
def ahs(fu:Nat)(k:(Int×ζ×aC×aC×Int×aC×aC×aC×Int×LQ×LQ))(j:Int->ζ->aC->Int->LQ->ε (Int×ζ×aC×Int×LQ))(i:Int)(e:ζ)(c:aC)(b:Int)(d:LQ):ε (Int×ζ×aC×Int×LQ):=
 (((if e=0 then((Is fu (c,b) 59).bind λh=>θ h)else θ ν)).bind λg=>(bif g then(gd (bK (b+1))<|((CD fu c (b+1) k.2.2.1).bind λf=>((aic fu (c,b+1) d f 1).bind λa=>(j a.2.1 a.2.2.1 a.2.2.2.1 a.2.2.2.2 a.1))))else θ (i,e,c,b,d)))
def aim(fu:Nat)(h:(Int×ζ×aC×aC×Int×aC×aC×aC×Int×LQ×LQ)):Nat->Int->ζ->aC->Int->LQ->ε (Int×ζ×aC×Int×LQ):=λf e d c b a=>bD (λg v=>ahs fu h (λe d c b a=>g (e,d,c,b,a)) v.1 v.2.1 v.2.2.1 v.2.2.2.1 v.2.2.2.2) f (e,d,c,b,a)
variable {h:ζ}
theorem aof{g:(Int×ζ×aC×aC×Int×aC×aC×aC×Int×LQ×LQ)}:aim a g (b+1) c h d e j=ahs a g (aim a g b) c h d e j:=rfl
def ahr(fu:Nat)(j:Int->ζ->aC->Int->LQ->ε (Int×ζ×aC×Int×LQ))(i:Int)(e:ζ)(c:aC)(b:Int)(d:LQ):ε (Int×ζ×aC×Int×LQ):=
 (((if e=0 then((ug fu (c,b)).bind λh=>θ (!h))else θ ν)).bind λg=>(bif g then(gd (bK (b+1))<|((CD fu c (b+1) [38]).bind λf=>((aic fu (c,b+1) d f 2).bind λa=>(j a.2.1 a.2.2.1 a.2.2.2.1 a.2.2.2.2 a.1))))else θ (i,e,c,b,d)))
def ail(fu:Nat):Nat->Int->ζ->aC->Int->LQ->ε (Int×ζ×aC×Int×LQ):=λf e d c b a=>bD (λg v=>ahr fu (λe d c b a=>g (e,d,c,b,a)) v.1 v.2.1 v.2.2.1 v.2.2.2.1 v.2.2.2.2) f (e,d,c,b,a)
theorem aoe:ail a (b+1) c h d e j=ahr a (ail a b) c h d e j:=rfl
def avl(fu:Nat)(s_0:aC):ε (UQ×Int×ζ):=
 (if 1024<(γ s_0:Int)then θ (([],[],[],0,[],[]),1024,4)else(if(dN (·==58) s_0)<0 then θ (([],[],[],0,[],[]),γ s_0,5)else(gd (bK ((dN (·==58) s_0)+1))<|(gd (0<=(dN (·==58) s_0)/\(dN (·==58) s_0)<=γ s_0)<|((XL fu (eZ (bH (dN (·==58) s_0)) s_0)).bind λd=>(((((if d=([115,105,112])then θ (decide (d=([115,105,112])))else θ (decide (d=([115,105,112,115]))))).bind λi=>(bif i then((amh fu (s_0,(dN (·==58) s_0)+1) (d,[],[],0,[],[])).bind λc=>θ (c.1,c.2.1,([59,63]),c.2.2.1.1,c.2.2.1.2,c.2.2.2.1,c.2.2.2.2.1,c.2.2.2.2.2.1,c.2.2.2.2.2.2.1,c.2.2.2.2.2.2.2.1,c.2.2.2.2.2.2.2.2))else(if d=([116,101,108])then((akp fu (s_0,(dN (·==58) s_0)+1) (d,[],[],0,[],[])).bind λb=>θ (b.1,b.2.1,[59],b.2.2.1.1,b.2.2.1.2,b.2.2.2.1,b.2.2.2.2.1,b.2.2.2.2.2.1,b.2.2.2.2.2.2.1,b.2.2.2.2.2.2.2.1,b.2.2.2.2.2.2.2.2))else θ (0,15,([59,63]),s_0,(dN (·==58) s_0)+1,d,[],[],0,[],[]))))).bind λ(a:(Int×ζ×aC×aC×Int×aC×aC×aC×Int×LQ×LQ))=>(((aim fu a fu a.1 a.2.1 a.2.2.2.1 a.2.2.2.2.1 a.2.2.2.2.2.2.2.2.2.1)).bind λe=>(((ail fu fu e.1 e.2.1 e.2.2.1 e.2.2.2.1 a.2.2.2.2.2.2.2.2.2.2)).bind λf=>(if f.2.1=0 then((oq fu e.2.2.2.2).bind λh=>((oq fu f.2.2.2.2).bind λg=>θ ((a.2.2.2.2.2.1,a.2.2.2.2.2.2.1,a.2.2.2.2.2.2.2.1,a.2.2.2.2.2.2.2.2.1,h,g),0,0)))else θ (([],[],[],0,[],[]),f.1,f.2.1))))))))))
def ahl(fu:Nat)(a:(aC×Int))(e:AQ):ε (Int×ζ×(aC×Int)×AQ):=
 ((((Is fu a 60).bind λi=>(bif i then(gd (bK (a.2+1))<|((CD fu a.1 (a.2+1) [62]).bind λd=>(if d=γ a.1 then θ (.inr (d,5,a,e))else(gd (bK (d+1))<|some (.inl (a.2+1,d,d+1))))))else((CD fu a.1 a.2 ([59,32,9])).bind λf=>((CD fu a.1 a.2 ([63,44])).bind λg=>(if g<f then θ (.inr (g,5,a,e))else θ (.inl (a.2,f,f)))))))).bind λh=>dE (λb=>(gd (0<=b.1/\b.1<=b.2.1/\b.2.1<=(γ a.1:Int))<|((avl fu (sub a.1 b.1 b.2.1)).bind λc=>(if c.2.2=0 then θ (0,0,(a.1,b.2.2),(e.1,c.1,e.2.2))else(gd (bK (b.1+c.2.1))<|some (b.1+c.2.1,c.2.2,a,e)))))) (λq=>θ q) h)
def akq(fu:Nat)(l:(aC×Int)):ε (PQ×Int×ζ×(aC×Int)):=
 ((afr fu l).bind λg=>((XL fu g.1).bind λf=>(if f=[]then θ (([],[],ν),g.2.2,5,g.2)else((bu fu g.2).bind λe=>((Is fu e 61).bind λk=>(bif (!k)then θ ((f,[],ν),0,0,e)else(gd (bK (e.2+1))<|((bu fu (e.1,e.2+1)).bind λa=>((Is fu a 34).bind λj=>(bif j then((aqj fu a.1 a.2).bind λd=>(if d.2.2=0 then θ ((f,d.1,μ),0,0,(a.1,d.2.1))else θ (([],[],ν),d.2.1,d.2.2,a)))else((Is fu a 91).bind λi=>(bif i then((CD fu a.1 a.2 [93]).bind λb=>(gd (bK (b+1))<|(gd (0<=a.2/\a.2<=(min (b+1) (γ a.1))/\(min (b+1) (γ a.1))<=γ a.1)<|((bm fu (sub a.1 a.2 (min (b+1) (γ a.1)))).bind λh=>(bif (!h.2)then θ (([],[],ν),a.2,5,a)else(gd (bK (b+1))<|some ((f,h.1,μ),0,0,(a.1,b+1))))))))else((afr fu a).bind λc=>(if c.1=[]then θ (([],[],ν),c.2.2,5,c.2)else θ ((f,c.1,μ),0,0,c.2)))))))))))))))
def aog(fu:Nat)(k:LQ->aC->Int->ε (LQ×Int×ζ))(c:LQ)(j:aC)(i:Int):ε (LQ×Int×ζ):=
 ((bu fu (j,i)).bind λb=>((ug fu b).bind λh=>(bif h then θ (c,0,0)else((Is fu b 59).bind λg=>(bif (!g)then θ ([],b.2,5)else(gd (bK (b.2+1))<|((bu fu (b.1,b.2+1)).bind λe=>((akq fu e).bind λa=>(((if a.2.2.1=0 then((asz fu c a.1.1).bind λf=>θ (e.2,f))else θ (a.2.1,a.2.2.1))).bind λd=>(if d.2=0 then(gd ((γ c+[a.1].length)*40<=140737488355328)<|(k (c++[a.1]) a.2.2.2.1 a.2.2.2.2))else θ ([],d.1,d.2)))))))))))
def apn(fu:Nat):Nat->LQ->aC->Int->ε (LQ×Int×ζ):=λd c b a=>bD (λg v=>aog fu (λc b a=>g (c,b,a)) v.1 v.2.1 v.2.2) d (c,b,a)
theorem bbw:apn a (b+1) j d c=aog a (apn a b) j d c:=rfl
def ajz(fu:Nat)(s_0:aC):ε (LQ×Int×ζ):=
 (apn fu fu [] s_0 0)
def amj(fu:Nat)(s_0:aC):ε (AQ×Int×ζ):=
 (if 1024<(γ s_0:Int)then θ (([],([],[],[],0,[],[]),[]),1024,4)else((bu fu (s_0,0)).bind λf=>((((Is fu f 34).bind λi=>(bif i then((ahm fu f ([],([],[],[],0,[],[]),[])).bind λe=>θ (e.1,e.2.1,e.2.2.1.1,e.2.2.1.2,e.2.2.2.1,e.2.2.2.2.1.1,e.2.2.2.2.1.2.1,e.2.2.2.2.1.2.2.1,e.2.2.2.2.1.2.2.2.1,e.2.2.2.2.1.2.2.2.2.1,e.2.2.2.2.1.2.2.2.2.2,e.2.2.2.2.2))else(gd (γ s_0<=1000000000)<|(bif (Lib.contains s_0 [60])then((aea fu f ([],([],[],[],0,[],[]),[])).bind λd=>θ (d.1,d.2.1,d.2.2.1.1,d.2.2.1.2,d.2.2.2.1,d.2.2.2.2.1.1,d.2.2.2.2.1.2.1,d.2.2.2.2.1.2.2.1,d.2.2.2.2.1.2.2.2.1,d.2.2.2.2.1.2.2.2.2.1,d.2.2.2.2.1.2.2.2.2.2,d.2.2.2.2.2))else θ (0,0,f.1,f.2,[],[],[],[],0,[],[],[])))))).bind λa=>(((if a.2.1=0 then((ahl fu (a.2.2.1,a.2.2.2.1) (a.2.2.2.2.1,(a.2.2.2.2.2.1,a.2.2.2.2.2.2.1,a.2.2.2.2.2.2.2.1,a.2.2.2.2.2.2.2.2.1,a.2.2.2.2.2.2.2.2.2.1,a.2.2.2.2.2.2.2.2.2.2.1),a.2.2.2.2.2.2.2.2.2.2.2)).bind λc=>θ (c.1,c.2.1,c.2.2.1.1,c.2.2.1.2,c.2.2.2.1,c.2.2.2.2.1.1,c.2.2.2.2.1.2.1,c.2.2.2.2.1.2.2.1,c.2.2.2.2.1.2.2.2.1,c.2.2.2.2.1.2.2.2.2.1,c.2.2.2.2.1.2.2.2.2.2,c.2.2.2.2.2))else θ (a.1,a.2.1,a.2.2.1,a.2.2.2.1,a.2.2.2.2.1,a.2.2.2.2.2.1,a.2.2.2.2.2.2.1,a.2.2.2.2.2.2.2.1,a.2.2.2.2.2.2.2.2.1,a.2.2.2.2.2.2.2.2.2.1,a.2.2.2.2.2.2.2.2.2.2.1,a.2.2.2.2.2.2.2.2.2.2.2))).bind λb=>(((if b.2.1=0 then(gd (0<=b.2.2.2.1/\b.2.2.2.1<=γ s_0)<|((ajz fu (cC (bH b.2.2.2.1) s_0)).bind λh=>(gd (bK (h.2.1+b.2.2.2.1))<|some (h.2.1+b.2.2.2.1,h.2.2,h.1))))else θ (b.1,b.2.1,b.2.2.2.2.2.2.2.2.2.2.2))).bind λg=>(if g.2.1=0 then θ ((b.2.2.2.2.1,(b.2.2.2.2.2.1,b.2.2.2.2.2.2.1,b.2.2.2.2.2.2.2.1,b.2.2.2.2.2.2.2.2.1,b.2.2.2.2.2.2.2.2.2.1,b.2.2.2.2.2.2.2.2.2.2.1),g.2.2),0,0)else θ (([],([],[],[],0,[],[]),[]),g.1,g.2.1)))))))
def ayh(fu:Nat)(c:aC):ε (AQ×ζ):=
 ((YD fu c).bind λb=>((amj fu b).bind λa=>θ (a.1,a.2.2)))
open Go.Lib renaming hasPrefix → oI, itoa → gM, trimPrefix → iD
open List renaming take → eZ
def auh(fu:Nat)(s_0:aC)(f:(δ ζ)->Int->ε ((δ ζ)⊕(aC×ζ)))(b:δ ζ)(a:Int):ε ((δ ζ)⊕(aC×ζ)):=
 (if a<γ s_0 then(gd (0<=a/\a<γ s_0)<|((ahq fu (at_ s_0 a)).bind λe=>(bif e then θ (.inr ([],5))else(((((if(at_ s_0 a)=34 then θ μ else θ (decide ((at_ s_0 a)=92)))).bind λd=>(bif d then(gd ((γ b+γ ([(92:ζ)]))*1<=140737488355328)<|some (b++([92])))else θ b))).bind λc=>(gd (0<=a/\a<γ s_0)<|(gd ((γ c+γ ([at_ s_0 a]))*1<=140737488355328)<|(gd (bK (a+1))<|(f (c++([at_ s_0 a])) (a+1)))))))))else θ (.inl b))
def ale(fu:Nat)(s_0:aC):Nat->(δ ζ)->Int->ε ((δ ζ)⊕(aC×ζ)):=λc b a=>bD (λg v=>auh fu s_0 (λb a=>g (b,a)) v.1 v.2) c (b,a)
theorem bgw:ale a d (b+1) f c=auh a d (ale a d b) f c:=rfl
def awk(fu:Nat)(s_0:aC):ε (aC×ζ):=
 (gd (bK (γ s_0+2))<|(@gd _ (0<=(γ s_0+(2:Int))/\1*(γ s_0+(2:Int))<=281474976710656) (dMk 1 (γ s_0+2))<|(gd ((γ ([]:δ ζ)+γ ([(34:ζ)]))*1<=140737488355328)<|(((ale fu s_0 fu ([]++([34])) 0)).bind λb=>dE (λ(a:δ ζ)=>(gd ((γ a+γ ([(34:ζ)]))*1<=140737488355328)<|some (a++([(34:ζ)]),0))) (λq=>θ q) b))))
def aki(fu:Nat)(s_0:aC)(c:Int->ε (Unit⊕η))(a:Int):ε (Unit⊕η):=
 (if a<γ s_0 then(gd (0<=a/\a<γ s_0)<|((awq fu (at_ s_0 a)).bind λb=>(bif b then θ (.inr ν)else(gd (bK (a+1))<|(c (a+1))))))else θ (.inl ()))
def asf(fu:Nat)(s_0:aC):Nat->Int->ε (Unit⊕η):=λb a=>bD (λg v=>aki fu s_0 (λa=>g a) v) b a
theorem avj:asf a d (b+1) c=aki a d (asf a d b) c:=rfl
def aqu(fu:Nat)(s_0:aC):ε η:=
 (((asf fu s_0 fu 0)).bind λa=>dE (λb=>θ μ) (λq=>θ q) a)
def ajg(fu:Nat)(s_0:aC)(d:Int->ε (Unit⊕η))(a:Int):ε (Unit⊕η):=
 (if a<(γ (iD s_0 [43]))then(gd (0<=a/\a<(γ (iD s_0 [43])))<|((((YF fu (at_ (iD s_0 [43]) a)).bind λc=>(bif (!c)then(bif (oI s_0 [43])then θ μ else(if(at_ (iD s_0 [43]) a)=42 then θ ν else θ (!decide ((at_ (iD s_0 [43]) a)=35))))else θ ν))).bind λb=>(bif b then θ (.inr ν)else(gd (bK (a+1))<|(d (a+1))))))else θ (.inl ()))
def apk(fu:Nat)(s_0:aC):Nat->Int->ε (Unit⊕η):=λb a=>bD (λg v=>ajg fu s_0 (λa=>g a) v) b a
theorem atk:apk a d (b+1) c=ajg a d (apk a d b) c:=rfl
def ayj(fu:Nat)(s_0:aC):ε η:=
 (((if(iD s_0 [43])=[]then θ μ else θ (decide (30<(γ (iD s_0 [43]):Int))))).bind λa=>(bif a then θ ν else(((apk fu s_0 fu 0)).bind λb=>dE (λc=>θ μ) (λq=>θ q) b)))
def aoc(fu:Nat)(b:LQ)(e:Int)(k:LQ->Int->ε (LQ⊕(LQ×η)))(d:LQ)(a:Int):ε (LQ⊕(LQ×η)):=
 (if a<γ b then(gd (0<=a/\a<γ b)<|(gd (0<=a/\a<γ b)<|((XL fu ((el b a).1)).bind λc=>(((if c=[]then θ μ else((aqu fu c).bind λj=>(bif (!j)then θ μ else((aqu fu ((el b a).2.1)).bind λi=>(bif (!i)then θ μ else((aqt fu d c).bind λh=>θ h))))))).bind λg=>(bif g then θ (.inr ([],ν))else(((if e=2 then(bif (!((el b a).2.2))then θ μ else(if e=1 then θ (!(((el b a).2.2)==(!decide (((el b a).2.1)=[]))))else θ ν))else(if e=1 then θ (!(((el b a).2.2)==(!decide (((el b a).2.1)=[]))))else θ ν))).bind λf=>(bif f then θ (.inr ([],ν))else(gd ((γ d+γ ([(c,(el b a).2.1,((el b a).2.2))]))*40<=140737488355328)<|(gd (bK (a+1))<|(k (d++([(c,(el b a).2.1,((el b a).2.2))])) (a+1)))))))))))else θ (.inl d))
def akh(fu:Nat)(e:LQ)(d:Int):Nat->LQ->Int->ε (LQ⊕(LQ×η)):=λc b a=>bD (λg v=>aoc fu e d (λb a=>g (b,a)) v.1 v.2) c (b,a)
variable {s:LQ}
theorem bbv:akh a j c (b+1) s e=aoc a j c (akh a j c b) s e:=rfl
def asq(fu:Nat)(a:LQ)(e:Int):ε (LQ×η):=
 (if 16<(γ a:Int)then θ ([],ν)else(((akh fu a e fu [] 0)).bind λd=>dE (λc=>((oq fu c).bind λb=>θ (b,μ))) (λq=>θ q) d))
def ayk(fu:Nat)(a:UQ):ε (UQ×ζ):=
 ((XL fu a.1).bind λb=>(((((if b=([115,105,112])then θ (decide (b=([115,105,112])))else θ (decide (b=([115,105,112,115]))))).bind λj=>(bif j then((bm fu a.2.2.1).bind λc=>(bif c.2 then(if 0<=a.2.2.2.1 then(if a.2.2.2.1<=65535 then((aqu fu a.2.1).bind λi=>θ (i,c.1))else θ (ν,c.1))else θ (ν,c.1))else θ (ν,c.1)))else(if b=([116,101,108])then(if a.2.2.1=[]then(if a.2.2.2.1=0 then(if γ a.2.2.2.2.2=(0:Int)then((ayj fu a.2.1).bind λh=>θ (h,[]))else θ (ν,[]))else θ (ν,[]))else θ (ν,[]))else θ (ν,[]))))).bind λf=>((asq fu a.2.2.2.2.1 1).bind λe=>((asq fu a.2.2.2.2.2 2).bind λd=>(((bif (!f.1)then θ μ else(bif (!e.2)then θ μ else θ (!d.2)))).bind λg=>(bif g then θ (([],[],[],0,[],[]),2)else θ ((b,a.2.1,f.2,a.2.2.2.1,e.1,d.1),0)))))))
def CP(fu:Nat)(b:(Unit×(δ ζ)))(a:aC):ε (Int×Unit×(Unit×(δ ζ))):=
 (gd ((γ b.2+γ a)*1<=140737488355328)<|some (γ a,(),((),b.2++a)))
def aoh(fu:Nat)(s_0:aC)(e:Int)(c:(δ ζ)->Int->ε (δ ζ))(b:δ ζ)(a:Int):ε (δ ζ):=
 (if a<γ s_0 then(gd (0<=a/\a<γ s_0)<|((aqs fu (at_ s_0 a) e).bind λd=>(bif d then(gd (0<=a/\a<γ s_0)<|(gd ((γ b+γ ([at_ s_0 a]))*1<=140737488355328)<|(gd (bK (a+1))<|(c (b++([at_ s_0 a])) (a+1)))))else(gd (0<=a/\a<γ s_0)<|(gd (0<=((Ys (at_ s_0 a) (4:Int)).toNat:Int)/\((Ys (at_ s_0 a) 4).toNat)<(γ ([48,49,50,51,52,53,54,55,56,57,65,66,67,68,69,70]:aC):Int))<|(gd (0<=a/\a<γ s_0)<|(gd (0<=(((at_ s_0 a)&&&(15:ζ)).toNat:Int)/\(((at_ s_0 a)&&&15).toNat)<(γ ([48,49,50,51,52,53,54,55,56,57,65,66,67,68,69,70]:aC):Int))<|(gd ((γ b+γ ([37,at_ ([48,49,50,51,52,53,54,55,56,57,65,66,67,68,69,70]) ((Ys (at_ s_0 a) 4).toNat),at_ ([48,49,50,51,52,53,54,55,56,57,65,66,67,68,69,70]) (((at_ s_0 a)&&&15).toNat)]))*1<=140737488355328)<|(gd (bK (a+1))<|(c (b++([37,at_ ([48,49,50,51,52,53,54,55,56,57,65,66,67,68,69,70]) ((Ys (at_ s_0 a) 4).toNat),at_ ([48,49,50,51,52,53,54,55,56,57,65,66,67,68,69,70]) (((at_ s_0 a)&&&15).toNat)])) (a+1)))))))))))else θ b)
def akj(fu:Nat)(s_0:aC)(d:Int):Nat->(δ ζ)->Int->ε (δ ζ):=λc b a=>bD (λg v=>aoh fu s_0 d (λb a=>g (b,a)) v.1 v.2) c (b,a)
theorem bbx:akj a d c (b+1) f e=aoh a d c (akj a d c b) f e:=rfl
def y6(fu:Nat)(s_0:aC)(b:Int):ε aC:=
 (@gd _ (0<=(γ s_0:Int)/\1*(γ s_0:Int)<=281474976710656) (dMk 1 (γ s_0))<|(((akj fu s_0 b fu [] 0)).bind λa=>θ a))
def aez(fu:Nat)(b:(Unit×(δ ζ)))(a:ζ):ε (Unit×(Unit×(δ ζ))):=
 (gd ((γ b.2+[a].length)*1<=140737488355328)<|some ((),((),b.2++[a])))
def apm(fu:Nat)(b:(UQ×ζ))(g:Int->Unit->(δ ζ)->ε (Unit×(δ ζ)))(a:Int)(i:Unit)(f:δ ζ):ε (Unit×(δ ζ)):=
 (if a<γ b.1.2.2.2.2.1 then(gd (0<=a/\a<γ b.1.2.2.2.2.1)<|(gd (0<=a/\a<γ b.1.2.2.2.2.1)<|((y6 fu ((el b.1.2.2.2.2.1 a).1) 1).bind λe=>(gd (γ ([59]:aC)+γ e<=9223372036854775807)<|((CP fu ((),f) (([59]:aC)++e)).bind λd=>(bif ((el b.1.2.2.2.2.1 a).2.2)then((y6 fu ((el b.1.2.2.2.2.1 a).2.1) 1).bind λc=>(gd (γ ([61]:aC)+γ c<=9223372036854775807)<|((CP fu ((),d.2.2.2) (([61]:aC)++c)).bind λh=>(gd (bK (a+1))<|(g (a+1) () h.2.2.2)))))else(gd (bK (a+1))<|(g (a+1) () d.2.2.2))))))))else θ ((),f))
def aik(fu:Nat)(d:(UQ×ζ)):Nat->Int->Unit->(δ ζ)->ε (Unit×(δ ζ)):=λe c b a=>bD (λg v=>apm fu d (λc b a=>g (c,b,a)) v.1 v.2.1 v.2.2) e (c,b,a)
variable {t:(UQ×ζ)}{w:Unit}
theorem bdq:aik a t (b+1) c w f=apm a t (aik a t b) c w f:=rfl
def apl(fu:Nat)(b:(UQ×ζ))(j:Int->Unit->(δ ζ)->ε (Unit×(δ ζ)))(a:Int)(k:Unit)(d:δ ζ):ε (Unit×(δ ζ)):=
 (if a<γ b.1.2.2.2.2.2 then(gd (0<=a/\a<γ b.1.2.2.2.2.2)<|(gd (0<=a/\a<γ b.1.2.2.2.2.2)<|(((if a=0 then((aez fu ((),d) 63).bind λi=>θ ((),i.2.2))else((aez fu ((),d) 38).bind λh=>θ ((),h.2.2)))).bind λg=>((y6 fu ((el b.1.2.2.2.2.2 a).1) 2).bind λc=>(gd (γ c+γ ([61]:aC)<=9223372036854775807)<|((y6 fu ((el b.1.2.2.2.2.2 a).2.1) 2).bind λe=>(gd (γ (c++[61])+γ e<=9223372036854775807)<|((CP fu ((),g.2) ((c++[61])++e)).bind λf=>(gd (bK (a+1))<|(j (a+1) () f.2.2.2))))))))))else θ ((),d))
def agi(fu:Nat)(d:(UQ×ζ)):Nat->Int->Unit->(δ ζ)->ε (Unit×(δ ζ)):=λe c b a=>bD (λg v=>apl fu d (λc b a=>g (c,b,a)) v.1 v.2.1 v.2.2) e (c,b,a)
theorem bdp:agi a t (b+1) c w f=apl a t (agi a t b) c w f:=rfl
def bbp(fu:Nat)(l:UQ):ε (aC×ζ):=
 ((ayk fu l).bind λa=>(if a.2=0 then(gd (γ a.1.1+γ ([58]:aC)<=9223372036854775807)<|((CP fu ((),[]) (a.1.1++[58])).bind λb=>(((if a.1.1=([116,101,108])then((CP fu ((),b.2.2.2) a.1.2.1).bind λk=>θ ((),k.2.2.2))else(if a.1.2.1=[]then θ ((),b.2.2.2)else((y6 fu a.1.2.1 0).bind λe=>(gd (γ e+γ ([64]:aC)<=9223372036854775807)<|((CP fu ((),b.2.2.2) (e++[64])).bind λj=>θ ((),j.2.2.2))))))).bind λi=>((CP fu ((),i.2) a.1.2.2.1).bind λd=>(((if a.1.2.2.2.1=0 then θ ((),d.2.2.2)else(gd (bK a.1.2.2.2.1)<|(gd (γ ([58]:aC)+γ (gM a.1.2.2.2.1)<=9223372036854775807)<|((CP fu ((),d.2.2.2) (([58]:aC)++(gM a.1.2.2.2.1))).bind λh=>θ ((),h.2.2.2)))))).bind λg=>(((aik fu a fu 0 () g.2)).bind λf=>(((agi fu a fu 0 () f.2)).bind λc=>(gd (γ c.2<=140737488355328)<|some (c.2,0)))))))))else θ ([],a.2)))
def aia(fu:Nat)(b:LQ)(h:Int->Unit->(δ ζ)->ε ((Unit×(δ ζ))⊕(aC×ζ)))(a:Int)(r:Unit)(g:δ ζ):ε ((Unit×(δ ζ))⊕(aC×ζ)):=
 (if a<γ b then(gd (0<=a/\a<γ b)<|(gd (0<=a/\a<γ b)<|((((YE fu ((el b a).1)).bind λp=>(bif (!p)then θ μ else((XL fu ((el b a).1)).bind λo=>(if((el b a).1)=o then(gd (0<=a/\a<=γ b)<|((aqt fu (eZ (bH a) b) ((el b a).1)).bind λn=>θ n))else θ μ))))).bind λm=>(bif m then θ (.inr ([],2))else(gd (γ ([59]:aC)+γ ((el b a).1)<=9223372036854775807)<|((CP fu ((),g) (([59]:aC)++((el b a).1))).bind λf=>(bif (!((el b a).2.2))then(if((el b a).2.1)=[]then(gd (bK (a+1))<|(h (a+1) () f.2.2.2))else θ (.inr ([],2)))else((((bm fu ((el b a).2.1)).bind λe=>((((YE fu ((el b a).2.1)).bind λl=>(bif (!l)then(bif e.2 then(if e.1=((el b a).2.1)then(gd (0<=(0:Int)/\0<(γ ((el b a).2.1):Int))<|some (!decide ((at_ ((el b a).2.1) 0)=91)))else θ μ)else θ μ)else θ ν))).bind λk=>(bif k then((awk fu ((el b a).2.1)).bind λd=>(if d.2=0 then θ (.inl d.1)else θ (.inr ([],2))))else θ (.inl ((el b a).2.1)))))).bind λj=>dE (λc=>(gd (γ ([61]:aC)+γ c<=9223372036854775807)<|((CP fu ((),f.2.2.2) (([61]:aC)++c)).bind λi=>(gd (bK (a+1))<|(h (a+1) () i.2.2.2))))) (λq=>θ (.inr q)) j))))))))else θ (.inl ((),g)))
def ael(fu:Nat)(e:LQ):Nat->Int->Unit->(δ ζ)->ε ((Unit×(δ ζ))⊕(aC×ζ)):=λd c b a=>bD (λg v=>aia fu e (λc b a=>g (c,b,a)) v.1 v.2.1 v.2.2) d (c,b,a)
theorem avk:ael a j (b+1) c w f=aia a j (ael a j b) c w f:=rfl
def XN(fu:Nat)(b:LQ):ε (aC×ζ):=
 (if 16<(γ b:Int)then θ ([],2)else(((ael fu b fu 0 () [])).bind λc=>dE (λa=>(gd (γ a.2<=140737488355328)<|some (a.2,0))) (λq=>θ q) c))
open Go.Lib renaming indexAny → Cr
def ami(fu:Nat)(d:AQ):ε (aC×ζ):=
 ((awk fu d.1).bind λb=>(if b.2=0 then((bbp fu d.2.1).bind λa=>(if a.2=0 then((oq fu d.2.2).bind λe=>((XN fu e).bind λc=>(if c.2=0 then(if d.1=[]then(gd (γ ([60]:aC)+γ a.1<=9223372036854775807)<|(gd (γ ([60]++a.1)+γ ([62]:aC)<=9223372036854775807)<|(gd (γ (([60]++a.1)++[62])+γ c.1<=9223372036854775807)<|some (((([60]:aC)++a.1)++([62]:aC))++c.1,0))))else(gd (γ b.1+γ ([32,60]:aC)<=9223372036854775807)<|(gd (γ (b.1++([32,60]))+γ a.1<=9223372036854775807)<|(gd (γ ((b.1++([32,60]))++a.1)+γ ([62]:aC)<=9223372036854775807)<|(gd (γ (((b.1++([32,60]))++a.1)++[62])+γ c.1<=9223372036854775807)<|some ((((b.1++([32,60]))++a.1)++[62])++c.1,0))))))else θ ([],2))))else θ ([],2)))else θ ([],2)))
def acz(fu:Nat)(s_0:aC)(d:aC->Int->ε aC)(b:aC)(a:Int):ε aC:=
 (if a<γ s_0 then(gd (0<=a/\a<γ b)<|(gd (0<=a/\a<γ b)<|((anu fu (at_ b a)).bind λc=>(gd (0<=a/\a<γ b)<|(gd (0<=a/\a<γ b)<|(gd (bK (a+1))<|(d (kZ b (bH a) c) (a+1))))))))else θ b)
def adg(fu:Nat)(s_0:aC):Nat->aC->Int->ε aC:=λc b a=>bD (λg v=>acz fu s_0 (λb a=>g (b,a)) v.1 v.2) c (b,a)
variable {n:aC}
theorem ain:adg a d (b+1) n c=acz a d (adg a d b) n c:=rfl
def ace(fu:Nat)(s_0:aC):ε aC:=
 (((adg fu s_0 fu s_0 0)).bind λa=>θ a)
def ayf(fu:Nat)(s_0:aC):ε PQ:=
 (gd (γ s_0<=1000000000)<|(((if(kS (·==58) s_0)<0 then θ μ else(gd (0<=(kS (·==58) s_0)/\(kS (·==58) s_0)<=γ s_0)<|(gd (γ (eZ (bH (kS (·==58) s_0)) s_0)<=1000000000)<|(bif (Lib.contains (eZ (bH (kS (·==58) s_0)) s_0) [91])then(gd (0<=(kS (·==58) s_0)/\(kS (·==58) s_0)<=γ s_0)<|(gd (γ (cC (bH (kS (·==58) s_0)) s_0)<=1000000000)<|some (Lib.contains (cC (bH (kS (·==58) s_0)) s_0) [93])))else θ ν))))).bind λa=>(bif a then θ (s_0,[],ν)else(gd (0<=(kS (·==58) s_0)/\(kS (·==58) s_0)<=γ s_0)<|(gd (bK ((kS (·==58) s_0)+1))<|(gd (0<=((kS (·==58) s_0)+1)/\((kS (·==58) s_0)+1)<=γ s_0)<|some (eZ (bH (kS (·==58) s_0)) s_0,cC (bH ((kS (·==58) s_0)+1)) s_0,μ)))))))
def aup(fu:Nat)(b:LQ)(c:aC)(e:Int->ε (Unit⊕(aC×η)))(a:Int):ε (Unit⊕(aC×η)):=
 (if a<γ b then(gd (0<=a/\a<γ b)<|(gd (0<=a/\a<γ b)<|((XL fu ((el b a).1)).bind λd=>(if d=c then θ (.inr ((el b a).2.1,μ))else(gd (bK (a+1))<|(e (a+1)))))))else θ (.inl ()))
def aqw(fu:Nat)(d:LQ)(b:aC):Nat->Int->ε (Unit⊕(aC×η)):=λc a=>bD (λg v=>aup fu d b (λa=>g a) v) c a
theorem bhc:aqw a j d (b+1) c=aup a j d (aqw a j d b) c:=rfl
def bbq(fu:Nat)(d:LQ)(c:aC):ε (aC×η):=
 ((XL fu c).bind λa=>(((aqw fu d a fu 0)).bind λb=>dE (λe=>θ ([],ν)) (λq=>θ q) b))
def bii(fu:Nat)(t:aC):ε ((aC×aC×Int×aC×LQ)×ζ):=
 ((YD fu t).bind λa=>(((if γ a<(8:Int)then θ μ else(gd (0<=(8:Int)/\8<=(γ a:Int))<|((ace fu (eZ (bH 8) a)).bind λs=>θ (!decide (s=([83,73,80,47,50,46,48,47]))))))).bind λr=>(bif r then θ (([],[],0,[],[]),5)else((ou fu a 8).bind λd=>((tu fu a d).bind λc=>(((if d=8 then θ μ else θ (decide (c=d)))).bind λp=>(bif p then θ (([],[],0,[],[]),5)else(gd (0<=(8:Int)/\8<=d/\d<=γ a)<|((ace fu (sub a 8 d)).bind λo=>(gd (0<=c/\c<=γ a)<|(((gd (γ (cC (bH c) a)<=1000000000/\γ ([59,32,9]:aC)<=1000/\([59,32,9]:aC).all (λb=>decide (b.toNat<128))=μ)<|(if 0<=(Cr (cC (bH c) a) ([59,32,9]))then(gd (0<=(Cr (cC (bH c) a) ([59,32,9]))/\(Cr (cC (bH c) a) ([59,32,9]))<=(γ (cC (bH c) a)))<|(gd (0<=(Cr (cC (bH c) a) ([59,32,9]))/\(Cr (cC (bH c) a) ([59,32,9]))<=(γ (cC (bH c) a)))<|some (eZ (bH (Cr (cC (bH c) a) ([59,32,9]))) (cC (bH c) a),cC (bH (Cr (cC (bH c) a) ([59,32,9]))) (cC (bH c) a))))else θ (cC (bH c) a,[])))).bind λ(j:(aC×aC))=>((ayf fu j.1).bind λg=>((bm fu g.1).bind λi=>(bif (!i.2)then θ (([],[],0,[],[]),5)else(((bif g.2.2 then((tw fu g.2.1).bind λe=>(((((if e.2=0 then(if e.1<1 then θ μ else θ (decide (65535<e.1)))else θ ν)).bind λn=>(bif n then θ 3 else θ e.2))).bind λh=>(if h=0 then θ (.inl e.1)else θ (.inr (([],[],0,[],[]),h)))))else θ (.inl 0))).bind λm=>dE (λl=>((ajz fu j.2).bind λf=>(if f.2.2=0 then((bbq fu f.1 ([98,114,97,110,99,104])).bind λk=>θ ((o,i.1,l,k.1,f.1),0))else θ (([],[],0,[],[]),f.2.2)))) (λq=>θ q) m)))))))))))))))
def amw(fu:Nat)(s_0:LQ):ε LQ:=
 θ s_0
def abz(fu:Nat)(b:PQ)(a:LQ):ε (Nat×LQ):=
 (gd ((γ a+[b].length)*40<=140737488355328)<|some (0,a++[b]))
def aan(fu:Nat)(b:LQ)(e:Int->LQ->ε (LQ×Nat))(a:Int)(d:LQ):ε (LQ×Nat):=
 (if a<γ b then(gd (0<=a/\a<γ b)<|(gd (0<=a/\a<γ b)<|((abz fu ((el b a).1,(el b a).2.1,((el b a).2.2)) d).bind λc=>(if c.1=0 then(gd (bK (a+1))<|(e (a+1) c.2))else θ (c.2,c.1)))))else θ (d,0))
def aai(fu:Nat)(d:LQ):Nat->Int->LQ->ε (LQ×Nat):=λc b a=>bD (λg v=>aan fu d (λb a=>g (b,a)) v.1 v.2) c (b,a)
theorem abl:aai a j (b+1) c s=aan a j (aai a j b) c s:=rfl
def aaz(fu:Nat)(b:LQ)(a:LQ):ε (LQ×Nat):=
 (aai fu a fu 0 b)
def adv(fu:Nat)(s_0:LQ)(b:LQ):ε LQ:=
 ((aaz fu s_0 b).bind λa=>(if a.2=0 then θ a.1 else ι))
def acr(fu:Nat)(b:LQ):ε LQ:=
 ((adv fu [] b).bind λa=>θ a)
open Go.Lib renaming indexAny → Cr, itoa → gM
open List renaming drop → cC, take → eZ
def Cg(fu:Nat)(c:PQ)(b:PQ):ε Int:=
 ((aph fu c.1 b.1).bind λa=>θ a)
def als:=aau
def ara:=acf
def acg:=aay
def aba(fu:Nat)(c:LQ):ε LQ:=
 ((acr fu c).bind λb=>((acg fu b).bind λa=>θ a))
def XM(fu:Nat)(a:LQ):ε LQ:=
 ((amw fu a).bind λc=>((aba fu a).bind λb=>θ b))
def amc(fu:Nat)(b:(aC×aC×Int×aC×LQ))(d:LQ->Int->ε LQ)(c:LQ)(a:Int):ε LQ:=
 (if a<γ b.2.2.2.2 then(gd (0<=a/\a<γ b.2.2.2.2)<|(gd (0<=a/\a<γ b.2.2.2.2)<|(if((el b.2.2.2.2 a).1)=([98,114,97,110,99,104])then(gd (bK (a+1))<|(d c (a+1)))else(gd ((γ c+γ ([((el b.2.2.2.2 a).1,(el b.2.2.2.2 a).2.1,((el b.2.2.2.2 a).2.2))]))*40<=140737488355328)<|(gd (bK (a+1))<|(d (c++([((el b.2.2.2.2 a).1,(el b.2.2.2.2 a).2.1,((el b.2.2.2.2 a).2.2))])) (a+1)))))))else θ c)
def ajc(fu:Nat)(d:(aC×aC×Int×aC×LQ)):Nat->LQ->Int->ε LQ:=λc b a=>bD (λg v=>amc fu d (λb a=>g (b,a)) v.1 v.2) c (b,a)
variable {o:(aC×aC×Int×aC×LQ)}
theorem bbi:ajc a o (b+1) j c=amc a o (ajc a o b) j c:=rfl
def awm(fu:Nat)(a:(aC×aC×Int×aC×LQ)):ε (aC×ζ):=
 ((bm fu a.2.1).bind λc=>(((bif (!c.2)then θ μ else((YE fu a.1).bind λj=>(bif (!j)then θ μ else(if a.2.2.1<0 then θ μ else θ (decide (65535<a.2.2.1))))))).bind λi=>(bif i then θ ([],2)else(((ajc fu a fu [] 0)).bind λf=>(((if a.2.2.2.1=[]then θ f else(gd ((γ f+γ ([(([98,114,97,110,99,104]),a.2.2.2.1,μ)]:LQ))*40<=140737488355328)<|some (f++([(([98,114,97,110,99,104]),a.2.2.2.1,μ)]:LQ))))).bind λh=>((XM fu h).bind λg=>((XN fu g).bind λe=>(if e.2=0 then(((if a.2.2.1=0 then θ c.1 else(gd (bK a.2.2.1)<|(gd (γ ([58]:aC)+γ (gM a.2.2.1)<=9223372036854775807)<|(gd (γ c.1+γ ([58]++(gM a.2.2.1))<=9223372036854775807)<|some (c.1++([58]++(gM a.2.2.1)))))))).bind λd=>((ace fu a.1).bind λb=>(gd (γ ([83,73,80,47,50,46,48,47]:aC)+γ b<=9223372036854775807)<|(gd (γ (([83,73,80,47,50,46,48,47])++b)+γ ([32]:aC)<=9223372036854775807)<|(gd (γ ((([83,73,80,47,50,46,48,47])++b)++[32])+γ d<=9223372036854775807)<|(gd (γ (((([83,73,80,47,50,46,48,47])++b)++[32])++d)+γ e.1<=9223372036854775807)<|some ((((([83,73,80,47,50,46,48,47]:aC)++b)++([32]:aC))++d)++e.1,0)))))))else θ ([],2)))))))))
def aqm(fu:Nat)(s_0:aC):ε (Int×aC×ζ):=
 (gd (γ s_0<=1000000000/\γ ([32,9]:aC)<=1000/\([32,9]:aC).all (λb=>decide (b.toNat<128))=μ)<|(((if(Cr s_0 ([32,9]))<0 then θ (γ s_0:Int)else θ (Cr s_0 ([32,9])))).bind λa=>(gd (0<=a/\a<=γ s_0)<|((tw fu (eZ (bH a) s_0)).bind λd=>((tu fu s_0 a).bind λc=>(gd (0<=c/\c<=γ s_0)<|some (d.1,cC (bH c) s_0,d.2)))))))
def bbk(fu:Nat)(d:aC):ε (Int×aC×ζ):=
 ((YD fu d).bind λb=>((aqm fu b).bind λa=>(if a.2.2=0 then((YE fu a.2.1).bind λc=>(bif (!c)then θ (0,[],5)else θ (a.1,a.2.1,0)))else θ (0,[],a.2.2))))
def bfk(fu:Nat)(d:aC):ε (Int×Int×aC×ζ):=
 ((YD fu d).bind λc=>((aqm fu c).bind λa=>(if a.2.2=0 then((bbk fu a.2.1).bind λb=>(if b.2.2=0 then θ (a.1,b.1,b.2.1,0)else θ (0,0,[],b.2.2)))else θ (0,0,[],a.2.2))))
open Go.Lib renaming cut → eF, itoa → gM, join → cY
def bbj(fu:Nat)(c:aC):ε (Int×ζ):=
 ((YD fu c).bind λb=>((tw fu b).bind λa=>θ (a.1,a.2)))
def bfm(fu:Nat)(h:aC):ε ((aC×LQ)×ζ):=
 ((YD fu h).bind λb=>((ou fu b 0).bind λa=>(if a=0 then θ (([],[]),5)else(((((if a<γ b then(gd (0<=a/\a<γ b)<|some (decide ((at_ b a)=47)))else θ ν)).bind λg=>(bif g then(gd (bK (a+1))<|((ou fu b (a+1)).bind λe=>(gd (bK (a+1))<|(if e=(a+1)then θ (.inr (([],[]),5))else θ (.inl e)))))else θ (.inl a)))).bind λf=>dE (λc=>(gd (0<=c/\c<=(γ b:Int))<|((ajz fu (cC (bH c) b)).bind λd=>(if d.2.2=0 then(gd (0<=c/\c<=γ b)<|some ((eZ (bH c) b,d.1),0))else θ (([],[]),d.2.2))))) (λq=>θ q) f))))
def auj(fu:Nat)(a:(aC×LQ)):ε (aC×ζ):=
 (gd (γ a.1<=1000000000)<|((((YE fu ((eF a.1 [47]).1)).bind λf=>(bif (!f)then θ μ else(bif ((eF a.1 [47]).2.2)then((YE fu ((eF a.1 [47]).2.1)).bind λe=>θ (!e))else θ ν)))).bind λd=>(bif d then θ ([],2)else((XM fu a.2).bind λc=>((XN fu c).bind λb=>(if b.2=0 then(gd (γ a.1+γ b.1<=9223372036854775807)<|some (a.1++b.1,0))else θ ([],2)))))))
def bbh(fu:Nat)(m:aC)(d:aC):ε (aC×ζ):=
 ((tx fu m).bind λc=>(if c=1 then(((if m=([67,111,110,116,97,99,116])then((YD fu d).bind λq=>θ (decide (q=[42])))else θ ν)).bind λp=>(bif p then θ ([42],0)else((ayh fu d).bind λh=>(if h.2=0 then((ami fu h.1).bind λl=>θ (l.1,l.2))else θ ([],h.2)))))else(if c=2 then((bii fu d).bind λg=>(if g.2=0 then((awm fu g.1).bind λk=>θ (k.1,k.2))else θ ([],g.2)))else(if c=3 then((bbk fu d).bind λb=>(if b.2.2=0 then(gd (bK b.1)<|(gd (γ (gM b.1)+γ ([32]:aC)<=9223372036854775807)<|(gd (γ ((gM b.1)++[32])+γ b.2.1<=9223372036854775807)<|some (((gM b.1)++([32]:aC))++b.2.1,0))))else θ ([],b.2.2)))else(if c=4 then((bfk fu d).bind λa=>(if a.2.2.2=0 then(gd (bK a.1)<|(gd (γ (gM a.1)+γ ([32]:aC)<=9223372036854775807)<|(gd (bK a.2.1)<|(gd (γ ((gM a.1)++[32])+γ (gM a.2.1)<=9223372036854775807)<|(gd (γ (((gM a.1)++[32])++(gM a.2.1))+γ ([32]:aC)<=9223372036854775807)<|(gd (γ ((((gM a.1)++[32])++(gM a.2.1))++[32])+γ a.2.2.1<=9223372036854775807)<|some (((((gM a.1)++([32]:aC))++(gM a.2.1))++([32]:aC))++a.2.2.1,0)))))))else θ ([],a.2.2.2)))else(if c=5 then((bbj fu d).bind λe=>(if e.2=0 then(gd (bK e.1)<|some (gM e.1,0))else θ ([],e.2)))else(((if c=6 then θ (decide (c=6))else θ (decide (c=7)))).bind λo=>(bif o then((bfm fu d).bind λf=>(if f.2=0 then((auj fu f.1).bind λj=>θ (j.1,j.2))else θ ([],f.2)))else((YD fu d).bind λi=>((awk fu i).bind λn=>(if n.2=0 then θ (i,0)else θ ([],5))))))))))))
def bbf(fu:Nat)(s_0:aC)(d:Int)(a:Int):ε (Int×aC):=
 ((tu fu s_0 d).bind λc=>(gd (0<=(min c a)/\(min c a)<=a/\a<=γ s_0)<|(gd (γ (sub s_0 (min c a) a)<=1000000000)<|gd (γ ([32,9]:aC)<=1000/\([32,9]:aC).all (λb=>decide (b.toNat<128))=μ)<|some (min c a,Lib.trimRightS (sub s_0 (min c a) a) ([32,9])))))
def ans(fu:Nat)(s_0:aC)(g:ζ)(e:hY->Int->Int->ε ((hY×Int)⊕(hY×Int×ζ)))(b:hY)(c:Int)(a:Int):ε ((hY×Int)⊕(hY×Int×ζ)):=
 (if a<γ s_0 then(gd (0<=a/\a<γ s_0)<|(if(at_ s_0 a)=34 then((aqj fu s_0 a).bind λd=>(if d.2.2=0 then(e b c d.2.1)else θ (.inr ([],d.2.1,d.2.2))))else(if(at_ s_0 a)=60 then(gd (0<=a/\a<=γ s_0)<|(if(dN (·==62) (cC (bH a) s_0))<0 then θ (.inr ([],γ s_0,6))else(gd (bK ((dN (·==62) (cC (bH a) s_0))+1))<|(gd (bK (a+((dN (·==62) (cC (bH a) s_0))+1)))<|(e b c (a+((dN (·==62) (cC (bH a) s_0))+1)))))))else(if(at_ s_0 a)=62 then θ (.inr ([],a,5))else(if(at_ s_0 a)=g then((bbf fu s_0 c a).bind λf=>(gd ((γ b+[f].length)*24<=140737488355328)<|(gd (bK (a+1))<|(e (b++[f]) (a+1) (a+1)))))else(gd (bK (a+1))<|(e b c (a+1))))))))else θ (.inl (b,c)))
def aqk(fu:Nat)(s_0:aC)(e:ζ):Nat->hY->Int->Int->ε ((hY×Int)⊕(hY×Int×ζ)):=λd c b a=>bD (λg v=>ans fu s_0 e (λc b a=>g (c,b,a)) v.1 v.2.1 v.2.2) d (c,b,a)
variable {y:hY}
theorem azb:aqk a d h (b+1) y c e=ans a d h (aqk a d h b) y c e:=rfl
def bfi(fu:Nat)(s_0:aC)(a:ζ):ε (hY×Int×ζ):=
 ((((ud fu a).bind λf=>(bif f then θ μ else(if a=34 then θ μ else(if a=60 then θ μ else θ (decide (a=62))))))).bind λe=>(bif e then θ ([],0,2)else(((aqk fu s_0 a fu [] 0 0)).bind λd=>dE (λb=>((bbf fu s_0 b.2 (γ s_0)).bind λc=>(gd ((γ b.1+[c].length)*24<=140737488355328)<|some (b.1++[c],0,0)))) (λq=>θ q) d)))
def auk(fu:Nat)(b:(hY×Int×ζ))(d:(δ aC)->Int->ε ((δ aC)⊕((δ aC)×ζ)))(c:δ aC)(a:Int):ε ((δ aC)⊕((δ aC)×ζ)):=
 (if a<γ b.1 then(gd (0<=a/\a<γ b.1)<|(gd (0<=a/\a<γ b.1)<|(if((el b.1 a).2)=[]then θ (.inr ([],5))else(gd ((γ c+γ ([(el b.1 a).2]))*16<=140737488355328)<|(gd (bK (a+1))<|(d (c++([(el b.1 a).2])) (a+1)))))))else θ (.inl c))
def aqo(fu:Nat)(c:(hY×Int×ζ)):Nat->(δ aC)->Int->ε ((δ aC)⊕((δ aC)×ζ)):=λd b a=>bD (λg v=>auk fu c (λb a=>g (b,a)) v.1 v.2) d (b,a)
variable {m:(hY×Int×ζ)}{i:δ aC}
theorem bgz:aqo a m (b+1) i c=auk a m (aqo a m b) i c:=rfl
def bfl(fu:Nat)(d:aC):ε ((δ aC)×ζ):=
 ((bfi fu d 44).bind λa=>(if a.2.2=0 then(((aqo fu a fu [] 0)).bind λc=>dE (λb=>θ (b,0)) (λq=>θ q) c)else θ ([],a.2.2)))
def aui(fu:Nat)(d:(aC×ζ))(f:((δ aC)×ζ))(e:(δ aC)->Int->ε ((δ aC)⊕(aC×ζ)))(b:δ aC)(a:Int):ε ((δ aC)⊕(aC×ζ)):=
 (if a<γ f.1 then(gd (0<=a/\a<γ b)<|(gd (0<=a/\a<γ b)<|((bbh fu d.1 (el b a)).bind λc=>(gd (0<=a/\a<γ b)<|(gd (0<=a/\a<γ b)<|(if c.2=0 then(gd (bK (a+1))<|(e (kZ b (bH a) c.1) (a+1)))else θ (.inr ([],c.2))))))))else θ (.inl b))
def aqn(fu:Nat)(c:(aC×ζ))(e:((δ aC)×ζ)):Nat->(δ aC)->Int->ε ((δ aC)⊕(aC×ζ)):=λd b a=>bD (λg v=>aui fu c e (λb a=>g (b,a)) v.1 v.2) d (b,a)
variable {u:(aC×ζ)}{q:((δ aC)×ζ)}
theorem bgy:aqn a u q (b+1) i c=aui a u q (aqn a u q b) i c:=rfl
def bfj(fu:Nat)(h:aC)(e:aC):ε (aC×ζ):=
 ((asy fu h).bind λa=>(if a.2=0 then((asc fu a.1).bind λf=>(bif (!f)then((bbh fu a.1 e).bind λd=>θ (d.1,d.2))else((bfl fu e).bind λb=>(if b.2=0 then(((aqn fu a b fu b.1 0)).bind λg=>dE (λ(c:δ aC)=>(gd (γ c<=1000000000/\γ (cY c ([44,32]))<=100000000000)<|some (cY c ([44,32]),0))) (λq=>θ q) g)else θ ([],b.2)))))else θ ([],5)))
def ajd(fu:Nat)(c:aC)(b:aC):ε ((aC×aC)×ζ):=
 (if 1024<(γ b:Int)then θ (([],[]),4)else((bfj fu c b).bind λa=>(if a.2=0 then(if 1024<(γ a.1:Int)then θ (([],[]),4)else θ ((c,a.1),0))else θ (([],[]),a.2))))
def bct(fu:Nat)(a:aC):ε ((aC×aC)×ζ):=
 (gd (γ a<=1000000000)<|(bif (!((eF a [58]).2.2))then ι else(gd (γ ((eF a [58]).1)<=1000000000)<|gd (γ ([32,9]:aC)<=1000/\([32,9]:aC).all (λb=>decide (b.toNat<128))=μ)<|((asy fu (Lib.trimRightS ((eF a [58]).1) ([32,9]))).bind λd=>(if d.2=0 then(gd (γ ((eF a [58]).2.1)<=1000000000)<|gd (γ ([32,9]:aC)<=1000/\([32,9]:aC).all (λb=>decide (b.toNat<128))=μ)<|((ajd fu d.1 (Lib.trimS ((eF a [58]).2.1) ([32,9]))).bind λc=>θ (c.1,c.2)))else ι)))))
open Go.Lib renaming cut → eF, hasPrefix → oI, index → cE
open List renaming replicate → iZ, set → kZ, take → eZ
def atj(fu:Nat)(d:(hY×Int×ζ))(f:Int->mA->ε mA)(a:Int)(c:mA):ε mA:=
 (if a<γ d.1 then(gd (0<=a/\a<γ d.1)<|(gd (0<=a/\a<γ d.1)<|((bct fu ((el d.1 a).2)).bind λb=>(((if b.2=0 then θ (decide (γ c=(64:Int)))else θ ν)).bind λe=>(bif e then ι else(if b.2=0 then(gd ((γ c+[b.1].length)*32<=140737488355328)<|(gd (bK (a+1))<|(f (a+1) (c++[b.1]))))else ι))))))else θ c)
def anv(fu:Nat)(d:(hY×Int×ζ)):Nat->Int->mA->ε mA:=λc b a=>bD (λg v=>atj fu d (λb a=>g (b,a)) v.1 v.2) c (b,a)
variable {x:mA}
theorem bli:anv a m (b+1) c x=atj a m (anv a m b) c x:=rfl
def bcs(fu:Nat)(a:aC):ε (oG×Int×ζ):=
 (bif (oI a ([13,10]))then ι else(gd (γ a<=1000000000)<|(bif (!((eF a ([13,10,13,10])).2.2))then ι else(gd (γ ((eF a ([13,10,13,10])).1)+γ ([13,10]:aC)<=9223372036854775807)<|((biz fu (((eF a ([13,10,13,10])).1)++([13,10]:aC))).bind λb=>(if b.2.2=0 then(((anv fu b fu 0 [])).bind λc=>θ ((c,(eF a ([13,10,13,10])).2.1),0,0))else ι))))))
def azd(fu:Nat)(d:δ ζ)(i:aC)(h:fF->Int->Int->η->ε (fF×Int×Int×η))(c:fF)(g:Int)(b:Int)(f:η):ε (fF×Int×Int×η):=
 (bif (!f)then(if γ c=(8:Int)then ι else((amd fu d b i).bind λa=>(bif (!a.2)then ι else(gd (bK (a.1.1-2))<|(gd (0<=b/\b<=(max (a.1.1-2) b)/\(max (a.1.1-2) b)<=γ d)<|((bcs fu (sub d b (max (a.1.1-2) b))).bind λe=>(if e.2.2=0 then(gd ((γ c+1)*48<=140737488355328)<|(h (c++[e.1]) a.1.1 a.1.2.1 a.1.2.2))else ι)))))))else θ (c,g,b,f))
def aun(fu:Nat)(h:δ ζ)(f:aC):Nat->fF->Int->Int->η->ε (fF×Int×Int×η):=λe d c b a=>bD (λg v=>azd fu h f (λd c b a=>g (d,c,b,a)) v.1 v.2.1 v.2.2.1 v.2.2.2) e (d,c,b,a)
variable {l:fF}
theorem tL:aun a f d (b+1) l c e k=azd a f d (aun a f d b) l c e k:=rfl
def bja(fu:Nat)(c:δ ζ)(b:aC):ε (fF×Int×ζ):=
 ((aqq fu b).bind λd=>(bif (!d)then ι else(if 8192<(γ c:Int)then ι else((amd fu c 0 b).bind λa=>(bif (!a.2)then ι else(bif a.1.2.2 then ι else(((aun fu c b fu [] a.1.1 a.1.2.1 a.1.2.2)).bind λe=>θ (e.1,0,0))))))))
def api(fu:Nat)(b:oG)(f:Int->mA->ε (mA⊕(oG×η)))(a:Int)(d:mA):ε (mA⊕(oG×η)):=
 (if a<γ b.1 then(gd (0<=a/\a<γ b.1)<|(gd (0<=a/\a<γ b.1)<|((asy fu ((el b.1 a).1)).bind λe=>(if e.2=0 then((ajd fu e.1 ((el b.1 a).2)).bind λc=>(if c.2=0 then(gd ((γ d+[c.1].length)*32<=140737488355328)<|(gd (bK (a+1))<|(f (a+1) (d++[c.1]))))else θ (.inr (([],[]),ν))))else θ (.inr (([],[]),ν))))))else θ (.inl d))
def amb(fu:Nat)(d:oG):Nat->Int->mA->ε (mA⊕(oG×η)):=λc b a=>bD (λg v=>api fu d (λb a=>g (b,a)) v.1 v.2) c (b,a)
variable {z:oG}
theorem bdn:amb a z (b+1) c x=api a z (amb a z b) c x:=rfl
def avi(fu:Nat)(a:oG):ε (oG×η):=
 (if 64<(γ a.1:Int)then θ (([],[]),ν)else(gd ((0+γ a.2)*1<=140737488355328)<|(((amb fu a fu 0 [])).bind λc=>dE (λb=>θ ((b,a.2),μ)) (λq=>θ q) c)))
def wN(fu:Nat)(b:δ ζ)(a:δ ζ):ε η:=
 θ (decide (b=a))
def alf(fu:Nat)(s_0:δ ζ)(a:δ ζ):ε η:=
 (((if γ a<=(γ s_0:Int)then(gd (0<=(γ a:Int)/\γ a<=(γ s_0:Int))<|((wN fu (eZ (bH (γ a)) s_0) a).bind λc=>θ c))else θ ν)).bind λb=>θ b)
def asp(fu:Nat)(b:δ ζ)(a:δ ζ):ε η:=
 (gd (γ b<=1000000000/\2<=γ a/\γ a<=1000000000)<|some (!decide ((cE b a)=(-1))))
def aob(fu:Nat)(c:fF)(e:fF->Int->ε (fF⊕((δ ζ)×ζ)))(b:fF)(a:Int):ε (fF⊕((δ ζ)×ζ)):=
 (if a<γ c then(gd (0<=a/\a<γ c)<|(gd (0<=a/\a<γ c)<|((avi fu (el c a)).bind λd=>(bif (!d.2)then θ (.inr ([],2))else(gd (0<=a/\a<γ b)<|(gd (0<=a/\a<γ b)<|(gd (bK (a+1))<|(e (kZ b (bH a) d.1) (a+1)))))))))else θ (.inl b))
def aii(fu:Nat)(d:fF):Nat->fF->Int->ε (fF⊕((δ ζ)×ζ)):=λc b a=>bD (λg v=>aob fu d (λb a=>g (b,a)) v.1 v.2) c (b,a)
variable {A:fF}
theorem azh:aii a l (b+1) A c=aob a l (aii a l b) A c:=rfl
def aoa(fu:Nat)(c:aC)(b:fF)(g:Int->ε (Unit⊕((δ ζ)×ζ)))(a:Int):ε (Unit⊕((δ ζ)×ζ)):=
 (if a<γ b then(gd (0<=a/\a<γ b)<|(gd (0<=a/\a<γ b)<|((((alf fu ((el b a).2) (([45,45])++c)).bind λf=>(bif f then θ μ else(gd (0<γ (([45,45])++c)/\(γ ([13,(10:ζ)])+γ (([45,45])++c))*1<=140737488355328)<|((asp fu ((el b a).2) (([13,10])++(([45,45])++c))).bind λe=>θ e))))).bind λd=>(bif d then θ (.inr ([],7))else(gd (bK (a+1))<|(g (a+1)))))))else θ (.inl ()))
def aih(fu:Nat)(d:aC)(c:fF):Nat->Int->ε (Unit⊕((δ ζ)×ζ)):=λb a=>bD (λg v=>aoa fu d c (λa=>g a) v) b a
theorem azg:aih a d l (b+1) c=aoa a d l (aih a d l b) c:=rfl
def anx(fu:Nat)(c:fF)(b:Int)(e:(δ ζ)->Int->ε (δ ζ))(d:δ ζ)(a:Int):ε (δ ζ):=
 (if a<(γ ((el c b).1))then(gd (0<=a/\a<(γ ((el c b).1)))<|(gd (0<=a/\a<(γ ((el c b).1)))<|(gd (γ ((el ((el c b).1) a).1)+γ ([58,32]:aC)<=9223372036854775807)<|(gd (γ (((el ((el c b).1) a).1)++([58,32]))+γ ((el ((el c b).1) a).2)<=9223372036854775807)<|(gd (γ ((((el ((el c b).1) a).1)++([58,32]))++((el ((el c b).1) a).2))+γ ([13,10]:aC)<=9223372036854775807)<|(gd ((γ d+γ (((((el ((el c b).1) a).1)++([58,32]))++((el ((el c b).1) a).2))++([13,10])))*1<=140737488355328)<|(gd (bK (a+1))<|(e (d++(((((el ((el c b).1) a).1)++([58,32]))++((el ((el c b).1) a).2))++([13,10]))) (a+1)))))))))else θ d)
def alh(fu:Nat)(e:fF)(d:Int):Nat->(δ ζ)->Int->ε (δ ζ):=λc b a=>bD (λg v=>anx fu e d (λb a=>g (b,a)) v.1 v.2) c (b,a)
theorem aze:alh a l c (b+1) f e=anx a l c (alh a l c b) f e:=rfl
def anz(fu:Nat)(d:aC)(b:fF)(h:(δ ζ)->Int->ε ((δ ζ)⊕((δ ζ)×ζ)))(e:δ ζ)(a:Int):ε ((δ ζ)⊕((δ ζ)×ζ)):=
 (if a<γ b then(((gd (0<=a/\a<γ b)<|(gd (0<=a/\a<γ b)<|(gd (γ ([45,45]:aC)+γ d<=9223372036854775807)<|(gd (γ (([45,45])++d)+γ ([13,10]:aC)<=9223372036854775807)<|(gd ((γ e+γ ((([45,45])++d)++([13,10])))*1<=140737488355328)<|(((alh fu b a fu (e++((([45,45])++d)++([13,10]))) 0)).bind λc=>(gd ((γ c+γ ([13,10]:aC))*1<=140737488355328)<|(gd ((γ (c++([13,10]))+γ ((el b a).2))*1<=140737488355328)<|(gd ((γ ((c++([13,10]))++((el b a).2))+γ ([13,10]:aC))*1<=140737488355328)<|(if 8192<(γ (((c++([13,10]))++((el b a).2))++([13,10])):Int)then θ (.inr ([],4))else θ (.inl (((c++([13,10]))++((el b a).2))++([13,10])))))))))))))).bind λg=>dE (λf=>(gd (bK (a+1))<|(h f (a+1)))) (λq=>θ (.inr q)) g)else θ (.inl e))
def ali(fu:Nat)(e:aC)(d:fF):Nat->(δ ζ)->Int->ε ((δ ζ)⊕((δ ζ)×ζ)):=λc b a=>bD (λg v=>anz fu e d (λb a=>g (b,a)) v.1 v.2) c (b,a)
theorem azf:ali a d l (b+1) f c=anz a d l (ali a d l b) f c:=rfl
def awn(fu:Nat)(b:fF)(a:aC):ε ((δ ζ)×ζ):=
 ((((aqq fu a).bind λi=>(bif (!i)then θ μ else(if γ b<(1:Int)then θ μ else θ (decide (8<(γ b:Int))))))).bind λh=>(bif h then θ ([],2)else(@gd _ (0<=(γ b:Int)/\48*(γ b:Int)<=281474976710656) (dMk 48 (γ b))<|(((aii fu b fu (iZ (bH (γ b)) ([],[])) 0)).bind λg=>dE (λd=>(gd (γ ([45,45]:aC)+γ a<=9223372036854775807)<|(((aih fu a d fu 0)).bind λf=>dE (λj=>(((ali fu a d fu [] 0)).bind λe=>dE (λc=>(gd (γ ([45,45]:aC)+γ a<=9223372036854775807)<|(gd (γ (([45,45])++a)+γ ([45,45,13,10]:aC)<=9223372036854775807)<|(gd ((γ c+γ ((([45,45])++a)++([45,45,13,10])))*1<=140737488355328)<|(if 8192<(γ (c++((([45,45])++a)++([45,45,13,10]))):Int)then θ ([],4)else θ (c++((([45,45])++a)++([45,45,13,10])),0)))))) (λq=>θ q) e)) (λq=>θ q) f))) (λq=>θ q) g))))
def Cc(fu:Nat)(b:(aC×aC×Int×aC×mA×(δ ζ)))(c:(aC×aC×Int×aC×mA×(δ ζ)))(d:Int->ε Unit)(a:Int):ε Unit:=
 (if a<γ b.2.2.2.2.1 then(gd (0<=a/\a<γ b.2.2.2.2.1)<|(gd (0<=a/\a<γ b.2.2.2.2.1)<|(gd (0<=a/\a<γ c.2.2.2.2.1)<|(gd (0<=a/\a<γ c.2.2.2.2.1)<|(if(el b.2.2.2.2.1 a)=(el c.2.2.2.2.1 a)then(gd (bK (a+1))<|(d (a+1)))else ι)))))else θ ())
def Fx(fu:Nat)(d:(aC×aC×Int×aC×mA×(δ ζ)))(c:(aC×aC×Int×aC×mA×(δ ζ))):Nat->Int->ε Unit:=λb a=>bD (λg v=>Cc fu d c (λa=>g a) v) b a
def Cd(fu:Nat)(b:(aC×aC×Int×aC×mA×(δ ζ)))(a:(aC×aC×Int×aC×mA×(δ ζ))):ε η:=
 (((if b.1=a.1 then(if b.2.1=a.2.1 then(if b.2.2.1=a.2.2.1 then(if b.2.2.2.1=a.2.2.2.1 then(if γ b.2.2.2.2.1=(γ a.2.2.2.2.1:Int)then θ (!decide (b.2.2.2.2.2=a.2.2.2.2.2))else θ μ)else θ μ)else θ μ)else θ μ)else θ μ)).bind λc=>(bif c then ι else(((Fx fu b a fu 0)).bind λd=>θ μ)))
def bed(fu:Nat)(b:oG)(a:oG):ε η:=
 ((Cd fu ([],[],0,[],b.1,b.2) ([],[],0,[],a.1,a.2)).bind λc=>θ c)
def bco(fu:Nat)(b:fF)(c:fF)(e:Int->ε Unit)(a:Int):ε Unit:=
 (if a<γ b then(gd (0<=a/\a<γ b)<|(gd (0<=a/\a<γ b)<|(gd (0<=a/\a<γ c)<|(gd (0<=a/\a<γ c)<|((bed fu (el b a) (el c a)).bind λd=>(bif (!d)then ι else(gd (bK (a+1))<|(e (a+1)))))))))else θ ())
def axw(fu:Nat)(d:fF)(c:fF):Nat->Int->ε Unit:=λb a=>bD (λg v=>bco fu d c (λa=>g a) v) b a
theorem yH:axw a l A (b+1) c=bco a l A (axw a l A b) c:=rfl
def pQ(fu:Nat)(b:fF)(a:fF):ε η:=
 (if γ b=(γ a:Int)then(((axw fu b a fu 0)).bind λc=>θ μ)else ι)
open Go.Lib renaming index → cE, itoa → gM
open List renaming drop → cC, set → kZ
def anw(fu:Nat)(a:δ ζ)(f:Int->Int->(δ Int)->ε (δ Int))(c:Int)(b:Int)(d:δ Int):ε (δ Int):=
 (if b<(((γ a-(bH ((cE a ([45,45,98]:δ ζ))+(3:Int)))):Nat))then(gd (0<=b/\b<(γ (cC (bH ((cE a ([45,45,98]))+3)) a)))<|(gd (0<=b/\b<(γ (cC (bH ((cE a ([45,45,98]))+3)) a)))<|(((if(at_ (cC (bH ((cE a ([45,45,98]))+3)) a) b)<48 then θ μ else(if 57<(at_ (cC (bH ((cE a ([45,45,98]))+3)) a) b)then θ μ else(if 1125899906842624<c then θ μ else(if 0<b then θ (decide (c=0))else θ ν))))).bind λe=>(bif e then θ d else(gd (bK (10*c))<|(gd (bK ((10*c)+(((at_ (cC (bH ((cE a ([45,45,98]))+3)) a) b)-48).toNat)))<|(gd (bK (b+1))<|(f ((10*c)+(((at_ (cC (bH ((cE a ([45,45,98]))+3)) a) b)-48).toNat)) (b+1) (To d ((10*c)+(((at_ (cC (bH ((cE a ([45,45,98]))+3)) a) b)-48).toNat)))))))))))else θ d)
def alg(fu:Nat)(e:δ ζ):Nat->Int->Int->(δ Int)->ε (δ Int):=λd c b a=>bD (λg v=>anw fu e (λc b a=>g (c,b,a)) v.1 v.2.1 v.2.2) d (c,b,a)
variable {p:δ Int}
theorem azc:alg a f (b+1) c e p=anw a f (alg a f b) c e p:=rfl
def aum(fu:Nat)(d:(δ ζ)->(δ Int)->ε (δ Int))(a:δ ζ)(b:δ Int):ε (δ Int):=
 (gd (γ a<=1000000000/\2<=γ ([45,45,(98:ζ)])/\γ ([45,45,(98:ζ)])<=1000000000)<|(if 0<=(cE a ([45,45,98]))then(gd (0<=(cE a ([45,45,98]))/\(cE a ([45,45,98]))<=γ a)<|(gd (bK ((cE a ([45,45,98]))+3))<|(gd (0<=((cE a ([45,45,98]))+3)/\((cE a ([45,45,98]))+3)<=γ a)<|(((alg fu a fu 0 0 b)).bind λc=>(d (cC (bH ((cE a ([45,45,98]))+3)) a) c)))))else θ b))
def aqp(fu:Nat):Nat->(δ ζ)->(δ Int)->ε (δ Int):=λc b a=>bD (λg v=>aum fu (λb a=>g (b,a)) v.1 v.2) c (b,a)
theorem bha:aqp a (b+1) f p=aum a (aqp a b) f p:=rfl
def bfn(fu:Nat)(b:δ Int)(a:δ ζ):ε (δ Int):=
 (aqp fu fu a b)
def aem(fu:Nat)(b:fF)(e:Int->(δ Int)->ε (δ Int))(a:Int)(c:δ Int):ε (δ Int):=
 (if a<γ b then(gd (0<=a/\a<γ b)<|(gd (0<=a/\a<γ b)<|((bfn fu c ((el b a).2)).bind λd=>(gd (bK (a+1))<|(e (a+1) d)))))else θ c)
def afb(fu:Nat)(d:fF):Nat->Int->(δ Int)->ε (δ Int):=λc b a=>bD (λg v=>aem fu d (λb a=>g (b,a)) v.1 v.2) c (b,a)
theorem ahk:afb a l (b+1) c p=aem a l (afb a l b) c p:=rfl
def ame(fu:Nat)(c:δ Int)(b:Int->ε Int)(a:Int):ε Int:=
 (if a∈c then(gd (bK (a+1))<|(b (a+1)))else θ a)
def agq(fu:Nat)(c:δ Int):Nat->Int->ε Int:=λb a=>bD (λg v=>ame fu c (λa=>g a) v) b a
theorem bbl:agq a p (b+1) c=ame a p (agq a p b) c:=rfl
def aij(fu:Nat)(c:fF):ε aC:=
 (((afb fu c fu 0 [])).bind λb=>(((agq fu b fu 0)).bind λa=>(gd (bK a)<|(gd (γ ([98]:aC)+γ (gM a)<=9223372036854775807)<|some (([98]:aC)++(gM a))))))
def bbg(fu:Nat):ε η:=
 ((bja fu ([45,45,98,13,10,99,58,32,116,101,120,116,47,112,108,97,105,110,13,10,13,10,104,105,13,10,45,45,98,45,45]) [98]).bind λa=>((awn fu ([(([(([67,111,110,116,101,110,116,45,84,121,112,101]),([116,101,120,116,47,112,108,97,105,110]))]),([104,105])),([],[])]) [120]).bind λb=>(((if a.2.2=0 then(if a.2.1=0 then((pQ fu a.1 ([(([(([67,111,110,116,101,110,116,45,84,121,112,101]),([116,101,120,116,47,112,108,97,105,110]))]),([104,105]))])).bind λe=>(bif e then(if b.2=0 then(if b.1=([45,45,120,13,10,67,111,110,116,101,110,116,45,84,121,112,101,58,32,116,101,120,116,47,112,108,97,105,110,13,10,13,10,104,105,13,10,45,45,120,13,10,13,10,13,10,45,45,120,45,45,13,10])then((aij fu a.1).bind λd=>θ (decide (d=([98,48]))))else θ ν)else θ ν)else θ ν))else θ ν)else θ ν)).bind λc=>θ c)))
def pR(fu:Nat)(c:ζ)(b:Int->ε (Unit⊕η))(a:Int):ε (Unit⊕η):=
 (if a<(γ ([45,46,33,37,42,95,43,39,126]:aC))then(gd (0<=a/\a<(γ ([45,46,33,37,42,95,43,39,126]:aC)))<|(if(at_ ([45,46,33,37,42,95,43,39,126]) a)=c then θ (.inr μ)else(gd (bK (a+1))<|(b (a+1)))))else θ (.inl ()))
def qV(fu:Nat)(c:ζ):Nat->Int->ε (Unit⊕η):=λb a=>bD (λg v=>pR fu c (λa=>g a) v) b a
def awi(fu:Nat)(a:ζ):ε η:=
 (((if 65<=a then(if a<=90 then θ μ else(if 97<=a then(if a<=122 then θ μ else(if 48<=a then θ (decide (a<=57))else θ ν))else(if 48<=a then θ (decide (a<=57))else θ ν)))else(if 97<=a then(if a<=122 then θ μ else(if 48<=a then θ (decide (a<=57))else θ ν))else(if 48<=a then θ (decide (a<=57))else θ ν)))).bind λc=>(bif c then θ μ else(((qV fu a fu 0)).bind λb=>dE (λd=>θ (decide (a=96))) (λq=>θ q) b)))
def ano(fu:Nat)(s_0:aC)(d:Int->ε Int)(a:Int):ε Int:=
 (((if a<γ s_0 then(gd (0<=a/\a<γ s_0)<|((awi fu (at_ s_0 a)).bind λc=>θ c))else θ ν)).bind λb=>(bif b then(gd (bK (a+1))<|(d (a+1)))else θ a))
def ape(fu:Nat)(s_0:aC):Nat->Int->ε Int:=λb a=>bD (λg v=>ano fu s_0 (λa=>g a) v) b a
theorem bbu:ape a d (b+1) c=ano a d (ape a d b) c:=rfl
def bq(fu:Nat)(s_0:aC)(b:Int):ε Int:=
 (((ape fu s_0 fu (min (max b 0) (γ s_0)))).bind λa=>θ a)
def y5(fu:Nat)(s_0:aC):ε η:=
 (((if s_0=[]then θ ν else((bq fu s_0 0).bind λb=>θ (decide (b=γ s_0))))).bind λa=>θ a)
def bap(fu:Nat)(s_0:aC):ε η:=
 ((((y5 fu s_0).bind λb=>(bif b then θ (decide (γ s_0<=(70:Int)))else θ ν))).bind λa=>θ a)
def auc(fu:Nat)(s_0:aC)(c:aC->Int->ε aC)(b:aC)(a:Int):ε aC:=
 (if a<γ s_0 then(((gd (0<=a/\a<γ b)<|(gd (0<=a/\a<γ b)<|(if 65<=(at_ b a)then(gd (0<=a/\a<γ b)<|(gd (0<=a/\a<γ b)<|some (decide ((at_ b a)<=90))))else θ ν)))).bind λd=>(bif d then(gd (0<=a/\a<γ b)<|(gd (0<=a/\a<γ b)<|(gd (0<=a/\a<γ b)<|(gd (0<=a/\a<γ b)<|(gd (bK (a+1))<|(c (kZ b (bH a) ((at_ b a)+32)) (a+1)))))))else(gd (bK (a+1))<|(c b (a+1)))))else θ b)
def awf(fu:Nat)(s_0:aC):Nat->aC->Int->ε aC:=λc b a=>bD (λg v=>auc fu s_0 (λb a=>g (b,a)) v.1 v.2) c (b,a)
theorem bgt:awf a d (b+1) n c=auc a d (awf a d b) n c:=rfl
def IM(fu:Nat)(s_0:aC):ε aC:=
 (((awf fu s_0 fu s_0 0)).bind λa=>θ a)
def bat(fu:Nat)(c:ζ)(b:Int->ε (Unit⊕aC))(a:Int):ε (Unit⊕aC):=
 (if a<15 then(gd (0<=a/\a<(γ ([([98,82,101,102,101,114,114,101,100,45,66,121]),([99,67,111,110,116,101,110,116,45,84,121,112,101]),([101,67,111,110,116,101,110,116,45,69,110,99,111,100,105,110,103]),([102,70,114,111,109]),([105,67,97,108,108,45,73,68]),([107,83,117,112,112,111,114,116,101,100]),([108,67,111,110,116,101,110,116,45,76,101,110,103,116,104]),([109,67,111,110,116,97,99,116]),([111,69,118,101,110,116]),([114,82,101,102,101,114,45,84,111]),([115,83,117,98,106,101,99,116]),([116,84,111]),([117,65,108,108,111,119,45,69,118,101,110,116,115]),([118,86,105,97]),([120,83,101,115,115,105,111,110,45,69,120,112,105,114,101,115])]:δ aC)))<|(gd (0<=a/\a<(γ ([([98,82,101,102,101,114,114,101,100,45,66,121]),([99,67,111,110,116,101,110,116,45,84,121,112,101]),([101,67,111,110,116,101,110,116,45,69,110,99,111,100,105,110,103]),([102,70,114,111,109]),([105,67,97,108,108,45,73,68]),([107,83,117,112,112,111,114,116,101,100]),([108,67,111,110,116,101,110,116,45,76,101,110,103,116,104]),([109,67,111,110,116,97,99,116]),([111,69,118,101,110,116]),([114,82,101,102,101,114,45,84,111]),([115,83,117,98,106,101,99,116]),([116,84,111]),([117,65,108,108,111,119,45,69,118,101,110,116,115]),([118,86,105,97]),([120,83,101,115,115,105,111,110,45,69,120,112,105,114,101,115])]:δ aC)))<|(gd (0<=(0:Int)/\0<(γ (el ([([98,82,101,102,101,114,114,101,100,45,66,121]:aC),([99,67,111,110,116,101,110,116,45,84,121,112,101]:aC),([101,67,111,110,116,101,110,116,45,69,110,99,111,100,105,110,103]:aC),([102,70,114,111,109]:aC),([105,67,97,108,108,45,73,68]:aC),([107,83,117,112,112,111,114,116,101,100]:aC),([108,67,111,110,116,101,110,116,45,76,101,110,103,116,104]:aC),([109,67,111,110,116,97,99,116]:aC),([111,69,118,101,110,116]:aC),([114,82,101,102,101,114,45,84,111]:aC),([115,83,117,98,106,101,99,116]:aC),([116,84,111]:aC),([117,65,108,108,111,119,45,69,118,101,110,116,115]:aC),([118,86,105,97]:aC),([120,83,101,115,115,105,111,110,45,69,120,112,105,114,101,115]:aC)]:δ aC) a):Int))<|(if(at_ (el ([([98,82,101,102,101,114,114,101,100,45,66,121]),([99,67,111,110,116,101,110,116,45,84,121,112,101]),([101,67,111,110,116,101,110,116,45,69,110,99,111,100,105,110,103]),([102,70,114,111,109]),([105,67,97,108,108,45,73,68]),([107,83,117,112,112,111,114,116,101,100]),([108,67,111,110,116,101,110,116,45,76,101,110,103,116,104]),([109,67,111,110,116,97,99,116]),([111,69,118,101,110,116]),([114,82,101,102,101,114,45,84,111]),([115,83,117,98,106,101,99,116]),([116,84,111]),([117,65,108,108,111,119,45,69,118,101,110,116,115]),([118,86,105,97]),([120,83,101,115,115,105,111,110,45,69,120,112,105,114,101,115])]:δ aC) a) 0)=c then(gd (0<=a/\a<(γ ([([98,82,101,102,101,114,114,101,100,45,66,121]),([99,67,111,110,116,101,110,116,45,84,121,112,101]),([101,67,111,110,116,101,110,116,45,69,110,99,111,100,105,110,103]),([102,70,114,111,109]),([105,67,97,108,108,45,73,68]),([107,83,117,112,112,111,114,116,101,100]),([108,67,111,110,116,101,110,116,45,76,101,110,103,116,104]),([109,67,111,110,116,97,99,116]),([111,69,118,101,110,116]),([114,82,101,102,101,114,45,84,111]),([115,83,117,98,106,101,99,116]),([116,84,111]),([117,65,108,108,111,119,45,69,118,101,110,116,115]),([118,86,105,97]),([120,83,101,115,115,105,111,110,45,69,120,112,105,114,101,115])]:δ aC)))<|(gd (0<=a/\a<(γ ([([98,82,101,102,101,114,114,101,100,45,66,121]),([99,67,111,110,116,101,110,116,45,84,121,112,101]),([101,67,111,110,116,101,110,116,45,69,110,99,111,100,105,110,103]),([102,70,114,111,109]),([105,67,97,108,108,45,73,68]),([107,83,117,112,112,111,114,116,101,100]),([108,67,111,110,116,101,110,116,45,76,101,110,103,116,104]),([109,67,111,110,116,97,99,116]),([111,69,118,101,110,116]),([114,82,101,102,101,114,45,84,111]),([115,83,117,98,106,101,99,116]),([116,84,111]),([117,65,108,108,111,119,45,69,118,101,110,116,115]),([118,86,105,97]),([120,83,101,115,115,105,111,110,45,69,120,112,105,114,101,115])]:δ aC)))<|(gd (0<=(1:Int)/\1<=(γ (el ([([98,82,101,102,101,114,114,101,100,45,66,121]:aC),([99,67,111,110,116,101,110,116,45,84,121,112,101]:aC),([101,67,111,110,116,101,110,116,45,69,110,99,111,100,105,110,103]:aC),([102,70,114,111,109]:aC),([105,67,97,108,108,45,73,68]:aC),([107,83,117,112,112,111,114,116,101,100]:aC),([108,67,111,110,116,101,110,116,45,76,101,110,103,116,104]:aC),([109,67,111,110,116,97,99,116]:aC),([111,69,118,101,110,116]:aC),([114,82,101,102,101,114,45,84,111]:aC),([115,83,117,98,106,101,99,116]:aC),([116,84,111]:aC),([117,65,108,108,111,119,45,69,118,101,110,116,115]:aC),([118,86,105,97]:aC),([120,83,101,115,115,105,111,110,45,69,120,112,105,114,101,115]:aC)]:δ aC) a):Int))<|some (.inr (cC (bH 1) (el ([([98,82,101,102,101,114,114,101,100,45,66,121]),([99,67,111,110,116,101,110,116,45,84,121,112,101]),([101,67,111,110,116,101,110,116,45,69,110,99,111,100,105,110,103]),([102,70,114,111,109]),([105,67,97,108,108,45,73,68]),([107,83,117,112,112,111,114,116,101,100]),([108,67,111,110,116,101,110,116,45,76,101,110,103,116,104]),([109,67,111,110,116,97,99,116]),([111,69,118,101,110,116]),([114,82,101,102,101,114,45,84,111]),([115,83,117,98,106,101,99,116]),([116,84,111]),([117,65,108,108,111,119,45,69,118,101,110,116,115]),([118,86,105,97]),([120,83,101,115,115,105,111,110,45,69,120,112,105,114,101,115])]:δ aC) a))))))else(gd (bK (a+1))<|(b (a+1)))))))else θ (.inl ()))
def bcp(fu:Nat)(c:ζ):Nat->Int->ε (Unit⊕aC):=λb a=>bD (λg v=>bat fu c (λa=>g a) v) b a
theorem vK:bcp a h (b+1) c=bat a h (bcp a h b) c:=rfl
def bau(fu:Nat)(b:ζ):ε aC:=
 (((bcp fu b fu 0)).bind λa=>dE (λc=>θ []) (λq=>θ q) a)
def bay(fu:Nat)(d:aC)(c:Int->ε (Unit⊕(aC×ζ)))(a:Int):ε (Unit⊕(aC×ζ)):=
 (if a<7 then(gd (0<=a/\a<(γ ([([67,97,108,108,45,73,68]:aC),([67,83,101,113]:aC),([77,73,77,69,45,86,101,114,115,105,111,110]:aC),([77,105,110,45,83,69]:aC),([82,65,99,107]:aC),([82,83,101,113]:aC),([87,87,87,45,65,117,116,104,101,110,116,105,99,97,116,101]:aC)]:δ aC)))<|(gd (0<=a/\a<(γ ([([67,97,108,108,45,73,68]:aC),([67,83,101,113]:aC),([77,73,77,69,45,86,101,114,115,105,111,110]:aC),([77,105,110,45,83,69]:aC),([82,65,99,107]:aC),([82,83,101,113]:aC),([87,87,87,45,65,117,116,104,101,110,116,105,99,97,116,101]:aC)]:δ aC)))<|((IM fu (el ([([67,97,108,108,45,73,68]),([67,83,101,113]),([77,73,77,69,45,86,101,114,115,105,111,110]),([77,105,110,45,83,69]),([82,65,99,107]),([82,83,101,113]),([87,87,87,45,65,117,116,104,101,110,116,105,99,97,116,101])]) a)).bind λb=>(if b=d then(gd (0<=a/\a<(γ ([([67,97,108,108,45,73,68]:aC),([67,83,101,113]:aC),([77,73,77,69,45,86,101,114,115,105,111,110]:aC),([77,105,110,45,83,69]:aC),([82,65,99,107]:aC),([82,83,101,113]:aC),([87,87,87,45,65,117,116,104,101,110,116,105,99,97,116,101]:aC)]:δ aC)))<|(gd (0<=a/\a<(γ ([([67,97,108,108,45,73,68]:aC),([67,83,101,113]:aC),([77,73,77,69,45,86,101,114,115,105,111,110]:aC),([77,105,110,45,83,69]:aC),([82,65,99,107]:aC),([82,83,101,113]:aC),([87,87,87,45,65,117,116,104,101,110,116,105,99,97,116,101]:aC)]:δ aC)))<|some (.inr (el ([([67,97,108,108,45,73,68]),([67,83,101,113]),([77,73,77,69,45,86,101,114,115,105,111,110]),([77,105,110,45,83,69]),([82,65,99,107]),([82,83,101,113]),([87,87,87,45,65,117,116,104,101,110,116,105,99,97,116,101])]) a,0))))else(gd (bK (a+1))<|(c (a+1)))))))else θ (.inl ()))
def avw(fu:Nat)(c:aC):Nat->Int->ε (Unit⊕(aC×ζ)):=λb a=>bD (λg v=>bay fu c (λa=>g a) v) b a
theorem vL:avw a d (b+1) c=bay a d (avw a d b) c:=rfl
def ana(fu:Nat)(e:aC)(c:aC->Int->ε aC)(b:aC)(a:Int):ε aC:=
 (if a<γ e then(((if a=0 then(gd (0<=a/\a<γ b)<|(gd (0<=a/\a<γ b)<|(if 97<=(at_ b a)then(gd (0<=a/\a<γ b)<|(gd (0<=a/\a<γ b)<|some (decide ((at_ b a)<=122))))else θ ν)))else(gd (bK (a-1))<|(gd (0<=(a-1)/\(a-1)<γ b)<|(gd (0<=(a-1)/\(a-1)<γ b)<|(if(at_ b (a-1))=45 then(gd (0<=a/\a<γ b)<|(gd (0<=a/\a<γ b)<|(if 97<=(at_ b a)then(gd (0<=a/\a<γ b)<|(gd (0<=a/\a<γ b)<|some (decide ((at_ b a)<=122))))else θ ν)))else θ ν)))))).bind λd=>(bif d then(gd (0<=a/\a<γ b)<|(gd (0<=a/\a<γ b)<|(gd (0<=a/\a<γ b)<|(gd (0<=a/\a<γ b)<|(gd (bK (a+1))<|(c (kZ b (bH a) ((at_ b a)-32)) (a+1)))))))else(gd (bK (a+1))<|(c b (a+1)))))else θ b)
def aif(fu:Nat)(d:aC):Nat->aC->Int->ε aC:=λc b a=>bD (λg v=>ana fu d (λb a=>g (b,a)) v.1 v.2) c (b,a)
theorem ayv:aif a d (b+1) n c=ana a d (aif a d b) n c:=rfl
def tr(fu:Nat)(b:aC):ε (aC×ζ):=
 ((((y5 fu b).bind λi=>(bif (!i)then θ μ else θ (decide (64<(γ b:Int)))))).bind λh=>(bif h then θ ([],5)else((IM fu b).bind λa=>(((if γ b=(1:Int)then(gd (0<=(0:Int)/\0<(γ a:Int))<|((bau fu (at_ a 0)).bind λg=>θ (!decide (g=[]))))else θ ν)).bind λf=>(bif f then(gd (0<=(0:Int)/\0<(γ a:Int))<|((bau fu (at_ a 0)).bind λe=>θ (e,0)))else(((avw fu a fu 0)).bind λd=>dE (λj=>(((aif fu a fu a 0)).bind λc=>θ (c,0))) (λq=>θ q) d))))))
def atu(fu:Nat)(s_0:aC)(b:δ aC)(c:Int->ε (Unit⊕η))(a:Int):ε (Unit⊕η):=
 (if a<γ b then(gd (0<=a/\a<γ b)<|(gd (0<=a/\a<γ b)<|(if(el b a)=s_0 then θ (.inr μ)else(gd (bK (a+1))<|(c (a+1))))))else θ (.inl ()))
def avt(fu:Nat)(s_0:aC)(c:δ aC):Nat->Int->ε (Unit⊕η):=λb a=>bD (λg v=>atu fu s_0 c (λa=>g a) v) b a
theorem bgn:avt a d i (b+1) c=atu a d i (avt a d i b) c:=rfl
def bk(fu:Nat)(s_0:aC)(b:δ aC):ε η:=
 (((avt fu s_0 b fu 0)).bind λa=>dE (λc=>θ ν) (λq=>θ q) a)
def tm(fu:Nat)(a:aC):ε Int:=
 ((bk fu a ([([70,114,111,109]),([84,111]),([67,111,110,116,97,99,116]),([82,111,117,116,101]),([82,101,99,111,114,100,45,82,111,117,116,101]),([80,97,116,104]),([83,101,114,118,105,99,101,45,82,111,117,116,101]),([82,101,102,101,114,45,84,111]),([82,101,102,101,114,114,101,100,45,66,121]),([82,101,112,108,121,45,84,111])])).bind λb=>(bif b then θ 1 else(if a=([86,105,97])then θ 2 else(if a=([67,83,101,113])then θ 3 else(if a=([82,65,99,107])then θ 4 else((bk fu a ([([67,111,110,116,101,110,116,45,76,101,110,103,116,104]),([69,120,112,105,114,101,115]),([77,97,120,45,70,111,114,119,97,114,100,115]),([77,105,110,45,69,120,112,105,114,101,115]),([82,83,101,113])])).bind λe=>(bif e then θ 5 else((bk fu a ([([67,111,110,116,101,110,116,45,68,105,115,112,111,115,105,116,105,111,110]),([67,111,110,116,101,110,116,45,84,121,112,101]),([69,118,101,110,116]),([77,105,110,45,83,69]),([83,101,115,115,105,111,110,45,69,120,112,105,114,101,115]),([83,117,98,115,99,114,105,112,116,105,111,110,45,83,116,97,116,101])])).bind λd=>(bif d then θ 6 else((bk fu a ([([65,99,99,101,112,116]),([65,108,108,111,119]),([65,108,108,111,119,45,69,118,101,110,116,115]),([80,114,111,120,121,45,82,101,113,117,105,114,101]),([82,101,113,117,105,114,101]),([83,117,112,112,111,114,116,101,100]),([85,110,115,117,112,112,111,114,116,101,100])])).bind λc=>(bif c then θ 7 else θ 0)))))))))))
def bhx(fu:Nat)(e:aC):ε η:=
 ((tr fu e).bind λa=>(((if a.2=0 then((tm fu a.1).bind λd=>(if d=7 then θ μ else((bk fu a.1 ([([67,111,110,116,97,99,116]),([80,97,116,104]),([82,101,99,111,114,100,45,82,111,117,116,101]),([82,111,117,116,101]),([83,101,114,118,105,99,101,45,82,111,117,116,101]),([86,105,97])])).bind λc=>θ c)))else θ ν)).bind λb=>θ b))
def y4(fu:Nat)(a:ζ):ε η:=
 (((if a=32 then θ μ else θ (decide (a=9)))).bind λb=>θ b)
def aly(fu:Nat)(s_0:aC)(d:Int->ε Int)(a:Int):ε Int:=
 (((if a<γ s_0 then(gd (0<=a/\a<γ s_0)<|((y4 fu (at_ s_0 a)).bind λc=>θ c))else θ ν)).bind λb=>(bif b then(gd (bK (a+1))<|(d (a+1)))else θ a))
def aue(fu:Nat)(s_0:aC):Nat->Int->ε Int:=λb a=>bD (λg v=>aly fu s_0 (λa=>g a) v) b a
theorem axb:aue a d (b+1) c=aly a d (aue a d b) c:=rfl
def MY(fu:Nat)(s_0:aC)(b:Int):ε Int:=
 (((aue fu s_0 fu (min (max b 0) (γ s_0)))).bind λa=>θ a)
def awh(fu:Nat)(s_0:aC)(b:Int)(e:Int->ε Int)(a:Int):ε Int:=
 (((if 0<a then(gd (bK (a-1))<|(gd (0<=(a-1)/\(a-1)<(γ (cC (bH b) s_0)))<|((y4 fu (at_ (cC (bH b) s_0) (a-1))).bind λd=>θ d)))else θ ν)).bind λc=>(bif c then(gd (bK (a-1))<|(e (a-1)))else θ a))
def aye(fu:Nat)(s_0:aC)(b:Int):Nat->Int->ε Int:=λc a=>bD (λg v=>awh fu s_0 b (λa=>g a) v) c a
theorem bih:aye a d c (b+1) e=awh a d c (aye a d c b) e:=rfl
def bj(fu:Nat)(s_0:aC):ε aC:=
 ((MY fu s_0 0).bind λa=>(gd (0<=a/\a<=γ s_0)<|(((aye fu s_0 a fu (γ (cC (bH a) s_0)))).bind λb=>(gd (0<=b/\b<=(γ (cC (bH a) s_0)))<|some (eZ (bH b) (cC (bH a) s_0))))))
def aua(fu:Nat)(s_0:aC)(c:ζ)(b:Int->ε (Unit⊕Int))(a:Int):ε (Unit⊕Int):=
 (if a<γ s_0 then(gd (0<=a/\a<γ s_0)<|(if(at_ s_0 a)=c then θ (.inr a)else(gd (bK (a+1))<|(b (a+1)))))else θ (.inl ()))
def avz(fu:Nat)(s_0:aC)(c:ζ):Nat->Int->ε (Unit⊕Int):=λb a=>bD (λg v=>aua fu s_0 c (λa=>g a) v) b a
theorem bgr:avz a d h (b+1) c=aua a d h (avz a d h b) c:=rfl
def awa(fu:Nat)(s_0:aC)(c:Int)(b:ζ):ε Int:=
 (((avz fu s_0 b fu c)).bind λa=>dE (λd=>θ (-1)) (λq=>θ q) a)
def aiz(fu:Nat)(s_0:aC)(c:ζ)(b:Int->ε (Unit⊕η))(a:Int):ε (Unit⊕η):=
 (if a<γ s_0 then(gd (0<=a/\a<γ s_0)<|(if(at_ s_0 a)=c then θ (.inr μ)else(gd (bK (a+1))<|(b (a+1)))))else θ (.inl ()))
def apc(fu:Nat)(s_0:aC)(c:ζ):Nat->Int->ε (Unit⊕η):=λb a=>bD (λg v=>aiz fu s_0 c (λa=>g a) v) b a
theorem ath:apc a d h (b+1) c=aiz a d h (apc a d h b) c:=rfl
def YG(fu:Nat)(s_0:aC)(b:ζ):ε η:=
 (((apc fu s_0 b fu 0)).bind λa=>dE (λc=>θ ν) (λq=>θ q) a)
def aft(fu:Nat)(b:(aC×Int×Int×ζ))(f:aC)(e:Int->ε Int)(a:Int):ε Int:=
 (((if a<γ b.1 then(gd (0<=a/\a<γ b.1)<|((YG fu f (at_ b.1 a)).bind λd=>θ (!d)))else θ ν)).bind λc=>(bif c then(gd (bK (a+1))<|(e (a+1)))else θ a))
def ajm(fu:Nat)(d:(aC×Int×Int×ζ))(c:aC):Nat->Int->ε Int:=λb a=>bD (λg v=>aft fu d c (λa=>g a) v) b a
variable {g:(aC×Int×Int×ζ)}
theorem amm:ajm a g d (b+1) c=aft a g d (ajm a g d b) c:=rfl
def YI(fu:Nat)(a:(aC×Int×Int×ζ))(c:aC):ε Int:=
 (((ajm fu a c fu a.2.1)).bind λb=>θ b)
def XK(fu:Nat)(a:ζ):ε η:=
 (((if 48<=a then θ (decide (a<=57))else θ ν)).bind λb=>θ b)
def bg(fu:Nat)(a:ζ):ε Int:=
 ((XK fu a).bind λb=>(bif b then θ ((a-48).toNat)else(((if 65<=a then θ (decide (a<=70))else θ ν)).bind λd=>(bif d then(gd (bK (((a-(65:ζ)).toNat)+10))<|some (((a-65).toNat)+10))else(((if 97<=a then θ (decide (a<=102))else θ ν)).bind λc=>(bif c then(gd (bK (((a-(97:ζ)).toNat)+10))<|some (((a-97).toNat)+10))else θ (-1)))))))
def bcy(fu:Nat)(s_0:aC)(a:Int):ε Int:=
 (((gd (bK (a+2))<|(if γ s_0<=(a+2)then θ μ else(gd (0<=a/\a<γ s_0)<|(if(at_ s_0 a)=37 then(gd (bK (a+1))<|(gd (0<=(a+1)/\(a+1)<γ s_0)<|((bg fu (at_ s_0 (a+1))).bind λf=>(if f<0 then θ μ else(gd (bK (a+2))<|(gd (0<=(a+2)/\(a+2)<γ s_0)<|((bg fu (at_ s_0 (a+2))).bind λe=>θ (decide (e<0)))))))))else θ μ))))).bind λd=>(bif d then θ (-1)else(gd (bK (a+1))<|(gd (0<=(a+1)/\(a+1)<γ s_0)<|((bg fu (at_ s_0 (a+1))).bind λb=>(gd (bK (16*b))<|(gd (bK (a+2))<|(gd (0<=(a+2)/\(a+2)<γ s_0)<|((bg fu (at_ s_0 (a+2))).bind λc=>(gd (bK ((16*b)+c))<|some ((16*b)+c)))))))))))
def ua(fu:Nat)(a:ζ):ε η:=
 (((if a<32 then(if a=9 then θ (decide (a=127))else θ μ)else θ (decide (a=127)))).bind λv6=>θ v6)
def Kg(fu:Nat)(a:(aC×Int×Int×ζ))(c:Int)(b:ζ):ε (aC×Int×Int×ζ):=
 (if a.2.2.2=0 then θ (a.1,a.2.1,c,b)else θ a)
def axr(fu:Nat)(a:ζ):ε η:=
 (((if 65<=a then(if a<=90 then θ μ else(if 97<=a then θ (decide (a<=122))else θ ν))else(if 97<=a then θ (decide (a<=122))else θ ν))).bind λb=>θ b)
def bkb(fu:Nat)(a:ζ)(b:Int):ε η:=
 ((((axr fu a).bind λi=>(bif i then θ μ else((XK fu a).bind λh=>(bif h then θ μ else((YG fu ([45,95,46,33,126,42,39,40,41]) a).bind λg=>θ g)))))).bind λf=>(bif f then θ μ else(if b=0 then((YG fu ([38,61,43,36,44,59,63,47]) a).bind λe=>θ e)else(if b=1 then((YG fu ([91,93,47,58,38,43,36]) a).bind λd=>θ d)else(if b=2 then((YG fu ([91,93,47,63,58,43,36]) a).bind λc=>θ c)else θ ν)))))
def afa(fu:Nat)(b:(aC×Int×Int×ζ))(d:Int)(n:Int)(m:(δ ζ)->Int->ε ((δ ζ)⊕(aC×(aC×Int×Int×ζ))))(f:δ ζ)(a:Int):ε ((δ ζ)⊕(aC×(aC×Int×Int×ζ))):=
 (if a<d then(gd (0<=a/\a<γ b.1)<|(((if((at_ b.1 a).toNat)=(37:Int)then(gd (0<=d/\d<=γ b.1)<|((bcy fu (eZ (bH d) b.1) a).bind λe=>(((if e<0 then θ μ else((ua fu (XU e)).bind λl=>θ l))).bind λk=>(bif k then((Kg fu b a 5).bind λj=>θ (.inr ([],j)))else(gd (bK (a+2))<|some (.inl (a+2,e)))))))else((bkb fu (XU ((at_ b.1 a).toNat)) n).bind λi=>(bif (!i)then((Kg fu b a 5).bind λh=>θ (.inr ([],h)))else θ (.inl (a,((at_ b.1 a).toNat))))))).bind λg=>dE (λc=>(gd ((γ f+γ ([XU c.2]))*1<=140737488355328)<|(gd (bK (c.1+1))<|(m (f++([XU c.2])) (c.1+1))))) (λq=>θ (.inr q)) g))else θ (.inl f))
def ahy(fu:Nat)(f:(aC×Int×Int×ζ))(e:Int)(d:Int):Nat->(δ ζ)->Int->ε ((δ ζ)⊕(aC×(aC×Int×Int×ζ))):=λc b a=>bD (λg v=>afa fu f e d (λb a=>g (b,a)) v.1 v.2) c (b,a)
theorem akm:ahy a g c e (b+1) f r=afa a g c e (ahy a g c e b) f r:=rfl
def uh(fu:Nat)(a:(aC×Int×Int×ζ))(b:Int)(e:Int):ε (aC×(aC×Int×Int×ζ)):=
 (((ahy fu a b e fu [] a.2.1)).bind λd=>dE (λ(c:δ ζ)=>θ (c,(a.1,b,a.2.2.1,a.2.2.2))) (λq=>θ q) d)
def ajl(fu:Nat)(b:(aC×Int×Int×ζ))(d:Int)(g:Int->ε (Unit⊕(aC×(aC×Int×Int×ζ))))(a:Int):ε (Unit⊕(aC×(aC×Int×Int×ζ))):=
 (if a<d then(gd (0<=a/\a<γ b.1)<|(if(at_ b.1 a)=58 then((uh fu (b.1,b.2.1,0,0) a 0).bind λc=>((Kg fu b c.2.2.2.1 c.2.2.2.2).bind λf=>((Kg fu f a 15).bind λe=>θ (.inr ([],e)))))else(gd (bK (a+1))<|(g (a+1)))))else θ (.inl ()))
def ahg(fu:Nat)(d:(aC×Int×Int×ζ))(b:Int):Nat->Int->ε (Unit⊕(aC×(aC×Int×Int×ζ))):=λc a=>bD (λg v=>ajl fu d b (λa=>g a) v) c a
theorem axo:ahg a g c (b+1) e=ajl a g c (ahg a g c b) e:=rfl
def alt(fu:Nat)(a:(aC×Int×Int×ζ)):ε (aC×(aC×Int×Int×ζ)):=
 ((YI fu a [64]).bind λb=>(if b=γ a.1 then θ ([],a)else(((ahg fu a b fu a.2.1)).bind λf=>dE (λg=>(((if b=a.2.1 then((Kg fu a b 5).bind λd=>θ (d.1,d.2.1,d.2.2.1,d.2.2.2))else θ (a.1,a.2.1,a.2.2.1,a.2.2.2))).bind λe=>((uh fu e b 0).bind λc=>(gd (bK (b+1))<|some (c.1,(c.2.1,b+1,c.2.2.2.1,c.2.2.2.2)))))) (λq=>θ q) f)))
def NB(fu:Nat)(a:(aC×Int×Int×ζ))(c:ζ):ε η:=
 (((if a.2.2.2=0 then(if a.2.1<γ a.1 then(gd (0<=a.2.1/\a.2.1<γ a.1)<|some (decide ((at_ a.1 a.2.1)=c)))else θ ν)else θ ν)).bind λb=>θ b)
def art(fu:Nat)(s_0:aC)(e:ζ)(d:(δ aC)->Int->Int->ε ((δ aC)×Int))(c:δ aC)(b:Int)(a:Int):ε ((δ aC)×Int):=
 (if a<γ s_0 then(gd (0<=a/\a<γ s_0)<|(if(at_ s_0 a)=e then(gd (0<=b/\b<=a/\a<=γ s_0)<|(gd ((γ c+γ ([sub s_0 b a]:δ aC))*16<=140737488355328)<|(gd (bK (a+1))<|(gd (bK (a+1))<|(d (c++([sub s_0 b a]:δ aC)) (a+1) (a+1))))))else(gd (bK (a+1))<|(d c b (a+1)))))else θ (c,b))
def anh(fu:Nat)(s_0:aC)(e:ζ):Nat->(δ aC)->Int->Int->ε ((δ aC)×Int):=λd c b a=>bD (λg v=>art fu s_0 e (λc b a=>g (c,b,a)) v.1 v.2.1 v.2.2) d (c,b,a)
theorem bem:anh a d h (b+1) i c e=art a d h (anh a d h b) i c e:=rfl
def axq(fu:Nat)(s_0:aC)(b:ζ):ε (δ aC):=
 (((anh fu s_0 b fu [] 0 0)).bind λa=>(gd (0<=a.2/\a.2<=γ s_0)<|(gd ((γ a.1+γ ([cC (bH a.2) s_0]:δ aC))*16<=140737488355328)<|some (a.1++([cC (bH a.2) s_0]:δ aC)))))
def anj(fu:Nat)(s_0:aC)(c:Int->ε (Unit⊕(aC×η)))(a:Int):ε (Unit⊕(aC×η)):=
 (if a<γ s_0 then(gd (0<=a/\a<γ s_0)<|((bg fu (at_ s_0 a)).bind λb=>(if b<0 then θ (.inr ([],ν))else(gd (bK (a+1))<|(c (a+1))))))else θ (.inl ()))
def awc(fu:Nat)(s_0:aC):Nat->Int->ε (Unit⊕(aC×η)):=λb a=>bD (λg v=>anj fu s_0 (λa=>g a) v) b a
theorem ayy:awc a d (b+1) c=anj a d (awc a d b) c:=rfl
def aub(fu:Nat)(c:aC->ε aC)(a:aC):ε aC:=
 (((if 1<(γ a:Int)then(gd (0<=(0:Int)/\0<(γ a:Int))<|some (decide ((at_ a 0)=48)))else θ ν)).bind λb=>(bif b then(gd (0<=(1:Int)/\1<=(γ a:Int))<|(c (cC (bH 1) a)))else θ a))
def awb(fu:Nat):Nat->aC->ε aC:=λb a=>bD (λg v=>aub fu (λa=>g a) v) b a
theorem bgs:awb a (b+1) d=aub a (awb a b) d:=rfl
def bfe(fu:Nat)(s_0:aC):ε (aC×η):=
 (((if γ s_0<(1:Int)then θ μ else θ (decide (4<(γ s_0:Int))))).bind λa=>(bif a then θ ([],ν)else(((awc fu s_0 fu 0)).bind λd=>dE (λe=>(((awb fu fu s_0)).bind λc=>((IM fu c).bind λb=>θ (b,μ)))) (λq=>θ q) d)))
def arv(fu:Nat)(b:δ aC)(f:aC->Int->ε (aC⊕(aC×Int×η)))(c:aC)(a:Int):ε (aC⊕(aC×Int×η)):=
 (if a<γ b then(gd (0<=a/\a<γ b)<|(gd (0<=a/\a<γ b)<|((bfe fu (el b a)).bind λd=>(bif (!d.2)then θ (.inr ([],0,ν))else(((if 0<a then(gd (γ c+γ ([58]:aC)<=9223372036854775807)<|some (c++[58]))else θ c)).bind λe=>(gd (γ e+γ d.1<=9223372036854775807)<|(gd (bK (a+1))<|(f (e++d.1) (a+1)))))))))else θ (.inl c))
def ani(fu:Nat)(c:δ aC):Nat->aC->Int->ε (aC⊕(aC×Int×η)):=λd b a=>bD (λg v=>arv fu c (λb a=>g (b,a)) v.1 v.2) d (b,a)
theorem beo:ani a i (b+1) d c=arv a i (ani a i b) d c:=rfl
def asx(fu:Nat)(s_0:aC):ε (aC×Int×η):=
 (if s_0=[]then θ ([],0,μ)else((axq fu s_0 58).bind λa=>(((ani fu a fu [] 0)).bind λc=>dE (λb=>θ (b,γ a,μ)) (λq=>θ q) c)))
def aya(fu:Nat)(s_0:aC)(f:Int->ε (Unit⊕(aC×η)))(a:Int):ε (Unit⊕(aC×η)):=
 (gd (bK (a+1))<|(if(a+1)<γ s_0 then(((gd (0<=a/\a<γ s_0)<|(if(at_ s_0 a)=58 then(gd (bK (a+1))<|(gd (0<=(a+1)/\(a+1)<γ s_0)<|some (!decide ((at_ s_0 (a+1))=58))))else θ μ))).bind λe=>(bif e then(gd (bK (a+1))<|(f (a+1)))else(gd (0<=a/\a<=γ s_0)<|((asx fu (eZ (bH a) s_0)).bind λb=>(gd (bK (a+2))<|(gd (0<=(a+2)/\(a+2)<=γ s_0)<|((asx fu (cC (bH (a+2)) s_0)).bind λc=>(((bif (!b.2.2)then θ μ else(bif (!c.2.2)then θ μ else(gd (bK (b.2.1+c.2.1))<|some (decide (7<(b.2.1+c.2.1))))))).bind λd=>(bif d then θ (.inr ([],ν))else(gd (γ b.1+γ ([58,58]:aC)<=9223372036854775807)<|(gd (γ (b.1++([58,58]))+γ c.1<=9223372036854775807)<|some (.inr ((b.1++([58,58]))++c.1,μ)))))))))))))else θ (.inl ())))
def aqd(fu:Nat)(s_0:aC):Nat->Int->ε (Unit⊕(aC×η)):=λb a=>bD (λg v=>aya fu s_0 (λa=>g a) v) b a
theorem bka:aqd a d (b+1) c=aya a d (aqd a d b) c:=rfl
def blf(fu:Nat)(s_0:aC):ε (aC×η):=
 (((aqd fu s_0 fu 0)).bind λc=>dE (λd=>((asx fu s_0).bind λa=>(((bif a.2.2 then θ (decide (a.2.1=8))else θ ν)).bind λb=>θ (a.1,b)))) (λq=>θ q) c)
def atz(fu:Nat)(s_0:aC)(c:η->Int->ε (η⊕(η×η)))(b:η)(a:Int):ε (η⊕(η×η)):=
 (if a<γ s_0 then(((gd (0<=a/\a<γ s_0)<|((axr fu (at_ s_0 a)).bind λg=>(bif (!g)then(gd (0<=a/\a<γ s_0)<|((XK fu (at_ s_0 a)).bind λf=>(bif (!f)then(gd (0<=a/\a<γ s_0)<|some (!decide ((at_ s_0 a)=45)))else θ ν)))else θ ν)))).bind λe=>(bif e then θ (.inr (ν,ν))else(bif b then(gd (bK (a+1))<|(c μ (a+1)))else(gd (0<=a/\a<γ s_0)<|((XK fu (at_ s_0 a)).bind λd=>(gd (bK (a+1))<|(c (!d) (a+1))))))))else θ (.inl b))
def ub(fu:Nat)(s_0:aC):Nat->η->Int->ε (η⊕(η×η)):=λc b a=>bD (λg v=>atz fu s_0 (λb a=>g (b,a)) v.1 v.2) c (b,a)
theorem bgq:ub a d (b+1) k c=atz a d (ub a d b) k c:=rfl
def bfd(fu:Nat)(s_0:aC):ε (η×η):=
 (((if γ s_0<(1:Int)then θ μ else(if 63<(γ s_0:Int)then θ μ else(gd (0<=(0:Int)/\0<(γ s_0:Int))<|(if(at_ s_0 0)=45 then θ μ else(gd (bK (γ s_0-1))<|(gd (0<=(γ s_0-(1:Int))/\(γ s_0-1)<(γ s_0:Int))<|some (decide ((at_ s_0 (γ s_0-1))=45))))))))).bind λc=>(bif c then θ (ν,ν)else(((ub fu s_0 fu ν 0)).bind λb=>dE (λa=>θ (μ,a)) (λq=>θ q) b)))
def aru(fu:Nat)(s_0:aC)(d:Int->Int->ε (Int⊕η))(b:Int)(a:Int):ε (Int⊕η):=
 (if a<γ s_0 then(gd (0<=a/\a<γ s_0)<|((XK fu (at_ s_0 a)).bind λc=>(bif (!c)then θ (.inr ν)else(gd (bK (10*b))<|(gd (0<=a/\a<γ s_0)<|(gd (bK ((10*b)+(((at_ s_0 a)-48).toNat)))<|(gd (bK (a+1))<|(d ((10*b)+(((at_ s_0 a)-48).toNat)) (a+1)))))))))else θ (.inl b))
def ajp(fu:Nat)(s_0:aC):Nat->Int->Int->ε (Int⊕η):=λc b a=>bD (λg v=>aru fu s_0 (λb a=>g (b,a)) v.1 v.2) c (b,a)
theorem ben:ajp a d (b+1) c e=aru a d (ajp a d b) c e:=rfl
def bcx(fu:Nat)(s_0:aC):ε η:=
 (((if γ s_0<(1:Int)then θ μ else(if 3<(γ s_0:Int)then θ μ else(if 1<(γ s_0:Int)then(gd (0<=(0:Int)/\0<(γ s_0:Int))<|some (decide ((at_ s_0 0)=48)))else θ ν)))).bind λa=>(bif a then θ ν else(((ajp fu s_0 fu 0 0)).bind λc=>dE (λb=>θ (decide (b<=255))) (λq=>θ q) c)))
def awg(fu:Nat)(b:δ aC)(g:η->η->Int->ε ((η×η)⊕(aC×η)))(f:η)(e:η)(a:Int):ε ((η×η)⊕(aC×η)):=
 (if a<γ b then(gd (0<=a/\a<γ b)<|(gd (0<=a/\a<γ b)<|((bfd fu (el b a)).bind λd=>(bif (!d.1)then θ (.inr ([],ν))else(((bif e then θ μ else θ d.2)).bind λc=>(bif f then(gd (0<=a/\a<γ b)<|(gd (0<=a/\a<γ b)<|((bcx fu (el b a)).bind λh=>(gd (bK (a+1))<|(g h c (a+1))))))else(gd (bK (a+1))<|(g ν c (a+1)))))))))else θ (.inl (f,e)))
def asn(fu:Nat)(e:δ aC):Nat->η->η->Int->ε ((η×η)⊕(aC×η)):=λd c b a=>bD (λg v=>awg fu e (λc b a=>g (c,b,a)) v.1 v.2.1 v.2.2) d (c,b,a)
theorem bie{d:η}:asn a i (b+1) k d c=awg a i (asn a i b) k d c:=rfl
def oe(fu:Nat)(s_0:aC):ε (aC×η):=
 (((if 2<=(γ s_0:Int)then(gd (0<=(0:Int)/\0<(γ s_0:Int))<|(if(at_ s_0 0)=91 then(gd (bK (γ s_0-1))<|(gd (0<=(γ s_0-(1:Int))/\(γ s_0-1)<(γ s_0:Int))<|some (decide ((at_ s_0 (γ s_0-1))=93))))else θ ν))else θ ν)).bind λd=>(bif d then(gd (bK (γ s_0-1))<|(gd (0<=(1:Int)/\1<=(γ s_0-(1:Int))/\(γ s_0-1)<=(γ s_0:Int))<|((blf fu (sub s_0 1 (γ s_0-1))).bind λa=>(bif (!a.2)then θ ([],ν)else(gd (γ ([91]:aC)+γ a.1<=9223372036854775807)<|(gd (γ ([91]++a.1)+γ ([93]:aC)<=9223372036854775807)<|some ((([91]:aC)++a.1)++([93]:aC),μ)))))))else((axq fu s_0 46).bind λc=>(((asn fu c fu (decide (γ c=(4:Int))) ν 0)).bind λg=>dE (λb=>(((if 255<(γ s_0:Int)then θ μ else(bif (!b.2)then θ (!b.1)else θ ν))).bind λf=>(bif f then θ ([],ν)else((IM fu s_0).bind λe=>θ (e,μ))))) (λq=>θ q) g))))
def oy(fu:Nat)(a:(aC×Int×Int×ζ)):ε (aC×(aC×Int×Int×ζ)):=
 (if a.2.2.2=0 then((YI fu a ([58,59,63])).bind λg=>((((NB fu a 91).bind λh=>(bif h then((YI fu a [93]).bind λf=>(gd (bK (f+1))<|some (min (f+1) (γ a.1))))else θ g))).bind λc=>(gd (0<=a.2.1/\a.2.1<=c/\c<=γ a.1)<|((oe fu (sub a.1 a.2.1 c)).bind λe=>(((bif (!e.2)then((Kg fu a a.2.1 5).bind λb=>θ (b.1,b.2.1,b.2.2.1,b.2.2.2))else θ (a.1,a.2.1,a.2.2.1,a.2.2.2))).bind λd=>θ (e.1,(d.1,c,d.2.2.1,d.2.2.2)))))))else θ ([],a))
def alx(fu:Nat)(s_0:aC)(d:Int->Int->ε (Int⊕(Int×ζ)))(b:Int)(a:Int):ε (Int⊕(Int×ζ)):=
 (if a<γ s_0 then(((gd (0<=a/\a<γ s_0)<|(if(at_ s_0 a)<48 then θ μ else(gd (0<=a/\a<γ s_0)<|(if 57<(at_ s_0 a)then θ μ else θ (decide (10<=a))))))).bind λc=>(bif c then θ (.inr (0,5))else(gd (bK (10*b))<|(gd (0<=a/\a<γ s_0)<|(gd (bK ((10*b)+(((at_ s_0 a)-(48:ζ)).toNat)))<|(gd (bK (a+1))<|(d ((10*b)+(((at_ s_0 a)-48).toNat)) (a+1))))))))else θ (.inl b))
def anr(fu:Nat)(s_0:aC):Nat->Int->Int->ε (Int⊕(Int×ζ)):=λc b a=>bD (λg v=>alx fu s_0 (λb a=>g (b,a)) v.1 v.2) c (b,a)
theorem axa:anr a d (b+1) c e=alx a d (anr a d b) c e:=rfl
def aor(fu:Nat)(s_0:aC):ε (Int×ζ):=
 (((anr fu s_0 fu 0 0)).bind λb=>dE (λa=>(if s_0=[]then θ (0,5)else(if 2147483647<a then θ (0,3)else θ (a,0)))) (λq=>θ q) b)
def adc(fu:Nat)(a:(aC×Int×Int×ζ)):ε (Int×(aC×Int×Int×ζ)):=
 ((NB fu a 58).bind λi=>(bif (!i)then(((((if a.2.1<γ a.1 then((NB fu a 59).bind λn=>(bif (!n)then((NB fu a 63).bind λm=>θ (!m))else θ ν))else θ ν)).bind λl=>(bif l then((Kg fu a a.2.1 5).bind λg=>θ (g.1,g.2.1,g.2.2.1,g.2.2.2))else θ (a.1,a.2.1,a.2.2.1,a.2.2.2)))).bind λk=>θ (0,k))else(gd (bK (a.2.1+1))<|((YI fu (a.1,a.2.1+1,a.2.2.1,a.2.2.2) ([59,63])).bind λf=>(gd (0<=(a.2.1+1)/\(a.2.1+1)<=f/\f<=γ a.1)<|((aor fu (sub a.1 (a.2.1+1) f)).bind λc=>(((if c.2=0 then θ (a.1,a.2.1+1,a.2.2.1,a.2.2.2)else((Kg fu (a.1,a.2.1+1,a.2.2.1,a.2.2.2) (a.2.1+1) c.2).bind λe=>θ (e.1,e.2.1,e.2.2.1,e.2.2.2)))).bind λb=>(((((if c.1<1 then θ μ else θ (decide (65535<c.1)))).bind λj=>(bif j then((Kg fu b b.2.1 3).bind λd=>θ (d.1,d.2.1,d.2.2.1,d.2.2.2))else θ (b.1,b.2.1,b.2.2.1,b.2.2.2)))).bind λh=>θ (c.1,(h.1,f,h.2.2.1,h.2.2.2))))))))))
def air(fu:Nat)(b:(aC×Int×Int×ζ))(e:Int)(d:Int->ε Int)(a:Int):ε Int:=
 (((if a<e then(gd (0<=a/\a<γ b.1)<|some (!decide ((at_ b.1 a)=61)))else θ ν)).bind λc=>(bif c then(gd (bK (a+1))<|(d (a+1)))else θ a))
def ajn(fu:Nat)(d:(aC×Int×Int×ζ))(c:Int):Nat->Int->ε Int:=λb a=>bD (λg v=>air fu d c (λa=>g a) v) b a
theorem awu:ajn a g c (b+1) e=air a g c (ajn a g c b) e:=rfl
def apa(fu:Nat)(l:(aC×Int×Int×ζ))(e:Int)(k:Int):ε (PQ×(aC×Int×Int×ζ)):=
 (((ajn fu l e fu l.2.1)).bind λd=>((uh fu l d k).bind λc=>(((if c.1=[]then((Kg fu c.2 l.2.1 5).bind λj=>θ (j.1,j.2.1,j.2.2.1,j.2.2.2))else θ (c.2.1,c.2.2.1,c.2.2.2.1,c.2.2.2.2))).bind λg=>((IM fu c.1).bind λo=>(((((if k=2 then θ (decide (d=e))else θ ν)).bind λn=>(bif n then((Kg fu g e 5).bind λi=>θ (i.1,i.2.1,i.2.2.1,i.2.2.2))else θ (g.1,g.2.1,g.2.2.1,g.2.2.2)))).bind λb=>(((if d<e then(gd (bK (d+1))<|((uh fu (b.1,d+1,b.2.2.1,b.2.2.2) e k).bind λa=>(((if k=1 then θ (decide (a.1=[]))else θ ν)).bind λm=>(bif m then(gd (bK (d+1))<|((Kg fu a.2 (d+1) 5).bind λh=>θ (h.1,h.2.1,h.2.2.1,h.2.2.2,a.1,μ)))else θ (a.2.1,a.2.2.1,a.2.2.2.1,a.2.2.2.2,a.1,μ)))))else θ (b.1,b.2.1,b.2.2.1,b.2.2.2,[],ν))).bind λf=>θ ((o,f.2.2.2.2.1,f.2.2.2.2.2),(f.1,e,f.2.2.1,f.2.2.2.1))))))))
def aqf(fu:Nat)(b:LQ)(f:aC)(e:Int->ε (Unit⊕Int))(a:Int):ε (Unit⊕Int):=
 (if a<γ b then(gd (0<=a/\a<γ b)<|(gd (0<=a/\a<γ b)<|((IM fu ((el b a).1)).bind λd=>((IM fu f).bind λc=>(if d=c then θ (.inr a)else(gd (bK (a+1))<|(e (a+1))))))))else θ (.inl ()))
def ayb(fu:Nat)(d:LQ)(c:aC):Nat->Int->ε (Unit⊕Int):=λb a=>bD (λg v=>aqf fu d c (λa=>g a) v) b a
theorem bbb:ayb a j d (b+1) c=aqf a j d (ayb a j d b) c:=rfl
def bdl(fu:Nat)(c:LQ)(b:aC):ε Int:=
 (((ayb fu c b fu 0)).bind λa=>dE (λd=>θ (-1)) (λq=>θ q) a)
def IJ(fu:Nat)(a:LQ)(c:aC):ε ζ:=
 ((bdl fu a c).bind λb=>(if 0<=b then θ 7 else(if 16<=(γ a:Int)then θ 4 else θ 0)))
def arw(fu:Nat)(d:LQ)(c:LQ)(b:Int)(f:Int->ε Int)(a:Int):ε Int:=
 (((if 0<a then(gd (bK (a-1))<|(gd (0<=(a-1)/\(a-1)<γ c)<|(gd (0<=(a-1)/\(a-1)<γ c)<|(gd (0<=b/\b<γ d)<|(gd (0<=b/\b<γ d)<|some (!(qZ ((el c (a-1)).1) ((el d b).1)||((el c (a-1)).1)==((el d b).1))))))))else θ ν)).bind λe=>(bif e then(gd (bK (a-1))<|(f (a-1)))else θ a))
def ank(fu:Nat)(e:LQ)(d:LQ)(c:Int):Nat->Int->ε Int:=λb a=>bD (λg v=>arw fu e d c (λa=>g a) v) b a
theorem awy:ank a j s c (b+1) e=arw a j s c (ank a j s c b) e:=rfl
def alw(fu:Nat)(b:LQ)(f:LQ->Int->ε LQ)(c:LQ)(a:Int):ε LQ:=
 (if a<γ b then(((((ank fu b c a fu (γ c))).bind λd=>(gd (0<=d/\d<=γ c)<|(gd ((γ ([]:LQ)+γ (eZ (bH d) c))*40<=140737488355328)<|(gd (0<=a/\a<γ b)<|(gd (0<=a/\a<γ b)<|(gd ((γ ([]++(eZ (bH d) c))+γ ([((el b a).1,(el b a).2.1,((el b a).2.2))]))*40<=140737488355328)<|(gd (0<=d/\d<=γ c)<|(gd ((γ (([]++(eZ (bH d) c))++([((el b a).1,(el b a).2.1,((el b a).2.2))]))+γ (cC (bH d) c))*40<=140737488355328)<|some ((([]++(eZ (bH d) c))++([((el b a).1,(el b a).2.1,((el b a).2.2))]))++(cC (bH d) c))))))))))).bind λe=>(gd (bK (a+1))<|(f e (a+1))))else θ c)
def ajq(fu:Nat)(d:LQ):Nat->LQ->Int->ε LQ:=λc b a=>bD (λg v=>alw fu d (λb a=>g (b,a)) v.1 v.2) c (b,a)
theorem awz:ajq a j (b+1) s c=alw a j (ajq a j b) s c:=rfl
def bo(fu:Nat)(b:LQ):ε LQ:=
 (((ajq fu b fu [] 0)).bind λa=>θ a)
def ajo(fu:Nat)(p:ζ)(o:aC)(n:Int)(m:LQ->ζ->aC->Int->Int->ζ->ε (LQ×aC×Int×Int×ζ))(h:LQ)(l:ζ)(g:aC)(b:Int)(f:Int)(e:ζ):ε (LQ×aC×Int×Int×ζ):=
 ((NB fu (g,b,f,e) l).bind λk=>(bif k then(gd (bK (b+1))<|((YI fu (g,b+1,f,e) o).bind λj=>((apa fu (g,b+1,f,e) j n).bind λa=>((IJ fu h a.1.1).bind λi=>(((if i=0 then θ (a.2.1,a.2.2.1,a.2.2.2.1,a.2.2.2.2)else((Kg fu a.2 (b+1) i).bind λd=>θ (d.1,d.2.1,d.2.2.1,d.2.2.2)))).bind λc=>(gd ((γ h+[a.1].length)*40<=140737488355328)<|(m (h++[a.1]) p c.1 c.2.1 c.2.2.1 c.2.2.2)))))))else θ (h,g,b,f,e)))
def pe(fu:Nat)(k:ζ)(j:aC)(i:Int):Nat->LQ->ζ->aC->Int->Int->ζ->ε (LQ×aC×Int×Int×ζ):=λh f e d c b a=>bD (λg v=>ajo fu k j i (λf e d c b a=>g (f,e,d,c,b,a)) v.1 v.2.1 v.2.2.1 v.2.2.2.1 v.2.2.2.2.1 v.2.2.2.2.2) h (f,e,d,c,b,a)
theorem axp{i:ζ}{g:ζ}:pe a h d c (b+1) j i n e r g=ajo a h d c (pe a h d c b) j i n e r g:=rfl
def CB(fu:Nat)(a:(aC×Int×Int×ζ))(g:ζ)(f:ζ)(e:aC)(d:Int):ε (LQ×(aC×Int×Int×ζ)):=
 (((pe fu f e d fu [] g a.1 a.2.1 a.2.2.1 a.2.2.2)).bind λb=>((bo fu b.1).bind λc=>θ (c,b.2)))
def aeg(fu:Nat)(b:(aC×Int×Int×ζ))(f:Int)(d:η)(e:(δ ζ)->Int->ε ((δ ζ)⊕(aC×(aC×Int×Int×ζ))))(c:δ ζ)(a:Int):ε ((δ ζ)⊕(aC×(aC×Int×Int×ζ))):=
 (if a<f then(gd (0<=a/\a<γ b.1)<|((((XK fu (at_ b.1 a)).bind λj=>(bif j then θ μ else(bif (!d)then(if(at_ b.1 a)=42 then θ μ else(if(at_ b.1 a)=35 then θ μ else(bif d then θ (decide (a=b.2.1))else θ ν)))else(bif d then θ (decide (a=b.2.1))else θ ν))))).bind λi=>(bif i then(gd ((γ c+γ ([at_ b.1 a]))*1<=140737488355328)<|(gd (bK (a+1))<|(e (c++([at_ b.1 a])) (a+1))))else((YG fu ([45,46,40,41]) (at_ b.1 a)).bind λh=>(bif (!h)then((Kg fu b a 5).bind λg=>θ (.inr ([],g)))else(gd (bK (a+1))<|(e c (a+1))))))))else θ (.inl c))
def ui(fu:Nat)(f:(aC×Int×Int×ζ))(d:Int)(c:η):Nat->(δ ζ)->Int->ε ((δ ζ)⊕(aC×(aC×Int×Int×ζ))):=λe b a=>bD (λg v=>aeg fu f d c (λb a=>g (b,a)) v.1 v.2) e (b,a)
theorem aiy:ui a g c k (b+1) f e=aeg a g c k (ui a g c k b) f e:=rfl
def aev(fu:Nat)(a:(aC×Int×Int×ζ)):ε (aC×(aC×Int×Int×ζ)):=
 ((YI fu a [59]).bind λh=>((NB fu a 43).bind λg=>(((ui fu a h g fu [] a.2.1)).bind λj=>dE (λ(e:δ ζ)=>(((bif g then(gd (bK (γ e-1))<|some (γ e-(1:Int)))else θ (γ e))).bind λi=>(((if i<1 then((Kg fu a a.2.1 5).bind λd=>θ (d.1,d.2.1,d.2.2.1,d.2.2.2))else θ (a.1,a.2.1,a.2.2.1,a.2.2.2))).bind λb=>(((if 30<i then((Kg fu b a.2.1 4).bind λc=>θ (c.1,c.2.1,c.2.2.1,c.2.2.2))else θ (b.1,b.2.1,b.2.2.1,b.2.2.2))).bind λf=>θ (e,(f.1,h,f.2.2.1,f.2.2.2)))))) (λq=>θ q) j)))
def bfg(fu:Nat)(s_0:aC):ε (UQ×Int×ζ):=
 (if 1024<(γ s_0:Int)then θ (([],[],[],0,[],[]),1024,4)else((YI fu (s_0,0,0,0) [58]).bind λb=>(if b=γ s_0 then θ (([],[],[],0,[],[]),γ s_0,5)else(gd (0<=b/\b<=γ s_0)<|((IM fu (eZ (bH b) s_0)).bind λe=>(gd (bK (b+1))<|(((((if e=([115,105,112])then θ (decide (e=([115,105,112])))else θ (decide (e=([115,105,112,115]))))).bind λl=>(bif l then((alt fu (s_0,b+1,0,0)).bind λj=>((oy fu j.2).bind λi=>((adc fu i.2).bind λh=>((CB fu h.2 59 59 ([59,63]) 1).bind λg=>((CB fu g.2 63 38 [38] 2).bind λd=>θ (.inl (d.2.1,d.2.2.1,d.2.2.2.1,d.2.2.2.2,j.1,i.1,h.1,g.1,d.1)))))))else(if e=([116,101,108])then((aev fu (s_0,b+1,0,0)).bind λf=>((CB fu f.2 59 59 [59] 1).bind λc=>θ (.inl (c.2.1,c.2.2.1,c.2.2.2.1,c.2.2.2.2,f.1,[],0,c.1,[]))))else θ (.inr (([],[],[],0,[],[]),0,15)))))).bind λk=>dE (λa=>(if a.2.2.2.1=0 then θ ((e,a.2.2.2.2.1,a.2.2.2.2.2.1,a.2.2.2.2.2.2.1,a.2.2.2.2.2.2.2.1,a.2.2.2.2.2.2.2.2),0,0)else θ (([],[],[],0,[],[]),a.2.2.1,a.2.2.2.1))) (λq=>θ q) k)))))))
def blg(fu:Nat)(s_0:aC)(a:Int)(d:ζ):ε (Int×ζ):=
 (((if a<0 then θ μ else θ (decide (γ s_0<a)))).bind λb=>(bif b then θ (0,2)else(((if a=γ s_0 then θ μ else(gd (0<=a/\a<γ s_0)<|some (!decide ((at_ s_0 a)=d))))).bind λc=>(bif c then θ (a,5)else θ (0,0)))))
def big(fu:Nat)(s_0:aC)(a:Int):ε (Int×Int×ζ):=
 (if γ s_0<=a then θ (0,γ s_0,6)else(gd (0<=a/\a<γ s_0)<|((ua fu (at_ s_0 a)).bind λb=>(bif b then θ (0,a,5)else(gd (0<=a/\a<γ s_0)<|(if(at_ s_0 a)=92 then(gd (bK (a+1))<|(if γ s_0<=(a+1)then θ (0,γ s_0,6)else(((gd (bK (a+1))<|(gd (0<=(a+1)/\(a+1)<γ s_0)<|(if(at_ s_0 (a+1))<32 then θ μ else(gd (bK (a+1))<|(gd (0<=(a+1)/\(a+1)<γ s_0)<|some (decide (126<(at_ s_0 (a+1)))))))))).bind λc=>(bif c then θ (0,a,5)else θ (2,0,0)))))else θ (1,0,0)))))))
def bs(fu:Nat)(s_0:aC)(e:(δ ζ)->Int->ε (aC×Int×ζ))(c:δ ζ)(a:Int):ε (aC×Int×ζ):=
 ((big fu s_0 a).bind λb=>(if b.2.2=0 then(((if b.1=1 then(gd (0<=a/\a<γ s_0)<|some (decide ((at_ s_0 a)=34)))else θ ν)).bind λd=>(bif d then(gd (bK (a+1))<|some (c,a+1,0))else(gd (bK (a+b.1))<|(gd (bK ((a+b.1)-1))<|(gd (0<=((a+b.1)-1)/\((a+b.1)-1)<γ s_0)<|(gd ((γ c+γ ([at_ s_0 ((a+b.1)-(1:Int))]))*1<=140737488355328)<|(gd (bK (a+b.1))<|(e (c++([at_ s_0 ((a+b.1)-(1:Int))])) (a+b.1)))))))))else θ ([],b.2.1,b.2.2)))
def arz(fu:Nat)(s_0:aC):Nat->(δ ζ)->Int->ε (aC×Int×ζ):=λc b a=>bD (λg v=>bs fu s_0 (λb a=>g (b,a)) v.1 v.2) c (b,a)
theorem uf:arz a d (b+1) f c=bs a d (arz a d b) f c:=rfl
def aqh(fu:Nat)(s_0:aC)(b:Int):ε (aC×Int×ζ):=
 ((blg fu s_0 b 34).bind λa=>(if a.2=0 then(gd (bK (b+1))<|(arz fu s_0 fu [] (b+1)))else θ ([],a.1,a.2)))
def ane(fu:Nat)(s_0:aC)(c:Int->ε Int)(a:Int):ε Int:=
 (((if a<γ s_0 then(gd (0<=a/\a<γ s_0)<|some (!decide ((at_ s_0 a)=93)))else θ ν)).bind λb=>(bif b then(gd (bK (a+1))<|(c (a+1)))else θ a))
def avx(fu:Nat)(s_0:aC):Nat->Int->ε Int:=λb a=>bD (λg v=>ane fu s_0 (λa=>g a) v) b a
theorem ayw:avx a d (b+1) c=ane a d (avx a d b) c:=rfl
def bfc(fu:Nat)(s_0:aC)(a:Int):ε (aC×Int×ζ):=
 (((if a<γ s_0 then(gd (0<=a/\a<γ s_0)<|some (decide ((at_ s_0 a)=34)))else θ ν)).bind λv6=>(bif v6 then((aqh fu s_0 a).bind λd=>θ (d.1,d.2.1,d.2.2))else(((((if a<γ s_0 then(gd (0<=a/\a<γ s_0)<|some (decide ((at_ s_0 a)=91)))else θ ν)).bind λg=>(bif g then(((avx fu s_0 fu a)).bind λb=>(gd (bK (b+1))<|(gd (0<=a/\a<=(min (b+1) (γ s_0))/\(min (b+1) (γ s_0))<=γ s_0)<|((oe fu (sub s_0 a (min (b+1) (γ s_0)))).bind λe=>(bif (!e.2)then θ (.inr ([],a,5))else(gd (bK (b+1))<|some (.inr (e.1,b+1,0))))))))else θ (.inl ())))).bind λf=>dE (λh=>((bq fu s_0 a).bind λc=>(if c=a then θ ([],a,5)else(gd (0<=a/\a<=c/\c<=γ s_0)<|some (sub s_0 a c,c,0))))) (λq=>θ q) f)))
def arx(fu:Nat)(s_0:aC)(n:LQ->Int->ε (LQ⊕(LQ×Int×ζ)))(g:LQ)(c:Int):ε (LQ⊕(LQ×Int×ζ)):=
 (if c<γ s_0 then(gd (0<=c/\c<γ s_0)<|(if(at_ s_0 c)=59 then(gd (bK (c+1))<|((MY fu s_0 (c+1)).bind λb=>((bq fu s_0 b).bind λf=>(if f=b then θ (.inr ([],b,5))else(gd (0<=b/\b<=f/\f<=γ s_0)<|((IM fu (sub s_0 b f)).bind λh=>((MY fu s_0 f).bind λa=>(((((if a<γ s_0 then(gd (0<=a/\a<γ s_0)<|some (decide ((at_ s_0 a)=61)))else θ ν)).bind λm=>(bif m then(gd (bK (a+1))<|((MY fu s_0 (a+1)).bind λl=>((bfc fu s_0 l).bind λe=>(if e.2.2=0 then((MY fu s_0 e.2.1).bind λk=>θ (.inl (k,e.1,μ)))else θ (.inr ([],e.2.1,e.2.2))))))else θ (.inl (a,[],ν))))).bind λj=>dE (λd=>((IJ fu g h).bind λi=>(if i=0 then(gd ((γ g+γ ([(h,d.2.1,d.2.2)]))*40<=140737488355328)<|(n (g++([(h,d.2.1,d.2.2)])) d.1))else θ (.inr ([],b,i))))) (λq=>θ (.inr q)) j))))))))else θ (.inr ([],c,5))))else θ (.inl g))
def anl(fu:Nat)(s_0:aC):Nat->LQ->Int->ε (LQ⊕(LQ×Int×ζ)):=λc b a=>bD (λg v=>arx fu s_0 (λb a=>g (b,a)) v.1 v.2) c (b,a)
theorem bep:anl a d (b+1) j c=arx a d (anl a d b) j c:=rfl
def aop(fu:Nat)(s_0:aC):ε (LQ×Int×ζ):=
 ((MY fu s_0 0).bind λa=>(((anl fu s_0 fu [] a)).bind λc=>dE (λb=>θ (b,0,0)) (λq=>θ q) c))
def azn(fu:Nat)(s_0:aC)(f:aC)(d:Int)(e:Int)(c:Int):ε (AQ×Int×ζ):=
 (gd (0<=d/\d<=e/\e<=γ s_0)<|((bfg fu (sub s_0 d e)).bind λa=>(if a.2.2=0 then(gd (0<=c/\c<=γ s_0)<|((aop fu (cC (bH c) s_0)).bind λb=>(if b.2.2=0 then θ ((f,a.1,b.1),0,0)else(gd (bK (c+b.2.1))<|some (([],([],[],[],0,[],[]),[]),c+b.2.1,b.2.2)))))else(gd (bK (d+a.2.1))<|some (([],([],[],[],0,[],[]),[]),d+a.2.1,a.2.2)))))
def awe(fu:Nat)(s_0:aC)(d:Int->ε Int)(a:Int):ε Int:=
 (((if a<γ s_0 then(gd (0<=a/\a<γ s_0)<|(if(at_ s_0 a)=59 then θ ν else(gd (0<=a/\a<γ s_0)<|((y4 fu (at_ s_0 a)).bind λc=>θ (!c)))))else θ ν)).bind λb=>(bif b then(gd (bK (a+1))<|(d (a+1)))else θ a))
def ayd(fu:Nat)(s_0:aC):Nat->Int->ε Int:=λb a=>bD (λg v=>awe fu s_0 (λa=>g a) v) b a
theorem bic:ayd a d (b+1) c=awe a d (ayd a d b) c:=rfl
def awd(fu:Nat)(s_0:aC)(d:Int)(c:Int->ε (Unit⊕(AQ×Int×ζ)))(a:Int):ε (Unit⊕(AQ×Int×ζ)):=
 (if a<d then(((gd (0<=a/\a<γ s_0)<|(if(at_ s_0 a)=63 then θ μ else(gd (0<=a/\a<γ s_0)<|some (decide ((at_ s_0 a)=44)))))).bind λb=>(bif b then θ (.inr (([],([],[],[],0,[],[]),[]),a,5))else(gd (bK (a+1))<|(c (a+1)))))else θ (.inl ()))
def ayc(fu:Nat)(s_0:aC)(c:Int):Nat->Int->ε (Unit⊕(AQ×Int×ζ)):=λb a=>bD (λg v=>awd fu s_0 c (λa=>g a) v) b a
theorem bib:ayc a d c (b+1) e=awd a d c (ayc a d c b) e:=rfl
def bid(fu:Nat)(s_0:aC)(c:Int):ε (AQ×Int×ζ):=
 (((ayd fu s_0 fu c)).bind λb=>(((ayc fu s_0 b fu c)).bind λd=>dE (λe=>((azn fu s_0 [] c b b).bind λa=>θ (a.1,a.2.1,a.2.2))) (λq=>θ q) d))
def ake(fu:Nat)(s_0:aC)(g:Int)(f:Int->aC->ε (aC⊕(aC×Int×Int×ζ)))(a:Int)(c:aC):ε (aC⊕(aC×Int×Int×ζ)):=
 (if a<g then((bq fu s_0 a).bind λb=>(if b=a then θ (.inr ([],0,a,5))else(((if c=[]then θ c else(gd (γ c+γ ([32]:aC)<=9223372036854775807)<|some (c++[32])))).bind λd=>(gd (0<=a/\a<=b/\b<=γ s_0)<|(gd (γ d+γ (sub s_0 a b)<=9223372036854775807)<|((MY fu s_0 b).bind λe=>(f e (d++(sub s_0 a b)))))))))else θ (.inl c))
def alv(fu:Nat)(s_0:aC)(d:Int):Nat->Int->aC->ε (aC⊕(aC×Int×Int×ζ)):=λc b a=>bD (λg v=>ake fu s_0 d (λb a=>g (b,a)) v.1 v.2) c (b,a)
theorem avg:alv a d c (b+1) e n=ake a d c (alv a d c b) e n:=rfl
def bbc(fu:Nat)(s_0:aC)(c:Int)(d:Int):ε (aC×Int×Int×ζ):=
 (gd (0<=c/\c<γ s_0)<|(if(at_ s_0 c)=34 then((aqh fu s_0 c).bind λb=>(if b.2.2=0 then((MY fu s_0 b.2.1).bind λa=>(((if a=γ s_0 then θ μ else(gd (0<=a/\a<γ s_0)<|some (!decide ((at_ s_0 a)=60))))).bind λg=>(bif g then θ ([],0,a,5)else θ (b.1,a,0,0))))else θ ([],0,b.2.1,b.2.2)))else(((alv fu s_0 d fu c [])).bind λf=>dE (λe=>θ (e,d,0,0)) (λq=>θ q) f)))
def akf(fu:Nat)(s_0:aC):ε (AQ×Int×ζ):=
 (if 1024<(γ s_0:Int)then θ (([],([],[],[],0,[],[]),[]),1024,4)else((MY fu s_0 0).bind λa=>((awa fu s_0 a 60).bind λf=>(((if f<0 then(if a=γ s_0 then θ μ else(gd (0<=a/\a<γ s_0)<|some (!decide ((at_ s_0 a)=34))))else θ ν)).bind λg=>(bif g then((bid fu s_0 a).bind λe=>θ (e.1,e.2.1,e.2.2))else((bbc fu s_0 a f).bind λb=>(if b.2.2.2=0 then((awa fu s_0 b.2.1 62).bind λc=>(if c<0 then θ (([],([],[],[],0,[],[]),[]),γ s_0,5)else(gd (bK (b.2.1+1))<|(gd (bK (c+1))<|((azn fu s_0 b.1 (b.2.1+1) c (c+1)).bind λd=>θ (d.1,d.2.1,d.2.2))))))else θ (([],([],[],[],0,[],[]),[]),b.2.2.1,b.2.2.2))))))))
def baz(fu:Nat)(c:aC):ε (AQ×ζ):=
 ((bj fu c).bind λb=>((akf fu b).bind λa=>θ (a.1,a.2.2)))
def anf(fu:Nat)(s_0:aC)(c:Int->ε (Unit⊕η))(a:Int):ε (Unit⊕η):=
 (if a<γ s_0 then(gd (0<=a/\a<γ s_0)<|((ua fu (at_ s_0 a)).bind λb=>(bif b then θ (.inr ν)else(gd (bK (a+1))<|(c (a+1))))))else θ (.inl ()))
def avy(fu:Nat)(s_0:aC):Nat->Int->ε (Unit⊕η):=λb a=>bD (λg v=>anf fu s_0 (λa=>g a) v) b a
theorem ayx:avy a d (b+1) c=anf a d (avy a d b) c:=rfl
def tp(fu:Nat)(s_0:aC):ε η:=
 (((avy fu s_0 fu 0)).bind λa=>dE (λb=>θ μ) (λq=>θ q) a)
def aty(fu:Nat)(b:LQ)(c:Int)(m:Int->ε (Unit⊕η))(a:Int):ε (Unit⊕η):=
 (if a<γ b then(gd (0<=a/\a<γ b)<|(gd (0<=a/\a<γ b)<|(((if((el b a).1)=[]then θ μ else((tp fu ((el b a).1)).bind λl=>(bif (!l)then θ μ else((tp fu ((el b a).2.1)).bind λk=>(bif (!k)then θ μ else(bif (!((el b a).2.2))then(if((el b a).2.1)=[]then(if c=2 then θ μ else(bif ((el b a).2.2)then(if((el b a).2.1)=[]then(if c=1 then θ μ else(gd (0<=a/\a<=γ b)<|((IJ fu (eZ (bH a) b) ((el b a).1)).bind λj=>θ (!decide (j=0)))))else(gd (0<=a/\a<=γ b)<|((IJ fu (eZ (bH a) b) ((el b a).1)).bind λi=>θ (!decide (i=0)))))else(gd (0<=a/\a<=γ b)<|((IJ fu (eZ (bH a) b) ((el b a).1)).bind λh=>θ (!decide (h=0))))))else θ μ)else(bif ((el b a).2.2)then(if((el b a).2.1)=[]then(if c=1 then θ μ else(gd (0<=a/\a<=γ b)<|((IJ fu (eZ (bH a) b) ((el b a).1)).bind λg=>θ (!decide (g=0)))))else(gd (0<=a/\a<=γ b)<|((IJ fu (eZ (bH a) b) ((el b a).1)).bind λf=>θ (!decide (f=0)))))else(gd (0<=a/\a<=γ b)<|((IJ fu (eZ (bH a) b) ((el b a).1)).bind λe=>θ (!decide (e=0)))))))))))).bind λd=>(bif d then θ (.inr ν)else(gd (bK (a+1))<|(m (a+1)))))))else θ (.inl ()))
def aqe(fu:Nat)(d:LQ)(c:Int):Nat->Int->ε (Unit⊕η):=λb a=>bD (λg v=>aty fu d c (λa=>g a) v) b a
theorem bgp:aqe a j c (b+1) e=aty a j c (aqe a j c b) e:=rfl
def bba(fu:Nat)(c:LQ)(b:Int):ε η:=
 (((aqe fu c b fu 0)).bind λa=>dE (λd=>θ μ) (λq=>θ q) a)
def apb(fu:Nat)(b:LQ)(e:LQ->Int->ε LQ)(c:LQ)(a:Int):ε LQ:=
 (if a<γ b then(gd (0<=a/\a<γ b)<|(gd (0<=a/\a<γ b)<|((IM fu ((el b a).1)).bind λd=>(gd ((γ c+γ ([(d,(el b a).2.1,((el b a).2.2))]))*40<=140737488355328)<|(gd (bK (a+1))<|(e (c++([(d,(el b a).2.1,((el b a).2.2))])) (a+1)))))))else θ c)
def alu(fu:Nat)(d:LQ):Nat->LQ->Int->ε LQ:=λc b a=>bD (λg v=>apb fu d (λb a=>g (b,a)) v.1 v.2) c (b,a)
theorem bdk:alu a j (b+1) s c=apb a j (alu a j b) s c:=rfl
def avf(fu:Nat)(c:LQ):ε LQ:=
 (((alu fu c fu [] 0)).bind λb=>((bo fu b).bind λa=>θ a))
def atx(fu:Nat)(s_0:aC):ε η:=
 ((aev fu (s_0,0,0,0)).bind λa=>(((if a.2.2.2.2=0 then θ (decide (a.1=s_0))else θ ν)).bind λb=>θ b))
open List renaming set → kZ, take → eZ
def bcz(fu:Nat)(a:UQ):ε (UQ×ζ):=
 ((IM fu a.1).bind λb=>((((bba fu a.2.2.2.2.1 1).bind λm=>(bif (!m)then θ μ else((bba fu a.2.2.2.2.2 2).bind λl=>(bif (!l)then θ μ else((tp fu a.2.1).bind λk=>θ (!k))))))).bind λj=>(bif j then θ (([],[],[],0,[],[]),2)else((avf fu a.2.2.2.2.1).bind λe=>((avf fu a.2.2.2.2.2).bind λc=>(((if b=([115,105,112])then θ (decide (b=([115,105,112])))else θ (decide (b=([115,105,112,115]))))).bind λi=>(bif i then((oe fu a.2.2.1).bind λd=>(((bif (!d.2)then θ μ else(if a.2.2.2.1<0 then θ μ else θ (decide (65535<a.2.2.2.1))))).bind λh=>(bif h then θ (([],[],[],0,[],[]),2)else θ ((b,a.2.1,d.1,a.2.2.2.1,e,c),0))))else(if b=([116,101,108])then(((if a.2.2.1=[]then(if a.2.2.2.1=0 then(if γ c=(0:Int)then((atx fu a.2.1).bind λg=>θ g)else θ ν)else θ ν)else θ ν)).bind λf=>(bif f then θ ((b,a.2.1,a.2.2.1,a.2.2.2.1,e,c),0)else θ (([],[],[],0,[],[]),2)))else θ (([],[],[],0,[],[]),2)))))))))
def ary(fu:Nat)(s_0:aC)(e:Int)(c:(δ ζ)->Int->ε (δ ζ))(b:δ ζ)(a:Int):ε (δ ζ):=
 (if a<γ s_0 then(gd (0<=a/\a<γ s_0)<|((bkb fu (at_ s_0 a) e).bind λd=>(bif d then(gd (0<=a/\a<γ s_0)<|(gd ((γ b+γ ([at_ s_0 a]))*1<=140737488355328)<|(gd (bK (a+1))<|(c (b++([at_ s_0 a])) (a+1)))))else(gd (0<=a/\a<γ s_0)<|(gd ((16:ζ)≠0)<|(gd (0<=(((at_ s_0 a)/(16:ζ)).toNat:Int)/\(((at_ s_0 a)/16).toNat)<(γ ([48,49,50,51,52,53,54,55,56,57,65,66,67,68,69,70]:aC):Int))<|(gd (0<=a/\a<γ s_0)<|(gd ((16:ζ)≠0)<|(gd (0<=(((at_ s_0 a)%(16:ζ)).toNat:Int)/\(((at_ s_0 a)%16).toNat)<(γ ([48,49,50,51,52,53,54,55,56,57,65,66,67,68,69,70]:aC):Int))<|(gd ((γ b+γ ([37,at_ ([48,49,50,51,52,53,54,55,56,57,65,66,67,68,69,70]) (((at_ s_0 a)/(16:ζ)).toNat:Int),at_ ([48,49,50,51,52,53,54,55,56,57,65,66,67,68,69,70]) (((at_ s_0 a)%(16:ζ)).toNat:Int)]))*1<=140737488355328)<|(gd (bK (a+1))<|(c (b++([37,at_ ([48,49,50,51,52,53,54,55,56,57,65,66,67,68,69,70]) (((at_ s_0 a)/16).toNat),at_ ([48,49,50,51,52,53,54,55,56,57,65,66,67,68,69,70]) (((at_ s_0 a)%16).toNat)])) (a+1)))))))))))))else θ b)
def ann(fu:Nat)(s_0:aC)(d:Int):Nat->(δ ζ)->Int->ε (δ ζ):=λc b a=>bD (λg v=>ary fu s_0 d (λb a=>g (b,a)) v.1 v.2) c (b,a)
theorem ber:ann a d c (b+1) f e=ary a d c (ann a d c b) f e:=rfl
def aoq(fu:Nat)(s_0:aC)(b:Int):ε aC:=
 (((ann fu s_0 b fu [] 0)).bind λa=>θ a)
def atw(fu:Nat)(b:LQ)(i:aC)(h:Int)(g:aC->aC->Int->ε aC)(c:aC)(d:aC)(a:Int):ε aC:=
 (if a<γ b then(gd (γ c+γ d<=9223372036854775807)<|(gd (0<=a/\a<γ b)<|(gd (0<=a/\a<γ b)<|((aoq fu ((el b a).1) h).bind λe=>(gd (γ (c++d)+γ e<=9223372036854775807)<|(gd (0<=a/\a<γ b)<|(gd (0<=a/\a<γ b)<|(bif ((el b a).2.2)then(gd (γ ((c++d)++e)+γ ([61]:aC)<=9223372036854775807)<|(gd (0<=a/\a<γ b)<|(gd (0<=a/\a<γ b)<|((aoq fu ((el b a).2.1) h).bind λf=>(gd (γ (((c++d)++e)++[61])+γ f<=9223372036854775807)<|(gd (bK (a+1))<|(g ((((c++d)++e)++[61])++f) i (a+1))))))))else(gd (bK (a+1))<|(g ((c++d)++e) i (a+1)))))))))))else θ c)
def alc(fu:Nat)(h:LQ)(f:aC)(e:Int):Nat->aC->aC->Int->ε aC:=λd c b a=>bD (λg v=>atw fu h f e (λc b a=>g (c,b,a)) v.1 v.2.1 v.2.2) d (c,b,a)
theorem bgo{f:aC}:alc a j d c (b+1) n f e=atw a j d c (alc a j d c b) n f e:=rfl
def tq(fu:Nat)(e:LQ)(d:aC)(c:aC)(b:Int):ε aC:=
 (((alc fu e c b fu [] d 0)).bind λa=>θ a)
def oo:Nat->Int->ε aC
 |0,_=>ι
 |c+1,a=>(if a<(10:Int)then(gd (bK (a+1))<|(gd (0<=a/\a<=(a+1)/\(a+1)<=(γ ([48,49,50,51,52,53,54,55,56,57]:aC):Int))<|some (sub ([48,49,50,51,52,53,54,55,56,57]:aC) a (a+1))))else(gd (0<=a/\0<(10:Int)/\bK (a))<|((oo c (a/(10:Int))).bind λ(b:aC)=>(gd (0<=a/\0<(10:Int)/\bK (a))<|(gd (0<=a/\0<(10:Int)/\bK (a))<|(gd (bK ((a%(10:Int))+1))<|(gd (0<=(a%(10:Int))/\(a%(10:Int))<=((a%(10:Int))+1)/\((a%(10:Int))+1)<=(γ ([48,49,50,51,52,53,54,55,56,57]:aC):Int))<|(gd (γ b+γ (sub ([48,49,50,51,52,53,54,55,56,57]:aC) (a%(10:Int)) ((a%(10:Int))+1))<=9223372036854775807)<|some (b++(sub ([48,49,50,51,52,53,54,55,56,57]:aC) (a%(10:Int)) ((a%(10:Int))+1)))))))))))
def bff(fu:Nat)(i:UQ):ε (aC×ζ):=
 ((bcz fu i).bind λa=>(if a.2=0 then(if a.1.1=([116,101,108])then(gd (γ ([116,101,108,58]:aC)+γ a.1.2.1<=9223372036854775807)<|((tq fu a.1.2.2.2.2.1 [59] [59] 1).bind λh=>(gd (γ (([116,101,108,58])++a.1.2.1)+γ h<=9223372036854775807)<|some ((([116,101,108,58]:aC)++a.1.2.1)++h,0))))else(gd (γ a.1.1+γ ([58]:aC)<=9223372036854775807)<|(((if a.1.2.1=[]then θ (a.1.1++[58])else((aoq fu a.1.2.1 0).bind λe=>(gd (γ (a.1.1++[58])+γ e<=9223372036854775807)<|(gd (γ ((a.1.1++[58])++e)+γ ([64]:aC)<=9223372036854775807)<|some (((a.1.1++[58])++e)++[64])))))).bind λb=>(gd (γ b+γ a.1.2.2.1<=9223372036854775807)<|(((if 0<a.1.2.2.2.1 then(gd (γ (b++a.1.2.2.1)+γ ([58]:aC)<=9223372036854775807)<|((oo fu a.1.2.2.2.1).bind λg=>(gd (γ ((b++a.1.2.2.1)++[58])+γ g<=9223372036854775807)<|some (((b++a.1.2.2.1)++[58])++g))))else θ (b++a.1.2.2.1))).bind λd=>((tq fu a.1.2.2.2.2.1 [59] [59] 1).bind λc=>(gd (γ d+γ c<=9223372036854775807)<|((tq fu a.1.2.2.2.2.2 [63] [38] 2).bind λf=>(gd (γ (d++c)+γ f<=9223372036854775807)<|some ((d++c)++f,0))))))))))else θ ([],a.2)))
def aqg(fu:Nat)(s_0:aC):ε η:=
 ((oe fu s_0).bind λa=>(((bif a.2 then(if a.1=s_0 then(gd (0<=(0:Int)/\0<(γ s_0:Int))<|some (decide ((at_ s_0 0)=91)))else θ ν)else θ ν)).bind λb=>θ b))
def aud(fu:Nat)(s_0:aC)(f:(δ ζ)->Int->ε ((δ ζ)⊕(aC×ζ)))(b:δ ζ)(a:Int):ε ((δ ζ)⊕(aC×ζ)):=
 (if a<γ s_0 then(gd (0<=a/\a<γ s_0)<|((ua fu (at_ s_0 a)).bind λe=>(bif e then θ (.inr ([],5))else(((((gd (0<=a/\a<γ s_0)<|(if(at_ s_0 a)=34 then θ μ else(gd (0<=a/\a<γ s_0)<|some (decide ((at_ s_0 a)=92)))))).bind λd=>(bif d then(gd ((γ b+γ ([(92:ζ)]))*1<=140737488355328)<|some (b++([92])))else θ b))).bind λc=>(gd (0<=a/\a<γ s_0)<|(gd ((γ c+γ ([at_ s_0 a]))*1<=140737488355328)<|(gd (bK (a+1))<|(f (c++([at_ s_0 a])) (a+1)))))))))else θ (.inl b))
def ald(fu:Nat)(s_0:aC):Nat->(δ ζ)->Int->ε ((δ ζ)⊕(aC×ζ)):=λc b a=>bD (λg v=>aud fu s_0 (λb a=>g (b,a)) v.1 v.2) c (b,a)
theorem bgv:ald a d (b+1) f c=aud a d (ald a d b) f c:=rfl
def bbe(fu:Nat)(s_0:aC):ε (aC×ζ):=
 (((ald fu s_0 fu ([34]) 0)).bind λb=>dE (λ(a:δ ζ)=>(gd ((γ a+γ ([(34:ζ)]))*1<=140737488355328)<|some (a++([(34:ζ)]),0))) (λq=>θ q) b)
def ajr(fu:Nat)(b:LQ)(d:aC->Int->ε (aC⊕(aC×ζ)))(c:aC)(a:Int):ε (aC⊕(aC×ζ)):=
 (if a<γ b then(gd (0<=a/\a<γ b)<|(gd (0<=a/\a<γ b)<|((((y5 fu ((el b a).1)).bind λn=>(bif (!n)then θ μ else((IM fu ((el b a).1)).bind λm=>(if m=((el b a).1)then((tp fu ((el b a).2.1)).bind λl=>(bif (!l)then θ μ else(bif (!((el b a).2.2))then(if((el b a).2.1)=[]then(gd (0<=a/\a<=γ b)<|((IJ fu (eZ (bH a) b) ((el b a).1)).bind λk=>θ (!decide (k=0))))else θ μ)else(gd (0<=a/\a<=γ b)<|((IJ fu (eZ (bH a) b) ((el b a).1)).bind λj=>θ (!decide (j=0)))))))else θ μ))))).bind λi=>(bif i then θ (.inr ([],2))else(gd (γ c+γ ([59]:aC)<=9223372036854775807)<|(gd (γ (c++[59])+γ ((el b a).1)<=9223372036854775807)<|(((bif ((el b a).2.2)then((y5 fu ((el b a).2.1)).bind λh=>(bif h then θ μ else((aqg fu ((el b a).2.1)).bind λg=>θ g)))else θ ν)).bind λf=>(bif f then(gd (γ ((c++[59])++((el b a).1))+γ ([61]:aC)<=9223372036854775807)<|(gd (γ (((c++[59])++((el b a).1))++[61])+γ ((el b a).2.1)<=9223372036854775807)<|(gd (bK (a+1))<|(d ((((c++[59])++((el b a).1))++[61])++((el b a).2.1)) (a+1)))))else(bif ((el b a).2.2)then((bbe fu ((el b a).2.1)).bind λe=>(gd (γ ((c++[59])++((el b a).1))+γ ([61]:aC)<=9223372036854775807)<|(gd (γ (((c++[59])++((el b a).1))++[61])+γ e.1<=9223372036854775807)<|(gd (bK (a+1))<|(d ((((c++[59])++((el b a).1))++[61])++e.1) (a+1))))))else(gd (bK (a+1))<|(d ((c++[59])++((el b a).1)) (a+1))))))))))))else θ (.inl c))
def afh(fu:Nat)(d:LQ):Nat->aC->Int->ε (aC⊕(aC×ζ)):=λc b a=>bD (λg v=>ajr fu d (λb a=>g (b,a)) v.1 v.2) c (b,a)
theorem axs:afh a j (b+1) d c=ajr a j (afh a j b) d c:=rfl
def aig(fu:Nat)(c:LQ):ε (aC×ζ):=
 (((afh fu c fu [] 0)).bind λb=>dE (λa=>θ (a,0)) (λq=>θ q) b)
def apd(fu:Nat)(d:AQ):ε (aC×ζ):=
 ((bff fu d.2.1).bind λa=>((bo fu d.2.2).bind λe=>((aig fu e).bind λc=>((bbe fu d.1).bind λb=>(((if a.2=0 then(if c.2=0 then θ (!decide (b.2=0))else θ μ)else θ μ)).bind λf=>(bif f then θ ([],2)else(if d.1=[]then(gd (γ ([60]:aC)+γ a.1<=9223372036854775807)<|(gd (γ ([60]++a.1)+γ ([62]:aC)<=9223372036854775807)<|(gd (γ (([60]++a.1)++[62])+γ c.1<=9223372036854775807)<|some (((([60]:aC)++a.1)++([62]:aC))++c.1,0))))else(gd (γ b.1+γ ([32,60]:aC)<=9223372036854775807)<|(gd (γ (b.1++([32,60]))+γ a.1<=9223372036854775807)<|(gd (γ ((b.1++([32,60]))++a.1)+γ ([62]:aC)<=9223372036854775807)<|(gd (γ (((b.1++([32,60]))++a.1)++[62])+γ c.1<=9223372036854775807)<|some ((((b.1++([32,60]))++a.1)++[62])++c.1,0))))))))))))
def att(fu:Nat)(s_0:aC)(c:aC->Int->ε aC)(b:aC)(a:Int):ε aC:=
 (if a<γ s_0 then(((gd (0<=a/\a<γ b)<|(gd (0<=a/\a<γ b)<|(if 97<=(at_ b a)then(gd (0<=a/\a<γ b)<|(gd (0<=a/\a<γ b)<|some (decide ((at_ b a)<=122))))else θ ν)))).bind λd=>(bif d then(gd (0<=a/\a<γ b)<|(gd (0<=a/\a<γ b)<|(gd (0<=a/\a<γ b)<|(gd (0<=a/\a<γ b)<|(gd (bK (a+1))<|(c (kZ b (bH a) ((at_ b a)-32)) (a+1)))))))else(gd (bK (a+1))<|(c b (a+1)))))else θ b)
def avq(fu:Nat)(s_0:aC):Nat->aC->Int->ε aC:=λc b a=>bD (λg v=>att fu s_0 (λb a=>g (b,a)) v.1 v.2) c (b,a)
theorem bgm:avq a d (b+1) n c=att a d (avq a d b) n c:=rfl
def avr(fu:Nat)(s_0:aC):ε aC:=
 (((avq fu s_0 fu s_0 0)).bind λa=>θ a)
def bhu(fu:Nat)(s_0:aC):ε (Int×ζ):=
 ((aor fu s_0).bind λa=>(((if a.2=0 then(if a.1<1 then θ μ else θ (decide (65535<a.1)))else θ ν)).bind λb=>(bif b then θ (0,3)else θ (a.1,a.2))))
def bgu(fu:Nat)(b:LQ)(c:aC):ε (aC×η):=
 ((bdl fu b c).bind λa=>(if a<0 then θ ([],ν)else(gd (0<=a/\a<γ b)<|(gd (0<=a/\a<γ b)<|some ((el b a).2.1,μ)))))
def asl(fu:Nat)(b:aC)(e:Int->ε Int)(a:Int):ε Int:=
 (((if a<γ b then(gd (0<=a/\a<γ b)<|(if(at_ b a)=59 then θ ν else(gd (0<=a/\a<γ b)<|((y4 fu (at_ b a)).bind λd=>θ (!d)))))else θ ν)).bind λc=>(bif c then(gd (bK (a+1))<|(e (a+1)))else θ a))
def bax(fu:Nat)(b:aC):Nat->Int->ε Int:=λc a=>bD (λg v=>asl fu b (λa=>g a) v) c a
theorem bcq:bax a d (b+1) c=asl a d (bax a d b) c:=rfl
def axy(fu:Nat)(b:aC)(e:Int)(d:Int->Int->ε Int)(c:Int)(a:Int):ε Int:=
 (if a<e then(((gd (0<=a/\a<γ b)<|(if(at_ b a)=58 then θ a else θ c))).bind λf=>(gd (0<=a/\a<γ b)<|(if(at_ b a)=93 then(gd (bK (a+1))<|(d e (a+1)))else(gd (bK (a+1))<|(d f (a+1))))))else θ c)
def baw(fu:Nat)(c:aC)(e:Int):Nat->Int->Int->ε Int:=λd b a=>bD (λg v=>axy fu c e (λb a=>g (b,a)) v.1 v.2) d (b,a)
theorem bjz:baw a d c (b+1) e r=axy a d c (baw a d c b) e r:=rfl
def bld(fu:Nat)(o:aC):ε ((aC×aC×Int×aC×LQ)×ζ):=
 ((bj fu o).bind λa=>((bq fu a 8).bind λd=>((MY fu a d).bind λe=>(((if γ a<(8:Int)then θ μ else(gd (0<=(8:Int)/\8<=(γ a:Int))<|((avr fu (eZ (bH 8) a)).bind λn=>(if n=([83,73,80,47,50,46,48,47])then(if d=8 then θ μ else θ (decide (e=d)))else θ μ))))).bind λm=>(bif m then θ (([],[],0,[],[]),5)else(((bax fu a fu e)).bind λb=>(((baw fu a b fu b e)).bind λc=>(gd (0<=e/\e<=c/\c<=γ a)<|((oe fu (sub a e c)).bind λh=>(bif (!h.2)then θ (([],[],0,[],[]),5)else(gd (0<=(8:Int)/\8<=d/\d<=γ a)<|((avr fu (sub a 8 d)).bind λl=>(((if c<b then(gd (bK (c+1))<|(gd (0<=(c+1)/\(c+1)<=b/\b<=γ a)<|((bhu fu (sub a (c+1) b)).bind λg=>(if g.2=0 then θ (.inl g.1)else θ (.inr (([],[],0,[],[]),g.2))))))else θ (.inl 0))).bind λk=>dE (λj=>(gd (0<=b/\b<=γ a)<|((aop fu (cC (bH b) a)).bind λf=>(if f.2.2=0 then((bgu fu f.1 ([98,114,97,110,99,104])).bind λi=>θ ((l,h.1,j,i.1,f.1),0))else θ (([],[],0,[],[]),f.2.2))))) (λq=>θ q) k)))))))))))))
def SP:Nat->Int->ε aC
 |0,_=>ι
 |c+1,a=>(if a<(10:Int)then(gd (bK (a+1))<|(gd (0<=a/\a<=(a+1)/\(a+1)<=(γ ([48,49,50,51,52,53,54,55,56,57]:aC):Int))<|some (sub ([48,49,50,51,52,53,54,55,56,57]:aC) a (a+1))))else(gd (0<=a/\0<(10:Int)/\bK (a))<|((SP c (a/(10:Int))).bind λ(b:aC)=>(gd (0<=a/\0<(10:Int)/\bK (a))<|(gd (0<=a/\0<(10:Int)/\bK (a))<|(gd (bK ((a%(10:Int))+1))<|(gd (0<=(a%(10:Int))/\(a%(10:Int))<=((a%(10:Int))+1)/\((a%(10:Int))+1)<=(γ ([48,49,50,51,52,53,54,55,56,57]:aC):Int))<|(gd (γ b+γ (sub ([48,49,50,51,52,53,54,55,56,57]:aC) (a%(10:Int)) ((a%(10:Int))+1))<=9223372036854775807)<|some (b++(sub ([48,49,50,51,52,53,54,55,56,57]:aC) (a%(10:Int)) ((a%(10:Int))+1)))))))))))
def amz(fu:Nat)(b:(aC×aC×Int×aC×LQ))(d:LQ->Int->ε LQ)(c:LQ)(a:Int):ε LQ:=
 (if a<γ b.2.2.2.2 then(gd (0<=a/\a<γ b.2.2.2.2)<|(gd (0<=a/\a<γ b.2.2.2.2)<|(if((el b.2.2.2.2 a).1)=([98,114,97,110,99,104])then(gd (bK (a+1))<|(d c (a+1)))else(gd (0<=a/\a<γ b.2.2.2.2)<|(gd (0<=a/\a<γ b.2.2.2.2)<|(gd ((γ c+γ ([((el b.2.2.2.2 a).1,(el b.2.2.2.2 a).2.1,((el b.2.2.2.2 a).2.2))]))*40<=140737488355328)<|(gd (bK (a+1))<|(d (c++([((el b.2.2.2.2 a).1,(el b.2.2.2.2 a).2.1,((el b.2.2.2.2 a).2.2))])) (a+1)))))))))else θ c)
def akd(fu:Nat)(d:(aC×aC×Int×aC×LQ)):Nat->LQ->Int->ε LQ:=λc b a=>bD (λg v=>amz fu d (λb a=>g (b,a)) v.1 v.2) c (b,a)
theorem bbt:akd a o (b+1) j c=amz a o (akd a o b) j c:=rfl
def axz(fu:Nat)(a:(aC×aC×Int×aC×LQ)):ε (aC×ζ):=
 ((oe fu a.2.1).bind λc=>((((y5 fu a.1).bind λj=>(bif (!j)then θ μ else(bif (!c.2)then θ μ else(if a.2.2.1<0 then θ μ else θ (decide (65535<a.2.2.1))))))).bind λi=>(bif i then θ ([],2)else(((akd fu a fu [] 0)).bind λf=>(((if a.2.2.2.1=[]then θ f else(gd ((γ f+γ ([(([98,114,97,110,99,104]:aC),a.2.2.2.1,μ)]:LQ))*40<=140737488355328)<|some (f++([(([98,114,97,110,99,104]:aC),a.2.2.2.1,μ)]:LQ))))).bind λh=>((bo fu h).bind λg=>((aig fu g).bind λd=>(if d.2=0 then((avr fu a.1).bind λb=>(gd (γ ([83,73,80,47,50,46,48,47]:aC)+γ b<=9223372036854775807)<|(gd (γ (([83,73,80,47,50,46,48,47])++b)+γ ([32]:aC)<=9223372036854775807)<|(gd (γ ((([83,73,80,47,50,46,48,47])++b)++[32])+γ c.1<=9223372036854775807)<|(if 0<a.2.2.1 then(gd (γ (((([83,73,80,47,50,46,48,47])++b)++[32])++c.1)+γ ([58]:aC)<=9223372036854775807)<|((SP fu a.2.2.1).bind λe=>(gd (γ ((((([83,73,80,47,50,46,48,47])++b)++[32])++c.1)++[58])+γ e<=9223372036854775807)<|(gd (γ (((((([83,73,80,47,50,46,48,47])++b)++[32])++c.1)++[58])++e)+γ d.1<=9223372036854775807)<|some ((((((([83,73,80,47,50,46,48,47]:aC)++b)++([32]:aC))++c.1)++([58]:aC))++e)++d.1,0)))))else(gd (γ (((([83,73,80,47,50,46,48,47])++b)++[32])++c.1)+γ d.1<=9223372036854775807)<|some ((((([83,73,80,47,50,46,48,47]:aC)++b)++([32]:aC))++c.1)++d.1,(0:ζ))))))))else θ (([]:aC),(2:ζ))))))))))
def amy(fu:Nat)(b:aC)(e:Int->ε Int)(a:Int):ε Int:=
 (((if a<γ b then(gd (0<=a/\a<γ b)<|((y4 fu (at_ b a)).bind λd=>θ (!d)))else θ ν)).bind λc=>(bif c then(gd (bK (a+1))<|(e (a+1)))else θ a))
def aqc(fu:Nat)(b:aC):Nat->Int->ε Int:=λc a=>bD (λg v=>amy fu b (λa=>g a) v) c a
theorem ayu:aqc a d (b+1) c=amy a d (aqc a d b) c:=rfl
def bav(fu:Nat)(e:aC):ε (Int×aC×ζ):=
 ((bj fu e).bind λa=>(((aqc fu a fu 0)).bind λb=>(gd (0<=b/\b<=γ a)<|((aor fu (eZ (bH b) a)).bind λd=>((MY fu a b).bind λc=>(gd (0<=c/\c<=γ a)<|some (d.1,cC (bH c) a,d.2)))))))
def bdj(fu:Nat)(c:aC):ε (Int×aC×ζ):=
 ((bav fu c).bind λa=>(if a.2.2=0 then((y5 fu a.2.1).bind λb=>(bif (!b)then θ (0,[],5)else θ (a.1,a.2.1,0)))else θ (0,[],a.2.2)))
def bhw(fu:Nat)(c:aC):ε (Int×Int×aC×ζ):=
 ((bav fu c).bind λb=>(if b.2.2=0 then((bdj fu b.2.1).bind λa=>(if a.2.2=0 then θ (b.1,a.1,a.2.1,0)else θ (0,0,[],a.2.2)))else θ (0,0,[],b.2.2)))
def bcw(fu:Nat)(c:aC):ε (Int×ζ):=
 ((bj fu c).bind λb=>((aor fu b).bind λa=>θ (a.1,a.2)))
def ave(fu:Nat)(s_0:aC):ε Int:=
 ((bq fu s_0 0).bind λa=>(((if a=0 then θ μ else(if a=γ s_0 then θ μ else(gd (0<=a/\a<γ s_0)<|some (!decide ((at_ s_0 a)=47)))))).bind λc=>(bif c then θ a else(gd (bK (a+1))<|((bq fu s_0 (a+1)).bind λb=>(gd (bK (a+1))<|(if b=(a+1)then θ 0 else θ b)))))))
def bia(fu:Nat)(d:aC):ε ((aC×LQ)×ζ):=
 ((bj fu d).bind λb=>((ave fu b).bind λa=>(if a=0 then θ (([],[]),5)else(gd (0<=a/\a<=γ b)<|((aop fu (cC (bH a) b)).bind λc=>(if c.2.2=0 then(gd (0<=a/\a<=γ b)<|some ((eZ (bH a) b,c.1),0))else θ (([],[]),c.2.2)))))))
def avu(fu:Nat)(a:(aC×LQ)):ε (aC×ζ):=
 ((bo fu a.2).bind λc=>((aig fu c).bind λb=>(((if a.1=[]then θ μ else((ave fu a.1).bind λe=>(if e=γ a.1 then θ (!decide (b.2=0))else θ μ)))).bind λd=>(bif d then θ ([],2)else(gd (γ a.1+γ b.1<=9223372036854775807)<|some (a.1++b.1,0))))))
def avs(fu:Nat)(b:aC)(d:Int->ε (Unit⊕(aC×ζ)))(a:Int):ε (Unit⊕(aC×ζ)):=
 (if a<γ b then(gd (0<=a/\a<γ b)<|((ua fu (at_ b a)).bind λc=>(bif c then θ (.inr ([],5))else(gd (bK (a+1))<|(d (a+1))))))else θ (.inl ()))
def asj(fu:Nat)(c:aC):Nat->Int->ε (Unit⊕(aC×ζ)):=λb a=>bD (λg v=>avs fu c (λa=>g a) v) b a
theorem bht:asj a d (b+1) c=avs a d (asj a d b) c:=rfl
def bdi(fu:Nat)(o:aC)(a:aC):ε (aC×ζ):=
 ((tm fu o).bind λb=>(if b=1 then(((if o=([67,111,110,116,97,99,116])then θ (decide (a=[42]))else θ ν)).bind λt=>(bif t then θ (a,0)else((baz fu a).bind λk=>(if k.2=0 then((apd fu k.1).bind λn=>θ (n.1,n.2))else θ ([],k.2)))))else(if b=2 then((bld fu a).bind λj=>(if j.2=0 then((axz fu j.1).bind λm=>θ (m.1,m.2))else θ ([],j.2)))else(if b=3 then((bdj fu a).bind λe=>(if e.2.2=0 then((SP fu e.1).bind λi=>(gd (γ i+γ ([32]:aC)<=9223372036854775807)<|(gd (γ (i++[32])+γ e.2.1<=9223372036854775807)<|some ((i++[32])++e.2.1,0))))else θ ([],e.2.2)))else(if b=4 then((bhw fu a).bind λc=>(if c.2.2.2=0 then((SP fu c.1).bind λd=>(gd (γ d+γ ([32]:aC)<=9223372036854775807)<|((SP fu c.2.1).bind λf=>(gd (γ (d++[32])+γ f<=9223372036854775807)<|(gd (γ ((d++[32])++f)+γ ([32]:aC)<=9223372036854775807)<|(gd (γ (((d++[32])++f)++[32])+γ c.2.2.1<=9223372036854775807)<|some ((((d++[32])++f)++[32])++c.2.2.1,0)))))))else θ ([],c.2.2.2)))else(if b=5 then((bcw fu a).bind λh=>(if h.2=0 then((SP fu h.1).bind λs=>θ (s,0))else θ ([],h.2)))else(((if b=6 then θ (decide (b=6))else θ (decide (b=7)))).bind λr=>(bif r then((bia fu a).bind λg=>(if g.2=0 then((avu fu g.1).bind λl=>θ (l.1,l.2))else θ ([],g.2)))else(((asj fu a fu 0)).bind λp=>dE (λu=>θ (a,0)) (λq=>θ q) p)))))))))
def bbd(fu:Nat)(s_0:aC)(a:Int)(b:Int):ε (Int×aC):=
 (gd (0<=a/\a<=b/\b<=γ s_0)<|((MY fu (sub s_0 a b) 0).bind λc=>(gd (bK (a+c))<|((bj fu (sub s_0 a b)).bind λd=>θ (a+c,d)))))
def anp(fu:Nat)(s_0:aC)(c:Int->ε Int)(a:Int):ε Int:=
 (((if a<γ s_0 then(gd (0<=a/\a<γ s_0)<|some (!decide ((at_ s_0 a)=62)))else θ ν)).bind λb=>(bif b then(gd (bK (a+1))<|(c (a+1)))else θ a))
def awj(fu:Nat)(s_0:aC):Nat->Int->ε Int:=λb a=>bD (λg v=>anp fu s_0 (λa=>g a) v) b a
theorem ayz:awj a d (b+1) c=anp a d (awj a d b) c:=rfl
def anq(fu:Nat)(s_0:aC)(h:ζ)(e:hY->Int->Int->ε ((hY×Int)⊕(hY×Int×ζ)))(b:hY)(c:Int)(a:Int):ε ((hY×Int)⊕(hY×Int×ζ)):=
 (if a<γ s_0 then(gd (0<=a/\a<γ s_0)<|(if(at_ s_0 a)=h then((bbd fu s_0 c a).bind λg=>(gd ((γ b+[g].length)*24<=140737488355328)<|(gd (bK (a+1))<|(gd (bK (a+1))<|(e (b++[g]) (a+1) (a+1))))))else(if(at_ s_0 a)=34 then((aqh fu s_0 a).bind λd=>(if d.2.2=0 then(e b c d.2.1)else θ (.inr ([],d.2.1,d.2.2))))else(if(at_ s_0 a)=62 then θ (.inr ([],a,5))else(if(at_ s_0 a)=60 then(((awj fu s_0 fu a)).bind λf=>(if f=γ s_0 then θ (.inr ([],γ s_0,6))else(gd (bK (f+1))<|(e b c (f+1)))))else(gd (bK (a+1))<|(e b c (a+1))))))))else θ (.inl (b,c)))
def aqi(fu:Nat)(s_0:aC)(e:ζ):Nat->hY->Int->Int->ε ((hY×Int)⊕(hY×Int×ζ)):=λd c b a=>bD (λg v=>anq fu s_0 e (λc b a=>g (c,b,a)) v.1 v.2.1 v.2.2) d (c,b,a)
theorem aza:aqi a d h (b+1) y c e=anq a d h (aqi a d h b) y c e:=rfl
def bfh(fu:Nat)(s_0:aC)(a:ζ):ε (hY×Int×ζ):=
 ((((y4 fu a).bind λf=>(bif f then θ μ else(if a=34 then θ μ else(if a=60 then θ μ else θ (decide (a=62))))))).bind λe=>(bif e then θ ([],0,2)else(((aqi fu s_0 a fu [] 0 0)).bind λd=>dE (λb=>((bbd fu s_0 b.2 (γ s_0)).bind λc=>(gd ((γ b.1+[c].length)*24<=140737488355328)<|some (b.1++[c],0,0)))) (λq=>θ q) d)))
def avv(fu:Nat)(b:(hY×Int×ζ))(d:(δ aC)->Int->ε ((δ aC)⊕((δ aC)×ζ)))(c:δ aC)(a:Int):ε ((δ aC)⊕((δ aC)×ζ)):=
 (if a<γ b.1 then(gd (0<=a/\a<γ b.1)<|(gd (0<=a/\a<γ b.1)<|(if((el b.1 a).2)=[]then θ (.inr ([],5))else(gd (0<=a/\a<γ b.1)<|(gd (0<=a/\a<γ b.1)<|(gd ((γ c+γ ([(el b.1 a).2]))*16<=140737488355328)<|(gd (bK (a+1))<|(d (c++([(el b.1 a).2])) (a+1)))))))))else θ (.inl c))
def asm(fu:Nat)(c:(hY×Int×ζ)):Nat->(δ aC)->Int->ε ((δ aC)⊕((δ aC)×ζ)):=λd b a=>bD (λg v=>avv fu c (λb a=>g (b,a)) v.1 v.2) d (b,a)
theorem bhy:asm a m (b+1) i c=avv a m (asm a m b) i c:=rfl
def bhz(fu:Nat)(d:aC):ε ((δ aC)×ζ):=
 ((bfh fu d 44).bind λa=>(if a.2.2=0 then(((asm fu a fu [] 0)).bind λc=>dE (λb=>θ (b,0)) (λq=>θ q) c)else θ ([],a.2.2)))
def alb(fu:Nat)(f:(aC×ζ))(d:((δ aC)×ζ))(g:aC->Int->ε (aC⊕(aC×ζ)))(c:aC)(a:Int):ε (aC⊕(aC×ζ)):=
 (if a<γ d.1 then(gd (0<=a/\a<γ d.1)<|(gd (0<=a/\a<γ d.1)<|((bdi fu f.1 (el d.1 a)).bind λb=>(if b.2=0 then(((if 0<a then(gd (γ c+γ ([44,32]:aC)<=9223372036854775807)<|some (c++([44,32])))else θ c)).bind λe=>(gd (γ e+γ b.1<=9223372036854775807)<|(gd (bK (a+1))<|(g (e++b.1) (a+1)))))else θ (.inr ([],b.2))))))else θ (.inl c))
def amq(fu:Nat)(c:(aC×ζ))(e:((δ aC)×ζ)):Nat->aC->Int->ε (aC⊕(aC×ζ)):=λd b a=>bD (λg v=>alb fu c e (λb a=>g (b,a)) v.1 v.2) d (b,a)
theorem atv:amq a u q (b+1) d c=alb a u q (amq a u q b) d c:=rfl
def bhv(fu:Nat)(i:aC)(d:aC):ε (aC×ζ):=
 ((tr fu i).bind λa=>(if a.2=0 then((bhx fu a.1).bind λe=>(bif (!e)then((bj fu d).bind λh=>((bdi fu a.1 h).bind λc=>θ (c.1,c.2)))else((bhz fu d).bind λb=>(if b.2=0 then(((amq fu a b fu [] 0)).bind λg=>dE (λf=>θ (f,0)) (λq=>θ q) g)else θ ([],b.2)))))else θ ([],a.2)))
def bcv(fu:Nat)(c:(aC×aC))(e:Int):ε ((aC×aC)×ζ):=
 ((tr fu c.1).bind λa=>(if a.2=0 then(if 1024<(γ c.2:Int)then θ (([],[]),4)else((bhv fu a.1 c.2).bind λb=>(if b.2=0 then(((if 1024<(γ b.1:Int)then θ μ else θ (decide (64<=e)))).bind λd=>(bif d then θ (([],[]),4)else θ ((a.1,b.1),0)))else θ (([],[]),b.2))))else θ (([],[]),a.2)))
def ars(fu:Nat)(b:oG)(e:Int->mA->ε (mA⊕(oG×η)))(a:Int)(d:mA):ε (mA⊕(oG×η)):=
 (if a<γ b.1 then(gd (0<=a/\a<γ b.1)<|(gd (0<=a/\a<γ b.1)<|((bcv fu (el b.1 a) a).bind λc=>(if c.2=0 then(gd ((γ d+[c.1].length)*32<=140737488355328)<|(gd (bK (a+1))<|(e (a+1) (d++[c.1]))))else θ (.inr (([],[]),ν))))))else θ (.inl d))
def amx(fu:Nat)(d:oG):Nat->Int->mA->ε (mA⊕(oG×η)):=λc b a=>bD (λg v=>ars fu d (λb a=>g (b,a)) v.1 v.2) c (b,a)
theorem bel:amx a z (b+1) c x=ars a z (amx a z b) c x:=rfl
def axn(fu:Nat)(a:oG):ε (oG×η):=
 (gd ((γ ([]:δ ζ)+γ a.2)*1<=140737488355328)<|(((amx fu a fu 0 [])).bind λc=>dE (λb=>θ ((b,[]++a.2),μ)) (λq=>θ q) c))
def oa(fu:Nat)(s_0:aC)(a:Int)(b:aC):ε η:=
 (((if 0<=a then(gd (bK (a+γ b))<|(if(a+γ b)<=γ s_0 then(gd (bK (a+γ b))<|(gd (0<=a/\a<=(a+γ b)/\(a+γ b)<=γ s_0)<|some (decide ((sub s_0 a (a+γ b))=b))))else θ ν))else θ ν)).bind λc=>θ c)
def bao(fu:Nat)(s_0:aC)(a:Int)(b:aC):ε η:=
 (((gd (γ ([45,45]:aC)+γ b<=9223372036854775807)<|((oa fu s_0 a (([45,45]:aC)++b)).bind λe=>(bif e then(if a=0 then θ μ else(gd (bK (a-2))<|((oa fu s_0 (a-2) ([13,10])).bind λd=>θ d)))else θ ν)))).bind λc=>θ c)
def aqa(fu:Nat)(b:(oG×η))(d:aC->Int->ε aC)(c:aC)(a:Int):ε aC:=
 (if a<γ b.1.1 then(gd (0<=a/\a<γ b.1.1)<|(gd (0<=a/\a<γ b.1.1)<|(gd (γ c+γ ((el b.1.1 a).1)<=9223372036854775807)<|(gd (γ (c++((el b.1.1 a).1))+γ ([58,32]:aC)<=9223372036854775807)<|(gd (0<=a/\a<γ b.1.1)<|(gd (0<=a/\a<γ b.1.1)<|(gd (γ ((c++((el b.1.1 a).1))++([58,32]))+γ ((el b.1.1 a).2)<=9223372036854775807)<|(gd (γ (((c++((el b.1.1 a).1))++([58,32]))++((el b.1.1 a).2))+γ ([13,10]:aC)<=9223372036854775807)<|(gd (bK (a+1))<|(d ((((c++((el b.1.1 a).1))++([58,32]))++((el b.1.1 a).2))++([13,10])) (a+1)))))))))))else θ c)
def ajx(fu:Nat)(d:(oG×η)):Nat->aC->Int->ε aC:=λc b a=>bD (λg v=>aqa fu d (λb a=>g (b,a)) v.1 v.2) c (b,a)
variable {v:(oG×η)}
theorem bar:ajx a v (b+1) d c=aqa a v (ajx a v b) d c:=rfl
def apz(fu:Nat)(f:aC)(d:(oG×η))(c:η->Int->ε η)(b:η)(a:Int):ε η:=
 (if a<γ d.1.2 then(bif b then(gd (bK (a+1))<|(c μ (a+1)))else((bao fu d.1.2 a f).bind λe=>(gd (bK (a+1))<|(c e (a+1)))))else θ b)
def amn(fu:Nat)(e:aC)(d:(oG×η)):Nat->η->Int->ε η:=λc b a=>bD (λg v=>apz fu e d (λb a=>g (b,a)) v.1 v.2) c (b,a)
theorem baq:amn a d v (b+1) k c=apz a d v (amn a d v b) k c:=rfl
def aqb(fu:Nat)(f:fF)(e:aC)(k:aC->η->Int->ε ((aC×η)⊕((δ ζ)×ζ)))(c:aC)(h:η)(a:Int):ε ((aC×η)⊕((δ ζ)×ζ)):=
 (if a<γ f then(((gd (0<=a/\a<γ f)<|(gd (0<=a/\a<γ f)<|((axn fu (el f a)).bind λb=>(bif (!b.2)then θ (.inr ([],2))else(gd (γ c+γ ([45,45]:aC)<=9223372036854775807)<|(gd (γ (c++([45,45]))+γ e<=9223372036854775807)<|(gd (γ ((c++([45,45]))++e)+γ ([13,10]:aC)<=9223372036854775807)<|(((ajx fu b fu (((c++([45,45]))++e)++([13,10])) 0)).bind λd=>(((amn fu e b fu h 0)).bind λj=>(gd (γ d+γ ([13,10]:aC)<=9223372036854775807)<|(gd (γ (d++([13,10]))+γ b.1.2<=9223372036854775807)<|(gd (γ ((d++([13,10]))++b.1.2)+γ ([13,10]:aC)<=9223372036854775807)<|some (.inl (((d++([13,10]))++b.1.2)++([13,10]),j))))))))))))))).bind λi=>dE (λg=>(gd (bK (a+1))<|(k g.1 g.2 (a+1)))) (λq=>θ (.inr q)) i)else θ (.inl (c,h)))
def amo(fu:Nat)(f:fF)(e:aC):Nat->aC->η->Int->ε ((aC×η)⊕((δ ζ)×ζ)):=λd c b a=>bD (λg v=>aqb fu f e (λc b a=>g (c,b,a)) v.1 v.2.1 v.2.2) d (c,b,a)
theorem bas:amo a l d (b+1) n k c=aqb a l d (amo a l d b) n k c:=rfl
def bdh(fu:Nat)(c:fF)(b:aC):ε ((δ ζ)×ζ):=
 ((((bap fu b).bind λf=>(bif (!f)then θ μ else(if γ c=(0:Int)then θ μ else θ (decide (8<(γ c:Int))))))).bind λe=>(bif e then θ ([],2)else(((amo fu c b fu [] ν 0)).bind λd=>dE (λ(a:(aC×η))=>(gd (γ a.1+γ ([45,45]:aC)<=9223372036854775807)<|(gd (γ (a.1++([45,45]))+γ b<=9223372036854775807)<|(gd (γ ((a.1++([45,45]))++b)+γ ([45,45,13,10]:aC)<=9223372036854775807)<|(bif a.2 then θ ([],7)else(if 8192<(γ (((a.1++([45,45]:aC))++b)++([45,45,13,10]:aC)):Int)then θ ([],4)else θ (((a.1++([45,45]:aC))++b)++([45,45,13,10]:aC),0))))))) (λq=>θ q) d)))
def aiv(fu:Nat)(f:fF)(e:aC)(d:Int)(c:η->Int->ε η)(b:η)(a:Int):ε η:=
 (if a<(γ ((el f d).2))then(bif b then(gd (bK (a+1))<|(c μ (a+1)))else(gd (γ ([45,45]:aC)+γ ([98]++e)<=9223372036854775807)<|((oa fu ((el f d).2) a (([45,45]:aC)++(([98]:aC)++e))).bind λg=>(gd (bK (a+1))<|(c g (a+1))))))else θ b)
def ahp(fu:Nat)(f:fF)(e:aC)(d:Int):Nat->η->Int->ε η:=λc b a=>bD (λg v=>aiv fu f e d (λb a=>g (b,a)) v.1 v.2) c (b,a)
theorem ate:ahp a l d c (b+1) k e=aiv a l d c (ahp a l d c b) k e:=rfl
def aiw(fu:Nat)(b:fF)(f:aC)(e:η->Int->ε η)(c:η)(a:Int):ε η:=
 (if a<γ b then(((gd (0<=a/\a<γ b)<|(gd (0<=a/\a<γ b)<|(ahp fu b f a fu c 0)))).bind λd=>(gd (bK (a+1))<|(e d (a+1))))else θ c)
def afm(fu:Nat)(e:fF)(d:aC):Nat->η->Int->ε η:=λc b a=>bD (λg v=>aiw fu e d (λb a=>g (b,a)) v.1 v.2) c (b,a)
theorem atf:afm a l d (b+1) k c=aiw a l d (afm a l d b) k c:=rfl
def aix(fu:Nat)(f:fF)(e:Int->ε aC)(b:Int):ε aC:=
 ((((SP fu b).bind λa=>(gd (γ ([98]:aC)+γ a<=9223372036854775807)<|(((afm fu f a fu ν 0)).bind λd=>(bif (!d)then θ (.inr (([98]:aC)++a))else θ (.inl ())))))).bind λc=>dE (λg=>(gd (bK (b+1))<|(e (b+1)))) (λq=>θ q) c)
def akc(fu:Nat)(c:fF):Nat->Int->ε aC:=λb a=>bD (λg v=>aix fu c (λa=>g a) v) b a
theorem atg:akc a l (b+1) c=aix a l (akc a l b) c:=rfl
def axx(fu:Nat)(a:fF):ε aC:=
 (akc fu a fu 0)
def asb(fu:Nat)(a:fF)(d:aC):ε η:=
 ((bgx fu a).bind λf=>(bif (!f)then((bbg fu).bind λe=>θ e)else((awn fu a d).bind λc=>((bdh fu a d).bind λb=>(((if c.1=b.1 then(if c.2=b.2 then((aij fu a).bind λj=>((axx fu a).bind λi=>(if j=i then((bbg fu).bind λh=>θ h)else θ ν)))else θ ν)else θ ν)).bind λg=>θ g)))))
end Go.Wk
set_option maxRecDepth 100000
namespace Go.Wk
open Go.Px
open Int renaming toNat → bH
open List renaming set → kZ
open Sum renaming elim → dE
def FU:Nat:=18446744073709551616
theorem dK:FU=18446744073709551616:=rfl
theorem Rp(p:aC)(c:ζ)(l:aC):at_ (p++c::l) (γ p)=c:=by simp[at_]
theorem oU(p:aC)(c x:ζ)(l:aC):kZ (p++c::l) (bH (γ p)) x=(p++[x])++l:=aA3
theorem Xp(p:aC)(x:ζ):(γ p+1)=(γ (p++[x]):Int):=aA3
theorem cA(a:Int)(b:0<=a)(h:a<=9223372036854775807):bK a:=⟨aA0,aA0⟩
theorem ML(fu:Nat)(c:ζ):auf fu c=θ (cJ c):=by show auf 0 c=_;revert c;exact fM _ aA5
theorem Mf:∀c:ζ,awi FU c=θ (cJ c):=fM _ aA5
theorem An(fu:Nat)(c:ζ):ajs fu c=θ (eQ c):=by show ajs 0 c=_;revert c;exact fM _ aA5
theorem Yc(fu:Nat)(c:ζ):anu fu c=θ (Hn c):=by show anu 0 c=_;revert c;exact fM _ aA5
variable {k:Nat}
theorem TJ(s:aC)(g:γ s<=9223372036854775807)(n:Nat):∀i a,i+n=γ s->n<a->
  aep k s a i=θ ((i+cI cJ (s.drop i):Nat):Int):=by
 induction n with
 |zero=>intro i a c d;obtain⟨a,rfl⟩:=bV a;rw[alz,aek,aA aU,Rm aU];simp[cI]
 |succ n b=>
  intro i a c d;obtain⟨a,rfl⟩:=bV a;rw[alz,aek,aB aU,aS aU,ML,Iq s i aU];simp only[aR];cases h:cJ (at_ s i)
  ·simp[cI,h]
  ·rw[aM];rw[aS (cA _ aU aU)];have e:(i+1)=((i+1:Nat):Int):=rfl;rw[e,b (i+1) a aU aU];have f:cI cJ (at_ s i::s.drop (i+1))=1+cI cJ (s.drop (i+1)):=by simp[cI,h,Hv]
   rw[f,Ct]
theorem Zd(g:∀c,awi k c=θ (cJ c))(s:aC)(j:γ s<=9223372036854775807)(n:Nat):∀(l a:Nat),l+n=γ s->n<a->
  ape k s a (l:Int)=θ ((l+cI cJ (s.drop l):Nat):Int):=by
 induction n with
 |zero=>intro l a d f;obtain⟨a,rfl⟩:=bV a;rw[bbu,ano,aA aU,Rm aU];simp[cI]
 |succ n b=>
  intro l a d f;obtain⟨a,rfl⟩:=bV a;rw[bbu,ano,aB aU,aS aU,g,Iq s l aU];simp only[aR];cases h:cJ (at_ s l)
  ·simp[cI,h]
  ·rw[aM];rw[aS (cA _ aU aU)];have e:((l:Int)+1)=((l+1:Nat):Int):=rfl;rw[e,b (l+1) a aU aU];have i:cI cJ (at_ s l::s.drop (l+1))=1+cI cJ (s.drop (l+1)):=by simp[cI,h,Hv]
   rw[i,Ct]
theorem Lo(s:aC)(a:γ s<=9223372036854775807)(i:Int):afv FU s i=θ ((bT cJ s i):Int):=by unfold afv bT;have h:min (max i 0) (γ s)=(Fo i (γ s)):=aD4;rw[h,TJ s a (γ s-Fo i (γ s)) _ FU aU aA4];rfl
theorem auy(s:aC)(a:γ s<=9223372036854775807)(i:Int):bq FU s i=θ ((bT cJ s i:Nat):Int):=by unfold bq bT;have h:min (max i 0) (γ s:Int)=((Fo i (γ s):Nat):Int):=aD4;have:=uT i (γ s);rw[h,Zd Mf s a (γ s-Fo i (γ s)) _ FU aU aA4];rfl
theorem Uj(s:aC):(if s=[]then θ ν else θ (decide (((bT cJ s 0))=(γ s:Int))))=θ (iH s):=by
 have:=dr s;by_cases h:s=[]
 ·subst h;rfl
 ·rw[aA h];congr 1;by_cases a:(bT cJ s 0)=(γ s:Int)
  ·rw[aD a,this.1 ⟨h,a⟩]
  ·rw[aE a];cases b:iH s
   ·rfl
   ·exact absurd (this.2 b).2 a
theorem te(s:aC)(a:γ s<=9223372036854775807):YE FU s=θ (iH s):=by unfold YE ou;rw[Lo s a];simp;exact Uj s
theorem bce(s:aC)(a:γ s<=9223372036854775807):y5 FU s=θ (iH s):=by unfold y5;rw[auy s a];simp only[aR,Option.bind_fun_some];exact Uj s
theorem xH(p:aC)(c:ζ)(l:aC):0<=(γ p:Int)/\γ p<(γ (p++c::l):Int):=by rw[cG,cN];omega
theorem N4{fu:Nat}(s:aC)(g:γ s<=9223372036854775807)(l:aC):∀p a,γ p+γ l=γ s->γ l<a->
  adh fu s a (p++l) (γ p)=θ (p++l.map eQ):=by
 induction l with
 |nil=>intro p a d e;obtain⟨a,rfl⟩:=bV a;simp at d;rw[aio,ada,aA aU];rfl
 |cons c l f=>intro p a d e;obtain⟨a,rfl⟩:=bV a;simp at d e;have b:=xH p c l;rw[aio,ada,aB aU,aS b,aS b,Rp,An];simp only[aR];rw[aS b,aS b,aS (cA _ aU aU),oU,Xp p _,f _ a aB4 aU];simp
theorem N5(s:aC)(a:γ s<=9223372036854775807):acu FU s=θ (cK s):=by unfold acu;have:=N4 (fu:=FU) s a s [] FU aA3 aA4;simp at this;rw[this];rfl
theorem Wa(c:ζ)(b:65<=c)(a:c<=90):c+32=eQ c:=by simp[eQ,b,a]
theorem tg(c:ζ)(h:¬(65<=c/\c<=90)):eQ c=c:=by simp only[eQ,aA h]
theorem ED{fu:Nat}(s:aC)(k:γ s<=9223372036854775807)(l:aC):∀(p:aC) (a:Nat),γ p+γ l=γ s->γ l<a->
  awf fu s a (p++l) (γ p:Int)=θ (p++l.map eQ):=by
 induction l with
 |nil=>intro p a g i;obtain⟨a,rfl⟩:=bV a;simp only[iP]at g;rw[bgt,auc,aA aU];rfl
 |cons c l f=>
  intro p a g i;obtain⟨a,rfl⟩:=bV a;simp only[cN]at g i;have j:=xH p c l;have d:=f (p++[eQ c]) a aB4 aU;have ok:bK ((γ p:Int)+1):=cA _ aU aU;rw[bgt,auc,aB aU];simp only[aS j,Rp,aS ok,oU];by_cases b:65<=c
  ·by_cases e:c<=90
   ·simp only[aB b,aD e,aR,aM,Wa c b e];rw[Xp p (eQ c),d];simp
   ·simp only[aB b,aE e,aR,aH];rw[tg c (λh=>e h.2)]at d;rw[Xp p c,show p++c::l=(p++[c])++l by simp,d];simp[tg c (λh=>e h.2)]
  ·simp only[aA b,aR,aH];rw[tg c (λh=>b h.1)]at d;rw[Xp p c,show p++c::l=(p++[c])++l by simp,d];simp[tg c (λh=>b h.1)]
theorem XI(s:aC)(a:γ s<=9223372036854775807):IM FU s=θ (cK s):=by unfold IM;have:=ED (fu:=FU) s a s [] FU aA3 aA4;simp only[Rl,iP,Int.natCast_zero,Int.cast_ofNat_Int]at this;rw[this];rfl
def nG(c:ζ):aC:=(awl FU c).getD []
theorem iu:∀c:ζ,awl FU c=θ (nG c):=fM _ aA5
theorem D9:∀c:ζ,bau FU c=θ (nG c):=fM _ aA5
theorem KB(y:aC):avw FU y FU 0=aju FU y FU 0:=by kernel_rfl
def yB:η->aC->aC
 |_,[]=>[]
 |f,c::l=>(if f then Hn c else eQ c)::yB (c==45) l
theorem XE(fu:Nat)(f:η)(c:ζ):ayg fu c f=θ (if f then Hn c else eQ c,c==45):=by show ayg 0 c f=_;revert c;cases f<;>exact fM _ aA5
theorem C0{fu:Nat}(s:aC)(h:γ s<=9223372036854775807)(l:aC):∀p f a,γ p+γ l=γ s->γ l<a->
  (adw fu s a (p++l) (γ p) f).map (·.1)=θ (p++yB f l):=by
 induction l with
 |nil=>intro p f a d e;obtain⟨a,rfl⟩:=bV a;simp at d;rw[ajt,ado,aA aU];rfl
 |cons c l g=>
  intro p f a d e;obtain⟨a,rfl⟩:=bV a;simp at d e
  have b:=xH p c l;rw[ajt,ado,aB aU,aS b,aS b,Rp,XE,aR,
   aS b,aS b,aS (cA _ aU aU),oU,Xp p _,g _ _ a aB4 aU,gZ]
  rfl
theorem C1(s:aC)(d:γ s<=9223372036854775807):∃b,adj FU s μ=θ (yB μ s,b):=by unfold adj;have:=C0 (fu:=FU) s d s [] μ FU aA3 aA4;obtain⟨r,c,a⟩:=bR.1 this;refine⟨r.2, ?_⟩;rw[show((0:Int))=([].length)from rfl];simp only[Rl]at c a⊢;rw[c,aR,a]
def sW(p:aC):η:=p.isEmpty||at_ p (γ p-1)==45
theorem oc(p:aC)(c:ζ)(l:aC)(h:p≠[]):at_ (p++c::l) (γ p-1)=at_ p (γ p-1):=by have:0<γ p:=bL.2 h;have e:((γ p:Int)-1).toNat=γ p-1:=aA0;simp only[at_,e];rw[bJ,bJ,aJ aU]
theorem LY(p:aC)(x:ζ):sW (p++[x])=(x==45):=by have e:((γ (p++[x]):Int)-1)=γ p:=aA3;simp only[sW,e,Rp];simp
theorem up45:∀c:ζ,(Hn (eQ c)==45)=(c==45):=fM _ aA5
theorem rj:∀c:ζ,(eQ c==45)=(c==45):=fM _ aA5
theorem qo:∀c:ζ,Hn (eQ c)=Hn c:=fM _ aA5
theorem Uf(c:ζ)(b:97<=c)(a:c<=122):c-32=Hn c:=by simp[Hn,b,a]
theorem bjd(c:ζ)(h:¬(97<=c/\c<=122)):Hn c=c:=by simp only[Hn,aA h]
theorem EA{fu:Nat}(s:aC)(z:γ s<=9223372036854775807)(l:aC):∀(p:aC) (e:Nat),γ p+γ l=γ s->γ l<e->
  aif fu s e (p++l.map eQ) (γ p:Int)=θ (p++yB (sW p) l):=by
 induction l with
 |nil=>intro p e m q;obtain⟨e,rfl⟩:=bV e;simp only[iP]at m;rw[ayv,ana,aA aU];rfl
 |cons c l k=>
  intro p e m q;obtain⟨e,rfl⟩:=bV e;simp only[cN]at m q;have u:=xH p (eQ c) (l.map eQ);have ok:bK ((γ p:Int)+1):=cA _ aU aU;have n:∀x,(x==45)=(c==45)->aif fu s e ((p++[x])++l.map eQ) ((γ p:Int)+1)=θ (p++x::yB (c==45) l):=λx hx=>by rw[Xp p x,k (p++[x]) e aB4 aU,LY,hx,gZ];rfl
  have f:=n (eQ c) (rj c);have i:=n (Hn (eQ c)) (up45 c);rw[gZ,pj]at f;rw[uX,ayv,ana,aB aU];have sub:97<=eQ c->eQ c<=122->eQ c-32=Hn (eQ c):=λb d=>Uf _ b d
  have up:∀(A B:ε aC),(97<=eQ c->eQ c<=122->A=θ (p++Hn (eQ c)::yB (c==45) l))->B=θ (p++eQ c::yB (c==45) l)->
    (Option.bind (if 97<=eQ c then θ (decide (eQ c<=122))else θ ν) λv=>bif v then A else B)=θ (p++Hn (eQ c)::yB (c==45) l):=by
   intro A B w r;by_cases b:97<=eQ c
   ·by_cases d:eQ c<=122
    ·rw[aB b,aD d,aR,aM,w b d]
    ·rw[aB b,aE d,aR,aH,r,bjd _ (λh=>d h.2)]
   ·rw[aA b,aR,aH,r,bjd _ (λh=>b h.1)]
  simp only[aS u,Rp,aS ok,oU];by_cases j:p=[]
  ·have y:(γ p:Int)=0:=by rw[j];rfl
   have a:sW p=μ:=by rw[j];rfl
   rw[aB y,up _ _ (λb d=>by rw[sub b d];exact i) f,a,qo];rfl
  ·have C:0<γ p:=bL.2 j;have o:(0:Int)<=(γ p:Int)-1/\(γ p:Int)-1<(γ (p++eQ c::l.map eQ):Int):=by omega
   rw[aA aU,aS (cA _ aU aU),aS o,aS o,oc _ _ _ j];have t:p.isEmpty=ν:=by cases p with|nil=>exact absurd rfl j|cons _ _=>rfl
   by_cases g:at_ p ((γ p:Int)-1)=45
   ·have a:sW p=μ:=by simp[sW,g]
    rw[aB g,up _ _ (λb d=>by rw[sub b d];exact i) f,a,qo];rfl
   ·have a:sW p=ν:=by simp[sW,g,t]
    rw[aA g,aR,aH,a];exact f
theorem EB(s:aC)(a:γ s<=9223372036854775807):aif FU (cK s) FU (cK s) 0=θ (yB μ s):=by have:=EA (fu:=FU) (cK s) (by simpa [cK] using a) s [] FU (by simp[cK]) aA4;exact this
def iC(s:aC):aC×ζ:=
 if iH s=ν\/64<γ s then([],5)
 else if γ s=1/\nG (eQ (at_ s 0))≠[]then(nG (eQ (at_ s 0)),0)
 else((aju FU (cK s) FU 0).getD (.inl ())).elim (λ_=>(yB μ s,0)) id
def mX:δ aC->aC->ε (Unit⊕(aC×ζ))
 |[],_=>θ (.inl ())
 |n::l,y=>if cK n=y then θ (.inr (n,0))else mX l y
theorem bkj(y:aC):∀l,∃r,mX l y=θ r
 |[]=>⟨_,rfl⟩
 |n::l=>by
  unfold mX;split
  ·exact⟨_,rfl⟩
  ·exact bkj y l
theorem oS(y:aC):aju FU y FU 0=mX bh y:=by kernel_rfl
theorem zH(y:aC):∃r,aju FU y FU 0=θ r:=by rw[oS];exact bkj y _
theorem yl(s:aC)(h:γ s=1):at_ (cK s) 0=eQ (at_ s 0):=by
 match s,h with
 |[c],_=>rfl
theorem HZ(s:aC)(g:γ s<=9223372036854775807):asy FU s=θ (iC s):=by
 unfold asy iC;rw[te s g,aR];obtain⟨r,k⟩:=zH _;obtain⟨b,m⟩:=C1 s g;cases n:iH s
 ·rfl
 ·rw[gL,aH,aR];by_cases e:64<γ s
  ·rw[aD aU,aM,aB (Or.inr e)]
  ·have l:¬(μ=ν\/64<γ s):=by simp[e]
   rw[aE aU,aH,aA l,N5 s g,aR,k];have a:dE (λj=>((adj FU s μ).bind λd=>θ (d.1,0))) (λq=>θ q) r=θ (dE (λ_=>(yB μ s,0)) id r):=by
    cases r with
    |inl _=>rw[m];rfl
    |inr _=>rfl
   by_cases i:γ s=1
   ·have c:(γ s:Int)=1:=by omega
    rw[aB c,aS aU,An,aR,iu,aR];by_cases f:nG (eQ (at_ s 0))=[]
    ·rw[aB f,aA (λh=>h.2 f)];exact a
    ·rw[aA f,aR,Rt,aB ⟨i,f⟩]
   ·have c:¬(γ s:Int)=1:=by omega
    rw[aA c,aA (λh=>i h.1)];exact a
theorem rV(s:aC)(f:γ s<=9223372036854775807):tr FU s=θ (iC s):=by
 unfold tr iC;rw[bce s f,aR];obtain⟨r,i⟩:=zH (cK s);cases m:iH s
 ·rfl
 ·rw[gL,aH,aR];by_cases d:64<γ s
  ·rw[aD aU,aM,aB (Or.inr d)]
  ·have l:¬(μ=ν\/64<γ s):=by simp[d]
   rw[aE aU,aH,aA l,i,IS,XI s f,aR,KB,i,aR,EB s f];have k:γ (cK s)=γ s:=by simp[cK]
   have a:dE (λ(j:Unit)=>((θ (yB μ s)).bind λ(c:aC)=>θ (c,(0:ζ)))) (λq=>θ q) r=θ (dE (λ_=>(yB μ s,0)) id r):=by cases r<;>rfl
   by_cases g:γ s=1
   ·have b:(γ s:Int)=1:=by omega
    rw[aB b,aS aU,yl s g,D9,aR,aR];by_cases e:nG (eQ (at_ s 0))=[]
    ·rw[aD e,gL,aH,aA (λh=>h.2 e)];exact a
    ·rw[aE e,vP,aM,aS aU,aR,aB ⟨g,e⟩]
   ·have b:¬(γ s:Int)=1:=by omega
    rw[aA b,aR,aH,aA (λh=>g h.1)];exact a
theorem Z9{fu:Nat}(c:aC)(l:δ aC)(i:γ l<=100)(e:∀x∈l,x≠c)(n:Nat):∀(k a:Nat),k+n=γ l->n<a->avt fu c l a (k:Int)=θ (.inl ()):=by
 induction n with
 |zero=>intro k a f g;obtain⟨a,rfl⟩:=bV a;rw[bgn,atu,aA aU]
 |succ n d=>
  intro k a f g;obtain⟨a,rfl⟩:=bV a;have b:(0:Int)<=(k:Int)/\(k:Int)<(γ l:Int):=aA0
  have h:el l (k:Int)≠c:=by
   have:el l (k:Int)=l[k]'aU:=by simp[el,show k<γ l by omega]
   rw[this];exact e _ (lL _)
  rw[bgn,atu,aB aU,aS b,aS b,aA h,aS (cA _ aU aU)];exact d (k+1) a aU aU
theorem Xo(c:aC)(l:δ aC)(b:γ l<=100)(a:∀x∈l,x≠c):bk FU c l=θ ν:=by unfold bk;have:=Z9 (fu:=FU) c l b a (γ l) 0 FU aU aA4;rw[show((0:Int))=((0:Nat):Int)from rfl,this];rfl
theorem jn{fu:Nat}(c:aC)(d:∀x∈vI,x.1≠c)(n:Nat):∀k a,k+n=31->n<a->asd fu c a k=θ (.inl ()):=by
 have h:γ vI=31:=aA5;induction n with
 |zero=>intro k a e f;obtain⟨a,rfl⟩:=bV a;rw[bdm,apg,aA aU]
 |succ n b=>
  intro k a e f;obtain⟨a,rfl⟩:=bV a;have g:(el vI (k:Int)).1≠c:=by
   have:el vI (k:Int)=vI[k]'aU:=by simp[el,show k<γ vI by omega]
   rw[this];exact d _ (lL _)
  rw[bdm,apg,aB aU,aS aU,aS aU,aA g,aS (cA _ aU aU)];exact b (k+1) a aU aU
theorem Nk(c:aC)(a:∀x∈vI,x.1≠c):tx FU c=θ 0:=by unfold tx;have:=jn (fu:=FU) c a 31 0 FU aU aA4;rw[show((0:Int))=(0:Nat)from rfl,this];rfl
theorem Gs(c:aC)(f:∀x∈vI,x.1≠c):tm FU c=θ 0:=by
 have d:∀n:aC,(vI.any λx=>x.1==n)=μ->n≠c:=λn h=>by obtain⟨x,hx,e⟩:=cV.1 h;rw[<-eq_of_beq e];exact f x hx
 have b:∀n:aC,(vI.any λx=>x.1==n)=μ->¬c=n:=λn h e=>d n h e.symm;have a:∀l:δ aC,γ l<=100->(l.all λn=>vI.any λx=>x.1==n)=μ->bk FU c l=θ ν:=λl g h=>Xo c l g λx hx=>d x (aT.1 h x hx);unfold tm;rw[a _ aA1 aA5,aR,aH,aA (b _ aA5),aA (b _ aA5),aA (b _ aA5),a _ aA1 aA5,aR,aH,a _ aA1 aA5,aR,aH,a _ aA1 aA5,aR,aH]
def Al(c:aC):η:=(asc FU c).getD ν
theorem ik:∀x∈vI,asc FU x.1=θ (Al x.1):=aA5
theorem EY(c:aC)(b:∀x∈vI,x.1≠c):asc FU c=θ ν:=by
 have a:∀n:aC,(vI.any λx=>x.1==n)=μ->¬c=n:=λn h e=>by obtain⟨x,hx,e'⟩:=cV.1 h;exact b x hx ((eq_of_beq e').trans e.symm)
 unfold asc;rw[aA (a _ aA5),aA (a _ aA5),aA (a _ aA5),aA (a _ aA5),aA (a _ aA5),Nk c b];rfl
theorem il(c:aC):asc FU c=θ (Al c):=by
 by_cases h:∃x∈vI,x.1=c
 ·obtain⟨x,hx,rfl⟩:=h;exact ik x hx
 ·have:=EY c λx hx e=>h ⟨x,hx,e⟩;rw[Al,this];rfl
def zV:δ aC:=[([67,111,110,116,97,99,116]),([80,97,116,104]),([82,101,99,111,114,100,45,82,111,117,116,101]),([82,111,117,116,101]),([83,101,114,118,105,99,101,45,82,111,117,116,101]),([86,105,97])]
theorem Ze(c:aC):((tm FU c).bind λ(b:Int)=>(if b=(7:Int)then θ μ else((bk FU c zV).bind λ(a:η)=>θ a)))=θ (Al c):=by
 by_cases h:∃x∈vI,x.1=c
 ·obtain⟨x,hx,rfl⟩:=h;revert x;decide+kernel
 ·have d:∀x∈vI,x.1≠c:=λx hx e=>h ⟨x,hx,e⟩;have f:∀n:aC,(vI.any λx=>x.1==n)=μ->n≠c:=λn h=>by obtain⟨x,hx,e⟩:=cV.1 h;rw[<-eq_of_beq e];exact d x hx
  have g:(zV.all λn=>vI.any λx=>x.1==n)=μ:=aA5;rw[Gs c d,aR,aA aA1,Xo c zV aA1 (λx hx=>f x (aT.1 g x hx)),Al,EY c d];rfl
theorem Sn(s:aC)(a:γ s<=9223372036854775807):bhx FU s=θ (if(iC s).2=0 then Al (iC s).1 else ν):=by
 unfold bhx;rw[rV s a,aR];by_cases h:(iC s).2=0
 ·have:=Ze (iC s).1;unfold zV at this;rw[aB h,aB h,this];rfl
 ·rw[aA h,aA h];rfl
open Go.Lib renaming trimLeftS → Ge
variable {a:Type}
theorem dS{p:Prop}[Decidable p]{k:ε a}(h:p:=by first|omega|exact cA _ aU aU|(simp only[Re,dI,List.length_nil,List.length_singleton];omega)):gd p k=k:=aS h
theorem lZ(k:Nat):k+1=((k+1:Nat):Int):=rfl
theorem mZ(p:ζ->η)(s:aC)(F:Nat->Int->ε Int)
  (g:∀a,F (a+1) (γ s)=θ (γ s:Int))
  (f:∀a k,k<γ s->p (at_ s k)=ν->F (a+1) k=θ (k:Int))
  (e:∀a k,k<γ s->p (at_ s k)=μ->F (a+1) k=F a (k+1)) (n:Nat):
  ∀k a,k+n=γ s->n<a->F a k=θ ((k+cI p (s.drop k):Nat):Int):=by
 induction n with
 |zero=>intro k a c d;obtain⟨a,rfl⟩:=bV a;obtain rfl:k=γ s:=aA0;rw[g,XT];rfl
 |succ n b=>
  intro k a c d;obtain⟨a,rfl⟩:=bV a;rw[Iq s k aU];cases h:p _
  ·rw[f a k aU h];simp[cI,h]
  ·rw[e a k aU h,lZ,b _ a aU aU];have i:cI p (at_ s k::s.drop (k+1))=1+cI p (s.drop (k+1)):=by simp[cI,h,Hv]
   rw[i,Ct]
theorem Xc(i:Int)(n:Nat):min (max i 0) n=((Fo i n)):=aD4
theorem Ln(p:ζ->η):∀(a b:aC),a.all p=μ->cI p (a++b)=γ a+cI p b
 |[],b,_=>by simp
 |c::a,b,h=>by rw[Jf,lA]at h;rw[NM,cI,aB h.1,Ln p a b h.2,cN];omega
theorem lQ(p:ζ->η)(c:ζ)(l:aC)(h:p c=ν):cI p (c::l)=0:=by rw[cI,aA (by simp[h])]
theorem xX(fu:Nat)(c:ζ):ud fu c=θ (bX c):=by show ud 0 c=_;revert c;exact fM _ aA5
theorem bft(fu:Nat)(c:ζ):y4 fu c=θ (bX c):=by show y4 0 c=_;revert c;exact fM _ aA5
theorem Bu(fu:Nat)(c:ζ):ahq fu c=θ (eJ c):=by show ahq 0 c=_;revert c;exact fM _ aA5
theorem bcc(fu:Nat)(c:ζ):ua fu c=θ (eJ c):=by show ua 0 c=_;revert c;exact fM _ aA5
theorem BM(fu:Nat)(c:ζ):apf fu c=θ (Y9 c):=by show apf 0 c=_;revert c;exact fM _ aA5
theorem uV(s:aC)(c:γ s<=4194304)(i:Int):tu FU s i=θ ((bT bX s i):Int):=by
 unfold tu ajy;have d:=uT i (γ s);rw[Xc,mZ bX s (aeq FU s) ?_ ?_ ?_ (γ s-Fo i (γ s)) _ FU aU aA4]
 ·rfl
 ·intro a;rw[age,acs,aA aU];rfl
 ·intro a k b h;rw[age,acs,aB aU,dS,xX,h];rfl
 ·intro a k b h;rw[age,acs,aB aU,dS,xX,h,aR,aR,aM,dS]
theorem YC(s:aC)(c:γ s<=4194304)(i:Int):MY FU s i=θ ((bT bX s i):Int):=by
 unfold MY;have d:=uT i (γ s);rw[Xc,mZ bX s (aue FU s) ?_ ?_ ?_ (γ s-Fo i (γ s)) _ FU aU aA4]
 ·rfl
 ·intro a;rw[axb,aly,aA aU];rfl
 ·intro a k b h;rw[axb,aly,aB aU,dS,bft,h];rfl
 ·intro a k b h;rw[axb,aly,aB aU,dS,bft,h,aR,aR,aM,dS]
def JA(p:ζ->η)(l:aC):aC:=(l.reverse.dropWhile p).reverse
theorem EE(p:ζ->η)(c:ζ)(l:aC):JA p (c::l)=if JA p l=[]then(if p c then []else [c])else c::JA p l:=by
 unfold JA;rw[List.reverse_cons,List.dropWhile_append];cases h:l.reverse.dropWhile p with
 |nil=>cases b:p c<;>simp[b]
 |cons a t=>simp
theorem I3(p:ζ->η)(l:aC)(c:ζ):JA p (l++[c])=if p c then JA p l else l++[c]:=by unfold JA;rw[List.reverse_append,List.reverse_singleton,pj,List.dropWhile_cons];split<;>simp
theorem Mg(p:ζ->η):∀l:aC,(JA p l).dropWhile p=JA p (l.dropWhile p)
 |[]=>rfl
 |c::l=>by
  have b:=Mg p l;cases a:p c
  ·have e:List.dropWhile p (c::l)=c::l:=by simp[a]
   rw[e,EE];split<;>simp[a]
  ·have e:List.dropWhile p (c::l)=l.dropWhile p:=by simp[a]
   rw[e,<-b,EE];split
   ·rename_i h;simp[h]
   ·simp[a]
theorem Br(p:ζ->η):∀l:aC,(l.dropWhile p).dropWhile p=l.dropWhile p
 |[]=>rfl
 |c::l=>by
  cases h:p c with
  |true=>rw[List.dropWhile_cons_of_pos h];exact Br p l
  |false=>rw[List.dropWhile_cons_of_neg (by rw[h];decide),List.dropWhile_cons_of_neg (by rw[h];decide)]
def cT(s:aC):aC:=JA bX (s.dropWhile bX)
theorem Fj:(λc=>([32,9]).contains c)=bX:=by funext c;revert c;exact fM _ aA5
theorem B5(s:aC):Lib.trimS s [32,9]=cT s:=by unfold Lib.trimS Ge Lib.trimRightS cT;rw[Fj];exact Mg bX s
theorem lP(s:aC)(a:γ s<=4194304):YD FU s=θ (cT s):=by unfold YD;rw[dS,aS aA1,B5]
theorem biw(p:ζ->η):∀l:aC,l.drop (cI p l)=l.dropWhile p
 |[]=>rfl
 |c::l=>by
  have b:=biw p l;cases a:p c
  ·simp[cI,a]
  ·simp[cI,a,b]
theorem wZ(p:ζ->η)(s:aC):bT p s 0=cI p s:=by have a:Fo 0 (γ s)=0:=aD4;unfold bT;rw[a];simp
theorem KS(s:aC)(y:Int)(i:γ (s.drop y.toNat)<=4194304)(n:Nat):∀a,n<=γ (s.drop y.toNat)->n<a->
  ∃m:Nat,m<=n/\aye FU s y a (n:Int)=θ (m:Int)/\(s.drop y.toNat).take m=JA bX ((s.drop y.toNat).take n):=by
 induction n with
 |zero=>intro a c d;obtain⟨a,rfl⟩:=bV a;exact⟨0,dO _,by rw[bih,awh,aA aU];rfl,rfl⟩
 |succ n b=>
  intro a c d;obtain⟨a,rfl⟩:=bV a;have e:(((n+1:Nat):Int)-1)=(n:Int):=aA0;rw[bih,awh,aB aU,e,dS,dS,bft,dS,tY _ n aU,I3];cases h:bX (at_ (s.drop y.toNat) (n:Int))
  ·exact⟨n+1,dO _,rfl,by simp[tY _ n (show n<γ (s.drop y.toNat) by omega)]⟩
  ·obtain⟨m,j,g,f⟩:=b a aU aU;exact⟨m,aA0,g,aD5⟩
theorem bcd(s:aC)(a:γ s<=4194304):bj FU s=θ (cT s):=by
 unfold bj;have g:=jL bX s 0;have b:γ (s.drop (((bT bX s 0):Int)).toNat)<=4194304:=aB6;obtain⟨m,h,d,c⟩:=KS s _ b _ FU (dO _) aA4;rw[YC s a,aR,dS,d,aR,dS];have e:(m:Int).toNat=m:=aA0;rw[e,c,hZ];have f:(((bT bX s 0):Int)).toNat=cI bX s:=by rw[wZ];omega
 rw[f,biw];rfl
theorem fq(p:ζ->η)(l:aC):γ (JA p l)<=γ l:=by unfold JA;have:=bkz p l.reverse;simpa using this
theorem BZ(s:aC):γ (cT s)<=γ s:=oF (fq _ _) (bkz _ _)
def fV:aC->Nat->aC->aC×Int×ζ
 |[],k,_=>([],k,6)
 |[c],k,a=>if c=34 then(a,((k+1:Nat)),0)else if c=92 then([],((k+1:Nat)),6)else if eJ c then([],k,5)else([],((k+1:Nat)),6)
 |c::d::r,k,a=>
  if c=34 then(a,((k+1:Nat)),0)
  else if c=92 then(if Y9 d then fV r (k+2) (a++[d])else([],k,5))
  else if eJ c then([],k,5)else fV (d::r) (k+1) (a++[c])
theorem mT(c:ζ)(l:aC)(k:Nat)(a:aC):fV (c::l) k a=
  if c=34 then(a,((k+1:Nat):Int),0)
  else if c=92 then(if l=[]then([],((k+1:Nat)),6)else if Y9 (at_ l 0)then fV (l.drop 1) (k+2) (a++[at_ l 0])else([],k,5))
  else if eJ c then([],k,5)else fV l (k+1) (a++[c]):=by
 cases l with
 |nil=>simp[fV]
 |cons d r=>simp[fV,at_]
def tK(s:aC)(i:Int):aC×Int×ζ:=
 if i<0\/γ s<i then([],0,2)
 else if i=γ s\/at_ s i≠34 then([],i,5)
 else fV (s.drop (i.toNat+1)) (i.toNat+1) []
theorem IG(s:aC)(k:Nat):at_ (s.drop k) 0=at_ s k:=by simp[at_]
theorem bhs(s:aC)(k:Nat):s.drop k=[]↔γ s<=k:=by rw[List.drop_eq_nil_iff]
def Kw(s:aC)(j:((aC×Int)⊕(aC×Int×ζ))):ε (aC×Int×ζ):=
 dE (λv=>(if(γ s:Int)<=v.2 then θ ([],γ s,6)else(gd (bK (v.2+1))<|some (v.1,v.2+1,0)))) (λq=>θ q) j
theorem vk(s:aC)(p:γ s<=4194304)(n:Nat):∀k b (a:aC),γ s-k<=n->n<b->k<=γ s->γ a<=k->
  ((asa FU s b a k).bind (Kw s))=θ (fV (s.drop k) k a):=by
 induction n with
 |zero=>intro k b a g l j m;obtain⟨b,rfl⟩:=bV b;obtain rfl:k=γ s:=aA0;rw[avh,akg,aA aU,XT,aR];unfold Kw;rw[kA,aB aA3];rfl
 |succ n e=>
  intro k b a g l j m;obtain⟨b,rfl⟩:=bV b;by_cases i:k<γ s
  ·rw[Iq s k i,mT,avh,akg,aB aU,dS];by_cases d:at_ s (k:Int)=34
   ·rw[aB d,aB d,aR];unfold Kw;rw[kA,aA aA2,aS (cA _ aA2 aA2)];rfl
   ·rw[aA d,aA d];by_cases c:at_ s k=92
    ·rw[aB c,aB c,dS];by_cases f:k+1=γ s
     ·rw[aB aU,aB ((bhs s _).2 aU),aR];unfold Kw;rw[Rt,f]
     ·rw[aA aU,aA (λh=>f (by have:=(bhs s _).1 h;omega)),dS,dS,BM,aR,IG,lZ];cases o:Y9 _
      ·rfl
      ·rw[gL,aH,aB rfl,dS,dS,dS,dS,Rx,lZ,
        e _ b _ aU aU aU aA2]
    ·rw[aA c,aA c,Bu,aR];cases o:eJ _
     ·rw[aH,aA aA1,dS,dS,dS,lZ,e _ b _ aU aU aU aA2]
     ·rfl
  ·obtain rfl:k=γ s:=by omega
   rw[avh,akg,aA aU,XT,aR];unfold Kw;rw[kA,aB aA3];rfl
theorem wU(s:aC)(e:γ s<=4194304)(i:Int):aqj FU s i=θ (tK s i):=by
 unfold aqj tK;by_cases d:i<0
 ·rw[aB d,aB (show i<0\/γ s<i from .inl d)];rfl
 ·rw[aA d];by_cases c:γ s<i
  ·rw[aD c,aB (show i<0\/γ s<i from .inr c)];rfl
  ·rw[aE c,aA (show¬(i<0\/γ s<i)by omega)];by_cases b:i=(γ s:Int)
   ·rw[aB b,aB (show i=(γ s:Int)\/at_ s i≠34 from .inl b)];rfl
   ·rw[aA b,dS];by_cases a:at_ s i=34
    ·rw[aD a,aA (by simp[b,a]),dS];obtain⟨k,rfl⟩:∃k:Nat,i=k:=⟨i.toNat,aA0⟩;exact vk s e (γ s) (k+1) FU [] aU aA4 aU aA3
    ·rw[aE a,aB (.inr a)];rfl
open Go.Lib renaming join → cY, trimLeftS → Ge
open List renaming length → aL
theorem oh(p:ζ->η)(s:aC)(r:a)(F:Nat->Int->ε (Unit⊕a))
  (i:∀b,F (b+1) (γ s)=θ (.inl ()))
  (g:∀b k,k<aL s->p (at_ s k)=ν->F (b+1) k=θ (.inr r))
  (f:∀b k,k<aL s->p (at_ s k)=μ->F (b+1) k=F b (k+1)) (n:Nat):
  ∀k b,k+n=aL s->n<b->F b k=θ (if(s.drop k).all p=μ then .inl ()else .inr r):=by
 induction n with
 |zero=>intro k b d e;obtain⟨b,rfl⟩:=bV b;obtain rfl:k=aL s:=aA0;rw[i,XT];rfl
 |succ n c=>
  intro k b d e;obtain⟨b,rfl⟩:=bV b;rw[Iq s k aU,Jf];cases h:p _
  ·rw[g b k aU h];rfl
  ·rw[f b k aU h,lZ,c _ b aU aU];simp
theorem nZ(p:ζ->η)(s:aC)(f:aL s<=4194304)(r:a)(F:Nat->Int->ε (Unit⊕a))
  (e:∀b,F (b+1) (γ s)=θ (.inl ()))
  (d:∀b k,k<aL s->p (at_ s k)=ν->F (b+1) k=θ (.inr r))
  (c:∀b k,k<aL s->p (at_ s k)=μ->F (b+1) k=F b (k+1)):F FU 0=θ (if s.all p=μ then .inl ()else .inr r):=by
 have:=oh p s r F e d c (γ s) 0 FU aU aA4;exact this
theorem NA(s:aC)(k:aL s<=4194304)(l:aC):∀p a,aL p+aL l=aL s->aL l<a->
  ase FU s a (p++l) (γ p)=θ (p++l.map eQ):=by
 induction l with
 |nil=>intro p a g i;obtain⟨a,rfl⟩:=bV a;simp at g;rw[bdo,apj,aA aU];rfl
 |cons c l f=>
  intro p a g i;obtain⟨a,rfl⟩:=bV a;simp at g i;have j:=xH p c l;have b:=f (p++[eQ c]) a aB4 aU;have ok:bK ((aL p:Int)+1):=cA _ aU aU;rw[bdo,apj,aB aU];simp only[aS j,Rp,aS ok,oU];by_cases e:65<=c
  ·by_cases d:c<=90
   ·simp only[aB e,aD d,Wa c e d];rw[Xp p (eQ c),b];simp
   ·simp only[aE d];rw[tg c (λh=>d h.2)]at b;rw[Xp p c,show p++c::l=(p++[c])++l by simp,b];simp[tg c (λh=>d h.2)]
  ·simp only[aA e];rw[tg c (λh=>e h.1)]at b;rw[Xp p c,show p++c::l=(p++[c])++l by simp,b];simp[tg c (λh=>e h.1)]
theorem bc(s:aC)(a:aL s<=4194304):XL FU s=θ (cK s):=by unfold XL;have:=NA s a s [] FU aA3 aA4;simp at this;rw[this];rfl
theorem Xt(c:ζ):amr FU c=θ (mw c):=by revert c;exact fM _ aA5
theorem Cb(c:ζ):YF FU c=θ (gA c):=by revert c;exact fM _ aA5
theorem Ux(c:ζ):axr FU c=θ (mw c):=by revert c;exact fM _ aA5
theorem zN(c:ζ):XK FU c=θ (gA c):=by revert c;exact fM _ aA5
theorem pb:∀c:ζ,(uc FU c).map (·.2)=θ (fX c):=fM _ aA5
theorem z7(c:ζ):∃v,uc FU c=θ (v,fX c):=by obtain⟨⟨v,b⟩,d,a⟩:=bR.1 (pb c);exact⟨v,by rw[d,<-a]⟩
theorem fc:∀c:ζ,(bg FU c).map (λn=>decide (n<0))=θ (!fX c):=fM _ aA5
theorem G1(c:ζ):∃n,bg FU c=θ n/\decide (n<0)= !fX c:=by obtain⟨n,b,a⟩:=bR.1 (fc c);exact⟨n,b,a⟩
def an(y:aC)(l:δ aC):δ aC:=match l with|x::r=>(y++x)::r|[]=>[y]
theorem PW(l:δ aC)(h:l≠[]):an [] l=l:=by cases l with|nil=>exact absurd rfl h|cons _ _=>rfl
theorem aym(c:ζ)(l:aC):cH c (c::l)=[]::cH c l:=by rw[cH,aB rfl]
theorem tl(c b:ζ)(l:aC)(h:b≠c):cH c (b::l)=an [b] (cH c l):=by rw[cH,aA h];cases cH c l<;>rfl
theorem gj(y z:aC)(l:δ aC)(h:l≠[]):an y (an z l)=an (y++z) l:=by cases l with|nil=>exact absurd rfl h|cons _ _=>simp[an]
theorem Lj(c:ζ):∀s:aC,((cH c s).map aL).sum+γ (cH c s)=aL s+1
 |[]=>rfl
 |b::l=>by
  have a:=Lj c l;by_cases h:b=c
  ·subst h;rw[aym];simp;omega
  ·rw[tl c b l h];cases hx:cH c l with
   |nil=>exact absurd hx (De c l)
   |cons x r=>rw[hx]at a;simp only[an,uX,yX,cN,cG,iP]at a⊢;omega
theorem CZ(s:aC)(f k:Nat)(b:f<=k)(h:k<aL s):sub s f ((k+1:Nat))=sub s f k++[at_ s k]:=by unfold sub;have a:((k+1:Nat):Int).toNat-((f:Nat):Int).toNat=(k-f)+1:=aA0;rw[a,tY _ (k-f) aB6];congr 2;simp only[at_,bJ,bU];congr 2;omega
theorem Z4(s:aC)(k:Nat):sub s k k=[]:=by unfold sub;simp
theorem UY(s:aC)(c:ζ)(r:aL s<=4194304)(n:Nat):∀k f b out,k+n=aL s->n<b->f<=k->aL out<=k->
  ∃a f':_,anh FU s c b out f k=θ (a,((f':Nat):Int))/\f'<=aL s/\γ a<=aL s/\a++[s.drop f']=out++an (sub s f k) (cH c (s.drop k)):=by
 induction n with
 |zero=>intro k f b out q p m o;obtain⟨b,rfl⟩:=bV b;obtain rfl:k=aL s:=aA0;refine⟨out,f,by rw[bem,art,aA aU],aA0,aA0, ?_⟩;rw[XT];congr 2;unfold sub;rw[eW aB6];simp
 |succ n l=>
  intro k f b out q p m o;obtain⟨b,rfl⟩:=bV b;have d:k<aL s:=aA0;rw[bem,art,aB aU,dS,Iq s k d];by_cases e:at_ s (k:Int)=c
  ·rw[aB e,aS aU,aS aA2,dS,dS];obtain⟨o',f',j,i,h,g⟩:=l (k+1) (k+1) b (out++[sub s (f:Int) (k:Int)]) aU aU aU aA2;refine⟨o',f',j,i,h, ?_⟩;rw[g,e,aym,Z4,PW _ (De c _)];simp[an]
  ·rw[aA e,dS];obtain⟨o',f',j,i,h,g⟩:=l (k+1) f b out aU aU aU aU;refine⟨o',f',j,i,h, ?_⟩;rw[g,tl c _ _ e,gj _ _ _ (De c _),CZ s f k m d]
theorem pieces_eq(s:aC)(c:ζ)(b:aL s<=4194304):axq FU s c=θ (cH c s):=by obtain⟨o',f',e,h,g,d⟩:=UY s c b (γ s) 0 0 FU [] aU aA4 aU aA3;unfold axq;have a:anh FU s c FU [] (0:Int) (0:Int)=θ (o',((f':Nat):Int)):=e;rw[a,aR,aS (by simp only;omega),aS aA2];simp;rw[d,YN,Rl];have f:sub s ((0:Nat):Int) ((0:Nat):Int)=[]:=Z4 s 0;rw[f,PW _ (De c s)]
def wW:aC->aC
 |[]=>[]
 |[c]=>[c]
 |c::d::l=>if c=48 then wW (d::l)else c::d::l
theorem low48:∀c:ζ,(eQ c==48)=(c==48):=fM _ aA5
theorem B7(c:ζ)(l:aC):Ge (cK (c::l)) [48]=if c=48 then Ge (cK l) [48]else cK (c::l):=by
 unfold Ge cK;rw[uX,List.dropWhile_cons];have h:[48].contains (eQ c)=(c==48):=by rw[<-low48 c];simp;rfl
 rw[h];by_cases a:c=48
 ·rw[aB a,aB aC0]
 ·rw[aA a,aA aC0]
theorem Lg:∀g:aC,g≠[]->cK (wW g)=jO g
 |[],h=>absurd rfl h
 |[c],_=>by
  have e:jO [c]=if Ge (cK [c]) [48]=[]then [48]else Ge (cK [c]) [48]:=rfl;rw[e,B7];by_cases a:c=48
  ·subst a;rfl
  ·rw[aA a];rfl
 |c::d::l,_=>by
  have b:=Lg (d::l) aA3;have e:jO (c::d::l)=if Ge (cK _) _=[]then [48]else Ge (cK _) _:=rfl;rw[e,B7,wW];by_cases a:c=48
  ·simp only[aB a];rw[b];rfl
  ·simp only[aA a];rw[aA (by simp[cK])]
theorem WM(n:Nat):∀(g:aC) (a:Nat),aL g<=n->n<a->awb FU a g=θ (wW g):=by
 induction n with
 |zero=>intro g a b i;obtain⟨a,rfl⟩:=bV a;obtain rfl:g=[]:=Je aU;rw[bgs,aub,aA aA3];rfl
 |succ n f=>
  intro g a b i;obtain⟨a,rfl⟩:=bV a;rw[bgs,aub]
  match g,b with
  |[],_=>rw[aA aA3];rfl
  |[c],_=>rw[aA aA3];rfl
  |c::d::l,b=>
   have h:(1:Int)<(γ (c::d::l):Int):=by simp only[cN];omega
   rw[aB h,aS aU,aR,wW];have j:at_ (c::d::l) (0:Int)=c:=rfl;rw[j];by_cases e:c=48
   ·rw[aD e,aM,aS aU,aB e];exact f (d::l) a (by simp only[cN]at b⊢;omega) aU
   ·rw[aE e,aH,aA e]
theorem Uo:∀g:aC,γ (wW g)<=aL g
 |[]=>dO _
 |[c]=>dO _
 |c::d::l=>by
  rw[wW];split
  ·have:=Uo (d::l);simp at this⊢;omega
  ·exact dO _
theorem S6(g:aC)(l:aL g<=4194304):bfe FU g=θ (if qT g then(jO g,μ)else([],ν)):=by
 unfold bfe;by_cases b:(aL g:Int)<1
 ·rw[aB b,uN g (.inl b)];rfl
 ·rw[aA b,aR];by_cases c:4<(aL g:Int)
  ·rw[aD c,uN g (.inr c)];rfl
  ·rw[aE c];have d:=nZ fX g l (([]:aC),ν) (awc FU g)
    (λi=>by rw[ayy,anj,aA aU])
    (λi k j h=>by obtain⟨n,f,a⟩:=G1 (at_ g k);rw[h]at a;rw[ayy,anj,aB aU,dS,f,aR,aB (bY a)])
    (λi k j h=>by obtain⟨n,f,a⟩:=G1 (at_ g k);rw[h]at a;rw[ayy,anj,aB aU,dS,f,aR,aA (fH a),dS])
   rw[d,aR];cases hx:g.all fX with
   |false=>rw[Wq g hx];rfl
   |true=>
    rw[Wp g b c hx,WM (γ g) g FU (dO _) aA4,aR,
     XI _ (by have:=Uo g;omega),Lg g (by intro e;subst e;simp at b)]
    rfl
theorem VT(p:δ aC)(x:aC):cY (p++[x]) [58]=(if p=[]then []else cY p [58]++[58])++x:=by
 induction p with
 |nil=>simp[cY]
 |cons a p c=>
  cases p with
  |nil=>simp[cY]
  |cons b p=>
   have e:∀u v l,cY (u::v::l) [58]=u++(58::cY (v::l) [58]):=λu v l=>by simp[cY]
   rw[NM,NM,e,<-NM,c,e];simp
theorem WL(X:δ aC)(s:aL X<=4194305)(hx:∀x∈X,aL x<=4194304)(q:δ aC):∀p c,X=p++q->aL q<c->p.all qT=μ->
  ani FU X c (cY (p.map jO) [58]) (γ p)=θ (if X.all qT=μ then .inl (cY (X.map jO) [58])else .inr ([],0,ν)):=by
 induction q with
 |nil=>intro p c h k d;obtain⟨c,rfl⟩:=bV c;rw[gD]at h;subst h;rw[beo,arv,aA aU,aB d]
 |cons a q l=>
  intro p c h k d;obtain⟨c,rfl⟩:=bV c;have i:=bF aL h;simp at i k;have e:(0:Int)<=(aL p:Int)/\(aL p:Int)<(aL X:Int):=aA0;have n:el X (aL p:Int)=a:=aA9;have o:aL a<=4194304:=hx a aA6;rw[beo,arv,aB e.2,aS e,aS e,n,S6 a o,aR];cases g:qT a with
  |false=>
   have:X.all qT=ν:=by rw[h,eA,Jf,g];simp
   rw[this];rfl
  |true=>
   have r:=Bh a g;have j:=Z0 [58] 4 (p.map jO) (λx f=>by obtain⟨y,m,rfl⟩:=dB.1 f;exact Bh y (aT.1 d y m));simp at j;have:=l (p++[a]) c aA6 aU (by rw[eA,d];simpa using g);rw[Ry,cf,VT]at this;rw[show(γ (p++[a]):Int)=(aL p:Int)+1 by simp]at this;simp only[gG];cases p with
   |nil=>rw[aA aA3,aR,aS (by simp only[cY];simp;omega)];exact this
   |cons b p=>simp only[cN]at j i e;rw[aB (by simp only[cN];omega),aS aB5,aR,aS aB7,aS (cA _ aU aA2)];exact this
theorem rQ(s:aC)(b:aL s<=4194304):asx FU s=θ (cY (iG s).1 [58],(γ (iG s).1:Int),(iG s).2):=by
 unfold asx;by_cases h:s=[]
 ·rw[aB h,Wr s h];rfl
 ·have d:=my 58 s;have:=WL (cH 58 s) aU (λx hx=>oF (d.2 x hx) b) (cH 58 s) [] FU aA3 aA4 rfl;have a:ani FU _ FU [] 0=_:=this;rw[aA h,bjt s h,pieces_eq s 58 b,aR,a,aR];cases c:(cH 58 s).all qT with
  |false=>rw[xS s c];rfl
  |true=>rw[sT s c,aB rfl,kA,Gf]
open Go.Lib renaming cut → eF, index → cE, join → cY, trimLeftS → Ge
theorem WN(l:δ aC)(x:Int)(d:γ (el l x)<=4194304):akn FU l x FU 0=θ (if(el l x).all fX=μ then .inl ()else .inr ([],ν)):=by
 refine nZ fX _ d _ _ ?_ ?_ ?_
 ·intro b;rw[aot,ags,aA aU]
 ·intro b k c h;obtain⟨v,a⟩:=z7 _;rw[h]at a;rw[aot,ags,aB aU,dS,a];simp
 ·intro b k c h;obtain⟨v,a⟩:=z7 _;rw[h]at a;rw[aot,ags,aB aU,dS,a,aR,gL,aH,dS]
theorem S8(s:aC)(p:γ s<=4194304)(n:Nat):∀k c,k+n=γ (cH 58 s)->n<c->((cH 58 s).take k).all qT=μ->
  afi FU s c (XF (cH 58 s) k) k=θ (if(cH 58 s).all qT=μ then .inl ((cH 58 s).map jO)else .inr ([],ν)):=by
 have u:=my 58 s;induction n with
 |zero=>intro k c r t f;obtain⟨c,rfl⟩:=bV c;obtain rfl:k=γ (cH 58 s):=aA0;rw[hZ]at f;rw[axt,ajv,aA aU,aB f,LU]
 |succ n m=>
  intro k c r t f;obtain⟨c,rfl⟩:=bV c;have b:k<γ (cH 58 s):=aA0;have q:=LP (cH 58 s) k aU;have a:0<=(k:Int)/\(k:Int)<(γ (XF (cH 58 s) k):Int):=aA0;have l:=zl (cH 58 s) k b;have d:γ (el (cH 58 s) (k:Int))<=4194304:=oF (u.2 _ (BD _ k b)) p;have fail:qT (el (cH 58 s) (k:Int))=ν->(cH 58 s).all qT=ν:=λh=>Tq qT _ k b h;rw[axt,ajv,aB aU,aS a,aS a,l];by_cases i:(γ (el (cH 58 s) k):Int)<1
  ·rw[aB i,fail (uN _ (.inl i))];rfl
  ·rw[aA i,aR];by_cases g:4<(γ (el (cH 58 s) k):Int)
   ·rw[aD g,fail (uN _ (.inr g))];rfl
   ·rw[aE g,aH,WN _ _ (by rw[l];exact d),l,aR];cases hx:(el (cH 58 s) _).all fX with
    |false=>rw[fail (Wq _ hx)];rfl
    |true=>
     have j:=Wp _ i g hx;rw[aB rfl,kA,bc _ d,aR,aS (by simp[cK];omega),aS aA1];have step:∀v,v=jO _->afi FU s c (kZ _ _ v) ((k:Int)+1)=θ (if(cH 58 s).all qT=μ then .inl ((cH 58 s).map jO)else .inr ([],ν)):=λv o=>by rw[<-S4 (cH 58 s) k v b o];exact m _ c aU aU (Qr qT _ k b f j)
     have ok:bK (k+1):=cA _ aU aU;by_cases e:Ge (cK (el (cH 58 s) k)) [48]=[]
     ·rw[aB e,aS a,aS a,aR,kA,aS ok,step [48] (WI _ e)]
     ·rw[aA e,aS a,aS a,aR,kA,aS ok,step (Ge (cK (el (cH 58 s) (k:Int))) [48]) (WK _ e)]
theorem GO(s:aC)(c:γ s<=4194304):agh FU s=θ (yV s):=by
 have d:=my 58 s;have:=S8 s c (γ (cH 58 s)) 0 FU aU aA4 rfl;rw[GM]at this;have a:afi FU s FU _ 0=_:=this;unfold agh;rw[aS aU,a];cases b:(cH 58 s).all qT with
 |false=>rw[xS s b];rfl
 |true=>rw[sT s b];rfl
theorem S9(x:aC)(hx:γ x<=4194304):(if x=[]then θ ([],μ)else((agh FU x).bind λa=>θ (a.1,a.2)))=θ (iG x):=by
 by_cases h:x=[]
 ·rw[aB h,Wr x h]
 ·rw[aA h,bjt x h,GO x hx];rfl
theorem sU(x:aC):γ (iG x).1<=γ x+1/\∀y∈(iG x).1,γ y<=4:=by
 unfold iG;split
 ·simp
 ·exact bjs x
theorem Ep(x:aC)(h:γ x<=4194304):γ (cY (iG x).1 [58])<=24000000:=by have b:=sU x;have a:=Z0 [58] 4 (iG x).1 b.2;simp at a;omega
theorem IL(s:aC):ayi FU s=θ (dT s):=by
 unfold ayi dT;by_cases a:39<γ s
 ·rw[aB aU,aB a]
 ·rw[aA aU,aA a,aS aU];have h:=BH s [58,58];cases g:(eF s [58,58]).2.2 with
  |false=>have d:=bjs s;rw[GO s aU,aR,aS ⟨aA0,P0 s aU⟩];cases c:(yV s).2<;>rfl
  |true=>
   rw[gL,aH,S9 _ aU,aR,S9 _ aU,aR,aA (show¬(μ=ν)by decide)];have j:=sU (eF s [58,58]).1;have i:=sU (eF s [58,58]).2.1;have f:=Ep (eF s [58,58]).1 aU;have e:=Ep (eF s [58,58]).2.1 aU;cases d:(iG (eF s _).1).2
   ·simp
   ·cases c:(iG (eF s _).2.1).2
    ·simp
    ·rw[gL,aH,aH,dS,aR];by_cases b:7<(γ (iG (eF s [58,58]).1).1:Int)+(γ (iG (eF s [58,58]).2.1).1:Int)
     ·rw[aD b];rfl
     ·rw[aE b,aA aA1,aH,aS ⟨aA0,aA0⟩,aS aA2,aS ⟨aA0,aA0⟩,aS aA2]
def TS(a b:aC):aC×η:=if(!(iG a).2|| !(iG b).2||decide (7<(γ (iG a).1)+(γ (iG b).1:Int)))=μ then([],ν)else(cY (iG a).1 [58]++[58,58]++cY (iG b).1 [58],μ)
theorem index_ge(p:aC):∀l:aC,-1<=cE l p
 |[]=>by unfold cE;split<;>omega
 |b::l=>by
  have:=index_ge p l;rw[cE];split
  ·omega
  ·split
   ·omega
   ·omega
theorem bck(p:aC)(b:ζ)(l:aC):cE (b::l) p=if p.isPrefixOf (b::l)=μ then 0 else if cE l p= -1 then-1 else cE l p+1:=by
 rw[cE];split
 ·rfl
 ·by_cases h:cE l p= -1
  ·rw[aB h,aB aA8]
  ·rw[aA h,aA aA8]
theorem pfx2(s:aC)(k:Nat)(h:k<γ s):([58,58]).isPrefixOf (at_ s k::s.drop (k+1))=(decide (k+1<γ s)&&(at_ s k==58)&&(at_ s ((k+1:Nat))==58)):=by
 by_cases b:k+1<γ s
 ·rw[Iq s (k+1) b,aD b];simp only[List.isPrefixOf,Rw,oD];rw[Bool.beq_comm,Bool.beq_comm (a:=58)]
 ·rw[Rm aU,aE b];simp[List.isPrefixOf]
theorem vw(s:aC)(w:γ s<=4194304)(n:Nat):∀k a,k+n=γ s->n<a->
  aqd FU s a k=θ (if cE (s.drop k) [58,58]= -1 then .inl ()else .inr (TS (s.take (k+(cE (s.drop k) [58,58]).toNat)) (s.drop (k+(cE (s.drop k) [58,58]).toNat+2)))):=by
 induction n with
 |zero=>intro k a o p;obtain⟨a,rfl⟩:=bV a;obtain rfl:k=γ s:=aA0;rw[bka,aya,dS,aA aU,XT];rfl
 |succ n m=>
  intro k a o p;obtain⟨a,rfl⟩:=bV a;have b:k<γ s:=aA0
  rw[bka,aya,dS,Iq s k b,bck,pfx2 s k b];have step:aqd FU s a ((k:Int)+1)=θ (if(if cE (s.drop (k+1)) [58,58]= -1 then(-1:Int)else cE (s.drop (k+1)) [58,58]+1)= -1 then .inl ()else .inr (TS (s.take (k+(if cE (s.drop (k+1)) [58,58]= -1 then(-1:Int)else cE (s.drop (k+1)) [58,58]+1).toNat)) (s.drop (k+(if cE (s.drop (k+1)) [58,58]= -1 then(-1:Int)else cE (s.drop (k+1)) [58,58]+1).toNat+2)))):=by
   rw[lZ,m (k+1) a aU aU];have x:=index_ge [58,58] (s.drop (k+1));by_cases c:cE (s.drop (k+1)) [58,58]= -1
   ·rw[aB c,aB c];rfl
   ·rw[aA c,aA c,aA aU];have e:k+1+(cE (s.drop (k+1)) [58,58]).toNat=k+(cE (s.drop (k+1)) [58,58]+1).toNat:=by omega
    rw[e]
  by_cases l:k+1<γ s
  ·rw[aB aU,dS,aD l,Rw];by_cases f:at_ s (k:Int)=58
   ·rw[aB f,dS,aS aU,aR,lZ];have i:(at_ s (k:Int)==58)=μ:=by simpa using f
    rw[i,Rw];by_cases d:at_ s ((k+1:Nat):Int)=58
    ·have h:(at_ s ((k+1:Nat):Int)==58)=μ:=by simpa using d
     have q:((k:Nat):Int).toNat=k:=aA0;have g:((k:Int)+2).toNat=k+2:=aA0;rw[aD d,gL,aH,h,aB rfl,aS aU,q,rQ _ aB8,aR,dS,aS aU,g,rQ _ aB6,aR];simp only[Int.toNat_zero,Ru,aA (show¬((0:Int)= -1)by decide)];unfold TS;have v:=Ep (s.take k) aB8;have u:=Ep (s.drop (k+2)) aB6;have t:=(sU (s.take k)).1;have r:=(sU (s.drop (k+2))).1;rw[jS]at t;rw[fB]at r;cases z:(iG (s.take k)).2
     ·simp
     ·cases y:(iG (s.drop (k+2))).2
      ·simp
      ·simp only[gL,aH,NL];rw[dS,aR];by_cases j:7<(γ (iG (s.take k)).1:Int)+(γ (iG (s.drop (k+2))).1:Int)
       ·rw[aD j,aM,aB rfl]
       ·rw[aE j,aH,aA aA1,aS aA2,aS aA2]
    ·have h:(at_ s ((k+1:Nat):Int)==58)=ν:=by simpa using d
     rw[aE d,vP,aM,h,aA (show¬(ν=μ)by decide),dS,<-lZ,step]
   ·have i:(at_ s (k:Int)==58)=ν:=by simpa using f
    rw[aA f,aR,aM,i,tT,aA (show¬(ν=μ)by decide),dS,step]
  ·rw[aA aU,aE l,tT];have:cE (s.drop (k+1)) [58,58]= -1:=by rw[Rm aU];rfl
   rw[aB this];rfl
theorem Fh(s p:aC):eF s p=if cE s p= -1 then(s,[],ν)else(s.take (cE s p).toNat,s.drop ((cE s p).toNat+γ p),μ):=by
 unfold eF;have:=index_ge p s;by_cases h:cE s p= -1
 ·rw[aB h,aA aU]
 ·rw[aA h,aB aU]
def D8(s:aC):aC×η:=if(eF s [58,58]).2.2=ν then(cY (iG s).1 [58],(iG s).2&&decide ((γ (iG s).1:Int)=8))else TS (eF s [58,58]).1 (eF s [58,58]).2.1
theorem vx(s:aC)(b:γ s<=4194304):blf FU s=θ (D8 s):=by
 have:=vw s b (γ s) 0 FU aU aA4;rw[YN,Jd]at this;have a:aqd FU s FU 0=_:=this;unfold blf D8;rw[a,Fh];by_cases h:cE s [58,58]= -1
 ·rw[aB h,aB h,rQ s b];cases c:(iG s).2<;>rfl
 ·rw[aA h,aA h];rfl
open Go.Lib renaming index → cE, itoa → gM
theorem RN(c:ζ)(h:gA c=μ):(c-48).toNat=c.toNat-48/\c.toNat<=57/\48<=c.toNat:=by
 have b:=(pH c).1 h;have a:48<=c:=by rw[wO];show 48<=c.toNat;omega
 exact⟨by rw[XR _ _ a];rfl,aA0,aA0⟩
theorem M3(s:aC)(x:Int)(o:γ (el (cH 46 s) x)<=15)(l:aC):∀(p:aC) a,el (cH 46 s) x=p++l->aL l<a->p.all gA=μ->
  aje FU s x a (mP p) (γ p)=θ (if l.all gA=μ then .inl (mP (el (cH 46 s) x))else .inr ν):=by
 induction l with
 |nil=>intro p a h f b;obtain⟨a,rfl⟩:=bV a;rw[gD]at h;rw[bbm,amf,aA aC6,h];rfl
 |cons c l i=>
  intro p a h f b;obtain⟨a,rfl⟩:=bV a;have j:=bF aL h;simp at j f;have d:(0:Int)<=(aL p:Int)/\(aL p:Int)<(γ (el (cH 46 s) x):Int):=aA0;have m:at_ (el (cH 46 s) x) (aL p:Int)=c:=aE0;have n:=uS 14 p aU b;rw[bbm,amf,aB d.2,aS d,m,Cb,Jf];cases g:gA c with
  |false=>rfl
  |true=>
   have k:=RN c g;rw[k.1,aS (cA _ aU aU),aS d,aS (cA _ aU aU),aS (cA _ aU aU)];have e:10*(mP p)+(c.toNat-48:Nat)=(mP (p++[c]):Int):=by rw[bcm];omega
   rw[e,Xp p c];exact i _ a aA6 aU (by rw[eA,b];simpa using g)
theorem ia(s:aC)(j:aL s<=15)(n:Nat):∀k a,k+n=γ (cH 46 s)->n<a->
  ajf FU s a k=θ (if((cH 46 s).drop k).all jU=μ then .inl ()else .inr ν):=by
 have p:=my 46 s;induction n with
 |zero=>intro k a l m;obtain⟨a,rfl⟩:=bV a;obtain rfl:k=γ (cH 46 s):=aA0;rw[bbn,amg,aA aU,XT];rfl
 |succ n i=>
  intro k a l m;obtain⟨a,rfl⟩:=bV a;have b:k<γ (cH 46 s):=aA0;have c:0<=(k:Int)/\(k:Int)<(γ (cH 46 s):Int):=aA0;have g:γ (el (cH 46 s) (k:Int))<=15:=oF (p.2 _ (BD _ k b)) j;have o:(cH 46 s).drop k=el (cH 46 s) (k:Int)::(cH 46 s).drop (k+1):=by rw[Pr _ _ b,zbD b]
  have q:=M3 s (k:Int) g (el (cH 46 s) (k:Int)) [] FU aA3 aA4 rfl;have h:aje FU s (k:Int) FU (0:Int) (0:Int)=_:=q;rw[bbn,amg,aB aU,aS c,aS c,h,aR,o,Jf];cases hx:(el (cH 46 s) _).all gA with
  |false=>rw[Vo _ hx];rfl
  |true=>
   rw[aB rfl,kA];by_cases f:el (cH 46 s) k=[]
   ·rw[aB f,nB _ (.inl (.inl f))];rfl
   ·rw[aA f];by_cases e:255<(mP (el (cH 46 s) k):Int)
    ·rw[aB e,nB _ (.inl (.inr e))];rfl
    ·rw[aA e,aS (cA _ aU aU)];by_cases d:el (cH 46 s) k=gM (mP (el (cH 46 s) k):Int)
     ·rw[aD d,aS (cA _ aU aU),VC _ hx f e d];exact i (k+1) a aU aU
     ·rw[aE d,nB _ (.inr d)];rfl
theorem CA(s:aC):awo FU s=θ (Ke s):=by
 unfold awo;by_cases h:15<(aL s:Int)
 ·rw[aB h,LA s h]
 ·have c:=my 46 s;have:=ia s aU (γ (cH 46 s)) 0 FU aU aA4;rw[YN]at this;have a:ajf FU s FU 0=_:=this;rw[aA h,aS aU,a];cases b:(cH 46 s).all jU with
  |false=>rw[M4 s b];rfl
  |true=>rw[VE s h b];rfl
def jY(c:ζ):η:=mw c||gA c||c==45
def Fk(x:aC):η:=decide (1<=aL x)&&decide (aL x<=63)&& !(at_ x 0==45)&& !(at_ x (aL x-1)==45)&&x.all jY
def mH(x:aC):η:=x.any (λc=> !gA c)
def XH(x:aC):η:=decide ((aL x:Int)<1)||decide (63<(aL x:Int))||(at_ x 0==45)||(at_ x (aL x-1)==45)
theorem QO(x:aC):Fk x=(!XH x&&x.all jY):=by
 unfold Fk XH;have b:decide (1<=aL x)= !decide ((aL x:Int)<1):=by rw[YP];simp;omega
 have a:decide (aL x<=63)= !decide (63<(aL x:Int)):=by rw[YP];simp;omega
 rw[b,a];simp
theorem RZ(x:aC)(hx:aL x<=4194304):(if γ x<(1:Int)then θ μ else(if 63<(aL x:Int)then θ μ else(gd (0<=(0:Int)/\0<(aL x:Int))<|(if(at_ x 0)=45 then θ μ else(gd (bK (aL x-1))<|(gd (0<=(aL x-(1:Int))/\(aL x-1)<(aL x:Int))<|some (decide ((at_ x (aL x-1))=45))))))))=θ (XH x):=by
 unfold XH;by_cases c:(aL x:Int)<1
 ·rw[aB c,aD c];rfl
 ·rw[aA c,aE c];by_cases b:63<(aL x:Int)
  ·rw[aB b,aD b];rfl
  ·rw[aA b,aE b,aS aU];by_cases a:at_ x 0=45
   ·rw[aB a,show(at_ x 0==45)=μ by simpa using a];rfl
   ·rw[aA a,show(at_ x 0==45)=ν by simpa using a,aS (cA _ aU aU),aS aU];rfl
theorem oz(c:ζ):((amr FU c).bind λb=>(bif (!b)then((YF FU c).bind λa=>(bif (!a)then θ (!decide (c=45))else θ ν))else θ ν))=θ (!jY c):=by
 rw[Xt,Cb];unfold jY;by_cases h:c=45
 ·subst h;rfl
 ·rw[show(c==45)=ν by simpa using h,aE h];cases mw c<;>cases gA c<;>rfl
theorem VH(x:aC)(hx:aL x<=4194304)(r:η)(l:aC):∀p a w,x=p++l->aL l<a->
  (l.all jY=μ->pd FU x r a (γ p) w=θ (0,w||mH l,r))/\(l.all jY=ν->∃b,pd FU x r a (γ p) w=θ (1,b,ν)):=by
 induction l with
 |nil=>intro p a w h g;obtain⟨a,rfl⟩:=bV a;rw[gD]at h;rw[aos,agr,aA aC6];simp[mH]
 |cons c l j=>
  intro p a w h g;obtain⟨a,rfl⟩:=bV a;have k:=bF aL h;simp at k g;have i:0<=(aL p:Int)/\(aL p:Int)<(aL x:Int):=aA0;have m:at_ x (aL p:Int)=c:=aE0;have ok:bK ((aL p:Int)+1):=cA _ aU aU;have d:=j (p++[c]) a (w|| !gA c) aA6 aU;rw[<-Xp p c]at d;rw[aos,agr,aB i.2,aS i,m,oz,aR,Jf];cases n:jY c with
  |false=>exact⟨λh=>by simp at h,λ_=>⟨w,by rw[vP,aM]⟩⟩
  |true=>
   have e:(bif w then gd (bK ((aL p:Int)+1)) (pd FU x r a ((aL p:Int)+1) μ)else(YF FU c).bind λ(f:η)=>gd (bK (aL p+1)) (pd FU x r a (aL p+1) (!f)))=pd FU x r a (aL p+1) (w|| !gA c):=by
    cases w with
    |true=>rw[aM,aS ok,tS]
    |false=>rw[aH,Cb,aR,aS ok,NL]
   rw[e];refine⟨λh=> ?_,λh=>d.2 h⟩;rw[d.1 h];simp[mH,oC]
theorem Na(x:aC)(hx:aL x<=4194304)(w r:η):(Fk x=μ->ox FU x w r=θ (0,w||mH x,r))/\(Fk x=ν->∃b,ox FU x w r=θ (1,b,ν)):=by
 have a:=VH x hx r x [] FU w aA3 aA4;unfold ox;rw[RZ x hx,aR,QO];cases c:XH x with
 |true=>exact⟨λh=>by simp at h,λ_=>⟨w,by rw[aM]⟩⟩
 |false=>exact a
theorem zc(c:ζ)(f:aC):(cE f [c]= -1/\cH c f=[f])\/(0<=cE f [c]/\cE f [c]<aL f/\cH c f=f.take (cE f [c]).toNat::cH c (f.drop ((cE f [c]).toNat+1))):=by
 induction f with
 |nil=>exact .inl ⟨rfl,rfl⟩
 |cons b l e=>
  rw[bck];by_cases h:b=c
  ·subst h;right;rw[aB aA3,aym];refine⟨qJ _,by simp only[cN];omega,aA3⟩
  ·rw[aA (by simpa using λx=>h x.symm),tl c b l h];rcases e with⟨d,a⟩|⟨d,a,g⟩
   ·left;rw[aB d,a];exact⟨rfl,rfl⟩
   ·right;rw[aA aU,g];have i:(cE l [c]+1).toNat=(cE l [c]).toNat+1:=aA0;refine⟨aA0,by simp;omega, ?_⟩;rw[i];simp[an]
theorem wg(n:Nat):∀f d (w r),aL f<=n->n<d->n<=4194304->
  ∃w' f' k,((abt FU [46] 0 d w r f).bind λg=>dE (λc=>((ox FU c.2.2 c.1 c.2.1).bind λa=>(if a.1=0 then θ (a.2.1,a.2.2,c.2.2,0)else θ (a.2.1,a.2.2,c.2.2,a.1)))) (λq=>θ q) g)=θ (w',(if(cH 46 f).all Fk=μ then r else ν),f',k)/\
   (k=if(cH 46 f).all Fk=μ then 0 else 1)/\((cH 46 f).all Fk=μ->w'=(w||(cH 46 f).any mH)):=by
 induction n with
 |zero=>intro f d w r t s m;obtain⟨d,rfl⟩:=bV d;obtain rfl:f=[]:=Je aU;have e:cE [] [46]= -1:=rfl;rw[adx,abr,aS aA3,e,aB aA1,aR,kA];obtain⟨b,l⟩:=(Na [] aA3 w r).2 rfl;simp only;rw[l];exact⟨b,[],1,rfl,rfl,λh=>absurd h aA1⟩
 |succ n p=>
  intro f d w r t s m;obtain⟨d,rfl⟩:=bV d;rw[adx,abr,aS aU];rcases zc 46 f with⟨v,o⟩|⟨v,o,u⟩
  ·rw[aB aU,aR,kA,o,Jf];simp only;have i:=Na f aU w r;cases j:Fk f with
   |true=>rw[i.1 j];exact⟨_,_,0,rfl,rfl,λ_=>by simp⟩
   |false=>obtain⟨b,l⟩:=i.2 j;rw[l];exact⟨b,_,1,rfl,rfl,λh=>by cases h⟩
  ·have B:cE f [46]+0=cE f [46]:=by omega
   have A:(cE f [46]+((γ ([46]:aC):Nat):Int)).toNat=(cE f [46]).toNat+1:=aA2;rw[aA aU,B,aS (cA _ aU aU),aS aU,u,Jf];have i:=Na (f.take (cE f [46]).toNat) aB8 w r;cases j:Fk (f.take (cE f [46]).toNat)with
   |true=>rw[i.1 j,aR,aS (cA _ aA2 aA2),aS aA2,A];obtain⟨w',f',k,z,y,x⟩:=p (f.drop ((cE f _).toNat+1)) d (w||mH (f.take (cE f [46]).toNat)) r aB6 aU aU;exact⟨w',f',k,z,y,λh=>by rw[x h,Tx,oC]⟩
   |false=>obtain⟨b,l⟩:=i.2 j;rw[l,aR];exact⟨b,_,1,rfl,rfl,λh=>by cases h⟩
def JF(s:aC):η:=decide (1<=aL s)&&decide (aL s<=255)&&(cH 46 s).all Fk&&(cH 46 s).any mH
theorem MZ(s:aC)(e:aL s<=4194304):aqr FU s=θ (JF s):=by
 unfold aqr JF;by_cases d:(aL s:Int)<1
 ·rw[aB d,show decide (1<=aL s)=ν by(rw[bM];omega)];rfl
 ·rw[aA d,show decide (1<=aL s)=μ by(rw[aW];omega),aR];by_cases c:255<(aL s:Int)
  ·rw[aD c,show decide (aL s<=255)=ν by(rw[bM];omega)];rfl
  ·rw[aE c,show decide (aL s<=255)=μ by(rw[aW];omega)];obtain⟨w',f',k,g,b,f⟩:=wg (γ s) s FU ν ν (dO _) aA4 e;unfold atq atp;rw[aR,aR];unfold adf;rw[aA aA3,aR,kA,g,aR];cases a:(cH 46 s).all Fk with
   |true=>rw[b,a,aB rfl,f a];simp
   |false=>rw[a]at b;rw[b];simp
open Go.Lib renaming cut → eF, index → cE, itoa → gM
open UInt8 renaming ofNat → qK
theorem fa(c:ζ):((axr FU c).bind λb=>(bif (!b)then((XK FU c).bind λa=>(bif (!a)then θ (!decide (c=45))else θ ν))else θ ν))=θ (!jY c):=by
 rw[Ux,zN];unfold jY;by_cases h:c=45
 ·subst h;rfl
 ·rw[show(c==45)=ν by simpa using h,aE h];cases mw c<;>cases gA c<;>rfl
theorem O5(x:aC)(hx:aL x<=4194304)(l:aC):∀p a w,x=p++l->aL l<a->
  ub FU x a w (γ p)=θ (if l.all jY=μ then .inl (w||mH l)else .inr (ν,ν)):=by
 induction l with
 |nil=>intro p a w h f;obtain⟨a,rfl⟩:=bV a;rw[gD]at h;rw[bgq,atz,aA aC6];simp[mH]
 |cons c l i=>
  intro p a w h f;obtain⟨a,rfl⟩:=bV a;have j:=bF aL h;simp at j f;have g:0<=(aL p:Int)/\(aL p:Int)<(aL x:Int):=aA0;have k:at_ x (aL p:Int)=c:=aE0;have ok:bK ((aL p:Int)+1):=cA _ aU aU;have d:=i (p++[c]) a (w|| !gA c) aA6 aU;rw[<-Xp p c]at d;rw[bgq,atz,aB g.2];simp only[aS g,k];rw[fa,aR,Jf];cases m:jY c with
  |false=>rw[vP,aM,tT,aA (show¬(ν=μ)by decide)]
  |true=>
   have e:(bif w then gd (bK ((aL p:Int)+1)) (ub FU x a μ ((aL p:Int)+1))else(XK FU c).bind λ(b:η)=>gd (bK (aL p+1)) (ub FU x a (!b) (aL p+1)))=ub FU x a (w|| !gA c) (aL p+1):=by
    cases w with
    |true=>rw[aM,aS ok,tS]
    |false=>rw[aH,zN,aR,aS ok,NL]
   rw[e,d];simp[mH,oC]
theorem O6(x:aC)(hx:aL x<=4194304):bfd FU x=θ (if Fk x=μ then(μ,mH x)else(ν,ν)):=by
 have b:=O5 x hx x [] FU ν aA3 aA4;have a:ub FU x FU ν 0=_:=b;unfold bfd;rw[RZ x hx,aR,QO];cases c:XH x with
 |true=>rw[aM];simp
 |false=>
  rw[a];cases x.all jY with
  |true=>simp
  |false=>simp
def lR(x:aC):η:=decide (1<=aL x)&&decide (aL x<=3)&& !(decide (1<aL x)&&(at_ x 0==48))&&x.all gA&&decide (mP x<=255)
theorem xw(x:aC)(hx:aL x<=15)(l:aC):∀p a,x=p++l->aL l<a->p.all gA=μ->
  ajp FU x a (mP p) (γ p)=θ (if l.all gA=μ then .inl (mP x)else .inr ν):=by
 induction l with
 |nil=>intro p a h f b;obtain⟨a,rfl⟩:=bV a;rw[gD]at h;rw[ben,aru,aA aC6,h];rfl
 |cons c l i=>
  intro p a h f b;obtain⟨a,rfl⟩:=bV a;have j:=bF aL h;simp at j f;have d:(0:Int)<=(aL p:Int)/\(aL p:Int)<(aL x:Int):=aA0;have m:at_ x (aL p:Int)=c:=aE0;have n:=uS 14 p aU b;rw[ben,aru,aB d.2,aS d,m,zN,Jf];cases g:gA c with
  |false=>rfl
  |true=>
   have k:=RN c g;rw[k.1,aS (cA _ aU aU),aS d,aS (cA _ aU aU),aS (cA _ aU aU)];have e:10*(mP p)+(c.toNat-48:Nat)=(mP (p++[c]):Int):=by rw[bcm];omega
   rw[e,Xp p c];exact i _ a aA6 aU (by rw[eA,b];simpa using g)
theorem xx(x:aC):bcx FU x=θ (lR x):=by
 unfold bcx lR;by_cases i:(aL x:Int)<1
 ·rw[aB i,show decide (1<=aL x)=ν by(rw[bM];omega)];rfl
 ·rw[aA i,show decide (1<=aL x)=μ by(rw[aW];omega)];by_cases h:3<(aL x:Int)
  ·rw[aB h,show decide (aL x<=3)=ν by(rw[bM];omega)];rfl
  ·rw[aA h,show decide (aL x<=3)=μ by(rw[aW];omega)];have f:=xw x aU x [] FU aA3 aA4 rfl;have a:ajp FU x FU 0 (0:Int)=_:=f;have b:((ajp FU x FU (0:Int) (0:Int)).bind λ(e:(Int⊕η))=>dE (λ(d:Int)=>θ (decide (d<=(255:Int)))) (λq=>θ q) e)=θ (x.all gA&&decide (mP x<=255)):=by
    rw[a,aR];cases j:x.all gA with
    |false=>rfl
    |true=>simp;omega
   by_cases g:1<(aL x:Int)
   ·rw[aB g,aS aU,show decide (1<aL x)=μ by(rw[aW];omega)];by_cases c:at_ x 0=48
    ·rw[aD c,show(at_ x 0==48)=μ by simpa using c];rfl
    ·rw[aE c,show(at_ x 0==48)=ν by simpa using c,b];rfl
   ·rw[aA g,show decide (1<aL x)=ν by(rw[bM];omega),b];rfl
def dg(n:Fin 10):ζ:=qK (48+n.val)
theorem Wy:∀c:ζ,gA c=μ->∃n:Fin 10,c=dg n:=fM _ aA5
theorem oct1:∀a:Fin 10,jU [dg a]=lR [dg a]:=aA5
theorem oct2:∀a b:Fin 10,jU [dg a,dg b]=lR [dg a,dg b]:=aA5
theorem oct3:∀a b c:Fin 10,jU [dg a,dg b,dg c]=lR [dg a,dg b,dg c]:=aA5
theorem jy:∀n:Fin 256,γ (gM n.val)<=3:=aA5
theorem uG(x:aC):jU x=lR x:=by
 cases f:x.all gA with
 |false=>rw[Vo x f,lR,f];simp
 |true=>
  have e:=aT.1 f
  match x,f,e with
  |[],_,_=>rfl
  |[a],_,e=>obtain⟨n,rfl⟩:=Wy a (e a aA3);exact oct1 n
  |[a,b],_,e=>obtain⟨n,rfl⟩:=Wy a (e a aA3);obtain⟨m,rfl⟩:=Wy b (e b aA3);exact oct2 n m
  |[a,b,c],_,e=>obtain⟨n,rfl⟩:=Wy a (e a aA3);obtain⟨m,rfl⟩:=Wy b (e b aA3);obtain⟨k,rfl⟩:=Wy c (e c aA3);exact oct3 n m k
  |a::b::c::d::l,f,_=>
   by_cases g:mP (a::b::c::d::l)<=255
   ·refine nB _ (.inr λh=> ?_);have:=jy ⟨mP (a::b::c::d::l),aA0⟩;rw[<-h]at this;simp only[cN]at this;omega
   ·exact nB _ (.inl (.inr aU))
theorem kr(X:δ aC)(o:aL X<=4194305)(hx:∀x∈X,aL x<=4194304)(q:δ aC):∀p c (b word),X=p++q->aL q<c->
  asn FU X c b word (γ p)=θ (if q.all Fk=μ then .inl (b&&q.all lR,word||q.any mH)else .inr ([],ν)):=by
 induction q with
 |nil=>intro p c b word h i;obtain⟨c,rfl⟩:=bV c;rw[gD]at h;rw[bie,awg,aA aC6];simp
 |cons a q j=>
  intro p c b word h i;obtain⟨c,rfl⟩:=bV c;have k:=bF aL h;simp at k i;have g:0<=(aL p:Int)/\(aL p:Int)<(aL X:Int):=aA0;have l:el X (aL p:Int)=a:=aA9;have m:aL a<=4194304:=hx a aA6;have ok:bK ((aL p:Int)+1):=cA _ aU aU;have d:=λf w=>j (p++[a]) c f w aA6 aU;rw[show(γ (p++[a]):Int)=(aL p:Int)+1 by simp]at d;rw[bie,awg,aB g.2,aS g,aS g,l,O6 a m,aR,Jf];cases n:Fk a with
  |false=>rw[aA (show¬(ν=μ)by decide)];simp
  |true=>
   rw[aB rfl];have e:(bif word then θ μ else θ (mH a))=θ (word||mH a):=by cases word<;>rfl
   rw[e,aR];cases b with
   |true=>rw[aS g,aS g,xx,aR,aS ok,d];simp[oC]
   |false=>rw[aS ok,d];simp[oC]
def vF(s:aC):η:=decide (2<=aL s)&&(at_ s 0==91)&&(at_ s (aL s-1)==93)
def eO(s:aC):aC×η:=
 if vF s=μ then(if(dT (sub s 1 (aL s-1))).2=μ then([91]++(dT (sub s 1 (aL s-1))).1++[93],μ)else([],ν))
 else if Ke s=μ then(s,μ)else if JF s=μ then(cK s,μ)else([],ν)
theorem X8(s:aC)(c:aL s<=4194304):(if 2<=(aL s:Int)then(gd (0<=(0:Int)/\0<(aL s:Int))<|(if(at_ s 0)=91 then(gd (bK (aL s-1))<|(gd (0<=(aL s-(1:Int))/\(aL s-1)<(aL s:Int))<|some (decide ((at_ s (aL s-1))=93))))else θ ν))else θ ν)=θ (vF s):=by
 unfold vF;by_cases b:2<=(aL s:Int)
 ·rw[aB b,show decide (2<=aL s)=μ by(rw[aW];omega),aS aU];by_cases a:at_ s 0=91
  ·rw[aB a,show(at_ s 0==91)=μ by simpa using a,aS (cA _ aU aU),aS aU];rfl
  ·rw[aA a,show(at_ s 0==91)=ν by simpa using a];rfl
 ·rw[aA b,show decide (2<=aL s)=ν by(rw[bM];omega)];rfl
variable {s:aC}
theorem RV(h:vF s=μ):2<=aL s:=by unfold vF at h;simp at h;exact h.1.1
theorem Ey(s:aC):γ (dT s).1<=60000000:=by
 unfold dT;by_cases a:39<aL s
 ·rw[aB a];simp
 ·rw[aA a];have f:=BH s [58,58];have e:=Ep (eF s [58,58]).1 aU;have d:=Ep (eF s [58,58]).2.1 aU;split
  ·have c:=bjs s;have b:=Z0 [58] 4 (yV s).1 c.2;simp at b⊢;omega
  ·split
   ·simp
   ·simp;omega
theorem bjy(s:aC)(a:aL s<=4194304):bm FU s=θ (eO s):=by
 unfold bm eO;rw[X8 s a,aR];cases b:vF s with
 |true=>
  have g:=RV b;have e:=Ey (sub s 1 ((aL s:Int)-1));rw[aM,aS (cA _ aU aU),aS aU,IL,aR,aB rfl];cases f:(dT (sub s 1 ((aL s:Int)-1))).2 with
  |false=>rfl
  |true=>rw[gL,aH,aS aA2,aS aA2,aB rfl]
 |false=>
  rw[CA];cases c:Ke s with
  |true=>rfl
  |false=>
   rw[MZ s a];cases d:JF s with
   |true=>rw[bc s a];rfl
   |false=>rfl
theorem C5(l:δ aC)(m:Nat)(h:∀x∈l,aL x<=m):(l.map aL).sum<=m*aL l:=by
 induction l with
 |nil=>simp
 |cons a l b=>have d:=h a gK;have c:=b λx hx=>h x (eU _ hx);rw[uX,yX,cN,Nat.mul_succ];omega
theorem WH(g:aC)(h:qT g=μ):aL g<=4:=by unfold qT at h;simp at h;exact h.1.2
theorem Bi(x:aC)(h:(yV x).2=μ):aL x+1<=5*γ (yV x).1:=by
 cases a:(cH 58 x).all qT with
 |false=>rw[xS x a]at h;cases h
 |true=>rw[sT x a,Gf];have d:=C5 _ 4 λy b=>WH y (aT.1 a y b);have c:=Lj 58 x;omega
theorem Ph(x:aC)(h:(iG x).2=μ):aL x<=5*γ (iG x).1:=by
 by_cases hx:x=[]
 ·subst hx;simp
 ·rw[bjt x hx]at h⊢;have:=Bi x h;omega
theorem Wn:∀s:aC,cE s [58,58]≠-1->cE s [58,58]+2<=aL s
 |[],h=>absurd rfl h
 |b::l,h=>by
  rw[bck]at h⊢;by_cases a:[58,58].isPrefixOf (b::l)=μ
  ·rw[aB a];cases l with
   |nil=>simp at a
   |cons c l=>simp;omega
  ·rw[aA a]at h⊢;by_cases d:cE l [58,58]= -1
   ·rw[aB d]at h;exact absurd rfl h
   ·have:=Wn l d;rw[cN];omega
theorem D7(s:aC):(D8 s).2=(dT s).2/\((dT s).2=μ->(D8 s).1=(dT s).1):=by
 unfold D8 dT;by_cases b:39<aL s
 ·rw[aB b];refine⟨?_,λh=>by cases h⟩;have c:s≠[]:=by intro e;subst e;simp at b
  split
  ·rw[bjt s c];cases k:(yV s).2 with
   |false=>rfl
   |true=>have:=Bi s k;rw[Rw,bM];omega
  ·rename_i a;unfold TS;have f:cE s [58,58]≠-1:=by intro e;rw[Fh,aB e]at a;exact a rfl
   have g:=Wn s f;have n:γ (eF s [58,58]).1+2+γ (eF s [58,58]).2.1=aL s:=by rw[Fh,aA f];simp;omega
   cases j:(iG (eF s _).1).2 with
   |false=>rfl
   |true=>
    cases i:(iG (eF s _).2.1).2 with
    |false=>rfl
    |true=>have m:=Ph _ j;have l:=Ph _ i;rw[aD aU];rfl
 ·rw[aA b];split
  ·by_cases d:s=[]
   ·subst d;exact⟨rfl,λh=>by cases h⟩
   ·rw[bjt s d];exact⟨rfl,λ_=>rfl⟩
  ·unfold TS;split<;>exact⟨rfl,λ_=>rfl⟩
theorem mx(c:ζ)(p:ζ->η):∀s:aC,(∀x∈cH c s,x.all p=μ)->∀b∈s,p b=μ\/b=c
 |[],_,b,e=>by simp at e
 |d::l,h,b,e=>by
  by_cases g:d=c
  ·subst g;rw[aym]at h;rcases aQ.1 e with rfl|e
   ·exact .inr rfl
   ·exact mx d p l (λx hx=>h x (eU _ hx)) b e
  ·rw[tl c d l g]at h;cases hx:cH c l with
   |nil=>exact absurd hx (De c l)
   |cons y r=>
    rw[hx]at h;have f:=h _ gK;rw[eA,lA]at f;rcases aQ.1 e with rfl|e
    ·left;simpa using f.1
    ·refine mx c p l (λx a=> ?_) b e;rw[hx]at a;rcases aQ.1 a with rfl|a
     ·exact f.2
     ·exact h x (eU _ a)
theorem lr:∀c:ζ,gA c=μ->eQ c=c:=fM _ aA5
theorem BF:∀c:ζ,gA c=μ->jY c=μ/\c≠45:=fM _ aA5
theorem bji(x:aC)(h:lR x=μ):1<=aL x/\γ x<=3/\x.all gA=μ:=by unfold lR at h;simp only[lA,aW]at h;exact⟨h.1.1.1.1,h.1.1.1.2,h.1.2⟩
theorem at_mem(x:aC)(k:Nat)(h:k<aL x):at_ x k∈x:=by simp[at_,h]
theorem ib(x:aC)(h:lR x=μ):Fk x=μ:=by obtain⟨f,j,e⟩:=bji x h;have a:=aT.1 e;have i:=(BF _ (a _ (at_mem x 0 aU))).2;have b:=(BF _ (a _ (at_mem x (aL x-1) aU))).2;have g:(((aL x-1:Nat)):Int)=(aL x:Int)-1:=aA0;rw[g]at b;unfold Fk;rw[aD f,aD aU,show(at_ x 0==45)=ν by simpa using i,show(at_ x ((aL x:Int)-1)==45)=ν by simpa using b,aT.2 λc d=>(BF c (a c d)).1];rfl
theorem Dy(s:aC)(h:∀b∈s,eQ b=b):cK s=s:=by
 conv=>rhs;rw[<-List.map_id s]
 exact bz λb a=>h b a
theorem bfs(s:aC)(m:aL s<=4194304):oe FU s=θ (eO s):=by
 unfold oe eO;rw[X8 s m,aR];cases w:vF s with
 |true=>
  have r:=RV w;have u:=Ey (sub s 1 ((aL s:Int)-1));have l:γ (sub s 1 ((aL s:Int)-1))<=4194304:=aC4;obtain⟨A,z⟩:=D7 (sub s 1 ((aL s:Int)-1));rw[aM,aS (cA _ aU aU),aS aU,vx _ l,aR,aB rfl,A];cases v:(dT (sub s 1 ((aL s:Int)-1))).2 with
  |false=>rfl
  |true=>rw[gL,aH,z v,aS aA2,aS aA2,aB rfl]
 |false=>
  have g:=my 46 s;have n:=kr (cH 46 s) aU (λx hx=>oF (g.2 x hx) m) (cH 46 s) [] FU (decide ((γ (cH 46 s):Int)=4)) ν aA3 aA4;have j:asn FU (cH 46 s) FU (decide ((γ (cH 46 s):Int)=4)) ν (0:Int)=_:=n;rw[pieces_eq s 46 m,aR,j,aR,XI s aU];have o:=Lj 46 s;cases a:(cH 46 s).all Fk with
  |false=>
   have d:Ke s=ν:=by
    cases d:Ke s with
    |false=>rfl
    |true=>exfalso;unfold Ke at d;simp only[lA]at d;have:(cH 46 s).all Fk=μ:=aT.2 λx hx=>ib x (by rw[<-uG];exact aT.1 d.1.2 x hx);rw[a]at this;cases this
   have t:JF s=ν:=by unfold JF;rw[a];simp
   rw[d,t];rfl
  |true=>
   rw[aB rfl,kA];simp only;cases d:Ke s with
   |true=>
    have e:=d;unfold Ke at e;simp only[lA,aW]at e;have c:(cH 46 s).all lR=μ:=aT.2 λx hx=>by rw[<-uG];exact aT.1 e.1.2 x hx
    have k:cK s=s:=Dy s λb q=>by
     rcases mx 46 gA s (λx hx=>(bji x (aT.1 c x hx)).2.2) b q with h|h
     ·exact lr b h
     ·subst h;rfl
    rw[c,aD aU,aA aU,k];cases(cH 46 s).any mH<;>rfl
   |false=>
    have f:(decide ((γ (cH 46 s):Int)=4)&&(cH 46 s).all lR)=ν:=by
     cases p:(decide ((γ (cH 46 s):Int)=4)&&(cH 46 s).all lR)with
     |false=>rfl
     |true=>
      exfalso;simp only[lA,aW]at p;have u:=C5 (cH 46 s) 3 λx hx=>(bji x (aT.1 p.2 x hx)).2.1;have i:(cH 46 s).all jU=μ:=aT.2 λx hx=>by rw[uG];exact aT.1 p.2 x hx
      have:Ke s=μ:=by unfold Ke;rw[i,aD (show γ s<=15 by omega),aD (show(cH 46 s).length=4 by omega)];rfl
      rw[d]at this;cases this
    have y:1<=aL s:=by
     cases s with
     |nil=>simp[cH,Fk]at a
     |cons _ _=>simp
    rw[f];unfold JF;rw[a,aD y];by_cases r:255<(aL s:Int)
    ·rw[aB r,aE (show¬γ s<=255 by omega)];rfl
    ·rw[aA r,aD (show γ s<=255 by omega)];cases(cH 46 s).any mH<;>rfl
theorem Ev(s:aC):γ (eO s).1<=60000002+aL s:=by
 have:=Ey (sub s 1 (aL s-1));unfold eO;split
 ·split
  ·simp;omega
  ·simp
 ·split
  ·show γ s<=_;omega
  ·split
   ·simp[cK]
   ·simp
open Go.Lib renaming indexAny → Cr
theorem step_eq(s:aC)(f:γ s<=4194304)(k:Nat):big FU s k=θ (if γ s<=k then(0,(γ s:Int),6)else if eJ (at_ s k)=μ then(0,k,5)else if at_ s k=92 then(if γ s<=k+1 then(0,γ s,6)else if Y9 (at_ s ((k+1:Nat)))=μ then(2,0,0)else(0,k,5))else(1,0,0)):=by
 unfold big;by_cases h:γ s<=k
 ·rw[aB aU,aB h]
 ·rw[aA aU,aA h,dS,bcc,aR];cases g:eJ _ with
  |true=>rw[aM,aB rfl]
  |false=>
   rw[aH,aA (show¬(ν=μ)by decide),dS];by_cases c:at_ s (k:Int)=92
   ·rw[aB c,aB c,dS];by_cases e:γ s<=k+1
    ·rw[aB aU,aB e]
    ·rw[aA aU,aA e,dS,aS aU,lZ];have d:Y9 (at_ s _)=(decide (32<=at_ s (k+1:Nat))&&decide (at_ s (k+1:Nat)<=126)):=rfl;by_cases b:at_ s (k+1:Nat)<32
     ·rw[aB b,d,aE (UInt8.not_le.2 b)];rfl
     ·rw[aA b,dS,aS aU,d,aD (UInt8.not_lt.1 b)];by_cases a:126<at_ s (k+1:Nat)
      ·rw[aD a,aE (UInt8.not_le.2 a)];rfl
      ·rw[aE a,aD (UInt8.not_lt.1 a)];rfl
   ·rw[aA c,aA c]
theorem ctl34:eJ 34=ν:=aA1
theorem ctl92:eJ 92=ν:=aA1
theorem G3(s:aC)(m:γ s<=4194304)(n:Nat):∀k b (a:aC),γ s-k<=n->n<b->k<=γ s->γ a<=k->
  arz FU s b a k=θ (fV (s.drop k) k a):=by
 have f6:¬((6:ζ)=0):=aA1;have f5:¬((5:ζ)=0):=aA1;have c:¬(ν=μ):=aA1;induction n with
 |zero=>intro k b a o r q t;obtain⟨b,rfl⟩:=bV b;obtain rfl:k=γ s:=aA0;have st:=step_eq s m (γ s);rw[aB (dO _)]at st;rw[uf,bs,st,aR];simp only;rw[aA f6,XT];rfl
 |succ n l=>
  intro k b a o r q t;obtain⟨b,rfl⟩:=bV b;have st:=step_eq s m k;by_cases p:k<γ s
  ·rw[aA (show¬γ s<=k by omega)]at st;rw[Iq s k p,mT];by_cases f:at_ s (k:Int)=34
   ·rw[f,ctl34,aA c,aA (show¬((34:ζ)=92)by decide)]at st;rw[uf,bs,st,aR];simp only;rw[aB trivial,aB trivial,aS aU,aR,aD f,aM,dS,aB f];rfl
   ·rw[aA f];by_cases i:at_ s (k:Int)=92
    ·rw[i,ctl92,aA c,aB rfl]at st;rw[aB i];by_cases g:γ s<=k+1
     ·have e:s.drop (k+1)=[]:=(bhs s (k+1)).2 g;have v:γ s=k+1:=by omega
      rw[aB g]at st;rw[uf,bs,st,aR];simp only;rw[aA f6,aB e,v]
     ·rw[aA g]at st;rw[aA (λh=>g ((bhs s (k+1)).1 h)),IG];cases d:Y9 (at_ s ((k+1:Nat):Int))with
      |false=>rw[d,aA c]at st;rw[uf,bs,st,aR];simp only;rw[aA f5,aA c]
      |true=>have j:(k:Int)+2-1=((k+1:Nat):Int):=aA0;have u:(k:Int)+2=((k+2:Nat):Int):=aA0;rw[d,aB rfl]at st;rw[uf,bs,st,aR];simp only;rw[aB trivial,aA (show¬((2:Int)=1)by decide),aR,aH,dS,dS,j,aS aU,dS,dS,u,l (k+2) b _ aU aU aU aA2,Rx,aB trivial]
    ·rw[aA i];cases d:eJ (at_ s (k:Int))with
     |true=>rw[d,aB rfl]at st;rw[uf,bs,st,aR];simp only;rw[aA f5,aB trivial]
     |false=>have j:(k:Int)+1-1=(k:Int):=aA0;rw[d,aA c,aA i]at st;rw[uf,bs,st,aR];simp only;rw[aB trivial,aB trivial,aS aU,aR,aE f,aH,aA c,dS,dS,j,aS aU,dS,dS,lZ,l (k+1) b _ aU aU aU aA2]
  ·obtain rfl:k=γ s:=by omega
   rw[aB (dO _)]at st;rw[uf,bs,st,aR];simp only;rw[XT];rfl
theorem oY(s:aC)(e:γ s<=4194304)(i:Int):aqh FU s i=θ (tK s i):=by
 unfold aqh blg tK;by_cases d:i<0
 ·rw[aB d,aB (show i<0\/γ s<i from .inl d)];rfl
 ·rw[aA d];by_cases c:γ s<i
  ·rw[aD c,aB (show i<0\/γ s<i from .inr c)];rfl
  ·rw[aE c,aA (show¬(i<0\/γ s<i)by omega)];by_cases b:i=(γ s:Int)
   ·rw[aB b,aB (show i=(γ s:Int)\/at_ s i≠34 from .inl b)];rfl
   ·rw[aA b,dS];by_cases a:at_ s i=34
    ·rw[aD a,aA (by simp[b,a]),dS];obtain⟨k,rfl⟩:∃k:Nat,i=k:=⟨i.toNat,aA0⟩;exact G3 s e (γ s) (k+1) FU [] aU aA4 aU aA3
    ·rw[aE a,aB (.inr a)];rfl
theorem zF(n:Nat):∀l k a,γ l<=n->γ (fV l k a).1<=γ a+γ l/\((fV l k a).2.2=0->k+1<=(fV l k a).2.1/\(fV l k a).2.1<=((k+γ l:Nat))):=by
 induction n with
 |zero=>intro l k a f;obtain rfl:l=[]:=Je aU;exact⟨by simp[fV],λh=>absurd h (show¬(6=0)by decide)⟩
 |succ n d=>
  intro l k a f;cases l with
  |nil=>exact⟨by simp[fV],λh=>absurd h (show¬(6=0)by decide)⟩
  |cons c l=>
   simp at f;rw[mT];by_cases i:c=34
   ·rw[aB i];exact⟨aA3,λ_=>⟨aA3,by simp;omega⟩⟩
   ·rw[aA i];by_cases g:c=92
    ·rw[aB g];by_cases b:l=[]
     ·rw[aB b];exact⟨aA3,λh=>absurd h (show¬(6=0)by decide)⟩
     ·rw[aA b];have e:=bL.2 b;cases j:Y9 _ with
      |true=>rw[aB rfl];have:=d (l.drop 1) (k+2) (a++[at_ l 0]) aB6;rw[cG,eI,fB]at this;exact⟨by simp only[cN];omega,λh=>⟨by have:=(this.2 h).1;omega,by have:=(this.2 h).2;simp only[cN];omega⟩⟩
      |false=>rw[aA aA1];exact⟨aA3,λh=>absurd h (show¬(5=0)by decide)⟩
    ·rw[aA g];cases j:eJ c with
     |true=>rw[aB rfl];exact⟨aA3,λh=>absurd h (show¬(5=0)by decide)⟩
     |false=>rw[aA aA1];have:=d l (k+1) (a++[c]) aU;rw[cG,eI]at this;exact⟨by simp;omega,λh=>⟨by have:=(this.2 h).1;omega,by have:=(this.2 h).2;simp;omega⟩⟩
theorem zE(s:aC)(k:Nat)(a:at_ s k=34)(b:k<γ s):γ (tK s k).1<=γ s/\((tK s k).2.2=0->k+2<=(tK s k).2.1/\(tK s k).2.1<=γ s):=by unfold tK;rw[aA aU,aA (by rintro(h|h);omega;exact h a)];have e:((k:Int).toNat+1)=k+1:=aA0;rw[e];have:=zF _ (s.drop (k+1)) (k+1) [] (dO _);rw[fB,iP]at this;exact⟨aA0,λh=>⟨by have:=(this.2 h).1;omega,by have:=(this.2 h).2;omega⟩⟩
theorem ti(s:aC)(a:γ s<=4194304)(i:Int):bu FU (s,i)=θ (s,((bT bX s i):Int)):=by unfold bu;rw[uV s a];rfl
theorem nT(s:aC)(i:Int):ug FU (s,i)=θ (decide (γ s<=i)):=rfl
def cR(s:aC)(k:Nat)(b:ζ):η:=decide (k<γ s)&&(at_ s k==b)
theorem JH(s:aC)(k:Nat)(b:ζ):Is FU (s,k) b=θ (cR s k b):=by
 unfold Is cR;rw[nT];by_cases h:k<γ s
 ·rw[aE (show¬(γ s:Int)<=k by omega),aS (by simp only;omega),aD h];rfl
 ·rw[aD (show(γ s:Int)<=k by omega),aE h];rfl
theorem oR(s:aC)(a:γ s<=4194304)(i:Int):ou FU s i=θ ((bT cJ s i):Int):=by unfold ou;rw[Lo s aU];rfl
theorem Ca(p:ζ->η)(s:aC)(k:Nat)(h:k<=γ s):k<=bT p s k:=by unfold bT;rw[tt k _ h];omega
theorem tX(s:aC)(a:γ s<=4194304)(k:Nat)(b:k<=γ s):afr FU (s,k)=θ (sub s k ((bT cJ s (k:Int))),(s,((bT cJ s (k:Int):Nat):Int))):=by have d:=Ca cJ s k b;have c:=jL cJ s k;unfold afr;simp only;rw[oR s a,aR,aS aU]
theorem bbz(s:aC)(a b:Nat)(h:b<=γ s)(d:a<=b):sub s a b=[]↔b=a:=by
 have:=Hr s a b;constructor
 ·intro c;rw[c]at this;simp at this;omega
 ·intro c;apply Je;rw[this];omega
theorem Yq(c:ζ)(l:aC):(if 0<=dN (·==c) l then dN (·==c) l else γ l)=(cI (λb=> !(b==c)) l):=by
 rcases nk (·==c) l with⟨d,a⟩|⟨d,a,e⟩
 ·rw[aA aU,a]
 ·rw[aB d,e]
theorem XB(c:ζ):(λb=>[c].contains b)=(·==c):=by simp;rfl
theorem TF(s:aC)(i:γ s<=4194304)(k:Nat)(j:k<=γ s)(c:ζ)(g:c.toNat<128):CD FU s k [c]=θ ((k+cI (λb=> !(b==c)) (s.drop k):Nat):Int):=by
 have e:((k:Nat):Int).toNat=k:=aA0;have l:γ (s.drop k)=γ s-k:=fB;have a:=Yq c (s.drop k);have f:Cr (s.drop k) [c]=dN (·==c) (s.drop k):=by rw[azk,XB]
 have d:=nk (·==c) (s.drop k);unfold CD;rw[aS aU,e,aS ⟨aA0,aA3,aE1⟩,f];by_cases h:(0:Int)<=dN (·==c) (s.drop k)
 ·rw[aB h]at a⊢;rw[aS (cA _ aU aU),a];rfl
 ·rw[aA h]at a⊢;congr 1;omega
def kC(s:aC)(k:Nat):aC×Int×ζ:=
 if cR s k 34=μ then tK s k
 else if cR s k 91=μ then
  (if(eO (sub s k (min ((k+cI (λb=> !(b==93)) (s.drop k):Nat)+1) (γ s)))).2=μ then
   ((eO (sub s k (min ((k+cI (λb=> !(b==93)) (s.drop k):Nat)+1) (γ s)))).1,((k+cI (λb=> !(b==93)) (s.drop k):Nat))+1,0)else([],k,5))
 else if bT cJ s k=k then([],k,5)else(sub s k ((bT cJ s (k:Int))),((bT cJ s (k:Int))),0)
theorem wM{b:ζ}(h:cR s k b=μ):k<γ s/\at_ s k=b:=by unfold cR at h;simp at h;exact h
theorem OF(s:aC)(e:γ s<=4194304)(k:Nat)(c:k<=γ s):γ (kC s k).1<=90000000/\((kC s k).2.2=0->k+1<=(kC s k).2.1/\(kC s k).2.1<=γ s+1):=by
 unfold kC;have g:=Ca cJ s k c;have f:=jL cJ s k;have a:=Tp (λb=> !(b==93)) (s.drop k);rw[fB]at a;split
 ·rename_i h;have:=zE s k (wM h).2 (wM h).1;exact⟨aA0,λh=>⟨by have:=(this.2 h).1;omega,by have:=(this.2 h).2;omega⟩⟩
 ·split
  ·split
   ·have d:=Ev (sub s k (min ((k+cI (λb=> !(b==93)) (s.drop k):Nat)+1:Int) (γ s)));rw[Hr]at d;exact⟨by simp only;omega,λ_=>⟨by simp only;omega,by simp only;omega⟩⟩
   ·exact⟨aA3,λh=>absurd h (show¬(5=0)by decide)⟩
  ·split
   ·exact⟨aA3,λh=>absurd h (show¬(5=0)by decide)⟩
   ·rename_i h;exact⟨by simp only[Hr];omega,λ_=>⟨by simp only;omega,by simp only;omega⟩⟩
theorem Lw(s:aC)(k:Nat)(b:ζ):(if k<(γ s:Int)then(gd (0<=(k:Int)/\k<(γ s:Int))<|some (decide ((at_ s k)=b)))else θ ν)=θ (cR s k b):=by
 unfold cR;by_cases h:k<γ s
 ·rw[aB aU,aS aU,aD h];rfl
 ·rw[aA aU,aE h];rfl
theorem A6(s:aC)(e:γ s<=4194304)(k:Nat)(c:k<=γ s):avx FU s FU k=θ ((k+cI (λb=> !(b==93)) (s.drop k):Nat):Int):=by
 refine mZ _ s _ ?_ ?_ ?_ (γ s-k) k FU aU aA4
 ·intro d;rw[ayw,ane,aA aU];rfl
 ·intro d k c h;have a:at_ s k=93:=by simpa using h
  rw[ayw,ane,aB aU,aS aU,aR,aD a,gL,aH]
 ·intro d k c h;have a:¬at_ s k=93:=by simpa using h
  rw[ayw,ane,aB aU,aS aU,aR,aE a,vP,aM,dS]
theorem A7(s:aC)(d:γ s<=4194304)(k:Nat)(e:k<=γ s):bfc FU s k=θ (kC s k):=by
 have j:=Ca cJ s k e;have i:=jL cJ s (k:Int);have a:=Tp (λb=> !(b==93)) (s.drop k);rw[fB]at a;unfold bfc kC;rw[Lw,aR,Lw];cases g:cR s k 34 with
 |true=>rw[oY s d];rfl
 |false=>
  rw[aH,aR,aA (show¬(ν=μ)by decide)];cases f:cR s k 91 with
  |true=>
   rw[aM,A6 s d k e,aR,dS,aS aU,bfs _ aC4,aR,aB rfl];cases h:(eO _).2 with
   |false=>rfl
   |true=>rw[gL,aH,dS,aR,Rt,aB rfl]
  |false=>
   rw[aH,aR,kA,auy s aU,aR,aA (show¬(ν=μ)by decide)];by_cases c:bT cJ s (k:Int)=k
   ·rw[aB aU,aB c]
   ·rw[aA aU,aA c,aS aU]
theorem Dx(l:aC):cK l=[]↔l=[]:=by unfold cK;simp
theorem bje(p:ζ->η)(s:aC)(y:Nat):bT p s (y+1)=bT p s ((y+1:Nat)):=rfl
def zPrm:aC×aC×η:=([],[],ν)
def yU(s:aC)(b:Nat):PQ×Int×ζ×(aC×Int):=
 if bT cJ s b=b then(zPrm,b,5,(s,b))
 else if cR s (bT bX s ((bT cJ s (b:Int)))) 61=ν then((cK (sub s b ((bT cJ s (b:Int)))),[],ν),0,0,(s,((bT bX s ((bT cJ s (b:Int):Nat):Int)))))
 else if(kC s (bT bX s ((bT bX s ((bT cJ s (b:Int):Nat):Int)+1:Nat)))).2.2=0 then((cK (sub s b ((bT cJ s (b:Int)))),(kC s (bT bX s ((bT bX s ((bT cJ s (b:Int):Nat):Int)+1:Nat)))).1,μ),0,0,(s,(kC s (bT bX s ((bT bX s ((bT cJ s (b:Int):Nat):Int)+1:Nat)))).2.1))
 else(zPrm,(kC s (bT bX s ((bT bX s ((bT cJ s (b:Int):Nat):Int)+1:Nat)))).2.1,(kC s (bT bX s ((bT bX s ((bT cJ s (b:Int):Nat):Int)+1:Nat)))).2.2,(s,((bT bX s ((bT bX s ((bT cJ s (b:Int):Nat):Int)+1:Nat):Int)))))
theorem VO(s:aC)(e:γ s<=4194304)(b:Nat)(o:b<=γ s):akq FU (s,b)=θ (yU s b):=by
 unfold akq yU;have d:=Ca cJ s b o;have c:=jL cJ s (b:Int);rw[tX s e b o,aR];simp only;generalize w:bT cJ s (b:Int)=t at d c⊢;have l:=jL bX s (t:Int);have m:=Ca bX s t c;rw[bc _ aC4,aR];by_cases j:t=b
 ·have:cK (sub s (b:Int) (t:Int))=[]:=(Dx _).2 ((bbz s b t c d).2 j);rw[aB this,aB j,j];rfl
 ·have:¬cK (sub s (b:Int) (t:Int))=[]:=λh=>j ((bbz s b t c d).1 ((Dx _).1 h));rw[aA this,aA j,ti s e,aR];generalize v:bT bX s (t:Int)=y at m l⊢;rw[JH,aR];cases q:cR s y 61 with
  |false=>rw[vP,aM,aB rfl]
  |true=>
   rw[gL,aH,aA (show¬(μ=ν)by decide),dS,ti s e,aR,bje];have a:=jL bX s (y+1:Nat);generalize u:bT bX s (y+1:Nat)=z at a⊢;have g:=Ca cJ s z a;have f:=jL cJ s z;have n:=Tp (λb=> !(b==93)) (s.drop z);rw[fB]at n;rw[JH,aR];unfold kC;cases r:cR s z 34 with
   |true=>
    rw[aM,aB rfl,wU s e,aR];by_cases k:(tK s z).2.2=0
    ·rw[aB k,aB k]
    ·rw[aA k,aA k];rfl
   |false=>
    rw[aH,aA (show¬(ν=μ)by decide),JH,aR];cases p:cR s z 91 with
    |true=>
     rw[aM,aB rfl,TF s e z a 93 aA1,aR];simp only;rw[dS,aS aU,bjy _ aC4,aR];cases x:(eO (sub s (z:Int) (min ((z+cI (λb=> !(b==93)) (s.drop z):Nat)+1:Int) (γ s:Int)))).2 with
     |false=>rw[vP];rfl
     |true=>rw[gL,aH,dS,aB rfl,aB rfl]
    |false=>
     rw[aH,aA (show¬(ν=μ)by decide),tX s e z a,aR];simp only;by_cases i:bT cJ s (z:Int)=z
     ·rw[aB ((bbz s z _ f g).2 i),aB i,i];rfl
     ·rw[aA (λh=>i ((bbz s z _ f g).1 h)),aA i,aB rfl]
open List renaming drop → cC, take → eZ
abbrev PP:=aC×aC×η
theorem U5{c:Type}[Inhabited c](p:c->η)(l:δ c)(F:Nat->Int->ε (Unit⊕Int))
  (o:∀a,F (a+1) (γ l)=θ (.inl ()))
  (m:∀a k,k<γ l->p (el l k)=μ->F (a+1) k=θ (.inr k))
  (i:∀a k,k<γ l->p (el l k)=ν->F (a+1) k=F a (k+1)) (n:Nat):
  ∀k a,k+n=γ l->n<a->F a k=θ (match(l.drop k).findIdx? p with|none=>.inl ()|some j=>.inr ((k+j:Nat))):=by
 induction n with
 |zero=>intro k a e f;obtain⟨a,rfl⟩:=bV a;obtain rfl:k=γ l:=aA0;rw[o,XT];rfl
 |succ n d=>
  intro k a e f;obtain⟨a,rfl⟩:=bV a;have b:k<γ l:=aA0;have g:l.drop k=el l k::l.drop (k+1):=by rw[Pr _ _ b,zbD b]
  rw[g,List.findIdx?_cons];cases h:p _ with
  |true=>rw[m a k b h];rfl
  |false=>
   rw[i a k b h,lZ,d _ a aU aU];cases(l.drop _).findIdx? p with
   |none=>rfl
   |some j=>show θ (Sum.inr _)=θ (Sum.inr _);congr 2;show((k+1+j:Nat):Int)=((k+(j+1):Nat):Int);omega
theorem Ww{c:Type}[Inhabited c](p:c->η)(l:δ c)(g:γ l<=4194304)(F:Nat->Int->ε (Unit⊕Int))
  (f:∀b,F (b+1) (γ l)=θ (.inl ()))
  (e:∀b k,k<γ l->p (el l k)=μ->F (b+1) k=θ (.inr k))
  (d:∀b k,k<γ l->p (el l k)=ν->F (b+1) k=F b (k+1)):F FU 0=θ (match l.findIdx? p with|none=>.inl ()|some j=>.inr (j)):=by
 have:=U5 p l F f e d (γ l) 0 FU aU aA4;rw[YN]at this;have a:F FU 0=_:=this;rw[a];cases l.findIdx? p with
 |none=>rfl
 |some j=>show θ (Sum.inr _)=θ (Sum.inr _);congr 2;omega
def ll(o:ε Nat):Int:=match o with|none=> -1|some j=>j
theorem HG(p:a->η)(l:δ a):decide (0<=ll (l.findIdx? p))=l.any p:=by
 rw[<-List.findIdx?_isSome];cases l.findIdx? p with
 |none=>rfl
 |some j=>show decide (0<=j)=μ;rw[aW];omega
theorem Pd(l:δ PP)(d:γ l<=4194304)(name:aC):aqt FU l name=θ (l.any λp=>p.1==name):=by
 have h:=Ww (λp:PP=>p.1==name) l d (ach FU l name)
  (λb=>by rw[adk,abn,aA aU])
  (λb k f h=>by have a:(el l (k:Int)).1=name:=aA8;rw[adk,abn,aB aU,aS aU,aS aU];unfold awp;rw[aR,aD a,aM])
  (λb k f h=>by have a:¬(el l k).1=name:=aA8;rw[adk,abn,aB aU,aS aU,aS aU];unfold awp;rw[aR,aE a,aH,dS])
 unfold aqt aed aes;rw[h,aR];have e:dE (λc=>θ (-1)) (λq=>θ q) (match l.findIdx? (λp:PP=>p.1==name)with|none=>(Sum.inl ())|some j=>Sum.inr (j:Int))=θ (ll (l.findIdx? (λp:PP=>p.1==name))):=by cases l.findIdx? _<;>rfl
 rw[e,aR,HG];rfl
def yA(l:δ PP)(name:aC):ζ:=if(l.any λp=>p.1==name)=μ then 7 else if 16<=γ l then 4 else 0
theorem OU(l:δ PP)(a:γ l<=4194304)(name:aC):asz FU l name=θ (yA l name):=by
 unfold asz yA;rw[Pd l a,aR];cases l.any λp=>p.1==name with
 |true=>rfl
 |false=>
  rw[aH,aA (show¬(ν=μ)by decide)];by_cases h:16<=γ l
  ·rw[aB aU,aB h]
  ·rw[aA aU,aA h]
theorem BC(l:δ PP)(k:Nat)(h:k<γ l):el l k∈l:=BD l k h
theorem Vd(l:δ PP)(e:γ l<=4194304)(c:∀p∈l,γ p.1<=4194304)(name:aC)(f:γ name<=4194304):bdl FU l name=θ (ll (l.findIdx? λp=>cK p.1==cK name)):=by
 have h:=Ww (λp:PP=>cK p.1==cK name) l e (ayb FU l name)
  (λd=>by rw[bbb,aqf,aA aU])
  (λd k a h=>by have b:cK (el l (k:Int)).1=cK name:=aA8;have:=c _ (BC l k a);rw[bbb,aqf,aB aU,aS aU,aS aU,XI _ aU,aR,XI _ aU,aR,aB b])
  (λd k a h=>by have b:¬cK (el l k).1=cK name:=aA8;have:=c _ (BC l k a);rw[bbb,aqf,aB aU,aS aU,aS aU,XI _ aU,aR,XI _ aU,aR,aA b,dS])
 unfold bdl;rw[h];cases l.findIdx? _<;>rfl
theorem uC(l:δ PP)(j:γ l<=4194304)(g:∀p∈l,γ p.1<=4194304)(name:aC)(i:γ name<=4194304)(f:∀p∈l,cK p.1=p.1)(d:cK name=name):IJ FU l name=θ (yA l name):=by
 unfold IJ yA;have e:l.any (λp=>p.1==name)=l.any (λp=>cK p.1==cK name):=by
  rw[YP,cV,cV];constructor
  ·rintro⟨p,a,h⟩;exact⟨p,a,by rw[f p a,d];exact h⟩
  ·rintro⟨p,a,h⟩;exact⟨p,a,by rw[f p a,d]at h;exact h⟩
 rw[Vd l j g name i,aR,e];have b:=HG (λp:PP=>cK p.1==cK name) l;cases c:l.any _ with
 |true=>rw[c,aW]at b;rw[aB b,aB rfl]
 |false=>
  rw[c,bM]at b;rw[aA b,aA (show¬(ν=μ)by decide)];by_cases h:16<=γ l
  ·rw[aB aU,aB h]
  ·rw[aA aU,aA h]
def kH (s : aC) : Nat -> δ PP -> Nat -> δ PP × Int × ζ
  | 0, _, _ => ([], 0, 0)
  | f + 1, l, i =>
    if γ s <= bT bX s (i : Int) then (l, 0, 0)
    else if ¬ at_ s ((bT bX s (i : Int) : Nat) : Int) = 59 then ([], ((bT bX s (i : Int) : Nat) : Int), 5)
    else if (yU s (bT bX s ((bT bX s (i : Int) + 1 : Nat) : Int))).2.2.1 = 0 then
      (if yA l (yU s (bT bX s ((bT bX s (i : Int) + 1 : Nat) : Int))).1.1 = 0 then kH s f (l ++ [(yU s (bT bX s ((bT bX s (i : Int) + 1 : Nat) : Int))).1]) (yU s (bT bX s ((bT bX s (i : Int) + 1 : Nat) : Int))).2.2.2.2.toNat
       else ([], ((bT bX s ((bT bX s (i : Int) + 1 : Nat) : Int) : Nat) : Int), yA l (yU s (bT bX s ((bT bX s (i : Int) + 1 : Nat) : Int))).1.1))
    else ([], (yU s (bT bX s ((bT bX s (i : Int) + 1 : Nat) : Int))).2.1, (yU s (bT bX s ((bT bX s (i : Int) + 1 : Nat) : Int))).2.2.1)
theorem low2:∀c:ζ,eQ (eQ c)=eQ c:=fM _ aA5
theorem lU(l:aC):cK (cK l)=cK l:=by unfold cK;rw[lK];apply bz;intro c _;exact low2 c
theorem FB(s:aC)(n:γ s<=4194304)(b:Nat)(o:b<=γ s)(a:(yU s b).2.2.1=0):(yU s b).2.2.2.1=s/\b+1<=(yU s b).2.2.2.2/\(yU s b).2.2.2.2<=γ s+1/\cK (yU s b).1.1=(yU s b).1.1/\γ (yU s b).1.1<=γ s/\γ (yU s b).1.2.1<=90000000:=by
 have k:=Ca cJ s b o;have f:=jL cJ s (b:Int);unfold yU at a⊢;generalize r:bT cJ s (b:Int)=t at k f a⊢;have i:=jL bX s (t:Int);have j:=Ca bX s t f;have c:γ (cK (sub s (b:Int) (t:Int)))<=γ s:=by unfold cK;rw[Gf,Hr];omega
 by_cases l:t=b
 ·rw[aB l]at a;exact absurd a (show¬((5:ζ)=0)by decide)
 ·rw[aA l]at a⊢;generalize q:bT bX s (t:Int)=y at j i a⊢;cases g:cR s y 61 with
  |false=>rw[aB rfl];exact⟨rfl,by simp only;omega,by simp only;omega,lU _,c,aA3⟩
  |true=>
   have m:=(wM g).1;rw[g]at a;rw[aA (show¬(μ=ν)by decide)];have h:=Ca bX s (y+1) aU;have d:=jL bX s ((y+1:Nat):Int);generalize p:bT bX s ((y+1:Nat):Int)=z at h d a⊢;by_cases e:(kC s z).2.2=0
   ·have:=OF s n z d;rw[aB e];exact⟨rfl,by simp only;have:=(this.2 e).1;omega,by simp only;exact(this.2 e).2,lU _,c,this.1⟩
   ·rw[aA e]at a;exact absurd a e
theorem UZ(s:aC)(m:γ s<=4194304)(n:Nat):∀k e (l:δ PP),γ s-k<=n->n<e->k<=4194305->γ l<=16->
  apn FU e l s k=θ (kH s (n+1) l k):=by
 have L:¬(ν=μ):=aA1;induction n with
 |zero=>
  intro k e l w A z x;obtain⟨e,rfl⟩:=bV e;have u:=jL bX s k;have B:γ s<=bT bX s k:=by unfold bT Fo;omega
  rw[bbw,aog,ti s m,aR,nT,aR,aD aU,aM,kH,aB B]
 |succ n v=>
  intro k e l w A z x;obtain⟨e,rfl⟩:=bV e;have u:=jL bX s k;have p:=Ca bX s k;rw[kH,bbw,aog,ti s m,aR,nT,aR];generalize E:bT bX s k=j at u p⊢;by_cases t:γ s<=j
  ·rw[aD aU,aM,aB t]
  ·have y:k<=γ s:=by
    rcases tQ (γ s) k with h|h
    ·exfalso;have:bT bX s k=γ s:=by have a:=jL bX s k;unfold bT Fo at a⊢;omega
     omega
    ·exact h
   rw[aE aU,aH,aA t,JH,aR];have o:j<γ s:=aA0;unfold cR;rw[aD o,Rw];by_cases d:at_ s j=59
   ·have g:(at_ s j==59)=μ:=by simpa using d
    rw[g,gL,aH,aA aD3];simp only;rw[dS,ti s m,aR,bje];have f:=jL bX s (j+1:Nat);have q:=Ca bX s (j+1) aU;generalize F:bT bX s ((j+1:Nat):Int)=b at q f⊢;rw[VO s m b f,aR];by_cases i:(yU s b).2.2.1=0
    ·obtain⟨C,K,J,I,H,G⟩:=FB s m b f i;rw[aB i,aB i,OU l aU,aR,aR];by_cases c:yA l (yU s b).1.1=0
     ·have r:γ l<16:=by
       unfold yA at c;split at c
       ·exact absurd c aA1
       ·split at c
        ·exact absurd c aA1
        ·omega
      have D:(yU s b).2.2.2.2=(((yU s b).2.2.2.2.toNat:Nat):Int):=aA0;rw[aB c];rw[aB c,aS aA2,C,D];have:=v (yU s b).2.2.2.2.toNat e (l++[(yU s b).1]) aU aU aU aA2;congr 2
     ·rw[aA c];rw[aA c]
    ·rw[aA i,aA i,aR];rw[aA i]
   ·have g:(at_ s j==59)=ν:=by simpa using d
    rw[g,vP,aM,aB d]
def fR(s:aC):δ PP×Int×ζ:=kH s (γ s+1) [] 0
theorem Dq(s:aC)(a:γ s<=4194304):ajz FU s=θ (fR s):=by exact UZ s a (γ s) 0 FU [] aU aA4 aU aA3
theorem TR(p:ζ->η)(s:aC)(i:Int):bT p s ((bT p s i))=bT p s i:=by
 have g:=jL p s i;by_cases h:bT p s i<γ s
 ·refine KD p s _ h ?_;unfold bT at h⊢;generalize Fo i (γ s)=c at h⊢
  have:∀l:aC,cI p l<γ l->p (at_ l (cI p l))=ν:=by
   intro l;induction l with
   |nil=>intro h;simp at h
   |cons a l f=>
    intro h;cases b:p a with
    |false=>simp[cI,b,at_]
    |true=>
     have e:cI p (a::l)=cI p l+1:=by simp[cI,b]
     rw[e]at h⊢;have:=f (by simp at h;omega);simpa [at_] using this
  have d:=this (s.drop c) aB6;have e:at_ (s.drop c) (cI p (s.drop c))=at_ s ((c+cI p (s.drop c)):Int):=by simp only[at_,bJ,bU];congr 2
  rw[e]at d;exact d
 ·have:bT p s i=γ s:=by omega
  rw[this];exact Us p s
def L5(j:(δ PP)⊕((δ PP)×Int×ζ)):ε ((δ PP)×Int×ζ):=dE (λa=>θ (a,0,0)) (λq=>θ q) j
theorem DS(s:aC)(r:γ s<=4194304)(n:Nat):∀k e (l:δ PP),γ s-k<=n->n<e->k<=4194305->γ l<=16->(∀p∈l,cK p.1=p.1/\γ p.1<=4194304)->
  ((anl FU s e l ((bT bX s k))).bind L5)=θ (kH s (n+1) l k):=by
 have ff:¬(ν=μ):=aA1;induction n with
 |zero=>
  intro k e l S X V T D;obtain⟨e,rfl⟩:=bV e;have N:=jL bX s k;have Z:γ s<=bT bX s k:=by unfold bT Fo;omega
  rw[bep,arx,aA aU,kH,aB Z];rfl
 |succ n O=>
  intro k e l S X V T D;obtain⟨e,rfl⟩:=bV e;have N:=jL bX s k;have I:=Ca bX s k;rw[kH,bep,arx];by_cases J:γ s<=bT bX s k
  ·rw[aA aU,aB J];rfl
  ·have U:k<=γ s:=by
    rcases tQ (γ s) k with h|h
    ·exfalso;have:bT bX s k=γ s:=by have a:=jL bX s k;unfold bT Fo at a⊢;omega
     omega
    ·exact h
   generalize hj:bT bX s k=j at N I J⊢;rw[aB aU,aA J,aS aU];have W:j<γ s:=aA0;by_cases g:at_ s j=59
   ·rw[aB g,aA aE1,dS,YC s r,aR,bje];have C:=jL bX s (j+1:Nat);have K:=Ca bX s (j+1) aU;generalize hb:bT bX s ((j+1:Nat):Int)=b at K C⊢;have H:=Ca cJ s b C;have u:=jL cJ s (b:Int);rw[auy s aU,aR];have app:∀(v:aC) (c:η) (pos:Nat),(b:Int)+1<=(pos:Int)->(pos:Int)<=(γ s:Int)+1->∀nm:aC,cK nm=nm->γ nm<=4194304->
      (((IJ FU l nm).bind λ(i:ζ)=>(if i=(0:ζ)then(gd ((γ l+γ ([(nm,v,c)]:δ PP))*40<=140737488355328)<|(anl FU s e (l++([(nm,v,c)]:δ PP)) ((bT bX s (pos:Int):Nat):Int)))else θ (.inr (([]:δ PP),(b:Int),i)))).bind L5)=θ (if yA l nm=0 then kH s (n+1) (l++[(nm,v,c)]) pos else([],(b:Int),yA l nm)):=by
     intro v c pos R Q nm x A;rw[uC l aU (λp d=>(D p d).2) nm A (λp d=>(D p d).1) x,aR];by_cases f:yA l nm=0
     ·have M:γ l<16:=by
       unfold yA at f;split at f
       ·exact absurd f aA1
       ·split at f
        ·exact absurd f aA1
        ·omega
      rw[aB f,aB f,aS aA2];exact O pos e (l++[(nm,v,c)]) aU aU aU aA2 (λp d=>by
       rcases aV.1 d with h|h
       ·exact D p h
       ·rw[aG.1 h];exact⟨x,A⟩)
     ·rw[aA f,aA f];rfl
    unfold yU;generalize ht:bT cJ s _=t at H u⊢;by_cases B:t=b
    ·rw[aB aU,aB B];rfl
    ·have F:=jL bX s t;have G:=Ca bX s t u;have m:γ (cK (sub s b t))<=4194304:=by unfold cK;rw[Gf,Hr];omega
     rw[aA aU,aA B,aS aU,XI _ aC4,aR,YC s r,aR];have hid:=TR bX s t;generalize hy:bT bX s _=y at G F hid⊢;rw[Lw,aR];cases L:cR s y 61 with
     |false=>rw[aB rfl];have:=app [] ν y aU aU _ (lU _) m;rw[hid]at this;exact this
     |true=>
      have P:=(wM L).1;rw[aA (show¬(μ=ν)by decide),dS,YC s r,aR,bje];have E:=Ca bX s (y+1) aU;have o:=jL bX s ((y+1:Nat):Int);generalize hz:bT bX s ((y+1:Nat):Int)=z at E o⊢;rw[A7 s r z o,aR];by_cases q:(kC s z).2.2=0
      ·have Y:=(OF s r z o).2 q;obtain⟨pos,w⟩:∃pos:Nat,(kC s z).2.1=(pos:Int):=⟨(kC s z).2.1.toNat,aA0⟩;rw[aB q,YC s r,aR,aB q,w];have:=app (kC s z).1 μ pos aU aU _ (lU _) m;exact this
      ·rw[aA q,aA q,aA q];rfl
   ·rw[aA g,aB g];rfl
theorem rP(s:aC)(a:γ s<=4194304):aop FU s=θ (fR s):=by unfold aop;rw[YC s a];exact DS s a (γ s) 0 FU [] aU aA4 aU aA3 aA3
def kK(s:aC):Nat:=if bT cJ s 0=0 then 0 else if cR s (bT cJ s 0) 47=μ then(if bT cJ s ((bT cJ s 0+1:Nat))=bT cJ s 0+1 then 0 else bT cJ s ((bT cJ s 0+1:Nat)))else bT cJ s 0
theorem P6(s:aC):kK s<=γ s:=by
 have a:=jL cJ s 0;have b:=jL cJ s (bT cJ s 0+1:Nat);unfold kK;split
 ·omega
 ·split
  ·split<;>omega
  ·exact a
theorem Ou(s:aC)(e:γ s<=4194304):ave FU s=θ ((kK s):Int):=by
 have d:=jL cJ s 0;unfold ave kK;rw[auy s aU,aR];generalize bT cJ s 0=k at d⊢;by_cases c:k=0
 ·subst c;rfl
 ·rw[aA aU,aA c];by_cases f:k=γ s
  ·have:cR s k 47=ν:=by unfold cR;rw[aE aU];rfl
   rw[aB aU,aR,aM,this,aA aA1]
  ·rw[aA aU,aS aU,aR];unfold cR;rw[aD (show k<γ s by omega),Rw];by_cases a:at_ s k=47
   ·rw[aD a,gL,aH,dS,auy s aU,aR,dS,bje,show(at_ s _==47)=μ by simpa using a,aB rfl];by_cases b:bT cJ s (k+1:Nat)=k+1
    ·rw[aB aU,aB b];rfl
    ·rw[aA aU,aA b]
   ·rw[aE a,vP,aM,show(at_ s k==47)=ν by simpa using a,aA aA1]
def BT(v:aC):(aC×δ PP)×ζ:=
 if kK (cT v)=0 then(([],[]),5)
 else if(fR ((cT v).drop (kK (cT v)))).2.2=0 then(((cT v).take (kK (cT v)),(fR ((cT v).drop (kK (cT v)))).1),0)
 else(([],[]),(fR ((cT v).drop (kK (cT v)))).2.2)
theorem UG(v:aC)(c:γ v<=4194304):bia FU v=θ (BT v):=by
 have g:=BZ v;unfold bia BT;rw[bcd v c,aR,Ou _ aU,aR];have d:=P6 (cT v);generalize kK _=e at d⊢;have f:(e:Int).toNat=e:=aA0;by_cases b:e=0
 ·rw[aB aU,aB b]
 ·rw[aA aU,aA b,aS aU,f,rP _ aB6,aR];by_cases a:(fR ((cT v).drop e)).2.2=0
  ·rw[aB a,aB a,aS aU]
  ·rw[aA a,aA a]
theorem jz(v:aC)(j:γ v<=4194304):bfm FU v=θ (BT v):=by
 have l:=BZ v;have i:=jL cJ (cT v) 0;unfold bfm BT kK;rw[lP v j,aR,oR _ aU,aR];generalize cT v=s at l i⊢;have d:∀e:Nat,e<=γ s->e≠0->dE (λ(a:Int)=>(gd (0<=a/\a<=(γ s:Int))<|((ajz FU (cC (bH a) s)).bind λ(b:((δ PP)×Int×ζ))=>(if b.2.2=(0:ζ)then(gd (0<=a/\a<=(γ s:Int))<|some ((eZ (bH a) s,b.1),(0:ζ)))else θ ((([]:aC),([]:δ PP)),b.2.2))))) (λq=>θ q) (.inl (e:Int):Int⊕((aC×δ PP)×ζ))=θ (if e=0 then(([],[]),5)else if(fR (s.drop e)).2.2=0 then((s.take e,(fR (s.drop e)).1),0)else(([],[]),(fR (s.drop e)).2.2)):=by
  intro e g c;have n:((e:Nat):Int).toNat=e:=aA0;rw[kA,aS aU,n,Dq _ aB6,aR,aA c];by_cases f:(fR (s.drop e)).2.2=0
  ·rw[aB f,aB f,aS aU]
  ·rw[aA f,aA f]
 generalize bT cJ s 0=k at i⊢;by_cases c:k=0
 ·subst c;rfl
 ·rw[aA aU,Lw,aR,aA c];cases h:cR s k 47 with
  |true=>
   have o:=(wM h).1;have m:=jL cJ s ((k+1:Nat):Int);have p:=Ca cJ s (k+1) aU;rw[aM,dS,oR _ aU,aR,dS,bje,aB rfl];by_cases g:bT cJ s ((k+1:Nat):Int)=k+1
   ·rw[aB aU,aB g];rfl
   ·rw[aA aU,aA g,aR,d _ m aU]
  |false=>rw[aH,aR,aA (show¬(ν=μ)by decide),d _ i c]
end Go.Wk
