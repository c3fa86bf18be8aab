/-
  The law RoutingArrives holds (part 4 of 9).
-/
import Derived.Test.YtiefafeoagcedaaGreatDoorYa3
open Bool renaming false → ν, true → μ
open List renaming length → γ, set → Ξ
open Nat renaming min → Ν
open Option renaming none → ι, some → θ
set_option linter.unusedVariables false
set_option linter.unusedSimpArgs false
set_option maxRecDepth 20000
set_option maxHeartbeats 1000000
namespace Go.Wk
open Go.Px
open Int renaming toNat → bR
open Sum renaming elim → dQ
def acz(fu:Nat)(s:aC)(d:aC->Int->ε aC)(b:aC)(a:Int):ε aC:=
 (if a<γ s then(gd (0<=a/\a<γ b)<|gd (0<=a/\a<γ b)<|(ajl fu (Υ b a)).bind λc=>gd (0<=a/\a<γ b)<|gd (0<=a/\a<γ b)<|gd (bK (a+1))<|d (Ξ b (bR a) c) (a+1))else θ b)
def adf(fu:Nat)(s:aC):Nat->aC->Int->ε aC:=λc b a=>bJ (λg v=>acz fu s (λb a=>g (b,a)) v.1 v.2) c (b,a)
variable{a:Nat}{d:aC}{b:Nat}{o:aC}{c:Int}
theorem ail:adf a d (b+1) o c=acz a d (adf a d b) o c:=rfl
def acu(fu:Nat)(s:aC):ε aC:=
 ((adf fu s fu s 0).bind λa=>θ a)
def ayq(fu:Nat)(a:ζ):ε ζ:=
 ((if 97<=a then θ (decide (a<=122))else θ ν).bind λb=>bif b then θ (a-32)else θ a)
def awd(fu:Nat)(c:ζ)(d:η):ε (ζ×η):=
 (bif d then((ayq fu c).bind λb=>θ (b,(decide (b=45))))else(ajl fu c).bind λa=>θ (a,(decide (a=45))))
def adm(fu:Nat)(s:aC)(e:aC->Int->η->ε (aC×η))(b:aC)(a:Int)(d:η):ε (aC×η):=
 (if a<γ s then(gd (0<=a/\a<γ b)<|gd (0<=a/\a<γ b)<|(awd fu (Υ b a) d).bind λc=>gd (0<=a/\a<γ b)<|gd (0<=a/\a<γ b)<|gd (bK (a+1))<|e (Ξ b (bR a) c.1) (a+1) c.2)else θ (b,d))
def adt(fu:Nat)(s:aC):Nat->aC->Int->η->ε (aC×η):=λd c b a=>bJ (λg v=>adm fu s (λc b a=>g (c,b,a)) v.1 v.2.1 v.2.2) d (c,b,a)
variable{q:η}
theorem ajm:adt a d (b+1) o c q=adm a d (adt a d b) o c q:=rfl
def adg(fu:Nat)(s:aC)(b:η):ε (aC×η):=
 ((adt fu s fu s 0 b).bind λa=>θ (a.1,a.2))
def vG(fu:Nat)(d:aC)(c:Int->ε (Unit⊕(aC×ζ)))(a:Int):ε (Unit⊕(aC×ζ)):=
 (if a<7 then(gd (0<=a/\a<γ zt)<|(acu fu (el zt a)).bind λb=>if b=d then θ (.inr (el zt a,0))else gd (bK (a+1))<|c (a+1))else θ (.inl ()))
def amw(fu:Nat)(c:aC):Nat->Int->ε (Unit⊕(aC×ζ)):=λb a=>bJ (λg v=>vG fu c (λa=>g a) v) b a
def zz(fu:Nat)(a:aC):ε (aC×ζ):=
 (((zw fu a).bind λi=>bif (!i)then θ μ else θ (decide (64<(γ a:Int)))).bind λh=>bif h then θ ([],5)else(if γ a=(1:Int)then(gd (0<=(0:Int)/\0<(γ a:Int))<|(ajl fu (Υ a 0)).bind λg=>(aul fu g).bind λb=>if b=[]then θ (.inl ())else θ (.inr (b,0)))else θ (.inl ())).bind λf=>dQ (λk=>(acu fu a).bind λe=>(amw fu e fu 0).bind λd=>dQ (λj=>(adg fu a μ).bind λc=>θ (c.1,0)) (λq=>θ q) d) (λq=>θ q) f)
def ly(fu:Nat)(b:aC):ε (ζ×aC):=
 ((zz fu b).bind λa=>θ (a.2,a.1))
def agv(fu:Nat)(e:(aC×aC))(d:ζ)(c:aC):ε η:=
 ((zz fu e.1).bind λa=>(if d=0 then(if a.2=0 then θ (decide (a.1=c))else θ ν)else θ ν).bind λb=>θ b)
def abg(fu:Nat)(s:δ (aC×aC))(e:ζ)(d:aC)(c:Int->ε (Unit⊕Int))(a:Int):ε (Unit⊕Int):=
 (if a<γ s then(gd (0<=a/\a<γ s)<|gd (0<=a/\a<γ s)<|(agv fu (el s a) e d).bind λb=>bif b then θ (.inr a)else gd (bK (a+1))<|c (a+1))else θ (.inl ()))
def aaw(fu:Nat)(s:δ (aC×aC))(d:ζ)(c:aC):Nat->Int->ε (Unit⊕Int):=λb a=>bJ (λg v=>abg fu s d c (λa=>g a) v) b a
variable{j:δ (aC×aC)}{l:ζ}
theorem adb:aaw a j l d (b+1) c=abg a j l d (aaw a j l d b) c:=rfl
def xd(fu:Nat)(s:δ (aC×aC))(c:ζ)(b:aC):ε Int:=
 ((aaw fu s c b fu 0).bind λa=>dQ (λd=>θ (-1)) (λq=>θ q) a)
def bih(fu:Nat)(m_0:(aC×aC×Int×aC×(δ (aC×aC))×(δ ζ)))(c:aC):ε (aC×η):=
 ((ly fu c).bind λb=>(xd fu m_0.2.2.2.2.1 b.1 b.2).bind λa=>if a<0 then ι else gd (0<=a/\a<γ m_0.2.2.2.2.1)<|gd (0<=a/\a<γ m_0.2.2.2.2.1)<|some ((el m_0.2.2.2.2.1 a).2,μ))
def aqg(fu:Nat)(s:aC):ε aC:=
 (gd (γ s<=1000000000)<|gd (γ ([32,9]:aC)<=1000/\([32,9]:aC).all (λb=>decide (b.toNat<128))=μ)<|some (Lib.trimS s ([32,9])))
open Go.Lib renaming indexAny → Bu
open List renaming drop → dG, take → eP
def pR(fu:Nat)(c:aC):ε (Int×ζ):=
 ((aqg fu c).bind λb=>(ank fu b).bind λa=>θ (a.1,a.2))
def tD(fu:Nat)(m_0:(aC×aC×Int×aC×(δ (aC×aC))×(δ ζ))):ε (Int×ζ):=
 ((bih fu m_0 ([77,97,120,45,70,111,114,119,97,114,100,115])).bind λb=>bif (!b.2)then ι else(pR fu b.1).bind λa=>if a.2=0 then(if 255<a.1 then ι else θ (a.1,0))else ι)
def ata(fu:Nat)(c:aC)(b:(aC×aC×Int×aC×(δ (aC×aC))×(δ ζ))):ε aC:=
 ((bih fu b c).bind λa=>θ a.1)
def ams(fu:Nat)(a:ζ):ε η:=
 ((if a=32 then θ μ else θ (decide (a=9))).bind λb=>θ b)
def acs(fu:Nat)(s:aC)(d:Int->ε Int)(a:Int):ε Int:=
 ((if a<γ s then(gd (0<=a/\a<γ s)<|(ams fu (Υ s a)).bind λc=>θ c)else θ ν).bind λb=>bif b then(gd (bK (a+1))<|d (a+1))else θ a)
def aet(fu:Nat)(s:aC):Nat->Int->ε Int:=λb a=>bJ (λg v=>acs fu s (λa=>g a) v) b a
theorem agj:aet a d (b+1) c=acs a d (aet a d b) c:=rfl
def ajp(fu:Nat)(s:aC)(b:Int):ε Int:=
 ((aet fu s fu (min (max b 0) (γ s))).bind λa=>θ a)
def anl(fu:Nat)(s:aC)(b:Int):ε Int:=
 ((ajp fu s b).bind λa=>θ a)
def bgv(fu:Nat)(s:aC):ε (Int×aC×ζ):=
 (gd (γ s<=1000000000/\γ ([32,9]:aC)<=1000/\([32,9]:aC).all (λb=>decide (b.toNat<128))=μ)<|if(Bu s ([32,9]))<0 then ι else gd (0<=(Bu s ([32,9]))/\(Bu s ([32,9]))<=γ s)<|(ank fu (eP (bR (Bu s ([32,9]))) s)).bind λc=>(anl fu s (Bu s ([32,9]))).bind λa=>gd (0<=a/\a<=γ s)<|some (c.1,dG (bR a) s,c.2))
def wF(fu:Nat)(d:aC):ε (Int×aC×ζ):=
 ((aqg fu d).bind λb=>(bgv fu b).bind λa=>if a.2.2=0 then((zw fu a.2.1).bind λc=>bif (!c)then ι else θ (a.1,a.2.1,0))else ι)
def AN(fu:Nat)(b:(Unit×(δ ζ)))(a:aC):ε (Int×Unit×(Unit×(δ ζ))):=
 (gd ((γ b.2+γ a)*1<=140737488355328)<|some (γ a,(),((),b.2++a)))
def ado(fu:Nat)(b:(Unit×(δ ζ)))(a:ζ):ε (Unit×(Unit×(δ ζ))):=
 (gd ((γ b.2+[a].length)*1<=140737488355328)<|some ((),((),b.2++[a])))
open Go.Lib renaming join → dP
def alc(fu:Nat)(s:aC)(c:(Unit×(δ ζ))):ε (Unit×(δ ζ)):=
 ((AN fu ((),c.2) s).bind λa=>(ado fu ((),a.2.2.2) 10).bind λb=>θ ((),b.2.2))
def mb(fu:Nat)(a:(aC×Int)):ε (aC×Int):=
 ((anl fu a.1 a.2).bind λb=>θ (a.1,b))
def aoa(fu:Nat)(a:ζ):ε η:=
 ((if 32<=a then θ (decide (a<=126))else θ ν).bind λb=>θ b)
def aob(fu:Nat)(a:ζ):ε η:=
 ((if a<32 then(if a=9 then θ (decide (a=127))else θ μ)else θ (decide (a=127))).bind λv6=>θ v6)
def ajv(fu:Nat)(s:aC)(c:(δ ζ)->Int->ε (((δ ζ)×Int)⊕(aC×Int×ζ)))(b:δ ζ)(a:Int):ε (((δ ζ)×Int)⊕(aC×Int×ζ)):=
 (if a<γ s then(gd (0<=a/\a<γ s)<|if(Υ s a)=34 then θ (.inl (b,a))else if(Υ s a)=92 then(gd (bK (a+1))<|if(a+1)=γ s then θ (.inr ([],γ s,6))else gd (bK (a+1))<|gd (0<=(a+1)/\(a+1)<γ s)<|(aoa fu (Υ s (a+1))).bind λe=>bif (!e)then θ (.inr ([],a,5))else gd (bK (a+1))<|gd (0<=(a+1)/\(a+1)<γ s)<|gd ((γ b+γ ([Υ s (a+1)]))*1<=140737488355328)<|gd (bK ((a+1)+1))<|c (b++([Υ s (a+1)])) ((a+1)+1))else(aob fu (Υ s a)).bind λd=>bif d then θ (.inr ([],a,5))else gd (0<=a/\a<γ s)<|gd ((γ b+γ ([Υ s a]))*1<=140737488355328)<|gd (bK (a+1))<|c (b++([Υ s a])) (a+1))else θ (.inl (b,a)))
def aqf(fu:Nat)(s:aC):Nat->(δ ζ)->Int->ε (((δ ζ)×Int)⊕(aC×Int×ζ)):=λc b a=>bJ (λg v=>ajv fu s (λb a=>g (b,a)) v.1 v.2) c (b,a)
variable{f:δ ζ}
theorem ath:aqf a d (b+1) f c=ajv a d (aqf a d b) f c:=rfl
def apa(fu:Nat)(s:aC)(a:Int):ε (aC×Int×ζ):=
 ((if a<0 then θ μ else θ (decide (γ s<a))).bind λc=>bif c then θ ([],0,2)else(if a=γ s then θ μ else gd (0<=a/\a<γ s)<|some (!decide ((Υ s a)=34))).bind λe=>bif e then θ ([],a,5)else gd (bK (a+1))<|(aqf fu s fu [] (a+1)).bind λd=>dQ (λb=>if(γ s:Int)<=b.2 then θ ([],γ s,6)else gd (bK (b.2+1))<|some (b.1,b.2+1,0)) (λq=>θ q) d)
def ahl(fu:Nat)(d:(aC×Int))(b:AQ):ε (Int×ζ×(aC×Int)×AQ):=
 ((apa fu d.1 d.2).bind λa=>if a.2.2=0 then((mb fu (d.1,a.2.1)).bind λc=>(Ho fu c 60).bind λe=>bif (!e)then θ (c.2,5,c,(a.1,b.2.1,b.2.2))else θ (0,0,c,(a.1,b.2.1,b.2.2)))else θ (a.2.1,a.2.2,d,b))
def aft(fu:Nat)(a:(aC×Int)):ε (aC×(aC×Int)):=
 ((ajq fu a.1 a.2).bind λb=>gd (0<=a.2/\a.2<=b/\b<=γ a.1)<|some (sub a.1 a.2 b,(a.1,b)))
def afn(fu:Nat)(h:AQ)(g:(δ aC)->aC->Int->ε (((δ aC)×aC×Int)⊕(Int×ζ×(aC×Int)×AQ)))(d:δ aC)(c:aC)(b:Int):ε (((δ aC)×aC×Int)⊕(Int×ζ×(aC×Int)×AQ)):=
 ((Ho fu (c,b) 60).bind λf=>bif (!f)then((aft fu (c,b)).bind λa=>if a.1=[]then θ (.inr (a.2.2,5,a.2,h))else gd ((γ d+[a.1].length)*16<=140737488355328)<|(mb fu a.2).bind λe=>g (d++[a.1]) e.1 e.2)else θ (.inl (d,c,b)))
def afr(fu:Nat)(e:AQ):Nat->(δ aC)->aC->Int->ε (((δ aC)×aC×Int)⊕(Int×ζ×(aC×Int)×AQ)):=λd c b a=>bJ (λg v=>afn fu e (λc b a=>g (c,b,a)) v.1 v.2.1 v.2.2) d (c,b,a)
variable{h:δ aC}
theorem anr{e:AQ}:afr a e (b+1) h d c=afn a e (afr a e b) h d c:=rfl
def adw(fu:Nat)(c:(aC×Int))(b:AQ):ε (Int×ζ×(aC×Int)×AQ):=
 ((afr fu b fu [] c.1 c.2).bind λd=>dQ (λa=>gd (γ a.1<=1000000000/\γ (dP a.1 [32])<=100000000000)<|some (0,0,a.2,(dP a.1 [32],b.2.1,b.2.2))) (λq=>θ q) d)
def ahk(fu:Nat)(a:(aC×Int))(e:AQ):ε (Int×ζ×(aC×Int)×AQ):=
 (((Ho fu a 60).bind λi=>bif i then(gd (bK (a.2+1))<|(Zt fu a.1 (a.2+1) [62]).bind λd=>if d=γ a.1 then θ (.inr (d,5,a,e))else gd (bK (d+1))<|some (.inl (a.2+1,d,d+1)))else(Zt fu a.1 a.2 ([59,32,9])).bind λf=>(Zt fu a.1 a.2 ([63,44])).bind λg=>if g<f then θ (.inr (g,5,a,e))else θ (.inl (a.2,f,f))).bind λh=>dQ (λb=>gd (0<=b.1/\b.1<=b.2.1/\b.2.1<=(γ a.1:Int))<|(aiz fu (sub a.1 b.1 b.2.1)).bind λc=>if c.2.2=0 then θ (0,0,(a.1,b.2.2),(e.1,c.1,e.2.2))else gd (bK (b.1+c.2.1))<|some (b.1+c.2.1,c.2.2,a,e)) (λq=>θ q) h)
def akj(fu:Nat)(l:(aC×Int)):ε (PQ×Int×ζ×(aC×Int)):=
 ((aft fu l).bind λg=>(WG fu g.1).bind λf=>if f=[]then θ (([],[],ν),g.2.2,5,g.2)else(mb fu g.2).bind λe=>(Ho fu e 61).bind λk=>bif (!k)then θ ((f,[],ν),0,0,e)else gd (bK (e.2+1))<|(mb fu (e.1,e.2+1)).bind λa=>(Ho fu a 34).bind λj=>bif j then((apa fu a.1 a.2).bind λd=>if d.2.2=0 then θ ((f,d.1,μ),0,0,(a.1,d.2.1))else θ (([],[],ν),d.2.1,d.2.2,a))else(Ho fu a 91).bind λi=>bif i then((Zt fu a.1 a.2 [93]).bind λb=>gd (bK (b+1))<|gd (0<=a.2/\a.2<=(min (b+1) (γ a.1))/\(min (b+1) (γ a.1))<=γ a.1)<|(XO fu (sub a.1 a.2 (min (b+1) (γ a.1)))).bind λh=>bif (!h.2)then θ (([],[],ν),a.2,5,a)else gd (bK (b+1))<|some ((f,h.1,μ),0,0,(a.1,b+1)))else(aft fu a).bind λc=>if c.1=[]then θ (([],[],ν),c.2.2,5,c.2)else θ ((f,c.1,μ),0,0,c.2))
open List renaming drop → dG
def anb(fu:Nat)(k:LQ->aC->Int->ε (LQ×Int×ζ))(c:LQ)(j:aC)(i:Int):ε (LQ×Int×ζ):=
 ((mb fu (j,i)).bind λb=>(adj fu b).bind λh=>bif h then θ (c,0,0)else(Ho fu b 59).bind λg=>bif (!g)then θ ([],b.2,5)else gd (bK (b.2+1))<|(mb fu (b.1,b.2+1)).bind λe=>(akj fu e).bind λa=>(if a.2.2.1=0 then((arc fu c a.1.1).bind λf=>θ (e.2,f))else θ (a.2.1,a.2.2.1)).bind λd=>if d.2=0 then(gd ((γ c+[a.1].length)*40<=140737488355328)<|k (c++[a.1]) a.2.2.2.1 a.2.2.2.2)else θ ([],d.1,d.2))
def aoi(fu:Nat):Nat->LQ->aC->Int->ε (LQ×Int×ζ):=λd c b a=>bJ (λg v=>anb fu (λc b a=>g (c,b,a)) v.1 v.2.1 v.2.2) d (c,b,a)
variable{m:LQ}
theorem azh:aoi a (b+1) m d c=anb a (aoi a b) m d c:=rfl
def awg(fu:Nat)(s:aC):ε (LQ×Int×ζ):=
 (aoi fu fu [] s 0)
def alr(fu:Nat)(s:aC):ε (AQ×Int×ζ):=
 (if 1024<(γ s:Int)then θ (([],([],[],[],0,[],[]),[]),1024,4)else(mb fu (s,0)).bind λf=>((Ho fu f 34).bind λi=>bif i then((ahl fu f ([],([],[],[],0,[],[]),[])).bind λe=>θ (e.1,e.2.1,e.2.2.1.1,e.2.2.1.2,e.2.2.2.1,e.2.2.2.2.1.1,e.2.2.2.2.1.2.1,e.2.2.2.2.1.2.2.1,e.2.2.2.2.1.2.2.2.1,e.2.2.2.2.1.2.2.2.2.1,e.2.2.2.2.1.2.2.2.2.2,e.2.2.2.2.2))else gd (γ s<=1000000000)<|bif (Lib.contains s [60])then((adw fu f ([],([],[],[],0,[],[]),[])).bind λd=>θ (d.1,d.2.1,d.2.2.1.1,d.2.2.1.2,d.2.2.2.1,d.2.2.2.2.1.1,d.2.2.2.2.1.2.1,d.2.2.2.2.1.2.2.1,d.2.2.2.2.1.2.2.2.1,d.2.2.2.2.1.2.2.2.2.1,d.2.2.2.2.1.2.2.2.2.2,d.2.2.2.2.2))else θ (0,0,f.1,f.2,[],[],[],[],0,[],[],[])).bind λa=>(if a.2.1=0 then((ahk fu (a.2.2.1,a.2.2.2.1) (a.2.2.2.2.1,(a.2.2.2.2.2.1,a.2.2.2.2.2.2.1,a.2.2.2.2.2.2.2.1,a.2.2.2.2.2.2.2.2.1,a.2.2.2.2.2.2.2.2.2.1,a.2.2.2.2.2.2.2.2.2.2.1),a.2.2.2.2.2.2.2.2.2.2.2)).bind λc=>θ (c.1,c.2.1,c.2.2.1.1,c.2.2.1.2,c.2.2.2.1,c.2.2.2.2.1.1,c.2.2.2.2.1.2.1,c.2.2.2.2.1.2.2.1,c.2.2.2.2.1.2.2.2.1,c.2.2.2.2.1.2.2.2.2.1,c.2.2.2.2.1.2.2.2.2.2,c.2.2.2.2.2))else θ (a.1,a.2.1,a.2.2.1,a.2.2.2.1,a.2.2.2.2.1,a.2.2.2.2.2.1,a.2.2.2.2.2.2.1,a.2.2.2.2.2.2.2.1,a.2.2.2.2.2.2.2.2.1,a.2.2.2.2.2.2.2.2.2.1,a.2.2.2.2.2.2.2.2.2.2.1,a.2.2.2.2.2.2.2.2.2.2.2)).bind λb=>(if b.2.1=0 then(gd (0<=b.2.2.2.1/\b.2.2.2.1<=γ s)<|(awg fu (dG (bR b.2.2.2.1) s)).bind λh=>gd (bK (h.2.1+b.2.2.2.1))<|some (h.2.1+b.2.2.2.1,h.2.2,h.1))else θ (b.1,b.2.1,b.2.2.2.2.2.2.2.2.2.2.2)).bind λg=>if g.2.1=0 then θ ((b.2.2.2.2.1,(b.2.2.2.2.2.1,b.2.2.2.2.2.2.1,b.2.2.2.2.2.2.2.1,b.2.2.2.2.2.2.2.2.1,b.2.2.2.2.2.2.2.2.2.1,b.2.2.2.2.2.2.2.2.2.2.1),g.2.2),0,0)else θ (([],([],[],[],0,[],[]),[]),g.1,g.2.1))
def aqw(fu:Nat)(c:aC):ε (AQ×ζ):=
 ((aqg fu c).bind λb=>(alr fu b).bind λa=>θ (a.1,a.2.2))
def yB(fu:Nat)(b:LQ)(c:aC)(e:Int->ε (Unit⊕(aC×η)))(a:Int):ε (Unit⊕(aC×η)):=
 (if a<γ b then(gd (0<=a/\a<γ b)<|gd (0<=a/\a<γ b)<|(WG fu ((el b a).1)).bind λd=>if d=c then θ (.inr ((el b a).2.1,μ))else gd (bK (a+1))<|e (a+1))else θ (.inl ()))
def Bm(fu:Nat)(d:LQ)(b:aC):Nat->Int->ε (Unit⊕(aC×η)):=λc a=>bJ (λg v=>yB fu d b (λa=>g a) v) c a
def bcm(fu:Nat)(d:LQ)(c:aC):ε (aC×η):=
 ((WG fu c).bind λa=>(Bm fu d a fu 0).bind λb=>dQ (λe=>θ ([],ν)) (λq=>θ q) b)
def oV(fu:Nat)(c:aC):ε aC:=
 ((aqw fu c).bind λa=>if a.2=0 then((bcm fu a.1.2.2 ([116,97,103])).bind λb=>θ b.1)else θ [])
def aoc(fu:Nat)(c:aC)(b:Int->ε (Unit⊕Int))(a:Int):ε (Unit⊕Int):=
 (if a<31 then(gd (0<=a/\a<31)<|gd (0<=a/\a<γ Et)<|if((el Et a).1)=c then(gd (0<=a/\a<31)<|gd (0<=a/\a<γ Et)<|some (.inr ((el Et a).2)))else gd (bK (a+1))<|b (a+1))else θ (.inl ()))
def aqi(fu:Nat)(c:aC):Nat->Int->ε (Unit⊕Int):=λb a=>bJ (λg v=>aoc fu c (λa=>g a) v) b a
theorem bau:aqi a d (b+1) c=aoc a d (aqi a d b) c:=rfl
def ays(fu:Nat)(b:aC):ε Int:=
 ((aqi fu b fu 0).bind λa=>dQ (λc=>θ 0) (λq=>θ q) a)
def aqh(fu:Nat)(a:aC):ε η:=
 ((if a=([67,111,110,116,97,99,116])then(if a=([67,111,110,116,97,99,116])then θ (.inr μ)else θ (.inl ()))else if a=([80,97,116,104])then(if a=([80,97,116,104])then θ (.inr μ)else θ (.inl ()))else if a=([82,101,99,111,114,100,45,82,111,117,116,101])then(if a=([82,101,99,111,114,100,45,82,111,117,116,101])then θ (.inr μ)else θ (.inl ()))else if a=([82,111,117,116,101])then(if a=([82,111,117,116,101])then θ (.inr μ)else θ (.inl ()))else if a=([83,101,114,118,105,99,101,45,82,111,117,116,101])then θ (.inr μ)else θ (.inl ())).bind λd=>dQ (λe=>(ays fu a).bind λb=>(if b=2 then θ μ else θ (decide (b=7))).bind λc=>θ c) (λq=>θ q) d)
def bck(fu:Nat)(d:aC):ε η:=
 ((zz fu d).bind λa=>(if a.2=0 then((aqh fu a.1).bind λc=>θ c)else θ ν).bind λb=>θ b)
def ayp(fu:Nat)(s:aC)(d:Int)(a:Int):ε (Int×aC):=
 ((anl fu s d).bind λc=>gd (0<=(min c a)/\(min c a)<=a/\a<=γ s)<|gd (γ (sub s (min c a) a)<=1000000000)<|gd (γ ([32,9]:aC)<=1000/\([32,9]:aC).all (λb=>decide (b.toNat<128))=μ)<|some (min c a,Lib.trimRightS (sub s (min c a) a) ([32,9])))
def amu(fu:Nat)(s:aC)(g:ζ)(e:(δ (Int×aC))->Int->Int->ε (((δ (Int×aC))×Int)⊕((δ (Int×aC))×Int×ζ)))(b:δ (Int×aC))(c:Int)(a:Int):ε (((δ (Int×aC))×Int)⊕((δ (Int×aC))×Int×ζ)):=
 (if a<γ s then(gd (0<=a/\a<γ s)<|if(Υ s a)=34 then((apa fu s a).bind λd=>if d.2.2=0 then(e b c d.2.1)else θ (.inr ([],d.2.1,d.2.2)))else if(Υ s a)=60 then(gd (0<=a/\a<=γ s)<|if(dN (·==62) (dG (bR a) s))<0 then θ (.inr ([],γ s,6))else gd (bK ((dN (·==62) (dG (bR a) s))+1))<|gd (bK (a+((dN (·==62) (dG (bR a) s))+1)))<|e b c (a+((dN (·==62) (dG (bR a) s))+1)))else if(Υ s a)=62 then θ (.inr ([],a,5))else if(Υ s a)=g then((ayp fu s c a).bind λf=>gd ((γ b+[f].length)*24<=140737488355328)<|gd (bK (a+1))<|e (b++[f]) (a+1) (a+1))else gd (bK (a+1))<|e b c (a+1))else θ (.inl (b,c)))
def apb(fu:Nat)(s:aC)(e:ζ):Nat->(δ (Int×aC))->Int->Int->ε (((δ (Int×aC))×Int)⊕((δ (Int×aC))×Int×ζ)):=λd c b a=>bJ (λg v=>amu fu s e (λc b a=>g (c,b,a)) v.1 v.2.1 v.2.2) d (c,b,a)
variable{r:δ (Int×aC)}{g:Int}
theorem aww:apb a d l (b+1) r c g=amu a d l (apb a d l b) r c g:=rfl
def bcj(fu:Nat)(s:aC)(a:ζ):ε ((δ (Int×aC))×Int×ζ):=
 (((ams fu a).bind λf=>bif f then θ μ else if a=34 then θ μ else if a=60 then θ μ else θ (decide (a=62))).bind λe=>bif e then θ ([],0,2)else(apb fu s a fu [] 0 0).bind λd=>dQ (λb=>(ayp fu s b.2 (γ s)).bind λc=>gd ((γ b.1+[c].length)*24<=140737488355328)<|some (b.1++[c],0,0)) (λq=>θ q) d)
open Go.IntKind renaming wrap → fD
open List renaming drop → dG, replicate → jM, take → eP
def ase(fu:Nat)(b:((δ (Int×aC))×Int×ζ))(d:(δ aC)->Int->ε ((δ aC)⊕((δ aC)×ζ)))(c:δ aC)(a:Int):ε ((δ aC)⊕((δ aC)×ζ)):=
 (if a<γ b.1 then(gd (0<=a/\a<γ b.1)<|gd (0<=a/\a<γ b.1)<|if((el b.1 a).2)=[]then θ (.inr ([],5))else gd ((γ c+γ ([(el b.1 a).2]))*16<=140737488355328)<|gd (bK (a+1))<|d (c++([(el b.1 a).2])) (a+1))else θ (.inl c))
def apc(fu:Nat)(c:((δ (Int×aC))×Int×ζ)):Nat->(δ aC)->Int->ε ((δ aC)⊕((δ aC)×ζ)):=λd b a=>bJ (λg v=>ase fu c (λb a=>g (b,a)) v.1 v.2) d (b,a)
variable{n:((δ (Int×aC))×Int×ζ)}
theorem bdt:apc a n (b+1) h c=ase a n (apc a n b) h c:=rfl
def bcl(fu:Nat)(d:aC):ε ((δ aC)×ζ):=
 ((bcj fu d 44).bind λa=>if a.2.2=0 then((apc fu a fu [] 0).bind λc=>dQ (λb=>θ (b,0)) (λq=>θ q) c)else θ ([],a.2.2))
def asa(fu:Nat)(b:aC):ε (δ aC):=
 ((bcl fu b).bind λa=>if a.2=0 then θ a.1 else θ [b])
def asb(fu:Nat)(m_0:(aC×aC×Int×aC×(δ (aC×aC))×(δ ζ)))(d:(ζ×aC))(g:η)(c:(δ aC)->Int->ε (δ aC))(b:δ aC)(a:Int):ε (δ aC):=
 (if a<γ m_0.2.2.2.2.1 then(gd (0<=a/\a<γ m_0.2.2.2.2.1)<|gd (0<=a/\a<γ m_0.2.2.2.2.1)<|(agv fu (el m_0.2.2.2.2.1 a) d.1 d.2).bind λf=>bif (!f)then(gd (bK (a+1))<|c b (a+1))else bif g then((asa fu ((el m_0.2.2.2.2.1 a).2)).bind λe=>gd ((γ b+γ e)*16<=140737488355328)<|gd (bK (a+1))<|c (b++e) (a+1))else gd ((γ b+γ ([(el m_0.2.2.2.2.1 a).2]))*16<=140737488355328)<|gd (bK (a+1))<|c (b++([(el m_0.2.2.2.2.1 a).2])) (a+1))else θ b)
def akt(fu:Nat)(m_0:(aC×aC×Int×aC×(δ (aC×aC))×(δ ζ)))(c:(ζ×aC))(e:η):Nat->(δ aC)->Int->ε (δ aC):=λd b a=>bJ (λg v=>asb fu m_0 c e (λb a=>g (b,a)) v.1 v.2) d (b,a)
variable{e:(aC×aC×Int×aC×(δ (aC×aC))×(δ ζ))}
theorem bdq{d:(ζ×aC)}:akt a e d q (b+1) h c=asb a e d q (akt a e d q b) h c:=rfl
def ju(fu:Nat)(m_0:(aC×aC×Int×aC×(δ (aC×aC))×(δ ζ)))(a:aC):ε (δ aC):=
 ((ly fu a).bind λb=>(bck fu a).bind λd=>(akt fu m_0 b d fu [] 0).bind λc=>θ c)
def oX(fu:Nat):ε ((δ Int)×Int×(δ ζ)):=
 θ (([1779033703,3144134277,1013904242,2773480762,1359893119,2600822924,528734635,1541459225]),0,jM 64 0)
def aoz(fu:Nat)(b:Int)(a:Int):ε Int:=
 (gd (0<=(fM .u64 (fD .u64 a) 31))<|gd (0<=(fD .u64 (32-(fM .u64 (fD .u64 a) 31))))<|some (Pv .u32 (fD .u32 (b*((2^(min (bR (fM .u64 (fD .u64 a) (31:Int))) (IntKind.bits .u32)):Nat)))) (b/((2^(min (bR (fD .u64 ((32:Int)-(fM .u64 (fD .u64 a) (31:Int))))) (IntKind.bits .u32)):Nat)))))
def XL(fu:Nat)(c:Int)(b:Int):ε Int:=
 ((aoz fu c (fD .i64 (0-b))).bind λa=>θ a)
def awz(fu:Nat)(c:δ ζ)(d:Int->(δ Int)->ε (δ Int))(a:Int)(b:δ Int):ε (δ Int):=
 (if a<64 then(if a<16 then(gd (bK (4*a))<|gd (0<=(4*a)/\(4*a)<64)<|gd (0<=(4*a)/\(4*a)<64)<|gd (bK (4*a))<|gd (bK ((4*a)+1))<|gd (0<=((4*a)+1)/\((4*a)+1)<64)<|gd (0<=((4*a)+1)/\((4*a)+1)<64)<|gd (bK (4*a))<|gd (bK ((4*a)+2))<|gd (0<=((4*a)+2)/\((4*a)+2)<64)<|gd (0<=((4*a)+2)/\((4*a)+2)<64)<|gd (bK (4*a))<|gd (bK ((4*a)+3))<|gd (0<=((4*a)+3)/\((4*a)+3)<64)<|gd (0<=((4*a)+3)/\((4*a)+3)<64)<|gd (0<=a/\a<64)<|gd (0<=a/\a<64)<|gd (bK (a+1))<|d (a+1) (Gm 64 b a (Pv .u32 (Pv .u32 (Pv .u32 (fD .u32 (((Υ c ((4:Int)*a)).toNat)*16777216)) (fD .u32 (((Υ c (((4:Int)*a)+(1:Int))).toNat)*65536))) (fD .u32 (((Υ c (((4:Int)*a)+(2:Int))).toNat)*256))) ((Υ c (((4:Int)*a)+(3:Int))).toNat))))else gd (bK (a-2))<|gd (0<=(a-2)/\(a-2)<64)<|gd (0<=(a-2)/\(a-2)<64)<|gd (bK (a-15))<|gd (0<=(a-15)/\(a-15)<64)<|gd (0<=(a-15)/\(a-15)<64)<|(XL fu (el b (a-2)) 17).bind λh=>(XL fu (el b (a-2)) 19).bind λg=>(XL fu (el b (a-15)) 7).bind λf=>(XL fu (el b (a-15)) 18).bind λe=>gd (bK (a-7))<|gd (0<=(a-7)/\(a-7)<64)<|gd (0<=(a-7)/\(a-7)<64)<|gd (bK (a-16))<|gd (0<=(a-16)/\(a-16)<64)<|gd (0<=(a-16)/\(a-16)<64)<|gd (0<=a/\a<64)<|gd (0<=a/\a<64)<|gd (bK (a+1))<|d (a+1) (Gm 64 b a (fD .u32 ((fD .u32 ((fD .u32 ((cU .u32 (cU .u32 h g) ((el b (a-2))/1024))+(el b (a-7))))+(cU .u32 (cU .u32 f e) ((el b (a-15))/8))))+(el b (a-16))))))else θ b)
def asi(fu:Nat)(d:δ ζ):Nat->Int->(δ Int)->ε (δ Int):=λc b a=>bJ (λg v=>awz fu d (λb a=>g (b,a)) v.1 v.2) c (b,a)
variable{p:δ Int}
theorem tH:asi a f (b+1) c p=awz a f (asi a f b) c p:=rfl
def awy(fu:Nat)(f:δ Int)(j:Int->(δ Int)->ε (δ Int))(b:Int)(a:δ Int):ε (δ Int):=
 (if b<64 then(gd (0<=(0:Int)/\0<(8:Int))<|gd (0<=(0:Int)/\0<(8:Int))<|gd (0<=(1:Int)/\1<(8:Int))<|gd (0<=(1:Int)/\1<(8:Int))<|gd (0<=(2:Int)/\2<(8:Int))<|gd (0<=(2:Int)/\2<(8:Int))<|gd (0<=(4:Int)/\4<(8:Int))<|gd (0<=(4:Int)/\4<(8:Int))<|(XL fu (el a 4) 6).bind λe=>(XL fu (el a 4) 11).bind λd=>(XL fu (el a 4) 25).bind λc=>(XL fu (el a 0) 2).bind λi=>(XL fu (el a 0) 13).bind λh=>(XL fu (el a 0) 22).bind λg=>gd (0<=(7:Int)/\7<(8:Int))<|gd (0<=(7:Int)/\7<(8:Int))<|gd (0<=(5:Int)/\5<(8:Int))<|gd (0<=(5:Int)/\5<(8:Int))<|gd (0<=(6:Int)/\6<(8:Int))<|gd (0<=(6:Int)/\(6:Int)<(8:Int))<|gd (0<=b/\b<(64:Int))<|gd (0<=b/\b<(γ Jd:Int))<|gd (0<=b/\b<(64:Int))<|gd (0<=b/\b<(64:Int))<|gd (0<=(3:Int)/\(3:Int)<(8:Int))<|gd (0<=(3:Int)/\(3:Int)<(8:Int))<|gd (0<=(5:Int)/\(5:Int)<(8:Int))<|gd (0<=(5:Int)/\(5:Int)<(8:Int))<|gd (0<=(6:Int)/\(6:Int)<(8:Int))<|gd (0<=(6:Int)/\(6:Int)<(8:Int))<|gd (bK (b+(1:Int)))<|j (b+(1:Int)) ([fD .u32 ((fD .u32 ((fD .u32 ((fD .u32 ((fD .u32 ((el a (7:Int))+(cU .u32 (cU .u32 e d) c)))+(cU .u32 (fM .u32 (el a (4:Int)) (el a (5:Int))) (fM .u32 (cU .u32 4294967295 (el a (4:Int))) (el a (6:Int))))))+(el Jd b)))+(el f b)))+(fD .u32 ((cU .u32 (cU .u32 i h) g)+(cU .u32 (cU .u32 (fM .u32 (el a (0:Int)) (el a (1:Int))) (fM .u32 (el a (0:Int)) (el a (2:Int)))) (fM .u32 (el a (1:Int)) (el a (2:Int))))))),el a (0:Int),el a (1:Int),el a (2:Int),fD .u32 ((el a (3:Int))+(fD .u32 ((fD .u32 ((fD .u32 ((fD .u32 ((el a (7:Int))+(cU .u32 (cU .u32 e d) c)))+(cU .u32 (fM .u32 (el a (4:Int)) (el a (5:Int))) (fM .u32 (cU .u32 4294967295 (el a (4:Int))) (el a (6:Int))))))+(el Jd b)))+(el f b)))),el a (4:Int),el a (5:Int),el a (6:Int)]:δ Int))else θ a)
def ash(fu:Nat)(d:δ Int):Nat->Int->(δ Int)->ε (δ Int):=λc b a=>bJ (λg v=>awy fu d (λb a=>g (b,a)) v.1 v.2) c (b,a)
variable{v:δ Int}
theorem tG:ash a p (b+1) c v=awy a p (ash a p b) c v:=rfl
def awx(fu:Nat)(d:δ Int)(c:Int->(δ Int)->ε (δ Int))(a:Int)(b:δ Int):ε (δ Int):=
 (if a<8 then(gd (0<=a/\a<8)<|gd (0<=a/\a<8)<|gd (0<=a/\a<8)<|gd (0<=a/\a<8)<|gd (0<=a/\a<8)<|gd (0<=a/\a<8)<|gd (bK (a+1))<|c (a+1) (Gm 8 b a (fD .u32 ((el b a)+(el d a)))))else θ b)
def asf(fu:Nat)(d:δ Int):Nat->Int->(δ Int)->ε (δ Int):=λc b a=>bJ (λg v=>awx fu d (λb a=>g (b,a)) v.1 v.2) c (b,a)
theorem tF:asf a p (b+1) c v=awx a p (asf a p b) c v:=rfl
def bfo(fu:Nat)(a:δ Int)(e:δ ζ):ε (δ Int):=
 ((asi fu e fu 0 (jM 64 0)).bind λd=>(ash fu d fu 0 a).bind λc=>(asf fu c fu 0 a).bind λb=>θ b)
def bbm(fu:Nat)(s:((δ Int)×Int×(δ ζ)))(g:δ ζ)(f:(δ ζ)->Int->(δ Int)->(δ ζ)->ε ((δ Int)×Int×(δ ζ)))(b:δ ζ)(a:Int)(d:δ Int)(c:δ ζ):ε ((δ Int)×Int×(δ ζ)):=
 (gd (0<=a/\a<64)<|gd (bK (a+(Ν (γ b) (64-(bR a)))))<|gd (0<=((Ν (γ b) (64-(bR a)):Nat):Int)/\(Ν (γ b) (64-(bR a)))<=(γ b:Int))<|if(a+(Ν (γ b) (64-(bR a))))<64 then θ (d,fD .u64 (s.2.1+(fD .u64 (γ g))),jJ 64 c (bR a) (eP (64-(bR a)) b))else(bfo fu d (jJ 64 c (bR a) (eP (64-(bR a)) b))).bind λe=>f (dG (bR (Ν (γ b) (64-(bR a)))) b) 0 e (jM 64 0))
def ayv(fu:Nat)(s:((δ Int)×Int×(δ ζ)))(f:δ ζ):Nat->(δ ζ)->Int->(δ Int)->(δ ζ)->ε ((δ Int)×Int×(δ ζ)):=λe d c b a=>bJ (λg v=>bbm fu s f (λd c b a=>g (d,c,b,a)) v.1 v.2.1 v.2.2.1 v.2.2.2) e (d,c,b,a)
variable{k:((δ Int)×Int×(δ ζ))}{u:δ ζ}
theorem Bl{d:δ ζ}:ayv a k f (b+1) u c p d=bbm a k f (ayv a k f b) u c p d:=rfl
def bik(fu:Nat)(s:((δ Int)×Int×(δ ζ)))(a:δ ζ):ε ((δ Int)×Int×(δ ζ)):=
 (gd ((0<=s.2.1/\0<(64:Int))/\fD .u64 (s.2.1%64)=s.2.1%64)<|gd (0<=(fD .i64 (s.2.1%64))/\(fD .i64 (s.2.1%64))<=64)<|gd (0<=(fD .i64 (s.2.1%64))/\(fD .i64 (s.2.1%64))<=64)<|ayv fu s a fu a (fD .i64 (s.2.1%64)) s.1 (jJ 64 (jM 64 0) 0 (eP (bR (fD .i64 (s.2.1%64))) (eP (bR (fD .i64 (s.2.1%64))) (dG 0 (xK 64 s.2.2))))))
def ayu(fu:Nat)(s:((δ Int)×Int×(δ ζ)))(c:(δ ζ)->Int->ε (δ ζ))(b:δ ζ)(a:Int):ε (δ ζ):=
 (if a<8 then(gd (bK (1+((119-(fD .i64 (s.2.1%64)))%64)))<|gd (bK ((1+((119-(fD .i64 (s.2.1%64)))%64))+a))<|gd (bK (8*a))<|gd (bK (56-(8*a)))<|gd (0<=(56-(8*a)))<|gd (0<=((1+((119-(fD .i64 (s.2.1%64)))%64))+a)/\((1+((119-(fD .i64 (s.2.1%64)))%64))+a)<γ b)<|gd (0<=((1+((119-(fD .i64 (s.2.1%64)))%64))+a)/\((1+((119-(fD .i64 (s.2.1%64)))%64))+a)<γ b)<|gd (bK (a+1))<|c (Ξ b (bR ((1+((119-(fD .i64 (s.2.1%64)))%64))+a)) (AH ((fD .u64 (8*s.2.1))/((2^(min (bR ((56:Int)-((8:Int)*a))) (IntKind.bits .u64)):Nat))))) (a+1))else θ b)
def auo(fu:Nat)(s:((δ Int)×Int×(δ ζ))):Nat->(δ ζ)->Int->ε (δ ζ):=λc b a=>bJ (λg v=>ayu fu s (λb a=>g (b,a)) v.1 v.2) c (b,a)
theorem vI:auo a k (b+1) f c=ayu a k (auo a k b) f c:=rfl
def ayt(fu:Nat)(d:((δ Int)×Int×(δ ζ)))(c:Int->(δ ζ)->ε (δ ζ))(a:Int)(b:δ ζ):ε (δ ζ):=
 (if a<32 then(gd (0<=a/\0<(4:Int)/\bK (a))<|gd (0<=(a/4)/\(a/4)<8)<|gd (0<=(a/4)/\(a/4)<8)<|gd (0<=a/\0<(4:Int)/\bK (a))<|gd (bK (8*(a%4)))<|gd (bK (24-(8*(a%4))))<|gd (0<=(24-(8*(a%4))))<|gd (0<=a/\a<32)<|gd (0<=a/\a<32)<|gd (bK (a+1))<|c (a+1) (SI 32 b a (AH ((el d.1 (a/4))/((2^(min (bR ((24:Int)-((8:Int)*(a%(4:Int))))) (IntKind.bits .u32)):Nat))))))else θ b)
def aun(fu:Nat)(d:((δ Int)×Int×(δ ζ))):Nat->Int->(δ ζ)->ε (δ ζ):=λc b a=>bJ (λg v=>ayt fu d (λb a=>g (b,a)) v.1 v.2) c (b,a)
theorem vH:aun a k (b+1) c f=ayt a k (aun a k b) c f:=rfl
def bij(fu:Nat)(s:((δ Int)×Int×(δ ζ))):ε (δ ζ):=
 (gd ((0<=s.2.1/\0<(64:Int))/\fD .u64 (s.2.1%64)=s.2.1%64)<|gd (bK (119-(fD .i64 (s.2.1%64))))<|gd (0<=(119-(fD .i64 (s.2.1%64)))/\0<(64:Int)/\bK (119-(fD .i64 (s.2.1%64))))<|gd (bK (1+((119-(fD .i64 (s.2.1%64)))%64)))<|gd (bK ((1+((119-(fD .i64 (s.2.1%64)))%64))+8))<|@gd _ (0<=((1+((119-(fD .i64 (s.2.1%64)))%64))+8)/\1*((1+((119-(fD .i64 (s.2.1%64)))%64))+8)<=281474976710656) (dMk 1 ((1+((119-(fD .i64 (s.2.1%64)))%64))+8))<|gd (0<=(0:Int)/\0<(γ (jM (bR (((1:Int)+(((119:Int)-(fD .i64 (s.2.1%(64:Int))))%(64:Int)))+(8:Int))) (0:ζ)):Int))<|gd (0<=(0:Int)/\0<(γ (jM (bR (((1:Int)+(((119:Int)-(fD .i64 (s.2.1%(64:Int))))%(64:Int)))+(8:Int))) (0:ζ)):Int))<|(auo fu s fu (Ξ (jM (bR ((1+((119-(fD .i64 (s.2.1%64)))%64))+8)) 0) (bR 0) 128) 0).bind λc=>(bik fu s c).bind λb=>(aun fu b fu 0 (jM 32 0)).bind λa=>θ a)
def xZ(fu:Nat)(d:δ ζ):ε (δ ζ):=
 ((oX fu).bind λb=>(bik fu b d).bind λa=>(bij fu a).bind λc=>θ c)
open Go.Lib renaming indexAny → Bu, itoa → iS
def bdu(fu:Nat)(b:δ ζ)(d:(δ ζ)->Int->ε (δ ζ))(c:δ ζ)(a:Int):ε (δ ζ):=
 (if a<γ b then(gd (0<=a/\a<γ b)<|gd (0<=a/\a<γ b)<|gd (0<=((mO (Υ b a) (4:Int)).toNat:Int)/\((mO (Υ b a) 4).toNat)<(γ ([48,49,50,51,52,53,54,55,56,57,97,98,99,100,101,102]:aC):Int))<|gd (0<=(((Υ b a)&&&(15:ζ)).toNat:Int)/\(((Υ b a)&&&15).toNat)<(γ ([48,49,50,51,52,53,54,55,56,57,97,98,99,100,101,102]:aC):Int))<|gd ((γ c+γ ([Υ ([48,49,50,51,52,53,54,55,56,57,97,98,99,100,101,102]) ((mO (Υ b a) (4:Int)).toNat:Int),Υ ([48,49,50,51,52,53,54,55,56,57,97,98,99,100,101,102]) (((Υ b a)&&&(15:ζ)).toNat:Int)]))*1<=140737488355328)<|gd (bK (a+1))<|d (c++([Υ ([48,49,50,51,52,53,54,55,56,57,97,98,99,100,101,102]) ((mO (Υ b a) 4).toNat),Υ ([48,49,50,51,52,53,54,55,56,57,97,98,99,100,101,102]) (((Υ b a)&&&15).toNat)])) (a+1))else θ c)
def bai(fu:Nat)(d:δ ζ):Nat->(δ ζ)->Int->ε (δ ζ):=λc b a=>bJ (λg v=>bdu fu d (λb a=>g (b,a)) v.1 v.2) c (b,a)
theorem Ew:bai a f (b+1) u c=bdu a f (bai a f b) u c:=rfl
def yA(fu:Nat)(a:δ ζ):ε aC:=
 (gd (bK (2*γ a))<|@gd _ (0<=(2*(γ a:Int))/\1*(2*(γ a:Int))<=281474976710656) (dMk 1 (2*γ a))<|(bai fu a fu [] 0).bind λb=>θ b)
def bii(fu:Nat)(s:aC):ε aC:=
 ((xZ fu s).bind λa=>(yA fu (eP 32 (dG 0 (xK 32 a)))).bind λb=>θ b)
def xY(fu:Nat)(b:δ aC)(e:Int->Unit->(δ ζ)->ε (Unit×(δ ζ)))(a:Int)(f:Unit)(c:δ ζ):ε (Unit×(δ ζ)):=
 (if a<(γ b:Int)then(gd (0<=a/\a<(γ b:Int))<|gd (0<=a/\a<(γ b:Int))<|(alc fu (el b a) ((),c)).bind λ(d:(Unit×(δ ζ)))=>gd (bK (a+1))<|e (a+1) () d.2)else θ ((),c))
def Bi(fu:Nat)(e:δ aC):Nat->Int->Unit->(δ ζ)->ε (Unit×(δ ζ)):=λd c b a=>bJ (λ(g:(Int×Unit×(δ ζ))->ε (Unit×(δ ζ))) v=>xY fu e (λc b a=>g (c,b,a)) v.1 v.2.1 v.2.2) d (c,b,a)
def bic(fu:Nat)(m_0:(aC×aC×Int×aC×(δ (aC×aC))×(δ ζ))):ε aC:=
 ((ata fu ([67,83,101,113]:aC) m_0).bind λ(e:aC)=>(wF fu e).bind λ(d:(Int×aC×ζ))=>(if d.2.2=0 then θ d.1 else θ (0:Int)).bind λ(c:Int)=>(alc fu m_0.2.1 ((),([]:δ ζ))).bind λ(p:(Unit×(δ ζ)))=>(ata fu ([67,97,108,108,45,73,68]:aC) m_0).bind λ(o:aC)=>(alc fu o ((),p.2)).bind λ(n:(Unit×(δ ζ)))=>(ata fu ([70,114,111,109]:aC) m_0).bind λ(m:aC)=>(oV fu m).bind λ(l:aC)=>(alc fu l ((),n.2)).bind λ(k:(Unit×(δ ζ)))=>(ata fu ([84,111]:aC) m_0).bind λ(j:aC)=>(oV fu j).bind λ(i:aC)=>(alc fu i ((),k.2)).bind λ(h:(Unit×(δ ζ)))=>gd (bK c)<|(alc fu (iS c) ((),h.2)).bind λ(g:(Unit×(δ ζ)))=>((ju fu m_0 ([82,111,117,116,101]:aC)).bind λ(f:δ aC)=>Bi fu f fu (0:Int) () g.2).bind λ(b:(Unit×(δ ζ)))=>gd (γ b.2<=140737488355328)<|(bii fu b.2).bind λ(a:aC)=>gd (0<=(min (16:Int) (γ a:Int))/\(min (16:Int) (γ a:Int))<=(γ a:Int))<|some (eP (bR (min (16:Int) (γ a:Int))) a))
def ati(fu:Nat)(s:aC)(d:aC->Int->ε aC)(b:aC)(a:Int):ε aC:=
 (if a<γ s then(gd (0<=a/\a<γ b)<|gd (0<=a/\a<γ b)<|(ayq fu (Υ b a)).bind λc=>gd (0<=a/\a<γ b)<|gd (0<=a/\a<γ b)<|gd (bK (a+1))<|d (Ξ b (bR a) c) (a+1))else θ b)
def aum(fu:Nat)(s:aC):Nat->aC->Int->ε aC:=λc b a=>bJ (λg v=>ati fu s (λb a=>g (b,a)) v.1 v.2) c (b,a)
def aek(fu:Nat)(s:aC):ε aC:=
 ((aum fu s fu s 0).bind λa=>θ a)
def nT(fu:Nat)(s:aC):ε PQ:=
 (gd (γ s<=1000000000)<|(if(fP (·==58) s)<0 then θ μ else gd (0<=(fP (·==58) s)/\(fP (·==58) s)<=γ s)<|gd (γ (eP (bR (fP (·==58) s)) s)<=1000000000)<|bif (Lib.contains (eP (bR (fP (·==58) s)) s) [91])then(gd (0<=(fP (·==58) s)/\(fP (·==58) s)<=γ s)<|gd (γ (dG (bR (fP (·==58) s)) s)<=1000000000)<|some (Lib.contains (dG (bR (fP (·==58) s)) s) [93]))else θ ν).bind λa=>bif a then θ (s,[],ν)else ι)
def Bk(fu:Nat)(m:aC):ε ((aC×aC×Int×aC×LQ)×ζ):=
 ((aqg fu m).bind λa=>(if γ a<(8:Int)then θ μ else gd (0<=(8:Int)/\8<=(γ a:Int))<|(aek fu (eP (bR 8) a)).bind λl=>θ (!decide (l=([83,73,80,47,50,46,48,47])))).bind λk=>bif k then ι else(ajq fu a 8).bind λd=>(anl fu a d).bind λc=>(if d=8 then θ μ else θ (decide (c=d))).bind λj=>bif j then ι else gd (0<=(8:Int)/\8<=d/\d<=γ a)<|(aek fu (sub a 8 d)).bind λi=>gd (0<=c/\c<=γ a)<|gd (γ (dG (bR c) a)<=1000000000/\γ ([59,32,9]:aC)<=1000/\([59,32,9]:aC).all (λb=>decide (b.toNat<128))=μ)<|if 0<=(Bu (dG (bR c) a) ([59,32,9]))then(gd (0<=(Bu (dG (bR c) a) ([59,32,9]))/\(Bu (dG (bR c) a) ([59,32,9]))<=(γ (dG (bR c) a)))<|gd (0<=(Bu (dG (bR c) a) ([59,32,9]))/\(Bu (dG (bR c) a) ([59,32,9]))<=(γ (dG (bR c) a)))<|(nT fu (eP (bR (Bu (dG (bR c) a) ([59,32,9]))) (dG (bR c) a))).bind λg=>(XO fu g.1).bind λf=>bif (!f.2)then ι else bif g.2.2 then ι else(awg fu (dG (bR (Bu (dG (bR c) a) ([59,32,9]))) (dG (bR c) a))).bind λe=>if e.2.2=0 then((bcm fu e.1 ([98,114,97,110,99,104])).bind λh=>θ ((i,f.1,0,h.1,e.1),0))else ι)else ι)
def aop(fu:Nat)(b:aC)(c:Int):ε aC:=
 ((if c=0 then θ 5060 else θ c).bind λa=>gd (γ b+γ ([58]:aC)<=9223372036854775807)<|gd (bK a)<|gd (γ (b++[58])+γ (iS a)<=9223372036854775807)<|some ((b++[58])++(iS a)))
def anq(fu:Nat)(s:aC)(a:aC):ε η:=
 ((if γ a<=(γ s:Int)then(gd (bK (γ s-γ a))<|gd (0<=(γ s-(γ a:Int))/\(γ s-γ a)<=(γ s:Int))<|some (decide ((dG (bR (γ s-γ a)) s)=a)))else θ ν).bind λb=>θ b)
def bdh(fu:Nat)(s:aC)(b:aC):ε η:=
 ((anq fu s b).bind λa=>θ a)
def tC(fu:Nat)(i:aC)(d:aC)(c:δ aC)(h:Int->ε (Unit⊕η))(a:Int):ε (Unit⊕η):=
 (if a<(γ c:Int)then(gd (0<=a/\a<(γ c:Int))<|gd (0<=a/\a<(γ c:Int))<|(Bk fu (el c a)).bind λ(b:((aC×aC×Int×aC×LQ)×ζ))=>(if b.2=0 then((aop fu b.1.2.1 b.1.2.2.1).bind λ(g:aC)=>if g=i then((bdh fu b.1.2.2.2.1 (([46]:aC)++d)).bind λ(f:η)=>θ f)else θ ν)else θ ν).bind λ(e:η)=>bif e then θ (.inr μ)else gd (bK (a+1))<|h (a+1))else θ (.inl ()))
def vD(fu:Nat)(e:aC)(b:aC)(d:δ aC):Nat->Int->ε (Unit⊕η):=λc a=>bJ (λ(g:Int->ε (Unit⊕η)) v=>tC fu e b d (λa=>g a) v) c a
def pQ(fu:Nat)(m_0:(aC×aC×Int×aC×(δ (aC×aC))×(δ ζ)))(d:aC):ε η:=
 ((bic fu m_0).bind λ(a:aC)=>gd (γ ([46]:aC)+γ a<=9223372036854775807)<|(ju fu m_0 ([86,105,97]:aC)).bind λ(c:δ aC)=>(vD fu d a c fu (0:Int)).bind λ(b:(Unit⊕η))=>dQ (λ(e:Unit)=>θ ν) (λq=>θ q) b)
def bbl(fu:Nat)(a:aC)(c:(aC×aC×Int×aC×(δ (aC×aC))×(δ ζ))):ε aC:=
 (gd (γ ([122,57,104,71,52,98,75]:aC)+γ a<=9223372036854775807)<|gd (γ (([122,57,104,71,52,98,75])++a)+γ ([46]:aC)<=9223372036854775807)<|(bic fu c).bind λb=>gd (γ ((([122,57,104,71,52,98,75])++a)++[46])+γ b<=9223372036854775807)<|some (((([122,57,104,71,52,98,75]:aC)++a)++([46]:aC))++b))
def asz(fu:Nat)(s:LQ):ε LQ:=
 θ s
def acv(fu:Nat)(b:PQ)(a:LQ):ε (Nat×LQ):=
 (gd ((γ a+[b].length)*40<=140737488355328)<|some (0,a++[b]))
def abh(fu:Nat)(b:LQ)(e:Int->LQ->ε (LQ×Nat))(a:Int)(d:LQ):ε (LQ×Nat):=
 (if a<γ b then(gd (0<=a/\a<γ b)<|gd (0<=a/\a<γ b)<|(acv fu ((el b a).1,(el b a).2.1,((el b a).2.2)) d).bind λc=>if c.1=0 then(gd (bK (a+1))<|e (a+1) c.2)else θ (c.2,c.1))else θ (d,0))
def aas(fu:Nat)(d:LQ):Nat->Int->LQ->ε (LQ×Nat):=λc b a=>bJ (λg v=>abh fu d (λb a=>g (b,a)) v.1 v.2) c (b,a)
variable{s:LQ}
theorem agc:aas a m (b+1) c s=abh a m (aas a m b) c s:=rfl
def abq(fu:Nat)(b:LQ)(a:LQ):ε (LQ×Nat):=
 (aas fu a fu 0 b)
def afw(fu:Nat)(s:LQ)(b:LQ):ε LQ:=
 ((abq fu s b).bind λa=>if a.2=0 then θ a.1 else ι)
def aha(fu:Nat)(b:LQ):ε LQ:=
 ((afw fu [] b).bind λa=>θ a)
def Bj(fu:Nat)(c:PQ)(b:PQ):ε Int:=
 ((aod fu c.1 b.1).bind λa=>θ a)
def alb:=aan
def apk:=acd
def adp:=abf
open Go.Lib renaming itoa → iS
open List renaming replicate → jM, take → eP
def abx(fu:Nat)(c:LQ):ε LQ:=
 ((aha fu c).bind λb=>(adp fu b).bind λa=>θ a)
def ayr(fu:Nat)(a:LQ):ε LQ:=
 ((asz fu a).bind λc=>(abx fu a).bind λb=>θ b)
def bea(fu:Nat)(b:LQ)(m:Int->Unit->(δ ζ)->ε (Unit×(δ ζ)))(a:Int)(n:Unit)(d:δ ζ):ε (Unit×(δ ζ)):=
 (if a<γ b then(gd (0<=a/\a<γ b)<|gd (0<=a/\a<γ b)<|((zw fu ((el b a).1)).bind λl=>bif (!l)then θ μ else(WG fu ((el b a).1)).bind λk=>if((el b a).1)=k then(gd (0<=a/\a<=γ b)<|(apf fu (eP (bR a) b) ((el b a).1)).bind λj=>θ j)else θ μ).bind λi=>bif i then ι else gd (γ ([59]:aC)+γ ((el b a).1)<=9223372036854775807)<|(AN fu ((),d) (([59]:aC)++((el b a).1))).bind λh=>bif (!((el b a).2.2))then ι else(XO fu ((el b a).2.1)).bind λc=>((zw fu ((el b a).2.1)).bind λg=>bif (!g)then(bif c.2 then(if c.1=((el b a).2.1)then(gd (0<=(0:Int)/\0<(γ ((el b a).2.1):Int))<|some (!decide ((Υ ((el b a).2.1) 0)=91)))else θ μ)else θ μ)else θ ν).bind λf=>bif f then ι else gd (γ ([61]:aC)+γ ((el b a).2.1)<=9223372036854775807)<|(AN fu ((),h.2.2.2) (([61]:aC)++((el b a).2.1))).bind λe=>gd (bK (a+1))<|m (a+1) () e.2.2.2)else θ ((),d))
def bfp(fu:Nat)(e:LQ):Nat->Int->Unit->(δ ζ)->ε (Unit×(δ ζ)):=λd c b a=>bJ (λg v=>bea fu e (λc b a=>g (c,b,a)) v.1 v.2.1 v.2.2) d (c,b,a)
def bay(fu:Nat)(b:LQ):ε (aC×ζ):=
 (if 16<(γ b:Int)then ι else(bfp fu b fu 0 () []).bind λa=>gd (γ a.2<=140737488355328)<|some (a.2,0))
def oW(fu:Nat)(b:(aC×aC×Int×aC×LQ))(d:LQ->Int->ε LQ)(c:LQ)(a:Int):ε LQ:=
 (if a<γ b.2.2.2.2 then(gd (0<=a/\a<γ b.2.2.2.2)<|gd (0<=a/\a<γ b.2.2.2.2)<|if((el b.2.2.2.2 a).1)=([98,114,97,110,99,104])then(gd (bK (a+1))<|d c (a+1))else gd ((γ c+γ ([((el b.2.2.2.2 a).1,(el b.2.2.2.2 a).2.1,((el b.2.2.2.2 a).2.2))]))*40<=140737488355328)<|gd (bK (a+1))<|d (c++([((el b.2.2.2.2 a).1,(el b.2.2.2.2 a).2.1,((el b.2.2.2.2 a).2.2))])) (a+1))else θ c)
def qI(fu:Nat)(d:(aC×aC×Int×aC×LQ)):Nat->LQ->Int->ε LQ:=λc b a=>bJ (λg v=>oW fu d (λb a=>g (b,a)) v.1 v.2) c (b,a)
def bgw(fu:Nat)(a:(aC×aC×Int×aC×LQ)):ε (aC×ζ):=
 ((XO fu a.2.1).bind λc=>(bif (!c.2)then θ μ else(zw fu a.1).bind λj=>bif (!j)then θ μ else if a.2.2.1<0 then θ μ else θ (decide (65535<a.2.2.1))).bind λi=>bif i then θ ([],2)else(qI fu a fu [] 0).bind λf=>(if a.2.2.2.1=[]then θ f else gd ((γ f+γ ([(([98,114,97,110,99,104]),a.2.2.2.1,μ)]:LQ))*40<=140737488355328)<|some (f++([(([98,114,97,110,99,104]),a.2.2.2.1,μ)]:LQ))).bind λh=>(ayr fu h).bind λg=>(bay fu g).bind λe=>if e.2=0 then((if a.2.2.1=0 then θ c.1 else gd (bK a.2.2.1)<|gd (γ ([58]:aC)+γ (iS a.2.2.1)<=9223372036854775807)<|gd (γ c.1+γ ([58]++(iS a.2.2.1))<=9223372036854775807)<|some (c.1++([58]++(iS a.2.2.1)))).bind λd=>(aek fu a.1).bind λb=>gd (γ ([83,73,80,47,50,46,48,47]:aC)+γ b<=9223372036854775807)<|gd (γ (([83,73,80,47,50,46,48,47])++b)+γ ([32]:aC)<=9223372036854775807)<|gd (γ ((([83,73,80,47,50,46,48,47])++b)++[32])+γ d<=9223372036854775807)<|gd (γ (((([83,73,80,47,50,46,48,47])++b)++[32])++d)+γ e.1<=9223372036854775807)<|some ((((([83,73,80,47,50,46,48,47]:aC)++b)++([32]:aC))++d)++e.1,0))else θ ([],2))
def alx(fu:Nat)(m_0:(aC×aC×Int×aC×(δ (aC×aC))×(δ ζ))):ε (aC×aC×Int×aC×(δ (aC×aC))×(δ ζ)):=
 (gd ((0+γ m_0.2.2.2.2.1)*32<=140737488355328)<|gd ((0+γ m_0.2.2.2.2.2)*1<=140737488355328)<|some m_0)
def aqv(fu:Nat)(m_0:(aC×aC×Int×aC×(δ (aC×aC))×(δ ζ))):ε (aC×aC×Int×aC×(δ (aC×aC))×(δ ζ)):=
 (@gd _ (0<=(γ m_0.2.2.2.2.1:Int)/\32*(γ m_0.2.2.2.2.1:Int)<=281474976710656) (dMk 32 (γ m_0.2.2.2.2.1))<|gd ((0+γ m_0.2.2.2.2.2)*1<=140737488355328)<|some (m_0.1,m_0.2.1,m_0.2.2.1,m_0.2.2.2.1,XE (jM (bR (γ m_0.2.2.2.2.1)) ([],[])) m_0.2.2.2.2.1,m_0.2.2.2.2.2))
def abe(fu:Nat)(g:ζ)(f:aC)(d:(δ (aC×aC))->Int->Int->ε ((δ (aC×aC))×Int))(b:δ (aC×aC))(c:Int)(a:Int):ε ((δ (aC×aC))×Int):=
 (if a<γ b then(gd (0<=a/\a<γ b)<|gd (0<=a/\a<γ b)<|(agv fu (el b a) g f).bind λe=>bif (!e)then(gd (0<=c/\c<γ b)<|gd (0<=c/\c<γ b)<|gd (bK (c+1))<|gd (bK (a+1))<|d (Ξ b (bR c) (el b a)) (c+1) (a+1))else gd (bK (a+1))<|d b c (a+1))else θ (b,c))
def aau(fu:Nat)(f:ζ)(e:aC):Nat->(δ (aC×aC))->Int->Int->ε ((δ (aC×aC))×Int):=λd c b a=>bJ (λg v=>abe fu f e (λc b a=>g (c,b,a)) v.1 v.2.1 v.2.2) d (c,b,a)
theorem acw:aau a l d (b+1) j c g=abe a l d (aau a l d b) j c g:=rfl
def abt(fu:Nat)(s:δ (aC×aC))(d:ζ)(c:aC):ε (δ (aC×aC)):=
 ((xd fu s d c).bind λb=>if b=(-1)then θ s else(gd (bK (b+1))<|aau fu d c fu s b (b+1)).bind λa=>gd (0<=a.2/\a.2<=γ a.1)<|gd (0<=a.2/\a.2<=(γ (XF a.1 (bR a.2) ([],[]))))<|some (eP (bR a.2) (XF a.1 (bR a.2) ([],[]))))
def anj(fu:Nat)(m_0:(aC×aC×Int×aC×(δ (aC×aC))×(δ ζ)))(d:aC):ε (aC×aC×Int×aC×(δ (aC×aC))×(δ ζ)):=
 ((aqv fu m_0).bind λa=>(ly fu d).bind λb=>(abt fu a.2.2.2.2.1 b.1 b.2).bind λc=>θ (a.1,a.2.1,a.2.2.1,a.2.2.2.1,c,a.2.2.2.2.2))
def arb(fu:Nat)(b:aC):ε aC:=
 ((zz fu b).bind λa=>if a.2=0 then θ a.1 else θ b)
def bci(fu:Nat)(m_0:(aC×aC×Int×aC×(δ (aC×aC))×(δ ζ)))(c:aC)(f:aC):ε (aC×aC×Int×aC×(δ (aC×aC))×(δ ζ)):=
 ((ly fu c).bind λd=>(xd fu m_0.2.2.2.2.1 d.1 d.2).bind λb=>(anj fu m_0 c).bind λa=>if b<0 then ι else(arb fu c).bind λe=>gd (0<=b/\b<=γ a.2.2.2.2.1/\(γ a.2.2.2.2.1+1)*32<=140737488355328)<|some (a.1,a.2.1,a.2.2.1,a.2.2.2.1,nE a.2.2.2.2.1 b (e,f),a.2.2.2.2.2))
open Go.Lib renaming hasPrefix → Jg, itoa → iS, trimPrefix → jT
def akl(fu:Nat)(m_0:(aC×aC×Int×aC×(δ (aC×aC))×(δ ζ)))(d:aC)(f:aC):ε (aC×aC×Int×aC×(δ (aC×aC))×(δ ζ)):=
 ((ly fu d).bind λc=>(xd fu m_0.2.2.2.2.1 c.1 c.2).bind λb=>(aqv fu m_0).bind λa=>(arb fu d).bind λe=>gd (0<=(max b 0)/\(max b 0)<=γ a.2.2.2.2.1/\(γ a.2.2.2.2.1+1)*32<=140737488355328)<|some (a.1,a.2.1,a.2.2.1,a.2.2.2.1,nE a.2.2.2.2.1 (max b 0) (e,f),a.2.2.2.2.2))
def ajx(fu:Nat)(s:aC)(c:Int->ε (Unit⊕η))(a:Int):ε (Unit⊕η):=
 (if a<γ s then(gd (0<=a/\a<γ s)<|(aur fu (Υ s a)).bind λb=>bif b then θ (.inr ν)else gd (bK (a+1))<|c (a+1))else θ (.inl ()))
def aqk(fu:Nat)(s:aC):Nat->Int->ε (Unit⊕η):=λb a=>bJ (λg v=>ajx fu s (λa=>g a) v) b a
theorem atj:aqk a d (b+1) c=ajx a d (aqk a d b) c:=rfl
def apg(fu:Nat)(s:aC):ε η:=
 ((aqk fu s fu 0).bind λa=>dQ (λb=>θ μ) (λq=>θ q) a)
def aiy(fu:Nat)(s:aC)(d:Int->ε (Unit⊕η))(a:Int):ε (Unit⊕η):=
 (if a<(γ (jT s [43]))then(gd (0<=a/\a<(γ (jT s [43])))<|((XP fu (Υ (jT s [43]) a)).bind λc=>bif (!c)then(bif (Jg s [43])then θ μ else if(Υ (jT s [43]) a)=42 then θ ν else θ (!decide ((Υ (jT s [43]) a)=35)))else θ ν).bind λb=>bif b then θ (.inr ν)else gd (bK (a+1))<|d (a+1))else θ (.inl ()))
def aof(fu:Nat)(s:aC):Nat->Int->ε (Unit⊕η):=λb a=>bJ (λg v=>aiy fu s (λa=>g a) v) b a
theorem arf:aof a d (b+1) c=aiy a d (aof a d b) c:=rfl
def awf(fu:Nat)(s:aC):ε η:=
 ((if(jT s [43])=[]then θ μ else θ (decide (30<(γ (jT s [43]):Int)))).bind λa=>bif a then θ ν else(aof fu s fu 0).bind λb=>dQ (λc=>θ μ) (λq=>θ q) b)
def amx(fu:Nat)(b:LQ)(e:Int)(k:LQ->Int->ε (LQ⊕(LQ×η)))(d:LQ)(a:Int):ε (LQ⊕(LQ×η)):=
 (if a<γ b then(gd (0<=a/\a<γ b)<|gd (0<=a/\a<γ b)<|(WG fu ((el b a).1)).bind λc=>(if c=[]then θ μ else(apg fu c).bind λj=>bif (!j)then θ μ else(apg fu ((el b a).2.1)).bind λi=>bif (!i)then θ μ else(apf fu d c).bind λh=>θ h).bind λg=>bif g then θ (.inr ([],ν))else(if e=2 then(bif (!((el b a).2.2))then θ μ else if e=1 then θ (!(((el b a).2.2)==(!decide (((el b a).2.1)=[]))))else θ ν)else if e=1 then θ (!(((el b a).2.2)==(!decide (((el b a).2.1)=[]))))else θ ν).bind λf=>bif f then θ (.inr ([],ν))else gd ((γ d+γ ([(c,(el b a).2.1,((el b a).2.2))]))*40<=140737488355328)<|gd (bK (a+1))<|k (d++([(c,(el b a).2.1,((el b a).2.2))])) (a+1))else θ (.inl d))
def ajw(fu:Nat)(e:LQ)(d:Int):Nat->LQ->Int->ε (LQ⊕(LQ×η)):=λc b a=>bJ (λg v=>amx fu e d (λb a=>g (b,a)) v.1 v.2) c (b,a)
theorem azg:ajw a m c (b+1) s g=amx a m c (ajw a m c b) s g:=rfl
def aqx(fu:Nat)(a:LQ)(e:Int):ε (LQ×η):=
 (if 16<(γ a:Int)then θ ([],ν)else(ajw fu a e fu [] 0).bind λd=>dQ (λc=>(ahr fu c).bind λb=>θ (b,μ)) (λq=>θ q) d)
def awh(fu:Nat)(a:UQ):ε (UQ×ζ):=
 ((WG fu a.1).bind λb=>((if b=([115,105,112])then θ (decide (b=([115,105,112])))else θ (decide (b=([115,105,112,115])))).bind λj=>bif j then((XO fu a.2.2.1).bind λc=>bif c.2 then(if 0<=a.2.2.2.1 then(if a.2.2.2.1<=65535 then((apg fu a.2.1).bind λi=>θ (i,c.1))else θ (ν,c.1))else θ (ν,c.1))else θ (ν,c.1))else if b=([116,101,108])then(if a.2.2.1=[]then(if a.2.2.2.1=0 then(if γ a.2.2.2.2.2=(0:Int)then((awf fu a.2.1).bind λh=>θ (h,[]))else θ (ν,[]))else θ (ν,[]))else θ (ν,[]))else θ (ν,[])).bind λf=>(aqx fu a.2.2.2.2.1 1).bind λe=>(aqx fu a.2.2.2.2.2 2).bind λd=>(bif (!f.1)then θ μ else bif (!e.2)then θ μ else θ (!d.2)).bind λg=>bif g then θ (([],[],[],0,[],[]),2)else θ ((b,a.2.1,f.2,a.2.2.2.1,e.1,d.1),0))
def anc(fu:Nat)(s:aC)(e:Int)(c:(δ ζ)->Int->ε (δ ζ))(b:δ ζ)(a:Int):ε (δ ζ):=
 (if a<γ s then(gd (0<=a/\a<γ s)<|(ape fu (Υ s a) e).bind λd=>bif d then(gd (0<=a/\a<γ s)<|gd ((γ b+γ ([Υ s a]))*1<=140737488355328)<|gd (bK (a+1))<|c (b++([Υ s a])) (a+1))else gd (0<=a/\a<γ s)<|gd (0<=((mO (Υ s a) 4).toNat:Int)/\((mO (Υ s a) 4).toNat)<(γ ([48,49,50,51,52,53,54,55,56,57,65,66,67,68,69,70]:aC):Int))<|gd (0<=a/\a<γ s)<|gd (0<=(((Υ s a)&&&15).toNat:Int)/\(((Υ s a)&&&15).toNat)<(γ ([48,49,50,51,52,53,54,55,56,57,65,66,67,68,69,70]:aC):Int))<|gd ((γ b+γ ([37,Υ ([48,49,50,51,52,53,54,55,56,57,65,66,67,68,69,70]) ((mO (Υ s a) 4).toNat),Υ ([48,49,50,51,52,53,54,55,56,57,65,66,67,68,69,70]) (((Υ s a)&&&15).toNat)]))*1<=140737488355328)<|gd (bK (a+1))<|c (b++([37,Υ ([48,49,50,51,52,53,54,55,56,57,65,66,67,68,69,70]) ((mO (Υ s a) 4).toNat),Υ ([48,49,50,51,52,53,54,55,56,57,65,66,67,68,69,70]) (((Υ s a)&&&15).toNat)])) (a+1))else θ b)
def ajy(fu:Nat)(s:aC)(d:Int):Nat->(δ ζ)->Int->ε (δ ζ):=λc b a=>bJ (λg v=>anc fu s d (λb a=>g (b,a)) v.1 v.2) c (b,a)
theorem azi:ajy a d c (b+1) f g=anc a d c (ajy a d c b) f g:=rfl
def jw(fu:Nat)(s:aC)(b:Int):ε aC:=
 (@gd _ (0<=(γ s:Int)/\1*(γ s:Int)<=281474976710656) (dMk 1 (γ s))<|(ajy fu s b fu [] 0).bind λa=>θ a)
def aoh(fu:Nat)(b:(UQ×ζ))(g:Int->Unit->(δ ζ)->ε (Unit×(δ ζ)))(a:Int)(i:Unit)(f:δ ζ):ε (Unit×(δ ζ)):=
 (if a<γ b.1.2.2.2.2.1 then(gd (0<=a/\a<γ b.1.2.2.2.2.1)<|gd (0<=a/\a<γ b.1.2.2.2.2.1)<|(jw fu ((el b.1.2.2.2.2.1 a).1) 1).bind λe=>gd (γ ([59]:aC)+γ e<=9223372036854775807)<|(AN fu ((),f) (([59]:aC)++e)).bind λd=>bif ((el b.1.2.2.2.2.1 a).2.2)then((jw fu ((el b.1.2.2.2.2.1 a).2.1) 1).bind λc=>gd (γ ([61]:aC)+γ c<=9223372036854775807)<|(AN fu ((),d.2.2.2) (([61]:aC)++c)).bind λh=>gd (bK (a+1))<|g (a+1) () h.2.2.2)else gd (bK (a+1))<|g (a+1) () d.2.2.2)else θ ((),f))
def aii(fu:Nat)(d:(UQ×ζ)):Nat->Int->Unit->(δ ζ)->ε (Unit×(δ ζ)):=λe c b a=>bJ (λg v=>aoh fu d (λc b a=>g (c,b,a)) v.1 v.2.1 v.2.2) e (c,b,a)
variable{t:(UQ×ζ)}{x:Unit}
theorem bax:aii a t (b+1) c x f=aoh a t (aii a t b) c x f:=rfl
def aog(fu:Nat)(b:(UQ×ζ))(j:Int->Unit->(δ ζ)->ε (Unit×(δ ζ)))(a:Int)(k:Unit)(d:δ ζ):ε (Unit×(δ ζ)):=
 (if a<γ b.1.2.2.2.2.2 then(gd (0<=a/\a<γ b.1.2.2.2.2.2)<|gd (0<=a/\a<γ b.1.2.2.2.2.2)<|(if a=0 then((ado fu ((),d) 63).bind λi=>θ ((),i.2.2))else(ado fu ((),d) 38).bind λh=>θ ((),h.2.2)).bind λg=>(jw fu ((el b.1.2.2.2.2.2 a).1) 2).bind λc=>gd (γ c+γ ([61]:aC)<=9223372036854775807)<|(jw fu ((el b.1.2.2.2.2.2 a).2.1) 2).bind λe=>gd (γ (c++[61])+γ e<=9223372036854775807)<|(AN fu ((),g.2) ((c++[61])++e)).bind λf=>gd (bK (a+1))<|j (a+1) () f.2.2.2)else θ ((),d))
def agl(fu:Nat)(d:(UQ×ζ)):Nat->Int->Unit->(δ ζ)->ε (Unit×(δ ζ)):=λe c b a=>bJ (λg v=>aog fu d (λc b a=>g (c,b,a)) v.1 v.2.1 v.2.2) e (c,b,a)
theorem baw:agl a t (b+1) c x f=aog a t (agl a t b) c x f:=rfl
def ayz(fu:Nat)(l:UQ):ε (aC×ζ):=
 ((awh fu l).bind λa=>if a.2=0 then(gd (γ a.1.1+γ ([58]:aC)<=9223372036854775807)<|(AN fu ((),[]) (a.1.1++[58])).bind λb=>(if a.1.1=([116,101,108])then((AN fu ((),b.2.2.2) a.1.2.1).bind λk=>θ ((),k.2.2.2))else if a.1.2.1=[]then θ ((),b.2.2.2)else(jw fu a.1.2.1 0).bind λe=>gd (γ e+γ ([64]:aC)<=9223372036854775807)<|(AN fu ((),b.2.2.2) (e++[64])).bind λj=>θ ((),j.2.2.2)).bind λi=>(AN fu ((),i.2) a.1.2.2.1).bind λd=>(if a.1.2.2.2.1=0 then θ ((),d.2.2.2)else gd (bK a.1.2.2.2.1)<|gd (γ ([58]:aC)+γ (iS a.1.2.2.2.1)<=9223372036854775807)<|(AN fu ((),d.2.2.2) (([58]:aC)++(iS a.1.2.2.2.1))).bind λh=>θ ((),h.2.2.2)).bind λg=>(aii fu a fu 0 () g.2).bind λf=>(agl fu a fu 0 () f.2).bind λc=>gd (γ c.2<=140737488355328)<|some (c.2,0))else θ ([],a.2))
def axh(fu:Nat)(c:aC):ε (aC×ζ):=
 ((aqw fu c).bind λa=>if a.2=0 then((ayz fu a.1.2.1).bind λb=>θ (b.1,b.2))else θ ([],a.2))
def wx(fu:Nat)(m_0:(aC×aC×Int×aC×(δ (aC×aC))×(δ ζ))):ε (aC×η):=
 ((ju fu m_0 ([82,111,117,116,101])).bind λa=>if γ a=(0:Int)then θ ([],ν)else gd (0<=(0:Int)/\0<(γ a:Int))<|gd (0<=(0:Int)/\0<(γ a:Int))<|(axh fu (el a 0)).bind λb=>θ (b.1,(decide (b.2=0))))
def tB(fu:Nat)(m_0:(aC×aC×Int×aC×(δ (aC×aC))×(δ ζ))):ε (aC×η):=
 ((wx fu m_0).bind λa=>bif a.2 then ι else θ (m_0.2.1,μ))
def bgq(fu:Nat)(c:aC):ε η:=
 ((aiz fu c).bind λ(a:(UQ×Int×ζ))=>if a.2.2=0 then((bcm fu a.1.2.2.2.2.1 ([108,114]:aC)).bind λ(b:(aC×η))=>θ b.2)else θ ν)
def bgr(fu:Nat)(m_0:(aC×aC×Int×aC×(δ (aC×aC))×(δ ζ)))(i:aC)(c:aC)(h:aC)(v:η):ε ((aC×aC×Int×aC×(δ (aC×aC))×(δ ζ))×aC×ζ):=
 ((afp fu c).bind λd=>(aiz fu i).bind λu=>(bif (!d.2.2)then θ μ else if u.2.2=0 then((aif fu m_0).bind λt=>bif (!t)then θ μ else(tA fu h).bind λs=>θ (!s))else θ μ).bind λr=>bif r then ι else(tD fu m_0).bind λb=>if b.2=0 then((if b.1=0 then θ μ else(pQ fu m_0 c).bind λq=>θ q).bind λp=>bif p then ι else(bbl fu h m_0).bind λo=>(bgw fu (([85,68,80]),d.1,d.2.1,o,[])).bind λg=>if g.2=0 then((alx fu m_0).bind λa=>gd (bK (b.1-1))<|gd (bK (b.1-1))<|(bci fu (a.1,i,a.2.2.1,a.2.2.2.1,a.2.2.2.2.1,a.2.2.2.2.2) ([77,97,120,45,70,111,114,119,97,114,100,115]) (iS (b.1-1))).bind λn=>bif v then(gd (γ ([60,115,105,112,58]:aC)+γ c<=9223372036854775807)<|gd (γ (([60,115,105,112,58])++c)+γ ([59,108,114,62]:aC)<=9223372036854775807)<|(akl fu n ([82,101,99,111,114,100,45,82,111,117,116,101]) ((([60,115,105,112,58]:aC)++c)++([59,108,114,62]:aC))).bind λe=>(tB fu e).bind λm=>(wx fu e).bind λf=>(bif f.2 then((bgq fu f.1).bind λl=>θ (!l))else θ ν).bind λk=>bif k then ι else(akl fu e ([86,105,97]) g.1).bind λj=>θ (j,m.1,0))else ι)else ι)else ι)
def oU(fu:Nat)(c:ζ)(b:Int->ε (Unit⊕η))(a:Int):ε (Unit⊕η):=
 (if a<(γ ([45,46,33,37,42,95,43,39,126]:aC))then(gd (0<=a/\a<(γ ([45,46,33,37,42,95,43,39,126]:aC)))<|if(Υ ([45,46,33,37,42,95,43,39,126]) a)=c then θ (.inr μ)else gd (bK (a+1))<|b (a+1))else θ (.inl ()))
def qH(fu:Nat)(c:ζ):Nat->Int->ε (Unit⊕η):=λb a=>bJ (λg v=>oU fu c (λa=>g a) v) b a
def aui(fu:Nat)(a:ζ):ε η:=
 ((if 65<=a then(if a<=90 then θ μ else if 97<=a then(if a<=122 then θ μ else if 48<=a then θ (decide (a<=57))else θ ν)else if 48<=a then θ (decide (a<=57))else θ ν)else if 97<=a then(if a<=122 then θ μ else if 48<=a then θ (decide (a<=57))else θ ν)else if 48<=a then θ (decide (a<=57))else θ ν).bind λc=>bif c then θ μ else(qH fu a fu 0).bind λb=>dQ (λd=>θ (decide (a=96))) (λq=>θ q) b)
def amn(fu:Nat)(s:aC)(d:Int->ε Int)(a:Int):ε Int:=
 ((if a<γ s then(gd (0<=a/\a<γ s)<|(aui fu (Υ s a)).bind λc=>θ c)else θ ν).bind λb=>bif b then(gd (bK (a+1))<|d (a+1))else θ a)
def anz(fu:Nat)(s:aC):Nat->Int->ε Int:=λb a=>bJ (λg v=>amn fu s (λa=>g a) v) b a
theorem azf:anz a d (b+1) c=amn a d (anz a d b) c:=rfl
def ahq(fu:Nat)(s:aC)(b:Int):ε Int:=
 ((anz fu s fu (min (max b 0) (γ s))).bind λa=>θ a)
def ayo(fu:Nat)(s:aC):ε η:=
 ((if s=[]then θ ν else(ahq fu s 0).bind λb=>θ (decide (b=γ s))).bind λa=>θ a)
def ary(fu:Nat)(s:aC)(c:aC->Int->ε aC)(b:aC)(a:Int):ε aC:=
 (if a<γ s then((gd (0<=a/\a<γ b)<|gd (0<=a/\a<γ b)<|if 65<=(Υ b a)then(gd (0<=a/\a<γ b)<|gd (0<=a/\a<γ b)<|some (decide ((Υ b a)<=90)))else θ ν).bind λd=>bif d then(gd (0<=a/\a<γ b)<|gd (0<=a/\a<γ b)<|gd (0<=a/\a<γ b)<|gd (0<=a/\a<γ b)<|gd (bK (a+1))<|c (Ξ b (bR a) ((Υ b a)+32)) (a+1))else gd (bK (a+1))<|c b (a+1))else θ b)
def auf(fu:Nat)(s:aC):Nat->aC->Int->ε aC:=λc b a=>bJ (λg v=>ary fu s (λb a=>g (b,a)) v.1 v.2) c (b,a)
theorem bdp:auf a d (b+1) o c=ary a d (auf a d b) o c:=rfl
def LI(fu:Nat)(s:aC):ε aC:=
 ((auf fu s fu s 0).bind λa=>θ a)
def ayf(fu:Nat)(c:ζ)(b:Int->ε (Unit⊕aC))(a:Int):ε (Unit⊕aC):=
 (if a<15 then(gd (0<=a/\a<(γ ([[98,82,101,102,101,114,114,101,100,45,66,121],[99,67,111,110,116,101,110,116,45,84,121,112,101],[101,67,111,110,116,101,110,116,45,69,110,99,111,100,105,110,103],[102,70,114,111,109],[105,67,97,108,108,45,73,68],[107,83,117,112,112,111,114,116,101,100],[108,67,111,110,116,101,110,116,45,76,101,110,103,116,104],[109,67,111,110,116,97,99,116],[111,69,118,101,110,116],[114,82,101,102,101,114,45,84,111],[115,83,117,98,106,101,99,116],[116,84,111],[117,65,108,108,111,119,45,69,118,101,110,116,115],[118,86,105,97],[120,83,101,115,115,105,111,110,45,69,120,112,105,114,101,115]]:δ aC)))<|gd (0<=a/\a<(γ ([[98,82,101,102,101,114,114,101,100,45,66,121],[99,67,111,110,116,101,110,116,45,84,121,112,101],[101,67,111,110,116,101,110,116,45,69,110,99,111,100,105,110,103],[102,70,114,111,109],[105,67,97,108,108,45,73,68],[107,83,117,112,112,111,114,116,101,100],[108,67,111,110,116,101,110,116,45,76,101,110,103,116,104],[109,67,111,110,116,97,99,116],[111,69,118,101,110,116],[114,82,101,102,101,114,45,84,111],[115,83,117,98,106,101,99,116],[116,84,111],[117,65,108,108,111,119,45,69,118,101,110,116,115],[118,86,105,97],[120,83,101,115,115,105,111,110,45,69,120,112,105,114,101,115]]:δ aC)))<|gd (0<=(0:Int)/\0<(γ (el ([([98,82,101,102,101,114,114,101,100,45,66,121]:aC),([99,67,111,110,116,101,110,116,45,84,121,112,101]:aC),([101,67,111,110,116,101,110,116,45,69,110,99,111,100,105,110,103]:aC),([102,70,114,111,109]:aC),([105,67,97,108,108,45,73,68]:aC),([107,83,117,112,112,111,114,116,101,100]:aC),([108,67,111,110,116,101,110,116,45,76,101,110,103,116,104]:aC),([109,67,111,110,116,97,99,116]:aC),([111,69,118,101,110,116]:aC),([114,82,101,102,101,114,45,84,111]:aC),([115,83,117,98,106,101,99,116]:aC),([116,84,111]:aC),([117,65,108,108,111,119,45,69,118,101,110,116,115]:aC),([118,86,105,97]:aC),([120,83,101,115,115,105,111,110,45,69,120,112,105,114,101,115]:aC)]:δ aC) a):Int))<|if(Υ (el ([[98,82,101,102,101,114,114,101,100,45,66,121],[99,67,111,110,116,101,110,116,45,84,121,112,101],[101,67,111,110,116,101,110,116,45,69,110,99,111,100,105,110,103],[102,70,114,111,109],[105,67,97,108,108,45,73,68],[107,83,117,112,112,111,114,116,101,100],[108,67,111,110,116,101,110,116,45,76,101,110,103,116,104],[109,67,111,110,116,97,99,116],[111,69,118,101,110,116],[114,82,101,102,101,114,45,84,111],[115,83,117,98,106,101,99,116],[116,84,111],[117,65,108,108,111,119,45,69,118,101,110,116,115],[118,86,105,97],[120,83,101,115,115,105,111,110,45,69,120,112,105,114,101,115]]:δ aC) a) 0)=c then(gd (0<=a/\a<(γ ([[98,82,101,102,101,114,114,101,100,45,66,121],[99,67,111,110,116,101,110,116,45,84,121,112,101],[101,67,111,110,116,101,110,116,45,69,110,99,111,100,105,110,103],[102,70,114,111,109],[105,67,97,108,108,45,73,68],[107,83,117,112,112,111,114,116,101,100],[108,67,111,110,116,101,110,116,45,76,101,110,103,116,104],[109,67,111,110,116,97,99,116],[111,69,118,101,110,116],[114,82,101,102,101,114,45,84,111],[115,83,117,98,106,101,99,116],[116,84,111],[117,65,108,108,111,119,45,69,118,101,110,116,115],[118,86,105,97],[120,83,101,115,115,105,111,110,45,69,120,112,105,114,101,115]]:δ aC)))<|gd (0<=a/\a<(γ ([[98,82,101,102,101,114,114,101,100,45,66,121],[99,67,111,110,116,101,110,116,45,84,121,112,101],[101,67,111,110,116,101,110,116,45,69,110,99,111,100,105,110,103],[102,70,114,111,109],[105,67,97,108,108,45,73,68],[107,83,117,112,112,111,114,116,101,100],[108,67,111,110,116,101,110,116,45,76,101,110,103,116,104],[109,67,111,110,116,97,99,116],[111,69,118,101,110,116],[114,82,101,102,101,114,45,84,111],[115,83,117,98,106,101,99,116],[116,84,111],[117,65,108,108,111,119,45,69,118,101,110,116,115],[118,86,105,97],[120,83,101,115,115,105,111,110,45,69,120,112,105,114,101,115]]:δ aC)))<|gd (0<=(1:Int)/\1<=(γ (el ([([98,82,101,102,101,114,114,101,100,45,66,121]:aC),([99,67,111,110,116,101,110,116,45,84,121,112,101]:aC),([101,67,111,110,116,101,110,116,45,69,110,99,111,100,105,110,103]:aC),([102,70,114,111,109]:aC),([105,67,97,108,108,45,73,68]:aC),([107,83,117,112,112,111,114,116,101,100]:aC),([108,67,111,110,116,101,110,116,45,76,101,110,103,116,104]:aC),([109,67,111,110,116,97,99,116]:aC),([111,69,118,101,110,116]:aC),([114,82,101,102,101,114,45,84,111]:aC),([115,83,117,98,106,101,99,116]:aC),([116,84,111]:aC),([117,65,108,108,111,119,45,69,118,101,110,116,115]:aC),([118,86,105,97]:aC),([120,83,101,115,115,105,111,110,45,69,120,112,105,114,101,115]:aC)]:δ aC) a):Int))<|some (.inr (dG (bR 1) (el ([[98,82,101,102,101,114,114,101,100,45,66,121],[99,67,111,110,116,101,110,116,45,84,121,112,101],[101,67,111,110,116,101,110,116,45,69,110,99,111,100,105,110,103],[102,70,114,111,109],[105,67,97,108,108,45,73,68],[107,83,117,112,112,111,114,116,101,100],[108,67,111,110,116,101,110,116,45,76,101,110,103,116,104],[109,67,111,110,116,97,99,116],[111,69,118,101,110,116],[114,82,101,102,101,114,45,84,111],[115,83,117,98,106,101,99,116],[116,84,111],[117,65,108,108,111,119,45,69,118,101,110,116,115],[118,86,105,97],[120,83,101,115,115,105,111,110,45,69,120,112,105,114,101,115]]:δ aC) a))))else gd (bK (a+1))<|b (a+1))else θ (.inl ()))
def atr(fu:Nat)(c:ζ):Nat->Int->ε (Unit⊕aC):=λb a=>bJ (λg v=>ayf fu c (λa=>g a) v) b a
theorem vE:atr a l (b+1) c=ayf a l (atr a l b) c:=rfl
def ayg(fu:Nat)(b:ζ):ε aC:=
 ((atr fu b fu 0).bind λa=>dQ (λc=>θ []) (λq=>θ q) a)
def ayh(fu:Nat)(d:aC)(c:Int->ε (Unit⊕(aC×ζ)))(a:Int):ε (Unit⊕(aC×ζ)):=
 (if a<7 then(gd (0<=a/\a<(γ ([[67,97,108,108,45,73,68],[67,83,101,113],[77,73,77,69,45,86,101,114,115,105,111,110],[77,105,110,45,83,69],[82,65,99,107],[82,83,101,113],[87,87,87,45,65,117,116,104,101,110,116,105,99,97,116,101]]:δ aC)))<|gd (0<=a/\a<(γ ([[67,97,108,108,45,73,68],[67,83,101,113],[77,73,77,69,45,86,101,114,115,105,111,110],[77,105,110,45,83,69],[82,65,99,107],[82,83,101,113],[87,87,87,45,65,117,116,104,101,110,116,105,99,97,116,101]]:δ aC)))<|(LI fu (el ([[67,97,108,108,45,73,68],[67,83,101,113],[77,73,77,69,45,86,101,114,115,105,111,110],[77,105,110,45,83,69],[82,65,99,107],[82,83,101,113],[87,87,87,45,65,117,116,104,101,110,116,105,99,97,116,101]]) a)).bind λb=>if b=d then(gd (0<=a/\a<(γ ([[67,97,108,108,45,73,68],[67,83,101,113],[77,73,77,69,45,86,101,114,115,105,111,110],[77,105,110,45,83,69],[82,65,99,107],[82,83,101,113],[87,87,87,45,65,117,116,104,101,110,116,105,99,97,116,101]]:δ aC)))<|gd (0<=a/\a<(γ ([[67,97,108,108,45,73,68],[67,83,101,113],[77,73,77,69,45,86,101,114,115,105,111,110],[77,105,110,45,83,69],[82,65,99,107],[82,83,101,113],[87,87,87,45,65,117,116,104,101,110,116,105,99,97,116,101]]:δ aC)))<|some (.inr (el ([[67,97,108,108,45,73,68],[67,83,101,113],[77,73,77,69,45,86,101,114,115,105,111,110],[77,105,110,45,83,69],[82,65,99,107],[82,83,101,113],[87,87,87,45,65,117,116,104,101,110,116,105,99,97,116,101]]) a,0)))else gd (bK (a+1))<|c (a+1))else θ (.inl ()))
def atv(fu:Nat)(c:aC):Nat->Int->ε (Unit⊕(aC×ζ)):=λb a=>bJ (λg v=>ayh fu c (λa=>g a) v) b a
theorem vF:atv a d (b+1) c=ayh a d (atv a d b) c:=rfl
def amd(fu:Nat)(e:aC)(c:aC->Int->ε aC)(b:aC)(a:Int):ε aC:=
 (if a<γ e then((if a=0 then(gd (0<=a/\a<γ b)<|gd (0<=a/\a<γ b)<|if 97<=(Υ b a)then(gd (0<=a/\a<γ b)<|gd (0<=a/\a<γ b)<|some (decide ((Υ b a)<=122)))else θ ν)else gd (bK (a-1))<|gd (0<=(a-1)/\(a-1)<γ b)<|gd (0<=(a-1)/\(a-1)<γ b)<|if(Υ b (a-1))=45 then(gd (0<=a/\a<γ b)<|gd (0<=a/\a<γ b)<|if 97<=(Υ b a)then(gd (0<=a/\a<γ b)<|gd (0<=a/\a<γ b)<|some (decide ((Υ b a)<=122)))else θ ν)else θ ν).bind λd=>bif d then(gd (0<=a/\a<γ b)<|gd (0<=a/\a<γ b)<|gd (0<=a/\a<γ b)<|gd (0<=a/\a<γ b)<|gd (bK (a+1))<|c (Ξ b (bR a) ((Υ b a)-32)) (a+1))else gd (bK (a+1))<|c b (a+1))else θ b)
def aig(fu:Nat)(d:aC):Nat->aC->Int->ε aC:=λc b a=>bJ (λg v=>amd fu d (λb a=>g (b,a)) v.1 v.2) c (b,a)
theorem awq:aig a d (b+1) o c=amd a d (aig a d b) o c:=rfl
def wi(fu:Nat)(b:aC):ε (aC×ζ):=
 (((ayo fu b).bind λi=>bif (!i)then θ μ else θ (decide (64<(γ b:Int)))).bind λh=>bif h then θ ([],5)else(LI fu b).bind λa=>(if γ b=(1:Int)then(gd (0<=(0:Int)/\0<(γ a:Int))<|(ayg fu (Υ a 0)).bind λg=>θ (!decide (g=[])))else θ ν).bind λf=>bif f then(gd (0<=(0:Int)/\0<(γ a:Int))<|(ayg fu (Υ a 0)).bind λe=>θ (e,0))else(atv fu a fu 0).bind λd=>dQ (λj=>(aig fu a fu a 0).bind λc=>θ (c,0)) (λq=>θ q) d)
def azv(fu:Nat)(e:aC)(d:aC):ε η:=
 ((wi fu e).bind λb=>(wi fu d).bind λa=>(if b.2=0 then(if a.2=0 then θ (decide (b.1=a.1))else θ ν)else θ ν).bind λc=>θ c)
def arq(fu:Nat)(s:aC)(b:δ aC)(c:Int->ε (Unit⊕η))(a:Int):ε (Unit⊕η):=
 (if a<γ b then(gd (0<=a/\a<γ b)<|gd (0<=a/\a<γ b)<|if(el b a)=s then θ (.inr μ)else gd (bK (a+1))<|c (a+1))else θ (.inl ()))
def att(fu:Nat)(s:aC)(c:δ aC):Nat->Int->ε (Unit⊕η):=λb a=>bJ (λg v=>arq fu s c (λa=>g a) v) b a
theorem bdj:att a d h (b+1) c=arq a d h (att a d h b) c:=rfl
def lx(fu:Nat)(s:aC)(b:δ aC):ε η:=
 ((att fu s b fu 0).bind λa=>dQ (λc=>θ ν) (λq=>θ q) a)
def bas(fu:Nat)(a:aC):ε Int:=
 ((lx fu a ([[70,114,111,109],[84,111],[67,111,110,116,97,99,116],[82,111,117,116,101],[82,101,99,111,114,100,45,82,111,117,116,101],[80,97,116,104],[83,101,114,118,105,99,101,45,82,111,117,116,101],[82,101,102,101,114,45,84,111],[82,101,102,101,114,114,101,100,45,66,121],[82,101,112,108,121,45,84,111]])).bind λb=>bif b then θ 1 else if a=([86,105,97])then θ 2 else if a=([67,83,101,113])then θ 3 else if a=([82,65,99,107])then θ 4 else(lx fu a ([[67,111,110,116,101,110,116,45,76,101,110,103,116,104],[69,120,112,105,114,101,115],[77,97,120,45,70,111,114,119,97,114,100,115],[77,105,110,45,69,120,112,105,114,101,115],[82,83,101,113]])).bind λe=>bif e then θ 5 else(lx fu a ([[67,111,110,116,101,110,116,45,68,105,115,112,111,115,105,116,105,111,110],[67,111,110,116,101,110,116,45,84,121,112,101],[69,118,101,110,116],[77,105,110,45,83,69],[83,101,115,115,105,111,110,45,69,120,112,105,114,101,115],[83,117,98,115,99,114,105,112,116,105,111,110,45,83,116,97,116,101]])).bind λd=>bif d then θ 6 else(lx fu a ([[65,99,99,101,112,116],[65,108,108,111,119],[65,108,108,111,119,45,69,118,101,110,116,115],[80,114,111,120,121,45,82,101,113,117,105,114,101],[82,101,113,117,105,114,101],[83,117,112,112,111,114,116,101,100],[85,110,115,117,112,112,111,114,116,101,100]])).bind λc=>bif c then θ 7 else θ 0)
def beu(fu:Nat)(e:aC):ε η:=
 ((wi fu e).bind λa=>(if a.2=0 then((bas fu a.1).bind λd=>if d=7 then θ μ else(lx fu a.1 ([[67,111,110,116,97,99,116],[80,97,116,104],[82,101,99,111,114,100,45,82,111,117,116,101],[82,111,117,116,101],[83,101,114,118,105,99,101,45,82,111,117,116,101],[86,105,97]])).bind λc=>θ c)else θ ν).bind λb=>θ b)
def wh(fu:Nat)(a:ζ):ε η:=
 ((if a=32 then θ μ else θ (decide (a=9))).bind λb=>θ b)
def alj(fu:Nat)(s:aC)(d:Int->ε Int)(a:Int):ε Int:=
 ((if a<γ s then(gd (0<=a/\a<γ s)<|(wh fu (Υ s a)).bind λc=>θ c)else θ ν).bind λb=>bif b then(gd (bK (a+1))<|d (a+1))else θ a)
def arz(fu:Nat)(s:aC):Nat->Int->ε Int:=λb a=>bJ (λg v=>alj fu s (λa=>g a) v) b a
theorem avc:arz a d (b+1) c=alj a d (arz a d b) c:=rfl
def WE(fu:Nat)(s:aC)(b:Int):ε Int:=
 ((arz fu s fu (min (max b 0) (γ s))).bind λa=>θ a)
def auh(fu:Nat)(s:aC)(b:Int)(e:Int->ε Int)(a:Int):ε Int:=
 ((if 0<a then(gd (bK (a-1))<|gd (0<=(a-1)/\(a-1)<(γ (dG (bR b) s)))<|(wh fu (Υ (dG (bR b) s) (a-1))).bind λd=>θ d)else θ ν).bind λc=>bif c then(gd (bK (a-1))<|e (a-1))else θ a)
def awc(fu:Nat)(s:aC)(b:Int):Nat->Int->ε Int:=λc a=>bJ (λg v=>auh fu s b (λa=>g a) v) c a
theorem bfd:awc a d c (b+1) g=auh a d c (awc a d c b) g:=rfl
def axg(fu:Nat)(s:aC):ε aC:=
 ((WE fu s 0).bind λa=>gd (0<=a/\a<=γ s)<|(awc fu s a fu (γ (dG (bR a) s))).bind λb=>gd (0<=b/\b<=(γ (dG (bR a) s)))<|some (eP (bR b) (dG (bR a) s)))
def ayn(fu:Nat)(s:aC)(a:Int)(b:Int):ε (Int×aC):=
 (gd (0<=a/\a<=b/\b<=γ s)<|(WE fu (sub s a b) 0).bind λc=>gd (bK (a+c))<|(axg fu (sub s a b)).bind λd=>θ (a+c,d))
def big(fu:Nat)(s:aC)(a:Int)(d:ζ):ε (Int×ζ):=
 ((if a<0 then θ μ else θ (decide (γ s<a))).bind λb=>bif b then θ (0,2)else(if a=γ s then θ μ else gd (0<=a/\a<γ s)<|some (!decide ((Υ s a)=d))).bind λc=>bif c then θ (a,5)else θ (0,0))
def aoy(fu:Nat)(a:ζ):ε η:=
 ((if a<32 then(if a=9 then θ (decide (a=127))else θ μ)else θ (decide (a=127))).bind λv6=>θ v6)
def bfc(fu:Nat)(s:aC)(a:Int):ε (Int×Int×ζ):=
 (if γ s<=a then θ (0,γ s,6)else gd (0<=a/\a<γ s)<|(aoy fu (Υ s a)).bind λb=>bif b then θ (0,a,5)else gd (0<=a/\a<γ s)<|if(Υ s a)=92 then(gd (bK (a+1))<|if γ s<=(a+1)then θ (0,γ s,6)else(gd (bK (a+1))<|gd (0<=(a+1)/\(a+1)<γ s)<|if(Υ s (a+1))<32 then θ μ else gd (bK (a+1))<|gd (0<=(a+1)/\(a+1)<γ s)<|some (decide (126<(Υ s (a+1))))).bind λc=>bif c then θ (0,a,5)else θ (2,0,0))else θ (1,0,0))
def ma(fu:Nat)(s:aC)(e:(δ ζ)->Int->ε (aC×Int×ζ))(c:δ ζ)(a:Int):ε (aC×Int×ζ):=
 ((bfc fu s a).bind λb=>if b.2.2=0 then((if b.1=1 then(gd (0<=a/\a<γ s)<|some (decide ((Υ s a)=34)))else θ ν).bind λd=>bif d then(gd (bK (a+1))<|some (c,a+1,0))else gd (bK (a+b.1))<|gd (bK ((a+b.1)-1))<|gd (0<=((a+b.1)-1)/\((a+b.1)-1)<γ s)<|gd ((γ c+γ ([Υ s ((a+b.1)-1)]))*1<=140737488355328)<|gd (bK (a+b.1))<|e (c++([Υ s ((a+b.1)-1)])) (a+b.1))else θ ([],b.2.1,b.2.2))
def aqe(fu:Nat)(s:aC):Nat->(δ ζ)->Int->ε (aC×Int×ζ):=λc b a=>bJ (λg v=>ma fu s (λb a=>g (b,a)) v.1 v.2) c (b,a)
theorem adv:aqe a d (b+1) f c=ma a d (aqe a d b) f c:=rfl
def aow(fu:Nat)(s:aC)(b:Int):ε (aC×Int×ζ):=
 ((big fu s b 34).bind λa=>if a.2=0 then(gd (bK (b+1))<|aqe fu s fu [] (b+1))else θ ([],a.1,a.2))
def amo(fu:Nat)(s:aC)(c:Int->ε Int)(a:Int):ε Int:=
 ((if a<γ s then(gd (0<=a/\a<γ s)<|some (!decide ((Υ s a)=62)))else θ ν).bind λb=>bif b then(gd (bK (a+1))<|c (a+1))else θ a)
def auj(fu:Nat)(s:aC):Nat->Int->ε Int:=λb a=>bJ (λg v=>amo fu s (λa=>g a) v) b a
theorem awu:auj a d (b+1) c=amo a d (auj a d b) c:=rfl
def amq(fu:Nat)(s:aC)(h:ζ)(e:(δ (Int×aC))->Int->Int->ε (((δ (Int×aC))×Int)⊕((δ (Int×aC))×Int×ζ)))(b:δ (Int×aC))(c:Int)(a:Int):ε (((δ (Int×aC))×Int)⊕((δ (Int×aC))×Int×ζ)):=
 (if a<γ s then(gd (0<=a/\a<γ s)<|if(Υ s a)=h then((ayn fu s c a).bind λg=>gd ((γ b+[g].length)*24<=140737488355328)<|gd (bK (a+1))<|gd (bK (a+1))<|e (b++[g]) (a+1) (a+1))else if(Υ s a)=34 then((aow fu s a).bind λd=>if d.2.2=0 then(e b c d.2.1)else θ (.inr ([],d.2.1,d.2.2)))else if(Υ s a)=62 then θ (.inr ([],a,5))else if(Υ s a)=60 then((auj fu s fu a).bind λf=>if f=γ s then θ (.inr ([],γ s,6))else gd (bK (f+1))<|e b c (f+1))else gd (bK (a+1))<|e b c (a+1))else θ (.inl (b,c)))
def aox(fu:Nat)(s:aC)(e:ζ):Nat->(δ (Int×aC))->Int->Int->ε (((δ (Int×aC))×Int)⊕((δ (Int×aC))×Int×ζ)):=λd c b a=>bJ (λg v=>amq fu s e (λc b a=>g (c,b,a)) v.1 v.2.1 v.2.2) d (c,b,a)
theorem awv:aox a d l (b+1) r c g=amq a d l (aox a d l b) r c g:=rfl
def bch(fu:Nat)(s:aC)(a:ζ):ε ((δ (Int×aC))×Int×ζ):=
 (((wh fu a).bind λf=>bif f then θ μ else if a=34 then θ μ else if a=60 then θ μ else θ (decide (a=62))).bind λe=>bif e then θ ([],0,2)else(aox fu s a fu [] 0 0).bind λd=>dQ (λb=>(ayn fu s b.2 (γ s)).bind λc=>gd ((γ b.1+[c].length)*24<=140737488355328)<|some (b.1++[c],0,0)) (λq=>θ q) d)
def atu(fu:Nat)(b:((δ (Int×aC))×Int×ζ))(d:(δ aC)->Int->ε ((δ aC)⊕((δ aC)×ζ)))(c:δ aC)(a:Int):ε ((δ aC)⊕((δ aC)×ζ)):=
 (if a<γ b.1 then(gd (0<=a/\a<γ b.1)<|gd (0<=a/\a<γ b.1)<|if((el b.1 a).2)=[]then θ (.inr ([],5))else gd (0<=a/\a<γ b.1)<|gd (0<=a/\a<γ b.1)<|gd ((γ c+γ ([(el b.1 a).2]))*16<=140737488355328)<|gd (bK (a+1))<|d (c++([(el b.1 a).2])) (a+1))else θ (.inl c))
def aqt(fu:Nat)(c:((δ (Int×aC))×Int×ζ)):Nat->(δ aC)->Int->ε ((δ aC)⊕((δ aC)×ζ)):=λd b a=>bJ (λg v=>atu fu c (λb a=>g (b,a)) v.1 v.2) d (b,a)
theorem bev:aqt a n (b+1) h c=atu a n (aqt a n b) h c:=rfl
def bew(fu:Nat)(d:aC):ε ((δ aC)×ζ):=
 ((bch fu d 44).bind λa=>if a.2.2=0 then((aqt fu a fu [] 0).bind λc=>dQ (λb=>θ (b,0)) (λq=>θ q) c)else θ ([],a.2.2))
def avw(fu:Nat)(a:(aC×aC)):ε (δ aC):=
 ((beu fu a.1).bind λc=>bif c then((bew fu a.2).bind λb=>if b.2=0 then θ b.1 else θ [a.2])else θ [a.2])
def avx(fu:Nat)(m_0:(aC×aC×Int×aC×(δ (aC×aC))×(δ ζ)))(f:aC)(d:(δ aC)->Int->ε (δ aC))(b:δ aC)(a:Int):ε (δ aC):=
 (if a<γ m_0.2.2.2.2.1 then(gd (0<=a/\a<γ m_0.2.2.2.2.1)<|gd (0<=a/\a<γ m_0.2.2.2.2.1)<|(azv fu ((el m_0.2.2.2.2.1 a).1) f).bind λe=>bif e then(gd (0<=a/\a<γ m_0.2.2.2.2.1)<|gd (0<=a/\a<γ m_0.2.2.2.2.1)<|(avw fu (el m_0.2.2.2.2.1 a)).bind λc=>gd ((γ b+γ c)*16<=140737488355328)<|gd (bK (a+1))<|d (b++c) (a+1))else gd (bK (a+1))<|d b (a+1))else θ b)
def atd(fu:Nat)(m_0:(aC×aC×Int×aC×(δ (aC×aC))×(δ ζ)))(d:aC):Nat->(δ aC)->Int->ε (δ aC):=λc b a=>bJ (λg v=>avx fu m_0 d (λb a=>g (b,a)) v.1 v.2) c (b,a)
theorem bgs:atd a e d (b+1) h c=avx a e d (atd a e d b) h c:=rfl
def jt(fu:Nat)(m_0:(aC×aC×Int×aC×(δ (aC×aC))×(δ ζ)))(b:aC):ε (δ aC):=
 ((atd fu m_0 b fu [] 0).bind λa=>θ a)
def atp(fu:Nat)(b:δ (aC×aC))(e:aC)(d:Int->ε (Unit⊕Int))(a:Int):ε (Unit⊕Int):=
 (if a<γ b then(gd (0<=a/\a<γ b)<|gd (0<=a/\a<γ b)<|(azv fu ((el b a).1) e).bind λc=>bif c then θ (.inr a)else gd (bK (a+1))<|d (a+1))else θ (.inl ()))
def aqr(fu:Nat)(d:δ (aC×aC))(c:aC):Nat->Int->ε (Unit⊕Int):=λb a=>bJ (λg v=>atp fu d c (λa=>g a) v) b a
theorem bes:aqr a j d (b+1) c=atp a j d (aqr a j d b) c:=rfl
def axe(fu:Nat)(c:δ (aC×aC))(b:aC):ε Int:=
 ((aqr fu c b fu 0).bind λa=>dQ (λd=>θ (-1)) (λq=>θ q) a)
def tE(fu:Nat)(m_0:(aC×aC×Int×aC×(δ (aC×aC))×(δ ζ)))(b:aC):ε (aC×η):=
 ((axe fu m_0.2.2.2.2.1 b).bind λa=>if a<0 then ι else gd (0<=a/\a<γ m_0.2.2.2.2.1)<|gd (0<=a/\a<γ m_0.2.2.2.2.1)<|some ((el m_0.2.2.2.2.1 a).2,μ))
def Zq(fu:Nat):ε η:=
 ((bds fu [53]).bind λd=>(bgr fu d ([115,105,112,58,98,64,99]) ([112,58,53,48,54,48]) [49] μ).bind λb=>(jt fu b.1 ([86,105,97])).bind λa=>(tE fu b.1 ([77,97,120,45,70,111,114,119,97,114,100,115])).bind λi=>(tE fu b.1 ([82,101,99,111,114,100,45,82,111,117,116,101])).bind λh=>(if b.2.2=0 then(if b.1.2.1=([115,105,112,58,98,64,99])then(if b.2.1=([115,105,112,58,98,64,99])then(if γ a=(2:Int)then(if i.1=[52]then θ (!decide (h.1=([60,115,105,112,58,112,58,53,48,54,48,59,108,114,62])))else θ μ)else θ μ)else θ μ)else θ μ)else θ μ).bind λg=>bif g then ι else(gd (0<=(0:Int)/\0<(γ a:Int))<|gd (0<=(0:Int)/\0<(γ a:Int))<|(bds fu [53]).bind λf=>(bbl fu [49] f).bind λc=>gd (γ ([83,73,80,47,50,46,48,47,85,68,80,32,112,58,53,48,54,48,59,98,114,97,110,99,104,61]:aC)+γ c<=9223372036854775807)<|if(el a 0)=(([83,73,80,47,50,46,48,47,85,68,80,32,112,58,53,48,54,48,59,98,114,97,110,99,104,61]:aC)++c)then(gd (0<=(1:Int)/\1<(γ a:Int))<|gd (0<=(1:Int)/\1<(γ a:Int))<|some (decide ((el a 1)=([83,73,80,47,50,46,48,47,85,68,80,32,97,59,98,114,97,110,99,104,61,122,57,104,71,52,98,75,120]))))else θ ν).bind λe=>θ e)
def zy(fu:Nat)(e:aC)(d:aC):ε η:=
 ((aiz fu e).bind λa=>(if a.2.2=0 then(if a.1.2.1=[]then((aop fu a.1.2.2.1 a.1.2.2.2.1).bind λc=>θ (decide (c=d)))else θ ν)else θ ν).bind λb=>θ b)
def anu(fu:Nat)(c:δ aC)(j:Int->aC->aC->Int->aC->(δ (aC×aC))->(δ ζ)->ε (aC×aC×Int×aC×(δ (aC×aC))×(δ ζ)))(a:Int)(i:aC)(h:aC)(g:Int)(f:aC)(e:δ (aC×aC))(d:δ ζ):ε (aC×aC×Int×aC×(δ (aC×aC))×(δ ζ)):=
 (if 0<=a then(gd (0<=a/\a<γ c)<|gd (0<=a/\a<γ c)<|(akl fu (i,h,g,f,e,d) ([82,111,117,116,101]) (el c a)).bind λb=>gd (bK (a-1))<|j (a-1) b.1 b.2.1 b.2.2.1 b.2.2.2.1 b.2.2.2.2.1 b.2.2.2.2.2)else θ (i,h,g,f,e,d))
def apw(fu:Nat)(j:δ aC):Nat->Int->aC->aC->Int->aC->(δ (aC×aC))->(δ ζ)->ε (aC×aC×Int×aC×(δ (aC×aC))×(δ ζ)):=λi h f e d c b a=>bJ (λg v=>anu fu j (λh f e d c b a=>g (h,f,e,d,c,b,a)) v.1 v.2.1 v.2.2.1 v.2.2.2.1 v.2.2.2.2.1 v.2.2.2.2.2.1 v.2.2.2.2.2.2) i (h,f,e,d,c,b,a)
variable{w:aC}
theorem bap:apw a h (b+1) c d o g w j f=anu a h (apw a h b) c d o g w j f:=rfl
def ait(fu:Nat)(m_0:(aC×aC×Int×aC×(δ (aC×aC))×(δ ζ)))(b:δ aC):ε (aC×aC×Int×aC×(δ (aC×aC))×(δ ζ)):=
 ((anj fu m_0 ([82,111,117,116,101])).bind λa=>(gd (bK (γ b-1))<|apw fu b fu (γ b-1) a.1 a.2.1 a.2.2.1 a.2.2.2.1 a.2.2.2.2.1 a.2.2.2.2.2).bind λc=>θ c)
def aqq(fu:Nat)(m_0:(aC×aC×Int×aC×(δ (aC×aC))×(δ ζ)))(e:aC):ε ((aC×aC×Int×aC×(δ (aC×aC))×(δ ζ))×ζ):=
 ((afp fu e).bind λi=>(bif (!i.2.2)then θ μ else(aif fu m_0).bind λp=>θ (!p)).bind λo=>bif o then θ (([],[],0,[],[],[]),2)else(alx fu m_0).bind λb=>(ju fu b ([82,111,117,116,101])).bind λa=>(gd (bK (γ a-1))<|(if 0<=(γ a-(1:Int))then((zy fu b.2.1 e).bind λn=>θ n)else θ ν).bind λm=>bif m then(gd (0<=(γ a-(1:Int))/\(γ a-1)<(γ a:Int))<|gd (0<=(γ a-(1:Int))/\(γ a-1)<(γ a:Int))<|(axh fu (el a (γ a-1))).bind λh=>if h.2=0 then(gd (0<=(γ a-(1:Int))/\(γ a-1)<=(γ a:Int))<|(ait fu b (eP (bR (γ a-1)) a)).bind λc=>θ (c.1,h.1,c.2.2.1,c.2.2.2.1,c.2.2.2.2.1,c.2.2.2.2.2))else θ (b.1,b.2.1,b.2.2.1,b.2.2.2.1,b.2.2.2.2.1,b.2.2.2.2.2))else θ (b.1,b.2.1,b.2.2.1,b.2.2.2.1,b.2.2.2.2.1,b.2.2.2.2.2)).bind λd=>(wx fu d).bind λg=>(bif g.2 then((zy fu g.1 e).bind λl=>θ l)else θ ν).bind λk=>bif k then((ju fu d ([82,111,117,116,101])).bind λf=>gd (0<=(1:Int)/\1<=(γ f:Int))<|(ait fu d (dG (bR 1) f)).bind λj=>θ (j,0))else θ (d,0))
def atb(fu:Nat)(m_0:(aC×aC×Int×aC×(δ (aC×aC))×(δ ζ))):ε η:=
 ((if m_0.2.2.1=0 then θ (!decide (m_0.1=[]))else θ ν).bind λa=>θ a)
def atq(fu:Nat)(b:(aC×aC×Int×aC×(δ (aC×aC))×(δ ζ)))(b_3:(aC×aC×Int×aC×(δ (aC×aC))×(δ ζ)))(c:Int->ε (Unit⊕η))(a:Int):ε (Unit⊕η):=
 (if a<γ b.2.2.2.2.1 then(gd (0<=a/\a<γ b.2.2.2.2.1)<|gd (0<=a/\a<γ b.2.2.2.2.1)<|gd (0<=a/\a<γ b_3.2.2.2.2.1)<|gd (0<=a/\a<γ b_3.2.2.2.2.1)<|if(el b.2.2.2.2.1 a)=(el b_3.2.2.2.2.1 a)then(gd (bK (a+1))<|c (a+1))else θ (.inr ν))else θ (.inl ()))
def aqs(fu:Nat)(c:(aC×aC×Int×aC×(δ (aC×aC))×(δ ζ)))(b_3:(aC×aC×Int×aC×(δ (aC×aC))×(δ ζ))):Nat->Int->ε (Unit⊕η):=λb a=>bJ (λg v=>atq fu c b_3 (λa=>g a) v) b a
theorem bet{b_3:(aC×aC×Int×aC×(δ (aC×aC))×(δ ζ))}:aqs a e b_3 (b+1) c=atq a e b_3 (aqs a e b_3 b) c:=rfl
def Zr(fu:Nat)(a:(aC×aC×Int×aC×(δ (aC×aC))×(δ ζ)))(b_3:(aC×aC×Int×aC×(δ (aC×aC))×(δ ζ))):ε η:=
 ((if a.1=b_3.1 then(if a.2.1=b_3.2.1 then(if a.2.2.1=b_3.2.2.1 then(if a.2.2.2.1=b_3.2.2.2.1 then(if γ a.2.2.2.2.1=(γ b_3.2.2.2.2.1:Int)then θ (!decide (a.2.2.2.2.2=b_3.2.2.2.2.2))else θ μ)else θ μ)else θ μ)else θ μ)else θ μ).bind λc=>bif c then θ ν else(aqs fu a b_3 fu 0).bind λb=>dQ (λd=>θ μ) (λq=>θ q) b)
def apy(fu:Nat)(s:aC)(e:ζ)(d:(δ aC)->Int->Int->ε ((δ aC)×Int))(c:δ aC)(b:Int)(a:Int):ε ((δ aC)×Int):=
 (if a<γ s then(gd (0<=a/\a<γ s)<|if(Υ s a)=e then(gd (0<=b/\b<=a/\a<=γ s)<|gd ((γ c+γ ([sub s b a]:δ aC))*16<=140737488355328)<|gd (bK (a+1))<|gd (bK (a+1))<|d (c++([sub s b a]:δ aC)) (a+1) (a+1))else gd (bK (a+1))<|d c b (a+1))else θ (c,b))
def amh(fu:Nat)(s:aC)(e:ζ):Nat->(δ aC)->Int->Int->ε ((δ aC)×Int):=λd c b a=>bJ (λg v=>apy fu s e (λc b a=>g (c,b,a)) v.1 v.2.1 v.2.2) d (c,b,a)
theorem bbr:amh a d l (b+1) h c g=apy a d l (amh a d l b) h c g:=rfl
def avo(fu:Nat)(s:aC)(b:ζ):ε (δ aC):=
 ((amh fu s b fu [] 0 0).bind λa=>gd (0<=a.2/\a.2<=γ s)<|gd ((γ a.1+γ ([dG (bR a.2) s]:δ aC))*16<=140737488355328)<|some (a.1++([dG (bR a.2) s]:δ aC)))
def WD(fu:Nat)(a:ζ):ε η:=
 ((if 48<=a then θ (decide (a<=57))else θ ν).bind λb=>θ b)
def ls(fu:Nat)(a:ζ):ε Int:=
 ((WD fu a).bind λb=>bif b then θ ((a-48).toNat)else(if 65<=a then θ (decide (a<=70))else θ ν).bind λd=>bif d then(gd (bK (((a-65).toNat)+10))<|some (((a-65).toNat)+10))else(if 97<=a then θ (decide (a<=102))else θ ν).bind λc=>bif c then(gd (bK (((a-97).toNat)+10))<|some (((a-97).toNat)+10))else θ (-1))
def amj(fu:Nat)(s:aC)(c:Int->ε (Unit⊕(aC×η)))(a:Int):ε (Unit⊕(aC×η)):=
 (if a<γ s then(gd (0<=a/\a<γ s)<|(ls fu (Υ s a)).bind λb=>if b<0 then θ (.inr ([],ν))else gd (bK (a+1))<|c (a+1))else θ (.inl ()))
def auc(fu:Nat)(s:aC):Nat->Int->ε (Unit⊕(aC×η)):=λb a=>bJ (λg v=>amj fu s (λa=>g a) v) b a
theorem awt:auc a d (b+1) c=amj a d (auc a d b) c:=rfl
def arx(fu:Nat)(c:aC->ε aC)(a:aC):ε aC:=
 ((if 1<(γ a:Int)then(gd (0<=(0:Int)/\0<(γ a:Int))<|some (decide ((Υ a 0)=48)))else θ ν).bind λb=>bif b then(gd (0<=(1:Int)/\1<=(γ a:Int))<|c (dG (bR 1) a))else θ a)
def aub(fu:Nat):Nat->aC->ε aC:=λb a=>bJ (λg v=>arx fu (λa=>g a) v) b a
theorem bdo:aub a (b+1) d=arx a (aub a b) d:=rfl
def bcf(fu:Nat)(s:aC):ε (aC×η):=
 ((if γ s<(1:Int)then θ μ else θ (decide (4<(γ s:Int)))).bind λa=>bif a then θ ([],ν)else(auc fu s fu 0).bind λd=>dQ (λe=>(aub fu fu s).bind λc=>(LI fu c).bind λb=>θ (b,μ)) (λq=>θ q) d)
def aqa(fu:Nat)(b:δ aC)(f:aC->Int->ε (aC⊕(aC×Int×η)))(c:aC)(a:Int):ε (aC⊕(aC×Int×η)):=
 (if a<γ b then(gd (0<=a/\a<γ b)<|gd (0<=a/\a<γ b)<|(bcf fu (el b a)).bind λd=>bif (!d.2)then θ (.inr ([],0,ν))else(if 0<a then(gd (γ c+γ ([58]:aC)<=9223372036854775807)<|some (c++[58]))else θ c).bind λe=>gd (γ e+γ d.1<=9223372036854775807)<|gd (bK (a+1))<|f (e++d.1) (a+1))else θ (.inl c))
def ami(fu:Nat)(c:δ aC):Nat->aC->Int->ε (aC⊕(aC×Int×η)):=λd b a=>bJ (λg v=>aqa fu c (λb a=>g (b,a)) v.1 v.2) d (b,a)
theorem bbt:ami a h (b+1) d c=aqa a h (ami a h b) d c:=rfl
def ara(fu:Nat)(s:aC):ε (aC×Int×η):=
 (if s=[]then θ ([],0,μ)else(avo fu s 58).bind λa=>(ami fu a fu [] 0).bind λc=>dQ (λb=>θ (b,γ a,μ)) (λq=>θ q) c)
def avy(fu:Nat)(s:aC)(f:Int->ε (Unit⊕(aC×η)))(a:Int):ε (Unit⊕(aC×η)):=
 (gd (bK (a+1))<|if(a+1)<γ s then((gd (0<=a/\a<γ s)<|if(Υ s a)=58 then(gd (bK (a+1))<|gd (0<=(a+1)/\(a+1)<γ s)<|some (!decide ((Υ s (a+1))=58)))else θ μ).bind λe=>bif e then(gd (bK (a+1))<|f (a+1))else gd (0<=a/\a<=γ s)<|(ara fu (eP (bR a) s)).bind λb=>gd (bK (a+2))<|gd (0<=(a+2)/\(a+2)<=γ s)<|(ara fu (dG (bR (a+2)) s)).bind λc=>(bif (!b.2.2)then θ μ else bif (!c.2.2)then θ μ else gd (bK (b.2.1+c.2.1))<|some (decide (7<(b.2.1+c.2.1)))).bind λd=>bif d then θ (.inr ([],ν))else gd (γ b.1+γ ([58,58]:aC)<=9223372036854775807)<|gd (γ (b.1++([58,58]))+γ c.1<=9223372036854775807)<|some (.inr ((b.1++([58,58]))++c.1,μ)))else θ (.inl ()))
def aot(fu:Nat)(s:aC):Nat->Int->ε (Unit⊕(aC×η)):=λb a=>bJ (λg v=>avy fu s (λa=>g a) v) b a
theorem bgt:aot a d (b+1) c=avy a d (aot a d b) c:=rfl
def bie(fu:Nat)(s:aC):ε (aC×η):=
 ((aot fu s fu 0).bind λc=>dQ (λd=>(ara fu s).bind λa=>(bif a.2.2 then θ (decide (a.2.1=8))else θ ν).bind λb=>θ (a.1,b)) (λq=>θ q) c)
def avp(fu:Nat)(a:ζ):ε η:=
 ((if 65<=a then(if a<=90 then θ μ else if 97<=a then θ (decide (a<=122))else θ ν)else if 97<=a then θ (decide (a<=122))else θ ν).bind λb=>θ b)
def arv(fu:Nat)(s:aC)(c:η->Int->ε (η⊕(η×η)))(b:η)(a:Int):ε (η⊕(η×η)):=
 (if a<γ s then((gd (0<=a/\a<γ s)<|(avp fu (Υ s a)).bind λg=>bif (!g)then(gd (0<=a/\a<γ s)<|(WD fu (Υ s a)).bind λf=>bif (!f)then(gd (0<=a/\a<γ s)<|some (!decide ((Υ s a)=45)))else θ ν)else θ ν).bind λe=>bif e then θ (.inr (ν,ν))else bif b then(gd (bK (a+1))<|c μ (a+1))else gd (0<=a/\a<γ s)<|(WD fu (Υ s a)).bind λd=>gd (bK (a+1))<|c (!d) (a+1))else θ (.inl b))
def agu(fu:Nat)(s:aC):Nat->η->Int->ε (η⊕(η×η)):=λc b a=>bJ (λg v=>arv fu s (λb a=>g (b,a)) v.1 v.2) c (b,a)
theorem bdm:agu a d (b+1) q c=arv a d (agu a d b) q c:=rfl
def bce(fu:Nat)(s:aC):ε (η×η):=
 ((if γ s<(1:Int)then θ μ else if 63<(γ s:Int)then θ μ else gd (0<=(0:Int)/\0<(γ s:Int))<|if(Υ s 0)=45 then θ μ else gd (bK (γ s-1))<|gd (0<=(γ s-(1:Int))/\(γ s-1)<(γ s:Int))<|some (decide ((Υ s (γ s-1))=45))).bind λc=>bif c then θ (ν,ν)else(agu fu s fu ν 0).bind λb=>dQ (λa=>θ (μ,a)) (λq=>θ q) b)
def apz(fu:Nat)(s:aC)(d:Int->Int->ε (Int⊕η))(b:Int)(a:Int):ε (Int⊕η):=
 (if a<γ s then(gd (0<=a/\a<γ s)<|(WD fu (Υ s a)).bind λc=>bif (!c)then θ (.inr ν)else gd (bK (10*b))<|gd (0<=a/\a<γ s)<|gd (bK ((10*b)+(((Υ s a)-48).toNat)))<|gd (bK (a+1))<|d ((10*b)+(((Υ s a)-48).toNat)) (a+1))else θ (.inl b))
def ajj(fu:Nat)(s:aC):Nat->Int->Int->ε (Int⊕η):=λc b a=>bJ (λg v=>apz fu s (λb a=>g (b,a)) v.1 v.2) c (b,a)
theorem bbs:ajj a d (b+1) c g=apz a d (ajj a d b) c g:=rfl
def bae(fu:Nat)(s:aC):ε η:=
 ((if γ s<(1:Int)then θ μ else if 3<(γ s:Int)then θ μ else if 1<(γ s:Int)then(gd (0<=(0:Int)/\0<(γ s:Int))<|some (decide ((Υ s 0)=48)))else θ ν).bind λa=>bif a then θ ν else(ajj fu s fu 0 0).bind λc=>dQ (λb=>θ (decide (b<=255))) (λq=>θ q) c)
def aug(fu:Nat)(b:δ aC)(g:η->η->Int->ε ((η×η)⊕(aC×η)))(f:η)(e:η)(a:Int):ε ((η×η)⊕(aC×η)):=
 (if a<γ b then(gd (0<=a/\a<γ b)<|gd (0<=a/\a<γ b)<|(bce fu (el b a)).bind λd=>bif (!d.1)then θ (.inr ([],ν))else(bif e then θ μ else θ d.2).bind λc=>bif f then(gd (0<=a/\a<γ b)<|gd (0<=a/\a<γ b)<|(bae fu (el b a)).bind λh=>gd (bK (a+1))<|g h c (a+1))else gd (bK (a+1))<|g ν c (a+1))else θ (.inl (f,e)))
def aqu(fu:Nat)(e:δ aC):Nat->η->η->Int->ε ((η×η)⊕(aC×η)):=λd c b a=>bJ (λg v=>aug fu e (λc b a=>g (c,b,a)) v.1 v.2.1 v.2.2) d (c,b,a)
theorem bfb{d:η}:aqu a h (b+1) q d c=aug a h (aqu a h b) q d c:=rfl
def atg(fu:Nat)(s:aC):ε (aC×η):=
 ((if 2<=(γ s:Int)then(gd (0<=(0:Int)/\0<(γ s:Int))<|if(Υ s 0)=91 then(gd (bK (γ s-1))<|gd (0<=(γ s-(1:Int))/\(γ s-1)<(γ s:Int))<|some (decide ((Υ s (γ s-1))=93)))else θ ν)else θ ν).bind λd=>bif d then(gd (bK (γ s-1))<|gd (0<=(1:Int)/\1<=(γ s-(1:Int))/\(γ s-1)<=(γ s:Int))<|(bie fu (sub s 1 (γ s-1))).bind λa=>bif (!a.2)then θ ([],ν)else gd (γ ([91]:aC)+γ a.1<=9223372036854775807)<|gd (γ ([91]++a.1)+γ ([93]:aC)<=9223372036854775807)<|some ((([91]:aC)++a.1)++([93]:aC),μ))else(avo fu s 46).bind λc=>(aqu fu c fu (decide (γ c=(4:Int))) ν 0).bind λg=>dQ (λb=>(if 255<(γ s:Int)then θ μ else bif (!b.2)then θ (!b.1)else θ ν).bind λf=>bif f then θ ([],ν)else(LI fu s).bind λe=>θ (e,μ)) (λq=>θ q) g)
def ali(fu:Nat)(s:aC)(d:Int->Int->ε (Int⊕(Int×ζ)))(b:Int)(a:Int):ε (Int⊕(Int×ζ)):=
 (if a<γ s then((gd (0<=a/\a<γ s)<|if(Υ s a)<48 then θ μ else gd (0<=a/\a<γ s)<|if 57<(Υ s a)then θ μ else θ (decide (10<=a))).bind λc=>bif c then θ (.inr (0,5))else gd (bK (10*b))<|gd (0<=a/\a<γ s)<|gd (bK ((10*b)+(((Υ s a)-48).toNat)))<|gd (bK (a+1))<|d ((10*b)+(((Υ s a)-48).toNat)) (a+1))else θ (.inl b))
def amr(fu:Nat)(s:aC):Nat->Int->Int->ε (Int⊕(Int×ζ)):=λc b a=>bJ (λg v=>ali fu s (λb a=>g (b,a)) v.1 v.2) c (b,a)
theorem avb:amr a d (b+1) c g=ali a d (amr a d b) c g:=rfl
def avq(fu:Nat)(s:aC):ε (Int×ζ):=
 ((amr fu s fu 0 0).bind λb=>dQ (λa=>if s=[]then θ (0,5)else if 2147483647<a then θ (0,3)else θ (a,0)) (λq=>θ q) b)
def bac(fu:Nat)(c:aC):ε (Int×ζ):=
 ((axg fu c).bind λb=>(avq fu b).bind λa=>θ (a.1,a.2))
def lz:Nat->Int->ε aC
 |0,_=>ι
 |c+1,a=>(if a<10 then(gd (bK (a+1))<|gd (0<=a/\a<=(a+1)/\(a+1)<=(γ ([48,49,50,51,52,53,54,55,56,57]:aC)))<|some (sub ([48,49,50,51,52,53,54,55,56,57]) a (a+1)))else gd (0<=a/\0<(10:Int)/\bK (a))<|(lz c (a/10)).bind λb=>gd (0<=a/\0<(10:Int)/\bK (a))<|gd (0<=a/\0<(10:Int)/\bK (a))<|gd (bK ((a%10)+1))<|gd (0<=(a%10)/\(a%10)<=((a%10)+1)/\((a%10)+1)<=(γ ([48,49,50,51,52,53,54,55,56,57]:aC)))<|gd (γ b+γ (sub ([48,49,50,51,52,53,54,55,56,57]) (a%10) ((a%10)+1))<=9223372036854775807)<|some (b++(sub ([48,49,50,51,52,53,54,55,56,57]) (a%10) ((a%10)+1))))
def arp(fu:Nat)(b:aC)(d:Int->Int->ε Int)(c:Int)(a:Int):ε Int:=
 (if a<γ b then(gd (0<=a/\a<γ b)<|if(Υ b a)=58 then(gd (bK (a+1))<|d a (a+1))else gd (bK (a+1))<|d c (a+1))else θ c)
def aoq(fu:Nat)(d:aC):Nat->Int->Int->ε Int:=λc b a=>bJ (λg v=>arp fu d (λb a=>g (b,a)) v.1 v.2) c (b,a)
theorem bdi:aoq a d (b+1) c g=arp a d (aoq a d b) c g:=rfl
def bcc(fu:Nat)(b:aC):ε (aC×Int×η):=
 ((aoq fu b fu (-1) 0).bind λa=>if a<0 then θ ([],0,ν)else gd (0<=a/\a<=γ b)<|(atg fu (eP (bR a) b)).bind λd=>gd (bK (a+1))<|gd (0<=(a+1)/\(a+1)<=γ b)<|(bac fu (dG (bR (a+1)) b)).bind λc=>(bif (!d.2)then θ μ else gd (0<=a/\a<=γ b)<|if d.1=(eP (bR a) b)then(if c.2=0 then(if c.1<1 then θ μ else if 65535<c.1 then θ μ else(lz fu c.1).bind λf=>gd (bK (a+1))<|gd (0<=(a+1)/\(a+1)<=γ b)<|some (!decide (f=(dG (bR (a+1)) b))))else θ μ)else θ μ).bind λe=>bif e then θ ([],0,ν)else θ (d.1,c.1,μ))
def atc(fu:Nat)(b:aC):ε η:=
 ((bcc fu b).bind λa=>θ a.2.2)
def arw(fu:Nat)(s:aC)(c:ζ)(b:Int->ε (Unit⊕Int))(a:Int):ε (Unit⊕Int):=
 (if a<γ s then(gd (0<=a/\a<γ s)<|if(Υ s a)=c then θ (.inr a)else gd (bK (a+1))<|b (a+1))else θ (.inl ()))
def atz(fu:Nat)(s:aC)(c:ζ):Nat->Int->ε (Unit⊕Int):=λb a=>bJ (λg v=>arw fu s c (λa=>g a) v) b a
theorem bdn:atz a d l (b+1) c=arw a d l (atz a d l b) c:=rfl
def aua(fu:Nat)(s:aC)(c:Int)(b:ζ):ε Int:=
 ((atz fu s b fu c).bind λa=>dQ (λd=>θ (-1)) (λq=>θ q) a)
def aiv(fu:Nat)(s:aC)(c:ζ)(b:Int->ε (Unit⊕η))(a:Int):ε (Unit⊕η):=
 (if a<γ s then(gd (0<=a/\a<γ s)<|if(Υ s a)=c then θ (.inr μ)else gd (bK (a+1))<|b (a+1))else θ (.inl ()))
def anx(fu:Nat)(s:aC)(c:ζ):Nat->Int->ε (Unit⊕η):=λb a=>bJ (λg v=>aiv fu s c (λa=>g a) v) b a
theorem are:anx a d l (b+1) c=aiv a d l (anx a d l b) c:=rfl
def XQ(fu:Nat)(s:aC)(b:ζ):ε η:=
 ((anx fu s b fu 0).bind λa=>dQ (λc=>θ ν) (λq=>θ q) a)
def afy(fu:Nat)(b:(aC×Int×Int×ζ))(f:aC)(e:Int->ε Int)(a:Int):ε Int:=
 ((if a<γ b.1 then(gd (0<=a/\a<γ b.1)<|(XQ fu f (Υ b.1 a)).bind λd=>θ (!d))else θ ν).bind λc=>bif c then(gd (bK (a+1))<|e (a+1))else θ a)
def ajg(fu:Nat)(d:(aC×Int×Int×ζ))(c:aC):Nat->Int->ε Int:=λb a=>bJ (λg v=>afy fu d c (λa=>g a) v) b a
variable{i:(aC×Int×Int×ζ)}
theorem alw:ajg a i d (b+1) c=afy a i d (ajg a i d b) c:=rfl
def XR(fu:Nat)(a:(aC×Int×Int×ζ))(c:aC):ε Int:=
 ((ajg fu a c fu a.2.1).bind λb=>θ b)
open List renaming take → eP
def baf(fu:Nat)(s:aC)(a:Int):ε Int:=
 ((gd (bK (a+2))<|if γ s<=(a+2)then θ μ else gd (0<=a/\a<γ s)<|if(Υ s a)=37 then(gd (bK (a+1))<|gd (0<=(a+1)/\(a+1)<γ s)<|(ls fu (Υ s (a+1))).bind λf=>if f<0 then θ μ else gd (bK (a+2))<|gd (0<=(a+2)/\(a+2)<γ s)<|(ls fu (Υ s (a+2))).bind λe=>θ (decide (e<0)))else θ μ).bind λd=>bif d then θ (-1)else gd (bK (a+1))<|gd (0<=(a+1)/\(a+1)<γ s)<|(ls fu (Υ s (a+1))).bind λb=>gd (bK (16*b))<|gd (bK (a+2))<|gd (0<=(a+2)/\(a+2)<γ s)<|(ls fu (Υ s (a+2))).bind λc=>gd (bK ((16*b)+c))<|some ((16*b)+c))
def Jf(fu:Nat)(a:(aC×Int×Int×ζ))(c:Int)(b:ζ):ε (aC×Int×Int×ζ):=
 (if a.2.2.2=0 then θ (a.1,a.2.1,c,b)else θ a)
def bgu(fu:Nat)(a:ζ)(b:Int):ε η:=
 (((avp fu a).bind λi=>bif i then θ μ else(WD fu a).bind λh=>bif h then θ μ else(XQ fu ([45,95,46,33,126,42,39,40,41]) a).bind λg=>θ g).bind λf=>bif f then θ μ else if b=0 then((XQ fu ([38,61,43,36,44,59,63,47]) a).bind λe=>θ e)else if b=1 then((XQ fu ([91,93,47,58,38,43,36]) a).bind λd=>θ d)else if b=2 then((XQ fu ([91,93,47,63,58,43,36]) a).bind λc=>θ c)else θ ν)
def afc(fu:Nat)(b:(aC×Int×Int×ζ))(d:Int)(n:Int)(m:(δ ζ)->Int->ε ((δ ζ)⊕(aC×(aC×Int×Int×ζ))))(f:δ ζ)(a:Int):ε ((δ ζ)⊕(aC×(aC×Int×Int×ζ))):=
 (if a<d then(gd (0<=a/\a<γ b.1)<|(if((Υ b.1 a).toNat)=(37:Int)then(gd (0<=d/\d<=γ b.1)<|(baf fu (eP (bR d) b.1) a).bind λe=>(if e<0 then θ μ else(aoy fu (AH e)).bind λl=>θ l).bind λk=>bif k then((Jf fu b a 5).bind λj=>θ (.inr ([],j)))else gd (bK (a+2))<|some (.inl (a+2,e)))else(bgu fu (AH ((Υ b.1 a).toNat)) n).bind λi=>bif (!i)then((Jf fu b a 5).bind λh=>θ (.inr ([],h)))else θ (.inl (a,((Υ b.1 a).toNat)))).bind λg=>dQ (λc=>gd ((γ f+γ ([AH c.2]))*1<=140737488355328)<|gd (bK (c.1+1))<|m (f++([AH c.2])) (c.1+1)) (λq=>θ (.inr q)) g)else θ (.inl f))
def ahw(fu:Nat)(f:(aC×Int×Int×ζ))(e:Int)(d:Int):Nat->(δ ζ)->Int->ε ((δ ζ)⊕(aC×(aC×Int×Int×ζ))):=λc b a=>bJ (λg v=>afc fu f e d (λb a=>g (b,a)) v.1 v.2) c (b,a)
variable{y:Int}
theorem ake:ahw a i c g (b+1) f y=afc a i c g (ahw a i c g b) f y:=rfl
def adi(fu:Nat)(a:(aC×Int×Int×ζ))(b:Int)(e:Int):ε (aC×(aC×Int×Int×ζ)):=
 ((ahw fu a b e fu [] a.2.1).bind λd=>dQ (λ(c:δ ζ)=>θ (c,(a.1,b,a.2.2.1,a.2.2.2))) (λq=>θ q) d)
def ajf(fu:Nat)(b:(aC×Int×Int×ζ))(d:Int)(g:Int->ε (Unit⊕(aC×(aC×Int×Int×ζ))))(a:Int):ε (Unit⊕(aC×(aC×Int×Int×ζ))):=
 (if a<d then(gd (0<=a/\a<γ b.1)<|if(Υ b.1 a)=58 then((adi fu (b.1,b.2.1,0,0) a 0).bind λc=>(Jf fu b c.2.2.2.1 c.2.2.2.2).bind λf=>(Jf fu f a 15).bind λe=>θ (.inr ([],e)))else gd (bK (a+1))<|g (a+1))else θ (.inl ()))
def ahh(fu:Nat)(d:(aC×Int×Int×ζ))(b:Int):Nat->Int->ε (Unit⊕(aC×(aC×Int×Int×ζ))):=λc a=>bJ (λg v=>ajf fu d b (λa=>g a) v) c a
theorem avm:ahh a i c (b+1) g=ajf a i c (ahh a i c b) g:=rfl
def ale(fu:Nat)(a:(aC×Int×Int×ζ)):ε (aC×(aC×Int×Int×ζ)):=
 ((XR fu a [64]).bind λb=>if b=γ a.1 then θ ([],a)else(ahh fu a b fu a.2.1).bind λf=>dQ (λg=>(if b=a.2.1 then((Jf fu a b 5).bind λd=>θ (d.1,d.2.1,d.2.2.1,d.2.2.2))else θ (a.1,a.2.1,a.2.2.1,a.2.2.2)).bind λe=>(adi fu e b 0).bind λc=>gd (bK (b+1))<|some (c.1,(c.2.1,b+1,c.2.2.2.1,c.2.2.2.2))) (λq=>θ q) f)
def LL(fu:Nat)(a:(aC×Int×Int×ζ))(c:ζ):ε η:=
 ((if a.2.2.2=0 then(if a.2.1<γ a.1 then(gd (0<=a.2.1/\a.2.1<γ a.1)<|some (decide ((Υ a.1 a.2.1)=c)))else θ ν)else θ ν).bind λb=>θ b)
def wv(fu:Nat)(a:(aC×Int×Int×ζ)):ε (aC×(aC×Int×Int×ζ)):=
 (if a.2.2.2=0 then((XR fu a ([58,59,63])).bind λg=>((LL fu a 91).bind λh=>bif h then((XR fu a [93]).bind λf=>gd (bK (f+1))<|some (min (f+1) (γ a.1)))else θ g).bind λc=>gd (0<=a.2.1/\a.2.1<=c/\c<=γ a.1)<|(atg fu (sub a.1 a.2.1 c)).bind λe=>(bif (!e.2)then((Jf fu a a.2.1 5).bind λb=>θ (b.1,b.2.1,b.2.2.1,b.2.2.2))else θ (a.1,a.2.1,a.2.2.1,a.2.2.2)).bind λd=>θ (e.1,(d.1,c,d.2.2.1,d.2.2.2)))else θ ([],a))
def adc(fu:Nat)(a:(aC×Int×Int×ζ)):ε (Int×(aC×Int×Int×ζ)):=
 ((LL fu a 58).bind λi=>bif (!i)then(((if a.2.1<γ a.1 then((LL fu a 59).bind λn=>bif (!n)then((LL fu a 63).bind λm=>θ (!m))else θ ν)else θ ν).bind λl=>bif l then((Jf fu a a.2.1 5).bind λg=>θ (g.1,g.2.1,g.2.2.1,g.2.2.2))else θ (a.1,a.2.1,a.2.2.1,a.2.2.2)).bind λk=>θ (0,k))else gd (bK (a.2.1+1))<|(XR fu (a.1,a.2.1+1,a.2.2.1,a.2.2.2) ([59,63])).bind λf=>gd (0<=(a.2.1+1)/\(a.2.1+1)<=f/\f<=γ a.1)<|(avq fu (sub a.1 (a.2.1+1) f)).bind λc=>(if c.2=0 then θ (a.1,a.2.1+1,a.2.2.1,a.2.2.2)else(Jf fu (a.1,a.2.1+1,a.2.2.1,a.2.2.2) (a.2.1+1) c.2).bind λe=>θ (e.1,e.2.1,e.2.2.1,e.2.2.2)).bind λb=>((if c.1<1 then θ μ else θ (decide (65535<c.1))).bind λj=>bif j then((Jf fu b b.2.1 3).bind λd=>θ (d.1,d.2.1,d.2.2.1,d.2.2.2))else θ (b.1,b.2.1,b.2.2.1,b.2.2.2)).bind λh=>θ (c.1,(h.1,f,h.2.2.1,h.2.2.2)))
def aio(fu:Nat)(b:(aC×Int×Int×ζ))(e:Int)(d:Int->ε Int)(a:Int):ε Int:=
 ((if a<e then(gd (0<=a/\a<γ b.1)<|some (!decide ((Υ b.1 a)=61)))else θ ν).bind λc=>bif c then(gd (bK (a+1))<|d (a+1))else θ a)
def ajh(fu:Nat)(d:(aC×Int×Int×ζ))(c:Int):Nat->Int->ε Int:=λb a=>bJ (λg v=>aio fu d c (λa=>g a) v) b a
theorem auu:ajh a i c (b+1) g=aio a i c (ajh a i c b) g:=rfl
def anv(fu:Nat)(l:(aC×Int×Int×ζ))(e:Int)(k:Int):ε (PQ×(aC×Int×Int×ζ)):=
 ((ajh fu l e fu l.2.1).bind λd=>(adi fu l d k).bind λc=>(if c.1=[]then((Jf fu c.2 l.2.1 5).bind λj=>θ (j.1,j.2.1,j.2.2.1,j.2.2.2))else θ (c.2.1,c.2.2.1,c.2.2.2.1,c.2.2.2.2)).bind λg=>(LI fu c.1).bind λo=>((if k=2 then θ (decide (d=e))else θ ν).bind λn=>bif n then((Jf fu g e 5).bind λi=>θ (i.1,i.2.1,i.2.2.1,i.2.2.2))else θ (g.1,g.2.1,g.2.2.1,g.2.2.2)).bind λb=>(if d<e then(gd (bK (d+1))<|(adi fu (b.1,d+1,b.2.2.1,b.2.2.2) e k).bind λa=>(if k=1 then θ (decide (a.1=[]))else θ ν).bind λm=>bif m then(gd (bK (d+1))<|(Jf fu a.2 (d+1) 5).bind λh=>θ (h.1,h.2.1,h.2.2.1,h.2.2.2,a.1,μ))else θ (a.2.1,a.2.2.1,a.2.2.2.1,a.2.2.2.2,a.1,μ))else θ (b.1,b.2.1,b.2.2.1,b.2.2.2,[],ν)).bind λf=>θ ((o,f.2.2.2.2.1,f.2.2.2.2.2),(f.1,e,f.2.2.1,f.2.2.2.1)))
def aov(fu:Nat)(b:LQ)(f:aC)(e:Int->ε (Unit⊕Int))(a:Int):ε (Unit⊕Int):=
 (if a<γ b then(gd (0<=a/\a<γ b)<|gd (0<=a/\a<γ b)<|(LI fu ((el b a).1)).bind λd=>(LI fu f).bind λc=>if d=c then θ (.inr a)else gd (bK (a+1))<|e (a+1))else θ (.inl ()))
def avz(fu:Nat)(d:LQ)(c:aC):Nat->Int->ε (Unit⊕Int):=λb a=>bJ (λg v=>aov fu d c (λa=>g a) v) b a
theorem ayk:avz a m d (b+1) c=aov a m d (avz a m d b) c:=rfl
def bex(fu:Nat)(c:LQ)(b:aC):ε Int:=
 ((avz fu c b fu 0).bind λa=>dQ (λd=>θ (-1)) (λq=>θ q) a)
open Go.Op renaming bytesLess → qK
def WC(fu:Nat)(a:LQ)(c:aC):ε ζ:=
 ((bex fu a c).bind λb=>if 0<=b then θ 7 else if 16<=(γ a:Int)then θ 4 else θ 0)
def aqb(fu:Nat)(d:LQ)(c:LQ)(b:Int)(f:Int->ε Int)(a:Int):ε Int:=
 ((if 0<a then(gd (bK (a-1))<|gd (0<=(a-1)/\(a-1)<γ c)<|gd (0<=(a-1)/\(a-1)<γ c)<|gd (0<=b/\b<γ d)<|gd (0<=b/\b<γ d)<|some (!(qK ((el c (a-1)).1) ((el d b).1)||((el c (a-1)).1)==((el d b).1))))else θ ν).bind λe=>bif e then(gd (bK (a-1))<|f (a-1))else θ a)
def amk(fu:Nat)(e:LQ)(d:LQ)(c:Int):Nat->Int->ε Int:=λb a=>bJ (λg v=>aqb fu e d c (λa=>g a) v) b a
theorem auz:amk a m s c (b+1) g=aqb a m s c (amk a m s c b) g:=rfl
def alh(fu:Nat)(b:LQ)(f:LQ->Int->ε LQ)(c:LQ)(a:Int):ε LQ:=
 (if a<γ b then(((amk fu b c a fu (γ c)).bind λd=>gd (0<=d/\d<=γ c)<|gd ((γ ([]:LQ)+γ (eP (bR d) c))*40<=140737488355328)<|gd (0<=a/\a<γ b)<|gd (0<=a/\a<γ b)<|gd ((γ ([]++(eP (bR d) c))+γ ([((el b a).1,(el b a).2.1,((el b a).2.2))]))*40<=140737488355328)<|gd (0<=d/\d<=γ c)<|gd ((γ (([]++(eP (bR d) c))++([((el b a).1,(el b a).2.1,((el b a).2.2))]))+γ (dG (bR d) c))*40<=140737488355328)<|some ((([]++(eP (bR d) c))++([((el b a).1,(el b a).2.1,((el b a).2.2))]))++(dG (bR d) c))).bind λe=>gd (bK (a+1))<|f e (a+1))else θ c)
def ajk(fu:Nat)(d:LQ):Nat->LQ->Int->ε LQ:=λc b a=>bJ (λg v=>alh fu d (λb a=>g (b,a)) v.1 v.2) c (b,a)
theorem ava:ajk a m (b+1) s c=alh a m (ajk a m b) s c:=rfl
def anh(fu:Nat)(b:LQ):ε LQ:=
 ((ajk fu b fu [] 0).bind λa=>θ a)
def aji(fu:Nat)(p:ζ)(o:aC)(n:Int)(m:LQ->ζ->aC->Int->Int->ζ->ε (LQ×aC×Int×Int×ζ))(h:LQ)(l:ζ)(g:aC)(b:Int)(f:Int)(e:ζ):ε (LQ×aC×Int×Int×ζ):=
 ((LL fu (g,b,f,e) l).bind λk=>bif k then(gd (bK (b+1))<|(XR fu (g,b+1,f,e) o).bind λj=>(anv fu (g,b+1,f,e) j n).bind λa=>(WC fu h a.1.1).bind λi=>(if i=0 then θ (a.2.1,a.2.2.1,a.2.2.2.1,a.2.2.2.2)else(Jf fu a.2 (b+1) i).bind λd=>θ (d.1,d.2.1,d.2.2.1,d.2.2.2)).bind λc=>gd ((γ h+[a.1].length)*40<=140737488355328)<|m (h++[a.1]) p c.1 c.2.1 c.2.2.1 c.2.2.2)else θ (h,g,b,f,e))
def xc(fu:Nat)(k:ζ)(j:aC)(i:Int):Nat->LQ->ζ->aC->Int->Int->ζ->ε (LQ×aC×Int×Int×ζ):=λh f e d c b a=>bJ (λg v=>aji fu k j i (λf e d c b a=>g (f,e,d,c,b,a)) v.1 v.2.1 v.2.2.1 v.2.2.2.1 v.2.2.2.2.1 v.2.2.2.2.2) h (f,e,d,c,b,a)
theorem avn{i:ζ}{e:ζ}:xc a l d c (b+1) m i o g y e=aji a l d c (xc a l d c b) m i o g y e:=rfl
def Zs(fu:Nat)(a:(aC×Int×Int×ζ))(g:ζ)(f:ζ)(e:aC)(d:Int):ε (LQ×(aC×Int×Int×ζ)):=
 ((xc fu f e d fu [] g a.1 a.2.1 a.2.2.1 a.2.2.2).bind λb=>(anh fu b.1).bind λc=>θ (c,b.2))
def aeg(fu:Nat)(b:(aC×Int×Int×ζ))(f:Int)(d:η)(e:(δ ζ)->Int->ε ((δ ζ)⊕(aC×(aC×Int×Int×ζ))))(c:δ ζ)(a:Int):ε ((δ ζ)⊕(aC×(aC×Int×Int×ζ))):=
 (if a<f then(gd (0<=a/\a<γ b.1)<|((WD fu (Υ b.1 a)).bind λj=>bif j then θ μ else bif (!d)then(if(Υ b.1 a)=42 then θ μ else if(Υ b.1 a)=35 then θ μ else bif d then θ (decide (a=b.2.1))else θ ν)else bif d then θ (decide (a=b.2.1))else θ ν).bind λi=>bif i then(gd ((γ c+γ ([Υ b.1 a]))*1<=140737488355328)<|gd (bK (a+1))<|e (c++([Υ b.1 a])) (a+1))else(XQ fu ([45,46,40,41]) (Υ b.1 a)).bind λh=>bif (!h)then((Jf fu b a 5).bind λg=>θ (.inr ([],g)))else gd (bK (a+1))<|e c (a+1))else θ (.inl c))
def abw(fu:Nat)(f:(aC×Int×Int×ζ))(d:Int)(c:η):Nat->(δ ζ)->Int->ε ((δ ζ)⊕(aC×(aC×Int×Int×ζ))):=λe b a=>bJ (λg v=>aeg fu f d c (λb a=>g (b,a)) v.1 v.2) e (b,a)
theorem aiu:abw a i c q (b+1) f g=aeg a i c q (abw a i c q b) f g:=rfl
def aex(fu:Nat)(a:(aC×Int×Int×ζ)):ε (aC×(aC×Int×Int×ζ)):=
 ((XR fu a [59]).bind λh=>(LL fu a 43).bind λg=>(abw fu a h g fu [] a.2.1).bind λj=>dQ (λ(e:δ ζ)=>(bif g then(gd (bK (γ e-1))<|some (γ e-(1:Int)))else θ (γ e)).bind λi=>(if i<1 then((Jf fu a a.2.1 5).bind λd=>θ (d.1,d.2.1,d.2.2.1,d.2.2.2))else θ (a.1,a.2.1,a.2.2.1,a.2.2.2)).bind λb=>(if 30<i then((Jf fu b a.2.1 4).bind λc=>θ (c.1,c.2.1,c.2.2.1,c.2.2.2))else θ (b.1,b.2.1,b.2.2.1,b.2.2.2)).bind λf=>θ (e,(f.1,h,f.2.2.1,f.2.2.2))) (λq=>θ q) j)
def aym(fu:Nat)(s:aC):ε (UQ×Int×ζ):=
 (if 1024<(γ s:Int)then θ (([],[],[],0,[],[]),1024,4)else(XR fu (s,0,0,0) [58]).bind λb=>if b=γ s then θ (([],[],[],0,[],[]),γ s,5)else gd (0<=b/\b<=γ s)<|(LI fu (eP (bR b) s)).bind λe=>gd (bK (b+1))<|((if e=([115,105,112])then θ (decide (e=([115,105,112])))else θ (decide (e=([115,105,112,115])))).bind λl=>bif l then((ale fu (s,b+1,0,0)).bind λj=>(wv fu j.2).bind λi=>(adc fu i.2).bind λh=>(Zs fu h.2 59 59 ([59,63]) 1).bind λg=>(Zs fu g.2 63 38 [38] 2).bind λd=>θ (.inl (d.2.1,d.2.2.1,d.2.2.2.1,d.2.2.2.2,j.1,i.1,h.1,g.1,d.1)))else if e=([116,101,108])then((aex fu (s,b+1,0,0)).bind λf=>(Zs fu f.2 59 59 [59] 1).bind λc=>θ (.inl (c.2.1,c.2.2.1,c.2.2.2.1,c.2.2.2.2,f.1,[],0,c.1,[])))else θ (.inr (([],[],[],0,[],[]),0,15))).bind λk=>dQ (λa=>if a.2.2.2.1=0 then θ ((e,a.2.2.2.2.1,a.2.2.2.2.2.1,a.2.2.2.2.2.2.1,a.2.2.2.2.2.2.2.1,a.2.2.2.2.2.2.2.2),0,0)else θ (([],[],[],0,[],[]),a.2.2.1,a.2.2.2.1)) (λq=>θ q) k)
def amf(fu:Nat)(s:aC)(c:Int->ε Int)(a:Int):ε Int:=
 ((if a<γ s then(gd (0<=a/\a<γ s)<|some (!decide ((Υ s a)=93)))else θ ν).bind λb=>bif b then(gd (bK (a+1))<|c (a+1))else θ a)
def atw(fu:Nat)(s:aC):Nat->Int->ε Int:=λb a=>bJ (λg v=>amf fu s (λa=>g a) v) b a
theorem awr:atw a d (b+1) c=amf a d (atw a d b) c:=rfl
def bcd(fu:Nat)(s:aC)(a:Int):ε (aC×Int×ζ):=
 ((if a<γ s then(gd (0<=a/\a<γ s)<|some (decide ((Υ s a)=34)))else θ ν).bind λv6=>bif v6 then((aow fu s a).bind λd=>θ (d.1,d.2.1,d.2.2))else((if a<γ s then(gd (0<=a/\a<γ s)<|some (decide ((Υ s a)=91)))else θ ν).bind λg=>bif g then((atw fu s fu a).bind λb=>gd (bK (b+1))<|gd (0<=a/\a<=(min (b+1) (γ s))/\(min (b+1) (γ s))<=γ s)<|(atg fu (sub s a (min (b+1) (γ s)))).bind λe=>bif (!e.2)then θ (.inr ([],a,5))else gd (bK (b+1))<|some (.inr (e.1,b+1,0)))else θ (.inl ())).bind λf=>dQ (λh=>(ahq fu s a).bind λc=>if c=a then θ ([],a,5)else gd (0<=a/\a<=c/\c<=γ s)<|some (sub s a c,c,0)) (λq=>θ q) f)
def aqc(fu:Nat)(s:aC)(n:LQ->Int->ε (LQ⊕(LQ×Int×ζ)))(g:LQ)(c:Int):ε (LQ⊕(LQ×Int×ζ)):=
 (if c<γ s then(gd (0<=c/\c<γ s)<|if(Υ s c)=59 then(gd (bK (c+1))<|(WE fu s (c+1)).bind λb=>(ahq fu s b).bind λf=>if f=b then θ (.inr ([],b,5))else gd (0<=b/\b<=f/\f<=γ s)<|(LI fu (sub s b f)).bind λh=>(WE fu s f).bind λa=>((if a<γ s then(gd (0<=a/\a<γ s)<|some (decide ((Υ s a)=61)))else θ ν).bind λm=>bif m then(gd (bK (a+1))<|(WE fu s (a+1)).bind λl=>(bcd fu s l).bind λe=>if e.2.2=0 then((WE fu s e.2.1).bind λk=>θ (.inl (k,e.1,μ)))else θ (.inr ([],e.2.1,e.2.2)))else θ (.inl (a,[],ν))).bind λj=>dQ (λd=>(WC fu g h).bind λi=>if i=0 then(gd ((γ g+γ ([(h,d.2.1,d.2.2)]))*40<=140737488355328)<|n (g++([(h,d.2.1,d.2.2)])) d.1)else θ (.inr ([],b,i))) (λq=>θ (.inr q)) j)else θ (.inr ([],c,5)))else θ (.inl g))
def aml(fu:Nat)(s:aC):Nat->LQ->Int->ε (LQ⊕(LQ×Int×ζ)):=λc b a=>bJ (λg v=>aqc fu s (λb a=>g (b,a)) v.1 v.2) c (b,a)
theorem bbu:aml a d (b+1) m c=aqc a d (aml a d b) m c:=rfl
def bag(fu:Nat)(s:aC):ε (LQ×Int×ζ):=
 ((WE fu s 0).bind λa=>(aml fu s fu [] a).bind λc=>dQ (λb=>θ (b,0,0)) (λq=>θ q) c)
def axf(fu:Nat)(s:aC)(f:aC)(d:Int)(e:Int)(c:Int):ε (AQ×Int×ζ):=
 (gd (0<=d/\d<=e/\e<=γ s)<|(aym fu (sub s d e)).bind λa=>if a.2.2=0 then(gd (0<=c/\c<=γ s)<|(bag fu (dG (bR c) s)).bind λb=>if b.2.2=0 then θ ((f,a.1,b.1),0,0)else gd (bK (c+b.2.1))<|some (([],([],[],[],0,[],[]),[]),c+b.2.1,b.2.2))else gd (bK (d+a.2.1))<|some (([],([],[],[],0,[],[]),[]),d+a.2.1,a.2.2))
def aue(fu:Nat)(s:aC)(d:Int->ε Int)(a:Int):ε Int:=
 ((if a<γ s then(gd (0<=a/\a<γ s)<|if(Υ s a)=59 then θ ν else gd (0<=a/\a<γ s)<|(wh fu (Υ s a)).bind λc=>θ (!c))else θ ν).bind λb=>bif b then(gd (bK (a+1))<|d (a+1))else θ a)
def awb(fu:Nat)(s:aC):Nat->Int->ε Int:=λb a=>bJ (λg v=>aue fu s (λa=>g a) v) b a
theorem bez:awb a d (b+1) c=aue a d (awb a d b) c:=rfl
def aud(fu:Nat)(s:aC)(d:Int)(c:Int->ε (Unit⊕(AQ×Int×ζ)))(a:Int):ε (Unit⊕(AQ×Int×ζ)):=
 (if a<d then((gd (0<=a/\a<γ s)<|if(Υ s a)=63 then θ μ else gd (0<=a/\a<γ s)<|some (decide ((Υ s a)=44))).bind λb=>bif b then θ (.inr (([],([],[],[],0,[],[]),[]),a,5))else gd (bK (a+1))<|c (a+1))else θ (.inl ()))
def awa(fu:Nat)(s:aC)(c:Int):Nat->Int->ε (Unit⊕(AQ×Int×ζ)):=λb a=>bJ (λg v=>aud fu s c (λa=>g a) v) b a
theorem bey:awa a d c (b+1) g=aud a d c (awa a d c b) g:=rfl
def bfa(fu:Nat)(s:aC)(c:Int):ε (AQ×Int×ζ):=
 ((awb fu s fu c).bind λb=>(awa fu s b fu c).bind λd=>dQ (λe=>(axf fu s [] c b b).bind λa=>θ (a.1,a.2.1,a.2.2)) (λq=>θ q) d)
def ajt(fu:Nat)(s:aC)(g:Int)(f:Int->aC->ε (aC⊕(aC×Int×Int×ζ)))(a:Int)(c:aC):ε (aC⊕(aC×Int×Int×ζ)):=
 (if a<g then((ahq fu s a).bind λb=>if b=a then θ (.inr ([],0,a,5))else(if c=[]then θ c else gd (γ c+γ ([32]:aC)<=9223372036854775807)<|some (c++[32])).bind λd=>gd (0<=a/\a<=b/\b<=γ s)<|gd (γ d+γ (sub s a b)<=9223372036854775807)<|(WE fu s b).bind λe=>f e (d++(sub s a b)))else θ (.inl c))
def alg(fu:Nat)(s:aC)(d:Int):Nat->Int->aC->ε (aC⊕(aC×Int×Int×ζ)):=λc b a=>bJ (λg v=>ajt fu s d (λb a=>g (b,a)) v.1 v.2) c (b,a)
theorem atf:alg a d c (b+1) g o=ajt a d c (alg a d c b) g o:=rfl
def ayl(fu:Nat)(s:aC)(c:Int)(d:Int):ε (aC×Int×Int×ζ):=
 (gd (0<=c/\c<γ s)<|if(Υ s c)=34 then((aow fu s c).bind λb=>if b.2.2=0 then((WE fu s b.2.1).bind λa=>(if a=γ s then θ μ else gd (0<=a/\a<γ s)<|some (!decide ((Υ s a)=60))).bind λg=>bif g then θ ([],0,a,5)else θ (b.1,a,0,0))else θ ([],0,b.2.1,b.2.2))else(alg fu s d fu c []).bind λf=>dQ (λe=>θ (e,d,0,0)) (λq=>θ q) f)
def aju(fu:Nat)(s:aC):ε (AQ×Int×ζ):=
 (if 1024<(γ s:Int)then θ (([],([],[],[],0,[],[]),[]),1024,4)else(WE fu s 0).bind λa=>(aua fu s a 60).bind λf=>(if f<0 then(if a=γ s then θ μ else gd (0<=a/\a<γ s)<|some (!decide ((Υ s a)=34)))else θ ν).bind λg=>bif g then((bfa fu s a).bind λe=>θ (e.1,e.2.1,e.2.2))else(ayl fu s a f).bind λb=>if b.2.2.2=0 then((aua fu s b.2.1 62).bind λc=>if c<0 then θ (([],([],[],[],0,[],[]),[]),γ s,5)else gd (bK (b.2.1+1))<|gd (bK (c+1))<|(axf fu s b.1 (b.2.1+1) c (c+1)).bind λd=>θ (d.1,d.2.1,d.2.2))else θ (([],([],[],[],0,[],[]),[]),b.2.2.1,b.2.2.2))
def ayi(fu:Nat)(c:aC):ε (AQ×ζ):=
 ((axg fu c).bind λb=>(aju fu b).bind λa=>θ (a.1,a.2.2))
def amg(fu:Nat)(s:aC)(c:Int->ε (Unit⊕η))(a:Int):ε (Unit⊕η):=
 (if a<γ s then(gd (0<=a/\a<γ s)<|(aoy fu (Υ s a)).bind λb=>bif b then θ (.inr ν)else gd (bK (a+1))<|c (a+1))else θ (.inl ()))
def atx(fu:Nat)(s:aC):Nat->Int->ε (Unit⊕η):=λb a=>bJ (λg v=>amg fu s (λa=>g a) v) b a
theorem aws:atx a d (b+1) c=amg a d (atx a d b) c:=rfl
def aty(fu:Nat)(s:aC):ε η:=
 ((atx fu s fu 0).bind λa=>dQ (λb=>θ μ) (λq=>θ q) a)
def aru(fu:Nat)(b:LQ)(c:Int)(m:Int->ε (Unit⊕η))(a:Int):ε (Unit⊕η):=
 (if a<γ b then(gd (0<=a/\a<γ b)<|gd (0<=a/\a<γ b)<|(if((el b a).1)=[]then θ μ else(aty fu ((el b a).1)).bind λl=>bif (!l)then θ μ else(aty fu ((el b a).2.1)).bind λk=>bif (!k)then θ μ else bif (!((el b a).2.2))then(if((el b a).2.1)=[]then(if c=2 then θ μ else bif ((el b a).2.2)then(if((el b a).2.1)=[]then(if c=1 then θ μ else gd (0<=a/\a<=γ b)<|(WC fu (eP (bR a) b) ((el b a).1)).bind λj=>θ (!decide (j=0)))else gd (0<=a/\a<=γ b)<|(WC fu (eP (bR a) b) ((el b a).1)).bind λi=>θ (!decide (i=0)))else gd (0<=a/\a<=γ b)<|(WC fu (eP (bR a) b) ((el b a).1)).bind λh=>θ (!decide (h=0)))else θ μ)else bif ((el b a).2.2)then(if((el b a).2.1)=[]then(if c=1 then θ μ else gd (0<=a/\a<=γ b)<|(WC fu (eP (bR a) b) ((el b a).1)).bind λg=>θ (!decide (g=0)))else gd (0<=a/\a<=γ b)<|(WC fu (eP (bR a) b) ((el b a).1)).bind λf=>θ (!decide (f=0)))else gd (0<=a/\a<=γ b)<|(WC fu (eP (bR a) b) ((el b a).1)).bind λe=>θ (!decide (e=0))).bind λd=>bif d then θ (.inr ν)else gd (bK (a+1))<|m (a+1))else θ (.inl ()))
def aou(fu:Nat)(d:LQ)(c:Int):Nat->Int->ε (Unit⊕η):=λb a=>bJ (λg v=>aru fu d c (λa=>g a) v) b a
theorem bdl:aou a m c (b+1) g=aru a m c (aou a m c b) g:=rfl
def ayj(fu:Nat)(c:LQ)(b:Int):ε η:=
 ((aou fu c b fu 0).bind λa=>dQ (λd=>θ μ) (λq=>θ q) a)
def anw(fu:Nat)(b:LQ)(e:LQ->Int->ε LQ)(c:LQ)(a:Int):ε LQ:=
 (if a<γ b then(gd (0<=a/\a<γ b)<|gd (0<=a/\a<γ b)<|(LI fu ((el b a).1)).bind λd=>gd ((γ c+γ ([(d,(el b a).2.1,((el b a).2.2))]))*40<=140737488355328)<|gd (bK (a+1))<|e (c++([(d,(el b a).2.1,((el b a).2.2))])) (a+1))else θ c)
def alf(fu:Nat)(d:LQ):Nat->LQ->Int->ε LQ:=λc b a=>bJ (λg v=>anw fu d (λb a=>g (b,a)) v.1 v.2) c (b,a)
theorem bat:alf a m (b+1) s c=anw a m (alf a m b) s c:=rfl
def ate(fu:Nat)(c:LQ):ε LQ:=
 ((alf fu c fu [] 0).bind λb=>(anh fu b).bind λa=>θ a)
def art(fu:Nat)(s:aC):ε η:=
 ((aex fu (s,0,0,0)).bind λa=>(if a.2.2.2.2=0 then θ (decide (a.1=s))else θ ν).bind λb=>θ b)
def bah(fu:Nat)(a:UQ):ε (UQ×ζ):=
 ((LI fu a.1).bind λb=>((ayj fu a.2.2.2.2.1 1).bind λm=>bif (!m)then θ μ else(ayj fu a.2.2.2.2.2 2).bind λl=>bif (!l)then θ μ else(aty fu a.2.1).bind λk=>θ (!k)).bind λj=>bif j then θ (([],[],[],0,[],[]),2)else(ate fu a.2.2.2.2.1).bind λe=>(ate fu a.2.2.2.2.2).bind λc=>(if b=([115,105,112])then θ (decide (b=([115,105,112])))else θ (decide (b=([115,105,112,115])))).bind λi=>bif i then((atg fu a.2.2.1).bind λd=>(bif (!d.2)then θ μ else if a.2.2.2.1<0 then θ μ else θ (decide (65535<a.2.2.2.1))).bind λh=>bif h then θ (([],[],[],0,[],[]),2)else θ ((b,a.2.1,d.1,a.2.2.2.1,e,c),0))else if b=([116,101,108])then((if a.2.2.1=[]then(if a.2.2.2.1=0 then(if γ c=(0:Int)then((art fu a.2.1).bind λg=>θ g)else θ ν)else θ ν)else θ ν).bind λf=>bif f then θ ((b,a.2.1,a.2.2.1,a.2.2.2.1,e,c),0)else θ (([],[],[],0,[],[]),2))else θ (([],[],[],0,[],[]),2))
def aqd(fu:Nat)(s:aC)(e:Int)(c:(δ ζ)->Int->ε (δ ζ))(b:δ ζ)(a:Int):ε (δ ζ):=
 (if a<γ s then(gd (0<=a/\a<γ s)<|(bgu fu (Υ s a) e).bind λd=>bif d then(gd (0<=a/\a<γ s)<|gd ((γ b+γ ([Υ s a]))*1<=140737488355328)<|gd (bK (a+1))<|c (b++([Υ s a])) (a+1))else gd (0<=a/\a<γ s)<|gd ((16:ζ)≠0)<|gd (0<=(((Υ s a)/16).toNat:Int)/\(((Υ s a)/16).toNat)<(γ ([48,49,50,51,52,53,54,55,56,57,65,66,67,68,69,70]:aC):Int))<|gd (0<=a/\a<γ s)<|gd ((16:ζ)≠0)<|gd (0<=(((Υ s a)%16).toNat:Int)/\(((Υ s a)%16).toNat)<(γ ([48,49,50,51,52,53,54,55,56,57,65,66,67,68,69,70]:aC):Int))<|gd ((γ b+γ ([37,Υ ([48,49,50,51,52,53,54,55,56,57,65,66,67,68,69,70]) (((Υ s a)/16).toNat),Υ ([48,49,50,51,52,53,54,55,56,57,65,66,67,68,69,70]) (((Υ s a)%16).toNat)]))*1<=140737488355328)<|gd (bK (a+1))<|c (b++([37,Υ ([48,49,50,51,52,53,54,55,56,57,65,66,67,68,69,70]) (((Υ s a)/16).toNat),Υ ([48,49,50,51,52,53,54,55,56,57,65,66,67,68,69,70]) (((Υ s a)%16).toNat)])) (a+1))else θ b)
def amm(fu:Nat)(s:aC)(d:Int):Nat->(δ ζ)->Int->ε (δ ζ):=λc b a=>bJ (λg v=>aqd fu s d (λb a=>g (b,a)) v.1 v.2) c (b,a)
theorem bbv:amm a d c (b+1) f g=aqd a d c (amm a d c b) f g:=rfl
def ani(fu:Nat)(s:aC)(b:Int):ε aC:=
 ((amm fu s b fu [] 0).bind λa=>θ a)
def ars(fu:Nat)(b:LQ)(i:aC)(h:Int)(g:aC->aC->Int->ε aC)(c:aC)(d:aC)(a:Int):ε aC:=
 (if a<γ b then(gd (γ c+γ d<=9223372036854775807)<|gd (0<=a/\a<γ b)<|gd (0<=a/\a<γ b)<|(ani fu ((el b a).1) h).bind λe=>gd (γ (c++d)+γ e<=9223372036854775807)<|gd (0<=a/\a<γ b)<|gd (0<=a/\a<γ b)<|bif ((el b a).2.2)then(gd (γ ((c++d)++e)+γ ([61]:aC)<=9223372036854775807)<|gd (0<=a/\a<γ b)<|gd (0<=a/\a<γ b)<|(ani fu ((el b a).2.1) h).bind λf=>gd (γ (((c++d)++e)++[61])+γ f<=9223372036854775807)<|gd (bK (a+1))<|g ((((c++d)++e)++[61])++f) i (a+1))else gd (bK (a+1))<|g ((c++d)++e) i (a+1))else θ c)
def aks(fu:Nat)(h:LQ)(f:aC)(e:Int):Nat->aC->aC->Int->ε aC:=λd c b a=>bJ (λg v=>ars fu h f e (λc b a=>g (c,b,a)) v.1 v.2.1 v.2.2) d (c,b,a)
theorem bdk:aks a m d c (b+1) o w g=ars a m d c (aks a m d c b) o w g:=rfl
def zx(fu:Nat)(e:LQ)(d:aC)(c:aC)(b:Int):ε aC:=
 ((aks fu e c b fu [] d 0).bind λa=>θ a)
def wo:Nat->Int->ε aC
 |0,_=>ι
 |c+1,a=>(if a<10 then(gd (bK (a+1))<|gd (0<=a/\a<=(a+1)/\(a+1)<=(γ ([48,49,50,51,52,53,54,55,56,57]:aC)))<|some (sub ([48,49,50,51,52,53,54,55,56,57]) a (a+1)))else gd (0<=a/\0<(10:Int)/\bK (a))<|(wo c (a/10)).bind λb=>gd (0<=a/\0<(10:Int)/\bK (a))<|gd (0<=a/\0<(10:Int)/\bK (a))<|gd (bK ((a%10)+1))<|gd (0<=(a%10)/\(a%10)<=((a%10)+1)/\((a%10)+1)<=(γ ([48,49,50,51,52,53,54,55,56,57]:aC)))<|gd (γ b+γ (sub ([48,49,50,51,52,53,54,55,56,57]) (a%10) ((a%10)+1))<=9223372036854775807)<|some (b++(sub ([48,49,50,51,52,53,54,55,56,57]) (a%10) ((a%10)+1))))
def bcg(fu:Nat)(i:UQ):ε (aC×ζ):=
 ((bah fu i).bind λa=>if a.2=0 then(if a.1.1=([116,101,108])then(gd (γ ([116,101,108,58]:aC)+γ a.1.2.1<=9223372036854775807)<|(zx fu a.1.2.2.2.2.1 [59] [59] 1).bind λh=>gd (γ (([116,101,108,58])++a.1.2.1)+γ h<=9223372036854775807)<|some ((([116,101,108,58]:aC)++a.1.2.1)++h,0))else gd (γ a.1.1+γ ([58]:aC)<=9223372036854775807)<|(if a.1.2.1=[]then θ (a.1.1++[58])else(ani fu a.1.2.1 0).bind λe=>gd (γ (a.1.1++[58])+γ e<=9223372036854775807)<|gd (γ ((a.1.1++[58])++e)+γ ([64]:aC)<=9223372036854775807)<|some (((a.1.1++[58])++e)++[64])).bind λb=>gd (γ b+γ a.1.2.2.1<=9223372036854775807)<|(if 0<a.1.2.2.2.1 then(gd (γ (b++a.1.2.2.1)+γ ([58]:aC)<=9223372036854775807)<|(wo fu a.1.2.2.2.1).bind λg=>gd (γ ((b++a.1.2.2.1)++[58])+γ g<=9223372036854775807)<|some (((b++a.1.2.2.1)++[58])++g))else θ (b++a.1.2.2.1)).bind λd=>(zx fu a.1.2.2.2.2.1 [59] [59] 1).bind λc=>gd (γ d+γ c<=9223372036854775807)<|(zx fu a.1.2.2.2.2.2 [63] [38] 2).bind λf=>gd (γ (d++c)+γ f<=9223372036854775807)<|some ((d++c)++f,0))else θ ([],a.2))
def bid(fu:Nat)(c:aC):ε (aC×ζ):=
 ((ayi fu c).bind λa=>if a.2=0 then((bcg fu a.1.2.1).bind λb=>θ (b.1,b.2))else θ ([],a.2))
def wk(fu:Nat)(m_0:(aC×aC×Int×aC×(δ (aC×aC))×(δ ζ)))(d:η):ε (aC×η):=
 ((jt fu m_0 ([82,111,117,116,101])).bind λa=>if γ a=(0:Int)then θ ([],ν)else gd (0<=(0:Int)/\0<(γ a:Int))<|gd (0<=(0:Int)/\0<(γ a:Int))<|(bif d then(gd (bK (γ a-1))<|gd (0<=(γ a-(1:Int))/\(γ a-1)<(γ a:Int))<|gd (0<=(γ a-(1:Int))/\(γ a-1)<(γ a:Int))<|some (el a (γ a-1)))else θ (el a 0)).bind λc=>(bid fu c).bind λb=>θ (b.1,(decide (b.2=0))))
def ber(fu:Nat)(a:Int):ε aC:=
 (if a=0 then((lz fu 5060).bind λc=>θ c)else(lz fu a).bind λb=>θ b)
def vz(fu:Nat)(e:aC)(d:aC):ε η:=
 ((aym fu e).bind λa=>(if a.2.2=0 then(if a.1.2.1=[]then(gd (γ a.1.2.2.1+γ ([58]:aC)<=9223372036854775807)<|(ber fu a.1.2.2.2.1).bind λb=>gd (γ (a.1.2.2.1++[58])+γ b<=9223372036854775807)<|some (decide (((a.1.2.2.1++[58])++b)=d)))else θ ν)else θ ν).bind λc=>θ c)
def axd(fu:Nat)(m_0:(aC×aC×Int×aC×(δ (aC×aC))×(δ ζ)))(a:δ (aC×aC)):ε (aC×aC×Int×aC×(δ (aC×aC))×(δ ζ)):=
 θ (m_0.1,m_0.2.1,m_0.2.2.1,m_0.2.2.2.1,a,m_0.2.2.2.2.2)
def aos(fu:Nat)(m_0:(aC×aC×Int×aC×(δ (aC×aC))×(δ ζ)))(e:aC)(c:(δ (aC×aC))->Int->ε (δ (aC×aC)))(b:δ (aC×aC))(a:Int):ε (δ (aC×aC)):=
 (if a<γ m_0.2.2.2.2.1 then(gd (0<=a/\a<γ m_0.2.2.2.2.1)<|gd (0<=a/\a<γ m_0.2.2.2.2.1)<|(azv fu ((el m_0.2.2.2.2.1 a).1) e).bind λd=>bif (!d)then(gd (0<=a/\a<γ m_0.2.2.2.2.1)<|gd (0<=a/\a<γ m_0.2.2.2.2.1)<|gd ((γ b+γ ([el m_0.2.2.2.2.1 a]))*32<=140737488355328)<|gd (bK (a+1))<|c (b++([el m_0.2.2.2.2.1 a])) (a+1))else gd (bK (a+1))<|c b (a+1))else θ b)
def aly(fu:Nat)(m_0:(aC×aC×Int×aC×(δ (aC×aC))×(δ ζ)))(d:aC):Nat->(δ (aC×aC))->Int->ε (δ (aC×aC)):=λc b a=>bJ (λg v=>aos fu m_0 d (λb a=>g (b,a)) v.1 v.2) c (b,a)
theorem aye:aly a e d (b+1) j c=aos a e d (aly a e d b) j c:=rfl
def bar(fu:Nat)(m_0:(aC×aC×Int×aC×(δ (aC×aC))×(δ ζ)))(c:aC):ε (aC×aC×Int×aC×(δ (aC×aC))×(δ ζ)):=
 ((aly fu m_0 c fu [] 0).bind λb=>(axd fu m_0 b).bind λa=>θ (a.1,a.2.1,a.2.2.1,a.2.2.2.1,b,m_0.2.2.2.2.2))
def ayd(fu:Nat)(b:aC):ε aC:=
 ((wi fu b).bind λa=>if a.2=0 then θ a.1 else θ b)
def baq(fu:Nat)(m_0:(aC×aC×Int×aC×(δ (aC×aC))×(δ ζ)))(e:aC)(d:aC):ε (aC×aC×Int×aC×(δ (aC×aC))×(δ ζ)):=
 ((axe fu m_0.2.2.2.2.1 e).bind λa=>gd (0<=(max 0 a)/\(max 0 a)<=γ m_0.2.2.2.2.1)<|gd ((γ ([]:δ (aC×aC))+γ (eP (bR (max 0 a)) m_0.2.2.2.2.1))*32<=140737488355328)<|(ayd fu e).bind λc=>gd ((γ ([]++(eP (bR (max 0 a)) m_0.2.2.2.2.1))+γ ([(c,d)]))*32<=140737488355328)<|gd (0<=(max 0 a)/\(max 0 a)<=γ m_0.2.2.2.2.1)<|gd ((γ (([]++(eP (bR (max 0 a)) m_0.2.2.2.2.1))++([(c,d)]))+γ (dG (bR (max 0 a)) m_0.2.2.2.2.1))*32<=140737488355328)<|(axd fu m_0 ((([]++(eP (bR (max 0 a)) m_0.2.2.2.2.1))++([(c,d)]))++(dG (bR (max 0 a)) m_0.2.2.2.2.1))).bind λb=>θ (b.1,b.2.1,b.2.2.1,b.2.2.2.1,(([]++(eP (bR (max 0 a)) m_0.2.2.2.2.1))++([(c,d)]))++(dG (bR (max 0 a)) m_0.2.2.2.2.1),m_0.2.2.2.2.2))
def amc(fu:Nat)(m_0:(aC×aC×Int×aC×(δ (aC×aC))×(δ ζ)))(c:δ aC)(i:Int->aC->aC->Int->aC->(δ (aC×aC))->ε (aC×aC×Int×aC×(δ (aC×aC))))(a:Int)(h:aC)(g:aC)(f:Int)(e:aC)(d:δ (aC×aC)):ε (aC×aC×Int×aC×(δ (aC×aC))):=
 (if 0<=a then(gd (0<=a/\a<γ c)<|gd (0<=a/\a<γ c)<|(baq fu (h,g,f,e,d,m_0.2.2.2.2.2) ([82,111,117,116,101]) (el c a)).bind λb=>gd (bK (a-1))<|i (a-1) b.1 b.2.1 b.2.2.1 b.2.2.2.1 b.2.2.2.2.1)else θ (h,g,f,e,d))
def aor(fu:Nat)(m_0:(aC×aC×Int×aC×(δ (aC×aC))×(δ ζ)))(i:δ aC):Nat->Int->aC->aC->Int->aC->(δ (aC×aC))->ε (aC×aC×Int×aC×(δ (aC×aC))):=λh f e d c b a=>bJ (λg v=>amc fu m_0 i (λf e d c b a=>g (f,e,d,c,b,a)) v.1 v.2.1 v.2.2.1 v.2.2.2.1 v.2.2.2.2.1 v.2.2.2.2.2) h (f,e,d,c,b,a)
theorem awp:aor a e h (b+1) c d o g w j=amc a e h (aor a e h b) c d o g w j:=rfl
def wj(fu:Nat)(m_0:(aC×aC×Int×aC×(δ (aC×aC))×(δ ζ)))(c:δ aC):ε (aC×aC×Int×aC×(δ (aC×aC))×(δ ζ)):=
 ((bar fu m_0 ([82,111,117,116,101])).bind λa=>(gd (bK (γ c-1))<|aor fu m_0 c fu (γ c-1) a.1 a.2.1 a.2.2.1 a.2.2.2.1 a.2.2.2.2.1).bind λb=>θ (b.1,b.2.1,b.2.2.1,b.2.2.2.1,b.2.2.2.2,m_0.2.2.2.2.2))
def aln(fu:Nat)(m_0:(aC×aC×Int×aC×(δ (aC×aC))×(δ ζ)))(c:aC):ε η:=
 (((auk fu m_0).bind λN=>bif (!N)then θ μ else θ (decide (100<(γ c:Int)))).bind λM=>bif M then((Zq fu).bind λL=>θ L)else(aqq fu m_0 c).bind λa=>(atb fu m_0).bind λK=>bif (!K)then(((Zr fu a.1 ([],[],0,[],[],[])).bind λJ=>bif J then(if a.2=2 then((Zq fu).bind λI=>θ I)else θ ν)else θ ν).bind λH=>θ H)else(atc fu c).bind λG=>bif (!G)then(((Zr fu a.1 ([],[],0,[],[],[])).bind λF=>bif F then(if a.2=2 then((Zq fu).bind λE=>θ E)else θ ν)else θ ν).bind λD=>θ D)else(wk fu m_0 μ).bind λe=>bif e.2 then((vz fu m_0.2.1 c).bind λC=>bif C then((jt fu m_0 ([82,111,117,116,101])).bind λd=>gd (bK (γ d-1))<|gd (0<=(γ d-(1:Int))/\(γ d-1)<=(γ d:Int))<|(wj fu m_0 (eP (bR (γ d-1)) d)).bind λb=>(wk fu (b.1,e.1,b.2.2.1,b.2.2.2.1,b.2.2.2.2.1,m_0.2.2.2.2.2) ν).bind λn=>bif n.2 then((vz fu n.1 c).bind λB=>bif B then((jt fu (b.1,e.1,b.2.2.1,b.2.2.2.1,b.2.2.2.2.1,m_0.2.2.2.2.2) ([82,111,117,116,101])).bind λm=>gd (0<=(1:Int)/\1<=(γ m:Int))<|(wj fu (b.1,e.1,b.2.2.1,b.2.2.2.1,b.2.2.2.2.1,m_0.2.2.2.2.2) (dG (bR 1) m)).bind λh=>((Zr fu a.1 (h.1,h.2.1,h.2.2.1,h.2.2.2.1,h.2.2.2.2.1,m_0.2.2.2.2.2)).bind λA=>bif A then(if a.2=0 then((Zq fu).bind λz=>θ z)else θ ν)else θ ν).bind λy=>θ y)else((Zr fu a.1 (b.1,e.1,b.2.2.1,b.2.2.2.1,b.2.2.2.2.1,m_0.2.2.2.2.2)).bind λd0=>bif d0 then(if a.2=0 then((Zq fu).bind λd1=>θ d1)else θ ν)else θ ν).bind λd2=>θ d2)else((Zr fu a.1 (b.1,e.1,b.2.2.1,b.2.2.2.1,b.2.2.2.2.1,m_0.2.2.2.2.2)).bind λd3=>bif d3 then(if a.2=0 then((Zq fu).bind λd4=>θ d4)else θ ν)else θ ν).bind λd5=>θ d5)else(wk fu m_0 ν).bind λl=>bif l.2 then((vz fu l.1 c).bind λd6=>bif d6 then((jt fu m_0 ([82,111,117,116,101])).bind λk=>gd (0<=(1:Int)/\1<=(γ k:Int))<|(wj fu m_0 (dG (bR 1) k)).bind λg=>((Zr fu a.1 (g.1,g.2.1,g.2.2.1,g.2.2.2.1,g.2.2.2.2.1,m_0.2.2.2.2.2)).bind λd7=>bif d7 then(if a.2=0 then((Zq fu).bind λd8=>θ d8)else θ ν)else θ ν).bind λd9=>θ d9)else((Zr fu a.1 m_0).bind λx=>bif x then(if a.2=0 then((Zq fu).bind λw=>θ w)else θ ν)else θ ν).bind λv=>θ v)else((Zr fu a.1 m_0).bind λu=>bif u then(if a.2=0 then((Zq fu).bind λt=>θ t)else θ ν)else θ ν).bind λs=>θ s)else(wk fu m_0 ν).bind λj=>bif j.2 then((vz fu j.1 c).bind λr=>bif r then((jt fu m_0 ([82,111,117,116,101])).bind λi=>gd (0<=(1:Int)/\1<=(γ i:Int))<|(wj fu m_0 (dG (bR 1) i)).bind λf=>((Zr fu a.1 (f.1,f.2.1,f.2.2.1,f.2.2.2.1,f.2.2.2.2.1,m_0.2.2.2.2.2)).bind λq=>bif q then(if a.2=0 then((Zq fu).bind λp=>θ p)else θ ν)else θ ν).bind λo=>θ o)else((Zr fu a.1 m_0).bind λf0=>bif f0 then(if a.2=0 then((Zq fu).bind λf1=>θ f1)else θ ν)else θ ν).bind λf2=>θ f2)else((Zr fu a.1 m_0).bind λf3=>bif f3 then(if a.2=0 then((Zq fu).bind λf4=>θ f4)else θ ν)else θ ν).bind λf5=>θ f5)
end Go.Wk
set_option maxRecDepth 100000
namespace Go.Wk
open Go.Px
open Int renaming toNat → bR
open Sum renaming elim → dQ
def FU:Nat:=18446744073709551616
theorem eG:FU=18446744073709551616:=rfl
theorem AL(p:aC)(c:ζ)(l:aC):Υ (p++c::l) (γ p)=c:=by simp[Υ]
theorem zA(p:aC)(c x:ζ)(l:aC):Ξ (p++c::l) (bR (γ p)) x=(p++[x])++l:=aA2
theorem KZ(p:aC)(x:ζ):(γ p+1)=(γ (p++[x]):Int):=aA2
theorem cJ(a:Int)(b:0<=a)(h:a<=9223372036854775807):bK a:=⟨aA0,aA0⟩
theorem KS(fu:Nat)(c:ζ):asc fu c=θ (eN c):=by show asc 0 c=_;revert c;exact hY _ aA4
theorem Kx:∀c:ζ,aui FU c=θ (eN c):=hY _ aA4
theorem zW(fu:Nat)(c:ζ):ajl fu c=θ (fQ c):=by show ajl 0 c=_;revert c;exact hY _ aA4
variable{k:Nat}
theorem RQ(s:aC)(g:γ s<=9223372036854775807)(n:Nat):∀i a,i+n=γ s->n<a->
  aes k s a i=θ ((i+dV eN (s.drop i):Nat):Int):=by
 induction n with
 |zero=>intro i a c d;obtain⟨a,rfl⟩:=cD a;rw[alk,aej,aA bA,Pu bA];simp[dV]
 |succ n b=>
  intro i a c d;obtain⟨a,rfl⟩:=cD a;rw[alk,aej,aB bA,aV bA,KS,Pb s i bA];simp only[aS];cases h:eN (Υ s i)
  ·simp[dV,h]
  ·rw[aO];rw[aV (cJ _ bA bA)];have e:(i+1)=((i+1:Nat):Int):=Τ;rw[e,b (i+1) a bA bA];have f:dV eN (Υ s i::s.drop (i+1))=1+dV eN (s.drop (i+1)):=by simp[dV,h,Ie]
   rw[f,Cb]
theorem Xg(g:∀c,aui k c=θ (eN c))(s:aC)(j:γ s<=9223372036854775807)(n:Nat):∀(m a:Nat),m+n=γ s->n<a->
  anz k s a (m:Int)=θ ((m+dV eN (s.drop m):Nat):Int):=by
 induction n with
 |zero=>intro m a d f;obtain⟨a,rfl⟩:=cD a;rw[azf,amn,aA bA,Pu bA];simp[dV]
 |succ n b=>
  intro m a d f;obtain⟨a,rfl⟩:=cD a;rw[azf,amn,aB bA,aV bA,g,Pb s m bA];simp only[aS];cases h:eN (Υ s m)
  ·simp[dV,h]
  ·rw[aO];rw[aV (cJ _ bA bA)];have e:((m:Int)+1)=((m+1:Nat):Int):=Τ;rw[e,b (m+1) a bA bA];have i:dV eN (Υ s m::s.drop (m+1))=1+dV eN (s.drop (m+1)):=by simp[dV,h,Ie]
   rw[i,Cb]
theorem Ki(s:aC)(a:γ s<=9223372036854775807)(i:Int):agd FU s i=θ ((cB eN s i):Int):=by unfold agd cB;have h:min (max i 0) (γ s)=(Ep i (γ s)):=aD2;rw[h,RQ s a (γ s-Ep i (γ s)) _ FU bA aA5];rfl
theorem beh(s:aC)(a:γ s<=9223372036854775807)(i:Int):ahq FU s i=θ ((cB eN s i:Nat):Int):=by unfold ahq cB;have h:min (max i 0) (γ s:Int)=((Ep i (γ s):Nat):Int):=aD2;have:=uN i (γ s);rw[h,Xg Kx s a (γ s-Ep i (γ s)) _ FU bA aA5];rfl
theorem Sk(s:aC):(if s=[]then θ ν else θ (decide ((cB eN s 0)=(γ s:Int))))=θ (An s):=by
 have:=ny s;by_cases h:s=[]
 ·subst h;rfl
 ·rw[aA h];congr 1;by_cases a:(cB eN s 0)=(γ s:Int)
  ·rw[aH a,this.1 ⟨h,a⟩]
  ·rw[aG a];cases b:An s
   ·rfl
   ·exact absurd (this.2 b).2 a
theorem ZZ(s:aC)(a:γ s<=9223372036854775807):zw FU s=θ (An s):=by unfold zw ajq;rw[Ki s a];simp;exact Sk s
theorem CM(s:aC)(a:γ s<=9223372036854775807):ayo FU s=θ (An s):=by unfold ayo;rw[beh s a];simp only[aS,Option.bind_fun_some];exact Sk s
theorem Lu(p:aC)(c:ζ)(l:aC):0<=(γ p:Int)/\γ p<(γ (p++c::l):Int):=by rw[cR,dT];omega
theorem bf{fu:Nat}(s:aC)(g:γ s<=9223372036854775807)(l:aC):∀p a,γ p+γ l=γ s->γ l<a->
  adf fu s a (p++l) (γ p)=θ (p++l.map fQ):=by
 induction l with
 |nil=>intro p a d e;obtain⟨a,rfl⟩:=cD a;simp at d;rw[ail,acz,aA bA];rfl
 |cons c l f=>intro p a d e;obtain⟨a,rfl⟩:=cD a;simp at d e;have b:=Lu p c l;rw[ail,acz,aB bA,aV b,aV b,AL,zW];simp only[aS];rw[aV b,aV b,aV (cJ _ bA bA),zA,KZ p _,f _ a aC0 bA];simp
theorem bg(s:aC)(a:γ s<=9223372036854775807):acu FU s=θ (cZ s):=by unfold acu;have:=bf (fu:=FU) s a s [] FU aA2 aA5;simp at this;rw[this];rfl
theorem Tp(c:ζ)(b:65<=c)(a:c<=90):c+32=fQ c:=by simp[fQ,b,a]
theorem zp(c:ζ)(h:¬(65<=c/\c<=90)):fQ c=c:=by simp only[fQ,aA h]
theorem CP{fu:Nat}(s:aC)(k:γ s<=9223372036854775807)(l:aC):∀(p:aC) (a:Nat),γ p+γ l=γ s->γ l<a->
  auf fu s a (p++l) (γ p:Int)=θ (p++l.map fQ):=by
 induction l with
 |nil=>intro p a g i;obtain⟨a,rfl⟩:=cD a;simp only[tU]at g;rw[bdp,ary,aA bA];rfl
 |cons c l f=>
  intro p a g i;obtain⟨a,rfl⟩:=cD a;simp only[dT]at g i;have j:=Lu p c l;have d:=f (p++[fQ c]) a aC0 bA;have ok:bK ((γ p:Int)+1):=cJ _ bA bA;rw[bdp,ary,aB bA];simp only[aV j,AL,aV ok,zA];by_cases b:65<=c
  ·by_cases e:c<=90
   ·simp only[aB b,aH e,aS,aO,Tp c b e];rw[KZ p (fQ c),d];simp
   ·simp only[aB b,aG e,aS,aJ];rw[zp c (λh=>e h.2)]at d;rw[KZ p c,show p++c::l=(p++[c])++l by simp,d];simp[zp c (λh=>e h.2)]
  ·simp only[aA b,aS,aJ];rw[zp c (λh=>b h.1)]at d;rw[KZ p c,show p++c::l=(p++[c])++l by simp,d];simp[zp c (λh=>b h.1)]
theorem XM(s:aC)(a:γ s<=9223372036854775807):LI FU s=θ (cZ s):=by unfold LI;have:=CP (fu:=FU) s a s [] FU aA2 aA5;simp only[yL,tU,Int.natCast_zero,Int.cast_ofNat_Int]at this;rw[this];rfl
def Ts(c:ζ):aC:=(aul FU c).getD []
theorem rl:∀c:ζ,aul FU c=θ (Ts c):=hY _ aA4
theorem U3:∀c:ζ,ayg FU c=θ (Ts c):=hY _ aA4
theorem II(y:aC):atv FU y FU 0=amw FU y FU 0:=by kernel_rfl
def title:η->aC->aC
 |_,[]=>[]
 |f,c::l=>(if f then VX c else fQ c)::title (c==45) l
theorem VU(fu:Nat)(f:η)(c:ζ):awd fu c f=θ (if f then VX c else fQ c,c==45):=by show awd 0 c f=_;revert c;cases f<;>exact hY _ aA4
theorem S6{fu:Nat}(s:aC)(h:γ s<=9223372036854775807)(l:aC):∀p f a,γ p+γ l=γ s->γ l<a->
  (adt fu s a (p++l) (γ p) f).map (·.1)=θ (p++title f l):=by
 induction l with
 |nil=>intro p f a d e;obtain⟨a,rfl⟩:=cD a;simp at d;rw[ajm,adm,aA bA];rfl
 |cons c l g=>
  intro p f a d e;obtain⟨a,rfl⟩:=cD a;simp at d e
  have b:=Lu p c l;rw[ajm,adm,aB bA,aV b,aV b,AL,VU,aS,
   aV b,aV b,aV (cJ _ bA bA),zA,KZ p _,g _ _ a aC0 bA,nW]
  rfl
theorem S7(s:aC)(d:γ s<=9223372036854775807):∃b,adg FU s μ=θ (title μ s,b):=by unfold adg;have:=S6 (fu:=FU) s d s [] μ FU aA2 aA5;obtain⟨r,c,a⟩:=cH.1 this;refine⟨r.2,?_⟩;rw[show((0:Int))=([].length)from Τ];simp only[yL]at c a⊢;rw[c,aS,a]
def sK(p:aC):η:=p.isEmpty||Υ p (γ p-1)==45
theorem vw(p:aC)(c:ζ)(l:aC)(h:p≠[]):Υ (p++c::l) (γ p-1)=Υ p (γ p-1):=by have:0<γ p:=cA.2 h;have e:((γ p:Int)-1).toNat=γ p-1:=aA0;simp only[Υ,e];rw[bF,bF,aI bA]
theorem KG(p:aC)(x:ζ):sK (p++[x])=(x==45):=by have e:((γ (p++[x]):Int)-1)=γ p:=aA2;simp only[sK,e,AL];simp
theorem up45:∀c:ζ,(VX (fQ c)==45)=(c==45):=hY _ aA4
theorem low45:∀c:ζ,(fQ c==45)=(c==45):=hY _ aA4
theorem yd:∀c:ζ,VX (fQ c)=VX c:=hY _ aA4
theorem RJ(c:ζ)(b:97<=c)(a:c<=122):c-32=VX c:=by simp[VX,b,a]
theorem Sf(c:ζ)(h:¬(97<=c/\c<=122)):VX c=c:=by simp only[VX,aA h]
theorem CN{fu:Nat}(s:aC)(z:γ s<=9223372036854775807)(l:aC):∀(p:aC) (e:Nat),γ p+γ l=γ s->γ l<e->
  aig fu s e (p++l.map fQ) (γ p:Int)=θ (p++title (sK p) l):=by
 induction l with
 |nil=>intro p e m q;obtain⟨e,rfl⟩:=cD e;simp only[tU]at m;rw[awq,amd,aA bA];rfl
 |cons c l k=>
  intro p e m q;obtain⟨e,rfl⟩:=cD e;simp only[dT]at m q;have u:=Lu p (fQ c) (l.map fQ);have ok:bK ((γ p:Int)+1):=cJ _ bA bA;have n:∀x,(x==45)=(c==45)->aig fu s e ((p++[x])++l.map fQ) ((γ p:Int)+1)=θ (p++x::title (c==45) l):=λx hx=>by rw[KZ p x,k (p++[x]) e aC0 bA,KG,hx,nW];rfl
  have f:=n (fQ c) (low45 c);have i:=n (VX (fQ c)) (up45 c);rw[nW,fJ]at f;rw[qO,awq,amd,aB bA];have sub:97<=fQ c->fQ c<=122->fQ c-32=VX (fQ c):=λb d=>RJ _ b d
  have up:∀(A B:ε aC),(97<=fQ c->fQ c<=122->A=θ (p++VX (fQ c)::title (c==45) l))->B=θ (p++fQ c::title (c==45) l)->
    (Option.bind (if 97<=fQ c then θ (decide (fQ c<=122))else θ ν) λv=>bif v then A else B)=θ (p++VX (fQ c)::title (c==45) l):=by
   intro A B w r;by_cases b:97<=fQ c
   ·by_cases d:fQ c<=122
    ·rw[aB b,aH d,aS,aO,w b d]
    ·rw[aB b,aG d,aS,aJ,r,Sf _ (λh=>d h.2)]
   ·rw[aA b,aS,aJ,r,Sf _ (λh=>b h.1)]
  simp only[aV u,AL,aV ok,zA];by_cases j:p=[]
  ·have y:(γ p:Int)=0:=by rw[j];rfl
   have a:sK p=μ:=by rw[j];rfl
   rw[aB y,up _ _ (λb d=>by rw[sub b d];exact i) f,a,yd];rfl
  ·have C:0<γ p:=cA.2 j;have o:(0:Int)<=(γ p:Int)-1/\(γ p:Int)-1<(γ (p++fQ c::l.map fQ):Int):=by omega
   rw[aA bA,aV (cJ _ bA bA),aV o,aV o,vw _ _ _ j];have t:p.isEmpty=ν:=by cases p with|nil=>exact absurd rfl j|cons _ _=>rfl
   by_cases g:Υ p ((γ p:Int)-1)=45
   ·have a:sK p=μ:=by simp[sK,g]
    rw[aB g,up _ _ (λb d=>by rw[sub b d];exact i) f,a,yd];rfl
   ·have a:sK p=ν:=by simp[sK,g,t]
    rw[aA g,aS,aJ,a];exact f
theorem CO(s:aC)(a:γ s<=9223372036854775807):aig FU (cZ s) FU (cZ s) 0=θ (title μ s):=by have:=CN (fu:=FU) (cZ s) (by simpa [cZ] using a) s [] FU (by simp[cZ]) aA5;exact this
def mC(s:aC):aC×ζ:=
 if An s=ν\/64<γ s then([],5)
 else if γ s=1/\Ts (fQ (Υ s 0))≠[]then(Ts (fQ (Υ s 0)),0)
 else((amw FU (cZ s) FU 0).getD (.inl ())).elim (λ_=>(title μ s,0)) id
def yV:δ aC->aC->ε (Unit⊕(aC×ζ))
 |[],_=>θ (.inl ())
 |n::l,y=>if cZ n=y then θ (.inr (n,0))else yV l y
theorem vM(y:aC):∀l,∃r,yV l y=θ r
 |[]=>⟨_,Τ⟩
 |n::l=>by
  unfold yV;split
  ·exact⟨_,Τ⟩
  ·exact vM y l
theorem Wt(y:aC):amw FU y FU 0=yV zt y:=by kernel_rfl
theorem yU(y:aC):∃r,amw FU y FU 0=θ r:=by rw[Wt];exact vM y _
theorem low_at(s:aC)(h:γ s=1):Υ (cZ s) 0=fQ (Υ s 0):=by
 match s,h with
 |[c],_=>rfl
theorem Be(s:aC)(g:γ s<=9223372036854775807):zz FU s=θ (mC s):=by
 unfold zz mC;rw[ZZ s g,aS];obtain⟨r,k⟩:=yU _;obtain⟨b,m⟩:=S7 s g;cases n:An s
 ·rfl
 ·rw[iV,aJ,aS];by_cases e:64<γ s
  ·rw[aH bA,aO,aB (Or.inr e)]
  ·have l:¬(μ=ν\/64<γ s):=by simp[e]
   rw[aG bA,aJ,aA l,bg s g,aS,k];have a:dQ (λj=>(adg FU s μ).bind λd=>θ (d.1,0)) (λq=>θ q) r=θ (dQ (λ_=>(title μ s,0)) id r):=by
    cases r with
    |inl _=>rw[m];rfl
    |inr _=>rfl
   by_cases i:γ s=1
   ·have c:(γ s:Int)=1:=by omega
    rw[aB c,aV bA,zW,aS,rl,aS];by_cases f:Ts (fQ (Υ s 0))=[]
    ·rw[aB f,aA (λh=>h.2 f)];exact a
    ·rw[aA f,aS,GX,aB ⟨i,f⟩]
   ·have c:¬(γ s:Int)=1:=by omega
    rw[aA c,aA (λh=>i h.1)];exact a
theorem bhk(s:aC)(f:γ s<=9223372036854775807):wi FU s=θ (mC s):=by
 unfold wi mC;rw[CM s f,aS];obtain⟨r,i⟩:=yU (cZ s);cases m:An s
 ·rfl
 ·rw[iV,aJ,aS];by_cases d:64<γ s
  ·rw[aH bA,aO,aB (Or.inr d)]
  ·have l:¬(μ=ν\/64<γ s):=by simp[d]
   rw[aG bA,aJ,aA l,i,Option.getD_some,XM s f,aS,II,i,aS,CO s f];have k:γ (cZ s)=γ s:=by simp[cZ]
   have a:dQ (λ(j:Unit)=>(θ (title μ s)).bind λ(c:aC)=>θ (c,(0:ζ))) (λq=>θ q) r=θ (dQ (λ_=>(title μ s,0)) id r):=by cases r<;>rfl
   by_cases g:γ s=1
   ·have b:(γ s:Int)=1:=by omega
    rw[aB b,aV bA,low_at s g,U3,aS,aS];by_cases e:Ts (fQ (Υ s 0))=[]
    ·rw[aH e,iV,aJ,aA (λh=>h.2 e)];exact a
    ·rw[aG e,vJ,aO,aV bA,aS,aB ⟨g,e⟩]
   ·have b:¬(γ s:Int)=1:=by omega
    rw[aA b,aS,aJ,aA (λh=>g h.1)];exact a
theorem jq{fu:Nat}(c:aC)(l:δ aC)(i:γ l<=100)(e:∀x∈l,x≠c)(n:Nat):∀(k a:Nat),k+n=γ l->n<a->att fu c l a (k:Int)=θ (.inl ()):=by
 induction n with
 |zero=>intro k a f g;obtain⟨a,rfl⟩:=cD a;rw[bdj,arq,aA bA]
 |succ n d=>
  intro k a f g;obtain⟨a,rfl⟩:=cD a;have b:(0:Int)<=(k:Int)/\(k:Int)<(γ l:Int):=aA0
  have h:el l (k:Int)≠c:=by
   have:el l (k:Int)=l[k]'bA:=by simp[el,show k<γ l by omega]
   rw[this];exact e _ (fB _)
  rw[bdj,arq,aB bA,aV b,aV b,aA h,aV (cJ _ bA bA)];exact d (k+1) a bA bA
theorem Vk(c:aC)(l:δ aC)(b:γ l<=100)(a:∀x∈l,x≠c):lx FU c l=θ ν:=by unfold lx;have:=jq (fu:=FU) c l b a (γ l) 0 FU bA aA5;rw[show((0:Int))=((0:Nat):Int)from rfl,this];rfl
theorem so{fu:Nat}(c:aC)(d:∀x∈Et,x.1≠c)(n:Nat):∀k a,k+n=31->n<a->aqi fu c a k=θ (.inl ()):=by
 have h:γ Et=31:=aA4;induction n with
 |zero=>intro k a e f;obtain⟨a,rfl⟩:=cD a;rw[bau,aoc,aA bA]
 |succ n b=>
  intro k a e f;obtain⟨a,rfl⟩:=cD a;have g:(el Et (k:Int)).1≠c:=by
   have:el Et (k:Int)=Et[k]'bA:=by simp[el,show k<γ Et by omega]
   rw[this];exact d _ (fB _)
  rw[bau,aoc,aB bA,aV bA,aV bA,aA g,aV (cJ _ bA bA)];exact b (k+1) a bA bA
theorem cf(c:aC)(a:∀x∈Et,x.1≠c):ays FU c=θ 0:=by unfold ays;have:=so (fu:=FU) c a 31 0 FU bA aA5;rw[show((0:Int))=(0:Nat)from rfl,this];rfl
theorem CQ(c:aC)(f:∀x∈Et,x.1≠c):bas FU c=θ 0:=by
 have d:∀n:aC,(Et.any λx=>x.1==n)=μ->n≠c:=λn h=>by obtain⟨x,hx,e⟩:=eK.1 h;rw[<-eq_of_beq e];exact f x hx
 have b:∀n:aC,(Et.any λx=>x.1==n)=μ->¬c=n:=λn h e=>d n h e.symm;have a:∀l:δ aC,γ l<=100->(l.all λn=>Et.any λx=>x.1==n)=μ->lx FU c l=θ ν:=λl g h=>Vk c l g λx hx=>d x (aT.1 h x hx);unfold bas;rw[a _ aA1 aA4,aS,aJ,aA (b _ aA4),aA (b _ aA4),aA (b _ aA4),a _ aA1 aA4,aS,aJ,a _ aA1 aA4,aS,aJ,a _ aA1 aA4,aS,aJ]
def vQ(c:aC):η:=(aqh FU c).getD ν
theorem rb:∀x∈Et,aqh FU x.1=θ (vQ x.1):=aA4
theorem DI(c:aC)(b:∀x∈Et,x.1≠c):aqh FU c=θ ν:=by
 have a:∀n:aC,(Et.any λx=>x.1==n)=μ->¬c=n:=λn h e=>by obtain⟨x,hx,e'⟩:=eK.1 h;exact b x hx ((eq_of_beq e').trans e.symm)
 unfold aqh;rw[aA (a _ aA4),aA (a _ aA4),aA (a _ aA4),aA (a _ aA4),aA (a _ aA4),cf c b];rfl
theorem rf(c:aC):aqh FU c=θ (vQ c):=by
 by_cases h:∃x∈Et,x.1=c
 ·obtain⟨x,hx,rfl⟩:=h;exact rb x hx
 ·have:=DI c λx hx e=>h ⟨x,hx,e⟩;rw[vQ,this];rfl
def zL:δ aC:=[[67,111,110,116,97,99,116],[80,97,116,104],[82,101,99,111,114,100,45,82,111,117,116,101],[82,111,117,116,101],[83,101,114,118,105,99,101,45,82,111,117,116,101],[86,105,97]]
theorem Xh(c:aC):((bas FU c).bind λ(b:Int)=>if b=(7:Int)then θ μ else(lx FU c zL).bind λ(a:η)=>θ a)=θ (vQ c):=by
 by_cases h:∃x∈Et,x.1=c
 ·obtain⟨x,hx,rfl⟩:=h;revert x;decide+kernel
 ·have d:∀x∈Et,x.1≠c:=λx hx e=>h ⟨x,hx,e⟩;have f:∀n:aC,(Et.any λx=>x.1==n)=μ->n≠c:=λn h=>by obtain⟨x,hx,e⟩:=eK.1 h;rw[<-eq_of_beq e];exact d x hx
  have g:(zL.all λn=>Et.any λx=>x.1==n)=μ:=aA4;rw[CQ c d,aS,aA aA1,Vk c zL aA1 (λx hx=>f x (aT.1 g x hx)),vQ,DI c d];rfl
theorem JJ(s:aC)(a:γ s<=9223372036854775807):bck FU s=θ (if(mC s).2=0 then vQ (mC s).1 else ν):=by
 unfold bck;rw[Be s a,aS];by_cases h:(mC s).2=0
 ·rw[aB h,aB h,rf];rfl
 ·rw[aA h,aA h];rfl
theorem Qm(s:aC)(a:γ s<=9223372036854775807):beu FU s=θ (if(mC s).2=0 then vQ (mC s).1 else ν):=by
 unfold beu;rw[bhk s a,aS];by_cases h:(mC s).2=0
 ·have:=Xh (mC s).1;unfold zL at this;rw[aB h,aB h,this];rfl
 ·rw[aA h,aA h];rfl
open Go.Lib renaming trimLeftS → Ff
variable{b:Type}
theorem eF{p:Prop}[Decidable p]{k:ε b}(h:p:=by first|omega|exact cJ _ bA bA|(simp only[Pn,dF,List.length_nil,List.length_singleton];omega)):gd p k=k:=aV h
theorem qG(k:Nat):k+1=((k+1:Nat):Int):=rfl
theorem yY(p:ζ->η)(s:aC)(F:Nat->Int->ε Int)
  (g:∀a,F (a+1) (γ s)=θ (γ s:Int))
  (f:∀a k,k<γ s->p (Υ s k)=ν->F (a+1) k=θ (k:Int))
  (e:∀a k,k<γ s->p (Υ s k)=μ->F (a+1) k=F a (k+1)) (n:Nat):
  ∀k a,k+n=γ s->n<a->F a k=θ ((k+dV p (s.drop k):Nat):Int):=by
 induction n with
 |zero=>intro k a c d;obtain⟨a,rfl⟩:=cD a;obtain rfl:k=γ s:=aA0;rw[g,WX];rfl
 |succ n b=>
  intro k a c d;obtain⟨a,rfl⟩:=cD a;rw[Pb s k bA];cases h:p _
  ·rw[f a k bA h];simp[dV,h]
  ·rw[e a k bA h,qG,b _ a bA bA];have i:dV p (Υ s k::s.drop (k+1))=1+dV p (s.drop (k+1)):=by simp[dV,h,Ie]
   rw[i,Cb]
theorem Ux(i:Int)(n:Nat):min (max i 0) n=(Ep i n):=aD2
theorem BI(p:ζ->η):∀(a b:aC),a.all p=μ->dV p (a++b)=γ a+dV p b
 |[],b,_=>by simp
 |c::a,b,h=>by rw[Pt,Bv]at h;rw[AP,dV,aB h.1,BI p a b h.2,dT];omega
theorem tY(p:ζ->η)(c:ζ)(l:aC)(h:p c=ν):dV p (c::l)=0:=by rw[dV,aA (by simp[h])]
theorem xO(fu:Nat)(c:ζ):ams fu c=θ (cF c):=by show ams 0 c=_;revert c;exact hY _ aA4
theorem Ck(fu:Nat)(c:ζ):wh fu c=θ (cF c):=by show wh 0 c=_;revert c;exact hY _ aA4
theorem Zh(fu:Nat)(c:ζ):aob fu c=θ (jD c):=by show aob 0 c=_;revert c;exact hY _ aA4
theorem bhj(fu:Nat)(c:ζ):aoy fu c=θ (jD c):=by show aoy 0 c=_;revert c;exact hY _ aA4
theorem Zg(fu:Nat)(c:ζ):aoa fu c=θ (XJ c):=by show aoa 0 c=_;revert c;exact hY _ aA4
theorem Uz(s:aC)(c:γ s<=4194304)(i:Int):anl FU s i=θ ((cB cF s i):Int):=by
 unfold anl ajp;have d:=uN i (γ s);rw[Ux,yY cF s (aet FU s) ?_ ?_ ?_ (γ s-Ep i (γ s)) _ FU bA aA5]
 ·rfl
 ·intro a;rw[agj,acs,aA bA];rfl
 ·intro a k b h;rw[agj,acs,aB bA,eF,xO,h];rfl
 ·intro a k b h;rw[agj,acs,aB bA,eF,xO,h,aS,aS,aO,eF]
theorem lv(s:aC)(c:γ s<=4194304)(i:Int):WE FU s i=θ ((cB cF s i):Int):=by
 unfold WE;have d:=uN i (γ s);rw[Ux,yY cF s (arz FU s) ?_ ?_ ?_ (γ s-Ep i (γ s)) _ FU bA aA5]
 ·rfl
 ·intro a;rw[avc,alj,aA bA];rfl
 ·intro a k b h;rw[avc,alj,aB bA,eF,Ck,h];rfl
 ·intro a k b h;rw[avc,alj,aB bA,eF,Ck,h,aS,aS,aO,eF]
def CU(p:ζ->η)(l:aC):aC:=(l.reverse.dropWhile p).reverse
theorem CS(p:ζ->η)(c:ζ)(l:aC):CU p (c::l)=if CU p l=[]then(if p c then []else [c])else c::CU p l:=by
 unfold CU;rw[List.reverse_cons,List.dropWhile_append];cases h:l.reverse.dropWhile p with
 |nil=>cases b:p c<;>simp[b]
 |cons a t=>simp
theorem X8(p:ζ->η)(l:aC)(c:ζ):CU p (l++[c])=if p c then CU p l else l++[c]:=by unfold CU;rw[List.reverse_append,List.reverse_singleton,fJ,List.dropWhile_cons];split<;>simp
theorem CT(p:ζ->η):∀l:aC,(CU p l).dropWhile p=CU p (l.dropWhile p)
 |[]=>rfl
 |c::l=>by
  have b:=CT p l;cases a:p c
  ·have e:List.dropWhile p (c::l)=c::l:=by simp[a]
   rw[e,CS];split<;>simp[a]
  ·have e:List.dropWhile p (c::l)=l.dropWhile p:=by simp[a]
   rw[e,<-b,CS];split
   ·rename_i h;simp[h]
   ·simp[a]
theorem Yw(p:ζ->η):∀l:aC,(l.dropWhile p).dropWhile p=l.dropWhile p
 |[]=>rfl
 |c::l=>by
  cases h:p c with
  |true=>rw[List.dropWhile_cons_of_pos h];exact Yw p l
  |false=>rw[Pq (by rw[h];decide),Pq (by rw[h];decide)]
def oS(s:aC):aC:=CU cF (s.dropWhile cF)
theorem Va:(λc=>([32,9]).contains c)=cF:=by funext c;revert c;exact hY _ aA4
theorem ZV(s:aC):Lib.trimS s [32,9]=oS s:=by unfold Lib.trimS Ff Lib.trimRightS oS;rw[Va];exact CT cF s
theorem nv(s:aC)(a:γ s<=4194304):aqg FU s=θ (oS s):=by unfold aqg;rw[eF,aV aA1,ZV]
theorem bfm(p:ζ->η):∀l:aC,l.drop (dV p l)=l.dropWhile p
 |[]=>rfl
 |c::l=>by
  have b:=bfm p l;cases a:p c
  ·simp[dV,a]
  ·simp[dV,a,b]
theorem Kj(p:ζ->η)(s:aC):cB p s 0=dV p s:=by have a:Ep 0 (γ s)=0:=aD2;unfold cB;rw[a];simp
theorem JA(s:aC)(y:Int)(i:γ (s.drop y.toNat)<=4194304)(n:Nat):∀a,n<=γ (s.drop y.toNat)->n<a->
  ∃m:Nat,m<=n/\awc FU s y a (n:Int)=θ (m:Int)/\(s.drop y.toNat).take m=CU cF ((s.drop y.toNat).take n):=by
 induction n with
 |zero=>intro a c d;obtain⟨a,rfl⟩:=cD a;exact⟨0,dC _,by rw[bfd,auh,aA bA];rfl,Τ⟩
 |succ n b=>
  intro a c d;obtain⟨a,rfl⟩:=cD a;have e:(((n+1:Nat):Int)-1)=(n:Int):=aA0;rw[bfd,auh,aB bA,e,eF,eF,Ck,eF,tX _ n bA,X8];cases h:cF (Υ (s.drop y.toNat) (n:Int))
  ·exact⟨n+1,dC _,Τ,by simp[tX _ n (show n<γ (s.drop y.toNat) by omega)]⟩
  ·obtain⟨m,j,g,f⟩:=b a bA bA;exact⟨m,aA0,g,aE0⟩
theorem wW(s:aC)(a:γ s<=4194304):axg FU s=θ (oS s):=by
 unfold axg;have g:=pO cF s 0;have b:γ (s.drop (((cB cF s 0):Int)).toNat)<=4194304:=aB6;obtain⟨m,h,d,c⟩:=JA s _ b _ FU (dC _) aA5;rw[lv s a,aS,eF,d,aS,eF];have e:(m:Int).toNat=m:=aA0;rw[e,c,iA];have f:(((cB cF s 0):Int)).toNat=dV cF s:=by rw[Kj];omega
 rw[f,bfm];rfl
theorem qb(p:ζ->η)(l:aC):γ (CU p l)<=γ l:=by unfold CU;have:=bhz p l.reverse;simpa using this
theorem RP(s:aC):γ (oS s)<=γ s:=jZ (qb _ _) (bhz _ _)
def fR:aC->Nat->aC->aC×Int×ζ
 |[],k,_=>([],k,6)
 |[c],k,a=>if c=34 then(a,((k+1:Nat)),0)else if c=92 then([],((k+1:Nat)),6)else if jD c then([],k,5)else([],((k+1:Nat)),6)
 |c::d::r,k,a=>
  if c=34 then(a,((k+1:Nat)),0)
  else if c=92 then(if XJ d then fR r (k+2) (a++[d])else([],k,5))
  else if jD c then([],k,5)else fR (d::r) (k+1) (a++[c])
theorem mK(c:ζ)(l:aC)(k:Nat)(a:aC):fR (c::l) k a=
  if c=34 then(a,((k+1:Nat):Int),0)
  else if c=92 then(if l=[]then([],((k+1:Nat)),6)else if XJ (Υ l 0)then fR (l.drop 1) (k+2) (a++[Υ l 0])else([],k,5))
  else if jD c then([],k,5)else fR l (k+1) (a++[c]):=by
 cases l with
 |nil=>simp[fR]
 |cons d r=>simp[fR,Υ]
def sW(s:aC)(i:Int):aC×Int×ζ:=
 if i<0\/γ s<i then([],0,2)
 else if i=γ s\/Υ s i≠34 then([],i,5)
 else fR (s.drop (i.toNat+1)) (i.toNat+1) []
theorem FZ(s:aC)(k:Nat):Υ (s.drop k) 0=Υ s k:=by simp[Υ]
theorem bep(s:aC)(k:Nat):s.drop k=[]↔γ s<=k:=by rw[List.drop_eq_nil_iff]
def Jv(s:aC)(j:((aC×Int)⊕(aC×Int×ζ))):ε (aC×Int×ζ):=
 dQ (λv=>if(γ s:Int)<=v.2 then θ ([],γ s,6)else gd (bK (v.2+1))<|some (v.1,v.2+1,0)) (λq=>θ q) j
theorem unq_lp(s:aC)(p:γ s<=4194304)(n:Nat):∀k b (a:aC),γ s-k<=n->n<b->k<=γ s->γ a<=k->
  ((aqf FU s b a k).bind (Jv s))=θ (fR (s.drop k) k a):=by
 induction n with
 |zero=>intro k b a g l j m;obtain⟨b,rfl⟩:=cD b;obtain rfl:k=γ s:=aA0;rw[ath,ajv,aA bA,WX,aS];unfold Jv;rw[qL,aB aA2];rfl
 |succ n e=>
  intro k b a g l j m;obtain⟨b,rfl⟩:=cD b;by_cases i:k<γ s
  ·rw[Pb s k i,mK,ath,ajv,aB bA,eF];by_cases d:Υ s (k:Int)=34
   ·rw[aB d,aB d,aS];unfold Jv;rw[qL,aA aA3,aV (cJ _ aA3 aA3)];rfl
   ·rw[aA d,aA d];by_cases c:Υ s k=92
    ·rw[aB c,aB c,eF];by_cases f:k+1=γ s
     ·rw[aB bA,aB ((bep s _).2 bA),aS];unfold Jv;rw[GX,f]
     ·rw[aA bA,aA (λh=>f (by have:=(bep s _).1 h;omega)),eF,eF,Zg,aS,FZ,qG];cases o:XJ _
      ·rfl
      ·rw[iV,aJ,aB rfl,eF,eF,eF,eF,AG,qG,
        e _ b _ bA bA bA aA3]
    ·rw[aA c,aA c,Zh,aS];cases o:jD _
     ·rw[aJ,aA aA1,eF,eF,eF,qG,e _ b _ bA bA bA aA3]
     ·rfl
  ·obtain rfl:k=γ s:=by omega
   rw[ath,ajv,aA bA,WX,aS];unfold Jv;rw[qL,aB aA2];rfl
theorem wP(s:aC)(e:γ s<=4194304)(i:Int):apa FU s i=θ (sW s i):=by
 unfold apa sW;by_cases d:i<0
 ·rw[aB d,aB (show i<0\/γ s<i from .inl d)];rfl
 ·rw[aA d];by_cases c:γ s<i
  ·rw[aH c,aB (show i<0\/γ s<i from .inr c)];rfl
  ·rw[aG c,aA (show¬(i<0\/γ s<i)by omega)];by_cases b:i=(γ s:Int)
   ·rw[aB b,aB (show i=(γ s:Int)\/Υ s i≠34 from .inl b)];rfl
   ·rw[aA b,eF];by_cases a:Υ s i=34
    ·rw[aH a,aA (by simp[b,a]),eF];obtain⟨k,rfl⟩:∃k:Nat,i=k:=⟨i.toNat,aA0⟩;exact unq_lp s e (γ s) (k+1) FU [] bA aA5 bA aA2
    ·rw[aG a,aB (.inr a)];rfl
open Go.Lib renaming join → dP, trimLeftS → Ff
open List renaming length → aR
theorem wg(p:ζ->η)(s:aC)(r:b)(F:Nat->Int->ε (Unit⊕b))
  (i:∀a,F (a+1) (γ s)=θ (.inl ()))
  (g:∀a k,k<aR s->p (Υ s k)=ν->F (a+1) k=θ (.inr r))
  (f:∀a k,k<aR s->p (Υ s k)=μ->F (a+1) k=F a (k+1)) (n:Nat):
  ∀k a,k+n=aR s->n<a->F a k=θ (if(s.drop k).all p=μ then .inl ()else .inr r):=by
 induction n with
 |zero=>intro k a d e;obtain⟨a,rfl⟩:=cD a;obtain rfl:k=aR s:=aA0;rw[i,WX];rfl
 |succ n c=>
  intro k a d e;obtain⟨a,rfl⟩:=cD a;rw[Pb s k bA,Pt];cases h:p _
  ·rw[g a k bA h];rfl
  ·rw[f a k bA h,qG,c _ a bA bA];simp
theorem nP(p:ζ->η)(s:aC)(f:aR s<=4194304)(r:b)(F:Nat->Int->ε (Unit⊕b))
  (e:∀a,F (a+1) (γ s)=θ (.inl ()))
  (d:∀a k,k<aR s->p (Υ s k)=ν->F (a+1) k=θ (.inr r))
  (c:∀a k,k<aR s->p (Υ s k)=μ->F (a+1) k=F a (k+1)):F FU 0=θ (if s.all p=μ then .inl ()else .inr r):=by
 have:=wg p s r F e d c (γ s) 0 FU bA aA5;exact this
theorem LK(s:aC)(k:aR s<=4194304)(l:aC):∀p a,aR p+aR l=aR s->aR l<a->
  aqj FU s a (p++l) (γ p)=θ (p++l.map fQ):=by
 induction l with
 |nil=>intro p a g i;obtain⟨a,rfl⟩:=cD a;simp at g;rw[bav,aoe,aA bA];rfl
 |cons c l f=>
  intro p a g i;obtain⟨a,rfl⟩:=cD a;simp at g i;have j:=Lu p c l;have b:=f (p++[fQ c]) a aC0 bA;have ok:bK ((aR p:Int)+1):=cJ _ bA bA;rw[bav,aoe,aB bA];simp only[aV j,AL,aV ok,zA];by_cases e:65<=c
  ·by_cases d:c<=90
   ·simp only[aB e,aH d,Tp c e d];rw[KZ p (fQ c),b];simp
   ·simp only[aG d];rw[zp c (λh=>d h.2)]at b;rw[KZ p c,show p++c::l=(p++[c])++l by simp,b];simp[zp c (λh=>d h.2)]
  ·simp only[aA e];rw[zp c (λh=>e h.1)]at b;rw[KZ p c,show p++c::l=(p++[c])++l by simp,b];simp[zp c (λh=>e h.1)]
theorem azu(s:aC)(a:aR s<=4194304):WG FU s=θ (cZ s):=by unfold WG;have:=LK s a s [] FU aA2 aA5;simp at this;rw[this];rfl
theorem Vq(c:ζ):ama FU c=θ (vj c):=by revert c;exact hY _ aA4
theorem Bh(c:ζ):XP FU c=θ (fZ c):=by revert c;exact hY _ aA4
theorem Sy(c:ζ):avp FU c=θ (vj c):=by revert c;exact hY _ aA4
theorem zD(c:ζ):WD FU c=θ (fZ c):=by revert c;exact hY _ aA4
theorem wz:∀c:ζ,(afq FU c).map (·.2)=θ (gJ c):=hY _ aA4
theorem ka(c:ζ):∃v,afq FU c=θ (v,gJ c):=by obtain⟨⟨v,b⟩,d,a⟩:=cH.1 (wz c);exact⟨v,by rw[d,<-a]⟩
theorem pn:∀c:ζ,(ls FU c).map (λn=>decide (n<0))=θ (!gJ c):=hY _ aA4
theorem W2(c:ζ):∃n,ls FU c=θ n/\decide (n<0)= !gJ c:=by obtain⟨n,b,a⟩:=cH.1 (pn c);exact⟨n,b,a⟩
def ky(y:aC)(l:δ aC):δ aC:=match l with|x::r=>(y++x)::r|[]=>[y]
theorem OA(l:δ aC)(h:l≠[]):ky [] l=l:=by cases l with|nil=>exact absurd rfl h|cons _ _=>rfl
theorem awi(c:ζ)(l:aC):cG c (c::l)=[]::cG c l:=by rw[cG,aB rfl]
theorem zv(c b:ζ)(l:aC)(h:b≠c):cG c (b::l)=ky [b] (cG c l):=by rw[cG,aA h];cases cG c l<;>rfl
theorem qi(y z:aC)(l:δ aC)(h:l≠[]):ky y (ky z l)=ky (y++z) l:=by cases l with|nil=>exact absurd rfl h|cons _ _=>simp[ky]
theorem Kd(c:ζ):∀s:aC,((cG c s).map aR).sum+γ (cG c s)=aR s+1
 |[]=>rfl
 |b::l=>by
  have a:=Kd c l;by_cases h:b=c
  ·subst h;rw[awi];simp;omega
  ·rw[zv c b l h];cases hx:cG c l with
   |nil=>exact absurd hx (Cd c l)
   |cons x r=>rw[hx]at a;simp only[ky,qO,eY,dT,cR,tU]at a⊢;omega
theorem BG(s:aC)(f k:Nat)(b:f<=k)(h:k<aR s):sub s f ((k+1:Nat))=sub s f k++[Υ s k]:=by unfold sub;have a:((k+1:Nat):Int).toNat-((f:Nat):Int).toNat=(k-f)+1:=aA0;rw[a,tX _ (k-f) aB6];congr 2;simp only[Υ,bF,bV];congr 2;omega
theorem jk(s:aC)(k:Nat):sub s k k=[]:=by unfold sub;simp
theorem TK(s:aC)(c:ζ)(r:aR s<=4194304)(n:Nat):∀k f b out,k+n=aR s->n<b->f<=k->aR out<=k->
  ∃a f':_,amh FU s c b out f k=θ (a,((f':Nat):Int))/\f'<=aR s/\γ a<=aR s/\a++[s.drop f']=out++ky (sub s f k) (cG c (s.drop k)):=by
 induction n with
 |zero=>intro k f b out q p m o;obtain⟨b,rfl⟩:=cD b;obtain rfl:k=aR s:=aA0;refine⟨out,f,by rw[bbr,apy,aA bA],aA0,aA0,?_⟩;rw[WX];congr 2;unfold sub;rw[xi aB6];simp
 |succ n l=>
  intro k f b out q p m o;obtain⟨b,rfl⟩:=cD b;have d:k<aR s:=aA0;rw[bbr,apy,aB bA,eF,Pb s k d];by_cases e:Υ s (k:Int)=c
  ·rw[aB e,aV bA,aV aA3,eF,eF];obtain⟨o',f',j,i,h,g⟩:=l (k+1) (k+1) b (out++[sub s (f:Int) (k:Int)]) bA bA bA aA3;refine⟨o',f',j,i,h,?_⟩;rw[g,e,awi,jk,OA _ (Cd c _)];simp[ky]
  ·rw[aA e,eF];obtain⟨o',f',j,i,h,g⟩:=l (k+1) f b out bA bA bA bA;refine⟨o',f',j,i,h,?_⟩;rw[g,zv c _ _ e,qi _ _ _ (Cd c _),BG s f k m d]
theorem pieces_eq(s:aC)(c:ζ)(b:aR s<=4194304):avo FU s c=θ (cG c s):=by obtain⟨o',f',e,h,g,d⟩:=TK s c b (γ s) 0 0 FU [] bA aA5 bA aA2;unfold avo;have a:amh FU s c FU [] (0:Int) (0:Int)=θ (o',((f':Nat):Int)):=e;rw[a,aS,aV (by simp only;omega),aV aA3];simp;rw[d,WZ,yL];have f:sub s ((0:Nat):Int) ((0:Nat):Int)=[]:=jk s 0;rw[f,OA _ (Cd c s)]
def wR:aC->aC
 |[]=>[]
 |[c]=>[c]
 |c::d::l=>if c=48 then wR (d::l)else c::d::l
theorem low48:∀c:ζ,(fQ c==48)=(c==48):=hY _ aA4
theorem ZX(c:ζ)(l:aC):Ff (cZ (c::l)) [48]=if c=48 then Ff (cZ l) [48]else cZ (c::l):=by
 unfold Ff cZ;rw[qO,List.dropWhile_cons];have h:[48].contains (fQ c)=(c==48):=by rw[<-low48 c];simp;rfl
 rw[h];by_cases a:c=48
 ·rw[aB a,aB aC1]
 ·rw[aA a,aA aC1]
theorem Kb:∀g:aC,g≠[]->cZ (wR g)=jY g
 |[],h=>absurd Τ h
 |[c],_=>by
  have e:jY [c]=if Ff (cZ [c]) [48]=[]then [48]else Ff (cZ [c]) [48]:=Τ;rw[e,ZX];by_cases a:c=48
  ·subst a;rfl
  ·rw[aA a];rfl
 |c::d::l,_=>by
  have b:=Kb (d::l) aA2;have e:jY (c::d::l)=if Ff (cZ _) _=[]then [48]else Ff (cZ _) _:=Τ;rw[e,ZX,wR];by_cases a:c=48
  ·simp only[aB a];rw[b];rfl
  ·simp only[aA a];rw[aA (by simp[cZ])]
theorem VA(n:Nat):∀(g:aC) (a:Nat),aR g<=n->n<a->aub FU a g=θ (wR g):=by
 induction n with
 |zero=>intro g a b i;obtain⟨a,rfl⟩:=cD a;obtain rfl:g=[]:=Gh bA;rw[bdo,arx,aA aA2];rfl
 |succ n f=>
  intro g a b i;obtain⟨a,rfl⟩:=cD a;rw[bdo,arx]
  match g,b with
  |[],_=>rw[aA aA2];rfl
  |[c],_=>rw[aA aA2];rfl
  |c::d::l,b=>
   have h:(1:Int)<(γ (c::d::l):Int):=by simp only[dT];omega
   rw[aB h,aV bA,aS,wR];have j:Υ (c::d::l) (0:Int)=c:=Τ;rw[j];by_cases e:c=48
   ·rw[aH e,aO,aV bA,aB e];exact f (d::l) a (by simp only[dT]at b⊢;omega) bA
   ·rw[aG e,aJ,aA e]
theorem Sp:∀g:aC,γ (wR g)<=aR g
 |[]=>dC _
 |[c]=>dC _
 |c::d::l=>by
  rw[wR];split
  ·have:=Sp (d::l);simp at this⊢;omega
  ·exact dC _
theorem dx(g:aC)(l:aR g<=4194304):bcf FU g=θ (if sV g then(jY g,μ)else([],ν)):=by
 unfold bcf;by_cases b:(aR g:Int)<1
 ·rw[aB b,uI g (.inl b)];rfl
 ·rw[aA b,aS];by_cases c:4<(aR g:Int)
  ·rw[aH c,uI g (.inr c)];rfl
  ·rw[aG c];have d:=nP gJ g l (([]:aC),ν) (auc FU g)
    (λi=>by rw[awt,amj,aA bA])
    (λi k j h=>by obtain⟨n,f,a⟩:=W2 (Υ g k);rw[h]at a;rw[awt,amj,aB bA,eF,f,aS,aB (cC a)])
    (λi k j h=>by obtain⟨n,f,a⟩:=W2 (Υ g k);rw[h]at a;rw[awt,amj,aB bA,eF,f,aS,aA (fG a),eF])
   rw[d,aS];cases hx:g.all gJ with
   |false=>rw[Uk g hx];rfl
   |true=>
    rw[Uj g b c hx,VA (γ g) g FU (dC _) aA5,aS,
     XM _ (by have:=Sp g;omega),Kb g (by intro e;subst e;simp at b)]
    rfl
theorem UF(p:δ aC)(x:aC):dP (p++[x]) [58]=(if p=[]then []else dP p [58]++[58])++x:=by
 induction p with
 |nil=>simp[dP]
 |cons a p c=>
  cases p with
  |nil=>simp[dP]
  |cons b p=>
   have e:∀u v l,dP (u::v::l) [58]=u++(58::dP (v::l) [58]):=λu v l=>by simp[dP]
   rw[AP,AP,e,<-AP,c,e];simp
theorem UZ(X:δ aC)(s:aR X<=4194305)(hx:∀x∈X,aR x<=4194304)(q:δ aC):∀p c,X=p++q->aR q<c->p.all sV=μ->
  ami FU X c (dP (p.map jY) [58]) (γ p)=θ (if X.all sV=μ then .inl (dP (X.map jY) [58])else .inr ([],0,ν)):=by
 induction q with
 |nil=>intro p c h k d;obtain⟨c,rfl⟩:=cD c;rw[gV]at h;subst h;rw[bbt,aqa,aA bA,aB d]
 |cons a q l=>
  intro p c h k d;obtain⟨c,rfl⟩:=cD c;have i:=bM aR h;simp at i k;have e:(0:Int)<=(aR p:Int)/\(aR p:Int)<(aR X:Int):=aA0;have n:el X (aR p:Int)=a:=aB3;have o:aR a<=4194304:=hx a aA7;rw[bbt,aqa,aB e.2,aV e,aV e,n,dx a o,aS];cases g:sV a with
  |false=>
   have:X.all sV=ν:=by rw[h,eC,Pt,g];simp
   rw[this];rfl
  |true=>
   have r:=Aq a g;have j:=jg [58] 4 (p.map jY) (λx f=>by obtain⟨y,m,rfl⟩:=gD.1 f;exact Aq y (aT.1 d y m));simp at j;have:=l (p++[a]) c aA7 bA (by rw[eC,d];simpa using g);rw[Ru,mi,UF]at this;rw[show(γ (p++[a]):Int)=(aR p:Int)+1 by simp]at this;simp only[gZ];cases p with
   |nil=>rw[aA aA2,aS,aV (by simp only[dP];simp;omega)];exact this
   |cons b p=>simp only[dT]at j i e;rw[aB (by simp only[dT];omega),aV aB7,aS,aV aB4,aV (cJ _ bA aA3)];exact this
theorem qW(s:aC)(b:aR s<=4194304):ara FU s=θ (dP (iO s).1 [58],(γ (iO s).1:Int),(iO s).2):=by
 unfold ara;by_cases h:s=[]
 ·rw[aB h,Ul s h];rfl
 ·have d:=vk 58 s;have:=UZ (cG 58 s) bA (λx hx=>jZ (d.2 x hx) b) (cG 58 s) [] FU aA2 aA5 Τ;have a:ami FU _ FU [] 0=_:=this;rw[aA h,bgk s h,pieces_eq s 58 b,aS,a,aS];cases c:(cG 58 s).all sV with
  |false=>rw[xJ s c];rfl
  |true=>rw[sH s c,aB rfl,qL,Gj]
open Go.Lib renaming cut → jF, index → fO, join → dP, trimLeftS → Ff
theorem VB(l:δ aC)(x:Int)(d:γ (el l x)<=4194304):akg FU l x FU 0=θ (if(el l x).all gJ=μ then .inl ()else .inr ([],ν)):=by
 refine nP gJ _ d _ _ ?_ ?_ ?_
 ·intro b;rw[ann,agx,aA bA]
 ·intro b k c h;obtain⟨v,a⟩:=ka _;rw[h]at a;rw[ann,agx,aB bA,eF,a];simp
 ·intro b k c h;obtain⟨v,a⟩:=ka _;rw[h]at a;rw[ann,agx,aB bA,eF,a,aS,iV,aJ,eF]
theorem dy(s:aC)(p:γ s<=4194304)(n:Nat):∀k c,k+n=γ (cG 58 s)->n<c->((cG 58 s).take k).all sV=μ->
  afm FU s c (VV (cG 58 s) k) k=θ (if(cG 58 s).all sV=μ then .inl ((cG 58 s).map jY)else .inr ([],ν)):=by
 have u:=vk 58 s;induction n with
 |zero=>intro k c r t f;obtain⟨c,rfl⟩:=cD c;obtain rfl:k=γ (cG 58 s):=aA0;rw[iA]at f;rw[avr,ajn,aA bA,aB f,KA]
 |succ n m=>
  intro k c r t f;obtain⟨c,rfl⟩:=cD c;have b:k<γ (cG 58 s):=aA0;have q:=JZ (cG 58 s) k bA;have a:0<=(k:Int)/\(k:Int)<(γ (VV (cG 58 s) k):Int):=aA0;have l:=grp_el (cG 58 s) k b;have d:γ (el (cG 58 s) (k:Int))<=4194304:=jZ (u.2 _ (Yv _ k b)) p;have fail:sV (el (cG 58 s) (k:Int))=ν->(cG 58 s).all sV=ν:=λh=>Rp sV _ k b h;rw[avr,ajn,aB bA,aV a,aV a,l];by_cases i:(γ (el (cG 58 s) k):Int)<1
  ·rw[aB i,fail (uI _ (.inl i))];rfl
  ·rw[aA i,aS];by_cases g:4<(γ (el (cG 58 s) k):Int)
   ·rw[aH g,fail (uI _ (.inr g))];rfl
   ·rw[aG g,aJ,VB _ _ (by rw[l];exact d),l,aS];cases hx:(el (cG 58 s) _).all gJ with
    |false=>rw[fail (Uk _ hx)];rfl
    |true=>
     have j:=Uj _ i g hx;rw[aB rfl,qL,azu _ d,aS,aV (by simp[cZ];omega),aV aA1];have step:∀v,v=jY _->afm FU s c (Ξ _ _ v) ((k:Int)+1)=θ (if(cG 58 s).all sV=μ then .inl ((cG 58 s).map jY)else .inr ([],ν)):=λv o=>by rw[<-dv (cG 58 s) k v b o];exact m _ c bA bA (Oy sV _ k b f j)
     have ok:bK (k+1):=cJ _ bA bA;by_cases e:Ff (cZ (el (cG 58 s) k)) [48]=[]
     ·rw[aB e,aV a,aV a,aS,qL,aV ok,step [48] (UW _ e)]
     ·rw[aA e,aV a,aV a,aS,qL,aV ok,step (Ff (cZ (el (cG 58 s) (k:Int))) [48]) (UY _ e)]
theorem EW(s:aC)(c:γ s<=4194304):agk FU s=θ (Bz s):=by
 have d:=vk 58 s;have:=dy s c (γ (cG 58 s)) 0 FU bA aA5 Τ;rw[EV]at this;have a:afm FU s FU _ 0=_:=this;unfold agk;rw[aV bA,a];cases b:(cG 58 s).all sV with
 |false=>rw[xJ s b];rfl
 |true=>rw[sH s b];rfl
theorem eb(x:aC)(hx:γ x<=4194304):(if x=[]then θ ([],μ)else(agk FU x).bind λa=>θ (a.1,a.2))=θ (iO x):=by
 by_cases h:x=[]
 ·rw[aB h,Ul x h]
 ·rw[aA h,bgk x h,EW x hx];rfl
theorem sI(x:aC):γ (iO x).1<=γ x+1/\∀y∈(iO x).1,γ y<=4:=by
 unfold iO;split
 ·simp
 ·exact bgj x
theorem Dz(x:aC)(h:γ x<=4194304):γ (dP (iO x).1 [58])<=24000000:=by have b:=sI x;have a:=jg [58] 4 (iO x).1 b.2;simp at a;omega
theorem GI(s:aC):awe FU s=θ (Bx s):=by
 unfold awe Bx;by_cases a:39<γ s
 ·rw[aB bA,aB a]
 ·rw[aA bA,aA a,aV bA];have h:=QA s [58,58];cases g:(jF s [58,58]).2.2 with
  |false=>have d:=bgj s;rw[EW s bA,aS,aV ⟨aA0,cj s bA⟩];cases c:(Bz s).2<;>rfl
  |true=>
   rw[iV,aJ,eb _ bA,aS,eb _ bA,aS,aA (show¬(μ=ν)by decide)];have j:=sI (jF s [58,58]).1;have i:=sI (jF s [58,58]).2.1;have f:=Dz (jF s [58,58]).1 bA;have e:=Dz (jF s [58,58]).2.1 bA;cases d:(iO (jF s _).1).2
   ·simp
   ·cases c:(iO (jF s _).2.1).2
    ·simp
    ·rw[iV,aJ,aJ,eF,aS];by_cases b:7<(γ (iO (jF s [58,58]).1).1:Int)+(γ (iO (jF s [58,58]).2.1).1:Int)
     ·rw[aH b];rfl
     ·rw[aG b,aA aA1,aJ,aV ⟨aA0,aA0⟩,aV aA3,aV ⟨aA0,aA0⟩,aV aA3]
def SE(a b:aC):aC×η:=if(!(iO a).2|| !(iO b).2||decide (7<(γ (iO a).1)+(γ (iO b).1:Int)))=μ then([],ν)else(dP (iO a).1 [58]++[58,58]++dP (iO b).1 [58],μ)
theorem index_ge(p:aC):∀l:aC,-1<=fO l p
 |[]=>by unfold fO;split<;>omega
 |b::l=>by
  have:=index_ge p l;rw[fO];split
  ·omega
  ·split
   ·omega
   ·omega
theorem bcr(p:aC)(b:ζ)(l:aC):fO (b::l) p=if p.isPrefixOf (b::l)=μ then 0 else if fO l p= -1 then-1 else fO l p+1:=by
 rw[fO];split
 ·rfl
 ·by_cases h:fO l p= -1
  ·rw[aB h,aB aA8]
  ·rw[aA h,aA aA8]
theorem pfx2(s:aC)(k:Nat)(h:k<γ s):([58,58]).isPrefixOf (Υ s k::s.drop (k+1))=(decide (k+1<γ s)&&(Υ s k==58)&&(Υ s ((k+1:Nat))==58)):=by
 by_cases b:k+1<γ s
 ·rw[Pb s (k+1) b,aH b];simp only[List.isPrefixOf,AO,Bool.and_true];rw[Bool.beq_comm,Bool.beq_comm (a:=58)]
 ·rw[Pu bA,aG b];simp[List.isPrefixOf]
theorem six_lp(s:aC)(w:γ s<=4194304)(n:Nat):∀k a,k+n=γ s->n<a->
  aot FU s a k=θ (if fO (s.drop k) [58,58]= -1 then .inl ()else .inr (SE (s.take (k+(fO (s.drop k) [58,58]).toNat)) (s.drop (k+(fO (s.drop k) [58,58]).toNat+2)))):=by
 induction n with
 |zero=>intro k a o p;obtain⟨a,rfl⟩:=cD a;obtain rfl:k=γ s:=aA0;rw[bgt,avy,eF,aA bA,WX];rfl
 |succ n m=>
  intro k a o p;obtain⟨a,rfl⟩:=cD a;have b:k<γ s:=aA0
  rw[bgt,avy,eF,Pb s k b,bcr,pfx2 s k b];have step:aot FU s a ((k:Int)+1)=θ (if(if fO (s.drop (k+1)) [58,58]= -1 then(-1:Int)else fO (s.drop (k+1)) [58,58]+1)= -1 then .inl ()else .inr (SE (s.take (k+(if fO (s.drop (k+1)) [58,58]= -1 then(-1:Int)else fO (s.drop (k+1)) [58,58]+1).toNat)) (s.drop (k+(if fO (s.drop (k+1)) [58,58]= -1 then(-1:Int)else fO (s.drop (k+1)) [58,58]+1).toNat+2)))):=by
   rw[qG,m (k+1) a bA bA];have x:=index_ge [58,58] (s.drop (k+1));by_cases c:fO (s.drop (k+1)) [58,58]= -1
   ·rw[aB c,aB c];rfl
   ·rw[aA c,aA c,aA bA];have e:k+1+(fO (s.drop (k+1)) [58,58]).toNat=k+(fO (s.drop (k+1)) [58,58]+1).toNat:=by omega
    rw[e]
  by_cases l:k+1<γ s
  ·rw[aB bA,eF,aH l,AO];by_cases f:Υ s (k:Int)=58
   ·rw[aB f,eF,aV bA,aS,qG];have i:(Υ s (k:Int)==58)=μ:=by simpa using f
    rw[i,AO];by_cases d:Υ s ((k+1:Nat):Int)=58
    ·have h:(Υ s ((k+1:Nat):Int)==58)=μ:=by simpa using d
     have q:((k:Nat):Int).toNat=k:=aA0;have g:((k:Int)+2).toNat=k+2:=aA0;rw[aH d,iV,aJ,h,aB rfl,aV bA,q,qW _ aB5,aS,eF,aV bA,g,qW _ aB6,aS];simp only[Int.toNat_zero,Rt,aA (show¬((0:Int)= -1)by decide)];unfold SE;have v:=Dz (s.take k) aB5;have u:=Dz (s.drop (k+2)) aB6;have t:=(sI (s.take k)).1;have r:=(sI (s.drop (k+2))).1;rw[iW]at t;rw[fY]at r;cases z:(iO (s.take k)).2
     ·simp
     ·cases y:(iO (s.drop (k+2))).2
      ·simp
      ·simp only[iV,aJ,jE];rw[eF,aS];by_cases j:7<(γ (iO (s.take k)).1:Int)+(γ (iO (s.drop (k+2))).1:Int)
       ·rw[aH j,aO,aB rfl]
       ·rw[aG j,aJ,aA aA1,aV aA3,aV aA3]
    ·have h:(Υ s ((k+1:Nat):Int)==58)=ν:=by simpa using d
     rw[aG d,vJ,aO,h,aA (show¬(ν=μ)by decide),eF,<-qG,step]
   ·have i:(Υ s (k:Int)==58)=ν:=by simpa using f
    rw[aA f,aS,aO,i,XW,aA (show¬(ν=μ)by decide),eF,step]
  ·rw[aA bA,aG l,XW];have:fO (s.drop (k+1)) [58,58]= -1:=by rw[Pu bA];rfl
   rw[aB this];rfl
theorem Oc(s p:aC):jF s p=if fO s p= -1 then(s,[],ν)else(s.take (fO s p).toNat,s.drop ((fO s p).toNat+γ p),μ):=by
 unfold jF;have:=index_ge p s;by_cases h:fO s p= -1
 ·rw[aB h,aA bA]
 ·rw[aA h,aB bA]
def U2(s:aC):aC×η:=if(jF s [58,58]).2.2=ν then(dP (iO s).1 [58],(iO s).2&&decide ((γ (iO s).1:Int)=8))else SE (jF s [58,58]).1 (jF s [58,58]).2.1
theorem six_eq(s:aC)(b:γ s<=4194304):bie FU s=θ (U2 s):=by
 have:=six_lp s b (γ s) 0 FU bA aA5;rw[WZ,Ps]at this;have a:aot FU s FU 0=_:=this;unfold bie U2;rw[a,Oc];by_cases h:fO s [58,58]= -1
 ·rw[aB h,aB h,qW s b];cases c:(iO s).2<;>rfl
 ·rw[aA h,aA h];rfl
open Go.Lib renaming index → fO, itoa → iS
theorem PU(c:ζ)(h:fZ c=μ):(c-48).toNat=c.toNat-48/\c.toNat<=57/\48<=c.toNat:=by
 have b:=(oQ c).1 h;have a:48<=c:=by rw[wI];show 48<=c.toNat;omega
 exact⟨by rw[UInt8.toNat_sub_of_le _ _ a];rfl,aA0,aA0⟩
theorem av(s:aC)(x:Int)(o:γ (el (cG 46 s) x)<=15)(l:aC):∀(p:aC) a,el (cG 46 s) x=p++l->aR l<a->p.all fZ=μ->
  aiw FU s x a (mF p) (γ p)=θ (if l.all fZ=μ then .inl (mF (el (cG 46 s) x))else .inr ν):=by
 induction l with
 |nil=>intro p a h f b;obtain⟨a,rfl⟩:=cD a;rw[gV]at h;rw[ayw,alo,aA aB8,h];rfl
 |cons c l i=>
  intro p a h f b;obtain⟨a,rfl⟩:=cD a;have j:=bM aR h;simp at j f;have d:(0:Int)<=(aR p:Int)/\(aR p:Int)<(γ (el (cG 46 s) x):Int):=aA0;have m:Υ (el (cG 46 s) x) (aR p:Int)=c:=aE8;have n:=uM 14 p bA b;rw[ayw,alo,aB d.2,aV d,m,Bh,Pt];cases g:fZ c with
  |false=>rfl
  |true=>
   have k:=PU c g;rw[k.1,aV (cJ _ bA bA),aV d,aV (cJ _ bA bA),aV (cJ _ bA bA)];have e:10*(mF p)+(c.toNat-48:Nat)=(mF (p++[c]):Int):=by rw[azs];omega
   rw[e,KZ p c];exact i _ a aA7 bA (by rw[eC,b];simpa using g)
theorem qv(s:aC)(j:aR s<=15)(n:Nat):∀k a,k+n=γ (cG 46 s)->n<a->
  aix FU s a k=θ (if((cG 46 s).drop k).all jO=μ then .inl ()else .inr ν):=by
 have p:=vk 46 s;induction n with
 |zero=>intro k a l m;obtain⟨a,rfl⟩:=cD a;obtain rfl:k=γ (cG 46 s):=aA0;rw[ayx,alp,aA bA,WX];rfl
 |succ n i=>
  intro k a l m;obtain⟨a,rfl⟩:=cD a;have b:k<γ (cG 46 s):=aA0;have c:0<=(k:Int)/\(k:Int)<(γ (cG 46 s):Int):=aA0;have g:γ (el (cG 46 s) (k:Int))<=15:=jZ (p.2 _ (Yv _ k b)) j;have o:(cG 46 s).drop k=el (cG 46 s) (k:Int)::(cG 46 s).drop (k+1):=by rw[Nz _ _ b,zbC b]
  have q:=av s (k:Int) g (el (cG 46 s) (k:Int)) [] FU aA2 aA5 Τ;have h:aiw FU s (k:Int) FU (0:Int) (0:Int)=_:=q;rw[ayx,alp,aB bA,aV c,aV c,h,aS,o,Pt];cases hx:(el (cG 46 s) _).all fZ with
  |false=>rw[Ti _ hx];rfl
  |true=>
   rw[aB rfl,qL];by_cases f:el (cG 46 s) k=[]
   ·rw[aB f,mS _ (.inl (.inl f))];rfl
   ·rw[aA f];by_cases e:255<(mF (el (cG 46 s) k):Int)
    ·rw[aB e,mS _ (.inl (.inr e))];rfl
    ·rw[aA e,aV (cJ _ bA bA)];by_cases d:el (cG 46 s) k=iS (mF (el (cG 46 s) k):Int)
     ·rw[aH d,aV (cJ _ bA bA),TR _ hx f e d];exact i (k+1) a bA bA
     ·rw[aG d,mS _ (.inr d)];rfl
theorem Zp(s:aC):aup FU s=θ (Ve s):=by
 unfold aup;by_cases h:15<(aR s:Int)
 ·rw[aB h,JG s h]
 ·have c:=vk 46 s;have:=qv s bA (γ (cG 46 s)) 0 FU bA aA5;rw[WZ]at this;have a:aix FU s FU 0=_:=this;rw[aA h,aV bA,a];cases b:(cG 46 s).all jO with
  |false=>rw[aw s b];rfl
  |true=>rw[TT s h b];rfl
def lS(c:ζ):η:=vj c||fZ c||c==45
def Hj(x:aC):η:=decide (1<=aR x)&&decide (aR x<=63)&& !(Υ x 0==45)&& !(Υ x (aR x-1)==45)&&x.all lS
def lR(x:aC):η:=x.any (λc=> !fZ c)
def VY(x:aC):η:=decide ((aR x:Int)<1)||decide (63<(aR x:Int))||(Υ x 0==45)||(Υ x (aR x-1)==45)
theorem OP(x:aC):Hj x=(!VY x&&x.all lS):=by
 unfold Hj VY;have b:decide (1<=aR x)= !decide ((aR x:Int)<1):=by rw[fX];simp;omega
 have a:decide (aR x<=63)= !decide (63<(aR x:Int)):=by rw[fX];simp;omega
 rw[b,a];simp
theorem QG(x:aC)(hx:aR x<=4194304):(if γ x<(1:Int)then θ μ else if 63<(aR x:Int)then θ μ else gd (0<=(0:Int)/\0<(aR x:Int))<|if(Υ x 0)=45 then θ μ else gd (bK (aR x-1))<|gd (0<=(aR x-(1:Int))/\(aR x-1)<(aR x:Int))<|some (decide ((Υ x (aR x-1))=45)))=θ (VY x):=by
 unfold VY;by_cases c:(aR x:Int)<1
 ·rw[aB c,aH c];rfl
 ·rw[aA c,aG c];by_cases b:63<(aR x:Int)
  ·rw[aB b,aH b];rfl
  ·rw[aA b,aG b,aV bA];by_cases a:Υ x 0=45
   ·rw[aB a,show(Υ x 0==45)=μ by simpa using a];rfl
   ·rw[aA a,show(Υ x 0==45)=ν by simpa using a,aV (cJ _ bA bA),aV bA];rfl
theorem wy(c:ζ):((ama FU c).bind λb=>bif (!b)then((XP FU c).bind λa=>bif (!a)then θ (!decide (c=45))else θ ν)else θ ν)=θ (!lS c):=by
 rw[Vq,Bh];unfold lS;by_cases h:c=45
 ·subst h;rfl
 ·rw[show(c==45)=ν by simpa using h,aG h];cases vj c<;>cases fZ c<;>rfl
theorem TX(x:aC)(hx:aR x<=4194304)(r:η)(l:aC):∀p a w,x=p++l->aR l<a->
  (l.all lS=μ->xb FU x r a (γ p) w=θ (0,w||lR l,r))/\(l.all lS=ν->∃b,xb FU x r a (γ p) w=θ (1,b,ν)):=by
 induction l with
 |nil=>intro p a w h g;obtain⟨a,rfl⟩:=cD a;rw[gV]at h;rw[anm,agw,aA aB8];simp[lR]
 |cons c l j=>
  intro p a w h g;obtain⟨a,rfl⟩:=cD a;have k:=bM aR h;simp at k g;have i:0<=(aR p:Int)/\(aR p:Int)<(aR x:Int):=aA0;have m:Υ x (aR p:Int)=c:=aE8;have ok:bK ((aR p:Int)+1):=cJ _ bA bA;have d:=j (p++[c]) a (w|| !fZ c) aA7 bA;rw[<-KZ p c]at d;rw[anm,agw,aB i.2,aV i,m,wy,aS,Pt];cases n:lS c with
  |false=>exact⟨λh=>by simp at h,λ_=>⟨w,by rw[vJ,aO]⟩⟩
  |true=>
   have e:(bif w then gd (bK ((aR p:Int)+1)) (xb FU x r a ((aR p:Int)+1) μ)else(XP FU c).bind λ(f:η)=>gd (bK (aR p+1)) (xb FU x r a (aR p+1) (!f)))=xb FU x r a (aR p+1) (w|| !fZ c):=by
    cases w with
    |true=>rw[aO,aV ok,Bool.true_or]
    |false=>rw[aJ,Bh,aS,aV ok,jE]
   rw[e];refine⟨λh=> ?_,λh=>d.2 h⟩;rw[d.1 h];simp[lR,AF]
theorem Lp(x:aC)(hx:aR x<=4194304)(w r:η):(Hj x=μ->wu FU x w r=θ (0,w||lR x,r))/\(Hj x=ν->∃b,wu FU x w r=θ (1,b,ν)):=by
 have a:=TX x hx r x [] FU w aA2 aA5;unfold wu;rw[QG x hx,aS,OP];cases c:VY x with
 |true=>exact⟨λh=>by simp at h,λ_=>⟨w,by rw[aO]⟩⟩
 |false=>exact a
theorem index1(c:ζ)(f:aC):(fO f [c]= -1/\cG c f=[f])\/(0<=fO f [c]/\fO f [c]<aR f/\cG c f=f.take (fO f [c]).toNat::cG c (f.drop ((fO f [c]).toNat+1))):=by
 induction f with
 |nil=>exact .inl ⟨Τ,Τ⟩
 |cons b l e=>
  rw[bcr];by_cases h:b=c
  ·subst h;right;rw[aB aA2,awi];refine⟨kt _,by simp only[dT];omega,aA2⟩
  ·rw[aA (by simpa using λx=>h x.symm),zv c b l h];rcases e with⟨d,a⟩|⟨d,a,g⟩
   ·left;rw[aB d,a];exact⟨Τ,Τ⟩
   ·right;rw[aA bA,g];have i:(fO l [c]+1).toNat=(fO l [c]).toNat+1:=aA0;refine⟨aA0,by simp;omega,?_⟩;rw[i];simp[ky]
theorem seq_lp(n:Nat):∀f d (w r),aR f<=n->n<d->n<=4194304->
  ∃w' f' k,((abr FU [46] 0 d w r f).bind λg=>dQ (λc=>(wu FU c.2.2 c.1 c.2.1).bind λa=>if a.1=0 then θ (a.2.1,a.2.2,c.2.2,0)else θ (a.2.1,a.2.2,c.2.2,a.1)) (λq=>θ q) g)=θ (w',(if(cG 46 f).all Hj=μ then r else ν),f',k)/\
   (k=if(cG 46 f).all Hj=μ then 0 else 1)/\((cG 46 f).all Hj=μ->w'=(w||(cG 46 f).any lR)):=by
 induction n with
 |zero=>intro f d w r t s m;obtain⟨d,rfl⟩:=cD d;obtain rfl:f=[]:=Gh bA;have e:fO [] [46]= -1:=Τ;rw[adu,abp,aV aA2,e,aB aA1,aS,qL];obtain⟨b,l⟩:=(Lp [] aA2 w r).2 Τ;simp only;rw[l];exact⟨b,[],1,Τ,Τ,λh=>absurd h aA1⟩
 |succ n p=>
  intro f d w r t s m;obtain⟨d,rfl⟩:=cD d;rw[adu,abp,aV bA];rcases index1 46 f with⟨v,o⟩|⟨v,o,u⟩
  ·rw[aB bA,aS,qL,o,Pt];simp only;have i:=Lp f bA w r;cases j:Hj f with
   |true=>rw[i.1 j];exact⟨_,_,0,Τ,Τ,λ_=>by simp⟩
   |false=>obtain⟨b,l⟩:=i.2 j;rw[l];exact⟨b,_,1,Τ,Τ,λh=>by cases h⟩
  ·have B:fO f [46]+0=fO f [46]:=by omega
   have A:(fO f [46]+((γ ([46]:aC):Nat):Int)).toNat=(fO f [46]).toNat+1:=aA3;rw[aA bA,B,aV (cJ _ bA bA),aV bA,u,Pt];have i:=Lp (f.take (fO f [46]).toNat) aB5 w r;cases j:Hj (f.take (fO f [46]).toNat)with
   |true=>rw[i.1 j,aS,aV (cJ _ aA3 aA3),aV aA3,A];obtain⟨w',f',k,z,y,x⟩:=p (f.drop ((fO f _).toNat+1)) d (w||lR (f.take (fO f [46]).toNat)) r aB6 bA bA;exact⟨w',f',k,z,y,λh=>by rw[x h,GY,AF]⟩
   |false=>obtain⟨b,l⟩:=i.2 j;rw[l,aS];exact⟨b,_,1,Τ,Τ,λh=>by cases h⟩
def jH(s:aC):η:=decide (1<=aR s)&&decide (aR s<=255)&&(cG 46 s).all Hj&&(cG 46 s).any lR
theorem LJ(s:aC)(e:aR s<=4194304):apd FU s=θ (jH s):=by
 unfold apd jH;by_cases d:(aR s:Int)<1
 ·rw[aB d,show decide (1<=aR s)=ν by(rw[bT];omega)];rfl
 ·rw[aA d,show decide (1<=aR s)=μ by(rw[bL];omega),aS];by_cases c:255<(aR s:Int)
  ·rw[aH c,show decide (aR s<=255)=ν by(rw[bT];omega)];rfl
  ·rw[aG c,show decide (aR s<=255)=μ by(rw[bL];omega)];obtain⟨w',f',k,g,b,f⟩:=seq_lp (γ s) s FU ν ν (dC _) aA5 e;unfold arn arm;rw[aS,aS];unfold ade;rw[aA aA2,aS,qL,g,aS];cases a:(cG 46 s).all Hj with
   |true=>rw[b,a,aB rfl,f a];simp
   |false=>rw[a]at b;rw[b];simp
open Go.Lib renaming cut → jF, index → fO, itoa → iS
open UInt8 renaming ofNat → Fc
theorem pj(c:ζ):((avp FU c).bind λb=>bif (!b)then((WD FU c).bind λa=>bif (!a)then θ (!decide (c=45))else θ ν)else θ ν)=θ (!lS c):=by
 rw[Sy,zD];unfold lS;by_cases h:c=45
 ·subst h;rfl
 ·rw[show(c==45)=ν by simpa using h,aG h];cases vj c<;>cases fZ c<;>rfl
theorem bx(x:aC)(hx:aR x<=4194304)(l:aC):∀p a w,x=p++l->aR l<a->
  agu FU x a w (γ p)=θ (if l.all lS=μ then .inl (w||lR l)else .inr (ν,ν)):=by
 induction l with
 |nil=>intro p a w h f;obtain⟨a,rfl⟩:=cD a;rw[gV]at h;rw[bdm,arv,aA aB8];simp[lR]
 |cons c l i=>
  intro p a w h f;obtain⟨a,rfl⟩:=cD a;have j:=bM aR h;simp at j f;have g:0<=(aR p:Int)/\(aR p:Int)<(aR x:Int):=aA0;have k:Υ x (aR p:Int)=c:=aE8;have ok:bK ((aR p:Int)+1):=cJ _ bA bA;have d:=i (p++[c]) a (w|| !fZ c) aA7 bA;rw[<-KZ p c]at d;rw[bdm,arv,aB g.2];simp only[aV g,k];rw[pj,aS,Pt];cases m:lS c with
  |false=>rw[vJ,aO,XW,aA (show¬(ν=μ)by decide)]
  |true=>
   have e:(bif w then gd (bK ((aR p:Int)+1)) (agu FU x a μ ((aR p:Int)+1))else(WD FU c).bind λ(b:η)=>gd (bK (aR p+1)) (agu FU x a (!b) (aR p+1)))=agu FU x a (w|| !fZ c) (aR p+1):=by
    cases w with
    |true=>rw[aO,aV ok,Bool.true_or]
    |false=>rw[aJ,zD,aS,aV ok,jE]
   rw[e,d];simp[lR,AF]
theorem bz(x:aC)(hx:aR x<=4194304):bce FU x=θ (if Hj x=μ then(μ,lR x)else(ν,ν)):=by
 have b:=bx x hx x [] FU ν aA2 aA5;have a:agu FU x FU ν 0=_:=b;unfold bce;rw[QG x hx,aS,OP];cases c:VY x with
 |true=>rw[aO];simp
 |false=>
  rw[a];cases x.all lS with
  |true=>simp
  |false=>simp
def lJ(x:aC):η:=decide (1<=aR x)&&decide (aR x<=3)&& !(decide (1<aR x)&&(Υ x 0==48))&&x.all fZ&&decide (mF x<=255)
theorem num_lp(x:aC)(hx:aR x<=15)(l:aC):∀p a,x=p++l->aR l<a->p.all fZ=μ->
  ajj FU x a (mF p) (γ p)=θ (if l.all fZ=μ then .inl (mF x)else .inr ν):=by
 induction l with
 |nil=>intro p a h f b;obtain⟨a,rfl⟩:=cD a;rw[gV]at h;rw[bbs,apz,aA aB8,h];rfl
 |cons c l i=>
  intro p a h f b;obtain⟨a,rfl⟩:=cD a;have j:=bM aR h;simp at j f;have d:(0:Int)<=(aR p:Int)/\(aR p:Int)<(aR x:Int):=aA0;have m:Υ x (aR p:Int)=c:=aE8;have n:=uM 14 p bA b;rw[bbs,apz,aB d.2,aV d,m,zD,Pt];cases g:fZ c with
  |false=>rfl
  |true=>
   have k:=PU c g;rw[k.1,aV (cJ _ bA bA),aV d,aV (cJ _ bA bA),aV (cJ _ bA bA)];have e:10*(mF p)+(c.toNat-48:Nat)=(mF (p++[c]):Int):=by rw[azs];omega
   rw[e,KZ p c];exact i _ a aA7 bA (by rw[eC,b];simpa using g)
theorem num_eq(x:aC):bae FU x=θ (lJ x):=by
 unfold bae lJ;by_cases i:(aR x:Int)<1
 ·rw[aB i,show decide (1<=aR x)=ν by(rw[bT];omega)];rfl
 ·rw[aA i,show decide (1<=aR x)=μ by(rw[bL];omega)];by_cases h:3<(aR x:Int)
  ·rw[aB h,show decide (aR x<=3)=ν by(rw[bT];omega)];rfl
  ·rw[aA h,show decide (aR x<=3)=μ by(rw[bL];omega)];have f:=num_lp x bA x [] FU aA2 aA5 Τ;have a:ajj FU x FU 0 (0:Int)=_:=f;have b:((ajj FU x FU (0:Int) (0:Int)).bind λ(e:(Int⊕η))=>dQ (λ(d:Int)=>θ (decide (d<=(255:Int)))) (λq=>θ q) e)=θ (x.all fZ&&decide (mF x<=255)):=by
    rw[a,aS];cases j:x.all fZ with
    |false=>rfl
    |true=>simp;omega
   by_cases g:1<(aR x:Int)
   ·rw[aB g,aV bA,show decide (1<aR x)=μ by(rw[bL];omega)];by_cases c:Υ x 0=48
    ·rw[aH c,show(Υ x 0==48)=μ by simpa using c];rfl
    ·rw[aG c,show(Υ x 0==48)=ν by simpa using c,b];rfl
   ·rw[aA g,show decide (1<aR x)=ν by(rw[bT];omega),b];rfl
def dg(n:Fin 10):ζ:=Fc (48+n.val)
theorem Ut:∀c:ζ,fZ c=μ->∃n:Fin 10,c=dg n:=hY _ aA4
theorem oct1:∀a:Fin 10,jO [dg a]=lJ [dg a]:=aA4
theorem oct2:∀a b:Fin 10,jO [dg a,dg b]=lJ [dg a,dg b]:=aA4
theorem oct3:∀a b c:Fin 10,jO [dg a,dg b,dg c]=lJ [dg a,dg b,dg c]:=aA4
theorem sw:∀n:Fin 256,γ (iS n.val)<=3:=aA4
theorem Io(x:aC):jO x=lJ x:=by
 cases f:x.all fZ with
 |false=>rw[Ti x f,lJ,f];simp
 |true=>
  have e:=aT.1 f
  match x,f,e with
  |[],_,_=>rfl
  |[a],_,e=>obtain⟨n,rfl⟩:=Ut a (e a aA2);exact oct1 n
  |[a,b],_,e=>obtain⟨n,rfl⟩:=Ut a (e a aA2);obtain⟨m,rfl⟩:=Ut b (e b aA2);exact oct2 n m
  |[a,b,c],_,e=>obtain⟨n,rfl⟩:=Ut a (e a aA2);obtain⟨m,rfl⟩:=Ut b (e b aA2);obtain⟨k,rfl⟩:=Ut c (e c aA2);exact oct3 n m k
  |a::b::c::d::l,f,_=>
   by_cases g:mF (a::b::c::d::l)<=255
   ·refine mS _ (.inr λh=> ?_);have:=sw ⟨mF (a::b::c::d::l),aA0⟩;rw[<-h]at this;simp only[dT]at this;omega
   ·exact mS _ (.inl (.inr bA))
theorem tm(X:δ aC)(o:aR X<=4194305)(hx:∀x∈X,aR x<=4194304)(q:δ aC):∀p c (b word),X=p++q->aR q<c->
  aqu FU X c b word (γ p)=θ (if q.all Hj=μ then .inl (b&&q.all lJ,word||q.any lR)else .inr ([],ν)):=by
 induction q with
 |nil=>intro p c b word h i;obtain⟨c,rfl⟩:=cD c;rw[gV]at h;rw[bfb,aug,aA aB8];simp
 |cons a q j=>
  intro p c b word h i;obtain⟨c,rfl⟩:=cD c;have k:=bM aR h;simp at k i;have g:0<=(aR p:Int)/\(aR p:Int)<(aR X:Int):=aA0;have l:el X (aR p:Int)=a:=aB3;have m:aR a<=4194304:=hx a aA7;have ok:bK ((aR p:Int)+1):=cJ _ bA bA;have d:=λf w=>j (p++[a]) c f w aA7 bA;rw[show(γ (p++[a]):Int)=(aR p:Int)+1 by simp]at d;rw[bfb,aug,aB g.2,aV g,aV g,l,bz a m,aS,Pt];cases n:Hj a with
  |false=>rw[aA (show¬(ν=μ)by decide)];simp
  |true=>
   rw[aB rfl];have e:(bif word then θ μ else θ (lR a))=θ (word||lR a):=by cases word<;>rfl
   rw[e,aS];cases b with
   |true=>rw[aV g,aV g,num_eq,aS,aV ok,d];simp[AF]
   |false=>rw[aV ok,d];simp[AF]
def Ek(s:aC):η:=decide (2<=aR s)&&(Υ s 0==91)&&(Υ s (aR s-1)==93)
def kC(s:aC):aC×η:=
 if Ek s=μ then(if(Bx (sub s 1 (aR s-1))).2=μ then([91]++(Bx (sub s 1 (aR s-1))).1++[93],μ)else([],ν))
 else if Ve s=μ then(s,μ)else if jH s=μ then(cZ s,μ)else([],ν)
theorem iq(s:aC)(c:aR s<=4194304):(if 2<=(aR s:Int)then(gd (0<=(0:Int)/\0<(aR s:Int))<|if(Υ s 0)=91 then(gd (bK (aR s-1))<|gd (0<=(aR s-(1:Int))/\(aR s-1)<(aR s:Int))<|some (decide ((Υ s (aR s-1))=93)))else θ ν)else θ ν)=θ (Ek s):=by
 unfold Ek;by_cases b:2<=(aR s:Int)
 ·rw[aB b,show decide (2<=aR s)=μ by(rw[bL];omega),aV bA];by_cases a:Υ s 0=91
  ·rw[aB a,show(Υ s 0==91)=μ by simpa using a,aV (cJ _ bA bA),aV bA];rfl
  ·rw[aA a,show(Υ s 0==91)=ν by simpa using a];rfl
 ·rw[aA b,show decide (2<=aR s)=ν by(rw[bT];omega)];rfl
variable{s:aC}
theorem QD(h:Ek s=μ):2<=aR s:=by unfold Ek at h;simp at h;exact h.1.1
theorem Ed(s:aC):γ (Bx s).1<=60000000:=by
 unfold Bx;by_cases a:39<aR s
 ·rw[aB a];simp
 ·rw[aA a];have f:=QA s [58,58];have e:=Dz (jF s [58,58]).1 bA;have d:=Dz (jF s [58,58]).2.1 bA;split
  ·have c:=bgj s;have b:=jg [58] 4 (Bz s).1 c.2;simp at b⊢;omega
  ·split
   ·simp
   ·simp;omega
theorem uT(s:aC)(a:aR s<=4194304):XO FU s=θ (kC s):=by
 unfold XO kC;rw[iq s a,aS];cases b:Ek s with
 |true=>
  have g:=QD b;have e:=Ed (sub s 1 ((aR s:Int)-1));rw[aO,aV (cJ _ bA bA),aV bA,GI,aS,aB rfl];cases f:(Bx (sub s 1 ((aR s:Int)-1))).2 with
  |false=>rfl
  |true=>rw[iV,aJ,aV aA3,aV aA3,aB rfl]
 |false=>
  rw[Zp];cases c:Ve s with
  |true=>rfl
  |false=>
   rw[LJ s a];cases d:jH s with
   |true=>rw[azu s a];rfl
   |false=>rfl
theorem T0(l:δ aC)(m:Nat)(h:∀x∈l,aR x<=m):(l.map aR).sum<=m*aR l:=by
 induction l with
 |nil=>simp
 |cons a l b=>have d:=h a iK;have c:=b λx hx=>h x (gN _ hx);rw[qO,eY,dT,Nat.mul_succ];omega
theorem UT(g:aC)(h:sV g=μ):aR g<=4:=by unfold sV at h;simp at h;exact h.1.2
theorem Ar(x:aC)(h:(Bz x).2=μ):aR x+1<=5*γ (Bz x).1:=by
 cases a:(cG 58 x).all sV with
 |false=>rw[xJ x a]at h;cases h
 |true=>rw[sH x a,Gj];have d:=T0 _ 4 λy b=>UT y (aT.1 a y b);have c:=Kd 58 x;omega
theorem No(x:aC)(h:(iO x).2=μ):aR x<=5*γ (iO x).1:=by
 by_cases hx:x=[]
 ·subst hx;simp
 ·rw[bgk x hx]at h⊢;have:=Ar x h;omega
theorem Ug:∀s:aC,fO s [58,58]≠-1->fO s [58,58]+2<=aR s
 |[],h=>absurd Τ h
 |b::l,h=>by
  rw[bcr]at h⊢;by_cases a:[58,58].isPrefixOf (b::l)=μ
  ·rw[aB a];cases l with
   |nil=>simp at a
   |cons c l=>simp;omega
  ·rw[aA a]at h⊢;by_cases d:fO l [58,58]= -1
   ·rw[aB d]at h;exact absurd Τ h
   ·have:=Ug l d;rw[dT];omega
theorem U1(s:aC):(U2 s).2=(Bx s).2/\((Bx s).2=μ->(U2 s).1=(Bx s).1):=by
 unfold U2 Bx;by_cases b:39<aR s
 ·rw[aB b];refine⟨?_,λh=>by cases h⟩;have c:s≠[]:=by intro e;subst e;simp at b
  split
  ·rw[bgk s c];cases k:(Bz s).2 with
   |false=>rfl
   |true=>have:=Ar s k;rw[AO,bT];omega
  ·rename_i a;unfold SE;have f:fO s [58,58]≠-1:=by intro e;rw[Oc,aB e]at a;exact a Τ
   have g:=Ug s f;have n:γ (jF s [58,58]).1+2+γ (jF s [58,58]).2.1=aR s:=by rw[Oc,aA f];simp;omega
   cases j:(iO (jF s _).1).2 with
   |false=>rfl
   |true=>
    cases i:(iO (jF s _).2.1).2 with
    |false=>rfl
    |true=>have m:=No _ j;have l:=No _ i;rw[aH bA];rfl
 ·rw[aA b];split
  ·by_cases d:s=[]
   ·subst d;exact⟨Τ,λh=>by cases h⟩
   ·rw[bgk s d];exact⟨Τ,λ_=>rfl⟩
  ·unfold SE;split<;>exact⟨Τ,λ_=>rfl⟩
theorem yT(c:ζ)(p:ζ->η):∀s:aC,(∀x∈cG c s,x.all p=μ)->∀b∈s,p b=μ\/b=c
 |[],_,b,e=>by simp at e
 |d::l,h,b,e=>by
  by_cases g:d=c
  ·subst g;rw[awi]at h;rcases aQ.1 e with rfl|e
   ·exact .inr Τ
   ·exact yT d p l (λx hx=>h x (gN _ hx)) b e
  ·rw[zv c d l g]at h;cases hx:cG c l with
   |nil=>exact absurd hx (Cd c l)
   |cons y r=>
    rw[hx]at h;have f:=h _ iK;rw[eC,Bv]at f;rcases aQ.1 e with rfl|e
    ·left;simpa using f.1
    ·refine yT c p l (λx a=> ?_) b e;rw[hx]at a;rcases aQ.1 a with rfl|a
     ·exact f.2
     ·exact h x (gN _ a)
theorem uh:∀c:ζ,fZ c=μ->fQ c=c:=hY _ aA4
theorem Yy:∀c:ζ,fZ c=μ->lS c=μ/\c≠45:=hY _ aA4
theorem uD(x:aC)(h:lJ x=μ):1<=aR x/\γ x<=3/\x.all fZ=μ:=by unfold lJ at h;simp only[Bv,bL]at h;exact⟨h.1.1.1.1,h.1.1.1.2,h.1.2⟩
theorem at_mem(x:aC)(k:Nat)(h:k<aR x):Υ x k∈x:=by simp[Υ,h]
theorem qw(x:aC)(h:lJ x=μ):Hj x=μ:=by obtain⟨f,j,e⟩:=uD x h;have a:=aT.1 e;have i:=(Yy _ (a _ (at_mem x 0 bA))).2;have b:=(Yy _ (a _ (at_mem x (aR x-1) bA))).2;have g:(((aR x-1:Nat)):Int)=(aR x:Int)-1:=aA0;rw[g]at b;unfold Hj;rw[aH f,aH bA,show(Υ x 0==45)=ν by simpa using i,show(Υ x ((aR x:Int)-1)==45)=ν by simpa using b,aT.2 λc d=>(Yy c (a c d)).1];rfl
theorem Db(s:aC)(h:∀b∈s,fQ b=b):cZ s=s:=by
 conv=>rhs;rw[<-List.map_id s]
 exact xj λb a=>h b a
theorem uB(s:aC)(m:aR s<=4194304):atg FU s=θ (kC s):=by
 unfold atg kC;rw[iq s m,aS];cases w:Ek s with
 |true=>
  have r:=QD w;have u:=Ed (sub s 1 ((aR s:Int)-1));have l:γ (sub s 1 ((aR s:Int)-1))<=4194304:=aC3;obtain⟨A,z⟩:=U1 (sub s 1 ((aR s:Int)-1));rw[aO,aV (cJ _ bA bA),aV bA,six_eq _ l,aS,aB rfl,A];cases v:(Bx (sub s 1 ((aR s:Int)-1))).2 with
  |false=>rfl
  |true=>rw[iV,aJ,z v,aV aA3,aV aA3,aB rfl]
 |false=>
  have g:=vk 46 s;have n:=tm (cG 46 s) bA (λx hx=>jZ (g.2 x hx) m) (cG 46 s) [] FU (decide ((γ (cG 46 s):Int)=4)) ν aA2 aA5;have j:aqu FU (cG 46 s) FU (decide ((γ (cG 46 s):Int)=4)) ν (0:Int)=_:=n;rw[pieces_eq s 46 m,aS,j,aS,XM s bA];have o:=Kd 46 s;cases a:(cG 46 s).all Hj with
  |false=>
   have d:Ve s=ν:=by
    cases d:Ve s with
    |false=>rfl
    |true=>exfalso;unfold Ve at d;simp only[Bv]at d;have:(cG 46 s).all Hj=μ:=aT.2 λx hx=>qw x (by rw[<-Io];exact aT.1 d.1.2 x hx);rw[a]at this;cases this
   have t:jH s=ν:=by unfold jH;rw[a];simp
   rw[d,t];rfl
  |true=>
   rw[aB rfl,qL];simp only;cases d:Ve s with
   |true=>
    have e:=d;unfold Ve at e;simp only[Bv,bL]at e;have c:(cG 46 s).all lJ=μ:=aT.2 λx hx=>by rw[<-Io];exact aT.1 e.1.2 x hx
    have k:cZ s=s:=Db s λb q=>by
     rcases yT 46 fZ s (λx hx=>(uD x (aT.1 c x hx)).2.2) b q with h|h
     ·exact uh b h
     ·subst h;rfl
    rw[c,aH bA,aA bA,k];cases(cG 46 s).any lR<;>rfl
   |false=>
    have f:(decide ((γ (cG 46 s):Int)=4)&&(cG 46 s).all lJ)=ν:=by
     cases p:(decide ((γ (cG 46 s):Int)=4)&&(cG 46 s).all lJ)with
     |false=>rfl
     |true=>
      exfalso;simp only[Bv,bL]at p;have u:=T0 (cG 46 s) 3 λx hx=>(uD x (aT.1 p.2 x hx)).2.1;have i:(cG 46 s).all jO=μ:=aT.2 λx hx=>by rw[Io];exact aT.1 p.2 x hx
      have:Ve s=μ:=by unfold Ve;rw[i,aH (show γ s<=15 by omega),aH (show(cG 46 s).length=4 by omega)];rfl
      rw[d]at this;cases this
    have y:1<=aR s:=by
     cases s with
     |nil=>simp[cG,Hj]at a
     |cons _ _=>simp
    rw[f];unfold jH;rw[a,aH y];by_cases r:255<(aR s:Int)
    ·rw[aB r,aG (show¬γ s<=255 by omega)];rfl
    ·rw[aA r,aH (show γ s<=255 by omega)];cases(cG 46 s).any lR<;>rfl
theorem UN(s:aC):γ (kC s).1<=60000002+aR s:=by
 have:=Ed (sub s 1 (aR s-1));unfold kC;split
 ·split
  ·simp;omega
  ·simp
 ·split
  ·show γ s<=_;omega
  ·split
   ·simp[cZ]
   ·simp
open Go.Lib renaming indexAny → Bu
theorem step_eq(s:aC)(f:γ s<=4194304)(k:Nat):bfc FU s k=θ (if γ s<=k then(0,(γ s:Int),6)else if jD (Υ s k)=μ then(0,k,5)else if Υ s k=92 then(if γ s<=k+1 then(0,γ s,6)else if XJ (Υ s ((k+1:Nat)))=μ then(2,0,0)else(0,k,5))else(1,0,0)):=by
 unfold bfc;by_cases h:γ s<=k
 ·rw[aB bA,aB h]
 ·rw[aA bA,aA h,eF,bhj,aS];cases g:jD _ with
  |true=>rw[aO,aB rfl]
  |false=>
   rw[aJ,aA (show¬(ν=μ)by decide),eF];by_cases c:Υ s (k:Int)=92
   ·rw[aB c,aB c,eF];by_cases e:γ s<=k+1
    ·rw[aB bA,aB e]
    ·rw[aA bA,aA e,eF,aV bA,qG];have d:XJ (Υ s _)=(decide (32<=Υ s (k+1:Nat))&&decide (Υ s (k+1:Nat)<=126)):=Τ;by_cases b:Υ s (k+1:Nat)<32
     ·rw[aB b,d,aG (UInt8.not_le.2 b)];rfl
     ·rw[aA b,eF,aV bA,d,aH (UInt8.not_lt.1 b)];by_cases a:126<Υ s (k+1:Nat)
      ·rw[aH a,aG (UInt8.not_le.2 a)];rfl
      ·rw[aG a,aH (UInt8.not_lt.1 a)];rfl
   ·rw[aA c,aA c]
theorem ctl34:jD 34=ν:=aA1
theorem ctl92:jD 92=ν:=aA1
theorem W3(s:aC)(m:γ s<=4194304)(n:Nat):∀k b (a:aC),γ s-k<=n->n<b->k<=γ s->γ a<=k->
  aqe FU s b a k=θ (fR (s.drop k) k a):=by
 have f6:¬((6:ζ)=0):=aA1;have f5:¬((5:ζ)=0):=aA1;have c:¬(ν=μ):=aA1;induction n with
 |zero=>intro k b a o r q t;obtain⟨b,rfl⟩:=cD b;obtain rfl:k=γ s:=aA0;have st:=step_eq s m (γ s);rw[aB (dC _)]at st;rw[adv,ma,st,aS];simp only;rw[aA f6,WX];rfl
 |succ n l=>
  intro k b a o r q t;obtain⟨b,rfl⟩:=cD b;have st:=step_eq s m k;by_cases p:k<γ s
  ·rw[aA (show¬γ s<=k by omega)]at st;rw[Pb s k p,mK];by_cases f:Υ s (k:Int)=34
   ·rw[f,ctl34,aA c,aA (show¬((34:ζ)=92)by decide)]at st;rw[adv,ma,st,aS];simp only;rw[aB trivial,aB trivial,aV bA,aS,aH f,aO,eF,aB f];rfl
   ·rw[aA f];by_cases i:Υ s (k:Int)=92
    ·rw[i,ctl92,aA c,aB rfl]at st;rw[aB i];by_cases g:γ s<=k+1
     ·have e:s.drop (k+1)=[]:=(bep s (k+1)).2 g;have v:γ s=k+1:=by omega
      rw[aB g]at st;rw[adv,ma,st,aS];simp only;rw[aA f6,aB e,v]
     ·rw[aA g]at st;rw[aA (λh=>g ((bep s (k+1)).1 h)),FZ];cases d:XJ (Υ s ((k+1:Nat):Int))with
      |false=>rw[d,aA c]at st;rw[adv,ma,st,aS];simp only;rw[aA f5,aA c]
      |true=>have j:(k:Int)+2-1=((k+1:Nat):Int):=aA0;have u:(k:Int)+2=((k+2:Nat):Int):=aA0;rw[d,aB rfl]at st;rw[adv,ma,st,aS];simp only;rw[aB trivial,aA (show¬((2:Int)=1)by decide),aS,aJ,eF,eF,j,aV bA,eF,eF,u,l (k+2) b _ bA bA bA aA3,AG,aB trivial]
    ·rw[aA i];cases d:jD (Υ s (k:Int))with
     |true=>rw[d,aB rfl]at st;rw[adv,ma,st,aS];simp only;rw[aA f5,aB trivial]
     |false=>have j:(k:Int)+1-1=(k:Int):=aA0;rw[d,aA c,aA i]at st;rw[adv,ma,st,aS];simp only;rw[aB trivial,aB trivial,aV bA,aS,aG f,aJ,aA c,eF,eF,j,aV bA,eF,eF,qG,l (k+1) b _ bA bA bA aA3]
  ·obtain rfl:k=γ s:=by omega
   rw[aB (dC _)]at st;rw[adv,ma,st,aS];simp only;rw[WX];rfl
theorem oF(s:aC)(e:γ s<=4194304)(i:Int):aow FU s i=θ (sW s i):=by
 unfold aow big sW;by_cases d:i<0
 ·rw[aB d,aB (show i<0\/γ s<i from .inl d)];rfl
 ·rw[aA d];by_cases c:γ s<i
  ·rw[aH c,aB (show i<0\/γ s<i from .inr c)];rfl
  ·rw[aG c,aA (show¬(i<0\/γ s<i)by omega)];by_cases b:i=(γ s:Int)
   ·rw[aB b,aB (show i=(γ s:Int)\/Υ s i≠34 from .inl b)];rfl
   ·rw[aA b,eF];by_cases a:Υ s i=34
    ·rw[aH a,aA (by simp[b,a]),eF];obtain⟨k,rfl⟩:∃k:Nat,i=k:=⟨i.toNat,aA0⟩;exact W3 s e (γ s) (k+1) FU [] bA aA5 bA aA2
    ·rw[aG a,aB (.inr a)];rfl
theorem yR(n:Nat):∀l k a,γ l<=n->γ (fR l k a).1<=γ a+γ l/\((fR l k a).2.2=0->k+1<=(fR l k a).2.1/\(fR l k a).2.1<=((k+γ l:Nat))):=by
 induction n with
 |zero=>intro l k a f;obtain rfl:l=[]:=Gh bA;exact⟨by simp[fR],λh=>absurd h (show¬(6=0)by decide)⟩
 |succ n d=>
  intro l k a f;cases l with
  |nil=>exact⟨by simp[fR],λh=>absurd h (show¬(6=0)by decide)⟩
  |cons c l=>
   simp at f;rw[mK];by_cases i:c=34
   ·rw[aB i];exact⟨aA2,λ_=>⟨aA2,by simp;omega⟩⟩
   ·rw[aA i];by_cases g:c=92
    ·rw[aB g];by_cases b:l=[]
     ·rw[aB b];exact⟨aA2,λh=>absurd h (show¬(6=0)by decide)⟩
     ·rw[aA b];have e:=cA.2 b;cases j:XJ _ with
      |true=>rw[aB rfl];have:=d (l.drop 1) (k+2) (a++[Υ l 0]) aB6;rw[cR,fE,fY]at this;exact⟨by simp only[dT];omega,λh=>⟨by have:=(this.2 h).1;omega,by have:=(this.2 h).2;simp only[dT];omega⟩⟩
      |false=>rw[aA aA1];exact⟨aA2,λh=>absurd h (show¬(5=0)by decide)⟩
    ·rw[aA g];cases j:jD c with
     |true=>rw[aB rfl];exact⟨aA2,λh=>absurd h (show¬(5=0)by decide)⟩
     |false=>rw[aA aA1];have:=d l (k+1) (a++[c]) bA;rw[cR,fE]at this;exact⟨by simp;omega,λh=>⟨by have:=(this.2 h).1;omega,by have:=(this.2 h).2;simp;omega⟩⟩
theorem Ju(s:aC)(k:Nat)(a:Υ s k=34)(b:k<γ s):γ (sW s k).1<=γ s/\((sW s k).2.2=0->k+2<=(sW s k).2.1/\(sW s k).2.1<=γ s):=by unfold sW;rw[aA bA,aA (by rintro(h|h);omega;exact h a)];have e:((k:Int).toNat+1)=k+1:=aA0;rw[e];have:=yR _ (s.drop (k+1)) (k+1) [] (dC _);rw[fY,tU]at this;exact⟨aA0,λh=>⟨by have:=(this.2 h).1;omega,by have:=(this.2 h).2;omega⟩⟩
theorem zr(s:aC)(a:γ s<=4194304)(i:Int):mb FU (s,i)=θ (s,((cB cF s i):Int)):=by unfold mb;rw[Uz s a];rfl
theorem nI(s:aC)(i:Int):adj FU (s,i)=θ (decide (γ s<=i)):=rfl
def cX(s:aC)(k:Nat)(b:ζ):η:=decide (k<γ s)&&(Υ s k==b)
theorem HG(s:aC)(k:Nat)(b:ζ):Ho FU (s,k) b=θ (cX s k b):=by
 unfold Ho cX;rw[nI];by_cases h:k<γ s
 ·rw[aG (show¬(γ s:Int)<=k by omega),aV (by simp only;omega),aH h];rfl
 ·rw[aH (show(γ s:Int)<=k by omega),aG h];rfl
theorem IB(s:aC)(a:γ s<=4194304)(i:Int):ajq FU s i=θ ((cB eN s i):Int):=by unfold ajq;rw[Ki s bA];rfl
theorem Qc(p:ζ->η)(s:aC)(k:Nat)(h:k<=γ s):k<=cB p s k:=by unfold cB;rw[apv k _ h];omega
theorem tW(s:aC)(a:γ s<=4194304)(k:Nat)(b:k<=γ s):aft FU (s,k)=θ (sub s k (cB eN s (k:Int)),(s,((cB eN s (k:Int):Nat):Int))):=by have d:=Qc eN s k b;have c:=pO eN s k;unfold aft;simp only;rw[IB s a,aS,aV bA]
theorem azl(s:aC)(a b:Nat)(h:b<=γ s)(d:a<=b):sub s a b=[]↔b=a:=by
 have:=Qb s a b;constructor
 ·intro c;rw[c]at this;simp at this;omega
 ·intro c;apply Gh;rw[this];omega
theorem Wu(c:ζ)(l:aC):(if 0<=dN (·==c) l then dN (·==c) l else γ l)=(dV (λb=> !(b==c)) l):=by
 rcases bhv (·==c) l with⟨d,a⟩|⟨d,a,e⟩
 ·rw[aA bA,a]
 ·rw[aB d,e]
theorem VQ(c:ζ):(λb=>[c].contains b)=(·==c):=by simp;rfl
theorem RL(s:aC)(i:γ s<=4194304)(k:Nat)(j:k<=γ s)(c:ζ)(g:c.toNat<128):Zt FU s k [c]=θ ((k+dV (λb=> !(b==c)) (s.drop k):Nat):Int):=by
 have e:((k:Nat):Int).toNat=k:=aA0;have l:γ (s.drop k)=γ s-k:=fY;have a:=Wu c (s.drop k);have f:Bu (s.drop k) [c]=dN (·==c) (s.drop k):=by rw[beo,VQ]
 have d:=bhv (·==c) (s.drop k);unfold Zt;rw[aV bA,e,aV ⟨aA0,aA2,aE4⟩,f];by_cases h:(0:Int)<=dN (·==c) (s.drop k)
 ·rw[aB h]at a⊢;rw[aV (cJ _ bA bA),a];rfl
 ·rw[aA h]at a⊢;congr 1;omega
def kF(s:aC)(k:Nat):aC×Int×ζ:=
 if cX s k 34=μ then sW s k
 else if cX s k 91=μ then
  (if(kC (sub s k (min ((k+dV (λb=> !(b==93)) (s.drop k):Nat)+1) (γ s)))).2=μ then
   ((kC (sub s k (min ((k+dV (λb=> !(b==93)) (s.drop k):Nat)+1) (γ s)))).1,((k+dV (λb=> !(b==93)) (s.drop k):Nat))+1,0)else([],k,5))
 else if cB eN s k=k then([],k,5)else(sub s k (cB eN s (k:Int)),(cB eN s (k:Int)),0)
theorem Eu{b:ζ}(h:cX s k b=μ):k<γ s/\Υ s k=b:=by unfold cX at h;simp at h;exact h
theorem MV(s:aC)(e:γ s<=4194304)(k:Nat)(c:k<=γ s):γ (kF s k).1<=90000000/\((kF s k).2.2=0->k+1<=(kF s k).2.1/\(kF s k).2.1<=γ s+1):=by
 unfold kF;have g:=Qc eN s k c;have f:=pO eN s k;have a:=HI (λb=> !(b==93)) (s.drop k);rw[fY]at a;split
 ·rename_i h;have:=Ju s k (Eu h).2 (Eu h).1;exact⟨aA0,λh=>⟨by have:=(this.2 h).1;omega,by have:=(this.2 h).2;omega⟩⟩
 ·split
  ·split
   ·have d:=UN (sub s k (min ((k+dV (λb=> !(b==93)) (s.drop k):Nat)+1:Int) (γ s)));rw[Qb]at d;exact⟨by simp only;omega,λ_=>⟨by simp only;omega,by simp only;omega⟩⟩
   ·exact⟨aA2,λh=>absurd h (show¬(5=0)by decide)⟩
  ·split
   ·exact⟨aA2,λh=>absurd h (show¬(5=0)by decide)⟩
   ·rename_i h;exact⟨by simp only[Qb];omega,λ_=>⟨by simp only;omega,by simp only;omega⟩⟩
theorem Xc(s:aC)(k:Nat)(b:ζ):(if k<(γ s:Int)then(gd (0<=(k:Int)/\k<(γ s:Int))<|some (decide ((Υ s k)=b)))else θ ν)=θ (cX s k b):=by
 unfold cX;by_cases h:k<γ s
 ·rw[aB bA,aV bA,aH h];rfl
 ·rw[aA bA,aG h];rfl
theorem ZN(s:aC)(e:γ s<=4194304)(k:Nat)(c:k<=γ s):atw FU s FU k=θ ((k+dV (λb=> !(b==93)) (s.drop k):Nat):Int):=by
 refine yY _ s _ ?_ ?_ ?_ (γ s-k) k FU bA aA5
 ·intro d;rw[awr,amf,aA bA];rfl
 ·intro d k c h;have a:Υ s k=93:=by simpa using h
  rw[awr,amf,aB bA,aV bA,aS,aH a,iV,aJ]
 ·intro d k c h;have a:¬Υ s k=93:=by simpa using h
  rw[awr,amf,aB bA,aV bA,aS,aG a,vJ,aO,eF]
theorem ZO(s:aC)(d:γ s<=4194304)(k:Nat)(e:k<=γ s):bcd FU s k=θ (kF s k):=by
 have j:=Qc eN s k e;have i:=pO eN s (k:Int);have a:=HI (λb=> !(b==93)) (s.drop k);rw[fY]at a;unfold bcd kF;rw[Xc,aS,Xc];cases g:cX s k 34 with
 |true=>rw[oF s d];rfl
 |false=>
  rw[aJ,aS,aA (show¬(ν=μ)by decide)];cases f:cX s k 91 with
  |true=>
   rw[aO,ZN s d k e,aS,eF,aV bA,uB _ aC3,aS,aB rfl];cases h:(kC _).2 with
   |false=>rfl
   |true=>rw[iV,aJ,eF,aS,GX,aB rfl]
  |false=>
   rw[aJ,aS,qL,beh s bA,aS,aA (show¬(ν=μ)by decide)];by_cases c:cB eN s (k:Int)=k
   ·rw[aB bA,aB c]
   ·rw[aA bA,aA c,aV bA]
theorem Da(l:aC):cZ l=[]↔l=[]:=by unfold cZ;simp
theorem tZ(p:ζ->η)(s:aC)(y:Nat):cB p s (y+1)=cB p s ((y+1:Nat)):=rfl
def zPrm:aC×aC×η:=([],[],ν)
def yJ(s:aC)(b:Nat):PQ×Int×ζ×(aC×Int):=
 if cB eN s b=b then(zPrm,b,5,(s,b))
 else if cX s (cB cF s (cB eN s (b:Int))) 61=ν then((cZ (sub s b (cB eN s (b:Int))),[],ν),0,0,(s,(cB cF s ((cB eN s (b:Int):Nat):Int))))
 else if(kF s (cB cF s ((cB cF s ((cB eN s (b:Int):Nat):Int)+1:Nat)))).2.2=0 then((cZ (sub s b (cB eN s (b:Int))),(kF s (cB cF s ((cB cF s ((cB eN s (b:Int):Nat):Int)+1:Nat)))).1,μ),0,0,(s,(kF s (cB cF s ((cB cF s ((cB eN s (b:Int):Nat):Int)+1:Nat)))).2.1))
 else(zPrm,(kF s (cB cF s ((cB cF s ((cB eN s (b:Int):Nat):Int)+1:Nat)))).2.1,(kF s (cB cF s ((cB cF s ((cB eN s (b:Int):Nat):Int)+1:Nat)))).2.2,(s,(cB cF s ((cB cF s ((cB eN s (b:Int):Nat):Int)+1:Nat):Int))))
theorem UA(s:aC)(e:γ s<=4194304)(b:Nat)(o:b<=γ s):akj FU (s,b)=θ (yJ s b):=by
 unfold akj yJ;have d:=Qc eN s b o;have c:=pO eN s (b:Int);rw[tW s e b o,aS];simp only;generalize w:cB eN s (b:Int)=t at d c⊢;have l:=pO cF s (t:Int);have m:=Qc cF s t c;rw[azu _ aC3,aS];by_cases j:t=b
 ·have:cZ (sub s (b:Int) (t:Int))=[]:=(Da _).2 ((azl s b t c d).2 j);rw[aB this,aB j,j];rfl
 ·have:¬cZ (sub s (b:Int) (t:Int))=[]:=λh=>j ((azl s b t c d).1 ((Da _).1 h));rw[aA this,aA j,zr s e,aS];generalize v:cB cF s (t:Int)=y at m l⊢;rw[HG,aS];cases q:cX s y 61 with
  |false=>rw[vJ,aO,aB rfl]
  |true=>
   rw[iV,aJ,aA (show¬(μ=ν)by decide),eF,zr s e,aS,tZ];have a:=pO cF s (y+1:Nat);generalize u:cB cF s (y+1:Nat)=z at a⊢;have g:=Qc eN s z a;have f:=pO eN s z;have n:=HI (λb=> !(b==93)) (s.drop z);rw[fY]at n;rw[HG,aS];unfold kF;cases r:cX s z 34 with
   |true=>
    rw[aO,aB rfl,wP s e,aS];by_cases k:(sW s z).2.2=0
    ·rw[aB k,aB k]
    ·rw[aA k,aA k];rfl
   |false=>
    rw[aJ,aA (show¬(ν=μ)by decide),HG,aS];cases p:cX s z 91 with
    |true=>
     rw[aO,aB rfl,RL s e z a 93 aA1,aS];simp only;rw[eF,aV bA,uT _ aC3,aS];cases x:(kC (sub s (z:Int) (min ((z+dV (λb=> !(b==93)) (s.drop z):Nat)+1:Int) (γ s:Int)))).2 with
     |false=>rw[vJ];rfl
     |true=>rw[iV,aJ,eF,aB rfl,aB rfl]
    |false=>
     rw[aJ,aA (show¬(ν=μ)by decide),tW s e z a,aS];simp only;by_cases i:cB eN s (z:Int)=z
     ·rw[aB ((azl s z _ f g).2 i),aB i,i];rfl
     ·rw[aA (λh=>i ((azl s z _ f g).1 h)),aA i,aB rfl]
def ia(x:aC):(δ aC⊕ζ)->(δ aC⊕ζ)
 |.inl l=>.inl (x::l)
 |.inr e=>.inr e
def eZ:Nat->aC->aC->δ aC⊕ζ
 |0,a,[]=>.inl [oS a]
 |_+1,_,[]=>.inr 6
 |0,a,c::l=>if c=34 then eZ 1 (a++[c]) l else if c=60 then eZ 3 (a++[c]) l else if c=62 then .inr 5 else if c=44 then ia (oS a) (eZ 0 [] l)else eZ 0 (a++[c]) l
 |1,a,c::l=>if c=34 then eZ 0 (a++[c]) l else if c=92 then eZ 2 (a++[c]) l else if jD c=μ then .inr 5 else eZ 1 (a++[c]) l
 |2,a,c::l=>if XJ c=μ then eZ 1 (a++[c]) l else .inr 5
 |_+3,a,c::l=>if c=62 then eZ 0 (a++[c]) l else eZ 3 (a++[c]) l
theorem s0n(a:aC):eZ 0 a []=.inl [oS a]:=by rw[eZ]
theorem s0c(a:aC)(c:ζ)(l:aC):eZ 0 a (c::l)=if c=34 then eZ 1 (a++[c]) l else if c=60 then eZ 3 (a++[c]) l else if c=62 then .inr 5 else if c=44 then ia (oS a) (eZ 0 [] l)else eZ 0 (a++[c]) l:=by rw[eZ]
theorem s1c(a:aC)(c:ζ)(l:aC):eZ 1 a (c::l)=if c=34 then eZ 0 (a++[c]) l else if c=92 then eZ 2 (a++[c]) l else if jD c=μ then .inr 5 else eZ 1 (a++[c]) l:=by rw[eZ]
theorem s2c(a:aC)(c:ζ)(l:aC):eZ 2 a (c::l)=if XJ c=μ then eZ 1 (a++[c]) l else .inr 5:=by rw[eZ]
theorem s3c(m:Nat)(a:aC)(c:ζ)(l:aC):eZ (m+3) a (c::l)=if c=62 then eZ 0 (a++[c]) l else eZ 3 (a++[c]) l:=by rw[eZ]
theorem s3c'(a:aC)(c:ζ)(l:aC):eZ 3 a (c::l)=if c=62 then eZ 0 (a++[c]) l else eZ 3 (a++[c]) l:=s3c 0 a c l
def Lv(v:aC):δ aC×ζ:=match eZ 0 [] v with|.inr e=>([],e)|.inl l=>if l.any (λx=>decide (x=[]))=μ then([],5)else(l,0)
theorem VR{r:δ aC⊕ζ}{l:δ aC}(h:ia s r=.inl l):∃m,r=.inl m/\l=s::m:=by
 cases r with
 |inl m=>exact⟨m,Τ,(Sum.inl.inj h).symm⟩
 |inr e=>cases h
theorem IK:∀(l:aC) (m:Nat) (b:aC) (e:ζ),eZ m b l=.inr e->e≠0:=by
 intro l;induction l with
 |nil=>
  intro m b e h;cases m with
  |zero=>cases h
  |succ m=>rw[<-kg h];decide
 |cons c l a=>
  intro m b e h
  match m with
  |0=>
   rw[eZ]at h;split at h
   ·exact a _ _ _ h
   ·split at h
    ·exact a _ _ _ h
    ·split at h
     ·rw[<-kg h];decide
     ·split at h
      ·cases d:eZ 0 [] l with
       |inl q=>rw[d]at h;cases h
       |inr e'=>rw[d]at h;rw[<-kg h];exact a _ _ _ d
      ·exact a _ _ _ h
  |1=>
   rw[eZ]at h;split at h
   ·exact a _ _ _ h
   ·split at h
    ·exact a _ _ _ h
    ·split at h
     ·rw[<-kg h];decide
     ·exact a _ _ _ h
  |2=>
   rw[eZ]at h;split at h
   ·exact a _ _ _ h
   ·rw[<-kg h];decide
  |m+3=>
   rw[eZ]at h;split at h
   ·exact a _ _ _ h
   ·exact a _ _ _ h
theorem ZW(x:aC):Lib.trimRightS x [32,9]=CU cF x:=by unfold Lib.trimRightS CU;rw[Va]
theorem Sq(p:ζ->η):∀(l:aC) n,dV p (l.take n)=min (dV p l) n
 |[],n=>by rw[List.take_nil];simp[dV]
 |c::l,0=>by rw[tN];simp[dV]
 |c::l,n+1=>by
  rw[eT,dV,dV];split
  ·rw[Sq p l n];omega
  ·omega
theorem Td(s:aC)(f:aR s<=4194304)(b e:Nat)(g:b<=e)(j:e<=aR s):∃k,ayp FU s b e=θ (k,oS (sub s b e)):=by
 have i:cB cF s b=b+dV cF (s.drop b):=by unfold cB;rw[apv b (γ s) aA0]
 have h:sub s b e=(s.drop b).take (e-b):=by unfold sub;rw[tT,tT]
 have c:min ((cB cF s (b:Int)):Int) e=((b+dV cF (sub s b e):Nat):Int):=by rw[h,Sq];omega
 have a:sub s ((b+dV cF (sub s b e):Nat):Int) e=(sub s b e).dropWhile cF:=by rw[<-bfm];unfold sub;rw[Po,AG];congr 1;omega
 have d:=sub_le s ((b+dV cF (sub s b e):Nat):Int) e;unfold ayp;rw[Uz s f,aS,c,aV aA0,aV aA0,a,ZW];exact⟨_,Τ⟩
theorem mM(s:aC)(b i m:Nat)(a:b<=i):sub s b ((i+m:Nat))=sub s b i++(s.drop i).take m:=by unfold sub;rw[tT,tT,tT,show i+m-b=(i-b)+m by omega,List.take_add,AG,show b+(i-b)=i by omega]
theorem Y7(n:Nat):∀l k (a b),aR l<=n->
  ((fR l k a).2.2=0->eZ 1 b l=eZ 0 (b++l.take ((fR l k a).2.1.toNat-k)) (l.drop ((fR l k a).2.1.toNat-k)))/\(¬(fR l k a).2.2=0->eZ 1 b l=.inr (fR l k a).2.2):=by
 induction n with
 |zero=>intro l k a b h;obtain rfl:l=[]:=Gh aA0;exact⟨λh=>absurd h (show¬6=0 by decide),λ_=>rfl⟩
 |succ n p=>
  intro l k a b h;cases l with
  |nil=>exact⟨λh=>absurd h (show¬6=0 by decide),λ_=>rfl⟩
  |cons c l=>
   rw[dT]at h;rw[mK,s1c];by_cases g:c=34
   ·rw[aB g,aB g];refine⟨λ_=> ?_,λh=>absurd Τ h⟩;dsimp only;rw[show bR _-k=1 by omega];rfl
   ·rw[aA g,aA g];by_cases f:c=92
    ·rw[aB f,aB f];cases l with
     |nil=>exact⟨λh=>absurd h (show¬6=0 by decide),λ_=>rfl⟩
     |cons d r=>
      have s:Υ (d::r) 0=d:=Τ;rw[aA aA2,s,s2c];cases t:XJ d with
      |false=>exact⟨λh=>absurd h (show¬5=0 by decide),λ_=>rfl⟩
      |true=>rw[aB rfl,List.drop_one,List.tail_cons];rw[dT]at h;obtain⟨o,m⟩:=p r _ _ _ aA0;have i:=(yR (γ r) r (k+2) (a++[d]) (dC _)).2;refine⟨λj=> ?_,m⟩;have q:=i j;rw[o j];have e:(fR r (k+2) (a++[d])).2.1.toNat-k=((fR r (k+2) (a++[d])).2.1.toNat-(k+2))+2:=aA0;rw[e];simp
    ·rw[aA f,aA f];cases u:jD c with
     |true=>exact⟨λh=>absurd h (show¬5=0 by decide),λ_=>rfl⟩
     |false=>obtain⟨o,m⟩:=p l _ _ _ aA0;have i:=(yR (γ l) l (k+1) (a++[c]) (dC _)).2;rw[aA aA1];refine⟨λj=> ?_,m⟩;have q:=i j;have e:(fR l (k+1) (a++[c])).2.1.toNat-k=((fR l (k+1) (a++[c])).2.1.toNat-(k+1))+1:=aA0;rw[o j,e];simp
theorem ang1:∀(l a:aC),(dN (·==62) l<0->eZ 3 a l=.inr 6)/\(¬dN (·==62) l<0->eZ 3 a l=eZ 0 (a++l.take ((dN (·==62) l).toNat+1)) (l.drop ((dN (·==62) l).toNat+1)))
 |[],a=>⟨λ_=>rfl,λh=>absurd (show(-1)<0 by decide) h⟩
 |c::l,a=>by
  obtain⟨f,d⟩:=ang1 l _;have g:=sG (·==62) l;rw[s3c'];by_cases h:c=62
  ·have e:dN (·==62) (c::l)=0:=by rw[h];rfl
   rw[e,aB h];exact⟨λh=>absurd h aA1,λ_=>rfl⟩
  ·have i:=dX.2 h;rw[aA h,dN,i,aA aA1];by_cases b:dN (·==62) l= -1
   ·rw[aB b];refine⟨λ_=>f aA0,λh=>absurd (show(-1)<0 by decide) h⟩
   ·rw[aA b];refine⟨λh=>absurd h aA0,λ_=> ?_⟩;rw[d aA0,show bR (dN _ l+1)+1=((dN (·==(62:ζ)) l).toNat+1)+1 by omega];simp
theorem T4(s:aC)(Z:aR s<=4194303)(n:Nat):∀i f c b,aR s-i<=n->n<f->b<=i->i<=aR s->aR c<=i->
  ∃j,apb FU s 44 f c b i=θ j/\
   (match eZ 0 (sub s b i) (s.drop i)with
   |.inl l=>∃(d:δ (Int×aC)) (b':Nat),j=.inl (d,b')/\b'<=aR s/\γ d<=aR s/\d.map (·.2)++[oS (sub s b' (γ s))]=c.map (·.2)++l
   |.inr e=>∃q a,j=.inr (q,a,e)):=by
 induction n with
 |zero=>intro i f c b T V C w I;obtain⟨f,rfl⟩:=cD f;obtain rfl:i=aR s:=aA0;rw[aww,amu,aA aA0,Pu (dC _),s0n];exact⟨_,Τ,c,b,Τ,aA0,I,Τ⟩
 |succ n B=>
  intro i f c b T V C w I;obtain⟨f,rfl⟩:=cD f;by_cases v:i<aR s
  ·have H:=Pb s i v;have u:sub s (b:Int) ((i+1:Nat):Int)=sub s (b:Int) (i:Int)++[Υ s (i:Int)]:=by rw[mM s b i 1 C,H];rfl
   rw[aww,amu,aB aA0,aV aA0,H,s0c];by_cases m:Υ s (i:Int)=34
   ·rw[aB m,aB m,wP s aA0,aS];have R:sW s (i:Int)=fR (s.drop (i+1)) (i+1) []:=by unfold sW;rw[aA aA0,aA (by rintro(h|h);omega;exact h m),tT]
    have E:=Y7 (γ (s.drop (i+1))) (s.drop (i+1)) (i+1) [] (sub s (b:Int) (i:Int)++[Υ s (i:Int)]) (dC _);have y:=(yR (γ (s.drop (i+1))) (s.drop (i+1)) (i+1) [] (dC _)).2;have G:γ (s.drop (i+1))=aR s-(i+1):=fY;rw[R];generalize fR (s.drop (i+1)) (i+1) []=U at E y⊢;by_cases z:U.2.2=0
    ·obtain⟨Y,X⟩:=y z;obtain⟨o,F⟩:∃o:Nat,U.2.1=(o:Int):=⟨U.2.1.toNat,aA0⟩;rw[F]at Y X;have K:=E.1 z;rw[F,tT,<-u,<-mM s b (i+1) (o-(i+1)) aA0,AG,show i+1+(o-(i+1))=o by omega]at K;rw[aB z,F,<-u,K];exact B o f c b aA0 aA0 aA0 aA0 aA0
    ·rw[aA z,E.2 z];exact⟨_,Τ,_,_,Τ⟩
   ·rw[aA m,aA m];by_cases g:Υ s (i:Int)=60
    ·have hx:eZ 3 (sub s (b:Int) (i:Int)) (s.drop i)=eZ 3 (sub s (b:Int) (i:Int)++[Υ s (i:Int)]) (s.drop (i+1)):=by rw[H,s3c',aA (by rw[g];decide)]
     obtain⟨M,L⟩:=ang1 (s.drop i) (sub s (b:Int) (i:Int));have G:γ (s.drop i)=aR s-i:=fY;have D:=bhv (·==(62:ζ)) (s.drop i);rw[aB g,aB g,aV aA0,tT,<-hx];generalize dN (·==(62:ζ)) (s.drop i)=x at M L D⊢;by_cases p:x<0
     ·rw[aB p,M p];exact⟨_,Τ,_,_,Τ⟩
     ·rw[aA p,L p,<-mM s b i (x.toNat+1) C,AG,aV (cJ _ aA0 aA0),aV (cJ _ aA0 aA0),show(i:Int)+(x+1)=((i+(x.toNat+1):Nat):Int)by omega];exact B (i+(x.toNat+1)) f c b aA0 aA0 aA0 aA0 aA0
    ·rw[aA g,aA g];by_cases r:Υ s (i:Int)=62
     ·rw[aB r,aB r];exact⟨_,Τ,_,_,Τ⟩
     ·rw[aA r,aA r];by_cases t:Υ s (i:Int)=44
      ·obtain⟨k,S⟩:=Td s aA0 b i C w;rw[aB t,aB t,S,aS,aV aC5,aV (cJ _ aA0 aA0)];obtain⟨j,W,A⟩:=B (i+1) f (c++[(k,oS (sub s (b:Int) (i:Int)))]) (i+1) aA0 aA0 (dC _) v aC0;refine⟨j,W,?_⟩;rw[jk]at A;cases J:eZ 0 [] (s.drop (i+1))with
       |inr e=>rw[J]at A;exact A
       |inl l=>rw[J]at A;obtain⟨d,b',Q,P,O,N⟩:=A;refine⟨d,b',Q,P,O,?_⟩;rw[N,Ru,nW];rfl
      ·rw[aA t,aA t,aV (cJ _ aA0 aA0),<-u];exact B (i+1) f c b aA0 aA0 aA0 v aA0
  ·obtain rfl:i=aR s:=by omega
   rw[aww,amu,aA aA0,Pu (dC _)];exact⟨_,Τ,c,b,Τ,aA0,I,Τ⟩
theorem RW(s:aC)(m:aR s<=4194303):∃q a,bcj FU s 44=θ (q,a,(match eZ 0 [] s with|.inl _=>0|.inr e=>e))/\(∀l,eZ 0 [] s=.inl l->q.map (·.2)=l/\γ q<=aR s+1):=by
 obtain⟨j,o,b⟩:=T4 s m (γ s) 0 FU [] 0 aA0 aA5 (dC _) (eJ _) (dC _);have c:apb FU s 44 FU [] 0 0=θ j:=o;rw[jk,WZ]at b;unfold bcj;rw[xO,aS];have e:(bif cF 44 then θ μ else if(44:ζ)=(34:ζ)then θ μ else if(44:ζ)=(60:ζ)then θ μ else θ (decide ((44:ζ)=(62:ζ))))=θ ν:=aA1;rw[e,aS,c,aS];cases d:eZ 0 [] s with
 |inr e=>rw[d]at b;obtain⟨q,a,rfl⟩:=b;exact⟨q,a,Τ,λl h=>by cases h⟩
 |inl l=>rw[d]at b;obtain⟨f,b',rfl,i,p,g⟩:=b;obtain⟨k,n⟩:=Td s aA0 b' (γ s) i (dC _);rw[qL];dsimp only;rw[n,aS,aV aC5];refine⟨_,_,Τ,λl' h=> ?_⟩;have:=Sum.inl.inj h;subst this;rw[Ru,mi,g];exact⟨Τ,by rw[cR,fE];omega⟩
theorem dk(c:((δ (Int×aC))×Int×ζ))(k:aR c.1<=4194304)(q:δ (Int×aC)):∀(p:δ (Int×aC)) (b:Nat),c.1=p++q->aR q<b->
  apc FU c b (p.map (·.2)) (aR p:Int)=θ (if(q.map (·.2)).any (λx=>decide (x=[]))=μ then .inr ([],5)else .inl (c.1.map (·.2))):=by
 induction q with
 |nil=>intro p b h f;obtain⟨b,rfl⟩:=cD b;rw[gV]at h;rw[bdt,ase,aA aB8,h];rfl
 |cons a q g=>
  intro p b h f;obtain⟨b,rfl⟩:=cD b;have i:=bM aR h;simp only[cR,dT]at i f;have e:(0:Int)<=(aR p:Int)/\(aR p:Int)<(aR c.1:Int):=aA0;have j:el c.1 (aR p:Int)=a:=aB3;rw[bdt,ase,aB e.2,aV e,aV e,j,qO,GY];by_cases d:a.2=[]
  ·rw[aB d,aH d,Bool.true_or,aB rfl]
  ·rw[aA d,aG d,jE,aV (by simp only[Gj,fE];omega),aV (cJ _ aA0 aA0)];have:=g (p++[a]) b aA7 aA0;rw[Ru,mi]at this;rw[show((aR p:Int)+1)=(γ (p++[a]):Int)by simp];exact this
theorem bj(v:aC)(g:aR v<=4194303):bcl FU v=θ (Lv v):=by
 obtain⟨q,a,j,i⟩:=RW v g;unfold bcl Lv;rw[j,aS];have d:=IK v 0 [];cases f:eZ 0 [] v with
 |inr e=>rw[aA (d e f)]
 |inl l=>
  obtain⟨h,k⟩:=i l f;dsimp only;have:=dk (q,a,0) aE2 q [] FU Τ aA5;have b:apc FU _ FU [] 0=_:=this;rw[aB rfl,b,aS,h];by_cases c:l.any (λx=>decide (x=[]))=μ
  ·rw[aB c,aB c,GX]
  ·rw[aA c,aA c,qL]
open List renaming length → aR, replicate → jM
abbrev HH:=aC×aC
abbrev MM:=aC×aC×Int×aC×δ HH×δ ζ
def dR(l:δ HH):Nat:=(l.map λz=>aR z.1+aR z.2).sum
variable{l:δ HH}{x:HH}
theorem th(b:x∈l):aR x.1+aR x.2<=dR l:=by
 induction l with
 |nil=>cases b
 |cons a l c=>
  unfold dR;rw[qO,eY];rcases aQ.1 b with rfl|b
  ·omega
  ·have:=c b;unfold dR at this;omega
def Sm(l:δ HH):Prop:=aR l<=4194304/\∀h∈l,aR h.1<=4194303/\γ h.2<=4194303
theorem sm_of(b:aR l<=4194304)(c:dR l<=4194303):Sm l:=⟨b,λh a=>by have:=th a;omega⟩
def pN(c:ζ)(s:aC)(h:HH):η:=decide (c=0)&&decide ((mC h.1).2=0)&&decide ((mC h.1).1=s)
def mE(name:aC):HH->η:=pN (mC name).2 (mC name).1
def Ax(name:aC):aC:=if(mC name).2=0 then(mC name).1 else name
theorem Lq(s:aC)(a:aR s<=4194303):ly FU s=θ ((mC s).2,(mC s).1):=by unfold ly;rw[Be s aA0,aS]
theorem Cy(h:HH)(c:ζ)(s:aC)(d:aR h.1<=4194303):agv FU h c s=θ (pN c s h):=by
 unfold agv pN;rw[Be h.1 aA0,aS];by_cases b:c=0
 ·rw[aB b,aH b,AO];by_cases a:(mC h.1).2=0
  ·rw[aB a,aH a,AO,aS]
  ·rw[aA a,aG a,XW,aS]
 ·rw[aA b,aG b,XW,XW,aS]
theorem tw(s:aC)(a:aR s<=4194303):arb FU s=θ (Ax s):=by
 unfold arb Ax;rw[Be s aA0,aS];by_cases h:(mC s).2=0
 ·rw[aB h,aB h]
 ·rw[aA h,aA h]
def uF(p:HH->η):δ HH->Int
 |[]=> -1
 |h::l=>if p h=μ then 0 else if uF p l= -1 then-1 else uF p l+1
theorem Nc(p:HH->η):∀l,-1<=uF p l
 |[]=>kt _
 |h::l=>by have:=Nc p l;unfold uF;split<;>(try split)<;>omega
theorem JS(p:HH->η):∀l,uF p l<aR l
 |[]=>by unfold uF;simp
 |h::l=>by have:=JS p l;rw[dT];unfold uF;split<;>(try split)<;>omega
theorem EF(p:HH->η):∀l,uF p l= -1->∀h∈l,p h=ν
 |[],_,h,b=>by cases b
 |a::l,c,h,b=>by
  have f:=Nc p l;unfold uF at c;by_cases d:p a=μ
  ·rw[aB d]at c;omega
  ·rw[aA d]at c;by_cases e:uF p l= -1
   ·rcases aQ.1 b with rfl|b
    ·simpa using d
    ·exact EF p l e h b
   ·rw[aA e]at c;omega
theorem EE(p:HH->η):∀l,uF p l≠-1->∃a x b,l=a++x::b/\(∀h∈a,p h=ν)/\p x=μ/\uF p l=(aR a:Int)
 |[],h=>absurd Τ h
 |c::l,h=>by
  by_cases e:p c=μ
  ·exact⟨[],c,l,Τ,λh d=>(GQ d).elim,e,(show(if p c=μ then(0:Int)else _)=_ from aB e)⟩
  ·by_cases f:uF p l= -1
   ·exfalso;apply h;unfold uF;rw[aA e,aB f]
   ·obtain⟨a,x,b,k,j,i,g⟩:=EE p l f;refine⟨c::a,x,b,by rw[k];rfl,λh d=> ?_,i,?_⟩
    ·rcases aQ.1 d with rfl|d
     ·simpa using e
     ·exact j h d
    ·unfold uF;rw[aA e,aA f,g,dT];omega
theorem db(c:ζ)(s:aC)(l:δ HH)(i:Sm l)(q:δ HH):∀(p:δ HH) (b:Nat),l=p++q->aR q<b->
  aaw FU l c s b (aR p:Int)=θ (if uF (pN c s) q= -1 then .inl ()else .inr ((aR p:Int)+uF (pN c s) q)):=by
 induction q with
 |nil=>intro p b h j;obtain⟨b,rfl⟩:=cD b;rw[gV]at h;rw[adb,abg,aA aB8];rfl
 |cons a q k=>
  intro p b h j;obtain⟨b,rfl⟩:=cD b;have e:=bM aR h;simp only[cR,dT]at e j;have iD:=i.1;have f:(0:Int)<=(aR p:Int)/\(aR p:Int)<(aR l:Int):=aA0;have m:el l (aR p:Int)=a:=aB3;have n:=(i.2 a aA7).1;rw[adb,abg,aB f.2,aV f,aV f,m,Cy a c s n,aS,uF];by_cases g:pN c s a=μ
  ·rw[g,aB rfl,aA aA1];simp
  ·rw[aA g,show pN c s a=ν by simpa using g,aV (cJ _ aA0 aA0)];have:=k (p++[a]) b aA7 aA0;rw[show((aR p:Int)+1)=(γ (p++[a]):Int)by simp];rw[aJ,this];have o:=Nc (pN c s) q;by_cases d:uF (pN c s) q= -1
   ·rw[aB d,aB d,aB rfl]
   ·rw[aA d,aA d,aA aA0,cR,fE];congr 2;omega
theorem EN(c:ζ)(s:aC)(l:δ HH)(b:Sm l):xd FU l c s=θ (uF (pN c s) l):=by
 unfold xd;have:=db c s l b l [] FU Τ (by have:=b.1;rw[eG];omega);have a:aaw FU l c s FU 0=_:=this;rw[a,aS];by_cases h:uF (pN c s) l= -1
 ·rw[aB h,qL,h]
 ·rw[aA h];simp
theorem Uw(m:MM)(c:aR m.2.2.2.2.1<=4194304)(b:aR m.2.2.2.2.2<=4194304):aqv FU m=θ m:=by have a:0<=(aR m.2.2.2.2.1:Int)/\(32:Int)*(aR m.2.2.2.2.1:Int)<=281474976710656:=aA0;refine dB (@aV MM (0<=(aR m.2.2.2.2.1:Int)/\(32:Int)*(aR m.2.2.2.2.1:Int)<=281474976710656) (dMk 32 (aR m.2.2.2.2.1:Int)) (gd ((0+aR m.2.2.2.2.2)*1<=140737488355328)<|some (m.1,m.2.1,m.2.2.1,m.2.2.2.1,XE (jM (bR (aR m.2.2.2.2.1:Int)) (([]:aC),([]:aC))) m.2.2.2.2.1,m.2.2.2.2.2)) a) ?_;rw[aV aA0,gv _ _ aA2]
theorem ug(c:ζ)(s:aC)(q:δ HH):∀l (i j d),Sm l->l.drop j=q->j<=aR l->i<=j->aR q<d->
  ∃(l':δ HH) (i':Nat),aau FU c s d l i j=θ (l',(i':Int))/\i'<=aR l'/\l'.take i'=l.take i++q.filter (λh=> !pN c s h):=by
 induction q with
 |nil=>
  intro l i j d e g A o x;obtain⟨d,rfl⟩:=cD d;have b:j=aR l:=by have:=bM aR g;simp at this;omega
  rw[acw,abe,aA aA0];exact⟨l,i,Τ,aA0,aA2⟩
 |cons a q w=>
  intro l i j d e g A o x;obtain⟨d,rfl⟩:=cD d;have b:j<aR l:=by have:=bM aR g;simp at this;omega
  have iD:=e.1;have p:(0:Int)<=(j:Int)/\(j:Int)<(aR l:Int):=aA0;have k:(0:Int)<=(i:Int)/\(i:Int)<(aR l:Int):=aA0;have f:l[j]=a:=by have:=zbC b;rw[g]at this;exact(List.cons.inj this).1.symm
  have la:l.drop (j+1)=q:=by have:=zbC b;rw[g]at this;exact(List.cons.inj this).2.symm
  have B:el l (j:Int)=a:=by rw[Nz l j b,f]
  have C:=(e.2 a (by rw[<-f];exact fB b)).1;rw[acw,abe,aB p.2,aV p,aV p,B,Cy a c s C,aS];rw[dT]at x;by_cases r:pN c s a=μ
  ·rw[r,iV,aJ,aV (cJ _ aA0 aA0)];obtain⟨l',i',v,u,t⟩:=w l i (j+1) d e la aA0 aA0 aA0;refine⟨l',i',v,u,?_⟩;rw[t,GU (by simp[r])]
  ·have m:pN c s a=ν:=by simpa using r
   rw[m,aV k,aV k,aV (cJ _ aA0 aA0),aV (cJ _ aA0 aA0)];have z:Sm (l.set i a):=by
    refine⟨by simpa using e.1,λh n=> ?_⟩;rcases List.mem_or_eq_of_mem_set n with n|rfl
    ·exact e.2 h n
    ·exact e.2 _ (by rw[<-f];exact fB b)
   obtain⟨l',i',v,u,t⟩:=w (l.set i a) (i+1) (j+1) d z (by rw[List.drop_set_of_lt aA0];exact la) aA3 aA0 aA0;refine⟨l',i',v,u,?_⟩;rw[t,List.filter_cons_of_pos (by simp[m])];have y:(l.set i a).take (i+1)=l.take i++[a]:=by rw[tO aA3,WW,List.take_set_of_le (dC _)]
   rw[y,nW];rfl
theorem uk(c:ζ)(s:aC)(l:δ HH)(e:Sm l):abt FU l c s=θ (l.filter λh=> !pN c s h):=by
 unfold abt;rw[EN c s l e,aS];by_cases h:uF (pN c s) l= -1
 ·rw[aB h];congr 1;exact(List.filter_eq_self.2 λa j=>by rw[EF _ l h a j];rfl).symm
 ·rw[aA h];obtain⟨a,x,b,g,n,m,k⟩:=EE _ l h;have iD:=e.1;have d:=bM aR g;simp only[cR,dT]at d;rw[k,aV (cJ _ aA0 aA0)];obtain⟨l',i',f1,f2,f3⟩:=ug c s b l (γ a) (aR a+1) FU e (by rw[g];simp) aA0 aA0 aA5;have f:aau FU c s FU l (aR a:Int) ((aR a:Int)+1)=θ (l',(i':Int)):=f1;rw[f,aS];dsimp only;rw[aV aA0,aV (by rw[Ze];omega),tT,ic _ _ _ f2,f3,g];congr 1;rw[List.filter_append,GU (by simp[m]),XA,(List.filter_eq_self.2 λh i=>by rw[n h i];rfl:a.filter (λh=> !pN c s h)=a)]
theorem bc(m:MM)(name:aC)(a:Sm m.2.2.2.2.1)(c:aR m.2.2.2.2.2<=4194304)(b:aR name<=4194303):
  anj FU m name=θ (m.1,m.2.1,m.2.2.1,m.2.2.2.1,m.2.2.2.2.1.filter (λh=> !mE name h),m.2.2.2.2.2):=by
 unfold anj;rw[Uw m a.1 c,aS,Lq name b,aS,uk _ _ _ a,aS];rfl
theorem bb(m:MM)(name value:aC)(a:Sm m.2.2.2.2.1)(d:aR m.2.2.2.2.2<=4194304)(b:aR name<=4194303):
  akl FU m name value=θ (m.1,m.2.1,m.2.2.1,m.2.2.2.1,nE m.2.2.2.2.1 (max (uF (mE name) m.2.2.2.2.1) 0) (Ax name,value),m.2.2.2.2.2):=by
 unfold akl;have c:=JS (mE name) m.2.2.2.2.1;have iD:=a.1;rw[Lq name b,aS,EN _ _ _ a,aS,Uw m a.1 d,aS,tw name b,aS];have e:pN (mC name).2 (mC name).1=mE name:=Τ;rw[e,aV aA0]
def Fz(v:aC):δ aC:=if(Lv v).2=0 then(Lv v).1 else [v]
theorem uf(v:aC)(a:aR v<=4194303):asa FU v=θ (Fz v):=by
 unfold asa Fz;rw[bj v a,aS];by_cases h:(Lv v).2=0
 ·rw[aB h,aB h]
 ·rw[aA h,aA h]
theorem Sj(x:aC):γ (oS x)<=aR x:=by unfold oS CU;rw[Gg];have a:=(jL (p:=cF) (l:=(x.dropWhile cF).reverse)).length_le;have b:=(jL (p:=cF) (l:=x)).length_le;rw[Gg]at a;omega
def mL(l:δ aC):Nat:=(l.map aR).sum+aR l
theorem kG:∀(s:aC) (m:Nat) (a:aC) (l:δ aC),eZ m a s=.inl l->mL l<=aR a+aR s+1
 |[],0,a,l,h=>by rw[eZ]at h;have:=Sum.inl.inj h;subst this;have:=Sj a;simp[mL];omega
 |[],m+1,a,l,h=>by cases h
 |c::s,0,a,l,h=>by
  rw[eZ]at h;split at h
  ·have:=kG s _ _ l h;simp at this⊢;omega
  ·split at h
   ·have:=kG s _ _ l h;simp at this⊢;omega
   ·split at h
    ·cases h
    ·split at h
     ·obtain⟨m,b,rfl⟩:=VR h;have:=kG s _ _ m b;have:=Sj a;simp[mL]at*;omega
     ·have:=kG s _ _ l h;simp at this⊢;omega
 |c::s,1,a,l,h=>by
  rw[eZ]at h;split at h
  ·have:=kG s _ _ l h;simp at this⊢;omega
  ·split at h
   ·have:=kG s _ _ l h;simp at this⊢;omega
   ·split at h
    ·cases h
    ·have:=kG s _ _ l h;simp at this⊢;omega
 |c::s,2,a,l,h=>by
  rw[eZ]at h;split at h
  ·have:=kG s _ _ l h;simp at this⊢;omega
  ·cases h
 |c::s,m+3,a,l,h=>by
  rw[eZ]at h;split at h
  ·have:=kG s _ _ l h;simp at this⊢;omega
  ·have:=kG s _ _ l h;simp at this⊢;omega
theorem ri(v:aC)(h:(Lv v).2=0):mL (Lv v).1<=aR v+1:=by
 unfold Lv at h⊢;cases a:eZ 0 [] v with
 |inr e=>rw[a]at h;exact absurd h (IK v 0 [] e a)
 |inl l=>
  rw[a]at h;simp only at h⊢;by_cases b:l.any (λx=>decide (x=[]))=μ
  ·rw[aB b]at h;exact absurd h (show¬5=0 by decide)
  ·rw[aA b];simpa using kG v 0 [] l a
theorem VH(v:aC):mL (Fz v)<=aR v+1:=by
 unfold Fz;split
 ·exact ri v (by assumption)
 ·simp[mL]
theorem Ka(l:δ aC):mL (l.drop 1)<=mL l:=by
 cases l with
 |nil=>exact dC _
 |cons a l=>simp[mL];omega
def Lt(name:aC):η:=if(mC name).2=0 then vQ (mC name).1 else ν
def mH(name:aC)(h:HH):δ aC:=if mE name h=μ then(if Lt name=μ then Fz h.2 else [h.2])else []
def gW(l:δ HH)(name:aC):δ aC:=l.flatMap (mH name)
theorem Wh(name:aC)(h:HH):mL (mH name h)<=aR h.2+1:=by
 unfold mH;split
 ·split
  ·exact VH _
  ·simp[mL]
 ·simp[mL]
theorem Ig(a b:δ aC):mL (a++b)=mL a+mL b:=by simp[mL];omega
theorem all_lp(m:MM)(name:aC)(s:Sm m.2.2.2.2.1)(y:η)(f:y=Lt name)(B:dR m.2.2.2.2.1<=4194303)(q:δ HH):∀(p:δ HH) (d:Nat) (b:δ aC),m.2.2.2.2.1=p++q->aR q<d->aR b+dR q+aR q<=100000000->
  akt FU m ((mC name).2,(mC name).1) y d b (aR p:Int)=θ (b++q.flatMap (mH name)):=by
 subst f;induction q with
 |nil=>intro p d b h t u;obtain⟨d,rfl⟩:=cD d;rw[gV]at h;rw[bdq,asb,aA aB8];simp
 |cons a q v=>
  intro p d b h t u;obtain⟨d,rfl⟩:=cD d;have n:=bM aR h;simp only[cR,dT]at n t;have iD:=s.1;have o:(0:Int)<=(aR p:Int)/\(aR p:Int)<(aR m.2.2.2.2.1:Int):=aA0;have z:el m.2.2.2.2.1 (aR p:Int)=a:=aB3;have i:=s.2 a aA7;have x:dR (a::q)=aR a.1+aR a.2+dR q:=by unfold dR;rw[qO,eY]
  rw[x,dT]at u;have w:=Wh name a;have l:γ (mH name a)<=aR a.2+1:=by unfold mL at w;omega
  have A:pN (mC name).2 (mC name).1 a=mE name a:=Τ;have g:∀c,c=b++mH name a->(gd (bK ((aR p:Int)+(1:Int)))<|akt FU m ((mC name).2,(mC name).1) (Lt name) d c ((aR p:Int)+1))=θ (b++(a::q).flatMap (mH name)):=by intro c e;have:=v (p++[a]) d c aA7 aA0 (by rw[e,cR];omega);rw[aV (cJ _ aA0 aA0),show((aR p:Int)+1)=(γ (p++[a]):Int)by simp,this,e,wL,nW]
  rw[bdq,asb,aB o.2,aV o,aV o,z,Cy a _ _ i.1,aS,A];by_cases j:mE name a=μ
  ·rw[j,iV,aJ];cases f:Lt name with
   |true=>
    have k:mH name a=Fz a.2:=by unfold mH;rw[aB j,aB f]
    rw[f]at g;rw[k]at l;rw[aO,uf _ i.2,aS,aV aA0];exact g _ (by rw[k])
   |false=>
    have k:mH name a=[a.2]:=by unfold mH;rw[aB j,aA (by rw[f];decide)]
    rw[f]at g;rw[aJ,aV aC5];exact g _ (by rw[k])
  ·have r:mE name a=ν:=by simpa using j
   rw[r,vJ,aO];exact g b (by unfold mH;rw[aA j,gV])
theorem all_eq(m:MM)(name:aC)(b:Sm m.2.2.2.2.1)(c:dR m.2.2.2.2.1<=4194303)(e:aR name<=4194303):ju FU m name=θ (gW m.2.2.2.2.1 name):=by unfold ju gW;have iD:=b.1;have:=all_lp m name b _ Τ c m.2.2.2.2.1 [] FU [] Τ aA5 aA3;have a:akt FU m _ _ FU [] 0=_:=this;rw[Lq name e,aS,JJ name aA0,aS];have d:(if(mC name).2=0 then vQ (mC name).1 else ν)=Lt name:=Τ;rw[d,a,aS,yL]
def PJ(h:HH):δ aC:=if Lt h.1=μ then Fz h.2 else [h.2]
theorem ax(h:mE s x=μ):(mC s).2=0/\(mC x.1).2=0/\(mC x.1).1=(mC s).1:=by unfold mE pN at h;simp at h;exact⟨h.1.1,h.1.2,h.2⟩
theorem qz(h:mE s x=μ):Lt x.1=Lt s:=by obtain⟨c,b,a⟩:=ax h;unfold Lt;rw[aB c,aB b,a]
end Go.Wk
