/-
  The law BodiesBack holds (part 6 of 9).
-/
import Derived.Test.YtomjpealmhpciaaGreatDoorYe5
open Bool renaming false → η, true → ζ
open List renaming length → γ
open Option renaming none → ε, some → δ
set_option linter.unusedVariables false
set_option linter.unusedSimpArgs false
set_option maxRecDepth 100000
namespace Go.Wk
open Go.Px
open Int renaming toNat → bF
open List renaming length → aM, replicate → fH, set → gQ
open Option renaming bind → pG
abbrev qM:=aC×aC×Int×aC×cD×List UInt8
def mZ:qM:=([],[],0,[],[],[])
theorem eb(z x:PU)(e:zZ z=δ x):zZ x=δ x:=by obtain⟨g,d,c⟩:=sQ z x e;obtain⟨_,b⟩:=RG _ _ _ d;unfold zZ;rw [aB c.1,Yv KB x.1 (λh a=>by obtain⟨w,_,f⟩:=b h a;exact(Bh w h f).hd)];rfl
def puJ(a:PL):Option PL->PL⊕(qM×UInt8)
 |some l=>.inl (a++l)
 |none=>.inr (mZ,2)
theorem wq(parts:PL)(u:aM parts<=8)(n:∀x∈parts,(∀h∈x.1,aM h.1<=4194304)/\γ x.2<=1000000)(q:PL):∀(p c:PL) (b:Nat),parts=p++q->aM q<b->aM c=aM p->
  ajt FU parts b (c++fH (γ q) ([],[])) (aM p:Int)=δ (puJ c (fQ zZ q)):=by
 induction q with
 |nil=>intro p c b h j g;obtain⟨b,rfl⟩:=cS b;rw [ave,aok,aA aA5];simp [fQ,puJ]
 |cons a q l=>
  intro p c b h j g;obtain⟨b,rfl⟩:=cS b;have f:=aV aM h;simp only [bP,bX]at f j;have i:(0:Int)<=(aM p:Int)/\(aM p:Int)<(aM parts:Int):=aA0;have s:el parts (aM p:Int)=a:=aB3;have o:((aM p:Int)+1)=(γ (p++[a]):Int):=aA2;have k:=n a aA5;rw [ave,aok,aB i.2,aU i,aU i,s,ZW a k.1 k.2,aX,fQ];cases t:zZ a with
  |none=>rfl
  |some r=>
   have e:(0:Int)<=(aM p:Int)/\(aM p:Int)<(γ (c++fH (γ (a::q)) (([],[]):PU)):Int):=aA4;have d:gQ (c++fH (γ (a::q)) (([],[]):PU)) (bF (aM p:Int)) r=(c++[r])++fH (γ q) ([],[]):=by rw [iO,<-g,kQ _ _ (eK _),Iz,bX,Hx];simp
   show gd _ (gd _ (gd _ _))=_;rw [aU e,aU e,aU (cZ _ aA0 aA0)];show ajt FU parts b (gQ _ _ r) _=_;rw [d,o,l (p++[a]) (c++[r]) b aA5 aA0 (by simp [g]),aX];cases fQ zZ q with
   |none=>rfl
   |some m=>simp [puJ]
def kj:aC:=[67,111,110,116,101,110,116,45,76,101,110,103,116,104]
theorem wo(v:PL)(x:PU)(hx:el v (0:Int)=x)(n:∀h∈x.1,uS h)(u:aM x.1<=1000)(q:cD):∀(p:cD) (b:Nat),x.1=p++q->aM q<b->
  (te FU v b (aM p:Int)=δ (.inl ())/\∀h∈q,qX h=ζ/\¬(eQ h.1).1=kj)\/te FU v b (aM p:Int)=δ (.inr (mZ,2)):=by
 induction q with
 |nil=>intro p b h l;obtain⟨b,rfl⟩:=cS b;refine .inl ⟨?_,λh o=>(nomatch o)⟩;rw [avd,aoj,hx,aA aA5]
 |cons a q m=>
  intro p b h l;obtain⟨b,rfl⟩:=cS b;have d:=aV aM h;simp only [bP,bX]at d l;have g:(0:Int)<=(aM p:Int)/\(aM p:Int)<(aM x.1:Int):=aA0;have r:el x.1 (aM p:Int)=a:=aD4;have j:((aM p:Int)+1)=(γ (p++[a]):Int):=aA2;rw [avd,aoj,hx,aB g.2,aU g,aU g,r,LB a (n a aA5),aX];cases s:qX a with
  |false=>exact .inr rfl
  |true=>
   by_cases f:(eQ a.1).1=kj
   ·refine .inr ?_;show pG (δ (decide ((eQ a.1).1=kj))) _=_;rw [aK f];rfl
   ·have e:∀(k:Bool->Option (Unit⊕(qM×UInt8))),pG (δ (decide ((eQ a.1).1=kj))) k=k η:=λk=>by rw [aL f];rfl
    rcases m (p++[a]) b aA5 aA0 with⟨i,t⟩|i
    ·refine .inl ⟨(e _).trans ?_,λy c=> ?_⟩
     ·rw [aH,aU (cZ _ aA0 aA0),j,i]
     ·rcases aP.1 c with rfl|c
      ·exact⟨s,f⟩
      ·exact t y c
    ·refine .inr ((e _).trans ?_);rw [aH,aU (cZ _ aA0 aA0),j,i]
open Go.Lib renaming decDigits → kY
open List renaming replicate → fH
theorem cpd_eq(a:cD)(d:γ a<=1000):aoh FU (a,[])=δ (a,[]):=by have c:∀(b:Type) (i:Decidable (0<=(γ a:Int)/\(32:Int)*(γ a:Int)<=281474976710656)) (k:Option b), @gd b _ i k=k:=λb i k=> @aU _ _ i _ ⟨aA0,aA0⟩;unfold aoh;rw [c,aU aA2,iO,T2 _ _ aA2]
def Pg:aC:=[67,111,110,116,101,110,116,45,84,121,112,101]
def OW:aC:=[109,117,108,116,105,112,97,114,116,47,109,105,120,101,100,59,98,111,117,110,100,97,114,121,61]
def kK(m:qM):cD:=m.2.2.2.2.1.filter (λh=> !qX h)
def rN(m:qM)(a:cD)(b:List UInt8):qM:=(m.1,m.2.1,m.2.2.1,m.2.2.2.1,a,b)
def PutR (m : qM) (l : PL) (r : qM × UInt8) : Prop :=
  (r.1 = mZ /\ ¬ r.2 = 0) \/ (r.2 = 0 /\ ∃ v, fQ zZ l = δ v /\
    ((v = [] /\ r.1 = rN m (kK m) []) \/ (∃ x, v = [x] /\ (∀ h ∈ x.1, qX h = ζ /\ ¬ (eQ h.1).1 = kj) /\ r.1 = rN m (kK m ++ x.1) x.2) \/
     ∃ k : Nat, k <= 8000000000 /\ (2 <= γ v /\ γ v <= 8) /\ eP (98 :: kY k) = ζ /\ γ (98 :: kY k) <= 70 /\ (∀ x ∈ v, NrP (98 :: kY k) x) /\ γ (Rr (98 :: kY k) [] v) <= 8192 /\
       r.1 = rN m (kK m ++ [(Pg, OW ++ 98 :: kY k)]) (Rr (98 :: kY k) [] v)))
theorem put_eq(m:qM)(l:PL)(L:γ m.2.2.2.2.1<=100)(o:∀h∈m.2.2.2.2.1,uS h)(K:∀x∈l,∀h∈x.1,γ h.1<=4194304)(t:∀x∈l,γ x.2<=20000):∃r,axa FU m l=δ r/\PutR m l r:=by
 unfold axa;by_cases u:(8:Int)<(γ l:Int)
 ·rw [aB u];exact⟨_,rfl,.inl ⟨rfl,show¬((2:UInt8)=0)by decide⟩⟩
 ·have Q:∀(j:Type) (i:Decidable (0<=(γ l:Int)/\(48:Int)*(γ l:Int)<=281474976710656)) (k:Option j), @gd j _ i k=k:=λj i k=> @aU _ _ i _ ⟨aA0,aA0⟩;have U:=wq l aA0 (λx hx=>⟨K x hx,by have:=t x hx;omega⟩) l [] [] FU rfl aA6 rfl;have p:ajt FU l FU (fH (bF (γ l:Int)) ([],[])) (0:Int)=δ (puJ [] (fQ zZ l)):=by rw [iO];exact U
  rw [aA u,Q,p,aX];cases g:fQ zZ l with
  |none=>exact⟨_,rfl,.inl ⟨rfl,show¬((2:UInt8)=0)by decide⟩⟩
  |some v=>
   obtain⟨Z,C⟩:=RG _ _ _ g;have a:∀x∈v,γ x.1<=64/\γ x.2<=20000/\(∀h∈x.1,Wv h)/\zZ x=δ x:=λx hx=>by obtain⟨z,H,e⟩:=C x hx;obtain⟨G,F,E⟩:=sQ z x e;obtain⟨_,D⟩:=RG _ _ _ F;exact⟨E.1,by rw [G];exact t z H,λh f=>by obtain⟨w,_,V⟩:=D h f;exact Bh w h V,eb z x e⟩
   have N:γ (kK m)<=100:=lE (WT _ _) L;show∃r,pG (aoh FU (m.2.2.2.2.1,[])) _=δ r/\_;rw [cpd_eq _ aA0,aX];dsimp only;rw [dfc_eq _ aA0 o,aX];rw [show m.2.2.2.2.1.filter (λh=> !qX h)=kK m from rfl,vX];by_cases A:(γ v:Int)=0
   ·rw [aB A,aX];exact⟨_,rfl,.inr ⟨rfl,v,g,.inl ⟨vJ aA0,rfl⟩⟩⟩
   ·rw [aA A];by_cases y:(γ v:Int)=1
    ·obtain⟨x,rfl⟩:∃x,v=[x]:=List.length_eq_one_iff.1 aA0;obtain⟨a1,a2,Y,a4⟩:=a x fE;have b:el [x] (0:Int)=x:=rfl;rw [aB y,aU aA2,aU aA2];rcases wo [x] x b (λh f=>by have:=(Y h f).cm.1;unfold uS;omega) aA0 x.1 [] FU rfl aA6 with⟨q,T⟩|q
     ·have c:te FU [x] FU (0:Int)=δ (.inl ()):=q;rw [c,aX];refine⟨(rN m (kK m++x.1) x.2,0), ?_,.inr ⟨rfl,_,g,.inr (.inl ⟨x,rfl,T,rfl⟩)⟩⟩;show pG (gd _ (gd _ (gd _ (gd _ (gd _ _))))) _=_;rw [aU aA2,aU aA2,aU (by rw [b];omega),aU aA2,aU aA2,b];rfl
     ·have c:te FU [x] FU (0:Int)=δ (.inr (mZ,2)):=q;rw [c,aX];exact⟨_,rfl,.inl ⟨rfl,show¬((2:UInt8)=0)by decide⟩⟩
    ·rw [aA y,aX];obtain⟨k,X,W,b3⟩:=bd_eq v aA0 λx hx=>(a x hx).2.1;obtain⟨_,_,qp,S⟩:=QO 9 k aA0;have P:=yd (98::kY k) aA4 v (λx hx=>⟨λh f=>by have:=((a x hx).2.2.1 h f).cm.1;omega,by have:=(a x hx).2.1;omega⟩);show∃r,pG (aio FU v) _=δ r/\_;rw [X,aX,P,aX];rcases UK v (98::kY k)with⟨c1,B⟩|⟨s,d,J,n,I,O,M,R⟩
     ·rw [aA B];exact⟨_,rfl,.inl ⟨rfl,B⟩⟩
     ·have:s=v:=by rw [Yv zZ v (λx hx=>(a x hx).2.2.2)]at d;exact(aJ d).symm
      subst this;rw [R];dsimp only;rw [aB rfl,aU aA4,aU aA4];exact⟨_,rfl,.inr ⟨rfl,s,g,.inr (.inr ⟨k,W,⟨aA0,aA0⟩,J,n,O,M,rfl⟩)⟩⟩
open Go.Lib renaming hasPrefix → fW
open List renaming length → aM, take → jV
theorem QT(h:aC×aC):qX h=(decide (8<=γ (eQ h.1).1)&&decide ((eQ h.1).1.take 8=[67,111,110,116,101,110,116,45])):=by
 unfold qX;by_cases b:(eQ h.1).2=0
 ·rw [aK b,Qx];generalize(eQ h.1).1=s;cases a:fW s [67,111,110,116,101,110,116,45]with
  |true=>obtain⟨r,rfl⟩:=mN _ _ a;simp
  |false=>
   symm;rw [Bool.and_eq_false_iff,bL,bL];by_cases c:8<=aM s
   ·refine .inr λe=> ?_;have:=IL 8 s;rw [e]at this;rw [<-this,Aa]at a;cases a
   ·exact .inl c
 ·rw [LF _ b];rfl
theorem ot_lp(l:cD)(r:aM l<=1000)(m:∀h∈l,uS h)(q:cD):∀(p:cD) (b:Nat) (out:cD),l=p++q->aM q<b->aM out<=aM p->
  amc FU l b out (aM p:Int)=δ (out++q.filter (λh=> !qX h)):=by
 induction q with
 |nil=>intro p b out h i k;obtain⟨b,rfl⟩:=cS b;rw [axu,apd,aA aA5];simp
 |cons a q f=>
  intro p b out h i k;obtain⟨b,rfl⟩:=cS b;have e:=aV aM h;simp only [bP,bX]at e i;have c:(0:Int)<=(aM p:Int)/\(aM p:Int)<(aM l:Int):=aA0;have n:el l (aM p:Int)=a:=aD4;have g:((aM p:Int)+1)=(γ (p++[a]):Int):=aA2
  have d:=m a aA5;unfold uS at d;have o:(if(γ (eQ a.1).1:Int)<(8:Int)then δ ζ else gd (0<=(8:Int)/\(8:Int)<=(γ (eQ a.1).1:Int)) (δ (!decide (jV (bF (8:Int)) (eQ a.1).1=[67,111,110,116,101,110,116,45]))))=δ (!qX a):=by
   rw [QT];by_cases j:(γ (eQ a.1).1:Int)<8
   ·rw [aB j,aL aA0];rfl
   ·rw [aA j,aU aA0,aK (show 8<=_ by omega),Qx];rfl
  rw [axu,apd,aB c.2,aU c,aU c,n,ls _ aA0,aX];refine(aV (λx=>pG x _) o).trans ?_;rw [aX];cases hx:qX a with
  |true=>rw [iN,aH,aU (cZ _ aA0 aA0),g,f (p++[a]) b out aA5 aA0 aA4];simp [hx]
  |false=>rw [yX,aQ,aU c,aU c,aU aA4,aU (cZ _ aA0 aA0),g,f (p++[a]) b (out++[a]) aA5 aA0 aA4];simp [hx]
theorem px(l:cD)(c:aM l<=1000)(b:∀h∈l,uS h):aqf FU l=δ (l.filter (λh=> !qX h)):=by have d:=ot_lp l c b l [] FU [] rfl aA6 aA2;have a:amc FU l FU [] (0:Int)=_:=d;unfold aqf;rw [a,aX,vX]
def lW(h:aC×aC):Bool:=decide ((eQ h.1).2=0)&&decide ((eQ h.1).1=Pg)
theorem xi(h:aC×aC)(b:uS h):art FU h 0 Pg=δ (lW h):=by
 unfold uS at b;unfold art lW;rw [ls _ aA0,aX,aB rfl];by_cases a:(eQ h.1).2=0
 ·rw [aB a,aK a,Qx];rfl
 ·rw [aA a,aL a,Y7];rfl
theorem gt_lp(s:cD)(l:aM s<=100000)(g:∀h∈s,uS h)(q:cD):∀(p:cD) (a:Nat),s=p++q->aM q<a->
  ∃j,abp FU s 0 Pg a (aM p:Int)=δ j/\((j=.inl ()/\q.find? lW=ε)\/∃i x,j=.inr i/\(0<=i/\i<(aM s:Int))/\el s i=x/\q.find? lW=δ x):=by
 induction q with
 |nil=>intro p a h d;obtain⟨a,rfl⟩:=cS a;rw [afu,acj,aA aA5];exact⟨_,rfl,.inl ⟨rfl,rfl⟩⟩
 |cons x q f=>
  intro p a h d;obtain⟨a,rfl⟩:=cS a;have c:=aV aM h;simp only [bP,bX]at c d;have b:(0:Int)<=(aM p:Int)/\(aM p:Int)<(aM s:Int):=aA0;have e:el s (aM p:Int)=x:=aD4;have k:((aM p:Int)+1)=(γ (p++[x]):Int):=aA2;rw [afu,acj,aB b.2,aU b,aU b,e,xi x (g x aA5),aX,RS];cases hx:lW x with
  |true=>exact⟨_,rfl,.inr ⟨_,x,rfl,b,e,rfl⟩⟩
  |false=>rw [aH,aU (cZ _ aA0 aA0),k];exact f (p++[x]) a aA5 aA0
def gtR:Option (aC×aC)->aC×Bool
 |some x=>(x.2,ζ)
 |none=>([],η)
theorem Vx:RL FU Pg=δ (Pg,0):=by kernel_rfl
theorem N8(m:qM)(k:aM m.2.2.2.2.1<=1000)(c:∀h∈m.2.2.2.2.1,uS h):aru FU m Pg=δ (gtR (m.2.2.2.2.1.find? lW)):=by
 obtain⟨j,g,f⟩:=gt_lp m.2.2.2.2.1 aA0 c m.2.2.2.2.1 [] FU rfl aA6;have b:abp FU m.2.2.2.2.1 0 Pg FU (0:Int)=δ j:=g;unfold aru azi aer;rw [Vx,aX,aX];dsimp only;rw [b,aX];rcases f with⟨rfl,a⟩|⟨i,x,rfl,a,e,d⟩
 ·rw [a];rfl
 ·rw [d];show pG (δ i) _=_;rw [aX,aA aA0,aU a,aU a,e];rfl
theorem xq(s:aC)(k:γ s<=1000000000)(l:aC):∀(p:aC) (a:Nat),γ p+γ l=γ s->γ l<a->
  amf FU s a (p++l) (γ p:Int)=δ (p++l.map gB):=by
 induction l with
 |nil=>intro p a f j;obtain⟨a,rfl⟩:=cS a;simp only [fT]at f;rw [axv,apj,aA aA0];rfl
 |cons c l i=>
  intro p a f j;obtain⟨a,rfl⟩:=cS a;simp only [bX]at f j;have d:=Mx p c l;rw [axv,apj,aB aA0,aU d,aU d,VY];by_cases b:65<=c/\c<=90
  ·rw [aB b.1,aK b.2,aX,aQ,aU d,aU d,aU (cZ _ aA0 aA0),Ut c b.1 b.2,zN,V7 p (gB c),i (p++[gB c]) a aB5 aA0];simp
  ·have e:(if(65:UInt8)<=c then δ (decide (c<=(90:UInt8)))else δ η)=δ η:=by
    by_cases g:65<=c
    ·rw [aB g,aL (λh=>b ⟨g,h⟩)]
    ·rw [aA g]
   refine(aV (λx=>pG x _) e).trans ?_;rw [aX,aH,aU (cZ _ aA0 aA0),show p++c::l=(p++[c])++l by simp,V7 p c,i (p++[c]) a aB5 aA0];simp [oA c b]
theorem xr(s:aC)(a:γ s<=1000000000):awn FU s=δ (s.map gB):=by unfold awn;have h:=xq s a s [] FU aA2 aA6;have b:amf FU s FU s (0:Int)=δ (s.map gB):=h;rw [b];rfl
def txN:aC:=[116,101,120,116,47,112,108,97,105,110]
def WX:Option (aC×aC)->aC×List PP
 |some x=>if(jS x.2).2=0 then((jS x.2).1.1.map gB,(jS x.2).1.2)else(txN,[])
 |none=>(txN,[])
theorem L4(v:aC):γ (jS v).1.1<=γ v:=by
 have a:=IF v;unfold jS;split
 ·exact cO _
 ·split
  ·exact lE (by rw [kX];exact HR _ _) a
  ·exact cO _
theorem ZN(p:PU)(c:γ p.1<=1000)(d:∀h∈p.1,uS h)(b:∀h,p.1.find? lW=δ h->γ h.2<=4194304):avb FU p=δ (WX (p.1.find? lW)):=by
 unfold avb;have e:=N8 (([]:aC),([]:aC),(0:Int),([]:aC),p.1,([]:List UInt8)) c d;refine(aV (λx=>pG x _) e).trans ?_;rw [aX];cases f:p.1.find? lW with
 |none=>rfl
 |some x=>
  have hx:=b x f;show pG (api FU x.2) _=_;rw [Zi _ hx,aX];have g:=L4 x.2;by_cases a:(jS x.2).2=0
  ·rw [aB a,xr _ aA0,aX];simp [WX,a]
  ·rw [aA a];simp [WX,a,txN]
def mpN:aC:=[109,117,108,116,105,112,97,114,116,47]
theorem pd(p:PU)(b:γ p.1<=1000)(c:∀h∈p.1,uS h)(a:∀h,p.1.find? lW=δ h->γ h.2<=4194304)(h:fW (WX (p.1.find? lW)).1 mpN=η):XN FU p=δ ([],η):=by unfold XN;rw [ZN p b c a,aX,Ym];refine(aV (λx=>pG (δ x) _) h).trans ?_;rfl
def xm:aC:=[109,117,108,116,105,112,97,114,116,47,109,105,120,101,100]
def XE:aC:=[98,111,117,110,100,97,114,121]
theorem vf(p:PU)(b:γ p.1<=1000)(c:∀h∈p.1,uS h)(a:∀h,p.1.find? lW=δ h->γ h.2<=4194304)(y:aC)(h:WX (p.1.find? lW)=(xm,[(XE,y,ζ)])):XN FU p=δ (y,ζ):=by
 unfold XN;rw [ZN p b c a,aX,h];have e:tg FU xm [109,117,108,116,105,112,97,114,116,47]=δ ζ:=by kernel_rfl
 have d:abz FU [(XE,y,ζ)]=δ 0:=by kernel_rfl
 show pG (tg FU xm [109,117,108,116,105,112,97,114,116,47]) _=_;rw [e,aX,iN,aH];show pG (abz FU [(XE,y,ζ)]) _=_;rw [d,aX,aA aA1,aU aA2,aU aA2];rfl
theorem fc(y:aC)(b:eP y=ζ)(h:γ y<=70):jS (OW++y)=((xm,[(XE,y,ζ)]),0):=by
 have e:Ke (xm,[(XE,y,ζ)])=(OW++y,0):=by
  have a:y.any eO=η:=dC.2 λc a=>by rw [(ll c (aT.1 (Rc b).2 c a)).2.1];exact Qv
  have g:Ru [] (XE,y,ζ)=ζ:=by kernel_rfl
  have f:Jo (XE,y,ζ)=ζ:=by unfold Jo;rw [a];rfl
  have d:iV (eC [(XE,y,ζ)])=(59::(XE++(61::y++[])),0):=by show iV [(XE,y,ζ)]=_;unfold iV;rw [aA aA2];unfold mX;rw [g,f];simp [mX,sE,b]
  unfold Ke;dsimp only;rw [d,aB ⟨by kernel_rfl,rfl⟩];simp [xm,OW,XE]
 have:=Va (xm,[(XE,y,ζ)]) (by rw [e]);rw [e]at this;exact this
def eo(h:aC×aC):Bool:=bif qX h then !decide ((eQ h.1).1=kj)else η
theorem of_lp(m:qM)(r:aM m.2.2.2.2.1<=1000)(l:∀h∈m.2.2.2.2.1,uS h)(q:cD):∀(p:cD) (c:Nat) (b:cD),m.2.2.2.2.1=p++q->aM q<c->aM b<=aM p->
  ald FU m c (aM p:Int) b=δ (b++q.filter eo):=by
 induction q with
 |nil=>intro p c b h j k;obtain⟨c,rfl⟩:=cS c;rw [awh,apy,aA aA5];simp
 |cons a q g=>
  intro p c b h j k;obtain⟨c,rfl⟩:=cS c;have e:=aV aM h;simp only [bP,bX]at e j;have f:(0:Int)<=(aM p:Int)/\(aM p:Int)<(aM m.2.2.2.2.1:Int):=aA0;have n:el m.2.2.2.2.1 (aM p:Int)=a:=aD4;have i:((aM p:Int)+1)=(γ (p++[a]):Int):=aA2;have d:=l a aA5;have o:(bif qX a then δ (!decide ((eQ a.1).1=kj))else δ η)=δ (eo a):=by unfold eo;cases qX a<;>rfl
  rw [awh,apy,aB f.2,aU f,aU f,n,LB a d,aX];refine(aV (λx=>pG x _) o).trans ?_;rw [aX];cases hx:eo a with
  |false=>rw [aH,aU (cZ _ aA0 aA0),i,g (p++[a]) c b aA5 aA0 aA4];simp [hx]
  |true=>rw [aQ,aU aA4,aU (cZ _ aA0 aA0),i,g (p++[a]) c (b++[a]) aA5 aA0 aA4];simp [hx]
theorem DS(m:qM)(y:aC)(r:PL×Int×UInt8)(b:XN FU m.2.2.2.2=δ (y,ζ))(a:mh FU m.2.2.2.2.2 y=δ r):mb FU m=δ (r.1,r.2.2):=by unfold mb;rw [b,aX];dsimp only;rw [aQ,a];rfl
theorem Mp(m:qM)(d:aM m.2.2.2.2.1<=1000)(c:∀h∈m.2.2.2.2.1,uS h)(i:aM m.2.2.2.2.2<=1000000)(g:XN FU m.2.2.2.2=δ ([],η)):
  mb FU m=δ (bif (m.2.2.2.2.1.find? lW).isNone&&decide (m.2.2.2.2.2=[])then([],0)else([(m.2.2.2.2.1.filter eo,m.2.2.2.2.2)],0)):=by
 unfold mb;rw [g,aX];dsimp only;rw [aH];refine(aV (λx=>pG x _) (N8 m d c)).trans ?_;rw [aX];have f:=of_lp m d c m.2.2.2.2.1 [] FU [] rfl aA6 aA2;have a:ald FU m FU (0:Int) []=δ (m.2.2.2.2.1.filter eo):=f;cases m.2.2.2.2.1.find? lW with
 |some x=>show gd _ (pG (ald FU m FU (0:Int) []) _)=_;rw [aU aA0,a];rfl
 |none=>
  show pG (δ (decide ((aM m.2.2.2.2.2:Int)=(0:Int)))) _=_;rw [aX];by_cases b:m.2.2.2.2.2=[]
  ·rw [aK (by rw [b];rfl),aQ,aK b];rfl
  ·have:aM m.2.2.2.2.2≠0:=λe=>b (vJ e);rw [aL aA0,aH,aL b,aU aA0,a];rfl
def gdT(h:aC×aC):Prop:=(jS h.2).2=0/\fW ((jS h.2).1.1.map gB) mpN=η
theorem xw:∀c:UInt8,gB c=109->c=109\/c=77:=by have:=dS (λc=> !(gB c==109)||(c==109||c==77)) aA3;intro c h;have:=this c;simpa [h] using this
theorem za(h:aC×aC)(i:(jS h.2).2=0)(f:¬((γ (jS h.2).1.1:Int)<1))(e:¬at_ (jS h.2).1.1 0=109)(d:¬at_ (jS h.2).1.1 0=77):gdT h:=by
 refine⟨i, ?_⟩;cases a:(jS h.2).1.1 with
 |nil=>rw [a]at f;exact absurd aA2 f
 |cons c l=>
  rw [a]at e d;cases g:fW ((c::l).map gB) mpN with
  |false=>rfl
  |true=>
   obtain⟨r,b⟩:=mN _ _ g;have:gB c=109:=by rw [yS]at b;exact(bG b).1
   rcases xw c this with rfl|rfl
   ·exact absurd rfl e
   ·exact absurd rfl d
theorem wv(g:PU)(hl:aM g.1<=64)(P:∀h∈g.1,uS h)(w q:cD):∀(p:cD) (d:Nat) (ty:Bool),g.1=p++w->fQ KB w=δ q->aM w<d->
  ∃j,anz FU g d ty (aM p:Int)=δ j/\(∀b,j=.inr b->b=η)/\∀t,j=.inl t->(t=ζ->ty=ζ\/(q.find? lW).isSome=ζ)/\∀h∈q,lW h=ζ->gdT h:=by
 induction w generalizing q with
 |nil=>intro p d ty h k G;obtain⟨d,rfl⟩:=cS d;cases k;rw [azk,aqt,aA aA5];exact⟨_,rfl,λb c=>(nomatch c),λt f=>by cases f;exact⟨λe=>.inl e,λh Q=>(nomatch Q)⟩⟩
 |cons a w M=>
  intro p d ty h k G;obtain⟨d,rfl⟩:=cS d;rw [fQ,iR]at k;obtain⟨r,J,X⟩:=k;obtain⟨q',W,rfl⟩:=bT.1 X;obtain⟨E,k2,L,Z,K,Y⟩:=Zl a r J;have O:=Bh a r J;have o:=aV aM h;simp only [bP,bX]at o G;have c:(0:Int)<=(aM p:Int)/\(aM p:Int)<(aM g.1:Int):=aA0;have R:el g.1 (aM p:Int)=a:=aD4;have F:((aM p:Int)+1)=(γ (p++[a]):Int):=aA2;have n:=P a aA5;unfold uS at n;have s:=M q' (p++[a]) d (ty||decide (r.1=Pg)) aA5 W aA0;have i:lW r=decide (r.1=Pg):=by unfold lW;rw [O.can];simp
  rw [azk,aqt,aB c.2,aU c,aU c,R,ls _ aA0,aX,<-L];obtain⟨D,y⟩:∃D,(if(aM r.1:Int)<(8:Int)then δ ζ else gd (0<=(8:Int)/\(8:Int)<=(aM r.1:Int)) (if jV (bF (8:Int)) r.1=([67,111,110,116,101,110,116,45]:aC)then δ (decide (r.1=([67,111,110,116,101,110,116,45,76,101,110,103,116,104]:aC)))else δ ζ))=δ D:=by
   by_cases H:(aM r.1:Int)<8
   ·exact⟨_,aB H⟩
   ·rw [aA H,aU aA0];split<;>exact⟨_,rfl⟩
  rw [y,aX];cases D with
  |true=>exact⟨_,rfl,λb c=>by cases c;rfl,λt f=>(nomatch f)⟩
  |false=>
   have N:=E.2;rw [aH,aU c,aU c,Ok _ _ (by have:=E.1;omega) aA0,aX,<-K,Zi _ aA0,aX];obtain⟨m,v,u⟩:∃m,(if r.1=([67,111,110,116,101,110,116,45,84,121,112,101]:aC)then(if(jS r.2).2=(0:UInt8)then(if(γ (jS r.2).1.1:Int)<(1:Int)then δ ζ else(gd (0<=(0:Int)/\(0:Int)<(γ (jS r.2).1.1:Int))<|(if(at_ (jS r.2).1.1 (0:Int))=(109:UInt8)then δ ζ else(gd (0<=(0:Int)/\(0:Int)<(γ (jS r.2).1.1:Int))<|some (decide ((at_ (jS r.2).1.1 (0:Int))=(77:UInt8)))))))else δ ζ)else δ η)=δ m/\(m=η->lW r=ζ->gdT r):=by
    by_cases C:r.1=Pg
    ·rw [aB (show r.1=[67,111,110,116,101,110,116,45,84,121,112,101]from C)];by_cases B:(jS r.2).2=0
     ·rw [aB B];by_cases A:(γ (jS r.2).1.1:Int)<1
      ·rw [aB A];exact⟨_,rfl,λe=>(nomatch e)⟩
      ·rw [aA A,aU aA0];by_cases z:at_ (jS r.2).1.1 0=109
       ·rw [aB z];exact⟨_,rfl,λe=>(nomatch e)⟩
       ·rw [aA z,aU aA0];exact⟨_,rfl,λe _=>za r B A z (fY e)⟩
     ·rw [aA B];exact⟨_,rfl,λe=>(nomatch e)⟩
    ·rw [aA (show¬r.1=[67,111,110,116,101,110,116,45,84,121,112,101]from C)];exact⟨_,rfl,λ_ e=>by rw [i,aL C]at e;cases e⟩
   rw [v,aX];cases m with
   |true=>exact⟨_,rfl,λb c=>by cases c;rfl,λt f=>(nomatch f)⟩
   |false=>
    obtain⟨j,l,V,U⟩:=s;refine⟨j, ?_,V,λt f=> ?_⟩
    ·rw [aH];cases ty with
     |true=>rw [aQ,aU (cZ _ aA0 aA0),F];rw [mK]at l;exact l
     |false=>rw [aH,aU (cZ _ aA0 aA0),F];rw [dX]at l;exact l
    ·obtain⟨I,T⟩:=U t f;refine⟨λe=> ?_,λx hx=> ?_⟩
     ·rw [RS,i];cases S:decide (r.1=Pg)with
      |true=>exact .inr rfl
      |false=>rw [S,eE]at I;exact I e
     ·rcases aP.1 hx with rfl|hx
      ·exact u rfl
      ·exact T x hx
theorem wx(a x:PU)(k:∀h∈a.1,uS h)(e:zZ a=δ x):∃b,sy FU a=δ b/\(b=ζ->((x.1.find? lW).isSome=ζ\/0<aM x.2)/\∀h∈x.1,lW h=ζ->gdT h):=by
 obtain⟨i,d,g⟩:=sQ a x e;have q:=g.1;have l:=(RG _ _ _ d).1;obtain⟨j,p,o,n⟩:=wv a aA0 k a.1 x.1 [] FU η rfl d aA6;have c:anz FU a FU η (0:Int)=δ j:=p;unfold sy;rw [c,aX];cases j with
 |inr b=>cases o b rfl;exact⟨_,rfl,λe=>(nomatch e)⟩
 |inl t=>
  obtain⟨m,f⟩:=n t rfl;cases t with
  |true=>exact⟨ζ,rfl,λ_=>⟨.inl ((m rfl).resolve_left (λe=>nomatch e)),f⟩⟩
  |false=>exact⟨decide ((0:Int)<(aM a.2:Int)),rfl,λe=>⟨.inr (by have:=bU e;rw [i];omega),f⟩⟩
open Go.Lib renaming cut → eD, hasPrefix → fW
open List renaming length → aM
theorem dAt_ok(T y:aC)(a:Nat)(d:Int×Int×Bool)(h:S7 T y a=δ d):d.1=(a:Int)/\∃e:Nat,d.2.1=(e:Int)/\e<=aM T:=by
 unfold S7 at h;split at h
 ·cases h
 ·split at h
  ·cases h;exact⟨rfl,aM T,rfl,eK _⟩
  ·split at h
   ·rename_i g;cases h;obtain⟨r,b⟩:=mN _ _ g;have f:=QP (T.drop (a+(aM y+2)));rw [gZ]at f;have c:=aV aM b;rw [bP,show([13,10]:aC).length=2 from rfl]at c;refine⟨rfl,aM T-γ (BC (T.drop (a+(aM y+2))))+2, ?_,aA0⟩;dsimp only;omega
   ·cases h
theorem I4(T y:aC)(k:aM T<=100000)(j:aM y<=100000):∀(n b c:Nat),b<=aM T->aM T-b<=n->n<c->
  ∃r,ade FU T y c (b:Int)=δ r/\(r.2=ζ->∃a e:Nat,r.1.1=(a:Int)/\r.1.2.1=(e:Int)/\a<=aM T/\e<=aM T)
 |n,b,0,_,_,h=>absurd h (fC _)
 |n,b,c+1,u,C,B=>by
  have g:γ (T.drop b)=aM T-b:=gZ;rcases Lib.index_spec (T.drop b) (eW y)with⟨f,_⟩|⟨i,f,_,p,_⟩
  ·rw [ake,afe];have z:min (b:Int) (aM T:Int)=(b:Int):=by omega
   have A:([45,45]:aC)++y=eW y:=rfl;simp only [A,z,iO,f];rw [aU aA0,aU aA0,aB aA0];exact⟨_,rfl,λe=>(nomatch e)⟩
  ·obtain⟨r,o⟩:=mN _ _ (show fW ((T.drop b).drop i) (eW y)=ζ from p);have t:=aV aM o;rw [bP,gZ,g,show(eW y).length=aM y+2 from rfl]at t;rw [ake,OR T y k j _ b i u f aA0];cases s:S7 T y (b+i)with
   |some d=>obtain⟨x,e,w,v⟩:=dAt_ok T y _ d s;exact⟨_,rfl,λ_=>⟨_,e,x,w,aA0,v⟩⟩
   |none=>obtain⟨q,m,l⟩:=I4 T y k j (n-1) (b+i+1) c aA0 aA0 aA0;refine⟨q, ?_,l⟩;show ade FU T y c (((b+i:Nat):Int)+1)=_;rw [show(((b+i:Nat):Int)+1)=((b+i+1:Nat):Int)by omega];exact m
theorem OS(T y:aC)(d:aM T<=100000)(c:aM y<=100000)(b:Nat)(h:b<=aM T):∃r,X5 FU T (b:Int) y=δ r/\(r.2=ζ->∃a e:Nat,r.1.1=(a:Int)/\r.1.2.1=(e:Int)/\a<=aM T/\e<=aM T):=by unfold X5;rw [aU aB4];exact I4 T y d c (γ T) b FU h aA0 aA6
theorem JC(s:aC)(b:aM s<=100000):∀(n i a:Nat),aM s-i<=n->n<a->i<=aM s->∃r,mr FU s a (i:Int)=δ r/\∀q,r=.inr q->0<=q.1/\q.1<=(aM s:Int)
 |n,i,0,_,h,_=>absurd h (fC _)
 |n,i,a+1,l,k,j=>by
  rw [apb,ajm];by_cases c:(i:Int)<(aM s:Int)
  ·rw [aB c,aU aA0,awx,aX];cases eO (at_ s (i:Int))with
   |false=>rw [yX,aQ,aU (cZ _ aA0 aA0)];exact JC s b (n-1) (i+1) a aA0 aA0 aA0
   |true=>
    rw [iN,aH,aU aA0];by_cases g:at_ s (i:Int)=13
    ·rw [aB g,aU (cZ _ aA0 aA0)];by_cases f:(i:Int)+1=(aM s:Int)
     ·rw [aB f];exact⟨_,rfl,λq e=>by cases e;exact⟨fO _,by dsimp only;omega⟩⟩
     ·rw [aA f,aU (cZ _ aA0 aA0),aU aA0];by_cases d:at_ s ((i:Int)+1)=10
      ·rw [aB d,aU (cZ _ aA0 aA0),aU (cZ _ aA0 aA0),show((i:Int)+1+1)=((i+2:Nat):Int)by omega];exact JC s b (n-2) (i+2) a aA0 aA0 aA0
      ·rw [aA d];exact⟨_,rfl,λq e=>by cases e;exact⟨by dsimp only;omega,by dsimp only;omega⟩⟩
    ·rw [aA g];exact⟨_,rfl,λq e=>by cases e;exact⟨by dsimp only;omega,by dsimp only;omega⟩⟩
  ·rw [aA c];exact⟨_,rfl,λq e=>(nomatch e)⟩
theorem cg(s:aC)(a:aM s<=100000):∃r,arv FU s=δ r/\0<=r.1/\r.1<=(aM s:Int):=by
 obtain⟨r,h,b⟩:=JC s a (γ s) 0 FU aA0 aA6 aA0;have c:mr FU s FU (0:Int)=δ r:=h;unfold arv;rw [c,aX];cases r with
 |inl u=>exact⟨_,rfl,fO _,by dsimp only;omega⟩
 |inr q=>exact⟨_,rfl,b q rfl⟩
theorem D5(l:aC)(c:aM l<=1000000):∃r,aik FU l=δ r:=by
 have d:=Bu l [58];unfold aik;rw [aU aA0];cases(eD l [58]).2.2 with
 |false=>exact⟨_,rfl⟩
 |true=>
  have e:=sF (eD l [58]).1 [32,9];rw [iN,aH,aU aA0,aU aA1,ls _ aA0,aX];by_cases a:(eQ (Lib.trimRightS (eD l [58]).1 [32,9])).2=0
  ·obtain⟨r,b,_⟩:=JU (eQ (Lib.trimRightS (eD l [58]).1 [32,9])).1 (Lib.trimS (eD l [58]).2.1 [32,9]) (by have:=vD _ a;omega);rw [aB a,aU aA0,aU aA1,b,aX];exact⟨_,rfl⟩
  ·rw [aA a];exact⟨_,rfl⟩
theorem db(y:jU×Int×UInt8)(u:aM y.1<=1000000)(m:∀z∈y.1,aM z.2<=200000/\0<=z.1/\z.1<=200000)(q:jU):∀(p:jU) (c:Nat) (b:cD),y.1=p++q->aM q<c->aM b<=64->
  ∃r,ti FU y c (aM p:Int) b=δ r/\∀q,r=.inr q->0<=q.2.1/\q.2.1<=200000:=by
 induction q with
 |nil=>intro p c b h k s;obtain⟨c,rfl⟩:=cS c;rw [ahl,aes,aA aA5];exact⟨_,rfl,λq e=>(nomatch e)⟩
 |cons a q l=>
  intro p c b h k s;obtain⟨c,rfl⟩:=cS c;have i:=aV aM h;simp only [bP,bX]at i k;have j:(0:Int)<=(aM p:Int)/\(aM p:Int)<(aM y.1:Int):=aA0;have o:el y.1 (aM p:Int)=a:=aB3;have n:((aM p:Int)+1)=(γ (p++[a]):Int):=aA2;have d:=m a aA5;obtain⟨r,t⟩:=D5 a.2 aA0;rw [ahl,aes,aB j.2,aU j,aU j,o,t,aX];by_cases g:r.2=0
  ·rw [aB g,aX];by_cases f:(aM b:Int)=64
   ·rw [aK f];exact⟨_,rfl,λq e=>by cases e;exact d.2⟩
   ·rw [aL f,aH,aX,aB g,aU aA4,aU (cZ _ aA0 aA0),n];exact l (p++[a]) c (b++[r.1]) aA5 aA0 aA4
  ·rw [aA g,aX,aH,aX,aA g];exact⟨_,rfl,λq e=>by cases e;exact d.2⟩
open Go.Lib renaming cut → eD, hasPrefix → fW, join → cY
open List renaming length → aM, set → gQ, take → jV
theorem Zv{a:Type}[Inhabited a](l:List a)(i:Int)(d:0<=i)(c:i<(aM l:Int)):el l i∈l:=by have b:i.toNat<aM l:=aA0;simp [el,b]
theorem gp(s:aC)(f:List aC)(t:aC):γ (cY (f++[t]) s)<=γ (cY f s)+aM s+aM t:=by
 cases f with
 |nil=>rw [vX,Lib.join_one];omega
 |cons x r=>rw [Kg,Lib.join_cons,Lib.join_cons];simp only [Lib.joinTail,AY,List.flatten_append,bP,yS,eG,List.flatten_cons,List.flatten_nil,fT];omega
def zB(a:Nat)(z:Int×aC):Prop:=aM z.2<=a/\0<=z.1/\z.1<=(a:Int)
theorem zB.mono{a b:Nat}{z:Int×aC}(h:zB a z)(c:a<=b):zB b z:=⟨by have:=h.1;omega,h.2.1,by have:=h.2.2;omega⟩
theorem OB(L:aC)(f:List aC)(g:jU)(a:Nat)(C:aM L<=100000)(B:a<=100000)(r:aM f<=a)(p:γ (cY f [32])<=a)(A:aM g<=a)(l:∀z∈g,zB a z):
  ∃f' o,X2 FU (a:Int) L f g=δ (0,f',o)/\γ f'<=a+1/\γ (cY f' [32])<=a+1+aM L/\γ o<=a+1/\(∀z∈o,zB a z)/\(g≠[]\/(L=[]\/bY (at_ L 0)=η)->o≠[]):=by
 have s:(if L=([]:aC)then δ ζ else(gd (0<=(0:Int)/\(0:Int)<(aM L:Int))<|((mw FU (at_ L (0:Int))).bind λ(i:Bool)=>δ (!i))))=δ (decide (L=[])|| !bY (at_ L 0)):=by
  by_cases k:L=[]
  ·rw [aB k,aK k,mK]
  ·have:aM L≠0:=λe=>k (vJ e);rw [aA k,aU aA0,sq,aX,aL k,dX]
 have q:∃f1 d,(bif (decide (L=[])|| !bY (at_ L 0))then(((if(0:Int)<(aM g:Int)then(gd (acl ((aM g:Int)-(1:Int)))<|(gd (aM f<=1000000000/\γ (cY f ([32]:aC))<=100000000000)<|(gd (0<=((aM g:Int)-(1:Int))/\((aM g:Int)-(1:Int))<(aM g:Int))<|(gd (0<=((aM g:Int)-(1:Int))/\((aM g:Int)-(1:Int))<(aM g:Int))<|some (gQ g (bF ((aM g:Int)-(1:Int))) ((el g ((aM g:Int)-(1:Int))).1,cY f ([32]:aC)))))))else δ g)).bind λ(b:jU)=>(gd ((aM b+γ ([((a:Int),([]:aC))]:jU))*24<=140737488355328)<|(gd (0<=(0:Int)/\(0:Int)<=(aM f:Int))<|some (jV (bF (0:Int)) f,b++([((a:Int),([]:aC))]:jU)))))else δ (f,g))=δ (f1,d)/\γ f1<=a/\γ (cY f1 [32])<=a/\γ d<=a+1/\(∀z∈d,zB a z)/\(g≠[]\/(L=[]\/bY (at_ L 0)=η)->d≠[]):=by
  cases n:(decide (L=[])|| !bY (at_ L 0))with
  |false=>
   refine⟨f,g,rfl,r,p,aA0,l,λh=>h.elim id λh=> ?_⟩;rw [gY,bL]at n;rcases h with h|h
   ·exact absurd h n.1
   ·rw [h]at n;cases n.2
  |true=>
   rw [aQ];by_cases j:(0:Int)<(aM g:Int)
   ·rw [aB j,aU (cZ _ aA0 aA0),aU aA0,aU aA0,aU aA0,aX,aU aA4,aU aA0];refine⟨[],_,rfl,cO _,cO _,by simp;omega,λz c=> ?_,λ_=>by simp⟩;rcases aR.1 c with h|h
    ·rcases List.mem_or_eq_of_mem_set h with h|h
     ·exact l z h
     ·rw [h];exact⟨p,(l _ (Zv g _ aA0 aA0)).2⟩
    ·rw [aE]at h;rw [h];exact⟨cO _,aA0,aA0⟩
   ·rw [aA j,aX,aU aA4,aU aA0];refine⟨[],_,rfl,cO _,cO _,by simp;omega,λz c=> ?_,λ_=>by simp⟩;rcases aR.1 c with h|h
    ·exact l z h
    ·rw [aE]at h;rw [h];exact⟨cO _,aA0,aA0⟩
 obtain⟨f1,d,y,F,E,w,v,u⟩:=q;unfold X2;refine Exists.intro (if Lib.trimS L [32,9]=[]then f1 else f1++[Lib.trimS L [32,9]]) ⟨d, ?_, ?_, ?_,w,v,u⟩
 ·rw [s,aX];refine(aV (λx=>pG x _) y).trans ?_;rw [aX,aU aA0,aU aA1];by_cases m:Lib.trimS L [32,9]=[]
  ·rw [aB m,aB m]
  ·rw [aA m,aA m,aU aA4]
 ·split
  ·omega
  ·rw [bP];simp;omega
 ·have t:=gp [32] f1 (Lib.trimS L [32,9]);have D:=SH L [32,9];rw [show([32]:aC).length=1 from rfl]at t;split<;>omega
theorem OM(T:aC)(O:aM T<=100000):∀(n a o:Nat) (f:List aC) (g:jU),a<=aM T->aM T-a<=n->n<o->aM f<=a->γ (cY f [32])<=a->aM g<=a->(∀z∈g,zB a z)->
  ∃f' j,tm FU T o (a:Int) f g=δ (f',j,0)/\γ f'<=aM T+1/\γ (cY f' [32])<=aM T+1/\γ j<=aM T+1/\(∀z∈j,zB (aM T+1) z)/\(g≠[]\/(a=0/\T≠[]/\bY (at_ T 0)=η)->j≠[])
 |n,a,0,_,_,_,_,h,_,_,_,_=>absurd h (fC _)
 |n,a,o+1,f,g,W,V,U,y,w,x,t=>by
  have k:γ (T.drop a)=aM T-a:=gZ;by_cases v:(a:Int)<(aM T:Int)
  ·have d:a=0/\T≠[]/\bY (at_ T 0)=η->bY (at_ (T.drop a) 0)=η:=λ⟨e,_,S⟩=>by rw [e,WV];exact S
   rcases Lib.index_spec (T.drop a) [13,10]with⟨u,_⟩|⟨i,u,M,K,_⟩
   ·obtain⟨f',j,s,I,H,G,q,p⟩:=OB (T.drop a) f g a aA0 aA0 y w x t;rw [aaz,nj,aB v,aU aA0,iO,aU aA0,u,aB aA0,aU aA0,s,aX,aB rfl];exact⟨f',j,rfl,aA0,aA0,aA0,λz b=>(q z b).mono aA0,λh=>p (h.imp id λh=>.inr (d h))⟩
   ·obtain⟨r,J⟩:=mN _ _ (show fW ((T.drop a).drop i) [13,10]=ζ from K);have Q:=aV aM J;rw [bP,gZ,k,show([13,10]:aC).length=2 from rfl]at Q;have m:sub T (a:Int) ((a:Int)+(i:Int))=(T.drop a).take i:=by unfold sub;rw [iO,show((a:Int)+(i:Int)).toNat-a=i by omega]
    have L:γ ((T.drop a).take i)=i:=aC4;obtain⟨f',j,s,I,H,G,q,p⟩:=OB ((T.drop a).take i) f g a aA0 aA0 y w x t;obtain⟨f2,R,F,E,D,C,B,A⟩:=OM T O (n-2) (a+(i+2)) o f' j aA0 aA0 aA0 aA0 aA0 aA0 (λz b=>(q z b).mono aA0);refine⟨f2,R, ?_,E,D,C,B,λh=>A (.inl (p (h.imp id λh=> ?_)))⟩
    ·rw [aaz,nj,aB v,aU aA0,iO,aU aA0,u,aA aA0,aU (cZ _ aA0 aA0),aU aA0,m,s,aX];dsimp only;rw [aB rfl,aU (cZ _ aA0 aA0),aU (cZ _ aA0 aA0),show((a:Int)+((i:Int)+2))=((a+(i+2):Nat):Int)by omega];exact F
    ·have P:=d h;cases i with
     |zero=>exact .inl rfl
     |succ i=>
      refine .inr ?_;rw [<-P];congr 1;cases N:T.drop a with
      |nil=>rw [N]at k;simp at k;omega
      |cons c l=>rfl
  ·rw [aaz,nj,aA v];refine⟨f,g,rfl,aA0,aA0,aA0,λz b=>(t z b).mono aA0,λh=>h.elim id λh=> ?_⟩;exact absurd (vJ aA0) h.2.1
theorem bg(s:aC)(d:aM s<=100000):∃r,amu FU s=δ r/\(0<=r.2.1/\r.2.1<=200000)/\γ r.1<=200000/\∀z∈r.1,zB 200000 z:=by
 unfold amu;by_cases b:s=[]
 ·rw [aB b];exact⟨_,rfl,⟨by dsimp only;omega,by dsimp only;omega⟩,cO _,λz a=>(nomatch a)⟩
 ·have t:aM s≠0:=λe=>b (vJ e);rw [aA b,aU aA0,sq,aX];cases n:bY (at_ s 0)with
  |true=>exact⟨_,rfl,⟨by dsimp only;omega,by dsimp only;omega⟩,cO _,λz a=>(nomatch a)⟩
  |false=>
   obtain⟨q,l,k,j⟩:=cg s d;rw [aH,l,aX];cases q.2 with
   |true=>exact⟨_,rfl,⟨by dsimp only;omega,by dsimp only;omega⟩,cO _,λz a=>(nomatch a)⟩
   |false=>
    rw [aH,JH s aA0,aX];cases xR s with
    |false=>exact⟨_,rfl,⟨by dsimp only;omega,by dsimp only;omega⟩,cO _,λz a=>(nomatch a)⟩
    |true=>
     obtain⟨f,g,p,x,w,v,i,o⟩:=OM s d (γ s) 0 FU [] [] aA0 aA0 aA6 (cO _) (cO _) (cO _) (λz a=>(nomatch a));have c:tm FU s FU (0:Int) [] []=δ (f,g,0):=p;have u:aM g≠0:=λe=>o (.inr ⟨rfl,b,n⟩) (vJ e);have m:apv FU s=δ s:=by kernel_rfl
     unfold acv;rw [iN,aH,m,aX,c,aX];dsimp only;rw [aB rfl,aU (cZ _ aA0 aA0),aU aA0,aU aA0,aU aA0];refine⟨_,rfl,⟨fO _,by dsimp only;omega⟩,by simp;omega,λz a=> ?_⟩;rcases List.mem_or_eq_of_mem_set a with h|h
     ·exact(i z h).mono aA0
     ·rw [h];exact⟨by dsimp only;omega,((i _ (Zv g _ aA0 aA0)).mono (by omega:aM s+1<=200000)).2⟩
theorem C5(s:aC)(m:aM s<=90000):∃r,aij FU s=δ r/\(0<=r.2.1/\r.2.1<=200000):=by
 have a:(0:Int)<=0/\(0:Int)<=200000:=⟨fO _,aA1⟩;have n:=Bu s [13,10,13,10];unfold aij;cases fW s [13,10]with
 |true=>exact⟨_,rfl,a⟩
 |false=>
  rw [aH,aU aA0];cases(eD s [13,10,13,10]).2.2 with
  |false=>exact⟨_,rfl,a⟩
  |true=>
   have e:γ ((eD s [13,10,13,10]).1++[13,10])<=100000:=by rw [bP];simp;omega
   obtain⟨u,k,i,o,h⟩:=bg _ e;rw [iN,aH,aU aB4,k,aX];by_cases c:u.2.2=0
   ·obtain⟨j,g,f⟩:=db u aA0 (λz d=>h z d) u.1 [] FU [] rfl aA6 (cO _);have b:ti FU u FU (0:Int) []=δ j:=g;rw [aB c,b,aX];cases j with
    |inl l=>exact⟨_,rfl,a⟩
    |inr q=>exact⟨_,rfl,f q rfl⟩
   ·rw [aA c];exact⟨_,rfl,i⟩
theorem NC(T y:aC)(q:aM T<=8192)(m:aM y<=70):∀(n c:Nat) (l:PL) (a e:Nat) (b:Bool),8-aM l<=n->n+1<c->aM l<=8->e<=aM T->∃r,mu FU T y c l (a:Int) (e:Int) b=δ r
 |n,0,_,_,_,_,_,h,_,_=>absurd h (fC _)
 |n,c+1,l,a,e,b,x,w,v,s=>by
  rw [anh,ail];cases b with
  |true=>exact⟨_,rfl⟩
  |false=>
   rw [yX,aQ];by_cases g:(aM l:Int)=8
   ·rw [aB g];exact⟨_,rfl⟩
   ·obtain⟨d,d1,d2⟩:=OS T y aA0 aA0 e s;rw [aA g,d1,aX];cases o:d.2 with
    |false=>exact⟨_,rfl⟩
    |true=>
     obtain⟨j,t,d3,d4,d5,d6⟩:=d2 o;rw [iN,aH,d3,d4,aU ⟨aA0,aA0⟩,aU aA0];have f:γ (sub T (e:Int) (max ((j:Int)-2) (e:Int)))<=90000:=by unfold sub;rw [kX,gZ];omega
     obtain⟨p,k,u⟩:=C5 _ f;rw [k,aX];by_cases i:p.2.2=0
     ·rw [aB i,aU aA0];exact NC T y q m (n-1) c (l++[p.1]) j t _ aA4 aA0 aA4 d6
     ·rw [aA i,aU (cZ _ aA0 aA0)];exact⟨_,rfl⟩
theorem A4(b:List UInt8)(y:aC)(l:aM b<=20000)(f:aM y<=9223372036854775807):∃r,mh FU b y=δ r:=by
 unfold mh;rw [LJ y f,aX];cases c:(eP y&&decide (aM y<=70))with
 |false=>exact⟨_,rfl⟩
 |true=>
  rw [hO,bD]at c;rw [iN,aH];by_cases e:(8192:Int)<(aM b:Int)
  ·rw [aB e];exact⟨_,rfl⟩
  ·obtain⟨d,d1,d2⟩:=OS b y aA0 aA0 0 (cO _);have a:X5 FU b (0:Int) y=δ d:=d1;rw [aA e,a,aX];cases h:d.2 with
   |false=>exact⟨_,rfl⟩
   |true=>
    obtain⟨k,i,d3,d4,d5,d6⟩:=d2 h;rw [iN,aH];cases d.1.2.2 with
    |true=>exact⟨_,rfl⟩
    |false=>obtain⟨j,g⟩:=NC b y aA0 c.2 8 FU [] k i η aA2 aA6 (cO _) d6;rw [aH,d3,d4,g,aX];cases j<;>exact⟨_,rfl⟩
open Go.Lib renaming decDigits → kY, hasPrefix → fW
theorem vg(s:List PP)(l:aM s<=100000)(q:List PP):∀p a,s=p++q->aM q<a->
  ∃j,abn FU s a (γ p)=δ j/\∀i,j=.inr i->0<=i/\i<aM s:=by
 induction q with
 |nil=>intro p a h f;obtain⟨a,rfl⟩:=cS a;rw [aft,aci,aA aA5];exact⟨_,rfl,λi e=>(nomatch e)⟩
 |cons x q g=>
  intro p a h f;obtain⟨a,rfl⟩:=cS a;have d:=aV aM h;simp at d f;have b:(0:Int)<=(aM p:Int)/\(aM p:Int)<(aM s:Int):=aA0;have k:((aM p:Int)+1)=(γ (p++[x]):Int):=aA2;rw [aft,aci,aB b.2,aU b,aU b,avc];generalize decide ((el s (aM p:Int)).1=([98,111,117,110,100,97,114,121]:aC))=c;cases c with
  |true=>exact⟨_,rfl,λi e=>by cases e;exact b⟩
  |false=>rw [aU (cZ _ bJ bJ),k];exact g _ a aA5 bJ
theorem ib(v:aC)(b:aM v<=4194304):∀p∈(jS v).1.2,aM p.2.1<=90000000:=by
 have c:=IF v;intro p a;unfold jS at a;split at a
 ·cases a
 ·split at a
  ·exact(avz _ aB7 p a).2.2
  ·cases a
theorem bz(p:PU)(e:aM p.1<=1000)(k:∀h∈p.1,uS h)(d:∀h,p.1.find? lW=δ h->aM h.2<=4194304)(g:γ (WX (p.1.find? lW)).2<=1000)(f:∀q∈(WX (p.1.find? lW)).2,aM q.2.1<=90000000):XN FU p=δ ([],η)\/∃y:aC,aM y<=90000000/\XN FU p=δ (y,ζ):=by
 unfold XN;rw [ZN p e k d,aX,Ym,aX];generalize fW _ _=c;cases c with
 |false=>exact .inl rfl
 |true=>
  obtain⟨j,m,l⟩:=vg _ (lE g aA1) (WX (p.1.find? lW)).2 [] FU rfl aA6;have b:abn FU (WX (p.1.find? lW)).2 FU (0:Int)=δ j:=m;unfold abz;rw [iN,aH,b];cases j with
  |inl u=>exact .inl rfl
  |inr i=>have a:=l i rfl;refine .inr ⟨(el (WX (p.1.find? lW)).2 i).2.1,f _ (Zv _ i a.1 a.2), ?_⟩;show pG (δ i) _=_;rw [aX,aA bJ,aU a,aU a]
theorem bk_lp(s q:cD)(g:aM s<=1000):∀p a,s=p++q->aM q<a->afp FU s s a (γ p)=δ (.inl ()):=by
 induction q with
 |nil=>intro p a h d;obtain⟨a,rfl⟩:=cS a;rw [aob,ahk,aA aA5]
 |cons x q e=>intro p a h d;obtain⟨a,rfl⟩:=cS a;have c:=aV aM h;simp at c d;have b:0<=(aM p:Int)/\(aM p:Int)<(aM s:Int):=aA0;have f:((aM p:Int)+1)=(γ (p++[x]):Int):=aA2;rw [aob,ahk,aB b.2,aU b,aU b,aU b,aU b,aB rfl,aU (cZ _ bJ bJ),f];exact e _ a aA5 bJ
theorem sg(h:aC×aC)(a:lW h=ζ):qX h=ζ:=by unfold lW at a;rw [hO,bD,bD]at a;rw [QT,a.2];rfl
theorem Zc(m:qM)(E:cD):(kK m++E).find? lW=E.find? lW:=by
 rw [List.find?_append,List.find?_eq_none.2]
 ·rfl
 ·intro h a b;have:=(pC.1 a).2;rw [sg h b]at this;cases this
theorem gh(m:qM)(E:cD)(b:∀h∈E,qX h=ζ):(kK m++E).filter (λh=> !qX h)=kK m:=by rw [jP,show E.filter (λh=> !qX h)=[]from List.filter_eq_nil_iff.2 (λh a=>by rw [b h a];simp),fI];exact Hy.2 λh a=>(pC.1 a).2
theorem kp_of(m:qM)(E:cD)(b:∀h∈E,qX h=ζ/\¬(eQ h.1).1=kj):(kK m++E).filter eo=E:=by
 rw [jP,List.filter_eq_nil_iff.2]
 ·exact Hy.2 λh a=>by unfold eo;rw [(b h a).1,aL (b h a).2];rfl
 ·intro h a;have:=(pC.1 a).2;unfold eo;rw [dT]at this;rw [this];simp
theorem pc:fW (WX ε).1 mpN=η:=by kernel_rfl
theorem ctN_p:eQ Pg=(Pg,0):=by have h:=Vx;exact aJ h
theorem bb_of (m : qM) (l : PL) (a9 : γ (kK m) <= 100) (i : ∀ h ∈ kK m, uS h) (L : ∀ x ∈ l, ∀ h ∈ x.1, γ h.1 <= 4194304) (hs : ∀ x ∈ l, γ x.2 <= 20000) (v : PL) (K : fQ zZ l = δ v) (J : qM)
    (hc : (v = [] /\ J = rN m (kK m) []) \/ (∃ x, v = [x] /\ (∀ h ∈ x.1, qX h = ζ /\ ¬ (eQ h.1).1 = kj) /\ J = rN m (kK m ++ x.1) x.2) \/
     ∃ k : Nat, k <= 8000000000 /\ (2 <= γ v /\ γ v <= 8) /\ eP (98 :: kY k) = ζ /\ γ (98 :: kY k) <= 70 /\ (∀ x ∈ v, NrP (98 :: kY k) x) /\ γ (Rr (98 :: kY k) [] v) <= 8192 /\
       J = rN m (kK m ++ [(Pg, OW ++ 98 :: kY k)]) (Rr (98 :: kY k) [] v)) :
    ∃ (E : cD) (b : List UInt8) (o : PL × UInt8), J = rN m (kK m ++ E) b /\ γ E <= 100 /\ (∀ h ∈ E, qX h = ζ /\ uS h) /\ mb FU (rN m (kK m ++ E) b) = δ o /\
      ((aM l = 1 /\ sy FU (el l 0) = δ η) \/ (o.2 = 0 /\ atz FU o.1 l = δ ζ /\ (aM l = 1 -> sy FU (el l 0) = δ ζ))) := by
  obtain ⟨Q, Z⟩ := RG _ _ _ K;rcases hc with ⟨rfl, D⟩ | ⟨x, rfl, hx, D⟩ | ⟨k, k1, T, S, R, k5, k6, D⟩
  · have O : l = [] := vJ (by simpa using Q.symm);refine ⟨[], [], ([], 0), by rw [D, fI], by simp, λh a => (nomatch a), ?_, .inr ⟨rfl, B2 [] l aA2 L K, λe => by rw [O] at e; cases e⟩⟩;have f : (kK m).find? lW = ε := by have := Zc m []; rwa [fI] at this
    rw [fI];have n := pd (kK m, []) (by dsimp only; omega) i (λh e => by rw [show List.find? lW (kK m) = δ h from e] at f; cases f) (by dsimp only; rw [f]; exact pc);have s := Mp (rN m (kK m) []) (by show γ (kK m) <= 1000; omega) i (cO _) n;rw [s, show (rN m (kK m) []).2.2.2.2.1 = kK m from rfl, f];rfl
  · obtain ⟨p, rfl⟩ : ∃ p, l = [p] := List.length_eq_one_iff.1 Q.symm;have G : zZ p = δ x := by obtain ⟨z, U, e⟩ := Z x fE;rw [aE] at U; rw [<- U]; exact e
    obtain ⟨j1, j2, j3⟩ := sQ p x G;obtain ⟨_, j5⟩ := RG _ _ _ j2;have F : ∀ h ∈ x.1, Wv h := λh a => by obtain ⟨w, _, ew⟩ := j5 h a; exact Bh w h ew
    have u : ∀ h ∈ x.1, uS h := λh a => by have := (F h a).cm.1; unfold uS; omega
    have a7 := j3.1;have P : γ x.2 <= 20000 := by rw [j1]; exact hs p fE
    have c : γ (kK m ++ x.1) <= 1000 := by rw [bP]; omega
    have g : ∀ h ∈ kK m ++ x.1, uS h := λh a => (aR.1 a).elim (i h) (u h);have f := Zc m x.1;have d : ∀ h, (kK m ++ x.1).find? lW = δ h -> h ∈ x.1 /\ lW h = ζ := λh e => by rw [f] at e; exact ⟨mU e, RR e⟩
    have A : ∀ h, (kK m ++ x.1).find? lW = δ h -> γ h.2 <= 4194304 := λh e => by have := (F h (d h e).1).cm.2; omega
    have B := B2 [x] [p] aA2 L K;obtain ⟨b, Y, X⟩ := wx p x (λh a => L p fE h a) G;have H : sy FU (el [p] 0) = δ b := Y;cases b with
    | false =>
      have N : ∃ o, mb FU (rN m (kK m ++ x.1) x.2) = δ o := by
        rcases bz (kK m ++ x.1, x.2) c g A (by
          dsimp only;cases (kK m ++ x.1).find? lW with
          | none => exact cO _
          | some h =>
            have := Fc h.2;show γ (if (jS h.2).2 = 0 then ((jS h.2).1.1.map gB, (jS h.2).1.2) else (txN, [])).2 <= 1000;split
            · exact lE this aA1
            · exact cO _) (by
          dsimp only;cases j : (kK m ++ x.1).find? lW with
          | none => intro q M; cases M
          | some h =>
            show ∀ q ∈ (if (jS h.2).2 = 0 then ((jS h.2).1.1.map gB, (jS h.2).1.2) else (txN, [])).2, γ q.2.1 <= 90000000;split
            · exact ib h.2 (A h j)
            · intro q M; cases M) with n | ⟨y, a6, n⟩
        · exact ⟨_, Mp (rN m (kK m ++ x.1) x.2) c g (by show γ x.2 <= 1000000; omega) n⟩
        · obtain ⟨r, s⟩ := A4 x.2 y P bJ;exact ⟨_, DS (rN m (kK m ++ x.1) x.2) y r n s⟩
      obtain ⟨o, N⟩ := N;exact ⟨x.1, x.2, o, D, by omega, λh a => ⟨(hx h a).1, u h a⟩, N, .inl ⟨rfl, H⟩⟩
    | true =>
      obtain ⟨t, W⟩ := X rfl;have n := pd (kK m ++ x.1, x.2) c g A (by
        dsimp only;cases j : (kK m ++ x.1).find? lW with
        | none => exact pc
        | some h =>obtain ⟨g1, g2⟩ := W h (d h j).1 (d h j).2;show fW (if (jS h.2).2 = 0 then ((jS h.2).1.1.map gB, (jS h.2).1.2) else (txN, [])).1 mpN = η;rw [aB g1]; exact g2)
      have s := Mp (rN m (kK m ++ x.1) x.2) c g (by show γ x.2 <= 1000000; omega) n;have C : (((kK m ++ x.1).find? lW).isNone && decide (x.2 = [])) = η := by
        rw [f];rcases t with t | t
        · cases a : x.1.find? lW with
          | none => rw [a] at t; cases t
          | some _ => rfl
        · rw [aL (λe => by rw [e] at t; cases t), Qw]
      rw [show (rN m (kK m ++ x.1) x.2).2.2.2.2.1 = kK m ++ x.1 from rfl, show (rN m (kK m ++ x.1) x.2).2.2.2.2.2 = x.2 from rfl, C, aH, kp_of m x.1 hx] at s;exact ⟨x.1, x.2, _, D, by omega, λh a => ⟨(hx h a).1, u h a⟩, s, .inr ⟨rfl, B, λ_ => H⟩⟩
  · have I : lW (Pg, OW ++ 98 :: kY k) = ζ := by unfold lW; dsimp only; rw [ctN_p]; rfl
    have f : (kK m ++ [(Pg, OW ++ 98 :: kY k)]).find? lW = δ (Pg, OW ++ 98 :: kY k) := by rw [Zc, RS, I]
    have V : ∀ h ∈ [(Pg, OW ++ 98 :: kY k)], qX h = ζ /\ uS h := λh a => by rw [aE] at a; rw [a]; exact ⟨sg _ I, by show γ Pg <= 4194304; decide⟩
    have n := vf (kK m ++ [(Pg, OW ++ 98 :: kY k)], Rr (98 :: kY k) [] v) (by simp; omega) (λh a => (aR.1 a).elim (i h) λa => (V h a).2) (λh e => by
      rw [show List.find? lW (kK m ++ [(Pg, OW ++ 98 :: kY k)]) = δ h from e] at f;cases f;show γ (OW ++ 98 :: kY k) <= _;rw [bP, show γ OW = 25 from rfl]; omega) (98 :: kY k) (by
      dsimp only;rw [f];unfold WX;dsimp only;rw [fc _ S R, aB rfl];rfl)
    have s := DS (rN m (kK m ++ [(Pg, OW ++ 98 :: kY k)]) (Rr (98 :: kY k) [] v)) (98 :: kY k) (v, 0, 0) n (sp_eq _ [] S R v ⟨aA0, T.2⟩ k5 k6);exact ⟨_, _, _, D, by simp, V, s, .inr ⟨rfl, B2 v l T.2 L K, λe => by omega⟩⟩
theorem Dz(m:qM)(l:PL)(c:∀h∈m.2.2.2.2.1,uS h)(s:∀x∈l,∀h∈x.1,aM h.1<=4194304):aqu FU m l=δ ζ:=by
 unfold aqu;by_cases a:100<(aM m.2.2.2.2.1:Int)
 ·rw [aB a,Ht];rfl
 obtain⟨b,n,C⟩:=ze l;rw [aA a,n,aX,aX,Ht];cases b with
 |false=>rfl
 |true=>
  obtain⟨B,q⟩:=C rfl;obtain⟨r,w,u⟩:=put_eq m l bJ c s λx hx=>(q x hx).2;rw [iN,aH,w,aX];have j:γ (kK m)<=100:=lE (WT _ _) bJ;have f:∀h∈kK m,uS h:=λh d=>c h (pC.1 d).1;rcases u with⟨J,I⟩|⟨K,v,y,z⟩
  ·rw [aA I,J];rfl
  ·rw [aB K];obtain⟨E,b,o,H,A,i,G,F⟩:=bb_of m l j f s (λx hx=>(q x hx).2) v y r.1 z;have e:=px (kK m++E) aC1 (λh d=>(aR.1 d).elim (f h) λd=>(i h d).2);rw [gh m E λh d=>(i h d).1]at e;have k:=bk_lp (kK m) (kK m) bJ [] FU rfl aA6;have g:afp FU _ _ FU 0=δ _:=k;rw [H,G,px _ bJ c];refine(aV (λx=>pG x _) e).trans ?_;refine(aV (λx=>pG x _) ((aB rfl).trans ((aB rfl).trans ((aB rfl).trans (aB rfl))))).trans ?_;rw [show m.2.2.2.2.1.filter (λh=> !qX h)=kK m from rfl,aK rfl,aX,g,aX];rcases F with⟨t,p⟩|⟨t,p,D⟩
   ·rw [aB bJ,aU bJ,aU bJ,p];rfl
   ·rw [aB t,p];by_cases n:aM l=1
    ·rw [aB bJ,aU bJ,aU bJ,D n];rfl
    ·rw [aA bJ];rfl
end Go.Wk
