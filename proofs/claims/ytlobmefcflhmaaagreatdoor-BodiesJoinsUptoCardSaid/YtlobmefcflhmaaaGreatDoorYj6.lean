/-
  The law BodiesJoins holds (part 6 of 9).
-/
import Derived.Test.YtlobmefcflhmaaaGreatDoorYj5
import Derived.Lib.IndexMore
open Bool renaming false → ν, true → μ
open List renaming length → γ
open Option renaming none → ι, some → θ
set_option linter.unusedVariables false
set_option linter.unusedSimpArgs false
set_option maxRecDepth 100000
namespace Go.Wk
open Go.Px
open Go.Lib renaming hasPrefix → oI, index → cE
open Int renaming toNat → bH
open List renaming length → aL, replicate → iZ, set → kZ
abbrev PU:=mA×δ ζ
def iQ{d c:Type}(f:d->ε c):δ d->ε (δ c)
 |[]=>θ []
 |a::l=>(f a).bind λb=>(iQ f l).map (b::·)
theorem uI{g d:Type}(f:g->ε d):∀l m,iQ f l=θ m->aL m=aL l/\∀y∈m,∃x∈l,f x=θ y
 |[],m,h=>by cases h;exact⟨rfl,λy c=>by cases c⟩
 |a::l,m,h=>by
  rw[iQ,Option.bind_eq_some_iff]at h;obtain⟨b,p,o⟩:=h;obtain⟨n,k,rfl⟩:=bR.1 o;obtain⟨j,i⟩:=uI f l n k;refine⟨by simp[j],λy c=> ?_⟩;rcases aQ.1 c with rfl|c
  ·exact⟨a,gK,p⟩
  ·obtain⟨x,hx,e⟩:=i y c;exact⟨x,eU _ hx,e⟩
theorem uU(s:aC)(h:(iC s).2=0):γ (iC s).1<=64:=by
 have e:=pK s h;by_cases a:64<γ (iC s).1
 ·have b:iC (iC s).1=([],5):=by rw[iC,aB (Or.inr a)]
  rw[b]at e;exact absurd (bF Prod.snd e) (show¬(5=0)by decide)
 ·omega
def yc(nm v:aC):ε (aC×aC):=if γ v<=1024/\(mU nm v).2=0/\γ (mU nm v).1<=1024 then θ (nm,(mU nm v).1)else ι
def LM(h:aC×aC):ε (aC×aC):=if(iC h.1).2=0 then yc (iC h.1).1 h.2 else ι
def JC(x:PU):ε PU:=if γ x.1<=64 then(iQ LM x.1).map (·,x.2)else ι
theorem ye(nm v:aC)(c:aL nm<=4194304):∃r,ajd FU nm v=θ r/\((r.2=0/\yc nm v=θ r.1)\/(¬r.2=0/\yc nm v=ι)):=by
 unfold ajd yc;by_cases h:1024<(aL v:Int)
 ·rw[aB h,aA aA0];exact⟨_,rfl,.inr ⟨aA1,rfl⟩⟩
 ·rw[aA h,R5 nm v c aA0,aR];by_cases a:(mU nm v).2=0
  ·rw[aB a];by_cases b:1024<(γ (mU nm v).1:Int)
   ·rw[aB b,aA aA0];exact⟨_,rfl,.inr ⟨aA1,rfl⟩⟩
   ·rw[aA b,aB ⟨aA0,a,aA0⟩];exact⟨_,rfl,.inl ⟨rfl,rfl⟩⟩
  ·rw[aA a,aA (λh=>a h.2.1)];exact⟨_,rfl,.inr ⟨a,rfl⟩⟩
def tdJ(a:mA):ε mA->mA⊕(PU×η)
 |some l=>.inl (a++l)
 |none=>.inr (([],[]),ν)
theorem du(d:PU)(y:aL d.1<=64)(s:∀h∈d.1,aL h.1<=4194304)(q:mA):∀p c b,d.1=p++q->aL q<c->aL b<=aL p->
  amb FU d c (γ p) b=θ (tdJ b (iQ LM q)):=by
 induction q with
 |nil=>intro p c b h l v;obtain⟨c,rfl⟩:=bV c;rw[bdn,api,aA aA6];simp[iQ,tdJ]
 |cons a q n=>
  intro p c b h l v;obtain⟨c,rfl⟩:=bV c;have g:=bF aL h;simp at g l;have i:0<=(aL p:Int)/\(aL p:Int)<(aL d.1:Int):=aA0;have u:el d.1 (aL p:Int)=a:=aA9;have t:((aL p:Int)+1)=(γ (p++[a]):Int):=aA3;have o:=s a aA6;rw[bdn,api,aB i.2,aS i,aS i,u,HZ _ aA0,aR,iQ];by_cases f:(iC a.1).2=0
  ·obtain⟨r,x,w⟩:=ye (iC a.1).1 a.2 (by have:=uU _ f;omega);have e:LM a=yc (iC a.1).1 a.2:=aB f;rw[aB f,x,aR];rcases w with⟨k,j⟩|⟨k,j⟩
   ·rw[aB k,aS aA2,aS (cA _ aA0 aA0),t,n _ c _ aA6 aA0 aA2,e,j];cases iQ LM q with
    |none=>rfl
    |some m=>simp[tdJ]
   ·rw[aA k,e,j];rfl
  ·have e:LM a=ι:=aA f;rw[aA f,e];rfl
def tdR:ε PU->PU×η
 |some q=>(q,μ)
 |none=>(([],[]),ν)
theorem vr(a:PU)(c:∀h∈a.1,aL h.1<=4194304)(e:aL a.2<=1000000):avi FU a=θ (tdR (JC a)):=by
 unfold avi JC;by_cases h:64<(aL a.1:Int)
 ·rw[aB h,aA aA0];rfl
 ·have d:=du a aA0 c a.1 [] FU [] rfl aA4 aA3;have b:amb FU a FU 0 []=θ _:=d;rw[aA h,aS aA0,b,aB aA0];cases iQ LM a.1 with
  |none=>rfl
  |some m=>rfl
def jnJ(a:PL):ε PL->PL⊕(δ ζ×ζ)
 |some l=>.inl (a++l)
 |none=>.inr ([],2)
theorem jv(parts:PL)(u:aL parts<=8)(n:∀x∈parts,(∀h∈x.1,aL h.1<=4194304)/\γ x.2<=1000000)(q:PL):∀p c b,parts=p++q->aL q<b->aL c=aL p->
  aii FU parts b (c++iZ (γ q) ([],[])) (γ p)=θ (jnJ c (iQ JC q)):=by
 induction q with
 |nil=>intro p c b h j g;obtain⟨b,rfl⟩:=bV b;rw[azh,aob,aA aA6];simp[iQ,jnJ]
 |cons a q l=>
  intro p c b h j g;obtain⟨b,rfl⟩:=bV b;have f:=bF aL h;simp at f j;have i:0<=(aL p:Int)/\(aL p:Int)<(aL parts:Int):=aA0;have s:el parts (aL p:Int)=a:=aA9;have o:((aL p:Int)+1)=(γ (p++[a]):Int):=aA3;have k:=n a aA6;rw[azh,aob,aB i.2,aS i,aS i,s,vr a k.1 k.2,iQ];cases t:JC a with
  |none=>rfl
  |some r=>
   have e:0<=(aL p:Int)/\(aL p:Int)<(γ (c++iZ (γ (a::q)) (([],[]):PU)):Int):=aA2;have d:kZ (c++iZ (γ (a::q)) (([],[]):PU)) (bH (aL p:Int)) r=(c++[r])++iZ (γ q) ([],[]):=by rw[<-g,cN,List.replicate_succ];simp
   show gd _ (gd _ (gd _ _))=_;rw[aS e,aS e,aS (cA _ aA0 aA0)];show aii FU parts b (kZ _ _ r) _=_;rw[d,o,l (p++[a]) (c++[r]) b aA6 aA0 (by simp[g])];cases iQ JC q with
   |none=>rfl
   |some m=>simp[jnJ]
theorem xr(s p:aC):alp FU s p=θ (oI s p):=by
 unfold alp adi;cases h:oI s p with
 |true=>obtain⟨r,rfl⟩:=gm _ _ h;rw[aB aC9,aS ⟨aA0,by rw[cG];omega⟩,lB,fJ,aD rfl];rfl
 |false=>
  by_cases a:aL p<=(aL s:Int)
  ·rw[aB a,aS aA0,lB,aE]
   ·rfl
   ·intro e;have:=NO (γ p) s;rw[e]at this;rw[<-this,gk]at h;cases h
  ·rw[aA a];rfl
theorem zg(s p:aC):alf FU s p=θ (oI s p):=by
 have h:=xr s p;have e:alf FU s p=adi FU s p:=rfl;unfold alp at h;rw[e];cases hx:adi FU s p with
 |none=>rw[hx]at h;cases h
 |some b=>rw[hx]at h;exact h
def Tk(y body:aC):η:=oI body (Jr y)|| !decide (cE body (13::10::Jr y)= -1)
theorem ju(y:aC)(o:aL y<=70)(v:PL)(r:aL v<=8)(n:∀x∈v,aL x.2<=1000000)(q:PL):∀p b,v=p++q->aL q<b->
  aih FU y v b (γ p)=θ (if q.any (λx=>Tk y x.2)=μ then .inr ([],7)else .inl ()):=by
 induction q with
 |nil=>intro p b h i;obtain⟨b,rfl⟩:=bV b;rw[azg,aoa,aA aA6];rfl
 |cons a q j=>
  intro p b h i;obtain⟨b,rfl⟩:=bV b;have g:=bF aL h;simp at g i;have c:(0:Int)<=(aL p:Int)/\(aL p:Int)<(aL v:Int):=aA0;have l:el v (aL p:Int)=a:=aA9;have s:=n a aA6;have k:((aL p:Int)+1)=(γ (p++[a]):Int):=aA3
  have m:((alf FU a.2 (([45,45]:aC)++y)).bind λ(f:η)=>(bif f then θ μ else(gd (0<γ (([45,45]:aC)++y)/\(γ ([(13:ζ),(10:ζ)]:δ ζ)+γ (([45,45]:aC)++y))*1<=140737488355328)<|((asp FU a.2 (([(13:ζ),(10:ζ)]:δ ζ)++(([45,45]:aC)++y))).bind λ(d:η)=>θ d))))=θ (Tk y a.2):=by
   rw[zg];have e:([45,45]:aC)++y=Jr y:=rfl;unfold Tk;rw[e];cases oI a.2 (Jr y)with
   |true=>rfl
   |false=>rw[aS (by unfold Jr;simp;omega)];unfold asp;rw[aS (by unfold Jr;simp;omega)];rfl
  rw[azg,aoa,aB c.2,aS c,aS c,l,m,Tx];cases Tk y a.2 with
  |true=>rfl
  |false=>rw[aS (cA _ aA0 aA0),k,j _ b aA6 aA0];rfl
theorem AU(h:aC×aC)(a:mA):ar (h::a)=(((h.1++[58,32])++h.2)++[13,10])++ar a:=by unfold ar jZ;simp
def M1(h:aC×aC):Prop:=aL h.1<=64/\γ h.2<=1024
theorem Jw:∀a:mA,(∀h∈a,M1 h)->γ (ar a)<=aL a*1100
 |[],_=>cW _
 |h::a,b=>by have:=Jw a (λx hx=>b x (eU _ hx));obtain⟨d,c⟩:=b h gK;rw[AU];simp;omega
theorem js(v:PL)(X:Int)(e:mA)(j:(el v X).1=e)(t:aL e<=64)(l:∀h∈e,M1 h)(q:mA):∀p c b,e=p++q->aL q<c->aL b<=10000+aL p*1100->
  alh FU v X c b (γ p)=θ (b++ar q):=by
 induction q with
 |nil=>intro p c b h i n;obtain⟨c,rfl⟩:=bV c;rw[aze,anx,j,aA aA6];simp[ar]
 |cons a q k=>intro p c b h i n;obtain⟨c,rfl⟩:=bV c;have f:=bF aL h;simp at f i;have d:0<=(aL p:Int)/\(aL p:Int)<(aL e:Int):=aA0;have g:el e (aL p:Int)=a:=aA9;have m:((aL p:Int)+1)=(γ (p++[a]):Int):=aA3;obtain⟨s,r⟩:=l a aA6;have o:=k (p++[a]) c (b++(((a.1++[58,32])++a.2)++[13,10])) aA6 aA0 aA2;rw[aze,anx,j,aB d.2,aS d,aS d,g,aS aA2,aS aA2,aS aA2,aS aA2,aS (cA _ aA0 aA0),m,o,AU,gZ]
def EO(y:aC)(x:PU):aC:=Jr y++13::10::(ar x.1++13::10::(x.2++[13,10]))
def rk(y:aC)(v:PL):aC:=v.flatMap (EO y)++(Jr y++[45,45,13,10])
def okU(x:PU):Prop:=aL x.1<=64/\∀h∈x.1,M1 h
theorem jt(y:aC)(B:aL y<=70)(v:PL)(C:aL v<=8)(t:∀x∈v,aL x.2<=1000000)(r:∀x∈v,okU x)(q:PL):∀p c b,v=p++q->aL q<c->aL b<=8192->
  ali FU y v c b (γ p)=θ (if 8192<γ (b++q.flatMap (EO y)) then .inr ([],4)else .inl (b++q.flatMap (EO y))):=by
 induction q with
 |nil=>intro p c b h j f;obtain⟨c,rfl⟩:=bV c;rw[azf,anz,aA aA6,List.flatMap_nil,gD,aA aA0]
 |cons a q o=>
  intro p c b h j f;obtain⟨c,rfl⟩:=bV c;have e:=bF aL h;simp at e j;have d:(0:Int)<=(aL p:Int)/\(aL p:Int)<(aL v:Int):=aA0;have k:el v (aL p:Int)=a:=aA9;have l:a∈v:=aA6;have s:((aL p:Int)+1)=(γ (p++[a]):Int):=aA3;have u:=t a l;obtain⟨n,i⟩:=r a l;have A:=Jw a.1 i;have w:=js v (aL p:Int) a.1 (by rw[k]) n i a.1 [] FU (b++(([45,45]++y)++[13,10])) rfl aA4 aA2;have g:alh FU v (aL p:Int) FU (b++(([45,45]++y)++[13,10])) (0:Int)=θ ((b++(([45,45]++y)++[13,10]))++ar a.1):=w;have z:((((b++(([45,45]++y)++[13,10]))++ar a.1)++([13,10]:aC))++a.2)++([13,10]:aC)=b++EO y a:=by unfold EO Jr;simp
  have eq:b++(a::q).flatMap (EO y)=(b++EO y a)++q.flatMap (EO y):=by rw[Kh,gZ]
  rw[azf,anz,aB d.2,aS d,aS d,aS aA2,aS aA2,aS aA2,g,aR,aS aA2,k,aS aA2,aS aA2,z,eq];by_cases m:(8192:Int)<(γ (b++EO y a):Int)
  ·rw[aB m,aB aC9];rfl
  ·rw[aA m];show gd _ _=_;rw[aS (cA _ aA0 aA0),s,o _ c _ aA6 aA0 aA0]
theorem bdN_eq(y:aC)(a:aL y<=9223372036854775807):aqq FU y=θ (iH y&&decide (aL y<=70)):=by
 unfold aqq;rw[te y a];cases iH y with
 |true=>simp;omega
 |false=>rfl
theorem zi(h r:aC×aC)(e:LM h=θ r):M1 r/\(iC h.1).2=0/\r.1=(iC h.1).1/\(mU r.1 h.2).2=0/\r.2=(mU r.1 h.2).1/\γ h.2<=1024:=by
 unfold LM yc at e;split at e
 ·rename_i b;split at e
  ·rename_i a;obtain rfl:=aP e;exact⟨⟨uU _ b,a.2.2⟩,b,rfl,a.2.1,rfl,a.1⟩
  ·cases e
 ·cases e
theorem Zk(x r:PU)(e:JC x=θ r):r.2=x.2/\iQ LM x.1=θ r.1/\okU r:=by
 unfold JC at e;split at e
 ·rename_i f;obtain⟨m,a,rfl⟩:=bR.1 e;obtain⟨g,d⟩:=uI _ _ _ a;refine⟨rfl,a,by dsimp only;omega,λh c=> ?_⟩;obtain⟨z,_,b⟩:=d h c;exact(zi z h b).1
 ·cases e
def jnP (l : PL) (y : aC) : aC × ζ :=
  if (iH y = μ /\ γ y <= 70) /\ 1 <= γ l /\ γ l <= 8 then
    (match iQ JC l with
     | none => ([], 2)
     | some v => if v.any (λx => Tk y x.2) = μ then ([], 7) else if 8192 < γ (rk y v) then ([], 4) else (rk y v, 0))
  else ([], 2)
theorem yu(y:aC)(B:aL y<=9223372036854775807)(l:PL)(s:∀x∈l,(∀h∈x.1,aL h.1<=4194304)/\γ x.2<=1000000):awn FU l y=θ (jnP l y):=by
 unfold awn jnP;rw[bdN_eq y B];by_cases m:iH y=μ/\γ y<=70
 ·obtain⟨j,a⟩:=m;rw[j,aD a];by_cases w:(aL l:Int)<1
  ·rw[aB w,aA aA0];rfl
  ·rw[aA w];by_cases u:(8:Int)<(aL l:Int)
   ·rw[aD u,aA aA0];rfl
   ·have G:=jv l aA0 s l [] [] FU rfl aA4 rfl;have p:aii FU l FU (iZ (bH (aL l:Int)) ([],[])) (0:Int)=θ (jnJ [] (iQ JC l)):=by rw[lB];exact G
    have D:∀(f:Type) (i:Decidable (0<=(aL l:Int)/\(48:Int)*(aL l:Int)<=281474976710656)) (k:ε f), @gd f _ i k=k:=λf i k=> @aS _ _ i _ ⟨aA0,aA0⟩;rw[aE u,D,p,aB ⟨⟨rfl,a⟩,aA0,aA0⟩];cases C:iQ JC l with
    |none=>rfl
    |some v=>
     have H:jnJ [] (θ v)=.inl v:=rfl;rw[H];obtain⟨I,q⟩:=uI _ _ _ C;have b:∀x∈v,aL x.2<=1000000:=λx hx=>by obtain⟨z,r,e⟩:=q x hx;rw[(Zk z x e).1];exact(s z r).2
     have g:∀x∈v,okU x:=λx hx=>by obtain⟨z,r,e⟩:=q x hx;exact(Zk z x e).2.2
     have F:=ju y a v aA0 b v [] FU rfl aA4;have o:aih FU y v FU (0:Int)=_:=F;have E:=jt y a v aA0 b g v [] FU [] rfl aA4 aA3;have n:ali FU y v FU [] (0:Int)=_:=E;show gd _ (Option.bind (aih FU y v FU (0:Int)) _)=_;rw[aS aA2,o];by_cases d:v.any (λx=>Tk y x.2)=μ
     ·rw[aB d];dsimp only;rw[aB d];rfl
     ·rw[aA d];dsimp only;rw[aA d];rw[n,Rl];have A:v.flatMap (EO y)++((([45,45]:aC)++y)++([45,45,13,10]:aC))=rk y v:=by unfold rk Jr;simp
      by_cases t:8192<γ (v.flatMap (EO y))
      ·rw[aB t,aB (by rw[<-A,cG];omega)];rfl
      ·rw[aA t];show gd _ (gd _ (gd _ _))=_;rw[aS aA2,aS aA2,aS aB2,A];by_cases c:8192<γ (rk y v)
       ·rw[aB aA0,aB c]
       ·rw[aA aA0,aA c]
 ·have:(iH y&&decide (aL y<=70))=ν:=by
   cases h:iH y&&decide (aL y<=70)with
   |false=>rfl
   |true=>rw[lA,aW]at h;exact absurd h m
  rw[this];show θ (([]:δ ζ),(2:ζ))=_;rw[aA (λh=>m h.1)]
theorem GZ(k:Int)(l:δ PP)(T:aC):lE k l T=if(lE k [] T).1=0 then(yA l (lE k [] T).2.1,(lE k [] T).2)else(5,([],[],ν)):=by
 unfold lE;cases fG k _ with
 |some j=>rfl
 |none=>
  by_cases c:dR T=0
  ·rw[aB c,aB c];rfl
  ·rw[aA c,aA c];by_cases b:dR T<γ T
   ·rw[aB b,aB b];cases fG k _ with
    |some j=>rfl
    |none=>
     by_cases a:T.drop (dR T+1)=[]/\k=1
     ·rw[aB a,aB a];rfl
     ·rw[aA a,aA a];rfl
   ·rw[aA b,aA b];by_cases a:k=2
    ·rw[aB a,aB a];rfl
    ·rw[aA a,aA a];rfl
theorem fld_5(k:Int)(T:aC):(lE k [] T).1=0\/(lE k [] T).1=5:=by
 rw[GZ k [] T];split
 ·exact .inl rfl
 ·exact .inr rfl
theorem Bp(s:aC)(i a x:Int)(b e:ζ)(h:¬b=0):Qi (s,i,a,b) x e=(s,i,a,b):=aA h
theorem L4(s:aC)(m:γ s<=4194303)(g a:Int)(l:ζ)(e:Nat)(o:e<=γ s)(n:Nat):∀k b,k+n=e->n<b->
  ajn FU (s,g,a,l) e b k=θ ((k+cI (λc=> !(c==61)) (sub s (k:Int) (e:Int)):Nat):Int):=by
 induction n with
 |zero=>intro k b i j;obtain⟨b,rfl⟩:=bV b;obtain rfl:k=e:=aA0;rw[awu,air,aA aA0,Z4];rfl
 |succ n f=>
  intro k b i j;obtain⟨b,rfl⟩:=bV b;have d:sub s k e=at_ s k::sub s (k+1:Nat) e:=by unfold sub;simp;rw[Iq s k aA0,show e-k=(e-(k+1))+1 by omega,dY]
  rw[awu,air,aB aA0,aS aE4,aR,d,cI];by_cases h:at_ s k=61
  ·rw[h];rfl
  ·rw[aE h,vP,aM,aS (cA _ aA0 aA0),lZ,f _ b aA0 aA0,aB (by simp[h])];congr 1;omega
theorem KN(s:aC)(hs:γ s<=4194303)(i e:Nat)(a5:i<=e)(V:e<=γ s)(a:Int)(W:0<=a/\a<=5000000)(k:Int)(P:k=1\/k=2):
  ∃p a',(0<=a'/\a'<=5000000)/\apa FU (s,i,a,0) e k=θ (p,(s,(e:Int),a',(lE k [] (sub s i e)).1))/\cK p.1=p.1/\γ p.1<=γ s/\
   ((lE k [] (sub s i e)).1=0->p=(lE k [] (sub s i e)).2/\a'=a):=by
 have H:k=0\/k=1\/k=2:=.inr P;have hT:γ (sub s i e)=e-i:=aC4;have E:=λn h=>CY s i e n h;have F:=λn=>Un s i e n
 have N:=L4 s hs i a 0 e V (e-i) i FU aA0 aA4;unfold apa;dsimp only;rw[N,aR];generalize a9:sub s i _=T at hT E F⊢;have hn:cI _ T=dR T:=rfl;have a3:dR T<=γ T:=Tp _ _;rw[hn,rT s aA0 i _ aA0 aA0 a 0 k H,E _ aA0,aR];have tail:∀(x b:Int) (l:ζ) (nm:aC),0<=b->b<=5000000->∃v h b',(0<=b'/\b'<=5000000)/\((((if k=(2:Int)then θ (decide (((i+dR T:Nat):Int)=(e:Int)))else θ ν).bind λ(D:η)=>(bif D then((Kg FU (s,x,b,l) (e:Int) (5:ζ)).bind λ(r:RR)=>θ (r.1,r.2.1,r.2.2.1,r.2.2.2))else θ (s,x,b,l))).bind λ(g:RR)=>(((if((i+dR T:Nat):Int)<(e:Int)then(gd (bK (((i+dR T:Nat):Int)+(1:Int)))<|((uh FU (g.1,((i+dR T:Nat):Int)+(1:Int),g.2.2.1,g.2.2.2) (e:Int) k).bind λ(f:(aC×RR))=>(((if k=(1:Int)then θ (decide (f.1=([]:aC)))else θ ν)).bind λ(C:η)=>(bif C then(gd (bK ((i+dR T:Nat)+1))<|((Kg FU f.2 ((i+dR T:Nat)+1) 5).bind λq=>θ (q.1,q.2.1,q.2.2.1,q.2.2.2,f.1,μ)))else θ (f.2.1,f.2.2.1,f.2.2.2.1,f.2.2.2.2,f.1,μ)))))else θ (g.1,g.2.1,g.2.2.1,g.2.2.2,[],ν))).bind λo=>θ ((nm,o.2.2.2.2.1,o.2.2.2.2.2),((o.1,e,o.2.2.1,o.2.2.2.1):RR)))))=θ ((nm,v,h),(s,(e:Int),b',if l=0 then(if dR T<γ T then(match fG k (T.drop (dR T+1))with|some _=>5|none=>if T.drop (dR T+1)=[]/\k=1 then 5 else 0)else if k=2 then 5 else 0)else l))/\
   (l=0->(if dR T<γ T then(match fG k (T.drop (dR T+1))with|some _=>(5:ζ)|none=>if T.drop (dR T+1)=[]/\k=1 then 5 else 0)else if k=2 then 5 else 0)=0->b'=b/\v=(if dR T<γ T then kP k (T.drop (dR T+1))else [])/\h=decide (dR T<γ T)):=by
  intro x b l nm a8 a7;by_cases c:dR T<γ T
  ·have M:¬((i+dR T:Nat):Int)=(e:Int):=by omega
   have S:(if k=(2:Int)then θ (decide (((i+dR T:Nat):Int)=(e:Int)))else θ ν)=θ ν:=by rw[aE M];split<;>rfl
   rw[S,aR,aH,aR,aB aA0,aS (cA _ aA0 aA0)];simp only[aB c];rw[lZ,rT s aA0 (i+dR T+1) e aA0 V b l k H,F (dR T),aR];cases y:fG k (T.drop (dR T+1))with
   |some j=>
    have U:=Y8 _ _ _ j y;rw[fB]at U;dsimp only;by_cases d:l=0
    ·have A:Qi (s,((i+dR T+1:Nat):Int),b,l) ((i+dR T+1+j:Nat):Int) 5=(s,((i+dR T+1:Nat):Int),((i+dR T+1+j:Nat):Int),5):=aB d;rw[A,aB d];rcases P with rfl|rfl
     ·rw[aB rfl,aD rfl,aR,aM,aS (cA _ aA0 aA0),Rr,aR,aR];exact⟨_,_,_,rD,rfl,λ_ h=>absurd h (show¬(5:ζ)=0 by decide)⟩
     ·rw[aA aA1,aR,aH,aR];exact⟨_,_,_,rD,rfl,λ_ h=>absurd h (show¬(5:ζ)=0 by decide)⟩
    ·rw[Bp _ _ _ _ _ _ d,aA d];rcases P with rfl|rfl
     ·rw[aB rfl,aD rfl,aR,aM,aS (cA _ aA0 aA0),Rr,Bp _ _ _ _ _ _ d,aR,aR];exact⟨_,_,_,rD,rfl,λh=>absurd h d⟩
     ·rw[aA aA1,aR,aH,aR];exact⟨_,_,_,rD,rfl,λh=>absurd h d⟩
   |none=>
    have w:=tB k (T.drop (dR T+1)) y;dsimp only;have e2:(if k=(1:Int)then θ (decide (kP k (T.drop (dR T+1))=[]))else θ ν)=θ (decide (T.drop (dR T+1)=[]/\k=1)):=by
     by_cases J:k=1
     ·rw[aB J];congr 1;rw[bZ,w];exact⟨λh=>⟨h,J⟩,λh=>h.1⟩
     ·rw[aA J,aE (λh=>J h.2)]
    rw[e2,aR];by_cases m:T.drop (dR T+1)=[]/\k=1
    ·rw[aD m,aM,aS (cA _ aA0 aA0),Rr,aR,aR,aB m];by_cases d:l=0
     ·have A:Qi (s,(e:Int),b,l) ((i+dR T+1:Nat):Int) 5=(s,(e:Int),((i+dR T+1:Nat):Int),5):=aB d;rw[A,aB d];exact⟨_,_,_,rD,rfl,λ_ h=>absurd h (show¬(5:ζ)=0 by decide)⟩
     ·rw[Bp _ _ _ _ _ _ d,aA d];exact⟨_,_,_,rD,rfl,λh=>absurd h d⟩
    ·rw[aE m,aH,aR,aA m];by_cases d:l=0
     ·subst d;rw[aB rfl];exact⟨_,_,_,rD,rfl,λ_ _=>⟨rfl,rfl,(aD c).symm⟩⟩
     ·rw[aA d];exact⟨_,_,_,rD,rfl,λh=>absurd h d⟩
  ·have heq:(i+dR T:Nat)=(e:Int):=by omega
   have S:(if k=(2:Int)then θ (decide (((i+dR T:Nat):Int)=(e:Int)))else θ ν)=θ (decide (k=2)):=by
    rw[aD heq];by_cases z:k=2
    ·rw[aB z,aD z]
    ·rw[aA z,aE z]
   simp only[aA c];rw[S,aR];by_cases z:k=2
   ·rw[aD z,aM,Rr,aR,aR,aA aA0,aB z];by_cases d:l=0
    ·have A:Qi (s,x,b,l) (e:Int) 5=(s,x,(e:Int),5):=aB d;rw[A,aB d];exact⟨_,_,_,rD,rfl,λ_ h=>absurd h (show¬5=0 by decide)⟩
    ·rw[Bp _ _ _ _ _ _ d,aA d];exact⟨_,_,_,rD,rfl,λh=>absurd h d⟩
   ·rw[aE z,aH,aR,aA aA0,aA z];by_cases d:l=0
    ·subst d;rw[aB rfl];exact⟨_,_,_,rD,rfl,λ_ _=>⟨rfl,rfl,(aE c).symm⟩⟩
    ·rw[aA d];exact⟨_,_,_,rD,rfl,λh=>absurd h d⟩
 have K:γ (T.take (dR T))=dR T:=aB8;have a6:=tC k (T.take (dR T));have Y:∀l:ζ,¬l=0->∀X:ζ,(if l=0 then X else l)=l:=λl h X=>aA h;have B:¬(5:ζ)=0:=aA1;cases y:fG k (T.take (dR T))with
 |some j=>
  have R:lE k [] T=(5,([],[],ν)):=by unfold lE;rw[y]
  have A:Qi (s,(i:Int),a,0) ((i+j:Nat):Int) 5=(s,(i:Int),((i+j:Nat):Int),5):=rfl;dsimp only;rw[A,Rr,aR];have U:=Y8 _ _ _ j y;obtain⟨v,h,b',u,t1,t2⟩:=tail i (i+j:Nat) 5 _ aA0 aA0;rw[Y 5 B]at t1;rw[R];exact⟨_,_,u,t1,rfl,cW _,λh=>absurd h B⟩
 |none=>
  have w:=tB k _ y;dsimp only;by_cases d:dR T=0
  ·have G:T.take (dR T)=[]:=Je aA0;have R:lE k [] T=(5,([],[],ν)):=by unfold lE;rw[y];dsimp only;rw[aB d]
   have Q:=w.2 G;have A:Qi (s,(i+dR T:Nat),a,0) (i:Int) 5=(s,((i+dR T:Nat):Int),(i:Int),5):=rfl;rw[Q,Rr,aR];obtain⟨v,h,b',u,t1,t2⟩:=tail _ i 5 _ aA0 aA0;rw[Y 5 B]at t1;rw[R];exact⟨_,_,u,t1,rfl,cW _,λh=>absurd h B⟩
  ·have L:¬kP k _=[]:=λe=>d (by rw[<-K,w.1 e];rfl)
   rw[aA L,XI _ aA0];obtain⟨v,h,b',u,t1,t2⟩:=tail (i+dR T:Nat) a 0 _ W.1 W.2;rw[aB rfl]at t1;have hE:(lE k [] T).1=(if dR T<γ T then(match fG k (T.drop (dR T+1))with|some _=>5|none=>if T.drop (dR T+1)=[]/\k=1 then 5 else 0)else if k=2 then 5 else 0):=by
    unfold lE;rw[y];dsimp only;rw[aA d];by_cases c:dR T<γ T
    ·rw[aB c,aB c];cases fG k _ with
     |some j=>rfl
     |none=>
      dsimp only;by_cases m:T.drop (dR T+1)=[]/\k=1
      ·rw[aB m,aB m]
      ·rw[aA m,aA m];rfl
    ·rw[aA c,aA c];by_cases m:k=2
     ·rw[aB m,aB m]
     ·rw[aA m,aA m];rfl
   have O:γ (cK (kP k (T.take (dR T))))<=γ s:=by unfold cK;rw[Gf];omega
   rw[hE];refine⟨_,_,u,t1,lU _,O,λt=> ?_⟩;obtain⟨q1,q2,Z⟩:=t2 rfl t;refine⟨?_,q1⟩;rw[q2,Z];unfold lE;rw[y];dsimp only;rw[aA d];by_cases c:dR T<γ T
   ·rw[aB c]at t⊢;rw[aB c];cases I:fG k _ with
    |some j=>rw[I]at t;exact absurd t B
    |none=>
     rw[I]at t;dsimp only at t⊢;by_cases m:T.drop (dR T+1)=[]/\k=1
     ·rw[aB m]at t;exact absurd t B
     ·rw[aA m,aD c]
   ·rw[aA c]at t⊢;rw[aA c];by_cases m:k=2
    ·rw[aB m]at t;exact absurd t B
    ·rw[aA m,aE c]
def VN(l:δ PP):Prop:=∀p∈l,cK p.1=p.1/\γ p.1<=4194304
theorem VN.snoc{l:δ PP}(h:VN l)(p:PP)(d:cK p.1=p.1)(c:γ p.1<=4194304):VN (l++[p]):=λq b=>by
 rcases aV.1 b with a|a
 ·exact h q a
 ·rw[aG.1 a];exact⟨d,c⟩
theorem G4(s:aC)(B:γ s<=4194303)(Xg v:ζ)(st:aC)(F:γ st<=1000)(k:Int)(C:k=1\/k=2)(y i:Nat)(l:δ PP)(a:Int)(D:0<=a/\a<=5000000)(b:cR s i v=μ)(H:γ l<=16)(x:VN l):
  ∃p a',(0<=a'/\a'<=5000000)/\pe FU Xg st k (y+1) l v s i a 0=pe FU Xg st k y (l++[p]) Xg s (bP st s (i+1)) a' (lE k l (sub s ((i+1:Nat)) (bP st s (i+1)))).1/\cK p.1=p.1/\γ p.1<=γ s/\
   ((lE k l (sub s ((i+1:Nat)) (bP st s (i+1)))).1=0->p=(lE k l (sub s ((i+1:Nat)) (bP st s (i+1)))).2/\a'=a):=by
 have f:=(wM b).1;have o:=Kf st s (i+1);have n:=Fs st s (i+1) f;obtain⟨p,m,d,G,e,g,u⟩:=KN s B (i+1) (bP st s (i+1)) o n a D k C;rw[axp,ajo,vX,aR,b,aS (cA _ aA0 aA0),lZ,bca s aA0 (i+1) f a 0 st F,aR,G,aR];rw[uC l aA0 (λq r=>(x q r).2) p.1 aA0 (λq r=>(x q r).1) e,aR,GZ k l];have j:(γ l+[p].length)*40<=140737488355328:=aC3;generalize sub s _ (bP st s (i+1))=T at u⊢;by_cases t:(lE k [] T).1=0
 ·obtain⟨A,z⟩:=u t;rw[<-A,t];by_cases c:yA l p.1=0
  ·rw[aB c,aR,aS j,c];exact⟨p,m,d,rfl,e,g,λ_=>⟨rfl,z⟩⟩
  ·have I:Qi (s,(bP st s (i+1)),m,0) ((i+1:Nat):Int) (yA l p.1)=(s,(bP st s (i+1):Int),((i+1:Nat):Int),yA l p.1):=rfl;rw[aA c,Rr,aR,aR,aS j];exact⟨p,_,rD,rfl,e,g,λh=>absurd h c⟩
 ·have E:=(fld_5 k T).resolve_left t;have w:¬(5:ζ)=0:=by decide
  rw[E];by_cases c:yA l p.1=0
  ·rw[aB c,aR,aS j];exact⟨p,m,d,rfl,e,g,λh=>absurd h w⟩
  ·rw[aA c,Rr,aR,aR,aS j];exact⟨p,m,d,rfl,e,g,λh=>absurd h w⟩
theorem xB(s:aC)(Xg c:ζ)(st:aC)(k:Int)(d:Nat)(i:Int)(l:δ PP)(a:Int)(b:ζ)(h:NB FU (s,i,a,b) c=θ ν):pe FU Xg st k (d+1) l c s i a b=θ (l,s,i,a,b):=by rw[axp,ajo,h,aR,aH]
theorem fh(s:aC)(y:γ s<=4194303)(st:aC)(D:γ st<=1000)(a:Int)(C:0<=a/\a<=5000000)(n:Nat):∀i b f l,γ s-i<=n->n+1<b->n<f->i<=γ s->γ l<=16->VN l->
  ∃l' i' a',(0<=a'/\a'<=5000000)/\pe FU 59 st 1 b l 59 s i a 0=θ (l',s,i',a',(jB st s f i l).1)/\γ l'<=17/\((jB st s f i l).1=0->l'=(jB st s f i l).2.2/\i'=((jB st s f i l).2.1)/\a'=a):=by
 induction n with
 |zero=>
  intro i b f l z A k j q o;obtain⟨b,rfl⟩:=bV b;obtain⟨f,rfl⟩:∃m,f=m+1:=⟨f-1,aA0⟩;have c:cR s i 59=ν:=by unfold cR;rw[aE aA0];rfl
  rw[xB _ _ _ _ _ _ _ _ _ _ (by rw[vX,c]),jB,c];exact⟨_,_,_,rD,rfl,aA0,λ_=>⟨rfl,rfl,rfl⟩⟩
 |succ n w=>
  intro i b f l z A k j q o;obtain⟨b,rfl⟩:=bV b;obtain⟨f,rfl⟩:∃m,f=m+1:=⟨f-1,aA0⟩;cases c:cR s i 59 with
  |false=>rw[xB _ _ _ _ _ _ _ _ _ _ (by rw[vX,c]),jB,c];exact⟨_,_,_,rD,rfl,aA0,λ_=>⟨rfl,rfl,rfl⟩⟩
  |true=>
   have g:=(wM c).1;have x:=Kf st s (i+1);have e:=Fs st s (i+1) g;obtain⟨p,G,B,E,v,F,u⟩:=G4 s y 59 59 st D 1 (.inl rfl) b i l a C c q o;rw[E,jB,c];by_cases d:(lE 1 l (sub s ((i+1:Nat):Int) (bP st s (i+1):Int))).1=0
   ·obtain⟨t,r⟩:=u d;have:=uQ d;rw[d,r,<-t];exact w (bP st s (i+1)) b f _ aA0 aA0 aA0 e aA2 (o.snoc p v aA0)
   ·rw[aA d];obtain⟨b,rfl⟩:=bV b;rw[xB _ _ _ _ _ _ _ _ _ _ (Wi s _ _ _ d _)];exact⟨_,_,_,rD,rfl,by simp;omega,λh=>absurd h d⟩
theorem fk(s:aC)(B:γ s<=4194303)(a:Int)(G:0<=a/\a<=5000000)(n:Nat):∀i b f d l,γ s-i<=n->n+1<b->n<f->i<=γ s->(i=γ s\/cR s i d=μ)->γ l<=16->VN l->
  ∃l' i' a',(0<=a'/\a'<=5000000)/\pe FU 38 [38] 2 b l d s i a 0=θ (l',s,i',a',(yT s f i l).1)/\γ l'<=17/\((yT s f i l).1=0->l'=(yT s f i l).2):=by
 induction n with
 |zero=>
  intro i b f d l C D r q k u t;obtain⟨b,rfl⟩:=bV b;obtain⟨f,rfl⟩:∃m,f=m+1:=⟨f-1,aA0⟩;have j:cR s i d=ν:=by unfold cR;rw[aE aA0];rfl
  rw[xB _ _ _ _ _ _ _ _ _ _ (by rw[vX,j]),yT,aA aA0];exact⟨_,_,_,rD,rfl,aA0,λ_=>rfl⟩
 |succ n z=>
  intro i b f d l C D r q k u t;obtain⟨b,rfl⟩:=bV b;obtain⟨f,rfl⟩:∃m,f=m+1:=⟨f-1,aA0⟩;by_cases c:i<γ s
  ·have j:cR s i d=μ:=k.resolve_left aA0;have A:=Kf [38] s (i+1);have o:=Fs [38] s (i+1) c;obtain⟨p,K,F,I,y,J,x⟩:=G4 s B 38 d [38] aA1 2 (.inr rfl) b i l a G j u t;rw[I,yT,aB c];by_cases g:(lE 2 l (sub s ((i+1:Nat):Int) (bP [38] s (i+1):Int))).1=0
   ·obtain⟨w,v⟩:=x g;have:=uQ g;rw[g,v,<-w];refine z (bP [38] s (i+1)) b f 38 _ aA0 aA0 aA0 o ?_ aA2 (t.snoc p y aA0);by_cases E:bP [38] s (i+1)=γ s
    ·exact .inl E
    ·have e:=bkf [38] s (i+1) c aA0;refine .inr ?_;unfold cR;rw[aD aA0];unfold fT at e;rw[Tx,iY,dU]at e;have H:=eq_of_beq e;rw[<-H];rfl
   ·rw[aA g];obtain⟨b,rfl⟩:=bV b;rw[xB _ _ _ _ _ _ _ _ _ _ (Wi s _ _ _ g _)];exact⟨_,_,_,rD,rfl,by simp;omega,λh=>absurd h g⟩
  ·have j:cR s i d=ν:=by unfold cR;rw[aE aA0];rfl
   rw[xB _ _ _ _ _ _ _ _ _ _ (by rw[vX,j]),yT,aA c];exact⟨_,_,_,rD,rfl,aA0,λ_=>rfl⟩
theorem PC(s:aC)(c:γ s<=4194303)(st:aC)(j:γ st<=1000)(a:Int)(g:0<=a/\a<=5000000)(i:Nat)(f:i<=γ s):
  ∃l' i' a',(0<=a'/\a'<=5000000)/\CB FU (s,i,a,0) 59 59 st 1=θ (fU l',(s,i',a',(jB st s (γ s+1) i []).1))/\((jB st s (γ s+1) i []).1=0->l'=(jB st s (γ s+1) i []).2.2/\i'=((jB st s (γ s+1) i []).2.1)/\a'=a):=by
 obtain⟨l',i',a',b,e,k,h⟩:=fh s c st j a g (γ s) i FU (γ s+1) [] aA0 aA4 aA0 f aA1 (λp d=>by cases d);unfold CB;rw[e,aR];rw[bcb l' aA0];exact⟨l',i',a',b,rfl,h⟩
theorem fi(s:aC)(d:γ s<=4194303)(a:Int)(h:0<=a/\a<=5000000)(i:Nat)(g:i<=γ s)(b:i=γ s\/cR s i 63=μ):
  ∃l' r',(0<=r'.2.2.1/\r'.2.2.1<=5000000)/\CB FU (s,i,a,0) 63 38 [38] 2=θ (fU l',r')/\r'.2.2.2=(yT s (γ s+1) i []).1/\((yT s (γ s+1) i []).1=0->l'=(yT s (γ s+1) i []).2):=by
 obtain⟨l',i',a',c,e,k,j⟩:=fk s d a h (γ s) i FU (γ s+1) 63 [] aA0 aA4 aA0 g b aA1 (λp f=>by cases f);unfold CB;rw[e,aR];rw[bcb l' aA0];exact⟨l',_,c,rfl,rfl,j⟩
theorem zO(r:RR)(c:¬r.2.2.2=0)(f g:ζ)(st:aC)(k:Int):CB FU r f g st k=θ ([],r):=by
 obtain⟨s,i,a,b⟩:=r;obtain⟨m,d⟩:∃m,FU=m+1:=⟨FU-1,by rw[dK]⟩;have e:pe FU g st k FU [] f s i a b=θ ([],s,i,a,b):=by have:=xB s g f st k m i [] a b (Wi s i a b c f);rw[<-d]at this;exact this
 unfold CB;rw[e,aR];rfl
theorem EN(s:aC):∀f i l,i<=γ s->γ s-i<f->(i=γ s\/cR s i 59=μ\/cR s i 63=μ)->(jB [59,63] s f i l).1=0->(jB [59,63] s f i l).2.1=γ s\/cR s (jB [59,63] s f i l).2.1 63=μ
 |0,i,l,p,o,k,b=>by omega
 |f+1,i,l,p,o,k,b=>by
  rw[jB]at b⊢;by_cases d:cR s i 59=μ
  ·rw[aB d]at b⊢;have c:=(wM d).1;have m:=Kf [59,63] s (i+1);have e:=Fs [59,63] s (i+1) c;by_cases g:(lE 1 l (sub s ((i+1:Nat):Int) (bP [59,63] s (i+1):Int))).1=0
   ·rw[aB g]at b⊢;refine EN s f _ _ e aA0 ?_ b;by_cases n:bP [59,63] s (i+1)=γ s
    ·exact .inl n
    ·have a:=bkf [59,63] s (i+1) c aA0;refine .inr ?_;unfold cR;rw[aD aA0,Rw];unfold fT at a;rw[Tx,Tx,iY,dU,YO]at a;rcases a with h|h
     ·left;have j:=eq_of_beq h;rw[<-j];rfl
     ·right;have j:=eq_of_beq h;rw[<-j];rfl
   ·rw[aA g]at b;exact absurd b g
  ·rw[aA d];rcases k with h|h|h
   ·exact .inl h
   ·exact absurd h d
   ·exact .inr h
theorem kq(s:aC)(i:Nat)(k:i<=γ s)(h:(jV s i).1=0):(jV s i).2.2.2=γ s\/cR s (jV s i).2.2.2 59=μ\/cR s (jV s i).2.2.2 63=μ:=by
 have l:=Bg s i k;unfold jV at h⊢;generalize fY s i=e at l h⊢;split
 ·rename_i x;rw[aB x]at h;exact absurd h aA1
 ·rename_i x;rw[aA x]at h;split
  ·rename_i y;rw[aB y]at h;have b:=(wM y).1;have j:=Fs [59,63] s (e+1) b;split
   ·dsimp only;by_cases c:bP [59,63] s (e+1)=γ s
    ·exact .inl c
    ·have a:=bkf [59,63] s (e+1) b aA0;refine .inr ?_;unfold cR;rw[aD aA0,Rw];unfold fT at a;rw[Tx,Tx,iY,dU,YO]at a;rcases a with h|h
     ·left;have g:=eq_of_beq h;rw[<-g];rfl
     ·right;have g:=eq_of_beq h;rw[<-g];rfl
   ·rename_i z;rw[aA z]at h;exact absurd h z
  ·rename_i y;rw[aA y]at h;split
   ·rename_i z;rw[aB z]at h;exact absurd h aA1
   ·rename_i z;by_cases c:e=γ s
    ·exact .inl c
    ·refine .inr ?_;cases f:cR s e 59 with
     |true=>exact .inl rfl
     |false=>
      cases d:cR s e 63 with
      |true=>exact .inr rfl
      |false=>exact absurd ⟨aA0,f,d⟩ z
theorem H5(d:η)(c:ζ)(b:η)(e:b=ν):((XK FU c).bind λa=>(bif a then θ μ else(bif (!d)then(if c=42 then θ μ else(if c=35 then θ μ else(bif d then θ b else θ ν)))else(bif d then θ b else θ ν))))=θ (lW d c):=by subst e;revert c;cases d<;>exact fM _ aA5
theorem DP(s:aC)(z:γ s<=4194303)(m:Int)(e:Nat)(B:e<=γ s)(f:η)(n:Nat):∀k g (b:aC),k+n=e->n<g->γ b<=k->(f=μ->m<k)->
  ∃j,ui FU (s,m,0,0) e f g b k=θ j/\
   (match xY f (sub s k e)with
   |some d=>j=.inl (b++d)
   |none=>∃a,(0<=a/\a<=5000000)/\j=.inr ([],(s,m,a,5))):=by
 induction n with
 |zero=>intro k g b v w x i;obtain⟨g,rfl⟩:=bV g;obtain rfl:k=e:=aA0;rw[aiy,aeg,aA aA0,Z4];exact⟨_,rfl,by simp only[xY,gD]⟩
 |succ n u=>
  intro k g b v w x i;obtain⟨g,rfl⟩:=bV g;have r:sub s (k:Int) (e:Int)=at_ s (k:Int)::sub s ((k+1:Nat):Int) (e:Int):=by unfold sub;simp;rw[Iq s k aA0,show e-k=(e-(k+1))+1 by omega,dY]
  have t:((XK FU (at_ s (k:Int))).bind λ(l:η)=>(bif l then θ μ else(bif (!f)then(if(at_ s (k:Int))=(42:ζ)then θ μ else(if(at_ s (k:Int))=(35:ζ)then θ μ else(bif f then θ (decide ((k:Int)=m))else θ ν)))else(bif f then θ (decide ((k:Int)=m))else θ ν))))=θ (lW f (at_ s (k:Int))):=by
   cases f with
   |true=>exact H5 μ _ _ (aE (by have:=i rfl;omega))
   |false=>exact H5 ν _ ν rfl
  rw[aiy,aeg,aB aA0,aS aE4];rw[t,aR,r];unfold xY;cases C:lW f (at_ s (k:Int))with
  |true=>
   rw[aS aA2,aS (cA _ aA0 aA0)];obtain⟨j,y,q⟩:=u (k+1) g (b++[at_ s (k:Int)]) aA0 aA0 aA2 (λh=>by have:=i h;omega);refine⟨j,y, ?_⟩;cases o:xY f (sub s ((k+1:Nat):Int) (e:Int))with
   |none=>rw[o]at q;exact q
   |some d=>rw[o]at q;rw[q,gZ];rfl
  |false=>
   have p:fT [45,46,40,41] (at_ s (k:Int))=T3 (at_ s (k:Int)):=by generalize at_ s (k:Int)=c;revert c;exact fM _ aA5
   rw[aH,ayt _ _ aA1,p,aR];cases A:T3 (at_ s (k:Int))with
   |true=>rw[aS (cA _ aA0 aA0),lZ];exact u _ g b aA0 aA0 aA0 (λh=>by have:=i h;omega)
   |false=>exact⟨_,rfl,_,aA0,rfl⟩
theorem DQ(s:aC)(A:γ s<=4194303)(i:Nat)(B:i<=γ s):∃u r,aev FU (s,i,0,0)=θ (u,r)/\r.1=s/\(0<=r.2.2.1/\r.2.2.1<=5000000)/\r.2.2.2=(jX s i).1/\((jX s i).1=0->u=(jX s i).2/\r=(s,(bP [59] s i:Int),0,0)):=by
 have E:=Kf [59] s i;have l:=Fs [59] s i B;have v:¬(5:ζ)=0:=aA1
 have p:∀(d out:aC) (m:Int),m=(γ d:Int)->∃u r,((if m<(1:Int)then((Kg FU (s,(i:Int),0,0) (i:Int) (5:ζ)).bind λ(e:RR)=>θ (e.1,e.2.1,e.2.2.1,e.2.2.2))else θ (s,(i:Int),(0:Int),(0:ζ))).bind λ(b:RR)=>(((if(30:Int)<m then((Kg FU b (i:Int) (4:ζ)).bind λ(c:RR)=>θ (c.1,c.2.1,c.2.2.1,c.2.2.2))else θ (b.1,b.2.1,b.2.2.1,b.2.2.2))).bind λ(f:RR)=>θ (out,((f.1,((bP [59] s i:Nat):Int),f.2.2.1,f.2.2.2):RR))))=θ (u,r)/\r.1=s/\(0<=r.2.2.1/\r.2.2.1<=5000000)/\r.2.2.2=(if d=[]then((5,[]):ζ×aC)else if 30<γ d then(4,[])else(0,out)).1/\((if d=[]then((5,[]):ζ×aC)else if 30<γ d then(4,[])else(0,out)).1=0->u=(if d=[]then((5,[]):ζ×aC)else if 30<γ d then(4,[])else(0,out)).2/\r=(s,(bP [59] s i:Int),0,0)):=by
  intro d out m q;by_cases t:d=[]
  ·have H:m=0:=by rw[q,t];rfl
   have C:Qi (s,(i:Int),0,0) (i:Int) 5=(s,(i:Int),(i:Int),5):=rfl;rw[aB aA0,Rr,C,aR,aR,aA aA0,aR,aB t];exact⟨_,_,rfl,rfl,rD,rfl,λh=>absurd h v⟩
  ·have J:=bL.2 t;rw[aA aA0,aR,aA t];by_cases o:30<γ d
   ·have C:Qi (s,(i:Int),0,0) (i:Int) 4=(s,(i:Int),(i:Int),4):=rfl;rw[aB aA0,Rr,aR,aB o];exact⟨_,_,rfl,rfl,rD,rfl,λh=>absurd h (show¬(4:ζ)=0 by decide)⟩
   ·rw[aA aA0,aA o];exact⟨_,_,rfl,rfl,rD,rfl,λ_=>⟨rfl,rfl⟩⟩
 unfold aev jX;rw[bca s aA0 i B 0 0 _ aA1,aR,vX,aR];dsimp only;cases n:cR s i 43 with
 |true=>
  have w:=(wM n).1;have hO:=(wM n).2;have F:=rM [59] s i w (by rw[hO];decide);have D:=Kf [59] s (i+1);obtain⟨m,q⟩:∃m,FU=m+1:=⟨FU-1,by rw[dK]⟩;have step:ui FU (s,(i:Int),0,0) (bP [59] s i:Int) μ FU [] (i:Int)=ui FU (s,(i:Int),0,0) (bP [59] s i:Int) μ m [43] ((i+1:Nat):Int):=by rw[show ui FU (s,(i:Int),0,0) (bP [59] s i:Int) μ FU [] (i:Int)=ui FU (s,(i:Int),0,0) (bP [59] s i:Int) μ (m+1) [] (i:Int)by rw[<-q]];have y:XK FU 43=θ ν:=aA5;rw[aiy,aeg,aB aA0,aS aE4];dsimp only;rw[hO,y,aR,aH,aD rfl,aS (cA _ aA0 aA0)];rfl
  obtain⟨j,z,g⟩:=DP s A (i:Int) (bP [59] s i) l μ (bP [59] s i-(i+1)) (i+1) m [43] aA0 (by rw[dK]at q;omega) aB9 (λ_=>by omega);rw[step,z,aR,aB rfl];cases k:xY μ (sub s ((i+1:Nat):Int) ((bP [59] s i:Nat):Int))with
  |none=>rw[k]at g;obtain⟨a,x,rfl⟩:=g;rw[Rt];exact⟨_,_,rfl,rfl,rD,rfl,λh=>absurd h v⟩
  |some d=>rw[k]at g;dsimp only at g;have I:=Em μ _ _ k;have G:=sub_le s ((i+1:Nat):Int) ((bP [59] s i:Nat):Int);subst g;rw[kA];dsimp only;rw[aS (cA _ (by simp only[cG,cN];omega) aA2)];have:=p d ([43]++d) ((γ ([43]++d))-1) aB2;rw[aB rfl];exact this
 |false=>
  obtain⟨j,z,g⟩:=DP s A i _ l ν (bP [59] s i-i) i FU [] aA0 aA4 aA3 (λh=>by cases h);rw[z,aR,aA aA1];cases k:xY ν _ with
  |none=>rw[k]at g;obtain⟨a,x,rfl⟩:=g;rw[Rt];exact⟨_,_,rfl,rfl,rD,rfl,λh=>absurd h v⟩
  |some d=>rw[k]at g;dsimp only at g;subst g;rw[kA];dsimp only;rw[Rl];exact p d d (γ d:Int) rfl
theorem wz(s:aC)(o:γ s<=4194303)(b g h:aC)(a:Int)(i:Nat)(l:i<=γ s)(j:i=γ s\/cR s i 59=μ\/cR s i 63=μ):∃x y,CB FU (s,i,0,0) 59 59 [59,63] 1=θ x/\CB FU x.2 63 38 [38] 2=θ y/\(0<=y.2.2.2.1/\y.2.2.2.1<=5000000)/\y.2.2.2.2=(wF [59,63] s b g h a i).1/\((wF [59,63] s b g h a i).1=0->(b,g,h,a,x.1,y.1)=(wF [59,63] s b g h a i).2):=by
 obtain⟨D,u,A,m,n,v⟩:=PC s o [59,63] aA1 0 aA1 i l;unfold wF;by_cases c:(jB [59,63] s (γ s+1) i []).1=0
 ·obtain⟨t,r,q⟩:=v c;subst t r q;rw[aB c];rw[c]at n;have k:=KX _ s _ i [] l c;have d:=EN s _ i [] l aA0 j c;obtain⟨C,B,e,z,p,w⟩:=fi s o 0 aA1 _ k d;refine⟨_,_,n,z,e, ?_⟩;by_cases f:(yT s (γ s+1) (jB [59,63] s (γ s+1) i []).2.1 []).1=0
  ·rw[aB f];refine⟨p.trans f,λ_=> ?_⟩;rw[w f]
  ·rw[aA f];exact⟨p,λh=>absurd h f⟩
 ·rw[aA c];have:=zO (s,u,A,(jB _ s _ i []).1) c 63 38 [38] 2;exact⟨_,_,n,this,m,rfl,λh=>absurd h c⟩
theorem DR(r:RR)(a:¬r.2.2.2=0):∃x y,CB FU r 59 59 [59,63] 1=θ x/\CB FU x.2 63 38 [38] 2=θ y/\y.2.2.2.1=r.2.2.1/\y.2.2.2.2=r.2.2.2:=
 ⟨_,_,zO r a 59 59 _ 1,zO r a 63 38 _ 2,rfl,rfl⟩
theorem G7(r:RR)(a:¬r.2.2.2=0):oy FU r=θ ([],r):=by unfold oy;rw[aA a]
theorem fg(s:aC)(H:γ s<=4194303)(i:Nat)(I:i<=γ s)(a:aC):∃u h p x y,alt FU (s,i,0,0)=θ u/\oy FU u.2=θ h/\adc FU h.2=θ p/\CB FU p.2 59 59 [59,63] 1=θ x/\CB FU x.2 63 38 [38] 2=θ y/\(0<=y.2.2.2.1/\y.2.2.2.1<=5000000)/\
  y.2.2.2.2=(if(gC s i).1=0 then wF [59,63] s a (gC s i).2.1 (gC s i).2.2.1 (gC s i).2.2.2.1 (gC s i).2.2.2.2 else((gC s i).1,iE)).1/\
  ((if(gC s i).1=0 then wF [59,63] s a (gC s i).2.1 (gC s i).2.2.1 (gC s i).2.2.2.1 (gC s i).2.2.2.2 else((gC s i).1,iE)).1=0->(a,u.1,h.1,p.1,x.1,y.1)=(if(gC s i).1=0 then wF [59,63] s a (gC s i).2.1 (gC s i).2.2.1 (gC s i).2.2.2.1 (gC s i).2.2.2.2 else((gC s i).1,iE)).2):=by
 obtain⟨u,r,E,K,C,t⟩:=UC s H i I;have go:∀m j,j<=γ s->∃h p x y,oy FU (s,j,0,0)=θ h/\adc FU h.2=θ p/\CB FU p.2 59 59 [59,63] 1=θ x/\CB FU x.2 63 38 [38] 2=θ y/\(0<=y.2.2.2.1/\y.2.2.2.1<=5000000)/\
   y.2.2.2.2=(if(jV s j).1=0 then wF [59,63] s a m (jV s j).2.1 (jV s j).2.2.1 (jV s j).2.2.2 else((jV s j).1,iE)).1/\
   ((if(jV s j).1=0 then wF [59,63] s a m (jV s j).2.1 (jV s j).2.2.1 (jV s j).2.2.2 else((jV s j).1,iE)).1=0->(a,m,h.1,p.1,x.1,y.1)=(if(jV s j).1=0 then wF [59,63] s a m (jV s j).2.1 (jV s j).2.2.1 (jV s j).2.2.2 else((jV s j).1,iE)).2):=by
  intro m j B;obtain⟨h,p,l,k,L,z,G,J⟩:=fj s aA0 j B;by_cases b:(jV s j).1=0
  ·obtain⟨t1,t2,t3⟩:=J b;have A:=LL s j B;have o:=kq s j B b;obtain⟨x,y,g,f,d,e,q⟩:=wz s H a m (jV s j).2.1 (jV s j).2.2.1 (jV s j).2.2.2 A o;rw[aB b];refine⟨h,p,x,y,l,k,by rw[t3];exact g,f,d,e,λn=> ?_⟩;rw[t1,t2];exact q n
  ·rw[aA b];obtain⟨x,y,g,f,d,e⟩:=DR p.2 (by rw[G];exact b);exact⟨h,p,x,y,l,k,g,f,by rw[d];exact z,by rw[e,G],λn=>absurd n b⟩
 unfold gC;by_cases c:bP [64] s i<γ s
 ·rw[aB c]at t;obtain⟨v,F⟩:=t;rw[aB c];by_cases b:(mS (sub s i (bP [64] s i))).1=0
  ·obtain⟨d1,d2⟩:=F b;obtain⟨h,p,x,y,l,k,g,f,d,e,q⟩:=go u _ c;rw[aB b];subst d2;rw[<-d1];exact⟨(u,_),h,p,x,y,E,l,k,g,f,d,e,q⟩
  ·rw[aA b];rw[aA b];have w:¬r.2.2.2=0:=by rw[v];exact b
   have l:=G7 r w;obtain⟨s',i',a',D⟩:=r;have k:=Va s' i' a' D w;obtain⟨x,y,g,f,d,e⟩:=DR _ w;exact⟨(u,_),_,_,x,y,E,l,k,g,f,by rw[d];exact C,by rw[e];exact v,λn=>absurd n b⟩
 ·rw[aA c]at t;obtain⟨v,F⟩:=t;rw[aA c];subst v F;obtain⟨h,p,x,y,l,k,g,f,d,e,q⟩:=go [] i I;exact⟨([],_),h,p,x,y,E,l,k,g,f,d,e,q⟩
theorem DW(st s b d h:aC)(a:Int)(i:Nat)(c:¬(wF st s b d h a i).1=0):(wF st s b d h a i).2=iE:=by
 unfold wF at c⊢;split
 ·rename_i f;rw[aB f]at c;split
  ·rename_i e;rw[aB e]at c;exact absurd rfl c
  ·rfl
 ·rfl
theorem UD(s:aC)(l:γ s<=4194303)(a g:aC)(c:Nat)(j:c<γ s):∃x,CB FU (s,(bP [59] s (c+1)),0,0) 59 59 [59] 1=θ x/\(0<=x.2.2.2.1/\x.2.2.2.1<=5000000)/\x.2.2.2.2=(wF [59] s a g [] 0 (bP [59] s (c+1))).1/\((wF [59] s a g [] 0 (bP [59] s (c+1))).1=0->(a,g,[],0,x.1,[])=(wF [59] s a g [] 0 (bP [59] s (c+1))).2):=by
 have e:=Fs [59] s (c+1) j;obtain⟨u,v,w,i,q,o⟩:=PC s l [59] aA1 0 aA1 (bP [59] s (c+1)) e;refine⟨_,q,i, ?_⟩;unfold wF;by_cases d:(jB [59] s (γ s+1) (bP [59] s (c+1)) []).1=0
 ·obtain⟨k,t,r⟩:=o d;have f:=Zq s (γ s+1) (bP [59] s (c+1)) [] e aA0 (by
   by_cases m:bP [59] s (c+1)=γ s
   ·exact .inl m
   ·have b:=bkf [59] s (c+1) j aA0;refine .inr ?_;unfold cR;rw[aD aA0];unfold fT at b;rw[Tx,iY,dU]at b;have p:=eq_of_beq b;rw[<-p];rfl) d
  have n:yT s (γ s+1) (γ s) []=(0,[]):=by rw[yT,aA (Nat.lt_irrefl _)]
  rw[aB d,f,n];refine⟨d,λ_=> ?_⟩;rw[k];rfl
 ·rw[aA d];exact⟨rfl,λh=>absurd h d⟩
theorem KM(s:aC):∃a,(0<=a/\a<=5000000)/\bfg FU s=θ ((Fp s).2,a,(Fp s).1):=by
 unfold bfg Fp;by_cases B:1024<γ s
 ·rw[aB aA0,aB B];exact⟨_,aC1,rfl⟩
 ·rw[aA aA0,aA B];have n:=Fs [58] s 0 (cW _);have I:YI FU (s,0,0,0) [58]=θ ((bP [58] s 0:Nat):Int):=bca s aA0 0 (cW _) 0 0 [58] aA1;rw[I,aR];generalize bP [58] s 0=c at n⊢;by_cases j:c<γ s
  ·rw[aA aA0,aB j,aS aA0,lB,XI _ aB8,aR,aS (cA _ aA0 aA0),lZ];generalize cK (s.take c)=b;have q:(if b=([115,105,112]:aC)then θ (decide (b=([115,105,112]:aC)))else θ (decide (b=([115,105,112,115]:aC))))=θ (decide (b=YK\/b=CE)):=by
    by_cases k:b=YK
    ·rw[aB (show b=([115,105,112]:aC)from k),aD (show b=([115,105,112]:aC)from k),aD (Or.inl k)]
    ·rw[aA (show¬b=([115,105,112]:aC)from k)];congr 1;rw[bZ];exact⟨Or.inr,λh=>h.resolve_left k⟩
   rw[q,aR];by_cases f:b=YK\/b=CE
   ·obtain⟨u,h,p,x,y,v,t,H,G,F,o,i,m⟩:=fg s aA0 (c+1) j b;rw[aD f,aM,aB f,v,aR,t,aR,H,aR,G,aR,F,aR,aR,kA];dsimp only;have d:¬(if(gC s (c+1)).1=0 then wF [59,63] s b (gC s (c+1)).2.1 (gC s (c+1)).2.2.1 (gC s (c+1)).2.2.2.1 (gC s (c+1)).2.2.2.2 else((gC s (c+1)).1,iE)).1=0->(if(gC s (c+1)).1=0 then wF [59,63] s b (gC s (c+1)).2.1 (gC s (c+1)).2.2.1 (gC s (c+1)).2.2.2.1 (gC s (c+1)).2.2.2.2 else((gC s (c+1)).1,iE)).2=iE:=by
     intro A;split
     ·rename_i D;rw[aB D]at A;exact DW _ _ _ _ _ _ _ A
     ·rfl
    generalize(if(gC s (c+1)).1=0 then wF [59,63] s b (gC s (c+1)).2.1 (gC s (c+1)).2.2.1 (gC s (c+1)).2.2.2.1 (gC s (c+1)).2.2.2.2 else((gC s (c+1)).1,iE))=R at i m d⊢;by_cases g:R.1=0
    ·rw[aB (i.trans g),g,<-m g];exact⟨_,aC1,rfl⟩
    ·rw[aA (λh=>g (i.symm.trans h)),d g,i];exact⟨_,aC1,rfl⟩
   ·rw[aE f,aH,aA f];by_cases e:b=pg
    ·obtain⟨u,r,v,J,o,w,E⟩:=DQ s aA0 (c+1) j;rw[aB (show b=[116,101,108]from e),aB e,v,aR];by_cases g:(jX s (c+1)).1=0
     ·obtain⟨rfl,rfl⟩:=E g;obtain⟨x,t,C,i,m⟩:=UD s aA0 b (jX s _).2 c j;rw[aB g,t,aR,aR,kA];dsimp only;have d:=DW [59] s b (jX s (c+1)).2 [] 0 (bP [59] s (c+1));generalize wF _ s b (jX s _).2 [] 0 _=R at i m d⊢;by_cases l:R.1=0
      ·rw[aB (i.trans l),l,<-m l];exact⟨_,aC1,rfl⟩
      ·rw[aA (λh=>l (i.symm.trans h)),d l,i];exact⟨_,aC1,rfl⟩
     ·have z:¬r.2.2.2=0:=by rw[w];exact g
      rw[aA g,zO r z,aR,aR,kA];dsimp only;rw[aA z,w];exact⟨_,aC1,rfl⟩
    ·rw[aA (show¬b=[116,101,108]from e),aA e];exact⟨_,aC1,rfl⟩
  ·rw[aB aA0,aA j];exact⟨_,aC1,rfl⟩
open Go.Lib renaming decDigits → mC, hasPrefix → oI, itoa → gM, trimPrefix → iD
open List renaming length → aL
theorem Fi(s:aC):ID s= !s.any eJ:=by unfold ID;rw[IV]
theorem KO(k:Int)(B:k=1\/k=2)(l:δ PP)(H:aL l<=16)(j:LS k l)(n:∀p∈l,aL p.1<=4194304/\γ p.2.1<=4194304)(q:δ PP):∀p c,l=p++q->aL q<c->
  aqe FU l k c (γ p)=θ (.inl ()):=by
 induction q with
 |nil=>intro p c h m;obtain⟨c,rfl⟩:=bV c;rw[bgp,aty,aA aA6]
 |cons a q A=>
  intro p c h m;obtain⟨c,rfl⟩:=bV c;have g:=bF aL h;simp at g m;have f:(0:Int)<=(aL p:Int)/\(aL p:Int)<(aL l:Int):=aA0;have C:el l (aL p:Int)=a:=aA9;have r:a∈l:=aA6;obtain⟨z,y,w,v,u,t⟩:=j.2 a r;obtain⟨s,G⟩:=n a r;have i:l.take (bH (aL p:Int))=p:=by rw[lB,h,fJ]
  have e:=F4 p q a (by rw[<-h];exact j.1) aA0;have D:IJ FU p a.1=θ 0:=by rw[uC p aA0 (λx hx=>(n x (by rw[h];simp[hx])).1) a.1 s (λx hx=>(j.2 x (by rw[h];simp[hx])).2.1) y,e]
  have b:=A (p++[a]) c aA6 aA0;rw[show(γ (p++[a]))=aL p+1 by simp]at b;have F:(!a.1.any eJ)=μ:=by rw[<-Fi];exact w
  have E:(!a.2.1.any eJ)=μ:=by rw[<-Fi];exact v
  rw[bgp,aty,aB f.2,aS f,aS f,C,i,aA z,zZ _ s,aR,F,gL,aH,zZ _ G,aR,E,gL,aH,D,aS aA0];rcases B with rfl|rfl
  ·have o:=u rfl;by_cases d:a.2.1=[]
   ·rw[d]at o;have o':a.2.2=ν:=o;rw[o',aB d,aH,aS (cA _ aA0 aA0)];exact b
   ·rw[aE d]at o;have o':a.2.2=μ:=o;rw[o',gL,aH,aA d,aS (cA _ aA0 aA0)];exact b
  ·rw[t rfl,gL,aH];by_cases d:a.2.1=[]
   ·rw[aB d,aS (cA _ aA0 aA0)];exact b
   ·rw[aA d,aS (cA _ aA0 aA0)];exact b
theorem Ma(k:Int)(b:k=1\/k=2)(l:δ PP)(a:aL l<=16)(d:LS k l)(c:∀p∈l,aL p.1<=4194304/\γ p.2.1<=4194304):bba FU l k=θ μ:=by unfold bba;have h:aqe FU l k FU 0=θ _:=KO k b l a d c l [] FU rfl aA4;rw[h,aR,kA]
theorem G6(l:δ PP)(n:aL l<=1000)(k:∀p∈l,cK p.1=p.1/\γ p.1<=4194304)(q:δ PP):∀p b,l=p++q->aL q<b->
  alu FU l b p (γ p)=θ l:=by
 induction q with
 |nil=>intro p b h f;obtain⟨b,rfl⟩:=bV b;rw[bdk,apb,aA aA6,h,gD]
 |cons a q i=>intro p b h f;obtain⟨b,rfl⟩:=bV b;have d:=bF aL h;simp at d f;have c:(0:Int)<=(aL p:Int)/\(aL p:Int)<(aL l:Int):=aA0;have j:el l (aL p:Int)=a:=aA9;obtain⟨g,m⟩:=k a aA6;have e:=i (p++[a]) b aA6 aA0;rw[show(γ (p++[a]):Int)=(aL p:Int)+1 by simp]at e;rw[bdk,apb,aB c.2,aS c,aS c,j,XI _ aA0,aR,g];rw[aS aA2,aS (cA _ aA0 aA0)];exact e
theorem DU(l:δ PP)(b:aL l<=16)(a:∀p∈l,cK p.1=p.1/\γ p.1<=4194304):avf FU l=θ (fU l):=by unfold avf;have h:alu FU l FU [] 0=θ l:=G6 l aA0 a l [] FU rfl aA4;rw[h,aR,bcb l aA0,aR]
theorem fe(a:aC)(h:aL a<=4194303)(g:jW a=μ):atx FU a=θ μ:=by obtain⟨t1,t2⟩:=telA a [] a [] aA3 (λc i=>by cases i) g;rw[iP]at t1;obtain⟨u,r,k,m,j,l,d⟩:=DQ a h 0 (cW _);have b:aev FU (a,0,0,0)=θ (u,r):=k;obtain⟨f,e⟩:=d (by rw[t1]);unfold atx;rw[b,aR,e,f,t1];rw[aD rfl];rfl
theorem WY(u:aC)(h:jW u=μ):∀c∈u,eJ c=ν:=by
 unfold jW at h;simp only[lA]at h;have g:=h.2;intro c f;have i:∀d c,lW d c=μ->eJ c=ν:=by intro d;cases d<;>exact fM _ aA5
 cases u with
 |nil=>cases f
 |cons a u=>
  by_cases b:a=43
  ·subst b;rcases aQ.1 f with h|h
   ·rw[h];decide
   ·exact i _ c (aT.1 g c h)
  ·have j:¬43=a:=λe=>b e.symm;have k:iD (a::u) [43]=a::u:=by unfold iD oI;simp[j]
   rw[k]at g;exact i _ c (aT.1 g c f)
theorem W1(u:aC)(h:jW u=μ):aL u<=31:=by
 unfold jW at h;simp at h;have d:=h.1.2;cases u with
 |nil=>exact cW _
 |cons a u=>
  by_cases b:a=43
  ·subst b;have c:iD (43::u) [43]=u:=by unfold iD oI;simp
   rw[c]at d;rw[cN];omega
  ·have f:¬43=a:=λe=>b e.symm;have c:iD (a::u) [43]=a::u:=by unfold iD oI;simp[f]
   rw[c]at d;omega
theorem DT(u:UU)(a:Good u)(t:uj u):bcz FU u=θ (u,0):=by
 obtain⟨y,s,r,n,m⟩:=t;have e:cK u.1=u.1:=by rcases a.qv with⟨h|h,_⟩|⟨h,_⟩<;>rw[h]<;>rfl
 have i:∀p∈u.2.2.2.2.1,cK p.1=p.1/\γ p.1<=4194304:=λp d=>⟨(a.ps.2 p d).2.1,(n p d).1⟩;have g:∀p∈u.2.2.2.2.2,cK p.1=p.1/\γ p.1<=4194304:=λp d=>⟨(a.hs.2 p d).2.1,(m p d).1⟩
 have f:(!u.2.1.any eJ)=μ:=by
  rcases a.qv with⟨_,_,_,_,h⟩|⟨_,_,_,_,h⟩
  ·rw[<-Fi];exact h
  ·have v:u.2.1.any eJ=ν:=by rw[dC];intro c x;have w:=WY u.2.1 h c x;rw[w];decide
   rw[v];rfl
 unfold bcz;rw[XI _ aA0,aR,e,Ma 1 (.inl rfl) _ a.pl a.ps n,aR,gL,aH,Ma 2 (.inr rfl) _ a.hl a.hs m,aR,gL,aH,zZ _ s,aR,aR,f,gL,aH,DU _ a.pl i,aR,DU _ a.hl g,aR,a.pi,a.hi];rcases a.qv with⟨h,l,q,o,k⟩|⟨h,l,q,o,k⟩
 ·have b:(if u.1=[115,105,112]then θ (decide (u.1=[115,105,112]))else θ (decide (u.1=[115,105,112,115])))=θ μ:=by rcases h with h|h<;>rw[h]<;>rfl
  rw[b,aR,aM,bfs _ r,aR,l];rw[gL,aH,aA aA0,aE aA0,aR,aH]
 ·have b:(if u.1=[115,105,112]then θ (decide (u.1=[115,105,112]))else θ (decide (u.1=[115,105,112,115])))=θ ν:=by rw[h];rfl
  have j:(aL u.2.2.2.2.2:Int)=0:=by rw[o];rfl
  rw[b,aR,aH,aB (show u.1=([116,101,108]:aC)from h),aB l,aB q,aB j,fe _ (by have:=W1 _ k;omega) k,aR,aR,aM]
theorem G9(s:aC)(r:aL s<=4194304)(k:Int)(l:k=0\/k=1\/k=2)(q:aC):∀p d,s=p++q->aL q<d->
  ann FU s k d (kM k p) (γ p)=θ (kM k s):=by
 induction q with
 |nil=>intro p d h f;obtain⟨d,rfl⟩:=bV d;rw[ber,ary,aA aA6,h,gD]
 |cons c q j=>
  intro p d h f;obtain⟨d,rfl⟩:=bV d;have e:=bF aL h;simp at e f;have b:(0:Int)<=(aL p:Int)/\(aL p:Int)<(aL s:Int):=aA0;have n:at_ s (aL p:Int)=c:=by rw[h];simp[at_]
  have a:=j (p++[c]) d aA6 aA0;have m:=Xm k p;have o:kM k (p++[c])=kM k p++MB k c:=by unfold kM;rw[NN,iX]
  rw[show(γ (p++[c]):Int)=(aL p:Int)+1 by simp,o]at a;rw[ber,ary,aB b.2,aS b,PE _ k l,n,aR];unfold MB at a;cases g:Ik c k with
  |true=>rw[g]at a;rw[aS b,aS aA2,aS (cA _ aA0 aA0)];exact a
  |false=>rw[g]at a;have t:=fI c;have i:(γ ([48,49,50,51,52,53,54,55,56,57,65,66,67,68,69,70]:aC))=16:=rfl;have v:(c/16).toNat=c.toNat/16:=UInt8.toNat_div c 16;have u:(c%16).toNat=c.toNat%16:=UInt8.toNat_mod c 16;rw[aH,aS b,aS aA1,aS aA0,aS b,aS aA1,aS aA0,aS aA2,aS (cA _ aA0 aA0)];exact a
theorem rR(s:aC)(a:aL s<=4194304)(k:Int)(b:k=0\/k=1\/k=2):aoq FU s k=θ (kM k s):=by unfold aoq;have h:ann FU s k FU [] 0=θ _:=G9 s a k b s [] FU rfl aA4;rw[h,aR]
def qe(k:Int)(p:PP):aC:=kM k p.1++(bif p.2.2 then 61::kM k p.2.1 else [])
def SW(k:Int)(a:aC):aC->δ PP->aC
 |_,[]=>[]
 |m,p::r=>m++(qe k p++SW k a a r)
theorem KI(k:Int)(w:k=1\/k=2)(c:aC)(m:aL c<=1)(l:δ PP)(z:aL l<=16)(y:∀p∈l,aL p.1<=4194304/\γ p.2.1<=4194304)(r:δ PP):∀pre b (out mk),l=pre++r->aL r<b->aL mk<=1->aL out<=aL pre*30000000->
  alc FU l c k b out mk (γ pre)=θ (out++SW k c mk r):=by
 have g:k=0\/k=1\/k=2:=.inr w;induction r with
 |nil=>intro pre b out mk h q v u;obtain⟨b,rfl⟩:=bV b;rw[gD]at h;rw[bgo,atw,aA aA6];simp[SW]
 |cons p r s=>
  intro pre b out mk h q v u;obtain⟨b,rfl⟩:=bV b;have f:=bF aL h;simp at f q;have a:0<=(aL pre:Int)/\(aL pre:Int)<(aL l:Int):=aA0;have x:el l (aL pre:Int)=p:=aA9
  have j:=y p aA6;have B:=Xm k p.1;have A:=Xm k p.2.1;have d:bK ((aL pre:Int)+1):=cA _ aA0 aA0;have next:∀o:aC,o=out++(mk++qe k p)->alc FU l c k b o c ((aL pre:Int)+1)=θ (out++SW k c mk (p::r)):=by
   intro o e;have t:γ (qe k p)<=25165830:=by
    unfold qe;rw[cG];cases p.2.2 with
    |true=>rw[aM,cN];omega
    |false=>rw[aH,iP];omega
   have i:=s (pre++[p]) b o c aA6 aA0 m (by rw[e];simp;omega);rw[show(γ (pre++[p]):Int)=(aL pre:Int)+1 by simp]at i;rw[i,e];simp[SW]
  rw[bgo,atw,aB a.2,aS aA0,aS a,aS a,x,rR _ j.1 k g,aR,aS aA2,aS a,aS a];cases n:p.2.2 with
  |true=>
   rw[aS aA2,aS a,aS a,rR _ j.2 k g,aR,aS aA2,aS d];refine next _ ?_
   unfold qe;rw[n];simp
  |false=>
   rw[aS d];refine next _ ?_
   unfold qe;rw[n];simp
theorem Lv(k:Int)(f:k=1\/k=2)(a b:aC)(c:aL a<=1)(d:aL b<=1)(l:δ PP)(e:aL l<=16)(g:∀p∈l,aL p.1<=4194304/\γ p.2.1<=4194304):tq FU l a b k=θ (SW k b a l):=by unfold tq;have h:alc FU l b k FU [] a 0=θ ([]++SW k b a l):=KI k f b d l e g l [] FU [] a rfl aA4 c (cW _);rw[h,aR,Rl]
theorem NW:∀l:δ PP,SW 1 [59] [59] l=kG l
 |[]=>rfl
 |p::l=>by unfold SW kG;rw[NW l];rfl
theorem NX:∀l:δ PP,(∀p∈l,p.2.2=μ)->SW 2 [38] [38] l=vE l
 |[],_=>rfl
 |p::l,h=>by unfold SW vE;rw[NX l (λq a=>h q (eU _ a))];unfold qe Ew;rw[h p gK];rfl
theorem vb(l:δ PP)(h:∀p∈l,p.2.2=μ):SW 2 [38] [63] l=Td l:=by
 cases l with
 |nil=>rfl
 |cons p l=>unfold SW Td;rw[NX l (λq a=>h q (eU _ a))];unfold qe Ew;rw[h p gK];rfl
theorem H6:∀(k n a:Nat),n<10^(k+1)->k+1<a->k<=15->oo a n=θ (mC n):=by
 intro k;induction k with
 |zero=>intro n a h g c;obtain⟨a,rfl⟩:=bV a;rw[oo,aB aA0,dS,aS aA2,(pI n h).2.2,mC,Xx h]
 |succ k f=>
  intro n a h g c;obtain⟨a,rfl⟩:=bV a;have j:10^(k+1+1)<=10^17:=Nat.pow_le_pow_right aA1 aA0;rw[oo,mC];by_cases d:n<10
  ·rw[aB aA0,Xx d,dS,aS aA2,(pI n d).2.2]
  ·have m:n/10=((n/10:Nat):Int):=by omega
   have l:(n:Int)%10=((n%10:Nat):Int):=aA0;have e:n/10<10^(k+1):=aF1;have o:=(Pv k _ e).2.2.2;have b:0<=(n:Int)/\0<(10:Int)/\bK (n:Int):=⟨aA0,aA0,cA _ aA0 aA0⟩;have i:=pI (n%10) (NI _ aA1);rw[aA aA0,dif_neg d,aS b,m,f (n/10) a e aA0 aA0,aR,aS b,aS b,l,aS (cA _ aA0 aA0),aS aA2,i.2.2,aS aA2]
theorem H7(n:Int)(a:0<=n)(h:n<=65535):oo FU n=θ (gM n):=by obtain⟨m,rfl⟩:∃m:Nat,n=m:=⟨n.toNat,aA0⟩;exact H6 15 m FU aA0 aA4 aA1
theorem KL(u:UU)(e:Good u)(q:uj u):bff FU u=θ (ao u,0):=by
 have y:=DT u e q;obtain⟨E,t,D,o,n⟩:=q;have G:=uF _ o;have F:=Pe _ n;have i:=e.pl;have j:=e.hl;have v:=Xm 0 u.2.1;have a:0<=u.2.2.2.1/\u.2.2.2.1<=65535:=by
  rcases e.qv with⟨_,_,l,k,_⟩|⟨_,_,h,_⟩
  ·exact⟨l,k⟩
  ·omega
 have hit:=bgf u.2.2.2.1 a.1 a.2;have m:tq FU u.2.2.2.2.1 ([59]:aC) ([59]:aC) 1=θ (kG u.2.2.2.2.1):=by rw[Lv 1 (.inl rfl) _ _ aA1 aA1 _ i o,NW]
 have s:tq FU u.2.2.2.2.2 ([63]:aC) ([38]:aC) 2=θ (Td u.2.2.2.2.2):=by rw[Lv 2 (.inr rfl) _ _ aA1 aA1 _ j n,vb _ (λp x=>(e.hs.2 p x).2.2.2.2.2 rfl)]
 unfold bff;rw[y,aR];dsimp only;rw[aB rfl];by_cases b:u.1=pg
 ·rw[aB (show u.1=([116,101,108]:aC)from b),aS aB9,m,aR,aS aB2];rcases e.qv with⟨h|h,_⟩|⟨h,l,k,z,H⟩
  ·rw[h]at b;exact absurd b aA1
  ·rw[h]at b;exact absurd b aA1
  ·have g:Ue u=u.2.1:=aB b;have A:JB u.2.2.2.1=[]:=aB k;unfold ao;rw[g,A,l,z,h];unfold pg Td;simp
 ·have g:Ue u=if u.2.1=[]then []else kM 0 u.2.1++[64]:=aA b
  rw[aA (show¬u.1=[116,101,108]from b),aS aC3];have C:(if u.2.1=([]:aC)then θ (u.1++([58]:aC))else((aoq FU u.2.1 (0:Int)).bind λ(c:aC)=>(gd (γ (u.1++([58]:aC))+aL c<=9223372036854775807)<|(gd (γ ((u.1++[58])++c)+γ ([64]:aC)<=9223372036854775807)<|some (((u.1++([58]:aC))++c)++([64]:aC))))))=θ (u.1++([58]:aC)++Ue u):=by
   rw[g];by_cases d:u.2.1=[]
   ·rw[aB d,aB d,gD]
   ·rw[aA d,aA d,rR _ t 0 (.inl rfl),aR,aS aA2,aS aA2,gZ]
  have w:γ (Ue u)<=12582913:=by
   rw[g];split
   ·exact cW _
   ·rw[cG,eI];omega
  rw[C,aR,aS aA2];have B:(if(0:Int)<u.2.2.2.1 then(gd (γ ((u.1++([58]:aC)++Ue u)++u.2.2.1)+γ ([58]:aC)<=9223372036854775807)<|((oo FU u.2.2.2.1).bind λ(f:aC)=>(gd (γ (((u.1++[58]++Ue u)++u.2.2.1)++[58])+aL f<=9223372036854775807)<|some ((((u.1++[58]++Ue u)++u.2.2.1)++[58])++f))))else θ ((u.1++[58]++Ue u)++u.2.2.1))=θ ((u.1++[58]++Ue u)++u.2.2.1++JB u.2.2.2.1):=by
   unfold JB;by_cases d:u.2.2.2.1=0
   ·rw[aA aA0,aB d,gD]
   ·rw[aB aA0,aA d,aS aA2,H7 _ a.1 a.2,aR,aS aA2];simp
  have r:γ (JB u.2.2.2.1)<=6:=by
   unfold JB;split
   ·exact cW _
   ·rw[cN];omega
  rw[B,aR,m,aR,aS aA2,s,aR,aS aA2];unfold ao;simp
open Go.Lib renaming join → cY
theorem GK(c b:ζ):fT [c] b=decide (b=c):=by
 unfold fT;simp;by_cases h:b=c
 ·subst h;simp
 ·rw[aE h];exact dX.2 (λe=>h e.symm)
theorem Kt(c:ζ)(s:aC)(k:Nat)(a:k<aL s)(h:at_ s k=c):bP [c] s k=k:=by unfold bP;rw[Iq s k a,lQ _ _ _ (by rw[GK,h,aD rfl];rfl),Ru]
theorem Ks(c:ζ)(s:aC)(k:Nat)(a:k<aL s)(h:¬at_ s k=c):bP [c] s k=bP [c] s (k+1):=rM [c] s k a (by rw[GK,aE h])
theorem A8(c:ζ)(s:aC)(k:Nat)(a:aL s<=k):bP [c] s k=k:=by unfold bP;rw[Rm a];rfl
theorem KP(s:aC)(f:aL s<=4194304)(c:ζ)(n:Nat):∀k a,k+n=aL s->n<a->
  avz FU s c a k=θ (if bP [c] s k<aL s then .inr (bP [c] s k)else .inl ()):=by
 induction n with
 |zero=>intro k a d e;obtain⟨a,rfl⟩:=bV a;rw[bgr,aua,aA aA0,A8 c s k aA0,aA aA0]
 |succ n b=>
  intro k a d e;obtain⟨a,rfl⟩:=bV a;rw[bgr,aua,aB aA0,aS aA0];by_cases h:at_ s k=c
  ·rw[aB h,Kt c s k aA0 h,aB aA0]
  ·rw[aA h,aS (cA _ aA0 aA0),lZ,b _ a aA0 aA0,Ks c s k aA0 h]
theorem Mb(s:aC)(a:aL s<=4194304)(k:Nat)(b:k<=aL s)(c:ζ):awa FU s k c=θ (if bP [c] s k<aL s then(bP [c] s k:Int)else-1):=by
 unfold awa;rw[KP s a c (aL s-k) k FU aA0 aA4,aR];split
 ·rw[Rt]
 ·rw[kA]
theorem Lm(p:ζ->η)(c:ζ)(e:p c=ν):∀(a b:aC),cI p (a++c::b)<=aL a
 |[],b=>by rw[Rl,lQ _ _ _ e];exact dO _
 |d::a,b=>by have:=Lm p c e a b;rw[NM,cI,cN];split<;>omega
theorem wY(p:ζ->η)(s:aC)(i m:Nat)(b:i<=m)(a:m<aL s)(h:p (at_ s m)=ν):bT p s i<=m:=by
 have e:s.drop i=(s.drop i).take (m-i)++at_ s m::s.drop (m+1):=by
  conv=>lhs;rw[<-NO (m-i) (s.drop i)]
  rw[Rx,show i+(m-i)=m by omega,Iq s m a]
 unfold bT;rw[tt i (γ s) aA0,e];have:=Lm p _ h ((s.drop i).take (m-i)) (s.drop (m+1));rw[jS]at this;omega
theorem O9(sep:aC):∀c:δ aC,(∀x∈c,x≠[])->(cY c sep=[]↔c=[])
 |[],_=>⟨λ_=>rfl,λ_=>rfl⟩
 |[a],h=>by rw[jn1];exact⟨λe=>absurd e (h a gK),λe=>by cases e⟩
 |a::b::c,h=>by refine⟨λe=> ?_,λe=>by cases e⟩;have:=NK.1 e;exact absurd this.1 (h a gK)
theorem UH(s:aC)(V:aL s<=1024)(m:Nat)(v:m<aL s)(l:at_ s m=60)(n:Nat):∀i o f (b:δ aC),m-i<=n->n<o->n<f->i<=m->bP [60] s i=m->(∀x∈b,x≠[])->γ (cY b [32])<=2*i->
  ∃j,alv FU s m o i (cY b [32])=θ j/\
   ((kV s f i b).1=0->j=.inl (cY (kV s f i b).2.2 [32])/\(kV s f i b).2.1=m)/\(¬(kV s f i b).1=0->∃a,j=.inr ([],0,a,(kV s f i b).1)):=by
 induction n with
 |zero=>
  intro i o f b S T J y D C U;obtain⟨o,rfl⟩:=bV o;obtain⟨f,rfl⟩:∃m,f=m+1:=⟨f-1,aA0⟩;obtain rfl:i=m:=aA0;have q:cR s i 60=μ:=by unfold cR;rw[aD v,l];rfl
  have r:kV s (f+1) i b=(0,i,b):=by rw[kV,q,aB rfl]
  rw[avg,ake,aA aA0,r];exact⟨_,rfl,λ_=>⟨rfl,rfl⟩,λh=>absurd rfl h⟩
 |succ n N=>
  intro i o f b S T J y D C U;by_cases A:i=m
  ·subst A;obtain⟨o,rfl⟩:=bV o;obtain⟨f,rfl⟩:∃m,f=m+1:=⟨f-1,aA0⟩;have q:cR s i 60=μ:=by unfold cR;rw[aD v,l];rfl
   have r:kV s (f+1) i b=(0,i,b):=by rw[kV,q,aB rfl]
   rw[avg,ake,aA aA0,r];exact⟨_,rfl,λ_=>⟨rfl,rfl⟩,λh=>absurd rfl h⟩
  ·obtain⟨o,rfl⟩:=bV o;obtain⟨f,rfl⟩:∃m,f=m+1:=⟨f-1,aA0⟩;have P:i<m:=aA0
   have q:cR s i 60=ν:=by
    cases q:cR s i 60 with
    |false=>rfl
    |true=>have L:=(wM q);rw[Kt 60 s i L.1 L.2]at D;exact absurd D A
   have t1:=Ca cJ s i aA0;have t2:=wY cJ s i m y v (by rw[l];decide);have t3:=Ca bX s (bT cJ s i) aA0;have t4:=wY bX s _ m t2 v (by rw[l];decide);have I:∀k:Nat,i<=k->k<=m->bP [60] s k=m:=by
    intro k F Q;have M:bP [60] s i=i+cI (λc=> !fT _ c) _:=rfl;have key:∀d k,d+k=m->i<=k->bP [60] s k=m:=by
     intro d;induction d with
     |zero=>intro k R z;rw[show k=m by omega];exact Kt 60 s m v l
     |succ d B=>
      intro k R z;have E:¬at_ s k=60:=λe=>by
       have:bP [60] s i<=k:=by have:=wY (λc=> !fT [60] c) s i k z aA0 (by rw[e];decide);unfold bT at this;rw[tt i (γ s) aA0]at this;exact this
       omega
      rw[Ks 60 s k aA0 E];exact B _ aA0 aA0
    exact key (m-k) k aA0 F
   rw[avg,ake,aB aA0,auy s aA0,aR];by_cases K:bT cJ s i=i
   ·have r:kV s (f+1) i b=(5,0,[]):=by rw[kV,q,aA aA1,aB K]
    rw[aB aA0,r];exact⟨_,rfl,λh=>absurd h (show¬5=0 by decide),λ_=>⟨_,rfl⟩⟩
   ·have r:kV s (f+1) i b=kV s f (bT bX s ((bT cJ s (i:Int)):Int)) (b++[sub s i ((bT cJ s (i:Int)):Int)]):=by rw[kV,q,aA aA1,aA K]
    have u:γ (sub s i ((bT cJ s (i:Int)):Int))=bT cJ s i-i:=aC4;have t:sub s i _≠[]:=λe=>by rw[e]at u;simp at u;omega
    have G:=Oq [32] b (sub s i ((bT cJ s (i:Int)):Int));have g:=O9 [32] b C;rw[aA aA0,r];have M:(if cY b [32]=([]:aC)then θ (cY b [32])else(gd (γ (cY b [32])+γ ([32]:aC)<=9223372036854775807)<|some (cY b [32]++([32]:aC))))=θ (if b=[]then []else cY b [32]++[32]):=by
     by_cases p:b=[]
     ·rw[aB (g.2 p),aB p,g.2 p]
     ·rw[aA (λe=>p (g.1 e)),aA p,aS aC3]
    have w:(if b=[]then []else cY b [32]++[32])++sub s (i:Int) ((bT cJ s (i:Int):Nat):Int)=cY (b++[sub s (i:Int) ((bT cJ s (i:Int):Nat):Int)]) [32]:=by
     rw[G];by_cases p:b=[]
     ·rw[aB p,aB p];rfl
     ·rw[aA p,aA p,gZ]
    have O:γ (if b=[]then([]:aC)else cY b [32]++[32])<=2*i+1:=by
     split
     ·exact cW _
     ·rw[cG,eI];omega
    have H:=bF aL w;rw[cG]at H;rw[M,aR,aS aA0,aS aA0,YC s aA0,w];refine N _ o f _ aA0 aA0 aA0 t4 (I _ aA0 t4) (λx hx=> ?_) aA0;rcases aV.1 hx with h|h
    ·exact C x h
    ·rw[aG.1 h];exact t
theorem PB(s:aC)(m:aL s<=1024)(nm:aC)(b e k:Nat)(p:b<=e)(o:e<=aL s)(n:k<=aL s):∃a,azn FU s nm b e k=θ (if(Fp (sub s b e)).1=0 then(if(fR (s.drop k)).2.2=0 then((nm,(Fp (sub s b e)).2,(fR (s.drop k)).1),a,0)else(nE,a,(fR (s.drop k)).2.2))else(nE,a,(Fp (sub s b e)).1)):=by
 obtain⟨a,⟨j,i⟩,l⟩:=KM (sub s (b:Int) (e:Int));have h:γ (s.drop k)=aL s-k:=fB;obtain⟨g,f⟩:=QA (s.drop k) aA0;unfold azn;rw[aS aA0,l,aR];dsimp only;by_cases c:(Fp (sub s (b:Int) (e:Int))).1=0
 ·rw[aB c,aS aA0,lB,rP _ aA0,aR];by_cases d:(fR (s.drop k)).2.2=0
  ·exact⟨0,by rw[aB d,aB c,aB d]⟩
  ·refine⟨(k:Int)+(fR (s.drop k)).2.1, ?_⟩;rw[aA d,aS (cA _ aA0 aA0),aB c,aA d];rfl
 ·refine⟨(b:Int)+a, ?_⟩;rw[aA c,aS (cA _ aA0 aA0),aA c];rfl
theorem Y7(s:aC)(i:aL s<=1024)(n:Nat):∀k a,k+n=aL s->n<a->ayd FU s a k=θ (bP [59,32,9] s k:Int):=by
 induction n with
 |zero=>
  intro k a f g;obtain⟨a,rfl⟩:=bV a;have:bP [59,32,9] s k=k:=by unfold bP;rw[Rm aA0];rfl
  rw[bic,awe,aA aA0,aR,aH,this]
 |succ n e=>
  intro k a f g;obtain⟨a,rfl⟩:=bV a;have h:(if(at_ s (k:Int))=(59:ζ)then θ ν else(gd (0<=(k:Int)/\(k:Int)<(aL s:Int))<|((y4 FU (at_ s (k:Int))).bind λ(b:η)=>θ (!b))))=θ (!fT [59,32,9] (at_ s (k:Int))):=by rw[aS aA0];generalize at_ s (k:Int)=c;revert c;exact fM _ aA5
  rw[bic,awe,aB aA0,aS aA0,h,aR];cases d:fT [59,32,9] (at_ s (k:Int))with
  |true=>
   have:bP [59,32,9] s k=k:=by unfold bP;rw[Iq s k aA0,lQ _ _ _ (by rw[d];rfl),Ru]
   rw[gL,aH,this]
  |false=>rw[vP,aM,aS (cA _ aA0 aA0),lZ,e _ a aA0 aA0,rM _ s k aA0 d]
theorem Y6(s:aC)(l:aL s<=1024)(e:Nat)(m:e<=aL s)(n:Nat):∀k b,k+n=e->n<b->∃a,ayc FU s e b k=θ (if bP [63,44] s k<e then .inr (nE,a,5)else .inl ()):=by
 induction n with
 |zero=>intro k b g h;obtain⟨b,rfl⟩:=bV b;have:=Kf [63,44] s k;exact⟨0,by rw[bib,awd,aA aA0,aA aA0]⟩
 |succ n f=>
  intro k b g h;obtain⟨b,rfl⟩:=bV b;have i:(gd (0<=(k:Int)/\(k:Int)<(aL s:Int))<|(if(at_ s (k:Int))=(63:ζ)then θ μ else(gd (0<=(k:Int)/\(k:Int)<(aL s:Int))<|some (decide ((at_ s (k:Int))=(44:ζ))))))=θ (fT [63,44] (at_ s (k:Int))):=by rw[aS aA0,aS aA0];generalize at_ s (k:Int)=c;revert c;exact fM _ aA5
  rw[bib,awd,aB aA0,i,aR];cases d:fT _ _ with
  |true=>
   have:bP [63,44] s k=k:=by unfold bP;rw[Iq s k aA0,lQ _ _ _ (by rw[d];rfl),Ru]
   exact⟨k,by rw[aB aA0];rfl⟩
  |false=>obtain⟨a,j⟩:=f (k+1) b aA0 aA0;exact⟨a,by rw[aH,aS (cA _ aA0 aA0),lZ,j,rM _ s k aA0 d]⟩
def pT(s nm:aC)(i:Nat):AA×ζ:=
 if(fQ s i).1=0 then(if(fR (s.drop (fQ s i).2.2)).2.2=0 then((nm,(fQ s i).2.1,(fR (s.drop (fQ s i).2.2)).1),0)else(nE,(fR (s.drop (fQ s i).2.2)).2.2))else(nE,(fQ s i).1)
theorem z1(s:aC)(a:¬1024<aL s):((fZ s).2,(fZ s).1)=if(pM s (bT bX s 0)).1=0 then pT s (pM s (bT bX s 0)).2.1 (pM s (bT bX s 0)).2.2 else(nE,(pM s (bT bX s 0)).1):=by
 unfold fZ pT;rw[aA a];split
 ·split
  ·split<;>rfl
  ·rfl
 ·rfl
theorem Uz(s:aC)(k:aL s<=1024)(nm:aC)(i:Nat)(e:cR s i 60=μ):∃a,((awa FU s i 62).bind λb=>(if b<0 then θ (nE,(aL s:Int),5)else(gd (bK (i+1))<|(gd (bK (b+1))<|((azn FU s nm (i+1) b (b+1)).bind λ(c:(AA×Int×ζ))=>θ (c.1,c.2.1,c.2.2))))))=θ ((pT s nm i).1,a,(pT s nm i).2):=by
 obtain⟨d,hO⟩:=wM e;have g:=Kf [62] s (i+1);have f:=Fs [62] s (i+1) d;rw[Mb s aA0 i aA0,aR,Ks 62 s i d (by rw[hO];decide)];unfold pT fQ;rw[e,aB rfl];by_cases j:bP [62] s (i+1)=aL s
 ·have h:(if bP [62] s (i+1)<aL s then((bP [62] s (i+1):Nat):Int)else-1)= -1:=aA aA0;rw[h,aB j];exact⟨_,rfl⟩
 ·have h:(if bP [62] s (i+1)<aL s then((bP [62] s (i+1):Nat):Int)else-1)=((bP [62] s (i+1):Nat):Int):=aB aA0;obtain⟨a,l⟩:=PB s k nm _ _ (bP [62] s (i+1)+1) g f aA0;rw[h,aA (show¬((bP [62] s (i+1):Nat):Int)<0 by omega),aA j,aS (cA _ aA0 aA0),aS (cA _ aA0 aA0),lZ,lZ,l];split
  ·split
   ·exact⟨_,rfl⟩
   ·exact⟨_,rfl⟩
  ·exact⟨_,rfl⟩
theorem UI(s:aC)(f:aL s<=1024)(i:Nat)(h:i<=aL s)(c:cR s i 60=ν):∃a,bid FU s i=θ ((pT s [] i).1,a,(pT s [] i).2):=by
 have d:=Kf [59,32,9] s i;have b:=Fs [59,32,9] s i h;obtain⟨a,l⟩:=Y6 s f _ b (bP [59,32,9] s i-i) i FU aA0 aA4;unfold bid;rw[Y7 s f (aL s-i) i FU aA0 aA4,aR,l,aR];by_cases g:bP [63,44] s i<bP [59,32,9] s i
 ·have e:fQ s i=(5,iE,0):=by unfold fQ;rw[c,aA (show¬(ν=μ)by decide),aB g]
  have j:pT s [] i=(nE,5):=by unfold pT;rw[e];exact aA (show¬(5:ζ)=0 by decide)
  rw[aB g,j];exact⟨_,rfl⟩
 ·have e:fQ s i=((Fp (sub s (i:Int) (bP [59,32,9] s i:Int))).1,(Fp (sub s (i:Int) (bP [59,32,9] s i:Int))).2,bP [59,32,9] s i):=by unfold fQ;rw[c,aA (show¬(ν=μ)by decide),aA g]
  obtain⟨m,k⟩:=PB s f [] i _ _ d b b;rw[k];unfold pT;rw[e];split
  ·split
   ·exact⟨_,rfl⟩
   ·exact⟨_,rfl⟩
  ·exact⟨_,rfl⟩
theorem LO(p:ζ->η)(c:ζ)(i:p c=ν)(s:aC)(b:Nat)(n:b<=aL s)(h:(s.take b).all p=μ):fT s c=decide (bP [c] s b<aL s):=by
 have e:=(NO b s).symm;have g:fT (s.take b) c=ν:=by unfold fT;rw[dC];intro x hx a;have:=aT.1 h x hx;rw[eq_of_beq a,i]at this;cases this
 have k:fT s c=fT (s.drop b) c:=by
  conv=>lhs;rw[e]
  unfold fT at g⊢;rw[List.any_append,g,NL]
 have m:γ (s.drop b)=aL s-b:=fB;have f:=bkk (λx=> !fT [c] x) (s.drop b);have o:=Tp (λx=> !fT [c] x) (s.drop b);rw[k];have l:bP [c] s b=b+cI _ _:=rfl;cases d:fT _ c with
 |true=>
  rw[aD];have:¬(s.drop b).all (λx=> !fT [c] x)=μ:=λj=>by obtain⟨x,hx,a⟩:=cV.1 d;have:=aT.1 j x hx;rw[GK,aD (eq_of_beq a)]at this;cases this
  have:¬cI (λx=> !fT [c] x) (s.drop b)=γ (s.drop b):=λe=>this (f.1 e);omega
 |false=>rw[aE];have:(s.drop b).all (λx=> !fT [c] x)=μ:=aT.2 (λx hx=>by have:=dC.1 d x hx;rw[GK,aE (λe=>this (by rw[e];simp))];rfl);have:=f.2 this;omega
theorem Ul(p:ζ->η):∀s:aC,(s.take (cI p s)).all p=μ
 |[]=>rfl
 |c::s=>by
  unfold cI;cases a:p c with
  |true=>rw[aB rfl,dY,Jf,a,Ul p s];rfl
  |false=>rw[aA aA1];rfl
theorem Lz(s:aC):∃a,akf FU s=θ ((fZ s).2,a,(fZ s).1):=by
 by_cases w:1024<aL s
 ·unfold akf fZ;rw[aB aA0,aB w];exact⟨_,rfl⟩
 ·have h:=z1 s w;have A:(fZ s).2=(if(pM s (bT bX s 0)).1=0 then pT s (pM s (bT bX s 0)).2.1 (pM s (bT bX s 0)).2.2 else(nE,(pM s (bT bX s 0)).1)).1:=bF Prod.fst h;have z:(fZ s).1=(if(pM s (bT bX s 0)).1=0 then pT s (pM s (bT bX s 0)).2.1 (pM s (bT bX s 0)).2.2 else(nE,(pM s (bT bX s 0)).1)).2:=bF Prod.snd h;rw[A,z];clear A z h;unfold akf;rw[aA aA0,YC s aA0,aR];have k:=jL bX s 0;have m:(s.take (bT bX s 0)).all bX=μ:=by rw[wZ];exact Ul bX s
  generalize bT bX s 0=b at k m⊢;have t:=LO bX 60 aA1 s b k m;have J:=Fs [60] s b k;have q:=Kf [60] s b;rw[Mb s aA0 b k,aR];have G:(if(if bP [60] s b<aL s then(bP [60] s b:Int)else-1)<(0:Int)then(if(b:Int)=(aL s:Int)then θ μ else(gd (0<=(b:Int)/\(b:Int)<(aL s:Int))<|some (!decide ((at_ s (b:Int))=(34:ζ)))))else θ ν)=θ (!fT s 60&& !cR s b 34):=by
   rw[t];by_cases i:bP [60] s b<aL s
   ·have o:(if bP [60] s b<aL s then((bP [60] s b:Nat):Int)else-1)=((bP [60] s b:Nat):Int):=aB i;rw[o,aA (show¬((bP [60] s b:Nat):Int)<0 by omega),aD i];rfl
   ·have o:(if bP [60] s b<aL s then((bP [60] s b:Nat):Int)else-1)= -1:=aA i;rw[o,aB (show(-1:Int)<0 by decide),aE i];unfold cR;by_cases n:b=aL s
    ·rw[aB aA0,aE aA0];rfl
    ·rw[aA aA0,aS aA0,aD (show b<aL s by omega)];by_cases d:at_ s (b:Int)=34
     ·rw[aD d,d];rfl
     ·rw[aE d,dX.2 d];rfl
  rw[G,aR];unfold pM;cases d:cR s b 34 with
  |true=>
   obtain⟨g,hO⟩:=wM d;rw[gL,eN,aH,aB rfl];unfold bbc;rw[aS aA0,aB hO,oY s aA0,aR];by_cases f:(tK s (b:Int)).2.2=0
   ·have D:=jL bX s (tK s (b:Int)).2.1;rw[aB f,aB f,YC s aA0,aR];have H:(if((bT bX s (tK s (b:Int)).2.1:Nat):Int)=(aL s:Int)then θ μ else(gd (0<=((bT bX s (tK s (b:Int)).2.1:Nat):Int)/\((bT bX s (tK s (b:Int)).2.1:Nat):Int)<(aL s:Int))<|some (!decide ((at_ s ((bT bX s (tK s (b:Int)).2.1:Nat):Int))=(60:ζ)))))=θ (!cR s (bT bX s (tK s (b:Int)).2.1) 60):=by
     generalize bT bX s (tK s (b:Int)).2.1=y at D⊢;unfold cR;by_cases C:y=aL s
     ·rw[aB aA0,aE aA0];rfl
     ·rw[aA aA0,aS aA0,aD (show y<aL s by omega)];by_cases c:at_ s (y:Int)=60
      ·rw[c];rfl
      ·rw[aE c,dX.2 c];rfl
    rw[H,aR];cases c:cR s (bT bX s (tK s (b:Int)).2.1) 60 with
    |true=>obtain⟨a,ea⟩:=Uz s aA0 (tK s (b:Int)).1 _ c;rw[aB rfl];exact⟨a,ea⟩
    |false=>rw[vP,aM,aR];dsimp only;rw[aA (show¬(5:ζ)=0 by decide)];exact⟨_,rfl⟩
   ·rw[aA f,aA f,aR];dsimp only;rw[aA f,aA f];exact⟨_,rfl⟩
  |false=>
   rw[aA (show¬(ν=μ)by decide)];cases i:fT s 60 with
   |false=>
    rw[aA (show¬(ν=μ)by decide)];dsimp only;rw[aB rfl];have c:cR s b 60=ν:=by
     cases B:cR s b 60 with
     |false=>rfl
     |true=>obtain⟨l,p⟩:=wM B;have v:=at_mem s b l;rw[p]at v;unfold fT at i;exact absurd (dC.1 i 60 v) aA3
    obtain⟨a,ea⟩:=UI s aA0 b k c;rw[ea];exact⟨_,rfl⟩
   |true=>
    rw[i]at t;have g:=bY t.symm;have hO:at_ s (bP [60] s b:Nat)=60:=by have:=bkf _ s b k g;rw[GK]at this;exact bY this
    rw[aB rfl];have o:(if bP _ s b<aL s then((bP [60] s b):Int)else-1)=(bP [60] s b:Nat):=aB g;rw[o];have n:b<aL s:=aA0;have r:¬at_ s _=34:=λe=>by unfold cR at d;rw[aD n,e]at d;cases d
    obtain⟨j,I,F,E⟩:=UH s aA0 _ g hO (bP [60] s b-b) b FU (aL s+1) [] aA0 aA4 aA0 q rfl (λx hx=>by cases hx) (cW _);have u:alv FU s (bP [60] s b:Nat) FU _ []=θ j:=I;unfold bbc;rw[aS aA0,aA r,u,aR];by_cases f:(kV s (aL s+1) b []).1=0
    ·obtain⟨l,p⟩:=F f;have c:cR s (bP [60] s b) 60=μ:=by unfold cR;rw[aD g,hO];rfl
     rw[l];dsimp only;rw[aB f,p];obtain⟨a,ea⟩:=Uz s aA0 _ _ c;exact⟨a,ea⟩
    ·obtain⟨a,l⟩:=E f;rw[l,Rt,aR];dsimp only;rw[aA f,aA f];exact⟨_,rfl⟩
theorem J3(v:aC)(b:aL v<=4194304):baz FU v=θ ((fZ (cT v)).2,(fZ (cT v)).1):=by obtain⟨a,e⟩:=Lz _;unfold baz;rw[bcd v b,aR,e,aR]
abbrev HH:=aC×aC
def eT(l:δ HH):Nat:=(l.map λz=>γ z.1+γ z.2).sum
theorem Uv(s:aC)(c:aL s<=4194304)(b e:Nat)(a:b<=e)(g:e<=aL s):∃k,bbd FU s (b:Int) (e:Int)=θ (k,cT (sub s (b:Int) (e:Int))):=by
 have d:=sub_le s (b:Int) (e:Int);have f:bT bX (sub s (b:Int) (e:Int)) 0<=γ (sub s (b:Int) (e:Int)):=by have:=Tp bX ((sub s (b:Int) (e:Int)).drop 0);unfold bT;rw[show Fo 0 (γ (sub s (b:Int) (e:Int)))=0 from tt 0 _ (cW _)];simp only[YN]at this⊢;omega
 unfold bbd;rw[aS aA0,YC _ aA0,aR,aS (cA _ aA0 aA0),bcd _ aA0];exact⟨_,rfl⟩
theorem fw(s:aC)(j:aL s<=4194303)(n:Nat):∀(i a:Nat),aL s-i<=n->n<a->i<=aL s->
  awj FU s a (i:Int)=θ ((i+cI (λc=> !(c==(62:ζ))) (s.drop i):Nat):Int):=by
 induction n with
 |zero=>intro i a f g d;obtain⟨a,rfl⟩:=bV a;obtain rfl:i=aL s:=aA0;rw[ayz,anp,aA aA0,aR,aH,Rm (dO _)];rfl
 |succ n e=>
  intro i a f g d;obtain⟨a,rfl⟩:=bV a;by_cases b:i<aL s
  ·rw[ayz,anp,aB aA0,aS aA0,aR,Iq s i b,cI];by_cases h:at_ s (i:Int)=62
   ·rw[aD h,gL,aH,h,aA aA1];rfl
   ·rw[aE h,vP,aM,aS (cA _ aA0 aA0),lZ,e (i+1) a aA0 aA0 b,aB aA8];congr 2;omega
  ·obtain rfl:i=aL s:=by omega
   rw[ayz,anp,aA aA0,aR,aH,Rm (dO _)];rfl
theorem TZ(s:aC)(T:aL s<=4194303)(n:Nat):∀(i t:Nat) (d:hY) (b:Nat),aL s-i<=n->n<t->b<=i->i<=aL s->aL d<=i->
  ∃j,aqi FU s 44 t d (b:Int) (i:Int)=θ j/\
   (match fA 0 (sub s (b:Int) (i:Int)) (s.drop i)with
   |.inl l=>∃(g:hY) (b':Nat),j=.inl (g,(b':Int))/\b'<=aL s/\γ g<=aL s/\g.map (·.2)++[cT (sub s (b':Int) (aL s:Int))]=d.map (·.2)++l
   |.inr e=>∃q a,j=.inr (q,a,e)):=by
 induction n with
 |zero=>intro i t d b W X E y J;obtain⟨t,rfl⟩:=bV t;obtain rfl:i=aL s:=aA0;rw[aza,anq,aA aA0,Rm (dO _),s0n];exact⟨_,rfl,d,b,rfl,aA0,J,rfl⟩
 |succ n D=>
  intro i t d b W X E y J;obtain⟨t,rfl⟩:=bV t;by_cases w:i<aL s
  ·have I:=Iq s i w;have v:sub s (b:Int) ((i+1:Nat):Int)=sub s (b:Int) (i:Int)++[at_ s (i:Int)]:=by rw[mW s b i 1 E,I];rfl
   rw[aza,anq,aB aA0,aS aA0,I,s0c];by_cases p:at_ s (i:Int)=44
   ·obtain⟨k,V⟩:=Uv s aA0 b i E y;have r:¬at_ s (i:Int)=34:=by rw[p];decide
    have f:¬at_ s (i:Int)=60:=by rw[p];decide
    have m:¬at_ s (i:Int)=62:=by rw[p];decide
    rw[aB p,aA r,aA f,aA m,aB p,V,aR,aS aC3,aS (cA _ aA0 aA0),aS (cA _ aA0 aA0),lZ];obtain⟨j,Y,C⟩:=D (i+1) t (d++[(k,cT (sub s (b:Int) (i:Int)))]) (i+1) aA0 aA0 (dO _) w aB4;refine⟨j,Y, ?_⟩;rw[Z4]at C;cases K:fA 0 [] (s.drop (i+1))with
    |inr e=>rw[K]at C;exact C
    |inl l=>rw[K]at C;obtain⟨g,b',P,O,N,M⟩:=C;refine⟨g,b',P,O,N, ?_⟩;rw[M,Ry,cf,gZ];rfl
   ·rw[aA p];by_cases r:at_ s (i:Int)=34
    ·rw[aB r,aB r,oY s aA0,aR];have Q:tK s (i:Int)=fV (s.drop (i+1)) (i+1) []:=by unfold tK;rw[aA aA0,aA (by rintro(h|h);omega;exact h r),lB]
     have F:=J4 (γ (s.drop (i+1))) (s.drop (i+1)) (i+1) [] (sub s (b:Int) (i:Int)++[at_ s (i:Int)]) (dO _);have A:=(zF (γ (s.drop (i+1))) (s.drop (i+1)) (i+1) [] (dO _)).2;have H:γ (s.drop (i+1))=aL s-(i+1):=fB;rw[Q];generalize fV (s.drop (i+1)) (i+1) []=U at F A⊢;by_cases B:U.2.2=0
     ·obtain⟨b1,Z⟩:=A B;obtain⟨o,G⟩:∃o:Nat,U.2.1=(o:Int):=⟨U.2.1.toNat,aA0⟩;rw[G]at b1 Z;have L:=F.1 B;rw[G,lB,<-v,<-mW s b (i+1) (o-(i+1)) aA0,Rx,show i+1+(o-(i+1))=o by omega]at L;rw[aB B,G,<-v,L];exact D o t d b aA0 aA0 aA0 aA0 aA0
     ·rw[aA B,F.2 B];exact⟨_,rfl,_,_,rfl⟩
    ·rw[aA r,aA r];by_cases m:at_ s (i:Int)=62
     ·have f:¬at_ s (i:Int)=60:=by rw[m];decide
      rw[aB m,aA f,aB m];exact⟨_,rfl,_,_,rfl⟩
     ·rw[aA m];by_cases f:at_ s (i:Int)=60
      ·have hx:fA 3 (sub s (b:Int) (i:Int)) (s.drop i)=fA 3 (sub s (b:Int) (i:Int)++[at_ s (i:Int)]) (s.drop (i+1)):=by rw[I,wi,aA (by rw[f];decide)]
       obtain⟨a1,a2⟩:=ang1 (s.drop i) (sub s (b:Int) (i:Int));have H:γ (s.drop i)=aL s-i:=fB;have u:=Ot (·==(62:ζ)) (s.drop i);have S:=Tp (λc=> !(c==(62:ζ))) (s.drop i);rw[aB f,aB f,fw s T (aL s-i) i FU (dO _) aA4 y,aR,<-hx];by_cases z:cI (λc=> !(c==(62:ζ))) (s.drop i)=γ (s.drop i)
       ·rw[aB z]at u;rw[aB aA0,a1 aA0];exact⟨_,rfl,_,_,rfl⟩
       ·rw[aA z]at u;have R:(dN (·==(62:ζ)) (s.drop i)).toNat=cI (λc=> !(c==(62:ζ))) (s.drop i):=by rw[u];simp
        rw[aA aA0,a2 aA0,R];generalize cI (λc=> !(c==(62:ζ))) (s.drop i)=x at*;rw[<-mW s b i (x+1) E,Rx,aS (cA _ aA0 aA0),show((i+x:Nat):Int)+1=((i+(x+1):Nat):Int)by omega];exact D (i+(x+1)) t d b aA0 aA0 aA0 aA0 aA0
      ·rw[aA f,aA f,aA m,aA p,aS (cA _ aA0 aA0),lZ,<-v];exact D (i+1) t d b aA0 aA0 aA0 w aA0
  ·obtain rfl:i=aL s:=by omega
   rw[aza,anq,aA aA0,Rm (dO _),s0n];exact⟨_,rfl,d,b,rfl,aA0,J,rfl⟩
theorem UA(s:aC)(n:aL s<=4194303):∃q a,bfh FU s 44=θ (q,a,(match fA 0 [] s with|.inl _=>0|.inr e=>e))/\(∀l,fA 0 [] s=.inl l->q.map (·.2)=l/\γ q<=aL s+1):=by
 obtain⟨j,p,b⟩:=TZ s n (γ s) 0 FU [] 0 aA0 aA4 (dO _) (cW _) (dO _);have d:aqi FU s 44 FU [] (0:Int) (0:Int)=θ j:=p;rw[Z4,YN]at b;unfold bfh;have e:(((y4 FU 44).bind λ(c:η)=>(bif c then θ μ else(if(44:ζ)=(34:ζ)then θ μ else(if(44:ζ)=(60:ζ)then θ μ else θ (decide ((44:ζ)=(62:ζ))))))))=θ ν:=by kernel_rfl
 rw[e,aR,aH,d,aR];cases f:fA 0 [] s with
 |inr e=>rw[f]at b;obtain⟨q,a,rfl⟩:=b;rw[Rt];exact⟨q,a,rfl,λl h=>by cases h⟩
 |inl l=>rw[f]at b;obtain⟨g,b',rfl,m,r,i⟩:=b;obtain⟨k,o⟩:=Uv s aA0 b' (γ s) m (dO _);rw[kA];dsimp only;rw[o,aR,aS aC3];refine⟨_,_,rfl,λl' h=> ?_⟩;have:=ae h;subst this;rw[Ry,cf,i];exact⟨rfl,by rw[cG,eI];omega⟩
theorem F7(c:(hY×Int×ζ))(k:aL c.1<=4194304)(q:hY):∀(p:hY) (b:Nat),c.1=p++q->aL q<b->
  asm FU c b (p.map (·.2)) (aL p:Int)=θ (if(q.map (·.2)).any (λx=>decide (x=[]))=μ then .inr ([],5)else .inl (c.1.map (·.2))):=by
 induction q with
 |nil=>intro p b h f;obtain⟨b,rfl⟩:=bV b;rw[gD]at h;rw[bhy,avv,aA aC6,h];rfl
 |cons a q g=>
  intro p b h f;obtain⟨b,rfl⟩:=bV b;have i:=bF aL h;simp only[cG,cN]at i f;have d:(0:Int)<=(aL p:Int)/\(aL p:Int)<(aL c.1:Int):=aA0;have j:el c.1 (aL p:Int)=a:=aA9;rw[bhy,avv,aB d.2,aS d,aS d,j,uX,Tx];by_cases e:a.2=[]
  ·rw[aB e,aD e,tS,aB rfl]
  ·rw[aA e,aE e,NL,aS d,aS d,aS (by simp only[Gf,eI];omega),aS (cA _ aA0 aA0)];have:=g (p++[a]) b aA6 aA0;rw[Ry,cf]at this;rw[show((aL p:Int)+1)=(γ (p++[a]):Int)by simp];exact this
theorem F8(v:aC)(g:aL v<=4194303):bhz FU v=θ (jC v):=by
 obtain⟨q,a,j,i⟩:=UA v g;unfold bhz jC;rw[j,aR];have d:=D4 v 0 [];cases f:fA 0 [] v with
 |inr e=>dsimp only;rw[aA (d e f)]
 |inl l=>
  obtain⟨h,k⟩:=i l f;dsimp only;have:=F7 (q,a,0) aE4 q [] FU rfl aA4;have b:asm FU (q,a,0) FU [] (0:Int)=_:=this;rw[aB rfl,b,aR,h];by_cases c:l.any (λx=>decide (x=[]))=μ
  ·rw[aB c,aB c,Rt]
  ·rw[aA c,aA c,kA]
theorem F9:∀x∈vI,tm FU x.1=θ (pN x.1):=aA5
theorem G0(c:aC):tm FU c=θ (pN c):=by
 by_cases h:∃x∈vI,x.1=c
 ·obtain⟨x,hx,rfl⟩:=h;exact F9 x hx
 ·have a:∀x∈vI,x.1≠c:=λx hx e=>h ⟨x,hx,e⟩;have:=Nk c a;unfold pN;rw[this,Gs c a];rfl
theorem ey(s:aC)(e:γ s<=4194304):aqc FU s FU 0=θ ((cI (λc=> !bX c) s:Nat):Int):=by
 have:=mZ (λc=> !bX c) s (aqc FU s) ?_ ?_ ?_ (γ s) 0 FU aA0 aA4
 ·rw[Jd]at this;exact this
 ·intro a;rw[ayu,amy,aA aA0];rfl
 ·intro a k b h;have d:bX (at_ s k)=μ:=by simpa using h
  rw[ayu,amy,aB aA0,aS aA0,bft,d];rfl
 ·intro a k b h;rw[ayu,amy,aB aA0,aS aA0,bft,aR,aR,h,aM,dS]
theorem OZ(v:aC)(a:γ v<=4194304):bav FU v=θ (xZ (cT v)):=by have b:=BZ v;have d:=Tp (λc=> !bX c) (cT v);have e:=jL bX (cT v) (cI (λc=> !bX c) (cT v):Int);unfold bav xZ;rw[bcd v a,aR,ey _ aA0,aR,aS aA0,lB,bhl _ aB8,aR,YC _ aA0,aR,aS aA0,lB]
theorem EH(v:aC)(b:γ v<=4194304):bdj FU v=θ (Kc v):=by
 have c:=BZ v;have d:=bjh (cT v);unfold bdj Kc;rw[OZ v b,aR];by_cases a:(xZ (cT v)).2.2=0
 ·rw[aB a,aB a,bce _ aA0];cases iH (xZ _).2.1<;>rfl
 ·rw[aA a,aA a]
theorem E8(v:aC)(c:γ v<=4194304):bhw FU v=θ (Xi v):=by
 have d:=BZ v;have e:=bjh (cT v);unfold bhw Xi;rw[OZ v c,aR];by_cases b:(xZ (cT v)).2.2=0
 ·rw[aB b,aB b,EH _ aA0,aR];by_cases a:(Kc (xZ (cT v)).2.1).2.2=0
  ·rw[aB a,aB a]
  ·rw[aA a,aA a]
 ·rw[aA b,aA b]
theorem ew(v:aC)(a:γ v<=4194304):bcw FU v=θ (eV (cT v)):=by have b:=BZ v;unfold bcw;rw[bcd v a,aR,bhl _ aA0,aR]
theorem er(a:AA)(i:Good a.2.1)(g:uj a.2.1)(o:γ a.1<=4194304)(r:γ a.2.2<20)(q:∀p∈a.2.2,γ p.1<=4194304/\γ p.2.1<=4194304):apd FU a=θ (xm a):=by
 have c:∀p∈fU a.2.2,γ p.1<=4194304/\γ p.2.1<=4194304:=λp n=>q p (tf _ p n);have k:=PX a.2.1 i g;have m:=uE (fU a.2.2) c;have l:=bkn a.1;have f:γ (fU a.2.2)<=100:=by rw[(bf a.2.2).length_eq];omega
 unfold apd xm;rw[KL _ i g,aR,bcb _ aA0,aR,bdt _ f c,aR,Lx _ o,aR,aB rfl];by_cases d:(rZ (fU a.2.2)).2=0
 ·rw[aB d];cases j:a.1.any eJ with
  |true=>
   have e:xD a.1=([],5):=by unfold xD;rw[j,aB rfl]
   rw[e,aR,show(!decide ((([]:aC),(5:ζ)).2=0))=μ from rfl,aM,aA (λh=>absurd h.1 aA1)]
  |false=>
   have e:xD a.1=(Zh a.1,0):=by unfold xD;rw[j,aA aA1]
   rw[e,aB (show ν=ν/\(rZ _).2=0 from⟨rfl,d⟩)];unfold dsT;dsimp only;by_cases b:a.1=[]
   ·rw[aB b,aB b,aS aC3,aS aA2,aS aA2];simp
   ·have s:[32,60].length=2:=rfl;rw[aA b,aA b,aS aA0,aS aC9,aS aA2,aS aA2];simp
 ·rw[aA d,aR,aM,aA (λh=>d h.2)]
theorem ej(s:aC)(f:γ s<=4194304)(n:Nat):∀k a,k+n=γ s->n<a->asj FU s a k=θ (if(s.drop k).any eJ=μ then .inr ([],5)else .inl ()):=by
 induction n with
 |zero=>intro k a c d;obtain⟨a,rfl⟩:=bV a;rw[bht,avs,aA aA0,Rm aA0];rfl
 |succ n b=>
  intro k a c d;obtain⟨a,rfl⟩:=bV a;have e:=Iq s k aA0;rw[bht,avs,aB aA0,aS aA0,bcc,aR,e,Tx];cases eJ _ with
  |true=>rfl
  |false=>rw[aH,NL,dS,show(k+1)=((k+1:Nat):Int)from rfl,b (k+1) a aA0 aA0]
theorem eo(s:aC)(a:γ s<=4194304):asj FU s FU 0=θ (if s.any eJ=μ then .inr ([],5)else .inl ()):=
 ej s a (γ s) 0 FU aA0 aA4
theorem Dh(c v:aC)(C:γ v<=4190000)(r:cT v=v):bdi FU c v=θ (Jj (pN c) (qS c) v):=by
 unfold bdi Jj;rw[G0,aR,r];generalize pN c=k;by_cases n:k=1
 ·rw[aB n,aB n];have e:(if c=([67,111,110,116,97,99,116]:aC)then θ (decide (v=([42]:aC)))else θ ν)=θ (decide (qS c=μ/\v=[42])):=by
   unfold qS;by_cases o:c=CONT
   ·rw[aB (show c=([67,111,110,116,97,99,116]:aC)from o),aD o];congr 1;rw[bZ];exact⟨λh=>⟨rfl,h⟩,λh=>h.2⟩
   ·rw[aA (show¬c=([67,111,110,116,97,99,116]:aC)from o),aE o,aE (λh=>absurd h.1 aA1)]
  rw[e,aR];by_cases f:qS c=μ/\v=[42]
  ·rw[aD f,aM,aB f,f.2]
  ·rw[aE f,aH,aA f,J3 v aA0,aR,r];dsimp only;by_cases a:(fZ v).1=0
   ·obtain⟨x,F,E⟩:=Qv _ a;obtain⟨A,H,z⟩:=SN v;rw[aB a,aB a,er _ x (A.sml aA1) aA0 aA0 (λp g=>by have:=z p g;omega),aR]
   ·rw[aA a,aA a]
 ·rw[aA n,aA n];by_cases m:k=2
  ·rw[aB m,aB m,G2 v aA0,aR];by_cases a:(mD v).2=0
   ·obtain⟨v1,t,B,v4⟩:=JU v aA0;have u:=Kr v;rw[aB a,aB a,Sl _ aA0 aA0 aA0 (λp g=>by have:=v4 p g;omega) aA0,aR]
   ·rw[aA a,aA a]
  ·rw[aA m,aA m];by_cases l:k=3
   ·obtain⟨d,q,s⟩:=Bt v;have w:=bb _ d q;rw[aB l,aB l,EH v aA0,aR];by_cases a:(Kc v).2.2=0
    ·rw[aB a,aB a,aux _ d aA0,aR,aS aC3,aS aB4,gZ];rfl
    ·rw[aA a,aA a]
   ·rw[aA l,aA l];by_cases j:k=4
    ·obtain⟨⟨d,q⟩,⟨s,y⟩,G⟩:=Mi v;have w:=bb _ d q;have D:=bb _ s y;rw[aB j,aB j,E8 v aA0,aR];by_cases a:(Xi v).2.2.2=0
     ·rw[aB a,aB a,aux _ d aA0,aR,aS aC3,aux _ s aA0,aR,aS aB4,aS aA2,aS aA2];simp
     ·rw[aA a,aA a]
    ·rw[aA j,aA j];by_cases i:k=5
     ·obtain⟨d,q⟩:=Jq v;rw[aB i,aB i,ew v aA0,aR,r];by_cases a:(eV v).2=0
      ·rw[aB a,aB a,aux _ d aA0,aR]
      ·rw[aA a,aA a]
     ·rw[aA i,aA i];have e:(if k=(6:Int)then θ (decide (k=(6:Int)))else θ (decide (k=(7:Int))))=θ (decide (k=6\/k=7)):=by
       by_cases b:k=6
       ·rw[aB b,aD b,aD (.inl b)]
       ·rw[aA b];congr 1;rw[bZ];exact⟨.inr,λh=>h.resolve_left b⟩
      rw[e,aR];by_cases b:k=6\/k=7
      ·rw[aD b,aM,aB b,UG v aA0,aR];by_cases a:(BT v).2=0
       ·obtain⟨v1,t⟩:=AR v aA0;have u:=Er v;rw[aB a,aB a,Ly _ aA0 aA0 (λp g=>by have:=t p g;omega),aR]
       ·rw[aA a,aA a]
      ·rw[aE b,aH,aA b,eo v aA0,aR];by_cases a:v.any eJ=μ
       ·rw[aB a,aB a,Rt]
       ·rw[aA a,aA a,kA]
theorem N1(v:aC):∀x∈(jC v).1,cT x=x:=by
 unfold jC;cases a:fA 0 [] v with
 |inr e=>intro x hx;cases hx
 |inl l=>
  dsimp only;split
  ·intro x hx;cases hx
  ·intro x hx;obtain⟨y,rfl⟩:=(Y4 v 0 [] l a).2 x hx;exact Db y
def jnC:δ aC->aC
 |[]=>[]
 |x::l=>[44,32]++x++jnC l
theorem FW(x:aC):∀l:δ aC,cY (x::l) [44,32]=x++jnC l
 |[]=>by rw[jn1,jnC,gD]
 |y::l=>by rw[jn2,FW y l,jnC];simp
theorem E6(a:aC×ζ)(L:δ aC×ζ)(t:γ L.1<=4194304)(r:δ aC):∀P o b,L.1=P++r->γ r<b->P≠[]->(∀x∈r,γ x<=4190000/\cT x=x)->γ o+265*Sb r+80002*γ r<=1000000000000000000->
  amq FU a L b o (γ P)=θ (if(yR (pN a.1) (qS a.1) r).2=0 then .inl (o++jnC (yR (pN a.1) (qS a.1) r).1)else .inr ([],(yR (pN a.1) (qS a.1) r).2)):=by
 induction r with
 |nil=>intro P o b h j k hx f;obtain⟨b,rfl⟩:=bV b;rw[gD]at h;rw[atv,alb,aA aC6];show _=θ (Sum.inl (o++[]));rw[gD]
 |cons x r n=>
  intro P o b h j k hx f;obtain⟨b,rfl⟩:=bV b;have i:γ L.1=γ P+(γ r+1):=by rw[h,cG,cN]
  have c:0<=(γ P:Int)/\(γ P:Int)<(γ L.1:Int):=aA0;have q:el L.1 (γ P:Int)=x:=aA9;have s:0<γ P:=bL.2 k;obtain⟨m,l⟩:=hx x gK;rw[cN]at j f;rw[nz]at f;have jZ:=Yi (pN a.1) (qS a.1) x aA0;have u:γ (o++[44,32])=γ o+2:=by rw[cG];rfl
  have g:(γ (P++[x]):Int)=(γ P:Int)+1:=by rw[cG];rfl
  have:=n (P++[x]) (o++[44,32]++(Jj (pN a.1) (qS a.1) x).1) b aA6 aA0 aA3 (λy p=>hx y (eU _ p)) aC9;rw[atv,alb,aB c.2,aS c,aS c,q,Dh _ x m l,aR,yR];by_cases e:(Jj (pN a.1) (qS a.1) x).2=0
  ·rw[aB e,aB e,aB aA0,aS (by show γ o+2<=_;omega),aR,aS aA0,aS (cA _ aA0 aA0),<-g,this];by_cases d:(yR (pN a.1) (qS a.1) r).2=0
   ·rw[aB d,aB d,jnC];simp
   ·rw[aA d,aA d,aA d]
  ·rw[aA e,aA e,aA e]
theorem E7(a:aC×ζ)(L:δ aC×ζ)(n:γ L.1<=4194304)(l:δ aC)(d:Nat)(h:L.1=l)(o:γ l<d)(hx:∀x∈l,γ x<=4190000/\cT x=x)(i:265*Sb l+80002*γ l<=1000000000000000000):
  amq FU a L d [] 0=θ (if(yR (pN a.1) (qS a.1) l).2=0 then .inl (cY (yR (pN a.1) (qS a.1) l).1 [44,32])else .inr ([],(yR (pN a.1) (qS a.1) l).2)):=by
 obtain⟨d,rfl⟩:=bV d;cases l with
 |nil=>rw[atv,alb,aA (by rw[h];decide)];rfl
 |cons x r=>
  have g:γ L.1=γ r+1:=by rw[h,cN]
  have c:0<=(0:Int)/\(0:Int)<(γ L.1:Int):=aA0;have p:el L.1 (0:Int)=x:=by rw[h];rfl
  obtain⟨k,j⟩:=hx x gK;rw[cN]at o i;rw[nz]at i;have jZ:=Yi (pN a.1) (qS a.1) x aA0;have:=E6 a L n r [x] ([]++(Jj (pN a.1) (qS a.1) x).1) d h aA0 aA3 (λy m=>hx y (eU _ m)) (by rw[Rl];omega);have b:amq FU a L d ([]++(Jj (pN a.1) (qS a.1) x).1) (0+1)=_:=this;rw[atv,alb,aB c.2,aS c,aS c,p,Dh _ x k j,aR,yR];by_cases f:(Jj (pN a.1) (qS a.1) x).2=0
  ·rw[aB f,aB f,aA aA0,aR,aS (by rw[iP];omega),aS (cA _ aA0 aA0),b];by_cases e:(yR (pN a.1) (qS a.1) r).2=0
   ·rw[aB e,aB e,aB rfl,FW,Rl]
   ·rw[aA e,aA e,aA e]
  ·rw[aA f,aA f,aA f]
theorem J1(nm v:aC)(j:γ nm<=4194304)(c:(iC nm).2=0)(h:γ v<=1100000):bhv FU nm v=θ (mU nm v):=by
 have i:=BZ v;have d:=pK nm c;have e:γ (iC nm).1<=64:=uU nm c;unfold bhv mU;rw[rV nm aA0,aR,aB c,aB c,Sn _ aA0,aR,d,aB rfl];unfold C2;cases k:Al (iC nm).1 with
 |false=>rw[vP,aM,bcd v aA0,aR,Dh _ _ aA0 (Db v),aR,aA aA1,C3 _ _ _ v (Db v)]
 |true=>
  obtain⟨g,f⟩:=EZ v;have hx:∀x∈(jC v).1,γ x<=4190000/\cT x=x:=λx hx=>⟨by have:=Ld _ x hx;omega,N1 v x hx⟩;have:=E7 (iC nm) _ aA0 (jC v).1 FU rfl aA4 hx aA0;rw[gL,aH,F8 v aA0,aR,aB rfl];by_cases b:(jC v).2=0
  ·rw[aB b,aB b,this,aR];by_cases a:(yR (pN (iC nm).1) (qS (iC nm).1) (jC v).1).2=0
   ·rw[aB a,aB a,kA]
   ·rw[aA a,aA a,Rt]
  ·rw[aA b,aA b]
open Go.Lib renaming hasPrefix → oI
theorem M2(s t:aC)(i:Nat):Lib.occAt s t i=decide (i+aL t<=aL s/\(s.drop i).take (γ t)=t)\/t=[]:=by
 by_cases h:i+aL t<=aL s
 ·left;rw[Lib.occAt_iff_take s t i h];by_cases e:(s.drop i).take (γ t)=t
  ·rw[aD ⟨h,e⟩];simpa using e
  ·rw[aE (λk=>e k.2)];simpa using e
 ·cases a:Lib.occAt s t i with
  |false=>left;rw[aE (λk=>h k.1)]
  |true=>
   rcases Lib.occAt_room a with k|k
   ·exact absurd k h
   ·exact .inr k
theorem KU(s t:aC)(i:Nat)(c:aL s<=1000000000)(b:aL t<=1000000000)(d:i<=1000000000)(a:t≠[]):oa FU s i t=θ (Lib.occAt s t i):=by
 rw[(M2 s t i).resolve_right a];unfold oa;rw[aB aA0,aS (cA _ aA0 aA0)];by_cases h:i+aL t<=aL s
 ·have e:sub s (i:Int) ((i:Int)+(aL t:Int))=(s.drop i).take (γ t):=by unfold sub;congr 1;omega
  rw[aB aA0,aS (cA _ aA0 aA0),aS ⟨aA0,aA0,aA0⟩,aR,e];congr 1;rw[bZ];exact⟨λk=>⟨h,k⟩,λk=>k.2⟩
 ·rw[aA aA0,aR,aE (λk=>h k.1)]
theorem fv(s t:aC)(i:Int)(a:i<0):oa FU s i t=θ ν:=by unfold oa;rw[aA aA0];rfl
def rf(s y:aC)(k:Nat):η:=Lib.occAt s (Jr y) k&&(decide (k=0)||(decide (2<=k)&&Lib.occAt s [13,10] (k-2)))
theorem AD(y:aC):γ (Jr y)=aL y+2:=rfl
theorem wq(s y:aC)(k:Nat)(a:aL s<=1000000000)(g:aL y<=70)(f:k<=1000000000):bao FU s k y=θ (rf s y k):=by
 have d:=AD y;have e:(([45,45]:aC)++y)=Jr y:=rfl;unfold bao rf;rw[aS aA2,e,KU s (Jr y) k a (by rw[d];omega) f (λh=>by cases h),aR];cases Lib.occAt s _ k with
 |false=>rfl
 |true=>
  by_cases c:k=0
  ·rw[aB aA0,aD c];rfl
  ·rw[aA aA0,aE c,aS ⟨aA0,aA0⟩];by_cases b:2<=k
   ·rw[show((k:Int)-2)=((k-2:Nat):Int)by omega,KU s [13,10] (k-2) a aA1 aA0 (λh=>by cases h),aD b];rfl
   ·rw[fv s _ _ aA0,aE b];rfl
def Ip(f:Nat->η):Nat->Nat->η
 |_,0=>ν
 |k,n+1=>f k||Ip f (k+1) n
theorem Fu(f:Nat->η):∀n k,Ip f k n=μ↔∃j,k<=j/\j<k+n/\f j=μ
 |0,k=>⟨λh=>Bool.noConfusion h,λ⟨j,c,b,_⟩=>by omega⟩
 |n+1,k=>by
  rw[Ip,YO,Fu f n _];constructor
  ·rintro(h|⟨j,c,b,a⟩)
   ·exact⟨k,dO _,aA0,h⟩
   ·exact⟨j,aA0,aA0,a⟩
  ·rintro⟨j,c,b,a⟩;by_cases e:j=k
   ·rw[e]at a;exact .inl a
   ·exact .inr ⟨j,aA0,aA0,a⟩
theorem wu(y:aC)(e:aL y<=70)(c:PU×η)(h:aL c.1.2<=1000000)(n:Nat):∀k a b,k+n=aL c.1.2->n<a->
  amn FU y c a b k=θ (b||Ip (rf c.1.2 y) k n):=by
 induction n with
 |zero=>intro k a b f g;obtain⟨a,rfl⟩:=bV a;rw[baq,apz,aA aA0,Ip,dU]
 |succ n d=>
  intro k a b f g;obtain⟨a,rfl⟩:=bV a;rw[baq,apz,aB aA0,Ip];cases b with
  |true=>rw[aS (cA _ aA0 aA0),lZ,d (k+1) a μ aA0 aA0];rfl
  |false=>rw[aH,wq _ y k aA0 e aA0,aR,aS (cA _ aA0 aA0),lZ,d _ a _ aA0 aA0,NL]
theorem gw(s a b:aC)(i:Nat):Lib.occAt s (a++b) i=(Lib.occAt s a i&&Lib.occAt s b (i+aL a)):=by
 unfold Lib.occAt;rw[<-Rx];generalize s.drop i=t;induction a generalizing t with
 |nil=>simp
 |cons c a e=>
  cases t with
  |nil=>simp
  |cons d t=>simp only[NM,List.isPrefixOf,cN,Hu,e t,Bool.and_assoc]
theorem od(y b:aC):Ip (rf b y) 0 (γ b)=Tk y b:=by
 have p:=AD y;rw[YP,Fu];unfold Tk;rw[YO,gJ,bM];have f:oI b (Jr y)=Lib.occAt b (Jr y) 0:=rfl;have a:=λi=>gw b [13,10] (Jr y) i;constructor
 ·rintro⟨j,s,r,d⟩;unfold rf at d;rw[lA,YO,aW,lA,aW]at d;obtain⟨d,l|⟨l,n⟩⟩:=d
  ·left;rw[f,<-l];exact d
  ·right;intro m;have e:=a (j-2);rw[n,show j-2+γ ([13,10]:aC)=j from(by show j-2+2=j;omega),d]at e;rcases Lib.index_spec b (13::10::Jr y)with⟨_,c⟩|⟨i,c,_⟩
   ·have:=c (j-2) aA0;rw[show(13::10::Jr y)=([13,10]++Jr y)from rfl,e]at this;cases this
   ·rw[c]at m;omega
 ·rintro(h|h)
  ·refine⟨0,dO _, ?_, ?_⟩
   ·rcases Lib.occAt_room (f▸h)with k|k
    ·omega
    ·cases k
   ·unfold rf;rw[<-f,h];rfl
  ·rcases Lib.index_spec b _ with⟨c,_⟩|⟨i,c,q,g,_⟩
   ·exact absurd c h
   ·have e:=a i;rw[show([13,10]++Jr y)=(13::10::Jr y)from rfl,g]at e;have e:=Bool.and_eq_true_iff.1 e.symm;refine⟨i+2,cW _, ?_, ?_⟩
    ·rcases Lib.occAt_room g with k|k
     ·simp at k;omega
     ·cases k
    ·unfold rf;have o:Lib.occAt b _ (i+2)=μ:=e.2;rw[o,Nat.add_sub_cancel,e.1];rfl
theorem wy(h:aC×aC)(i:Nat)(j:aL h.1<=4194304):∃r,bcv FU h i=θ r/\((r.2=0/\LM h=θ r.1/\i<64)\/(¬r.2=0/\(LM h=ι\/64<=i))):=by
 unfold bcv LM yc;rw[rV _ aA0,aR];by_cases a:(iC h.1).2=0
 ·have g:=uU _ a;rw[aB a,aB a];by_cases f:aL h.2<=1024
  ·have c:=pK h.1 a;rw[aA aA0,J1 _ _ aA0 (by rw[c]) aA0,aR];by_cases b:(mU (iC h.1).1 h.2).2=0
   ·rw[aB b];by_cases e:γ (mU (iC h.1).1 h.2).1<=1024
    ·rw[aA aA0,aB ⟨f,b,e⟩];by_cases d:64<=(i:Int)
     ·rw[aD d];exact⟨_,rfl,.inr ⟨aA1,.inr aA0⟩⟩
     ·rw[aE d];exact⟨_,rfl,.inl ⟨rfl,rfl,aA0⟩⟩
    ·rw[aB aA0,aA (λk=>e k.2.2)];exact⟨_,rfl,.inr ⟨aA1,.inl rfl⟩⟩
   ·rw[aA b,aA (λk=>b k.2.1)];exact⟨_,rfl,.inr ⟨b,.inl rfl⟩⟩
  ·rw[aB aA0,aA (λk=>f k.1)];exact⟨_,rfl,.inr ⟨aA1,.inl rfl⟩⟩
 ·rw[aA a,aA a];exact⟨_,rfl,.inr ⟨a,.inl rfl⟩⟩
theorem ep(f:PU)(s:∀h∈f.1,aL h.1<=4194304)(q:mA):∀p c b,f.1=p++q->aL q<c->aL b<=aL p->aL p<=64->
  amx FU f c (γ p) b=θ (if γ p+aL q<=64 then tdJ b (iQ LM q)else .inr (([],[]),ν)):=by
 induction q with
 |nil=>intro p c b h n v l;obtain⟨c,rfl⟩:=bV c;rw[bel,ars,aA aA6,aB (show γ p+[].length<=64 from l)];simp[iQ,tdJ]
 |cons a q o=>
  intro p c b h n v l;obtain⟨c,rfl⟩:=bV c;have i:=bF aL h;simp at i n;have j:0<=(aL p:Int)/\(aL p:Int)<(aL f.1:Int):=aA0;have u:el f.1 (aL p:Int)=a:=aA9;have t:((aL p:Int)+1)=(γ (p++[a]):Int):=aA3;have g:=s a aA6;obtain⟨r,x,w⟩:=wy a (γ p) g;rw[bel,ars,aB j.2,aS j,aS j,u,x,aR,iQ];rcases w with⟨k,d,y⟩|⟨k,d⟩
  ·rw[aB k,aS aA2,aS (cA _ aA0 aA0),t,o _ c _ aA6 aA0 aA2 aA2,d];have e:γ (p++[a])+aL q=aL p+γ (a::q):=by simp;omega
   rw[e];split
   ·cases iQ LM q with
    |none=>rfl
    |some m=>simp[tdJ]
   ·rfl
  ·rw[aA k];rcases d with d|d
   ·rw[d];split<;>rfl
   ·rw[aA (by rw[cN];omega)]
theorem wm(a:PU)(c:∀h∈a.1,aL h.1<=4194304)(e:aL a.1<=1000000)(f:aL a.2<=1000000):axn FU a=θ (tdR (JC a)):=by
 have d:=ep a c a.1 [] FU [] rfl aA4 aA3 aA3;have b:amx FU a FU 0 []=_:=d;unfold axn JC;rw[aS aA2,b,iP,Jd];by_cases h:aL a.1<=64
 ·rw[aB h,aB h];cases iQ LM a.1 with
  |none=>rfl
  |some m=>rfl
 ·rw[aA h,aA h];rfl
theorem RC{b:Type}(f:b->aC)(n:Nat):∀l:δ b,(∀x∈l,γ (f x)<=n)->γ (l.flatMap f)<=aL l*n
 |[],_=>by simp
 |a::l,h=>by have d:=h a gK;have c:=RC f n l (λx hx=>h x (eU _ hx));rw[Kh,cG,cN,iL];omega
theorem wv(c:PU×η)(o:aL c.1.1<=64)(j:∀h∈c.1.1,M1 h)(q:mA):∀p b s,c.1.1=p++q->aL q<b->aL s+1100*aL q<=1000000000000->
  ajx FU c b s (γ p)=θ (s++ar q):=by
 induction q with
 |nil=>intro p b s h g f;obtain⟨b,rfl⟩:=bV b;rw[bar,aqa,aA aA6];show _=θ (s++[]);rw[gD]
 |cons a q i=>intro p b s h g f;obtain⟨b,rfl⟩:=bV b;have e:=bF aL h;simp at e g f;have d:0<=(aL p:Int)/\(aL p:Int)<(aL c.1.1:Int):=aA0;have l:el c.1.1 (aL p:Int)=a:=aA9;have k:((aL p:Int)+1)=(γ (p++[a]):Int):=aA3;obtain⟨n,m⟩:=j a aA6;rw[bar,aqa,aB d.2,aS d,aS d,l,aS aA0,aS aA2,aS d,aS d,aS aA2,aS aA2,aS (cA _ aA0 aA0),k,i (p++[a]) b _ aA6 aA0 aA2,AU];simp
def rjJ(s:aC)(a:η)(y:aC):ε PL->(aC×η)⊕(δ ζ×ζ)
 |some v=>.inl (s++v.flatMap (EO y),a||v.any (λx=>Tk y x.2))
 |none=>.inr ([],2)
theorem wx(y:aC)(A:aL y<=70)(l:PL)(K:aL l<=8)(D:∀x∈l,(∀h∈x.1,aL h.1<=4194304)/\γ x.1<=1000000/\γ x.2<=1000000)(q:PL):∀p c s d,l=p++q->aL q<c->aL s+2000000*aL q<=100000000000->
  amo FU l y c s d (γ p)=θ (rjJ s d y (iQ JC q)):=by
 induction q with
 |nil=>intro p c s d h n k;obtain⟨c,rfl⟩:=bV c;rw[bas,aqb,aA aA6];simp[iQ,rjJ]
 |cons a q z=>
  intro p c s d h n k;obtain⟨c,rfl⟩:=bV c;have f:=bF aL h;simp at f n k;have g:(0:Int)<=(aL p:Int)/\(aL p:Int)<(aL l:Int):=aA0;have F:el l (aL p:Int)=a:=aA9;have E:((aL p:Int)+1)=(γ (p++[a]):Int):=aA3;obtain⟨w,v,u⟩:=D a aA6;rw[bas,aqb,aB g.2,aS g,aS g,F,wm a w v u,aR,iQ];cases C:JC a with
  |none=>rfl
  |some x=>
   obtain⟨b,o⟩:=x;obtain⟨r,J,e,j⟩:=Zk a (b,o) C;have e:aL b<=64:=e;subst r;have B:=Jw b j;have H:∀t:aC,ajx FU ((b,a.2),μ) FU t (0:Int)=ajx FU ((b,a.2),μ) FU t ((γ ([]:mA):Nat):Int):=λ_=>rfl;have G:=wu y A ((b,a.2),μ) (by show γ a.2<=_;omega) (γ a.2) 0 FU d (Jd _) aA4;have i:amn FU y ((b,a.2),μ) FU d (0:Int)=θ (d||Ip (rf a.2 y) 0 (γ a.2)):=G;have I:tdR (θ (b,a.2))=((b,a.2),μ):=rfl;rw[I,show(!((b,a.2),μ).2)=ν from rfl,aH,aS (by show γ s+2<=_;omega),aS aA2,aS aA2,H,wv ((b,a.2),μ) e j b [] FU _ rfl aA4 aA2,aR,i,aR,od];rw[aS aA2,aS aA2,aS aA2,aR,kA,aS (cA _ aA0 aA0),E,z _ c _ _ aA6 aA0 aA2];cases iQ JC q with
   |none=>rfl
   |some m=>show θ (Sum.inl _)=θ (Sum.inl _);rw[oC];simp[EO,Jr]
theorem xc(y:aC)(a:aL y<=9223372036854775807):bap FU y=θ (iH y&&decide (aL y<=70)):=by
 unfold bap;rw[bce y a];cases iH y with
 |false=>rfl
 |true=>
  have e:decide ((aL y:Int)<=70)=decide (aL y<=70):=by rw[bZ];omega
  rw[e];rfl
theorem rj_eq(y:aC)(r:aL y<=9223372036854775807)(l:PL)(d:∀x∈l,(∀h∈x.1,aL h.1<=4194304)/\γ x.1<=1000000/\γ x.2<=1000000):bdh FU l y=θ (jnP l y):=by
 unfold bdh;rw[xc y r,aR];by_cases b:(iH y=μ/\γ y<=70)/\1<=aL l/\γ l<=8
 ·obtain⟨⟨t,a⟩,p,o⟩:=b;have B:=wx y a l aA0 d l [] FU [] ν rfl aA4 aA2;have c:amo FU l y FU [] ν 0=_:=B;unfold jnP;rw[t,aD a,Bool.and_self,gL,aH,aA aA0,aE aA0,aR,aH,c,aR,aB ⟨⟨rfl,a⟩,p,o⟩];cases u:iQ JC l with
  |none=>rfl
  |some v=>
   obtain⟨G,n⟩:=uI _ _ _ u;have f:γ (v.flatMap (EO y))<=aL v*2000000:=by
    refine RC _ 2000000 v λx hx=> ?_;obtain⟨z,q,e⟩:=n x hx;obtain⟨m,F,E,k⟩:=Zk z x e;have:=Jw x.1 k;have:=(d z q).2.2;have s:aL x.2<=1000000:=by rw[m];exact this
    unfold EO;simp only[cG,cN,iP,AD];omega
   have D:rjJ [] ν y (θ v)=.inl (v.flatMap (EO y),v.any (λx=>Tk y x.2)):=by simp[rjJ]
   have C:(((v.flatMap (EO y)++[45,45])++y)++[45,45,13,10])=rk y v:=by unfold rk Jr;simp
   rw[D,kA];dsimp only;rw[aS aB9,aS aB2,aS aB2,C];cases H:v.any _ with
   |true=>rw[aM,aB rfl]
   |false=>
    rw[aH,aA (show¬(ν=μ)by decide)];by_cases i:8192<γ (rk y v)
    ·rw[aB aA0,aB i]
    ·rw[aA aA0,aA i]
 ·have w:jnP l y=([],2):=aA b;rw[w];cases g:(iH y&&decide (aL y<=70))with
  |false=>rfl
  |true=>
   rw[lA,aW]at g;by_cases j:(aL l:Int)=0
   ·rw[aB j];rfl
   ·rw[aA j,aD (show(8:Int)<aL l by
     by_cases A:aL l<=8
     ·exact absurd ⟨g,aA0,A⟩ b
     ·omega)];rfl
open Go.Lib renaming decDigits → mC, index → cE
open List renaming drop → cC, length → aL
open UInt8 renaming ofNat → qK
variable {l:δ Int}{n:Int}
theorem VJ{i:Int}(h:i∈l):i∈To l n:=by
 unfold To;split
 ·exact h
 ·simp[h]
theorem xG(l:δ Int)(n:Int):n∈To l n:=by
 unfold To;split
 ·assumption
 ·simp
theorem VL(l:δ Int)(n:Int):γ (To l n)<=aL l+1:=by unfold To;split<;>simp
def jA:aC->Nat->Int->δ Int->δ Int
 |[],_,_,a=>a
 |c::s,x,n,a=>if c<48\/57<c\/1125899906842624<n\/(0<x/\n=0)then a else jA s (x+1) (10*n+((c-48).toNat:Int)) (To a (10*n+((c-48).toNat:Int)))
theorem Ut(s:aC):∀x n a i,i∈a->i∈jA s x n a:=by
 induction s with
 |nil=>intro x n a i h;exact h
 |cons c s b=>
  intro x n a i h;unfold jA;split
  ·exact h
  ·exact b _ _ _ _ (VJ h)
theorem TX(s:aC):∀x n a,γ (jA s x n a)<=aL a+aL s:=by
 induction s with
 |nil=>intro x n a;exact dO _
 |cons c s b=>
  intro x n a;unfold jA;split
  ·omega
  ·have e:=b (x+1) (10*n+((c-48).toNat)) (To a (10*n+((c-48).toNat)));have d:=VL a (10*n+((c-48).toNat));rw[cN];omega
theorem dig_sc:∀d:Fin 10,¬qK (48+d.val)<48/\¬57<qK (48+d.val)/\(qK (48+d.val)-48).toNat=d.val:=aA5
theorem Lq(d:Nat)(c:d<10)(x:Nat)(n:Int)(j:n<=1125899906842624)(hx:0<x->n≠0)(a:aC)(b:δ Int):
  jA (qK (48+d)::a) x n b=jA a (x+1) (10*n+d) (To b (10*n+d)):=by
 obtain⟨i,g,f⟩:=dig_sc ⟨d,c⟩;have e:¬(qK (48+d)<48\/57<qK (48+d)\/1125899906842624<n\/(0<x/\n=0)):=by
  rintro(h|h|h|h)
  ·exact i h
  ·exact g h
  ·omega
  ·exact hx h.1 h.2
 rw[jA,aA e,f]
theorem E2:∀(k u:Nat),u<10^(k+1)->u<=11258999068426240->∀a b,∃c,(u:Int)∈c/\jA (mC u++a) 0 0 b=jA a (γ (mC u)) u c:=by
 intro k;induction k with
 |zero=>
  intro u h g a b;rw[mC,Xx h,pj,Lq u h 0 0 aA1 (by intro h;omega)];refine⟨To b (10*0+(u:Int)), ?_, ?_⟩
  ·have:=xG b (10*0+(u:Int));simpa using this
  ·simp
 |succ k f=>
  intro u h g a b;by_cases d:u<10
  ·rw[mC,Xx d,pj,Lq u d 0 0 aA1 (by intro h;omega)];refine⟨To b (10*0+(u:Int)), ?_, ?_⟩
   ·have:=xG b (10*0+(u:Int));simpa using this
   ·simp
  ·obtain⟨c,_,i⟩:=f (u/10) aF1 aA0 (qK (48+u%10)::a) b;have e:mC u=mC (u/10)++[qK (48+u%10)]:=by conv=>lhs;rw[mC,dif_neg d]
   rw[e,gZ,pj,i,Lq (u%10) (NI _ aA1) _ _ aA0 (by intro _;omega)];have j:10*(u/10:Nat)+(u%10:Nat)=(u:Int):=aA0;rw[j,cG];exact⟨_,xG _ _,rfl⟩
abbrev pW:δ ζ:=[45,45,98]
theorem xy(body s:aC)(k:cC (bH (cE body pW+3)) body=s)(z:aL s<=1000000000)(q:aC):∀p b n a,s=p++q->aL q<b->0<=n->n<=11258999068426249->
  alg FU body b n (γ p) a=θ (jA q (γ p) n a):=by
 have d:((aL body-bH (cE body pW+3):Nat):Int)=(aL s:Int):=by rw[<-k,fB]
 induction q with
 |nil=>intro p b n a h l x w;obtain⟨b,rfl⟩:=bV b;rw[azc,anw,d,aA aA6];rfl
 |cons c q m=>
  intro p b n a h l x w;obtain⟨b,rfl⟩:=bV b;have j:=bF aL h;simp at j l;have hO:at_ s (aL p:Int)=c:=by rw[h];simp[at_]
  have t:((aL p:Int)+1)=(γ (p++[c]):Int):=aA3;have y:(((c-48:ζ).toNat:Nat):Int)<=255:=by have:=(c-48).toNat_lt;omega
  rw[azc,anw,d,aB aA0,k,aS aA0,aS aA0,hO,jA];by_cases e:c<48
  ·rw[aB e,aB (.inl e)];rfl
  ·by_cases f:57<c
   ·rw[aA e,aB f,aB (.inr (.inl f))];rfl
   ·by_cases i:1125899906842624<n
    ·rw[aA e,aA f,aB i,aB (.inr (.inr (.inl i)))];rfl
    ·have A:(c-48:ζ).toNat<=9:=by have B:c.toNat<=57:=UInt8.not_lt.1 f;rw[XR _ _ (UInt8.not_lt.1 e)];show c.toNat-48<=9;omega
     by_cases g:0<(aL p:Int)/\n=0
     ·rw[aA e,aA f,aA i,aB g.1,aB (.inr (.inr (.inr ⟨aA0,g.2⟩))),aD g.2];rfl
     ·have u:¬(c<48\/57<c\/1125899906842624<n\/(0<aL p/\n=0)):=by
       rintro(h|h|h|h)
       ·exact e h
       ·exact f h
       ·exact i h
       ·exact g ⟨aA0,h.2⟩
      have o:(if(0:Int)<(aL p:Int)then θ (decide (n=0))else θ ν)=θ ν:=by
       split
       ·rename_i v;rw[aE (λh=>g ⟨v,h⟩)]
       ·rfl
      have r:=m (p++[c]) b (10*n+((c-48).toNat:Int)) (To a (10*n+((c-48).toNat:Int))) aA6 aA0 aA0 aA0;rw[aA e,aA f,aA i,o,aA u,aS (cA _ aA0 aA0),aS (cA _ aA0 aA0),aS (cA _ aA0 aA0),t,r];simp
theorem N0{v d e:aC}(h:pW++v=d++(pW++e)):d=[]\/∃w,d=pW++w:=by
 match d,h with
 |[],_=>exact .inl rfl
 |[a],h=>simp at h
 |[a,b],h=>simp at h
 |a::b::c::w,h=>simp at h;exact .inr ⟨w,by simp[<-h.1,<-h.2.1,<-h.2.2.1]⟩
theorem Q3:∀s:aC,(cE s pW= -1/\∀u v,s≠u++(pW++v))\/(∃u v,s=u++(pW++v)/\cE s pW=aL u/\∀c d,s=c++(pW++d)->c=u\/∃w,c=u++(pW++w))
 |[]=>.inl ⟨rfl,λu v h=>by simp at h⟩
 |b::l=>by
  rw[bck];by_cases e:List.isPrefixOf pW (b::l)=μ
  ·obtain⟨v,i⟩:=dW.1 e;refine .inr ⟨[],v,i.symm,by rw[aB e];rfl,λc d h=> ?_⟩;rw[<-i]at h;exact N0 h
  ·rw[aA e];have j:∀u v,b::l=u++(pW++v)->∃u',u=b::u'/\l=u'++(pW++v):=by
    intro u v h;cases u with
    |nil=>exact absurd (dW.2 ⟨v,h.symm⟩) e
    |cons a u=>simp at h;exact⟨u,by rw[h.1],h.2⟩
   rcases Q3 l with⟨g,f⟩|⟨u,v,g,f,m⟩
   ·refine .inl ⟨by rw[aB g],λu v h=> ?_⟩;obtain⟨u',_,h⟩:=j u v h;exact f u' v h
   ·refine .inr ⟨b::u,v,by rw[g];rfl,by rw[f];simp,λc d h=> ?_⟩;obtain⟨u',rfl,k⟩:=j c d h;rcases m u' d k with rfl|⟨w,rfl⟩
    ·exact .inl rfl
    ·exact .inr ⟨w,rfl⟩
def lS:Nat->aC->δ Int->δ Int
 |0,_,a=>a
 |k+1,b,a=>if 0<=cE b pW then lS k (cC (bH (cE b pW+3)) b) (jA (cC (bH (cE b pW+3)) b) 0 0 a)else a
theorem RJ{u v:aC}(h:n=aL u):cC (bH (n+3)) (u++(pW++v))=v:=by
 have e:bH (n+3)=γ (u++pW):=by rw[h];simp;omega
 rw[e,<-gZ,eM]
theorem Dw:∀k b a i,i∈a->i∈lS k b a
 |0,_,_,_,h=>h
 |k+1,b,a,i,h=>by
  unfold lS;split
  ·exact Dw k _ _ _ (Ut _ _ _ _ _ h)
  ·exact h
theorem Vv:∀k b a,γ (lS k b a)<=aL a+aL b*aL b
 |0,_,_=>Nat.le_add_right _ _
 |k+1,b,a=>by
  unfold lS;rcases Q3 b with⟨c,_⟩|⟨u,v,c,d,_⟩
  ·rw[c];exact Nat.le_add_right _ _
  ·rw[aB aA0,c,RJ (by rw[<-c];exact d)];have h:=Vv k v (jA v 0 0 a);have g:=TX v 0 0 a;have e:γ (u++(pW++v))=aL u+3+aL v:=by simp;omega
   have f:aL v*aL v+aL v<=(aL u+3+aL v)*(aL u+3+aL v):=by have:aL v*(aL v+1)<=(aL u+3+aL v)*(aL u+3+aL v):=af aA0 aA0;exact this
   rw[e];omega
theorem Vu(n:Nat)(i:n<=11258999068426240)(l:n<10^18):∀k b c (u a:aC),aL b<k->b=u++(pW++(mC n++a))->(n:Int)∈lS k b c
 |0,_,_,_,_,h,_=>absurd h (SQ _)
 |k+1,b,c,s,a,j,d=>by
  unfold lS;rcases Q3 b with⟨e,g⟩|⟨u,v,e,g,r⟩
  ·exact absurd d (g _ _)
  ·have o:cC (bH (cE b pW+3)) b=v:=by rw[e];exact RJ (by rw[<-e];exact g)
   rw[aB aA0,o];rcases r _ _ d with rfl|⟨w,rfl⟩
   ·have f:v=mC n++a:=by rw[e]at d;exact qI (qI d)
    obtain⟨m,q,p⟩:=E2 17 n l i a c;rw[f,p];exact Dw _ _ _ _ (Ut _ _ _ _ _ q)
   ·have f:v=w++(pW++(mC n++a)):=by rw[e,gZ]at d;exact qI (qI d)
    refine Vu n i l k v _ w a ?_ f;rw[e]at j;simp at j;omega
theorem M5:∀e (b:aC) a,aL b<e->aL b<=1000000->aqp FU e b a=θ (lS e b a)
 |0,_,_,h,_=>absurd h (SQ _)
 |e+1,b,a,h,n=>by
  rw[bha,aum,aS aA2];unfold lS;rcases Q3 b with⟨d,_⟩|⟨u,v,d,j,_⟩
  ·have k:=d;rw[k,aA aA1,aA aA1]
  ·have i:cE b [45,45,98]=(aL u:Int):=j;have l:cC (bH (cE b pW+3)) b=v:=by rw[d];exact RJ (by rw[<-d];exact j)
   have m:aL b=aL u+3+aL v:=by rw[d];simp;omega
   have f:=xy b v l aA0 v [] FU 0 a rfl aA4 aA1 aA1;have g:cC (bH ((aL u:Int)+3)) b=v:=by rw[<-j];exact l
   have c:alg FU b FU 0 0 a=θ (jA v 0 0 a):=f;rw[aB aA0,i,aS aA0,aS (cA _ aA0 aA0),aS aA0,c,aR,g,M5 e v _ aA0 aA0,aB aA0]
theorem KY:∀(n:Nat) (v:δ Int),(∀i:Nat,i<n->(i:Int)∈v)->n<=aL v
 |0,_,_=>cW _
 |n+1,v,h=>by have a:=h n (yQ _);have e:=KY n (v.erase (n:Int)) λi b=>(List.mem_erase_of_ne aA0).2 (h i aA0);have d:=List.length_erase_of_mem a;have c:0<aL v:=List.length_pos_of_mem a;omega
theorem ra(b:aC)(a:δ Int)(c:aL b<=20000):bfn FU a b=θ (lS FU b a):=by exact M5 FU b a aA4 aA0
theorem bd_lp0(parts:fF)(z:aL parts<=20)(q:fF):∀p d b,parts=p++q->aL q<d->(∀x∈q,aL x.2<=20000)->
  ∃r,afb FU parts d (γ p) b=θ r/\(∀i∈b,i∈r)/\γ r<=aL b+aL q*400000000/\∀x∈q,∀(u c:aC) n,n<=11258999068426240->x.2=u++(pW++(mC n++c))->(n:Int)∈r:=by
 induction q with
 |nil=>intro p d b h o _;obtain⟨d,rfl⟩:=bV d;refine⟨b, ?_,λ_ h=>h,aA3,λx hx=>by cases hx⟩;rw[ahk,aem,aA aA6]
 |cons a q t=>
  intro p d b h o l;obtain⟨d,rfl⟩:=bV d;have f:=bF aL h;simp at f o;have j:0<=(aL p:Int)/\(aL p:Int)<(aL parts:Int):=aA0;have v:el parts (aL p:Int)=a:=aA9;have k:=l a aA3;have g:((aL p:Int)+1)=(γ (p++[a]):Int):=aA3;obtain⟨r,y,s,C,w⟩:=t (p++[a]) d (lS FU a.2 b) aA6 aA0 λx hx=>l x (by simp[hx]);refine⟨r, ?_,λi g=>s i (Dw _ _ _ _ g), ?_, ?_⟩
  ·rw[ahk,aem,aB j.2,aS j,aS j,v,ra _ _ k,aR,aS (cA _ aA0 aA0),g,y]
  ·have B:=Vv FU a.2 b;have A:=af k k;rw[cN];omega
  ·intro x hx u c n m e;rcases aQ.1 hx with rfl|hx
   ·exact s _ (Vu n m aA0 FU _ b u c aA4 e)
   ·exact w x hx u c n m e
open Go.Lib renaming decDigits → mC
theorem VK{i:Int}(h:i∈To l n):i∈l\/i=n:=by
 unfold To at h;split at h
 ·exact .inl h
 ·rcases aV.1 h with h|h
  ·exact .inl h
  ·exact .inr (aG.1 h)
theorem dig_c:∀c:ζ,¬c<48->¬57<c->(c-48).toNat<10/\qK (48+(c-48).toNat)=c:=fM _ aA5
theorem Uu(i:Int):∀s x (n:Int) (pre:aC) b,((x=0/\n=0/\pre=[])\/(0<x/\∃k:Nat,n=k/\pre=mC k))->i∈jA s x n b->i∈b\/∃(j:Nat) (a:aC),i=j/\pre++s=mC j++a
 |[],x,n,pre,b,_,h=>.inl h
 |c::s,x,n,pre,b,p,h=>by
  unfold jA at h;split at h
  ·exact .inl h
  ·rename_i g;obtain⟨d1,d2⟩:=dig_c c (λk=>g (.inl k)) (λk=>g (.inr (.inl k)));obtain⟨k,o,m⟩:∃k:Nat,10*n+((c-48).toNat)=k/\pre++[c]=mC k:=by
    rcases p with⟨f,d,l⟩|⟨f,k,d,l⟩
    ·refine⟨(c-48).toNat,aA0, ?_⟩;rw[l,mC,Xx d1,d2];rfl
    ·have q:k≠0:=λe=>g (.inr (.inr (.inr ⟨f,by rw[d,e];rfl⟩)));refine⟨10*k+(c-48).toNat,aA0, ?_⟩;rw[l]
     conv=>rhs;rw[mC,dif_neg aA0]
     rw[show(10*k+(c-48).toNat)/10=k by omega,show(10*k+(c-48).toNat)%10=(c-48).toNat by omega,d2]
   rcases Uu i s _ _ _ _ (.inr ⟨Nat.succ_pos _,k,o,m⟩) h with h|⟨j,a,f,d⟩
   ·rcases VK h with h|h
    ·exact .inl h
    ·exact .inr ⟨k,s,by rw[h,o],by rw[<-m,gZ];rfl⟩
   ·exact .inr ⟨j,a,f,by rw[<-d,gZ];rfl⟩
theorem Mz(i:Int):∀k b c,i∈lS k b c->i∈c\/∃(j:Nat) (u a:aC),i=j/\b=u++(pW++(mC j++a))
 |0,_,_,h=>.inl h
 |k+1,b,c,h=>by
  unfold lS at h;split at h
  ·rename_i g;rcases Q3 b with⟨d,_⟩|⟨u,v,d,m,_⟩
   ·rw[d]at g;exact absurd g aA1
   ·rw[d,RJ (by rw[<-d];exact m)]at h;rcases Mz i k v _ h with h|⟨j,l,a,f,e⟩
    ·rcases Uu i v 0 0 [] c (.inl ⟨rfl,rfl,rfl⟩) h with h|⟨j,a,f,e⟩
     ·exact .inl h
     ·exact .inr ⟨j,u,a,f,by rw[d,<-e];rfl⟩
    ·exact .inr ⟨j,u++(pW++l),a,f,by rw[d,e];simp⟩
  ·exact .inl h
theorem nu(v:δ Int)(j:aL v<=1000000000000):∀b n,(∀i:Nat,i<n->(i:Int)∈v)->aL v-n<b->∃m:Nat,agq FU v b n=θ (m:Int)/\(m:Int)∉v/\m<=aL v/\∀i:Nat,i<m->(i:Int)∈v:=by
 intro b;induction b with
 |zero=>intro n _ h;exact absurd h (SQ _)
 |succ b e=>
  intro n c l;have g:=KY n v c;rw[bbl,ame];by_cases h:(n:Int)∈v
  ·have a:∀i:Nat,i<n+1->(i:Int)∈v:=by
    intro i k;by_cases d:i=n
    ·rw[d];exact h
    ·exact c i aA0
   have f:=KY (n+1) v a;rw[aB h,aS (cA _ aA0 aA0),lZ];exact e _ a aA0
  ·exact⟨n,by rw[aA h],h,g,c⟩
theorem nv(parts:PL)(y:aL parts<=20)(q:PL):∀p c b,parts=p++q->aL q<c->(∀x∈q,aL x.2<=20000)->
  ∃r,afb FU parts c (γ p) b=θ r/\∀i∈r,i∈b\/∃x∈q,∃(j:Nat) (u d:aC),i=j/\x.2=u++(pW++(mC j++d)):=by
 induction q with
 |nil=>intro p c b h n _;obtain⟨c,rfl⟩:=bV c;exact⟨b,by rw[ahk,aem,aA aA6],λi e=>.inl e⟩
 |cons a q o=>
  intro p c b h n m;obtain⟨c,rfl⟩:=bV c;have f:=bF aL h;simp at f n;have g:0<=(aL p:Int)/\(aL p:Int)<(aL parts:Int):=aA0;have s:el parts (aL p:Int)=a:=aA9;have t:=m a aA3;have e:((aL p:Int)+1)=(γ (p++[a]):Int):=aA3;obtain⟨r,w,v⟩:=o (p++[a]) c (lS FU a.2 b) aA6 aA0 λx hx=>m x (by simp[hx]);refine⟨r,by rw[ahk,aem,aB g.2,aS g,aS g,s,ra _ _ t,aR,aS (cA _ aA0 aA0),e,w],λi e=> ?_⟩;rcases v i e with l|⟨x,hx,k⟩
  ·rcases Mz i FU a.2 b l with l|k
   ·exact .inl l
   ·exact .inr ⟨a,gK,k⟩
  ·exact .inr ⟨x,eU _ hx,k⟩
theorem bdn_eq(l:PL)(f:aL l<=20)(e:∀x∈l,aL x.2<=20000):
  ∃m:Nat,aij FU l=θ (98::mC m)/\m<=8000000000/\(∀x∈l,∀u a:aC,x.2≠u++(pW++(mC m++a)))/\∀i:Nat,i<m->∃x∈l,∃u a:aC,x.2=u++(pW++(mC i++a)):=by
 obtain⟨r,g,_,s,q⟩:=bd_lp0 l f l [] FU [] rfl aA4 e;obtain⟨z,w,v⟩:=nv l f l [] FU [] rfl aA4 e;have t:=g.symm.trans w;cases t;simp at s;obtain⟨m,p,o,B,n⟩:=nu r aA0 FU 0 (λi b=>absurd b (SQ _)) aA4;have A:=(Pv 17 m aA0).2.2.2;refine⟨m, ?_,aA0,λx hx u a k=>o (q x hx u a m aA0 k),λi b=> ?_⟩
 ·have d:afb FU l FU 0 []=θ r:=g;have c:agq FU r FU (0:Int)=θ (m:Int):=p;unfold aij;rw[d,aR,c,aR,aS (cA _ aA0 aA0),nP,aS aA2];rfl
 ·rcases v _ (n i b)with h|⟨x,hx,j,u,a,C,y⟩
  ·cases h
  ·have:i=j:=by omega
   exact⟨x,hx,u,a,by rw[this];exact y⟩
def R0(t:aC)(x:PU):η:=Ip (λk=>Lib.occAt x.2 t k) 0 (γ x.2)
theorem QX(t:aC)(c:t≠[])(x:PU):R0 t x=μ↔∃u a:aC,x.2=u++(t++a):=by
 unfold R0;rw[Fu];constructor
 ·rintro⟨j,_,_,h⟩;obtain⟨Z,b⟩:=dW.1 (h);exact⟨x.2.take j,Z,by rw[b,NO]⟩
 ·rintro⟨u,a,h⟩;have d:=bL.2 c;refine⟨aL u,cW _,by rw[h];simp;omega, ?_⟩;rw[h];show List.isPrefixOf t _=μ;rw[eM];exact dW.2 ⟨a,rfl⟩
theorem xd(l:PL)(d:aC)(i:Int)(x:PU)(f:el l i=x)(p:aL x.2<=1000000)(o:aL d<=100)(n:Nat):∀k a b,k+n=aL x.2->n<a->
  ahp FU l d i a b k=θ (b||Ip (λk=>Lib.occAt x.2 (pW++d) k) k n):=by
 induction n with
 |zero=>intro k a b g j;obtain⟨a,rfl⟩:=bV a;rw[ate,aiv,f,aA aA0,Ip,dU]
 |succ n c=>
  intro k a b g j;obtain⟨a,rfl⟩:=bV a;have e:(([45,45]:aC)++(([98]:aC)++d))=pW++d:=rfl;have m:γ (pW++d)=aL d+3:=rfl;rw[ate,aiv,f,aB aA0,Ip];cases b with
  |true=>rw[aS (cA _ aA0 aA0),lZ,c (k+1) a μ aA0 aA0];rfl
  |false=>rw[aH,aS aA2,e,KU _ (pW++d) k aA0 aA0 aA0 (by intro h;cases h),aR,aS (cA _ aA0 aA0),lZ,c _ a _ aA0 aA0,NL]
theorem I7(l:PL)(s:aL l<=20)(r:∀x∈l,aL x.2<=20000)(d:aC)(n:aL d<=100)(q:PL):∀p c b,l=p++q->aL q<c->
  afm FU l d c b (γ p)=θ (b||q.any (R0 (pW++d))):=by
 induction q with
 |nil=>intro p c b h i;obtain⟨c,rfl⟩:=bV c;rw[atf,aiw,aA aA6,iY,dU]
 |cons a q j=>intro p c b h i;obtain⟨c,rfl⟩:=bV c;have g:=bF aL h;simp at g i;have f:0<=(aL p:Int)/\(aL p:Int)<(aL l:Int):=aA0;have m:el l (aL p:Int)=a:=aA9;have k:((aL p:Int)+1)=(γ (p++[a]):Int):=aA3;have o:=r a aA6;have:=xd l d (aL p:Int) a m aA0 n (γ a.2) 0 FU b (Jd _) aA4;have e:ahp FU l d (aL p:Int) FU b (0:Int)=_:=this;rw[atf,aiw,aB f.2,aS f,aS f,e,aR,aS (cA _ aA0 aA0),k,j (p++[a]) c _ aA6 aA0,oC];rfl
theorem xe(l:PL)(c:aL l<=20)(d:∀x∈l,aL x.2<=20000)(m:Nat)(q:m<=8000000000)(p:l.any (R0 (pW++mC m))=ν)(o:∀i,i<m->l.any (R0 (pW++mC i))=μ):∀k n b,n+k=m->k<b->akc FU l b n=θ (98::mC m):=by
 intro k;induction k with
 |zero=>intro n b g h;obtain⟨b,rfl⟩:=bV b;have e:n=m:=aA0;subst e;have j:=(Pv 17 n aA0).2.2.2;have:=I7 l c d (mC n) aA0 l [] FU ν rfl aA4;have a:afm FU l _ FU ν 0=_:=this;rw[atg,aix,aux _ aA0 aA0,nP,aR,aS aA2,a,p];rfl
 |succ k f=>intro n b g h;obtain⟨b,rfl⟩:=bV b;have j:=(Pv 17 n aA0).2.2.2;have:=I7 l c d (mC n) aA0 l [] FU ν rfl aA4;have a:afm FU l _ FU ν 0=_:=this;rw[atg,aix,aux _ aA0 aA0,nP,aR,aS aA2,a,o n aA0,aR,aS (cA _ aA0 aA0),lZ];exact f _ b aA0 aA0
theorem bdr_eq(l:PL)(d:aL l<=20)(c:∀x∈l,aL x.2<=20000):∃y,aij FU l=θ y/\axx FU l=θ y:=by
 obtain⟨m,o,n,k,j⟩:=bdn_eq l d c;refine⟨_,o, ?_⟩;have b:∀i,pW++mC i≠[]:=λi h=>by cases h
 refine xe l d c m n ?_ (λi f=> ?_) m 0 FU (Jd _) aA4
 ·rw[Bool.eq_false_iff];intro h;obtain⟨x,hx,g⟩:=cV.1 h;obtain⟨u,a,e⟩:=(QX _ (b m) x).1 g;exact k x hx u a (by rw[e,gZ])
 ·obtain⟨x,hx,u,a,e⟩:=j i f;exact cV.2 ⟨x,hx,(QX _ (b i) x).2 ⟨u,a,by rw[e,gZ]⟩⟩
theorem BV:bbg FU=θ μ:=by kernel_rfl
theorem Aa(l:PL)(y:aC)(d:γ y<=9223372036854775807)(e:∀x∈l,∀h∈x.1,γ h.1<=4194304):asb FU l y=θ μ:=by
 unfold asb;obtain⟨b,i,g⟩:=zr l;rw[i,aR,BV];cases b with
 |false=>rfl
 |true=>obtain⟨f,c⟩:=g rfl;have a:∀x∈l,(∀h∈x.1,γ h.1<=4194304)/\γ x.1<=1000000/\γ x.2<=1000000:=λx hx=>⟨e x hx,by have:=(c x hx).1;omega,by have:=(c x hx).2;omega⟩;obtain⟨z,k,j⟩:=bdr_eq l f (λx hx=>(c x hx).2);rw[gL,aH,yu y d l (λx hx=>⟨(a x hx).1,(a x hx).2.2⟩),aR,rj_eq y d l a,aR,aB rfl,aB rfl,k,aR,j,aR,aB rfl];rfl
end Go.Wk
