/-
  The law BodiesRound holds (part 5 of 8).
-/
import Derived.Test.YtbljlpflaehacaaGreatDoorYd4
import Derived.Lib.IndexMore
set_option linter.unusedVariables false
set_option linter.unusedSimpArgs false
set_option maxRecDepth 100000
namespace Go.Wk
open Go.Px
open Go.Lib renaming join → dA
open List renaming intercalate → NX
theorem vA(p:UInt8->Bool)(s A B:aC)(h:s=A++B):cD p s (A.length:Int)=A.length+dQ p B:=by subst h;unfold cD;rw [jx _ _ aC2,Fq]
theorem atA(s A B:aC)(c:UInt8)(h:s=A++c::B):at_ s (A.length:Int)=c:=by rw [h,kH]
theorem Ti(s A B:aC)(b:UInt8)(h:s=A++B):fJ s A.length b=decide (B.head? =some b):=by
 subst h;unfold fJ;cases B with
 |nil=>simp
 |cons c B=>
  rw [kH,aK (by rw [bM,bR];omega),Ig,cG];by_cases h:c=b
  ·subst h;simp
  ·simp [h]
theorem Bz(s A B C:aC)(h:s=A++(B++C)):sub s (A.length:Int) ((A.length+B.length:Nat):Int)=B:=by subst h;unfold sub;rw [iY,iY,Fq,vd,Ov]
theorem TH(p:UInt8->Bool)(B:aC)(h:∀c,B.head? =some c->p c=false):dQ p B=0:=by
 cases B with
 |nil=>rfl
 |cons c B=>exact cz p c B (h c rfl)
theorem db(a b:aC)(h:a≠[]):(a++b).head? =a.head? :=by
 cases a with
 |nil=>exact absurd rfl h
 |cons x a=>rfl
theorem nP(p:UInt8->Bool)(a:aC)(h:a.all p=true)(c:UInt8)(b:a.head? =some c):p c=true:=by
 cases a with
 |nil=>cases b
 |cons x a=>rw [cG,aU]at b;rw [Ej,fS]at h;rw [<-b];exact h.1
theorem Qd{v:aC}(h:eY v=true):v≠[]/\v.all cB=true:=by unfold eY at h;rw [fS]at h;refine⟨fun e=> ?_,h.2⟩;subst e;exact absurd h.1 aA1
theorem GO(c:UInt8)(h:c=34\/c=92):nV c=[92,c]:=by unfold nV;rw [aB h]
theorem XM(c:UInt8)(h:¬(c=34\/c=92)):nV c=[c]:=by unfold nV;rw [aA h]
theorem Is:∀(v a:aC) (k:Nat) (b:aC),v.any eW=false->fT (v.flatMap nV++34::a) k b=(b++v,((k+(v.flatMap nV).length+1:Nat):Int),0)
 |[],a,k,b,_=>by rw [xF,mQ,ua,aB rfl,gA,eO]
 |c::v,a,k,b,h=>by
  rw [Ol,gU]at h;by_cases d:c=34\/c=92
  ·have f:N0 c=true:=by rcases d with rfl|rfl<;>decide
   have e:(c::v).flatMap nV++34::a=92::c::(v.flatMap nV++34::a):=by rw [kS,GO c d];rfl
   rw [e,ua,aA aA1,aB rfl,aA aA2];have g:at_ (c::(v.flatMap nV++34::a)) 0=c:=by simp [at_]
   rw [g,aB f,List.drop_one,List.tail_cons,Is v a (k+2) _ h.2,kS,GO c d];simp only [gJ,Yf,bM,bR,eO];congr 2;omega
  ·have e:(c::v).flatMap nV++34::a=c::(v.flatMap nV++34::a):=by rw [kS,XM c d];rfl
   rw [e,ua,aA (fun h=>d (.inl h)),aA (fun h=>d (.inr h)),aA (by rw [h.1];decide),Is v a (k+1) _ h.2,kS,XM c d];simp only [gJ,Yf,bM,bR,eO];congr 2;omega
theorem ze(s A v C:aC)(h:s=A++(jA v++C))(b:v.any eW=false):Nj s (A.length:Int)=(v,((A.length+(jA v).length:Nat):Int),0):=by
 have e:jA v++C=34::(v.flatMap nV++34::C):=by unfold jA;simp
 have a:s=A++34::(v.flatMap nV++34::C):=by rw [h,e]
 have g:s.length=A.length+(v.flatMap nV++34::C).length+1:=by rw [a,bM,bR];omega
 have f:=atA s A _ 34 a;have d:s.drop (A.length+1)=v.flatMap nV++34::C:=by rw [a,show A++34::(v.flatMap nV++34::C)=(A++[34])++(v.flatMap nV++34::C)by simp,show A.length+1=(A++[34]).length by simp,Fq]
 unfold Nj;rw [aA aA0,aA (by rintro(h|h);omega;exact h f),iY,d,Is v C _ [] b,mQ];have c:(jA v).length=(v.flatMap nV).length+2:=by unfold jA;simp
 rw [c];congr 2;omega
section
variable (q : UInt8 -> Bool) (h1 : ∀ c, jD c = true -> q (iF c) = true) (h2 : q 58 = true) (h3 : q 48 = true)
include h1 h2 h3
omit h2 in
theorem HJ (g:aC) (h:Ap g=true):∀c∈lH g,q c=true:=by
 have hx:g.all jD=true:=aD7;intro c a;unfold lH at a;split at a
 ·rw [aE.1 a];exact h3
 ·have b:c∈Fy g:=(vP _).subset a;obtain⟨d,e,rfl⟩:=cN.1 b;exact h1 d (aT.1 hx d e)
omit h1 h3 in
theorem Wl:∀(l:List aC),(∀x∈l,∀c∈x,q c=true)->∀c∈dA l [58],q c=true
 |[],_,c,d=>by simp [dA,NX]at d
 |[a],h,c,d=>by simp [dA,NX]at d;exact h a aA2 c d
 |a::b::l,h,c,d=>by
  have e:dA (a::b::l) [58]=a++(58::dA (b::l) [58]):=aD4;rw [e]at d;rcases aS.1 d with d|d
  ·exact h a aA2 c d
  ·rcases aP.1 d with rfl|d
   ·exact h2
   ·exact Wl (b::l) (fun x hx=>h x (fB _ hx)) c d
omit h2 in
theorem So (s:aC):∀x∈(Au s).1,∀c∈x,q c=true:=by
 intro x hx;unfold Au at hx;split at hx
 ·rename_i b;obtain⟨y,a,rfl⟩:=cN.1 hx;exact HJ q h1 h3 y (aT.1 b y a)
 ·simp at hx
omit h2 in
theorem MO (s:aC):∀x∈(pZ s).1,∀c∈x,q c=true:=by
 intro x hx;unfold pZ at hx;split at hx
 ·simp at hx
 ·exact So q h1 h3 s x hx
theorem MN(s:aC):∀c∈(Aq s).1,q c=true:=by
 intro c a;unfold Aq at a;split at a
 ·simp at a
 ·split at a
  ·exact Wl q h2 _ (So q h1 h3 s) c a
  ·split at a
   ·simp at a
   ·rcases aS.1 a with a|a
    ·rcases aS.1 a with a|a
     ·exact Wl q h2 _ (MO q h1 h3 _) c a
     ·have b:c=58:=by simpa using a
      rw [b];exact h2
    ·exact Wl q h2 _ (MO q h1 h3 _) c a
end
theorem z6:∀c:UInt8,jD c=true->(!(iF c==93))=true:=eA _ aA3
theorem bb:∀c:UInt8,gW c=true->c≠91:=eA _ aA3
theorem LW:∀c:UInt8,lQ c=true->c≠91:=eA _ aA3
theorem Al(v:aC)(h:Te v=true):∃g:aC,v=91::(g++[93])/\(∀c∈g,(!(c==93))=true):=by
 unfold Te at h;simp only [fS,aV,beq_iff_eq]at h;obtain⟨⟨h1,h2⟩,h3⟩:=h;have f:0<v.length->(91:UInt8)∈v:=fun b=>by have:=at_mem v 0 b;have e:at_ v ((0:Nat):Int)=91:=h3;rw [e]at this;exact this
 have d:=MG v h1 h2;have b:=bK.2 d;unfold dZ at h1 h2;split at h1
 ·rename_i j;rw [aB j]at h2;split at h1
  ·rename_i i;rw [aB i]at h2;refine⟨(Aq (sub v 1 ((v.length:Int)-1))).1, ?_,MN (fun c=> !(c==93)) z6 aA1 aA1 _⟩;exact h2.symm
  ·cases h1
 ·exfalso;split at h1
  ·rename_i a;unfold jQ at a;simp only [fS]at a;rcases TE 46 gW v (fun x hx=>(nC x (by rw [<-yT];exact aT.1 a.1.2 x hx)).2.2) 91 (f b)with h|h
   ·exact bb 91 h rfl
   ·exact absurd h aA1
  ·split at h1
   ·rename_i a;unfold RV at a;simp only [fS]at a;rcases TE 46 lQ v (fun x hx=>by have:=aT.1 a.1.2 x hx;unfold Pw at this;simp only [fS]at this;exact this.2) 91 (f b)with h|h
    ·exact LW 91 h rfl
    ·exact absurd h aA1
   ·cases h1
theorem VC(s A v C:aC)(h:s=A++(v++C))(i:eY v=true)(j:∀c,C.head? =some c->cB c=false):kT s A.length=(v,((A.length+v.length:Nat):Int),0):=by
 obtain⟨b,a⟩:=Qd i;have d:cD cB s (A.length:Int)=A.length+v.length:=by rw [vA cB s A _ h,N4 cB v C a,TH cB C j];rfl
 have f:∀c:UInt8,cB c=false->fJ s A.length c=false:=fun c g=>by rw [Ti s A _ c h,db v C b,bU];intro e;rw [nP cB v a c e]at g;cases g
 have k:=bK.2 b;unfold kT;rw [f 34 aA1,aA aA1,f 91 aA1,aA aA1,d,aA aA0,Bz s A v C h]
theorem VD(s A v C:aC)(h:s=A++(jA v++C))(a:v.any eW=false):kT s A.length=(v,((A.length+(jA v).length:Nat):Int),0):=by unfold kT;rw [Ti s A _ 34 h,aK (by unfold jA;rfl),aB rfl,ze s A v C h a]
theorem VE(s A v C:aC)(h:s=A++(v++C))(k:Te v=true):kT s A.length=(v,((A.length+v.length:Nat):Int),0):=by
 obtain⟨g,i,m⟩:=Al v k;have a:(v++C).head? =some 91:=by rw [i];rfl
 have f:dQ (fun b=> !(b==93)) (s.drop A.length)=v.length-1:=by
  rw [h,Fq,i,show(91::(g++[93]))++C=(91::g)++93::C by simp,N4 _ _ _ (by
   rw [aT];intro c j;rcases aP.1 j with rfl|j
   ·decide
   ·exact m c j),cz _ 93 C aA1]
  simp
 have n:2<=v.length:=aE7;have l:s.length=A.length+v.length+C.length:=by rw [h,bM,bM];omega
 have e:=k;unfold Te at e;simp only [fS,aV]at e;have d:(min ((A.length+(v.length-1):Nat)+1:Int) (s.length:Int))=((A.length+v.length:Nat):Int):=aA0;unfold kT;rw [Ti s A _ 34 h,a,aO aA1,aA aA1,Ti s A _ 91 h,a,aK rfl,aB rfl,f,d,Bz s A v C h,aB e.1.1,e.1.2];congr 2;omega
theorem dm:∀c:UInt8,cB c=true->cC c=false:=eA _ aA3
theorem CV(v B:aC)(e:eY v=true):∀c,(v++B).head? =some c->cB c=true:=fun c d=>by obtain⟨b,a⟩:=Qd e;rw [db v B b]at d;exact nP cB v a c d
def Om(v:aC):aC:=bif eY v||Te v then v else jA v
theorem P9(s A v C:aC)(h:s=A++(Om v++C))(a:v.any eW=false)(b:∀c,C.head? =some c->cB c=false):kT s A.length=(v,((A.length+(Om v).length:Nat):Int),0):=by
 unfold Om at h⊢;cases h1:eY v with
 |true=>rw [h1,lX,aL]at h;rw [lX,aL];exact VC s A v C h h1 b
 |false=>
  cases h2:Te v with
  |true=>rw [h1,h2,JD,aL]at h;rw [JD,aL];exact VE s A v C h h2
  |false=>rw [h1,h2,SP,aG]at h;rw [SP,aG];exact VD s A v C h a
theorem OD(v C:aC):∀c,(Om v++C).head? =some c->cC c=false:=by
 intro c a;unfold Om at a;cases h1:eY v with
 |true=>rw [h1,lX,aL]at a;exact dm c (CV v C h1 c a)
 |false=>
  cases h2:Te v with
  |true=>
   obtain⟨g,b,_⟩:=Al v h2;rw [h1,h2,JD,aL,b]at a;have:c=91:=by simpa using a.symm
   rw [this];decide
  |false=>
   rw [h1,h2,SP,aG]at a;have:c=34:=by unfold jA at a;simpa using a.symm
   rw [this];decide
theorem Bv(p:PP)(h:p.2.2=true):tL p=61::Om p.2.1:=by unfold tL Om;rw [h];rfl
theorem Iv(p:PP)(h:p.2.2=false):tL p=[]:=by unfold tL;rw [h];rfl
theorem listA(s A C:aC)(p:PP)(h:s=A++(p.1++(tL p++C)))(E:eY p.1=true)(o:dH p.1=p.1)(k:On p=true)(y:∀c,C.head? =some c->c=59):
  wT s A.length=(p,0,0,(s,((A.length+(p.1.length+(tL p).length):Nat):Int))):=by
 obtain⟨t,q⟩:=Qd E;have G:=bK.2 t;have r:∀f:UInt8->Bool,f 59=false->∀c,C.head? =some c->f c=false:=fun f F c l=>by rw [y c l];exact F
 have a:∀f:UInt8->Bool,f 59=false->f 61=false->∀c,(tL p++C).head? =some c->f c=false:=by
  intro f v d c l;cases h2:p.2.2 with
  |true=>rw [Bv p h2,Bo,cG,aU]at l;rw [<-l];exact d
  |false=>rw [Iv p h2,mQ]at l;exact r f v c l
 have D:cD cB s (A.length:Int)=A.length+p.1.length:=by rw [vA cB s A _ h,N4 cB p.1 _ q,TH cB _ (a cB aA1 aA1)];rfl
 have m:=Bz s A p.1 _ h;have w:s=(A++p.1)++(tL p++C):=by rw [h,gJ]
 have j:(A++p.1).length=A.length+p.1.length:=bM;have B:cD cC s ((A.length+p.1.length:Nat):Int)=A.length+p.1.length:=by rw [<-j,vA cC s (A++p.1) _ w,TH cC _ (a cC aA1 aA1)];rfl
 have i:=Ti s (A++p.1) _ 61 w;rw [j]at i;unfold wT;rw [D,aA aA0,B,i,m,o];cases h2:p.2.2 with
 |false=>
  have n:p.2.1=[]:=by unfold On at k;rw [h2,aG]at k;exact cA k
  have d:¬(tL p++C).head? =some 61:=fun e=>by rw [Iv p h2,mQ]at e;exact absurd (y 61 e) aA1
  rw [aO d,aB rfl,Iv p h2];have x:(p.1,([]:aC),false)=p:=by rw [<-n,<-h2]
  rw [x];rfl
 |true=>
  have u:p.2.1.any eW=false:=by unfold On at k;rw [h2,aL]at k;simpa using k
  have d:(tL p++C).head? =some 61:=by rw [Bv p h2];rfl
  have h3:s=(A++p.1++[61])++(Om p.2.1++C):=by rw [w,Bv p h2];simp
  have b:(A++p.1++[61]).length=A.length+p.1.length+1:=aA5;have z:cD cC s ((A.length+p.1.length+1:Nat):Int)=A.length+p.1.length+1:=by rw [<-b,vA cC s (A++p.1++[61]) _ h3,TH cC _ (OD p.2.1 C)];rfl
  have g:=P9 s (A++p.1++[61]) p.2.1 C h3 u (r cB aA1);rw [b]at g;rw [aK d,aA aA1,z,g,aB rfl];have x:(p.1,p.2.1,true)=p:=by rw [<-h2]
  have el:(tL p).length=(Om p.2.1).length+1:=by rw [Bv p h2];rfl
  rw [x,el];show(p,(0:Int),(0:UInt8),(s,((A.length+p.1.length+1+(Om p.2.1).length:Nat):Int)))=_;rw [show A.length+p.1.length+1+(Om p.2.1).length=A.length+(p.1.length+((Om p.2.1).length+1))by omega]
theorem AR:∀(r pre:List PP) (u:aC),mZ pre r=some u->∀c,u.head? =some c->c=59
 |[],pre,u,h,c,a=>by rw [mZ,aU]at h;subst h;cases a
 |p::r,pre,u,h,c,a=>by
  rw [mZ]at h;cases b:Rh pre p&&On p with
  |false=>rw [b]at h;cases h
  |true=>rw [b,aL,M2]at h;obtain⟨t,_,rfl⟩:=h;rw [cG,aU]at a;exact a.symm
theorem parA(s:aC):∀(r pre:List PP) (u A:aC) (f:Nat),mZ pre r=some u->s=A++u->r.length<f->pre.length+r.length<=16->lP s f pre A.length=(pre++r,0,0)
 |[],pre,u,A,f,h,d,C,B=>by obtain⟨f,rfl⟩:∃m,f=m+1:=⟨f-1,aA0⟩;rw [mZ,aU]at h;subst h;rw [gA]at d;subst d;rw [lP,aB (by rw [Qr];exact eV _),gA]
 |p::r,pre,u,A,f,h,d,C,B=>by
  obtain⟨f,rfl⟩:∃m,f=m+1:=⟨f-1,aA0⟩;rw [mZ]at h;cases n:Rh pre p&&On p with
  |false=>rw [n]at h;cases h
  |true=>
   rw [n,aL,M2]at h;obtain⟨t,y,rfl⟩:=h;rw [fS]at n;obtain⟨v,F⟩:=n;unfold Rh at v;simp only [fS,aV,cP]at v;obtain⟨⟨z,k⟩,l⟩:=v;simp only [bR]at C B;have D:s.length=A.length+((p.1++(tL p++t)).length+1):=by rw [d,bM,bR]
   have o:cD cC s (A.length:Int)=A.length:=by rw [vA cC s A _ d,cz cC 59 _ aA1];rfl
   have kX:=atA s A _ 59 d;have j:s=(A++[59])++(p.1++(tL p++t)):=aD1;have b:(A++[59]).length=A.length+1:=aA2;have i:cD cC s ((A.length+1:Nat):Int)=A.length+1:=by rw [<-b,vA cC s (A++[59]) _ j,TH cC _ (fun c E=>dm c (CV p.1 _ z c E))];rfl
   have a:=listA s (A++[59]) t p j z k F (AR r _ t y);rw [b]at a;have e:Ea pre p.1=0:=by unfold Ea;rw [l,aA aA1,aA aA0]
   have q:s=(A++[59]++p.1++tL p)++t:=aD1;have g:(A++[59]++p.1++tL p).length=A.length+1+(p.1.length+(tL p).length):=aA5;have x:=parA s r (pre++[p]) t (A++[59]++p.1++tL p) f y q aA0 aA8;rw [g,gJ,Yf]at x;have w:at_ s ((A.length:Nat):Int)=59:=kX;rw [lP,o,aA aA0,aA (not_not_intro w),i,a,aB rfl];show(if Ea pre p.1=0 then _ else _)=_;rw [aB e];exact x
theorem XU:∀(r pre:List PP) (u:aC),mZ pre r=some u->r.length<=u.length
 |[],_,_,_=>dL _
 |p::r,pre,u,h=>by
  rw [mZ]at h;cases a:Rh pre p&&On p with
  |false=>rw [a]at h;cases h
  |true=>rw [a,aL,M2]at h;obtain⟨t,b,rfl⟩:=h;have:=XU r _ t b;simp only [bR,bM];omega
theorem nA(l:List PP)(t:aC)(h:iP l=(t,0)):kV t=(l,0,0)/\(∀c,t.head? =some c->c=59)/\mZ [] l=some t/\l.length<=16:=by
 unfold iP at h;by_cases b:16<l.length
 ·rw [aB b]at h;exact absurd (bD Prod.snd h) aA2
 ·rw [aA b]at h;cases a:mZ [] l with
  |none=>rw [a]at h;exact absurd (bD Prod.snd h) aA2
  |some u=>rw [a]at h;have e:u=t:=bD Prod.fst h;subst e;have d:=XU l [] u a;exact⟨parA u l [] u [] (u.length+1) a rfl aA0 (by simp only [eO];omega),AR l [] u a,rfl,aA0⟩
open Go.Px
open Go.Lib renaming cut → cW, index → cE, join → dA, trimLeftS → Ye
open List renaming intercalate → NX, isPrefixOf → Ou
theorem zQ(a b:aC)(l:List aC):dA (a::b::l) [58]=a++(58::dA (b::l) [58]):=aD4
theorem join_one(a:aC):dA [a] [58]=a:=by simp [dA,NX]
theorem JV(c:UInt8):∀(a z:aC),(∀b∈a,b≠c)->cU c (a++c::z)=a::cU c z
 |[],z,_=>awk c z
 |b::a,z,h=>by rw [Bo,vw c b _ (h b aA2),JV c a z (fun x hx=>h x (fB _ hx))];rfl
theorem WA(c:UInt8):∀(a:aC),(∀b∈a,b≠c)->cU c a=[a]
 |[],_=>rfl
 |b::a,h=>by rw [vw c b _ (h b aA2),WA c a (fun x hx=>h x (fB _ hx))];rfl
theorem Ji:∀gs:List aC,gs≠[]->(∀g∈gs,∀b∈g,b≠58)->cU 58 (dA gs [58])=gs
 |[],h,_=>absurd rfl h
 |[a],_,h=>by rw [join_one,WA 58 a (h a aA2)]
 |a::b::l,_,h=>by rw [zQ,JV 58 a _ (h a aA2),Ji (b::l) aA2 (fun g c=>h g (fB _ c))]
def WD:aC->Bool
 |[]=>true
 |c::l=>(if c=58 then !(l.head? ==none)&& !(l.head? ==some 58)else true)&&WD l
theorem Ca:∀l:aC,WD l=true->cE l [58,58]= -1/\∀r,cE (l++58::58::r) [58,58]=(l.length:Int)
 |[],_=>⟨aA1,fun r=>by rw [mQ,ayy,aB (by simp [Ou])];rfl⟩
 |c::l,h=>by
  rw [WD,fS]at h;obtain⟨g,f⟩:=Ca l h.2;have key:∀r:aC,(r=[]\/l≠[]\/c≠58)->([58,58]:aC).isPrefixOf (c::(l++r))=false:=by
   intro r j;by_cases a:c=58
   ·subst a;cases l with
    |nil=>simp at h
    |cons d l=>
     have i:¬d=58:=by simpa using h.1
     have b:((58:UInt8)==d)=false:=by simpa using fun e:(58:UInt8)=d=>i e.symm
     simp [Ou,b]
   ·have:((58:UInt8)==c)=false:=by simpa using fun e:(58:UInt8)=c=>a e.symm
    simp [Ou,this]
  constructor
  ·have:=key [] (.inl rfl);rw [gA]at this;rw [ayy,this,aA aA1,aB g]
  ·intro r
   have:=key (58::58::r) (by
    by_cases a:c=58
    ·right;left;intro e;subst e a;simp at h
    ·exact .inr (.inr a))
   rw [Bo,ayy,this,aA aA1,f r,aA aA0,bR];omega
theorem WC:∀a:aC,(∀b∈a,b≠58)->WD a=true
 |[],_=>rfl
 |c::a,h=>by rw [WD,aA (h c aA2),WC a (fun x hx=>h x (fB _ hx))];rfl
theorem JW:∀(a:aC) (d:UInt8) (z:aC),(∀b∈a,b≠58)->d≠58->WD (d::z)=true->WD (a++58::d::z)=true
 |[],d,z,_,f,e=>by have:(d==58)=false:=aD3;rw [mQ,WD,aB rfl,e];simp [this]
 |c::a,d,z,h,f,e=>by rw [Bo,WD,aA (h c aA2),JW a d z (fun x hx=>h x (fB _ hx)) f e];rfl
theorem Jj:∀gs:List aC,(∀g∈gs,g≠[]/\∀b∈g,b≠58)->WD (dA gs [58])=true
 |[],_=>by simp [Lib.join_nil,WD]
 |[a],h=>by rw [join_one];exact WC a (h a aA2).2
 |a::b::l,h=>by
  have f:=Jj (b::l) (fun g k=>h g (fB _ k));have j:=h b aA2;obtain⟨d,z,e⟩:∃d z,dA (b::l) [58]=d::z/\d≠58:=by
   cases c:b with
   |nil=>exact absurd c j.1
   |cons d b'=>
    have i:d≠58:=j.2 d (by rw [c];simp);cases l with
    |nil=>exact⟨d,b',by rw [join_one],i⟩
    |cons x l=>exact⟨d,b'++(58::dA (x::l) [58]),by rw [zQ];rfl,i⟩
  rw [zQ,e.1];rw [e.1]at f;exact JW a d z (h a aA2).2 e.2 f
theorem z8:∀c:UInt8,jD c=true->jD (iF c)=true:=eA _ aA3
theorem z7:∀c:UInt8,jD c=true->(!(iF c==58))=true:=eA _ aA3
theorem QX(g:aC)(h:Ap g=true):Ap (lH g)=true/\lH (lH g)=lH g/\lH g≠[]/\∀b∈lH g,b≠58:=by
 have hx:g.all jD=true:=aD7;have k:=DF g h;have o:∀b∈lH g,b≠58:=fun b i=>by have:=HJ (fun c=> !(c==58)) z7 aA1 g h b i;simpa using this
 have l:∀b∈lH g,jD b=true:=HJ jD z8 aA1 g h;have f:lH g≠[]:=by
  unfold lH;split
  ·simp
  ·assumption
 refine⟨?_, ?_,f,o⟩
 ·have:=bK.2 f;unfold Ap;rw [aK aA0,aK k,Ig,Ig,aT];exact l
 ·have j:Fy (lH g)=lH g:=by
   show dH (lH g)=lH g;refine Ru _ fun b i=> ?_;unfold lH at i;split at i
   ·rw [aE.1 i];decide
   ·have p:b∈Fy g:=(vP _).subset i;obtain⟨d,q,rfl⟩:=cN.1 p;exact low2 d
  have m:Ye (lH g) [48]=[]\/Ye (lH g) [48]=lH g:=by
   unfold lH;split
   ·left;decide
   ·right;unfold Ye;exact Ab _ _
  have e:lH (lH g)=if Ye (lH g) [48]=[]then [48]else Ye (lH g) [48]:=by
   conv=>lhs;unfold lH
   rw [show Fy (if Ye (Fy g) [48]=[]then [48]else Ye (Fy g) [48])=lH g from j]
  rw [e];rcases m with a|a
  ·rw [aB a]
   have:lH g=[48]:=by
    unfold lH at a⊢;split
    ·rfl
    ·rename_i n;rw [aA n]at a;unfold Ye at a n;rw [Ab]at a;exact absurd a n
   rw [this]
  ·rw [a,aA f]
def vg(gs:List aC):Prop:=∀g∈gs,Ap g=true/\lH g=g/\g≠[]/\∀b∈g,b≠58
theorem Mf(s:aC):vg (Au s).1:=by
 intro x hx;unfold Au at hx;split at hx
 ·rename_i b;obtain⟨y,a,rfl⟩:=cN.1 hx;exact QX y (aT.1 b y a)
 ·simp at hx
theorem zU(s:aC):vg (pZ s).1:=by
 unfold pZ;split
 ·intro x hx;simp at hx
 ·exact Mf s
theorem zT(gs:List aC)(h:vg gs)(b:gs≠[]):Au (dA gs [58])=(gs,true):=by
 unfold Au;rw [Ji gs b (fun g a=>(h g a).2.2.2),aB (aT.2 fun g a=>(h g a).1)];congr 1
 conv=>rhs;rw [<-List.map_id gs]
 exact L9 fun g a=>(h g a).2.1
theorem Y8(gs:List aC)(h:vg gs)(a:gs≠[]):dA gs [58]≠[]:=by
 intro e;have:=Ji gs a (fun g b=>(h g b).2.2.2);rw [e]at this;cases gs with
 |nil=>exact a rfl
 |cons g l=>
  have c:([]:aC)=g:=by have:=bD List.head? this;simpa [cU] using this
  exact(h g aA2).2.2.1 c.symm
theorem Mg(gs:List aC)(h:vg gs):pZ (dA gs [58])=(gs,true):=by
 unfold pZ;by_cases a:gs=[]
 ·subst a;rw [aB (by simp [Lib.join_nil])]
 ·rw [aA (Y8 gs h a),zT gs h a]
theorem Sb:∀gs:List aC,(∀g∈gs,g.length<=4)->gs≠[]->(dA gs [58]).length+1<=gs.length*5
 |[],_,h=>absurd rfl h
 |[a],h,_=>by rw [join_one];have:=h a aA2;simp;omega
 |a::b::l,h,_=>by have c:=Sb (b::l) (fun g d=>h g (fB _ d)) aA2;have:=h a aA2;rw [zQ];simp only [bM,bR]at c⊢;omega
variable {a:List aC}
theorem zW(h:vg a):∀g∈a,g.length<=4:=fun g b=>by have:=(h g b).1;unfold Ap at this;simp only [fS,aV]at this;exact this.1.2
theorem QT(x:aC)(h:(Aq x).2=true):Aq (Aq x).1=((Aq x).1,true):=by
 unfold Aq at h;by_cases a:39<x.length
 ·rw [aB a]at h;cases h
 rw [aA a]at h;by_cases i:(cW x [58,58]).2.2=false
 ·rw [aB i]at h;simp only [fS,aV]at h;have e:(Aq x).1=dA (Au x).1 [58]:=by unfold Aq;rw [aA a,aB i]
  rw [e];have f:=Mf x;generalize(Au x).1=gs at h f⊢;have c:gs≠[]:=by intro e;rw [e]at h;exact absurd h.2 aA1
  have r:=Sb gs (zW f) c;have l:=(Ca _ (Jj gs fun g b=>(f g b).2.2)).1;unfold Aq;rw [aA aA0,wP,aB l,aB rfl,zT gs f c,aK h.2];rfl
 ·rw [aA i]at h;by_cases j:(!(pZ (cW x [58,58]).1).2|| !(pZ (cW x [58,58]).2.1).2||decide (7<((pZ (cW x [58,58]).1).1.length:Int)+((pZ (cW x [58,58]).2.1).1.length:Int)))=true
  ·rw [aB j]at h;cases h
  ·have e:(Aq x).1=dA (pZ (cW x [58,58]).1).1 [58]++[58,58]++dA (pZ (cW x [58,58]).2.1).1 [58]:=by unfold Aq;rw [aA a,aA i,aA j]
   rw [e];have k:=zU (cW x [58,58]).1;have m:=zU (cW x [58,58]).2.1;simp only [jU,cP,aV,not_or]at j;have n:=j.2;generalize(pZ (cW x [58,58]).1).1=A at k n⊢;generalize(pZ (cW x [58,58]).2.1).1=B at m n⊢;have q:(dA A [58]).length<=A.length*5:=N1 [58] 4 A (zW k);have p:(dA B [58]).length<=B.length*5:=N1 [58] 4 B (zW m);have l:=(Ca _ (Jj A fun g b=>(k g b).2.2)).2 (dA B [58]);have o:dA A [58]++[58,58]++dA B [58]=dA A [58]++58::58::dA B [58]:=aA2;have d:cW (dA A [58]++[58,58]++dA B [58]) [58,58]=(dA A [58],dA B [58],true):=by rw [o,wP,l,aA aA0,iY,Ov];congr 2;rw [show dA A [58]++58::58::dA B [58]=(dA A [58]++[58,58])++dA B [58]by simp,show(dA A [58]).length+([58,58]:aC).length=(dA A [58]++[58,58]).length by simp,Fq]
   unfold Aq;rw [aA aB2,d,aA (show¬(true=false)by decide)];simp only;rw [Mg A k,Mg B m,aA (by
    simp only [jU,cP,aV];rintro((h|h)|h)
    ·cases h
    ·cases h
    ·omega)]
theorem JU(c:UInt8)(f:UInt8->UInt8)(a:∀b,f b=c↔b=c):∀s:aC,cU c (s.map f)=(cU c s).map (List.map f)
 |[]=>rfl
 |b::l=>by
  have d:=JU c f a l;by_cases h:b=c
  ·have g:f b=c:=(a b).2 h;rw [vS,h,awk];rw [h]at g;rw [g,awk,d];rfl
  ·rw [vS,vw c b l h,vw c (f b) _ (fun e=>h ((a b).1 e)),d];cases cU c l with
   |nil=>rfl
   |cons x r=>rfl
theorem pn:∀c:UInt8,(decide (iF c=46))=decide (c=46):=eA _ aA3
theorem gp(b:UInt8):iF b=46↔b=46:=by
 have:=pn b;by_cases h:b=46
 ·simp [h];decide
 ·rw [aO h,bU]at this;simp [h,this]
theorem LJ:∀c:UInt8,lQ (iF c)=lQ c:=eA _ aA3
theorem W5:∀c:UInt8,gW (iF c)=gW c:=eA _ aA3
theorem ZA:∀c:UInt8,gW (iF c)=true->iF c=c:=eA _ aA3
theorem W6:∀c:UInt8,(iF c==45)=(c==45):=eA _ aA3
theorem J0(x:aC)(i:Int):(at_ (dH x) i==45)=(at_ x i==45):=by
 unfold dH at_;rw [bP,bP,bE];cases x[i.toNat]? with
 |none=>rfl
 |some c=>exact W6 c
theorem QE(x:aC):Pw (dH x)=Pw x:=by
 have a:(dH x).length=x.length:=by unfold dH;exact Hb ..
 have b:(dH x).all lQ=x.all lQ:=by unfold dH;rw [List.all_map];congr 1;funext c;exact LJ c
 unfold Pw;rw [a,J0,J0,b]
theorem ZK(x:aC):Gb (dH x)=Gb x:=by unfold Gb dH;rw [List.any_map];congr 1;funext c;show(!gW (iF c))=_;rw [W5]
theorem PX(s:aC):RV (dH s)=RV s:=by
 have b:(dH s).length=s.length:=by unfold dH;exact Hb ..
 have a:cU 46 (dH s)=(cU 46 s).map dH:=JU 46 iF gp s;have d:((cU 46 s).map dH).all Pw=(cU 46 s).all Pw:=by rw [List.all_map];congr 1;funext x;exact QE x
 have c:((cU 46 s).map dH).any Gb=(cU 46 s).any Gb:=by rw [List.any_map];congr 1;funext x;exact ZK x
 unfold RV;rw [b,a,d,c]
theorem H4(g:aC):Dz ([91]++g++[93])=true/\sub ([91]++g++[93]) 1 ((([91]++g++[93]).length:Int)-1)=g:=by
 have a:([91]++g++[93]).length=g.length+2:=aA2;have e:(((g.length+2:Nat):Int)-1)=(([91]++g).length:Int):=aA5;constructor
 ·unfold Dz;rw [a,aK aA0,Ig,e];have b:at_ ([91]++g++[93]) (([91]++g).length:Int)=93:=kH ([91]++g) 93 [];have c:at_ ([91]++g++[93]) 0=91:=rfl;rw [b,c];rfl
 ·rw [a];have:=Bz ([91]++g++[93]) [91] g [93] aA2;have d:(((g.length+2:Nat):Int)-1)=((([91]:aC).length+g.length:Nat):Int):=aA5;rw [d];exact this
theorem uC(s:aC)(h:(dZ s).2=true):dZ (dZ s).1=((dZ s).1,true):=by
 by_cases f:Dz s=true
 ·unfold dZ at h;rw [aB f]at h;by_cases k:(Aq (sub s 1 ((s.length:Int)-1))).2=true
  ·have e:(dZ s).1=[91]++(Aq (sub s 1 ((s.length:Int)-1))).1++[93]:=by unfold dZ;rw [aB f,aB k]
   rw [e];have n:=QT _ k;generalize(Aq (sub s 1 ((s.length:Int)-1))).1=g at n⊢;obtain⟨f1,f2⟩:=H4 g;unfold dZ;rw [aB f1,f2,n,aB rfl]
  ·rw [aA k]at h;cases h
 ·by_cases j:jQ s=true
  ·have e:dZ s=(s,true):=by unfold dZ;rw [aA f,aB j]
   rw [e];exact e
  ·by_cases i:RV s=true
   ·have e:dZ s=(dH s,true):=by unfold dZ;rw [aA f,aA j,aB i]
    rw [e];have t:(dH s).length=s.length:=by unfold dH;exact Hb ..
    have m:∀b∈s,lQ b=true\/b=46:=by unfold RV at i;simp only [fS]at i;exact TE 46 lQ s (fun x hx=>by have:=aT.1 i.1.2 x hx;unfold Pw at this;simp only [fS]at this;exact this.2)
    have p:Dz (dH s)=false:=by
     cases hx:Dz (dH s)with
     |false=>rfl
     |true=>
      exfalso;unfold Dz at hx;simp only [fS,aV,beq_iff_eq]at hx;have:=at_mem (dH s) 0 aA0;have r:at_ (dH s) ((0:Nat):Int)=91:=hx.1.2;rw [r]at this;obtain⟨d,q,l⟩:=cN.1 this;rcases m d q with a|a
      ·have:lQ (iF d)=true:=by rw [LJ];exact a
       rw [l]at this;exact LW 91 this rfl
      ·rw [a]at l;exact absurd l aA1
    have o:jQ (dH s)=false:=by
     cases hx:jQ (dH s)with
     |false=>rfl
     |true=>
      exfalso;have c:=hx;unfold jQ at c;simp only [fS]at c;have:=TE 46 gW (dH s) (fun x hx=>(nC x (by rw [<-yT];exact aT.1 c.1.2 x hx)).2.2)
      have hid:dH s=s:=Ru s fun b f=>by
       rcases this (iF b) (List.mem_map_of_mem f)with a|a
       ·exact ZA b a
       ·rw [a];exact((gp b).1 a).symm
      rw [hid]at hx;exact j hx
    show dZ (dH s)=(dH s,true);unfold dZ;rw [p,aA aA1,o,aA aA1,PX,i,aB rfl,zA]
   ·unfold dZ at h;rw [aA f,aA j,aA i]at h;cases h
open List renaming length → aR
def ND(l:aC):Prop:=∀c,l.getLast? =some c->cC c=false
theorem N8(a b:aC)(g:b≠[])(h:ND b):ND (a++b):=by
 intro c f;refine h c ?_;cases e:b.getLast? with
 |none=>exact absurd (List.getLast?_eq_none_iff.1 e) g
 |some d=>rw [L6,e]at f;exact f
theorem ju(p:UInt8->Bool)(a:∀c,p c=true->cC c=false)(b:aC)(h:b.all p=true):ND b:=
 fun c d=>a c (aT.1 h c (List.mem_of_getLast? d))
theorem azo(a:aC)(d:UInt8)(h:cC d=false):ND (a++[d]):=by intro c b;rw [List.getLast?_concat,aU]at b;rw [<-b];exact h
theorem I8(s:aC)(d:∀c,s.head? =some c->cC c=false)(b:ND s):cH s=s:=by
 have f:s.dropWhile cC=s:=by
  cases s with
  |nil=>rfl
  |cons c l=>exact lM (by rw [d c rfl];decide)
 have e:s.reverse.dropWhile cC=s.reverse:=by
  cases a:s.reverse with
  |nil=>rfl
  |cons c l=>
   refine lM ?_;have:s.getLast? =some c:=by rw [<-List.head?_reverse,a];rfl
   rw [b c this];decide
 unfold cH Yh;rw [f,e,List.reverse_reverse]
theorem UY(v:aC)(a:Om v≠[]):ND (Om v):=by
 unfold Om at a⊢;cases d:eY v with
 |true=>rw [lX,aL];exact ju cB dm v (Qd d).2
 |false=>
  cases c:Te v with
  |true=>obtain⟨g,b,_⟩:=Al v c;rw [JD,aL,b];exact azo (91::g) 93 aA1
  |false=>rw [SP,aG];unfold jA;exact azo (34::v.flatMap nV) 34 aA1
theorem mY:∀(r pre:List PP) (u V:aC),mZ pre r=some u->ND V->ND (V++u)
 |[],pre,u,V,h,f=>by rw [mZ,aU]at h;subst h;rw [gA];exact f
 |p::r,pre,u,V,h,f=>by
  rw [mZ]at h;cases a:Rh pre p&&On p with
  |false=>rw [a]at h;cases h
  |true=>
   rw [a,aL,M2]at h;obtain⟨t,i,rfl⟩:=h;rw [fS]at a;have d:eY p.1=true:=by have:=a.1;unfold Rh at this;simp only [fS]at this;exact this.1.1
   have e:V++59::(p.1++(tL p++t))=(V++59::(p.1++tL p))++t:=aA2;rw [e];refine mY r _ t _ i ?_;have c:=ju cB dm p.1 (Qd d).2;cases g:p.2.2 with
   |false=>rw [Iv p g,gA,show V++59::p.1=(V++[59])++p.1 by simp];exact N8 _ _ (Qd d).1 c
   |true=>
    rw [Bv p g,show V++59::(p.1++61::Om p.2.1)=(V++59::p.1++[61])++Om p.2.1 by simp];by_cases b:Om p.2.1=[]
    ·rw [b,gA];exact azo _ 61 aA1
    ·exact N8 _ _ b (UY _ b)
theorem Zn(p:UInt8->Bool)(t:aC)(a:∀c,t.head? =some c->p c=false):∀s:aC,dQ p (s++t)=dQ p s
 |[]=>TH p t a
 |c::s=>by rw [Bo,dQ,dQ,Zn p t a s]
theorem WK(p:UInt8->Bool)(s t:aC)(k:Nat)(a:k<=aR s)(b:∀c,t.head? =some c->p c=false):cD p (s++t) (k:Int)=cD p s (k:Int):=by unfold cD;rw [jx k _ aC2,jx k _ a,iW a,Zn p t b]
theorem WO(s t:aC)(k:Nat)(b:UInt8)(d:k<=aR s)(a:∀c,t.head? =some c->c≠b):fJ (s++t) k b=fJ s k b:=by
 by_cases h:k<aR s
 ·unfold fJ;rw [aK h,aK (show k<(s++t).length by rw [bM];omega)];congr 2;simp only [at_,bP];rw [aH aA0]
 ·have e:k=aR s:=by omega
  subst e;rw [Ti (s++t) s t b rfl,Ti s s [] b aA2,aO (fun e=>a b e rfl)];rfl
theorem QL(V t:aC)(f:∀c,t.head? =some c->c=59):kP (V++t)=kP V:=by
 have g:∀k,k<=aR V->cD cB (V++t) (k:Int)=cD cB V (k:Int):=fun k b=>WK cB V t k b fun c d=>by rw [f c d];decide
 have h:cD cB (V++t) 0=cD cB V 0:=g 0 (dL _);have b:=qA cB V 0;unfold kP;rw [h];generalize cD cB V 0=k at b⊢;rw [WO V t k 47 b fun c d=>by rw [f c d];decide];by_cases a:k=0
 ·rw [aB a,aB a]
 ·rw [aA a,aA a];cases e:fJ V k 47 with
  |false=>rfl
  |true=>rw [g (k+1) (Nu e).1]
theorem Lq(V:aC)(h:kP V=aR V)(a:V≠[]):∀c,V.head? =some c->cB c=true:=by
 intro c b;cases V with
 |nil=>exact absurd rfl a
 |cons d l=>
  rw [cG,aU]at b;subst b;cases e:cB d with
  |true=>rfl
  |false=>
   have:cD cB (d::l) 0=0:=by rw [ayl,cz cB d l e]
   unfold kP at h;rw [aB this]at h;cases h
theorem Lp(V:aC)(h:kP V=aR V)(b:V≠[]):ND V:=by
 have a:∀(i:Nat),i<=aR V->cD cB V (i:Int)=aR V->i<aR V->ND V:=by
  intro i j d f;unfold cD at d;rw [jx i _ j]at d;have k:(V.drop i).all cB=true:=by rw [oQ,aV,iX];omega
  have e:=(JF i V).symm;rw [e];refine N8 _ _ ?_ (ju cB dm _ k);intro l;have:=bD aR l;rw [iX,eO]at this;omega
 have g:=bK.2 b;unfold kP at h;split at h
 ·omega
 ·split at h
  ·rename_i c;have m:=(Nu c).1;split at h
   ·omega
   ·rename_i hx;have:=qA cB V ((cD cB V 0+1:Nat):Int);exact a (cD cB V 0+1) aA0 h aA0
  ·exact a 0 (dL _) h g
theorem QK(x:aC×List PP)(h:(Oq x).2=0):Tg (Oq x).1=((x.1,dW x.2),0):=by
 unfold Oq at h⊢;by_cases b:Ag x.1=true/\(iP (dW x.2)).2=0
 ·rw [aB b]at h⊢;obtain⟨f,k⟩:=b;rw [CJ,aV]at f;obtain⟨a,e⟩:=f;obtain⟨j,i,g,m⟩:=nA (dW x.2) (iP (dW x.2)).1 (by rw [<-k]);generalize(iP (dW x.2)).1=t at j i g⊢;have d:cH (x.1++t)=x.1++t:=by refine I8 _ (fun c b=> ?_) (mY _ [] t x.1 g (Lp x.1 e a));rw [db x.1 t a]at b;exact dm c (Lq x.1 e a c b)
  have l:=bK.2 a;simp only;unfold Tg;rw [d,QL x.1 t i,e,aA aA0,Fq,Ov,j,aB rfl]
 ·rw [aA b]at h;exact absurd h aA1
open Go.Lib renaming itoa → dO
open Go.Op renaming bytesLess → uH
theorem DE(a b:aC):B2 a b=uH b a:=by unfold B2;rw [<-rT b a]
theorem Kw:∀a b c:aC,uH b a=false->uH c b=false->uH c a=false
 |[],b,c,_,_=>by cases c<;>rfl
 |x::a,[],c,h,_=>by cases h
 |x::a,y::b,[],_,h=>by cases h
 |x::a,y::b,z::c,f,d=>by
  rw [uH,gU]at f d⊢;have i:¬y<x:=jI f.1;have g:¬z<y:=jI d.1;rw [M1]at i g;refine⟨aO (by rw [M1];omega), ?_⟩;by_cases h:z=x
  ·have e:y=x:=by apply oD.1;rw [h]at g;omega
   subst h e;have j:(y==y)=true:=aA2;rw [j,Ig]at f d⊢;exact Kw a b c f.2 d.2
  ·have:(z==x)=false:=by simpa using h
   rw [this];rfl
theorem QB(a b:aC)(h:uH a b=true):uH b a=false:=by rw [rT b a,h];rfl
def SZ(a b:PP):Prop:=uH b.1 a.1=false
theorem ZF(a b:PP)(c:SZ a b)(d:SZ b a):a.1=b.1:=by unfold SZ at c d;rw [rT b.1 a.1,d,eD]at c;have:(a.1==b.1)=true:=aC3;exact eq_of_beq this
theorem CP(x:PP):∀V:List PP,V.Pairwise (fun a b=>SZ b a)->(Dj x V).Pairwise (fun a b=>SZ b a)
 |[],_=>by simp [Dj]
 |a::V,h=>by
  rw [fY]at h;rw [Dj];cases e:B2 a.1 x.1 with
  |true=>
   rw [aL,fY];refine⟨fun y c=> ?_,CP x V h.2⟩;rcases Lv x y V c with rfl|c
   ·exact QB _ _ (by rw [<-DE];exact e)
   ·exact h.1 y c
  |false=>
   have d:SZ a x:=by unfold SZ;rw [<-DE];exact e
   rw [aG,fY,fY];refine⟨fun y c=> ?_,h.1,h.2⟩;rcases aP.1 c with rfl|c
   ·exact d
   ·exact Kw _ _ _ (h.1 y c) d
theorem Sg(x:PP):∀V:List PP,(Dj x V).Perm (x::V)
 |[]=>List.Perm.refl _
 |a::V=>by
  rw [Dj];cases B2 a.1 x.1 with
  |true=>rw [aL];exact((Sg x V).cons a).trans (List.Perm.swap x a V)
  |false=>rw [aG]
theorem ZT(x:PP)(l:List PP)(h:l.Pairwise SZ):(nO x l).Pairwise SZ:=by unfold nO;rw [List.pairwise_reverse];exact CP x _ (List.pairwise_reverse.2 aA9)
theorem QO(x:PP)(l:List PP):(nO x l).Perm (l++[x]):=by unfold nO;refine(List.reverse_perm _).trans ((Sg x _).trans ?_);exact(((List.reverse_perm l).cons x).trans (M0 (l₁:=[x]) (l₂:=l)))
theorem Mk:∀(q p:List PP),p.Pairwise SZ->(q.foldl (fun out x=>nO x out) p).Pairwise SZ/\(q.foldl (fun out x=>nO x out) p).Perm (p++q)
 |[],p,h=>⟨h,aA2⟩
 |a::q,p,h=>by rw [oG];obtain⟨c,b⟩:=Mk q (nO a p) (ZT a p h);refine⟨c,b.trans ?_⟩;have:=(QO a p).append_right q;rw [gJ,Yf]at this;exact this
theorem Sf(l:List PP):(dW l).Pairwise SZ:=(Mk l [] List.Pairwise.nil).1
theorem SB(l:List PP):(dW l).Perm l:=by have:=(Mk l [] List.Pairwise.nil).2;rw [mQ]at this;exact this
def Gf(l:List PP):Prop:=l.Pairwise fun a b=>a.1≠b.1
theorem Wx:∀(l:List PP),Gf l->∀a∈l,∀b∈l,a.1=b.1->a=b
 |[],_,a,h,_,_,_=>absurd h aA2
 |x::l,d,a,i,b,g,e=>by
  unfold Gf at d;rw [fY]at d;rcases aP.1 i with rfl|f
  ·rcases aP.1 g with rfl|c
   ·rfl
   ·exact absurd e (d.1 b c)
  ·rcases aP.1 g with rfl|c
   ·exact absurd e.symm (d.1 a f)
   ·exact Wx l d.2 a f b c e
variable {l:List PP}
theorem Ae{m:List PP}(h:l.Perm m)(a:Gf l):Gf m:=h.pairwise a fun h e=>h e.symm
theorem Ls(l m:List PP)(h:l.Perm m)(e:Gf l):dW l=dW m:=by have d:(dW l).Perm (dW m):=(SB l).trans (h.trans (SB m).symm);have c:=Ae (SB l).symm e;refine List.Perm.eq_of_pairwise (fun a b g f j i=> ?_) (Sf l) (Sf m) d;exact Wx _ c a g b (d.mem_iff.2 f) (ZF a b j i)
theorem Hm:∀(r pre:List PP) (u:aC),mZ pre r=some u->Gf r/\∀p∈r,(∀q∈pre,q.1≠p.1)/\dH p.1=p.1
 |[],pre,u,_=>⟨List.Pairwise.nil,aA2⟩
 |p::r,pre,u,h=>by
  rw [mZ]at h;cases c:Rh pre p&&On p with
  |false=>rw [c]at h;cases h
  |true=>
   rw [c,aL,M2]at h;obtain⟨t,j,rfl⟩:=h;rw [fS]at c;have d:=c.1;unfold Rh at d;simp only [fS,aV,cP]at d;obtain⟨g,f⟩:=Hm r _ t j;have b:∀q∈pre,q.1≠p.1:=fun q a e=>by have:=dX.1 d.2 q a;exact this aF0
   refine⟨fY.2 ⟨fun q a=>(f q a).1 p aA2,g⟩,fun q a=> ?_⟩;rcases aP.1 a with rfl|a
   ·exact⟨b,d.1.2⟩
   ·exact⟨fun z i=>(f q a).1 z (by simp [i]),(f q a).2⟩
theorem get_mem(l:List PP)(g:Gf l)(a:∀p∈l,dH p.1=p.1)(p:PP)(b:p∈l):wN l p.1=(p.2.1,true):=by
 have e:wN l p.1=(match l.find? (fun q=>dH q.1==dH p.1)with|some p=>(p.2.1,true)|none=>([],false)):=rfl;rw [e];cases c:l.find? (fun q=>dH q.1==dH p.1)with
 |none=>have:=List.find?_eq_none.1 c p b;exact absurd aA2 this
 |some q=>have h:=List.find?_some c;have f:=Qf c;have d:dH q.1=dH p.1:=aA9;rw [a q f,a p b]at d;rw [Wx l g q f p b d]
theorem qx(l:List PP)(name:aC)(a:∀p∈l,dH p.1=p.1)(f:dH name=name)(h:∀p∈l,p.1≠name):wN l name=([],false):=by
 have e:wN l name=(match l.find? (fun q=>dH q.1==dH name)with|some p=>(p.2.1,true)|none=>([],false)):=rfl;rw [e];cases b:l.find? (fun q=>dH q.1==dH name)with
 |none=>rfl
 |some q=>have g:=List.find?_some b;have d:=Qf b;have c:dH q.1=dH name:=aE2;rw [a q d,f]at c;exact absurd c (h q d)
theorem zS(q:UInt8->Bool)(n:∀c,jD c=true->q (iF c)=true)(m:q 58=true)(l:q 48=true)(k:q 91=true)(j:q 93=true)(e:q 46=true)(i:∀c,gW c=true->q c=true)(g:∀c,lQ c=true->q (iF c)=true)(s:aC):∀c∈(dZ s).1,q c=true:=by
 intro c a;unfold dZ at a;split at a
 ·split at a
  ·rcases aS.1 a with a|a
   ·rcases aS.1 a with a|a
    ·rw [aE.1 a];exact k
    ·exact MN q n m l _ c a
   ·rw [aE.1 a];exact j
  ·simp at a
 ·split at a
  ·rename_i b;unfold jQ at b;simp only [fS]at b;rcases TE 46 gW s (fun x hx=>(nC x (by rw [<-yT];exact aT.1 b.1.2 x hx)).2.2) c a with h|h
   ·exact i c h
   ·rw [h];exact e
  ·split at a
   ·rename_i b;unfold RV at b;simp only [fS]at b;obtain⟨d,f,rfl⟩:=cN.1 a;rcases TE 46 lQ s (fun x hx=>by have:=aT.1 b.1.2 x hx;unfold Pw at this;simp only [fS]at this;exact this.2) d f with h|h
    ·exact g d h
    ·rw [h];exact e
   ·simp at a
theorem Ma(s:aC):∀c∈(dZ s).1,(!lA c)=true:=zS _ (eA _ aA3) aA1 aA1 aA1 aA1 aA1 (eA _ aA3) (eA _ aA3) s
theorem Cd:∀c:UInt8,(!lA c)=true->cC c=false:=eA _ aA3
theorem az:∀c:UInt8,gW c=true->(!lA c)=true:=eA _ aA3
theorem Sh(s:aC)(h:(dZ s).2=true):(∃g,(dZ s).1=[91]++g++[93])\/(∀c∈(dZ s).1,c≠58/\c≠91/\c≠93):=by
 by_cases f:Dz s=true
 ·left;unfold dZ at h⊢;rw [aB f]at h⊢;by_cases e:(Aq (sub s 1 ((s.length:Int)-1))).2=true
  ·rw [aB e];exact⟨_,rfl⟩
  ·rw [aA e]at h;cases h
 ·right;intro c b;unfold dZ at b;rw [aA f]at b;split at b
  ·rename_i a;unfold jQ at a;simp only [fS]at a;rcases TE 46 gW s (fun x hx=>(nC x (by rw [<-yT];exact aT.1 a.1.2 x hx)).2.2) c b with h|h
   ·revert h;revert c;exact fun c _=>(eA (fun c=>gW c=true->c≠58/\c≠91/\c≠93) aA3) c
   ·rw [h];decide
  ·split at b
   ·rename_i a;unfold RV at a;simp only [fS]at a;obtain⟨d,i,rfl⟩:=cN.1 b;rcases TE 46 lQ s (fun x hx=>by have:=aT.1 a.1.2 x hx;unfold Pw at this;simp only [fS]at this;exact this.2) d i with h|h
    ·exact(eA (fun c=>lQ c=true->iF c≠58/\iF c≠91/\iF c≠93) aA3) d h
    ·rw [h];decide
   ·simp at b
theorem CU(s:aC)(h:(dZ s).2=true):(dZ s).1≠[]:=by intro e;have:=uC s h;rw [e]at this;exact absurd (bD Prod.snd this) aA1
theorem Cz(p:UInt8->Bool):∀l:aC,(∀c∈l,p c=false)->jW p l= -1
 |[],_=>rfl
 |b::l,h=>by unfold jW;rw [Cz p l (fun c a=>h c (fB _ a)),aB rfl,h b aA2,aA aA1]
theorem Rx(p:UInt8->Bool)(c:UInt8)(d:p c=true)(B:aC)(e:∀b∈B,p b=false):∀A:aC,jW p (A++c::B)=(A.length:Int)
 |[]=>by rw [mQ];unfold jW;rw [Cz p B e,aB rfl,d,aB rfl];rfl
 |a::A=>by rw [Bo];unfold jW;rw [Rx p c d B e A,aA aA0,bR];omega
theorem G0(s:aC)(h:(dZ s).2=true):kF (dZ s).1=((dZ s).1,[],false):=by
 rcases Sh s h with⟨g,k⟩|j
 ·rw [k];have f:=tX (·==(58:UInt8)) ([91]++g++[93]);unfold kF;by_cases hx:jW (·==(58:UInt8)) ([91]++g++[93])<0
  ·rw [aB hx]
  ·rw [aA hx];have n:([91]++g++[93]).length=g.length+2:=by simp
   have e:∀a:Nat,jW (·==(58:UInt8)) ([91]++g++[93])=(a:Int)->1<=a/\a<=g.length:=by
    intro a d;have m:jW (·==(58:UInt8)) ([91]++g++[93])=jW (·==(58:UInt8)) ([91]++g):=by rw [Cy,aA aA1]
    rw [m,Yf]at d;unfold jW at d;have i:=tX (·==(58:UInt8)) g;split at d
    ·rw [aA aA1]at d;omega
    ·omega
   obtain⟨a,d⟩:∃a:Nat,jW (·==(58:UInt8)) ([91]++g++[93])=(a:Int):=⟨(jW (·==(58:UInt8)) ([91]++g++[93])).toNat,aA0⟩;have o:=e a d;rw [d,iY];have t1:(([91]++g++[93]).take a).any (·==91)=true:=by rw [eI];refine⟨91, ?_,aA1⟩;obtain⟨b,rfl⟩:∃b,a=b+1:=⟨a-1,aA0⟩;simp
   have t2:(([91]++g++[93]).drop a).any (·==93)=true:=by rw [eI];refine⟨93, ?_,aA1⟩;rw [iW aA5];simp
   rw [t1,t2,aB aA1]
 ·unfold kF;rw [Cz _ _ (fun c l=>by simpa using (j c l).1),aB aA1]
theorem F9(s u:aC)(h:(dZ s).2=true)(g:u.all gW=true):kF ((dZ s).1++58::u)=((dZ s).1,u,true):=by
 have f:∀c∈u,c≠58/\c≠93:=fun c a=>(eA (fun c=>gW c=true->c≠58/\c≠93) aA3) c (aT.1 g c a)
 have hx:jW (·==(58:UInt8)) ((dZ s).1++58::u)=((dZ s).1.length:Int):=Rx _ 58 aA1 u (fun b i=>by simpa using (f b i).1) _;have d:(58::u).any (·==93)=false:=by
  rw [dX];intro c a;rcases aP.1 a with rfl|a
  ·decide
  ·simpa using (f c a).2
 have e:(((dZ s).1.length:Int)+1).toNat=((dZ s).1++[58]).length:=aA2;unfold kF;rw [hx,aA aA0,iY,Ov,Fq,d,L7,aA aA1,e,show(dZ s).1++58::u=((dZ s).1++[58])++u by simp,Fq]
theorem ly:∀c:UInt8,cB c=true->cB (Tm c)=true:=eA _ aA3
theorem zd:∀c:UInt8,Tm (Tm c)=Tm c:=eA _ aA3
theorem Em(s:aC):jH (jH s)=jH s:=by unfold jH;rw [jL];exact L9 fun c _=>zd c
theorem vX(s:aC)(h:eY s=true):eY (jH s)=true:=by
 obtain⟨d,b⟩:=Qd h;unfold eY;rw [fS];refine⟨?_, ?_⟩
 ·cases s with
  |nil=>exact absurd rfl d
  |cons a s=>rfl
 ·unfold jH;rw [List.all_map];exact aT.2 fun c e=>ly c (aT.1 b c e)
theorem cf:dH TN=TN:=aA1
theorem sq(a:List PP)(b:aC)(t:aC)(h:mZ [] (dW (iT a++lG b))=some t):Gf (iT a++lG b):=Ae (SB _) (Hm _ _ _ h).1
theorem HO(e:List PP)(b:aC)(t:aC)(h:mZ [] (dW (iT e++lG b))=some t):wN (dW (iT e++lG b)) TN=(b, !(decide (b=[]))):=by
 obtain⟨i,f⟩:=Hm _ _ _ h;by_cases d:b=[]
 ·rw [aK d,d];refine qx _ _ (fun p c=>(f p (by rw [d];exact c)).2) cf fun p c=> ?_;have a:=vn _ p c;unfold lG at a;rw [aB rfl,gA]at a;have:=(List.mem_filter.1 a).2;simpa using this
 ·rw [aO d];have g:((TN,b,true):PP)∈dW (iT e++lG b):=(SB _).mem_iff.2 (by unfold lG;rw [aA d];simp);exact get_mem _ i (fun p c=>(f p c).2) _ g
theorem Jw(s:aC)(n:Int)(d:0<=n)(b:n<=65535):(Qb (dZ s).1 n).all (fun c=> !lA c)=true:=by
 rw [aT];intro c a;unfold Qb at a;split at a
 ·exact Ma s c a
 ·rcases aS.1 a with a|a
  ·exact Ma s c a
  ·rcases aS.1 a with a|a
   ·rw [aE.1 a];decide
   ·exact az c (aT.1 (alt n d b).2.2.2 c a)
theorem Qv(s:aC)(n:Int)(h:(dZ s).2=true):Qb (dZ s).1 n≠[]/\(Qb (dZ s).1 n).head? =(dZ s).1.head? :=by
 have a:=CU s h;unfold Qb;split
 ·exact⟨a,rfl⟩
 ·exact⟨by simp [a],db _ _ a⟩
theorem VB(x:VV)(h:(Fj x).2=0):lO (Fj x).1=((jH x.1,(dZ x.2.1).1,x.2.2.1,x.2.2.2.1,dW (iT x.2.2.2.2++lG x.2.2.2.1)),0):=by
 unfold Fj at h⊢;by_cases i:(dZ x.2.1).2=true/\eY x.1=true/\0<=x.2.2.1/\x.2.2.1<=65535/\(iP (dW (iT x.2.2.2.2++lG x.2.2.2.1))).2=0
 ·rw [aB i];obtain⟨y,R,o,n,T⟩:=i;obtain⟨N,M,A,U⟩:=nA (dW (iT x.2.2.2.2++lG x.2.2.2.1)) (iP (dW (iT x.2.2.2.2++lG x.2.2.2.1))).1 (by rw [<-T]);have u:=HO _ _ _ A;have g:kF (Qb (dZ x.2.1).1 x.2.2.1)=if x.2.2.1=0 then((dZ x.2.1).1,[],false)else((dZ x.2.1).1,dO x.2.2.1,true):=by
   unfold Qb;by_cases j:x.2.2.1=0
   ·rw [aB j,aB j,G0 _ y]
   ·rw [aA j,aA j,Yf,F9 _ _ y (alt _ o n).2.2.2]
  generalize dW (iT x.2.2.2.2++lG x.2.2.2.1)=l at N M A U u⊢;generalize(iP l).1=t at N M A⊢;have b:=Jw x.2.1 x.2.2.1 o n;obtain⟨m,E⟩:=Qv x.2.1 x.2.2.1 y;have f:=uC x.2.1 y;have r:=(alt x.2.2.1 o n).1;have K:=vX x.1 R;obtain⟨I,J⟩:=Qd K;simp only;have O:Aw++jH x.1++[32]++Qb (dZ x.2.1).1 x.2.2.1++t=(Aw++jH x.1++[32])++(Qb (dZ x.2.1).1 x.2.2.1++t):=aA2;have v:∀c,(Qb (dZ x.2.1).1 x.2.2.1++t).head? =some c->cC c=false:=fun c i=>by rw [db _ _ m]at i;exact Cd c (nP (fun c=> !lA c) _ b c i)
  generalize Qb (dZ x.2.1).1 x.2.2.1=a at g b m E O v⊢;have C:cH (Aw++jH x.1++[32]++a++t)=Aw++jH x.1++[32]++a++t:=by
   refine I8 _ (fun c i=> ?_) (mY _ [] t _ A (N8 _ _ m (ju (fun c=> !lA c) Cd _ b)));have:c=83:=by have e:(Aw++jH x.1++[32]++a++t).head? =some 83:=rfl;rw [e,aU]at i;exact i.symm
   rw [this];decide
  have L:(Aw:aC).length=8:=rfl;have z:Aw++jH x.1++[32]++a++t=Aw++(jH x.1++32::(a++t)):=aA2;have D:cD cB (Aw++jH x.1++[32]++a++t) 8=8+(jH x.1).length:=by have:=vA cB _ Aw _ z;rw [N4 cB _ _ J,cz cB 32 _ aA1]at this;exact this
  have s:(Aw++jH x.1).length=8+(jH x.1).length:=by rw [bM,L]
  have S:Aw++jH x.1++[32]++a++t=(Aw++jH x.1)++32::(a++t):=aA2
  have H:cD cC (Aw++jH x.1++[32]++a++t) ((8+(jH x.1).length:Nat):Int)=8+(jH x.1).length+1:=by
   have:=vA cC _ (Aw++jH x.1) _ S;have e:dQ cC (32::(a++t))=1:=by rw [dQ,aB aA1,TH cC _ v]
   rw [e,s]at this;exact this
  have q:sub (Aw++jH x.1++[32]++a++t) 8 ((8+(jH x.1).length:Nat):Int)=jH x.1:=Bz _ Aw (jH x.1) (32::(a++t)) z;have G:(Aw++jH x.1++[32]).length=8+(jH x.1).length+1:=by rw [bM,s];rfl
  have p:(Aw++jH x.1++[32]++a++t).drop (8+(jH x.1).length+1)=a++t:=by rw [O,<-G,Fq]
  have k:dQ (fun c=> !lA c) (a++t)=a.length:=by rw [N4 _ _ _ b,TH _ t (fun c i=>by rw [M c i];decide)];rfl
  have F:¬(Aw++jH x.1++[32]++a++t).length<8:=by rw [z,bM,L];omega
  have B:jH ((Aw++jH x.1++[32]++a++t).take 8)=Aw:=by rw [z,<-L,Ov];decide
  have Q:=bK.2 I;unfold lO;rw [C,aA F,aA (not_not_intro B),D,aA aA0,H,aA aA0,q,p,k,Ov,Fq,Em];unfold Ua;rw [g];have w:∀d:Int,Bu (jH x.1) (dZ x.2.1).1 d t=((jH x.1,(dZ x.2.1).1,d,x.2.2.2.1,l),0):=by intro d;unfold Bu;rw [N,aB rfl,u]
  by_cases j:x.2.2.1=0
  ·rw [aB j];simp only;rw [f,aA (show¬(true=false)by decide),aA aA1,w,j]
  ·have P:kO (dO x.2.2.1)=(x.2.2.1,0):=by unfold kO;rw [r,aA (by rintro⟨_,h|h⟩<;>simp only at h<;>omega)]
   rw [aA j];simp only;rw [f,aA (show¬(true=false)by decide),aB trivial,P,aB rfl,w]
 ·rw [aA i]at h;exact absurd h aA1
theorem OE(x:VV)(h:(Fj x).2=0):Fj (jH x.1,(dZ x.2.1).1,x.2.2.1,x.2.2.2.1,dW (iT x.2.2.2.2++lG x.2.2.2.1))=Fj x:=by
 have b:=h;unfold Fj at b;by_cases c:(dZ x.2.1).2=true/\eY x.1=true/\0<=x.2.2.1/\x.2.2.1<=65535/\(iP (dW (iT x.2.2.2.2++lG x.2.2.2.1))).2=0
 ·obtain⟨e,d,i,g,m⟩:=c;obtain⟨s,r,o,q⟩:=nA (dW (iT x.2.2.2.2++lG x.2.2.2.1)) (iP (dW (iT x.2.2.2.2++lG x.2.2.2.1))).1 (by rw [<-m]);have k:=sq _ _ _ o;have a:(iT (dW (iT x.2.2.2.2++lG x.2.2.2.1))++lG x.2.2.2.1).Perm (iT x.2.2.2.2++lG x.2.2.2.1):=by
   refine List.Perm.append_right _ ?_;have f:(iT (dW (iT x.2.2.2.2++lG x.2.2.2.1))).Perm (iT (iT x.2.2.2.2++lG x.2.2.2.1)):=(SB _).filter _;have l:iT (iT x.2.2.2.2++lG x.2.2.2.1)=iT x.2.2.2.2:=by
    unfold iT;rw [List.filter_append,List.filter_filter];have n:(lG x.2.2.2.1).filter (fun p=> !(p.1==TN))=[]:=by
     unfold lG;split
     ·rfl
     ·simp
    rw [n,gA];congr 1;funext p;simp
   rw [l]at f;exact f
  have j:=Ls _ _ a.symm k;unfold Fj;simp only;rw [<-j,uC _ e,vX _ d,e,d,Em]
 ·rw [aA c]at b;exact absurd b aA1
open Go.Lib renaming hasPrefix → eZ, trimPrefix → eJ
def Tj(s:aC):Bool:=s.all fun c=> !eW c
theorem QP(k:Int)(a:k=0\/k=1\/k=2):∀c:UInt8,Lx c k=true->eW c=false:=by rcases a with rfl|rfl|rfl<;>exact eA _ aA3
theorem Pj:∀c:UInt8,eW (iF c)=eW c:=eA _ aA3
theorem EM(s:aC):Tj (dH s)=Tj s:=by unfold Tj dH;rw [List.all_map];congr 1;funext c;simp only [Function.comp_apply,Pj]
theorem Mz(s:aC)(d:aR s<=4194304):wm FU s=some (Tj s):=by
 have h:=Ns (fun c=> !eW c) s d false (ano FU s)
  (fun b=>by rw [apn,aim,aA aA0])
  (fun b k e h=>by have a:eW (at_ s (k:Int))=true:=aA9;rw [apn,aim,aB aA0,sF,wW,aY,a,aL])
  (fun b k e h=>by have a:eW (at_ s (k:Int))=false:=aA9;rw [apn,aim,aB aA0,sF,wW,aY,a,aG,sF])
 unfold wm;rw [h,aY];unfold Tj;cases s.all (fun c=> !eW c)<;>rfl
theorem wS(k:Int)(b:k=0\/k=1\/k=2):∀(f:Nat) (l:aC),mN k f l=none->Tj (sN k f l)=true
 |0,l,_=>rfl
 |f+1,l,h=>by
  unfold mN at h;unfold sN;by_cases d:l=[]
  ·rw [aB d];rfl
  ·rw [aA d]at h⊢;cases c:Lx (at_ l 0) k with
   |true=>rw [c,aB rfl,tD]at h;rw [aB rfl];have:=wS k b f (l.drop 1) h;unfold Tj at this⊢;rw [Ej,QP k b _ c,this];rfl
   |false=>
    rw [c,aA aA1]at h;rw [aA aA1];cases e:Ds l with
    |none=>rw [e]at h;cases h
    |some v=>
     rw [e]at h;simp only at h⊢;cases a:eW v with
     |true=>rw [a,aB rfl]at h;cases h
     |false=>rw [a,aA aA1,tD]at h;have:=wS k b f (l.drop 3) h;unfold Tj at this⊢;rw [Ej,a,this];rfl
theorem wR(k:Int)(a:k=0\/k=1\/k=2)(l:aC)(h:uQ k l=none):Tj (qK k l)=true:=wS k a _ l h
def V2(k:Int)(p:PP):Prop:=p.1≠[]/\dH p.1=p.1/\Tj p.1=true/\Tj p.2.1=true/\(k=1->p.2.2= !decide (p.2.1=[]))/\(k=2->p.2.2=true)
variable {s:aC}
theorem KG(h:Ea l s=0):∀q∈l,q.1≠s:=by
 unfold Ea at h;split at h
 ·exact absurd h aA1
 ·rename_i b;intro q a e;exact b (eI.2 ⟨q,a,aF0⟩)
theorem D1(k:Int)(r:k=1\/k=2)(l:List PP)(T:aC)(h:(hZ k l T).1=0):V2 k (hZ k l T).2/\∀q∈l,q.1≠(hZ k l T).2.1:=by
 have d:k=0\/k=1\/k=2:=.inr r;unfold hZ at h⊢;cases g:uQ k (T.take (kG T))with
 |some j=>rw [g]at h;exact absurd h (show¬(5:UInt8)=0 by decide)
 |none=>
  rw [g]at h;simp only at h⊢;by_cases o:kG T=0
  ·rw [aB o]at h;exact absurd h aA1
  ·rw [aA o]at h⊢;have i:∀_:kG T<=aR T,T.take (kG T)≠[]:=fun p e=>by have:=bD aR e;rw [kR,eO]at this;omega
   have b:=i (FN _ _);have n:dH (qK k (T.take (kG T)))≠[]:=fun e=>b ((Ah k _ g).1 ((Cw _).1 e));have f:Tj (dH (qK k (T.take (kG T))))=true:=by rw [EM];exact wR k d _ g
   by_cases c:kG T<aR T
   ·rw [aB c]at h⊢;cases a:uQ k (T.drop (kG T+1))with
    |some j=>rw [a]at h;exact absurd h (show¬(5:UInt8)=0 by decide)
    |none=>
     rw [a]at h;simp only at h⊢;by_cases hx:T.drop (kG T+1)=[]/\k=1
     ·rw [aB hx]at h;exact absurd h aA1
     ·rw [aA hx]at h⊢;refine⟨⟨n,zA _,f,wR k d _ a,fun s=> ?_,fun _=>rfl⟩,KG h⟩;have:¬qK k (T.drop (kG T+1))=[]:=fun e=>hx ⟨(Ah k _ a).1 e,s⟩;show true= !decide (qK k (T.drop (kG T+1))=[]);rw [aO this];rfl
   ·rw [aA c]at h⊢;by_cases m:k=2
    ·rw [aB m]at h;exact absurd h aA1
    ·rw [aA m]at h⊢;exact⟨⟨n,zA _,f,rfl,fun _=>rfl,fun e=>absurd e m⟩,KG h⟩
def LS(k:Int)(l:List PP):Prop:=Gf l/\∀p∈l,V2 k p
theorem LS.nil(k:Int):LS k []:=⟨List.Pairwise.nil,aA2⟩
variable {k:Int}
theorem LS.snoc(h:LS k l)(p:PP)(d:V2 k p)(e:∀q∈l,q.1≠p.1):LS k (l++[p]):=by
 refine⟨dI.2 ⟨h.1,List.pairwise_singleton _ _,fun a g b f=> ?_⟩,fun q c=> ?_⟩
 ·rw [aE.1 f];exact e a g
 ·rcases aS.1 c with c|c
  ·exact h.2 q c
  ·rw [aE.1 c];exact d
theorem LS.sort(h:LS k l):LS k (dW l):=⟨Ae (SB l).symm h.1,fun p a=>h.2 p ((SB l).mem_iff.1 a)⟩
theorem sD(l:List PP)(h:Gf l):dW (dW l)=dW l:=(Ls l (dW l) (SB l).symm h).symm
theorem XZ(st s:aC):∀(f i:Nat) (l:List PP),LS 1 l->LS 1 (qG st s f i l).2.2
 |0,i,l,h=>h
 |f+1,i,l,h=>by
  unfold qG;split
  ·split
   ·rename_i c;obtain⟨b,a⟩:=D1 1 (.inl rfl) _ _ c;exact XZ st s f _ _ (h.snoc _ b a)
   ·exact LS.nil 1
  ·exact h
theorem A8(s:aC):∀(f i:Nat) (l:List PP),LS 2 l->LS 2 (Gd s f i l).2
 |0,i,l,h=>h
 |f+1,i,l,h=>by
  unfold Gd;split
  ·split
   ·rename_i c;obtain⟨b,a⟩:=D1 2 (.inr rfl) _ _ c;exact A8 s f _ _ (h.snoc _ b a)
   ·exact LS.nil 2
  ·exact h
def sK(u:aC):Bool:= !decide (eJ u [43]=[])&&decide ((eJ u [43]).length<=30)&&(eJ u [43]).all (sL (eZ u [43]))
theorem Fh(b:Bool)(c:UInt8):((TL FU c).bind fun(a:Bool)=>(bif (!a)then(bif b then some true else(if c=(42:UInt8)then some false else some (!decide (c=(35:UInt8)))))else some false))=some (!sL b c):=by rw [sW,aY];revert c;cases b<;>exact eA _ aA3
theorem RL(u:aC)(f:aR u<=4194304):ara FU u=some (sK u):=by
 have b:=Ix u [43];have h:=Ns (sL (eZ u [43])) (eJ u [43]) aA0 false (alk FU u)
  (fun c=>by rw [aoo,ahz,aA aA0])
  (fun c k d h=>by rw [aoo,ahz,aB aA0,sF,Fh,aY,h,xI,aL])
  (fun c k d h=>by rw [aoo,ahz,aB aA0,sF,Fh,aY,h,jM,aG,sF])
 unfold ara sK;by_cases a:eJ u [43]=[]
 ·rw [aB a,aY,aL,aK a];rfl
 ·rw [aA a,aY,aO a];by_cases e:30<(eJ u [43]).length
  ·rw [aK aA0,aL,aO (show¬(eJ u [43]).length<=30 by omega)];rfl
  ·rw [aO aA0,aG,h,aY,aK (show(eJ u [43]).length<=30 by omega)];cases(eJ u [43]).all (sL (eZ u [43]))<;>rfl
theorem Dh(a:Bool):∀(T d:aC),Pv a T=some d->d.all (sL a)=true
 |[],d,h=>by simp only [Pv,aU]at h;subst h;rfl
 |c::T,d,h=>by
  unfold Pv at h;split at h
  ·rename_i e;cases b:Pv a T with
   |none=>rw [b]at h;cases h
   |some d'=>rw [b]at h;simp only [Yp,aU]at h;subst h;rw [Ej,e,Dh a T d' b];rfl
  ·split at h
   ·exact Dh a T d h
   ·cases h
theorem Q9(s:aC)(i:Nat)(h:(qW s i).1=0):sK (qW s i).2=true:=by
 unfold qW at h⊢;cases f:Pv (fJ s i 43) (sub s ((if fJ s i 43=true then i+1 else i:Nat):Int) (cM [59] s i:Int))with
 |none=>rw [f]at h;exact absurd h (show¬(5:UInt8)=0 by decide)
 |some d=>
  rw [f]at h;simp only at h⊢;by_cases j:d=[]
  ·rw [aB j]at h;exact absurd h aA1
  ·rw [aA j]at h⊢;by_cases g:30<aR d
   ·rw [aB g]at h;exact absurd h aA1
   ·rw [aA g];have a:=Dh _ _ _ f;simp only;cases b:fJ s i 43 with
    |true=>
     rw [b]at a;rw [aB rfl];have l:eJ (43::d) [43]=d:=by unfold eJ eZ;simp
     have k:eZ (43::d) [43]=true:=by unfold eZ;simp
     unfold sK;rw [l,k,a,aO j,aK (show d.length<=30 by omega)];rfl
    |false=>
     rw [b]at a f;rw [aA aA1];have l:=Lm _ _ f;have k:eZ d [43]=false:=by
      cases d with
      |nil=>exact absurd rfl j
      |cons c d=>
       have m:sL false c=true:=by rw [Ej,fS]at a;exact a.1
       have:c≠43:=fun e=>by subst e;exact absurd m aA1
       have n:¬(43:UInt8)=c:=fun e=>this e.symm;show((43:UInt8)==c&&([]:aC).isPrefixOf d)=false;rw [eP.2 n];rfl
     unfold sK;rw [l,k,a,aO j,aK (show d.length<=30 by omega)];rfl
structure Good (u:UU):Prop where
 S5:((u.1=K6\/u.1=Xy)/\dZ u.2.2.1=(u.2.2.1,true)/\0<=u.2.2.2.1/\u.2.2.2.1<=65535/\Tj u.2.1=true)\/(u.1=kq/\u.2.2.1=[]/\u.2.2.2.1=0/\u.2.2.2.2.2=[]/\sK u.2.1=true)
 ps:LS 1 u.2.2.2.2.1
 hs:LS 2 u.2.2.2.2.2
 pl:aR u.2.2.2.2.1<=16
 hl:aR u.2.2.2.2.2<=16
 pi:dW u.2.2.2.2.1=u.2.2.2.2.1
 hi:dW u.2.2.2.2.2=u.2.2.2.2.2
theorem AF(st s b e h:aC)(a:Int)(i:Nat)(c:(mV st s b e h a i).1=0):
  ∃P H,(mV st s b e h a i).2=(b,e,h,a,P,H)/\LS 1 P/\LS 2 H/\P.length<=16/\H.length<=16/\dW P=P/\dW H=H/\H=dW (Gd s (aR s+1) (qG st s (aR s+1) i []).2.1 []).2:=by
 unfold mV at c⊢;have j:=XZ st s (aR s+1) i [] (LS.nil 1);have g:=A8 s (aR s+1) (qG st s (aR s+1) i []).2.1 [] (LS.nil 2);have l:=Vq st s (aR s+1) i [] aA2;have k:=Wp s (aR s+1) (qG st s (aR s+1) i []).2.1 [] aA2;split
 ·rename_i d;rw [aB d]at c;split
  ·exact⟨_,_,rfl,j.sort,g.sort,by rw [tZ];exact l,by rw [tZ];exact k,sD _ j.1,sD _ g.1,rfl⟩
  ·rename_i f;rw [aA f]at c;exact absurd c f
 ·rename_i d;rw [aA d]at c;exact absurd c d
theorem XV(q:aC)(h:(kO q).2=0):1<=(kO q).1/\(kO q).1<=65535:=by
 unfold kO at h⊢;split
 ·rename_i hx;rw [aB hx]at h;exact absurd h aA1
 ·rename_i hx;rw [aA hx]at h;have a:¬((gX q).1<1\/65535<(gX q).1):=fun e=>hx ⟨h,e⟩;omega
theorem ZY(s:aC)(i:Nat)(h:(Oo s i).1=0):dZ (Oo s i).2.1=((Oo s i).2.1,true)/\0<=(Oo s i).2.2.1/\(Oo s i).2.2.1<=65535:=by
 unfold Oo at h⊢;split
 ·rename_i c;rw [aB c]at h;exact absurd h aA1
 ·rename_i c;rw [aA c]at h;have hid:=uC _ aC3;split
  ·rename_i a;rw [aB a]at h;split
   ·rename_i b;have:=XV _ b;exact⟨hid,by simp only;omega,by simp only;omega⟩
   ·rename_i b;rw [aA b]at h;exact absurd h b
  ·rename_i a;rw [aA a]at h;split
   ·rename_i hx;rw [aB hx]at h;exact absurd h aA1
   ·exact⟨hid,show(0:Int)<=0 by decide,show(0:Int)<=65535 by decide⟩
theorem Q3(U:aC)(h:(Fs U).1=0):Tj (Fs U).2=true/\(Fs U).2≠[]:=by
 unfold Fs at h⊢;cases a:uQ 0 U with
 |some j=>rw [a]at h;simp only at h;split at h<;>exact absurd h aA1
 |none=>
  rw [a]at h;simp only at h⊢;by_cases b:U=[]
  ·rw [aB b]at h;exact absurd h aA1
  ·rw [aA b];exact⟨wR 0 (.inl rfl) U a,fun e=>b ((Ah 0 U a).1 e)⟩
theorem om(s:aC)(i:Nat)(h:(wE s i).1=0):dZ (wE s i).2.2.1=((wE s i).2.2.1,true)/\0<=(wE s i).2.2.2.1/\(wE s i).2.2.2.1<=65535/\Tj (wE s i).2.1=true:=by
 unfold wE at h⊢;split
 ·rename_i a;rw [aB a]at h;split
  ·rename_i b;rw [aB b]at h;have:=ZY s _ h;exact⟨this.1,this.2.1,this.2.2,(Q3 _ b).1⟩
  ·rename_i b;rw [aA b]at h;exact absurd h b
 ·rename_i a;rw [aA a]at h;have:=ZY s _ h;exact⟨this.1,this.2.1,this.2.2,rfl⟩
theorem LA(s:aC):∀(f i:Nat) (l:List PP),i<=aR s->aR s-i<f->(i=aR s\/fJ s i 59=true)->(qG [59] s f i l).1=0->(qG [59] s f i l).2.1=aR s
 |0,i,l,n,m,h,b=>by omega
 |f+1,i,l,n,m,h,b=>by
  unfold qG at b⊢;by_cases d:fJ s i 59=true
  ·rw [aB d]at b⊢;have c:=(Nu d).1;have j:=jZ [59] s (i+1);have e:=NG [59] s (i+1) c;by_cases g:(hZ 1 l (sub s ((i+1:Nat):Int) (cM [59] s (i+1):Int))).1=0
   ·rw [aB g]at b⊢;refine LA s f _ _ e aA0 ?_ b;by_cases k:cM [59] s (i+1)=aR s
    ·exact .inl k
    ·have a:=Zc [59] s (i+1) c aA0;refine .inr ?_;unfold fJ;rw [aK aA0,Ig];unfold jO at a;rw [Ol,tG,SP]at a;have o:=eq_of_beq a;rw [<-o];rfl
   ·rw [aA g]at b;exact absurd b g
  ·rw [aA d];exact h.resolve_right d
theorem Kc(s:aC)(h:(Tl s).1=0):Good (Tl s).2:=by
 unfold Tl at h⊢;by_cases t:1024<aR s
 ·rw [aB t]at h;exact absurd h aA1
 ·rw [aA t]at h⊢;by_cases j:cM [58] s 0<aR s
  ·rw [aB j]at h⊢;generalize cM [58] s 0=c at j h⊢;generalize dH (s.take c)=f at h⊢;by_cases b:f=K6\/f=Xy
   ·rw [aB b]at h⊢;by_cases d:(wE s (c+1)).1=0
    ·rw [aB d]at h⊢;obtain⟨P,H,e,r,q,p,o,n,m,_⟩:=AF _ _ _ _ _ _ _ h;rw [e];obtain⟨A,z,y,x⟩:=om s (c+1) d;exact⟨.inl ⟨b,A,z,y,x⟩,r,q,p,o,n,m⟩
    ·rw [aA d]at h;exact absurd h d
   ·rw [aA b]at h⊢;by_cases a:f=kq
    ·rw [aB a]at h⊢;by_cases d:(qW s (c+1)).1=0
     ·rw [aB d]at h⊢;have u:=jZ [59] s (c+1);have k:=NG [59] s (c+1) j;have l:(qG [59] s (aR s+1) (cM [59] s (c+1)) []).1=0:=by
       unfold mV at h;by_cases hx:(qG [59] s (aR s+1) (cM [59] s (c+1)) []).1=0
       ·exact hx
       ·rw [aA hx]at h;exact absurd h hx
      have i:=LA s (aR s+1) (cM [59] s (c+1)) [] k aA0 (by
       by_cases v:cM [59] s (c+1)=aR s
       ·exact .inl v
       ·have g:=Zc [59] s (c+1) j aA0;refine .inr ?_;unfold fJ;rw [aK aA0,Ig];unfold jO at g;rw [Ol,tG,SP]at g;have B:=eq_of_beq g;rw [<-B];rfl) l
      obtain⟨P,H,e,r,q,p,o,n,m,C⟩:=AF _ _ _ _ _ _ _ h;rw [e];have w:H=[]:=by rw [C,i,Gd,aA (Nat.lt_irrefl _)];rfl
      exact⟨.inr ⟨a,rfl,rfl,w,Q9 s (c+1) d⟩,r,q,p,o,n,m⟩
     ·rw [aA d]at h;exact absurd h d
    ·rw [aA a]at h;exact absurd h aA1
  ·rw [aA j]at h;exact absurd h aA1
theorem RE(k:Int)(z:k=1\/k=2)(l:List PP)(E:aR l<=16)(n:LS k l)(B:∀p∈l,aR p.1<=4194304/\p.2.1.length<=4194304)(q:List PP):∀(p:List PP) (b:Nat),l=p++q->aR q<b->
  ail FU l k b p (aR p:Int)=some (.inl l):=by
 induction q with
 |nil=>intro p b h i;obtain⟨b,rfl⟩:=dY b;rw [atr,akp,aA aA7,h,gA]
 |cons a q y=>
  intro p b h i;obtain⟨b,rfl⟩:=dY b;have d:=bD aR h;simp only [bM,bR]at d i;have c:(0:Int)<=(aR p:Int)/\(aR p:Int)<(aR l:Int):=aA0;have A:el l (aR p:Int)=a:=aB4;have m:a∈l:=aA7;obtain⟨w,v,u,t,s,r⟩:=n.2 a m;obtain⟨o,D⟩:=B a m;have g:(p.any fun x=>x.1==a.1)=false:=by rw [dX];intro x hx e;have j:=n.1;rw [h]at j;exact(dI.1 j).2.2 x hx a aA2 aF0
  have f:=y (p++[a]) b aA7 aA0;rw [show((p++[a]).length:Int)=(aR p:Int)+1 by simp]at f;rw [atr,akp,aB c.2,bA c,bA c,A,N6 _ o,aY,v,aA w,Mz _ o,aY,u,jM,aG,Mz _ D,aY,t,jM,aG,Mb p aA0,g,aY,aY,aG];have C:(if k=(2:Int)then(bif (!(a.2.2))then some true else(if k=(1:Int)then some (!((a.2.2)==(!decide ((a.2.1)=([]:aC)))))else some false))else(if k=(1:Int)then some (!((a.2.2)==(!decide ((a.2.1)=([]:aC)))))else some false))=some false:=by
   rcases z with rfl|rfl
   ·rw [aA aA1,aB rfl,s rfl];simp
   ·rw [aB rfl,r rfl,jM,aG,aA aA1]
  rw [C,aY,aG];simp only [Vm];rw [bA aB0,bA (eT _ aA0 aA0)];exact f
theorem uE(k:Int)(b:k=1\/k=2)(l:List PP)(a:aR l<=16)(d:LS k l)(c:∀p∈l,aR p.1<=4194304/\p.2.1.length<=4194304):aob FU l k=some (dW l,true):=by unfold aob;have h:ail FU l k FU [] (0:Int)=some (.inl l):=RE k b l a d c l [] FU rfl aA6;rw [aA aA0,h,aY,pR,pJ l aA0,aY]
def Sml(u:UU):Prop:=aR u.1<=4194304/\u.2.1.length<=4194304/\u.2.2.1.length<=4194304/\(∀p∈u.2.2.2.2.1,aR p.1<=4194304/\p.2.1.length<=4194304)/\(∀p∈u.2.2.2.2.2,aR p.1<=4194304/\p.2.1.length<=4194304)
theorem PT(u:UU)(A:Good u)(z:Sml u):arb FU u=some (u,0):=by
 obtain⟨a,B,h,y,P,H⟩:=u;obtain⟨t,s,r,q,p,o,n⟩:=A;obtain⟨x,g,w,f,e⟩:=z;simp only at t s r q p o n x g w f e;have c:dH a=a:=by
  rcases t with⟨b,_⟩|⟨b,_⟩
  ·rcases b with rfl|rfl<;>decide
  ·rw [b];decide
 unfold arb;simp only;rw [N6 _ x,aY,c];have v:(if a=([115,105,112]:aC)then some (decide (a=([115,105,112]:aC)))else some (decide (a=([115,105,112,115]:aC))))=some (decide (a=K6\/a=Xy)):=by
  by_cases d:a=K6
  ·rw [aB (show a=([115,105,112]:aC)from d),aK (show a=([115,105,112]:aC)from d),aK (Or.inl d)]
  ·rw [aA (show¬a=([115,105,112]:aC)from d)];congr 1;rw [eH];exact⟨Or.inr,fun h=>h.resolve_left d⟩
 rw [v,aY];rcases t with⟨b,m,l,k,j⟩|⟨b,m,l,k,j⟩
 ·rw [aK b,aL,vk _ w,aY,m,aL,aB l,aB k,Mz _ g,aY,j,aY];rw [uE 1 (.inl rfl) P q s f,aY,uE 2 (.inr rfl) H p r e,aY,o,n];rfl
 ·subst m l k;have i:¬(a=K6\/a=Xy):=by rw [b];decide
  rw [aO i,aG,aB (show a=([116,101,108]:aC)from b),aB rfl,aB rfl,aB (show(([]:List PP).length:Int)=0 from rfl),RL _ g,aY,j,aY];rw [uE 1 (.inl rfl) P q s f,aY,uE 2 (.inr rfl) [] p r e,aY,o,n];rfl
def pG(n:Nat):UInt8:=at_ [48,49,50,51,52,53,54,55,56,57,65,66,67,68,69,70] (n:Int)
def DU(k:Int)(c:UInt8):aC:=if Lx c k=true then [c]else [37,pG (c.toNat/16),pG (c.toNat%16)]
def gY(k:Int)(s:aC):aC:=s.flatMap (DU k)
theorem shr4:∀c:UInt8,(Ut c (4:Int)).toNat=c.toNat/16:=eA _ aA3
theorem pf:∀c:UInt8,(c&&&(15:UInt8)).toNat=c.toNat%16:=eA _ aA3
theorem FL(k:Int)(s:aC):(gY k s).length<=3*aR s:=by
 unfold gY;induction s with
 |nil=>exact eV _
 |cons c s a=>
  rw [kS,bM,bR];have:(DU k c).length<=3:=by unfold DU;split<;>simp
  omega
theorem ri(s:aC)(r:aR s<=4194304)(k:Int)(l:k=0\/k=1\/k=2)(q:aC):∀(p:aC) (d:Nat),s=p++q->aR q<d->
  ain FU s k d (gY k p) (aR p:Int)=some (gY k s):=by
 induction q with
 |nil=>intro p d h g;obtain⟨d,rfl⟩:=dY d;rw [atu,aku,aA aA7,h,gA]
 |cons c q j=>
  intro p d h g;obtain⟨d,rfl⟩:=dY d;have e:=bD aR h;simp only [bM,bR]at e g;have b:(0:Int)<=(aR p:Int)/\(aR p:Int)<(aR s:Int):=aA0;have n:at_ s (aR p:Int)=c:=by rw [h];simp [at_]
  have a:=j (p++[c]) d aA7 aA0;have m:=FL k p;have o:gY k (p++[c])=gY k p++DU k c:=by unfold gY;rw [SN,JB]
  rw [show((p++[c]).length:Int)=(aR p:Int)+1 by simp,o]at a;rw [atu,aku,aB b.2,bA b,Lw _ k l,n,aY];unfold DU at a;cases i:Lx c k with
  |true=>rw [i,aB rfl]at a;rw [aL,bA b,bA aB0,bA (eT _ aA0 aA0)];exact a
  |false=>rw [i,aA aA1]at a;have t:=TP c;have f:(([48,49,50,51,52,53,54,55,56,57,65,66,67,68,69,70]:aC).length:Int)=16:=rfl;rw [aG,bA b,shr4,pf,f,bA aA0,bA b,bA aA0,bA aB5,bA (eT _ aA0 aA0)];exact a
theorem nR(s:aC)(a:aR s<=4194304)(k:Int)(b:k=0\/k=1\/k=2):J9 FU s k=some (gY k s):=by unfold J9;have h:ain FU s k FU [] (0:Int)=some (gY k s):=ri s a k b s [] FU rfl aA6;rw [B9 aA0,h,aY]
theorem ar:∀c:UInt8,jD (pG (c.toNat/16))=true/\jD (pG (c.toNat%16))=true/\esV (pG (c.toNat/16)) (pG (c.toNat%16))=c:=eA _ aA3
theorem D8(c:UInt8)(t:aC):Ds (37::pG (c.toNat/16)::pG (c.toNat%16)::t)=some c:=by obtain⟨d,b,a⟩:=ar c;unfold Ds;have g:at_ (37::pG (c.toNat/16)::pG (c.toNat%16)::t) 0=37:=rfl;have f:at_ (37::pG (c.toNat/16)::pG (c.toNat%16)::t) 1=pG (c.toNat/16):=rfl;have e:at_ (37::pG (c.toNat/16)::pG (c.toNat%16)::t) 2=pG (c.toNat%16):=rfl;rw [g,f,e,aB ⟨aA2,rfl,d,b⟩,a]
theorem Mp(k:Int)(g:k=0\/k=1\/k=2):∀(s:aC) (f:Nat),Tj s=true->(gY k s).length<f->mN k f (gY k s)=none/\sN k f (gY k s)=s
 |[],f,_,b=>by obtain⟨f,rfl⟩:∃m,f=m+1:=⟨f-1,aA0⟩;exact⟨rfl,rfl⟩
 |c::s,f,d,b=>by
  obtain⟨f,rfl⟩:∃m,f=m+1:=⟨f-1,aA0⟩;unfold Tj at d;rw [Ej,fS]at d;have e:gY k (c::s)=DU k c++gY k s:=by unfold gY;rw [kS]
  rw [e]at b⊢;unfold DU at b⊢;cases h:Lx c k with
  |true=>rw [h,aB rfl]at b;obtain⟨l,j⟩:=Mp k g s f d.2 aF8;have n:at_ (c::gY k s) 0=c:=rfl;rw [aB rfl,Yf];have a:¬(c::gY k s=[]):=aA2;unfold mN sN;rw [aA a,aA a,n,h,aB rfl,aB rfl,ej,SR,l,j];exact⟨rfl,rfl⟩
  |false=>
   rw [h,aA aA1]at b;obtain⟨l,j⟩:=Mp k g s f d.2 aF8;rw [aA aA1];have o:=D8 c (gY k s);have i:eW c=false:=by simpa using d.1
   show mN k (f+1) (37::pG (c.toNat/16)::pG (c.toNat%16)::gY k s)=none/\sN k (f+1) (37::pG (c.toNat/16)::pG (c.toNat%16)::gY k s)=c::s;have n:at_ (37::pG (c.toNat/16)::pG (c.toNat%16)::gY k s) 0=37:=rfl;have a:¬(37::pG (c.toNat/16)::pG (c.toNat%16)::gY k s=[]):=aA2;unfold mN sN;rw [aA a,aA a,n,gv k g,aA aA1,aA aA1,o];simp only;rw [i,aA aA1];simp only [ej,SR];rw [l,j];exact⟨rfl,rfl⟩
theorem Dq(k:Int)(a:k=0\/k=1\/k=2)(s:aC)(h:Tj s=true):uQ k (gY k s)=none/\qK k (gY k s)=s:=Mp k a s _ h (vT _)
theorem mC(k:Int)(q:UInt8->Bool)(f:∀c,Lx c k=true->q c=true)(e:q 37=true)(b:∀c:UInt8,q (pG (c.toNat/16))=true/\q (pG (c.toNat%16))=true)(s:aC):∀c∈gY k s,q c=true:=by
 intro c a;unfold gY at a;rw [lW]at a;obtain⟨x,_,hx⟩:=a;unfold DU at hx;split at hx
 ·rename_i d;rw [aE.1 hx];exact f x d
 ·simp only [SQ,iK,K9]at hx;rcases hx with rfl|rfl|rfl
  ·exact e
  ·exact(b x).1
  ·exact(b x).2
theorem Ek(out s:aC)(h:aR out+aR s<=140737488355328):Ym FU ((),out) s=some ((aR s:Int),(),(),out++s):=by unfold Ym;simp only;rw [bA aA0]
theorem fi(out:aC)(c:UInt8)(h:aR out+1<=140737488355328):aeh FU ((),out) c=some ((),(),out++[c]):=by unfold aeh;simp only;rw [bA aB0]
def jB(p:PP):aC:=gY 1 p.1++(bif p.2.2 then 61::gY 1 p.2.1 else [])
def iI(p:PP):aC:=gY 2 p.1++61::gY 2 p.2.1
def oC(l:List PP):aC:=l.flatMap fun p=>59::jB p
def fW(l:List PP):aC:=l.flatMap fun p=>38::iI p
def kC:List PP->aC
 |[]=>[]
 |p::r=>63::(iI p++fW r)
def Yg(u:UU):aC:=if u.1=kq then u.2.1 else if u.2.1=[]then []else gY 0 u.2.1++[64]
def uK(n:Int):aC:=if n=0 then []else 58::dO n
def tT(u:UU):aC:=u.1++(58::(Yg u++(u.2.2.1++(uK u.2.2.2.1++(oC u.2.2.2.2.1++kC u.2.2.2.2.2)))))
theorem AX(p:PP)(h:aR p.1<=4194304/\p.2.1.length<=4194304):(jB p).length<=25165830:=by
 have b:=FL 1 p.1;have a:=FL 1 p.2.1;unfold jB;rw [bM];cases p.2.2 with
 |true=>rw [aL,bR];omega
 |false=>rw [aG,eO];omega
theorem MK(p:PP)(h:aR p.1<=4194304/\p.2.1.length<=4194304):(iI p).length<=25165830:=by have b:=FL 2 p.1;have a:=FL 2 p.2.1;unfold iI;rw [bM,bR];omega
theorem PF(u:UU)(q:∀p∈u.2.2.2.2.1,aR p.1<=4194304/\p.2.1.length<=4194304)(s:aR u.2.2.2.2.1<=16)(r:List PP):∀(pre:List PP) (a:Nat) (out:aC),u.2.2.2.2.1=pre++r->aR r<a->aR out<=100000000+aR pre*30000000->
  xm FU (u,0) a (aR pre:Int) () out=some ((),out++oC r):=by
 induction r with
 |nil=>intro pre a out h j m;obtain⟨a,rfl⟩:=dY a;rw [gA]at h;rw [aux,aln,aA aA7];simp [oC]
 |cons p r k=>
  intro pre a out h j m;obtain⟨a,rfl⟩:=dY a;have f:=bD aR h;simp only [bM,bR]at f j;have b:(0:Int)<=(aR pre:Int)/\(aR pre:Int)<(aR u.2.2.2.2.1:Int):=aA0;have n:el u.2.2.2.2.1 (aR pre:Int)=p:=aB4;have c:=q p aA7;have v:=FL 1 p.1;have t:=FL 1 p.2.1;have d:bZ ((aR pre:Int)+1):=eT _ aA0 aA0;have next:∀o:aC,o=out++(59::jB p)->xm FU (u,0) a ((aR pre:Int)+1) () o=some ((),out++oC (p::r)):=by intro o e;have l:=AX p c;have g:=k (pre++[p]) a o aA7 aA0 (by rw [e];simp only [bM,bR,eO];omega);rw [show((pre++[p]).length:Int)=(aR pre:Int)+1 by simp]at g;rw [g,e];simp [oC]
  rw [aux,aln,aB b.2];simp only;rw [bA b,bA b,n,nR _ c.1 1 (.inr (.inl rfl)),aY,bA aB0,Ek _ _ aA8,aY];cases i:p.2.2 with
  |true=>
   rw [aL,nR _ c.2 1 (.inr (.inl rfl)),aY,bA aB0,Ek _ _ aA8,aY,bA d];refine next _ ?_
   unfold jB;rw [i];simp
  |false=>
   rw [aG,bA d];refine next _ ?_
   unfold jB;rw [i];simp
theorem PE(u:UU)(y:∀p∈u.2.2.2.2.2,aR p.1<=4194304/\p.2.1.length<=4194304)(z:aR u.2.2.2.2.2<=16)(r:List PP):∀(pre:List PP) (b:Nat) (out:aC),u.2.2.2.2.2=pre++r->aR r<b->aR out<=1000000000+aR pre*30000000->
  uu FU (u,0) b (aR pre:Int) () out=some ((),out++(if pre=[]then kC r else fW r)):=by
 induction r with
 |nil=>intro pre b out h s w;obtain⟨b,rfl⟩:=dY b;rw [gA]at h;rw [auw,alm,aA aA7];split<;>simp [kC,fW]
 |cons p r t=>
  intro pre b out h s w;obtain⟨b,rfl⟩:=dY b;have k:=bD aR h;simp only [bM,bR]at k s;have f:(0:Int)<=(aR pre:Int)/\(aR pre:Int)<(aR u.2.2.2.2.2:Int):=aA0;have x:el u.2.2.2.2.2 (aR pre:Int)=p:=aB4;have g:=y p aA7;have B:=FL 2 p.1;have A:=FL 2 p.2.1;have v:=MK p g;have q:bZ ((aR pre:Int)+1):=eT _ aA0 aA0;have next:∀(c:UInt8) (o:aC),o=out++(c::iI p)->uu FU (u,0) b ((aR pre:Int)+1) () o=some ((),out++(c::(iI p++fW r))):=by intro c o j;have l:=t (pre++[p]) b o aA7 aA0 (by rw [j];simp only [bM,bR,eO];omega);rw [show((pre++[p]).length:Int)=(aR pre:Int)+1 by simp,aA aA2]at l;rw [l,j];simp
  have tail:∀(c:UInt8),((J9 FU p.1 (2:Int)).bind fun(a:aC)=>(gd (aR a+([61]:aC).length<=9223372036854775807)<|((J9 FU p.2.1 (2:Int)).bind fun(d:aC)=>(gd ((a++([61]:aC)).length+aR d<=9223372036854775807)<|((Ym FU ((),out++[c]) ((a++([61]:aC))++d)).bind fun(i:(Int×Unit×(Unit×(List UInt8))))=>(gd (bZ ((aR pre:Int)+(1:Int)))<|(uu FU (u,0) b ((aR pre:Int)+(1:Int)) () i.2.2.2)))))))=some ((),out++(c::(iI p++fW r))):=by
   intro c;rw [nR _ g.1 2 (.inr (.inr rfl)),aY,bA aB0,nR _ g.2 2 (.inr (.inr rfl)),aY,bA aA8,Ek _ _ aA8,aY,bA q];refine next c _ ?_
   unfold iI;simp
  rw [auw,alm,aB f.2];simp only;rw [bA f,bA f,x];by_cases m:pre=[]
  ·have n:(aR pre:Int)=0:=by rw [m];rfl
   rw [aB n,aB m,fi _ _ aA0,aY,aY];simp only;rw [tail 63];rfl
  ·have n:¬(aR pre:Int)=0:=fun e=>m (Fp aA0);rw [aA n,aA m,fi _ _ aA0,aY,aY];simp only;rw [tail 38];unfold fW;rw [kS];rfl
theorem Co:∀(l:List PP),(∀p∈l,aR p.1<=4194304/\p.2.1.length<=4194304)->(oC l).length<=aR l*30000000
 |[],_=>eV _
 |p::l,h=>by have c:=AX p (h p fQ);have b:=Co l (fun q a=>h q (fB _ a));unfold oC at b⊢;rw [kS,bM,bR,bR];omega
theorem DB:∀(l:List PP),(∀p∈l,aR p.1<=4194304/\p.2.1.length<=4194304)->(fW l).length<=aR l*30000000
 |[],_=>eV _
 |p::l,h=>by have c:=MK p (h p fQ);have b:=DB l (fun q a=>h q (fB _ a));unfold fW at b⊢;rw [kS,bM,bR,bR];omega
theorem DA(l:List PP)(h:∀p∈l,aR p.1<=4194304/\p.2.1.length<=4194304):(kC l).length<=aR l*30000000:=by
 have:=DB l h;cases l with
 |nil=>exact dL _
 |cons p l=>unfold fW at this;rw [kS,bM,bR]at this;unfold kC fW;rw [bR,bM];omega
theorem XS(u:UU)(g:Good u)(z:Sml u):atj FU u=some (tT u,0):=by
 have d:0<=u.2.2.2.1/\u.2.2.2.1<=65535:=by
  rcases g.S5 with⟨_,_,p,A,_⟩|⟨_,_,h,_⟩
  ·exact⟨p,A⟩
  ·omega
 have hit:=alt u.2.2.2.1 d.1 d.2;have m:=g.pl;have n:=g.hl;have x:=FL 0 u.2.1;obtain⟨w,s,v,l,k⟩:=z;have C:=Co _ l;have B:=DA _ k;unfold atj;rw [PT u g ⟨w,s,v,l,k⟩,aY,aB rfl];simp only;rw [bA aB0,Ek _ _ aC9,aY];simp only;have q:(if u.1=([116,101,108]:aC)then((Ym FU ((),([]:aC)++(u.1++([58]:aC))) u.2.1).bind fun(j:(Int×Unit×(Unit×(List UInt8))))=>some ((),j.2.2.2))else(if u.2.1=([]:aC)then some ((),([]:aC)++(u.1++([58]:aC)))else((J9 FU u.2.1 (0:Int)).bind fun(b:aC)=>(gd (aR b+([64]:aC).length<=9223372036854775807)<|((Ym FU ((),([]:aC)++(u.1++([58]:aC))) (b++([64]:aC))).bind fun(i:(Int×Unit×(Unit×(List UInt8))))=>some ((),i.2.2.2))))))=some ((),u.1++([58]:aC)++Yg u):=by
  unfold Yg;by_cases e:u.1=kq
  ·rw [aB (show u.1=([116,101,108]:aC)from e),aB e,Ek _ _ aC9,aY];simp
  ·rw [aA (show¬u.1=([116,101,108]:aC)from e),aA e];by_cases f:u.2.1=[]
   ·rw [aB f,aB f];simp
   ·rw [aA f,aA f,nR _ s 0 (.inl rfl),aY,bA aB0,Ek _ _ aC9,aY];simp
 rw [q,aY];have y:(Yg u).length<=12582913:=by
  unfold Yg;split
  ·omega
  ·split
   ·exact dL _
   ·rw [bM,eL];omega
 simp only;rw [Ek _ _ aA8,aY];simp only;have r:∀o:aC,aR o<=50000000->(if u.2.2.2.1=(0:Int)then some ((),o)else(gd (bZ u.2.2.2.1)<|(gd (([58]:aC).length+(dO u.2.2.2.1).length<=9223372036854775807)<|((Ym FU ((),o) (([58]:aC)++(dO u.2.2.2.1))).bind fun(c:(Int×Unit×(Unit×(List UInt8))))=>some ((),c.2.2.2)))))=some ((),o++uK u.2.2.2.1):=by
  intro o D;unfold uK;by_cases a:u.2.2.2.1=0
  ·rw [aB a,aB a,gA]
  ·rw [aA a,aA a,bA (eT _ aA0 aA0),bA aB0,Ek _ _ aA8,aY];simp
 rw [r _ aA8,aY];have t:(uK u.2.2.2.1).length<=6:=by
  unfold uK;split
  ·exact dL _
  ·rw [bR];omega
 simp only;have a:xm FU (u,0) FU (0:Int) () _=_:=PF u l m u.2.2.2.2.1 [] FU (u.1++([58]:aC)++Yg u++u.2.2.1++uK u.2.2.2.1) rfl aA6 aC9;rw [a,aY];simp only;have p:uu FU (u,0) FU (0:Int) () _=_:=PE u k n u.2.2.2.2.2 [] FU (u.1++([58]:aC)++Yg u++u.2.2.1++uK u.2.2.2.1++oC u.2.2.2.2.1) rfl aA6 aC9;rw [p,aY,aB rfl];simp only;rw [bA aA8];unfold tT;simp
open Go.Lib renaming hasPrefix → eZ, itoa → dO, trimPrefix → eJ
theorem Uc(st s A X Y:aC)(h:s=A++(X++Y))(d:∀c∈X,jO st c=false)(b:∀c,Y.head? =some c->jO st c=true):cM st s A.length=A.length+X.length:=by subst h;unfold cM;rw [Fq,N4 _ _ _ (by rw [aT];intro c a;rw [d c a];rfl),TH _ _ (fun c a=>by rw [b c a];rfl),Bm]
theorem Ga(A X:aC):A.length+X.length=(A++X).length:=pP.symm
theorem pS(A:aC)(c:UInt8):A.length+1=(A++[c]).length:=by rw [bM];rfl
theorem ic(X Y:aC)(d:∀c∈X,(!(c==61))=true)(b:∀c,Y.head? =some c->c=61):kG (X++Y)=X.length:=by unfold kG;rw [N4 _ _ _ (aT.2 d),TH _ _ (fun c a=>by rw [b c a];rfl),Bm]
theorem e61(k:Int)(a:k=1\/k=2)(s:aC):∀c∈gY k s,(!(c==61))=true:=by
 rcases a with rfl|rfl
 ·exact mC 1 _ (eA _ aA3) aA1 (eA _ aA3) s
 ·exact mC 2 _ (eA _ aA3) aA1 (eA _ aA3) s
theorem Hy(k:Int)(a:k=0\/k=1\/k=2)(s:aC)(b:Tj s=true):gY k s=[]↔s=[]:=by have:=Ah k (gY k s) (Dq k a s b).1;rw [(Dq k a s b).2]at this;exact this.symm
theorem MQ(k:Int)(g:k=1\/k=2)(l:List PP)(p:PP)(n:V2 k p)(h:p.2.2=true):hZ k l (gY k p.1++61::gY k p.2.1)=(Ea l p.1,p):=by
 have a:k=0\/k=1\/k=2:=.inr g;obtain⟨m,j,f,d,i,z⟩:=n;obtain⟨y,x⟩:=Dq k a p.1 f;obtain⟨w,v⟩:=Dq k a p.2.1 d;have o:kG (gY k p.1++61::gY k p.2.1)=(gY k p.1).length:=ic _ _ (e61 k g p.1) (fun c r=>by simpa using r.symm);have b:¬(gY k p.1).length=0:=fun e=>m ((Hy k a p.1 f).1 (Fp e));have q:(gY k p.1++61::gY k p.2.1).drop ((gY k p.1).length+1)=gY k p.2.1:=by rw [<-JE,Fq];rfl
 have hx:¬(gY k p.2.1=[]/\k=1):=by rintro⟨u,t⟩;have s:=(Hy k a p.2.1 d).1 u;have:=i t;rw [h,s]at this;exact absurd this aA1
 unfold hZ;rw [o,Ov,y];simp only;rw [aA b,aB (by rw [bM,bR];omega),q,w];simp only;rw [aA hx,x,v,j];have:p=(p.1,p.2.1,true):=by rw [<-h]
 rw [<-this]
theorem C9(l:List PP)(p:PP)(k:V2 1 p)(f:p.2.2=false):hZ 1 l (gY 1 p.1)=(Ea l p.1,p):=by
 have a:(1:Int)=0\/(1:Int)=1\/(1:Int)=2:=.inr (.inl rfl);obtain⟨i,h,d,s,g,r⟩:=k;obtain⟨q,o⟩:=Dq 1 a p.1 d;have m:kG (gY 1 p.1)=(gY 1 p.1).length:=by have:=ic (gY 1 p.1) [] (e61 1 (.inl rfl) p.1) (fun c n=>by simp at n);rw [gA]at this;exact this
 have b:¬(gY 1 p.1).length=0:=fun e=>i ((Hy 1 a p.1 d).1 (Fp e));have j:p.2.1=[]:=by have:=g rfl;rw [f]at this;simpa using this.symm
 unfold hZ;rw [m,xC,q];simp only;rw [aA b,aA (Nat.lt_irrefl _),aA aA1,o,h];have:p=(p.1,[],false):=by rw [<-f,<-j]
 rw [<-this]
theorem D0(l:List PP)(p:PP)(a:V2 1 p):hZ 1 l (jB p)=(Ea l p.1,p):=by
 unfold jB;cases b:p.2.2 with
 |true=>rw [aL];exact MQ 1 (.inl rfl) l p a b
 |false=>rw [aG,gA];exact C9 l p a b
theorem ao(l:List PP)(p:PP)(a:V2 2 p):hZ 2 l (iI p)=(Ea l p.1,p):=MQ 2 (.inr rfl) l p a (a.2.2.2.2.2 rfl)
theorem Kg(q:UInt8->Bool)(f:∀c,Lx c 1=true->q c=true)(e:q 37=true)(d:∀c:UInt8,q (pG (c.toNat/16))=true/\q (pG (c.toNat%16))=true)(g:q 61=true)(p:PP):∀c∈jB p,q c=true:=by
 intro c b;unfold jB at b;rcases aS.1 b with h|h
 ·exact mC 1 q f e d _ c h
 ·cases a:p.2.2 with
  |true=>
   rw [a,aL]at h;rcases aP.1 h with h|h
   ·rw [h];exact g
   ·exact mC 1 q f e d _ c h
  |false=>rw [a,aG]at h;cases h
theorem Wq(q:UInt8->Bool)(e:∀c,Lx c 2=true->q c=true)(d:q 37=true)(b:∀c:UInt8,q (pG (c.toNat/16))=true/\q (pG (c.toNat%16))=true)(f:q 61=true)(p:PP):∀c∈iI p,q c=true:=by
 intro c a;unfold iI at a;rcases aS.1 a with h|h
 ·exact mC 2 q e d b _ c h
 ·rcases aP.1 h with h|h
  ·rw [h];exact f
  ·exact mC 2 q e d b _ c h
theorem AU(q:UInt8->Bool)(i:∀c,Lx c 1=true->q c=true)(g:q 37=true)(f:∀c:UInt8,q (pG (c.toNat/16))=true/\q (pG (c.toNat%16))=true)(e:q 61=true)(d:q 59=true)(l:List PP):∀c∈oC l,q c=true:=by
 intro c a;unfold oC at a;obtain⟨p,_,b⟩:=lW.1 a;rcases aP.1 b with h|h
 ·rw [h];exact d
 ·exact Kg q i g f e p c h
theorem A5(q:UInt8->Bool)(i:∀c,Lx c 2=true->q c=true)(g:q 37=true)(f:∀c:UInt8,q (pG (c.toNat/16))=true/\q (pG (c.toNat%16))=true)(e:q 61=true)(d:q 38=true)(l:List PP):∀c∈fW l,q c=true:=by
 intro c a;unfold fW at a;obtain⟨p,_,b⟩:=lW.1 a;rcases aP.1 b with h|h
 ·rw [h];exact d
 ·exact Wq q i g f e p c h
theorem CZ(q:UInt8->Bool)(f:∀c,Lx c 2=true->q c=true)(e:q 37=true)(d:∀c:UInt8,q (pG (c.toNat/16))=true/\q (pG (c.toNat%16))=true)(b:q 61=true)(i:q 38=true)(g:q 63=true)(l:List PP):∀c∈kC l,q c=true:=by
 intro c a;cases l with
 |nil=>cases a
 |cons p l=>
  unfold kC at a;rcases aP.1 a with h|h
  ·rw [h];exact g
  ·rcases aS.1 h with h|h
   ·exact Wq q f e d b p c h
   ·exact A5 q f e d b i l c h
theorem Qz(l:List PP)(Z:aC)(b:∀c,Z.head? =some c->c=63):∀c,(oC l++Z).head? =some c->c=59\/c=63:=by
 intro c a;cases l with
 |nil=>exact .inr (b c a)
 |cons p l=>unfold oC at a;rw [kS,Bo,Bo,cG]at a;exact .inl (aJ a).symm
theorem CY(l:List PP):∀c,(kC l).head? =some c->c=63:=by
 intro c a;cases l with
 |nil=>cases a
 |cons p l=>unfold kC at a;rw [cG]at a;exact(aJ a).symm
theorem Sk(l:List PP):∀c,(fW l).head? =some c->c=38:=by
 intro c a;cases l with
 |nil=>cases a
 |cons p l=>unfold fW at a;rw [kS,Bo,cG]at a;exact(aJ a).symm
theorem Jo(pre r:List PP)(p:PP)(a:Gf (pre++p::r))(d:pre.length+(r.length+1)<=16):Ea pre p.1=0:=by unfold Ea;unfold Gf at a;rw [dI]at a;rw [aA,aA aA0];intro h;rw [eI]at h;obtain⟨q,b,c⟩:=h;exact a.2.2 q b p fQ (eq_of_beq c)
theorem plLA(st s:aC)(b:∀p:PP,∀c∈jB p,jO st c=false)(d:jO st 59=true)(Z:aC)(l:∀c,Z.head? =some c->c≠59/\jO st c=true):∀(r pre:List PP) (A:aC) (f:Nat),s=A++(oC r++Z)->LS 1 (pre++r)->pre.length+r.length<=16->r.length<f->
  qG st s f A.length pre=(0,A.length+(oC r).length,pre++r)
 |[],pre,A,f,h,i,k,o=>by
  obtain⟨f,rfl⟩:∃m,f=m+1:=⟨f-1,aA0⟩;have u:oC []=[]:=rfl;rw [u,mQ]at h;have j:fJ s A.length 59=false:=by rw [Ti s A Z 59 h];exact aO (fun e=>(l 59 e).1 rfl)
  rw [qG,j,aA aA1,u,gA];rfl
 |p::r,pre,A,f,h,i,k,o=>by
  obtain⟨f,rfl⟩:∃m,f=m+1:=⟨f-1,aA0⟩;have x:oC (p::r)=59::(jB p++oC r):=by unfold oC;rw [kS];rfl
  rw [x]at h⊢;have B:s=A++(59::(jB p++(oC r++Z))):=aA7;have t:s=(A++[59])++(jB p++(oC r++Z)):=aA7;have z:s=((A++[59])++jB p)++(oC r++Z):=aA7;have j:fJ s A.length 59=true:=by rw [Ti s A _ 59 B];exact aK rfl
  have w:V2 1 p:=i.2 p aA2;have n:cM st s (A.length+1)=(A++[59]).length+(jB p).length:=by
   rw [pS A 59];refine Uc st s (A++[59]) (jB p) (oC r++Z) t (b p) (fun c g=> ?_);cases r with
   |nil=>exact(l c g).2
   |cons q r=>unfold oC at g;rw [kS,Bo,Bo,cG]at g;rw [<-aJ g];exact d
  have a:sub s ((A.length+1:Nat):Int) (cM st s (A.length+1):Int)=jB p:=by rw [n,pS A 59];exact Bz s (A++[59]) (jB p) _ t
  have v:=Jo pre r p i.1 (by simp only [bR]at k;omega);have y:hZ 1 pre (jB p)=(0,p):=by rw [D0 pre p w,v]
  rw [qG,j,aB rfl,a,y,aB rfl,n,Ga];have:=plLA st s b d Z l r (pre++[p]) ((A++[59])++jB p) f z (by rw [gJ];exact i) (by simp only [bM,bR,eO]at k⊢;omega) (by simp only [bR]at o;omega);rw [this];simp only [bM,bR,eO,gJ,Yf];congr 2;omega
theorem A6(s:aC)(p:PP)(a:UInt8)(Z:aC)(l:∀c,Z.head? =some c->c=38)(A:aC)(pre:List PP)(f:Nat)(h:s=A++(a::(iI p++Z)))(k:V2 2 p)(j:Ea pre p.1=0):
  Gd s (f+1) A.length pre=Gd s f ((A++[a])++iI p).length (pre++[p]):=by
 have i:s=(A++[a])++(iI p++Z):=aA7;have e:∀c∈iI p,jO [38] c=false:=by intro c d;have:=Wq (fun c=> !(jO [38] c)) (eA _ aA3) aA1 (eA _ aA3) aA1 p c d;simpa using this
 have g:cM [38] s (A.length+1)=(A++[a]).length+(iI p).length:=by rw [pS A a];exact Uc [38] s (A++[a]) (iI p) Z i e (fun c d=>by rw [l c d];decide)
 have b:sub s ((A.length+1:Nat):Int) (cM [38] s (A.length+1):Int)=iI p:=by rw [g,pS A a];exact Bz s (A++[a]) (iI p) _ i
 have m:hZ 2 pre (iI p)=(0,p):=by rw [ao pre p k,j]
 rw [Gd,aB (by rw [h,bM,bR];omega),b,m,aB rfl,g,Ga]
theorem ib(s:aC):∀(r pre:List PP) (A:aC) (f:Nat),s=A++fW r->LS 2 (pre++r)->pre.length+r.length<=16->r.length<f->
  Gd s f A.length pre=(0,pre++r)
 |[],pre,A,f,h,a,b,c=>by obtain⟨f,rfl⟩:∃m,f=m+1:=⟨f-1,aA0⟩;have e:fW []=[]:=rfl;rw [e,gA]at h;rw [Gd,aA aE6,gA]
 |p::r,pre,A,f,h,a,b,c=>by
  obtain⟨f,rfl⟩:∃m,f=m+1:=⟨f-1,aA0⟩;have d:fW (p::r)=38::(iI p++fW r):=aD2
  rw [d]at h;rw [A6 s p 38 (fW r) (Sk r) A pre f h (a.2 p aA2) (Jo pre r p a.1 (by simp only [bR]at b;omega)),
   ib s r (pre++[p]) ((A++[38])++iI p) f aA7 (by rw [gJ];exact a) (by simp only [bM,bR,eO]at b⊢;omega) (by simp only [bR]at c;omega),gJ];rfl
theorem hdLA(s:aC)(r:List PP)(A:aC)(f:Nat)(h:s=A++kC r)(a:LS 2 r)(b:r.length<=16)(c:r.length<f):Gd s f A.length []=(0,r):=by
 cases r with
 |nil=>obtain⟨f,rfl⟩:∃m,f=m+1:=⟨f-1,aA0⟩;have d:kC []=[]:=rfl;rw [d,gA]at h;rw [Gd,aA aE6]
 |cons p r=>
  obtain⟨f,rfl⟩:∃m,f=m+1:=⟨f-1,aA0⟩
  unfold kC at h;rw [A6 s p 63 (fW r) (Sk r) A [] f h (a.2 p aA2) (Jo [] r p a.1 (by simp only [eO,bR]at b⊢;omega)),
   ib s r ([]++[p]) ((A++[63])++iI p) f aA7 a (by simp only [bM,bR,eO]at b⊢;omega) (by simp only [bR]at c;omega)];rfl
theorem AV:∀l:List PP,l.length<=(oC l).length
 |[]=>eV _
 |p::l=>by
  have:=AV l;have a:oC (p::l)=59::(jB p++oC l):=by unfold oC;rw [kS];rfl
  rw [a,bR,bR,bM];omega
theorem MJ:∀l:List PP,l.length<=(fW l).length
 |[]=>eV _
 |p::l=>by have:=MJ l;have a:fW (p::l)=38::(iI p++fW l):=aD2;rw [a,bR,bR,bM];omega
theorem aa(l:List PP):l.length<=(kC l).length:=by
 have:=MJ l;cases l with
 |nil=>exact eV _
 |cons p l=>have a:fW (p::l)=38::(iI p++fW l):=aD2;rw [a]at this;unfold kC;exact this
theorem fy(st s:aC)(d:∀p:PP,∀c∈jB p,jO st c=false)(i:jO st 59=true)(A b j h:aC)(a:Int)(P H:List PP)(e:s=A++(oC P++kC H))(g:H=[]\/jO st 63=true)(r:LS 1 P)(t:LS 2 H)(m:P.length<=16)(o:H.length<=16)(n:dW P=P)(q:dW H=H):
  mV st s b j h a A.length=(0,(b,j,h,a,P,H)):=by
 have w:=AV P;have v:=aa H;have k:s.length=A.length+((oC P).length+(kC H).length):=by rw [e,bM,bM]
 have u:=plLA st s d i (kC H) (fun c f=>by
  have:=CY H c f;subst this;refine⟨aA1, ?_⟩;rcases g with h|h
  ·rw [h]at f;cases f
  ·exact h) P [] A (s.length+1) e r (by simpa using m) aA0
 have l:=hdLA s H (A++oC P) (s.length+1) (by rw [e,gJ]) t o aA0;rw [bM]at l;unfold mV;rw [u];dsimp only;rw [l];dsimp only;rw [aB rfl,aB rfl,mQ,n,q]
theorem qp(s:aC):∀c∈(dZ s).1,(!(c==63))=true:=zS _ (eA _ aA3) aA1 aA1 aA1 aA1 aA1 (eA _ aA3) (eA _ aA3) s
theorem qo(s:aC):∀c∈(dZ s).1,(!(c==64))=true:=zS _ (eA _ aA3) aA1 aA1 aA1 aA1 aA1 (eA _ aA3) (eA _ aA3) s
theorem hEndA(s A H Z:aC)(h:s=A++(H++Z))(f:dZ H=(H,true))(r:∀c,Z.head? =some c->c=58\/c=59\/c=63):jR s A.length=A.length+H.length:=by
 have k:H≠[]:=by have:=CU H (by rw [f]);rw [f]at this;exact this
 have a:=Ti s A (H++Z) 91 h;rw [db _ _ k]at a;unfold jR;by_cases b:H.head? =some 91
 ·rw [a,aK b,aB rfl];have kX:at_ H 0=91:=by
   cases H with
   |nil=>cases b
   |cons c H=>rw [cG]at b;exact aJ b
  have q:Te H=true:=by unfold Te;rw [f,kX];simp
  obtain⟨g,e,p⟩:=Al H q;have o:cM [93] s A.length=A.length+(91::g).length:=by
   refine Uc [93] s A (91::g) (93::Z) (by rw [h,e];simp) (fun c d=> ?_) (fun c d=>by rw [cG]at d;rw [<-aJ d];decide);rcases aP.1 d with h|h
   ·rw [h];decide
   ·have:=p c h;unfold jO;simp only [Ol,tG,SP];have j:¬c=93:=by simpa using this
    exact eP.2 (fun e=>j e.symm)
  have t:H.length=(91::g).length+1:=by rw [e];simp
  have v:s.length=A.length+(H.length+Z.length):=by rw [h,bM,bM]
  rw [o];omega
 ·rw [a,aO b,aA aA1];refine Uc [58,59,63] s A H Z h (fun c d=> ?_) (fun c d=>by rcases r c d with h|h|h<;>subst h<;>decide);have i:=Sh H (by rw [f]);have n:=Ma H;have j:=qp H;rw [f]at i n j;have u:c≠58:=by
   rcases i with⟨g,e⟩|i
   ·exfalso;apply b;have e':H=[91]++g++[93]:=e;rw [e'];rfl
   ·exact(i c d).1
  have m:=n c d;have l:=j c d;revert m l u;revert c;exact fun c _=>eA (fun c=>c≠58->(!lA c)=true->(!(c==63))=true->jO [58,59,63] c=false) aA3 c
theorem og(n:Int)(a:0<=n)(h:n<=65535)(b:¬n=0):kO (dO n)=(n,0):=by obtain⟨e,_,_,_⟩:=alt n a h;unfold kO;rw [e,aA (by rintro⟨_,h|h⟩<;>dsimp only at h<;>omega)]
theorem hpA(s A H R:aC)(n:Int)(h:s=A++(H++(uK n++R)))(r:dZ H=(H,true))(v:0<=n)(u:n<=65535)(p:∀c,R.head? =some c->c=59\/c=63):Oo s A.length=(0,H,n,A.length+H.length+(uK n).length):=by
 have x:=hEndA s A H (uK n++R) h r (by
  intro c f;unfold uK at f;split at f
  ·exact .inr (p c f)
  ·exact .inl (aJ f).symm)
 have l:sub s (A.length:Int) ((A.length+H.length:Nat):Int)=H:=Bz s A H _ h;have j:s=(A++H)++(uK n++R):=by rw [h,gJ]
 have m:s.length=A.length+(H.length+((uK n).length+R.length)):=by rw [h];simp only [bM]
 unfold Oo;rw [x,l,r];simp only;rw [aA aA1];by_cases o:n=0
 ·have k:uK n=[]:=aB o;rw [k,mQ]at j;have g:fJ s (A.length+H.length) 58=false:=by rw [Ga,Ti s (A++H) R 58 j];exact aO (fun e=>by rcases p 58 e with h|h<;>exact absurd h aA1)
  rw [g,aA aA1,k,o,aA]
  ·rfl
  ·rintro⟨a,b,c⟩;rw [Ga,Ti s (A++H) R 59 j]at b;rw [Ga,Ti s (A++H) R 63 j]at c;rw [k,eO]at m;cases R with
   |nil=>rw [eO]at m;omega
   |cons d R=>
    rcases p d rfl with h|h
    ·subst h;exact absurd b aA2
    ·subst h;exact absurd c aA2
 ·have k:uK n=58::dO n:=aA o;obtain⟨_,_,_,w⟩:=alt n v u;rw [k]at j;have g:fJ s (A.length+H.length) 58=true:=by rw [Ga,Ti s (A++H) _ 58 j];exact aK rfl
  have t:s=((A++H)++[58])++(dO n++R):=aF7;have q:cM [59,63] s (A.length+H.length+1)=((A++H)++[58]).length+(dO n).length:=by rw [Ga,pS (A++H) 58];refine Uc [59,63] s _ (dO n) R t (fun c f=> ?_) (fun c f=>by rcases p c f with h|h<;>subst h<;>decide);have:=aT.1 w c f;revert this;revert c;exact fun c _=>eA (fun c=>gW c=true->jO [59,63] c=false) aA3 c
  have i:sub s ((A.length+H.length+1:Nat):Int) (cM [59,63] s (A.length+H.length+1):Int)=dO n:=by rw [q,Ga,pS (A++H) 58];exact Bz s _ (dO n) R t
  rw [g,aB rfl,i,og n v u o,aB rfl,q,k];simp only [bM,bR,eO];congr 3;omega
theorem plA(s A a H R:aC)(n:Int)(h:s=A++((if a=[]then []else gY 0 a++[64])++(H++(uK n++R))))(p:dZ H=(H,true))(r:0<=n)(q:n<=65535)(u:∀c,R.head? =some c->c=59\/c=63)(o:∀c∈R,(!(c==64))=true)(b:Tj a=true):
  wE s A.length=(0,a,H,n,A.length+(if a=[]then []else gY 0 a++[64]:aC).length+H.length+(uK n).length):=by
 unfold wE;by_cases k:a=[]
 ·rw [aB k]at h⊢;rw [mQ]at h;have f:s=A++((H++(uK n++R))++[]):=by rw [h,gA]
  have d:cM [64] s A.length=A.length+(H++(uK n++R)).length:=by
   refine Uc [64] s A _ [] f (fun c b=> ?_) (fun c b=>by cases b);have t:=qo H;rw [p]at t;have v:(!(c==64))=true:=by
    rcases aS.1 b with h|h
    ·exact t c h
    ·rcases aS.1 h with h|h
     ·unfold uK at h;split at h
      ·cases h
      ·rcases aP.1 h with h|h
       ·rw [h];decide
       ·have:=aT.1 (alt n r q).2.2.2 c h;revert this;exact eA (fun c=>gW c=true->(!(c==64))=true) aA3 c
     ·exact o c h
   have f:¬c=64:=by simpa using v
   unfold jO;simp only [Ol,tG,SP];exact eP.2 (fun e=>f e.symm)
  have j:s.length=A.length+(H++(uK n++R)).length:=by rw [h,bM]
  rw [aA (by rw [d,j];exact Nat.lt_irrefl _),hpA s A H R n h p r q u,k];rfl
 ·rw [aA k]at h⊢;have f:s=A++(gY 0 a++(64::(H++(uK n++R)))):=by rw [h];simp
  have w:s=(A++gY 0 a++[64])++(H++(uK n++R)):=aA7;have d:cM [64] s A.length=A.length+(gY 0 a).length:=by refine Uc [64] s A _ _ f (fun c b=> ?_) (fun c b=>by rw [<-aJ b];decide);have:=mC 0 (fun c=> !(jO [64] c)) (eA _ aA3) aA1 (eA _ aA3) a c b;simpa using this
  have g:sub s (A.length:Int) ((A.length+(gY 0 a).length:Nat):Int)=gY 0 a:=Bz s A _ _ f;obtain⟨y,x⟩:=Dq 0 (.inl rfl) a b;have l:Fs (gY 0 a)=(0,a):=by unfold Fs;rw [y];simp only;rw [aA (fun e=>k ((Hy 0 (.inl rfl) a b).1 e)),x]
  have m:A.length+(gY 0 a).length<s.length:=by rw [f,bM,bM,bR];omega
  have i:A.length+(gY 0 a).length+1=(A++gY 0 a++[64]).length:=by simp only [bM,bR,eO]
  rw [d,aB m,g,l,aB rfl,i,hpA s _ H R n w p r q u];simp only;congr 4;simp only [bM,bR,eO];omega
theorem Ll(a:Bool):∀d:aC,d.all (sL a)=true->Pv a d=some d
 |[],_=>rfl
 |c::d,h=>by rw [Ej,fS]at h;rw [Pv,aB h.1,Ll a d h.2];rfl
def NU(c:UInt8):Bool:= !(c==62)&& !eW c
theorem EB(u:aC)(h:sK u=true):∀c∈u,(!(c==59))=true/\NU c=true:=by
 unfold sK at h;simp only [fS]at h;have d:=h.2;intro c g;have j:∀f c,sL f c=true->(!(c==59))=true/\NU c=true:=by intro f;cases f<;>exact eA _ aA3
 cases u with
 |nil=>cases g
 |cons a u=>
  by_cases b:a=43
  ·subst b;have i:eJ (43::u) [43]=u:=by unfold eJ eZ;simp
   rw [i]at d;rcases aP.1 g with h|h
   ·rw [h];decide
   ·exact j _ c (aT.1 d c h)
  ·have k:¬(43:UInt8)=a:=fun e=>b e.symm;have i:eJ (a::u) [43]=a::u:=by unfold eJ eZ;simp [k]
   rw [i]at d;exact j _ c (aT.1 d c g)
theorem be(u:aC)(h:sK u=true):u≠[]:=fun e=>by rw [e]at h;exact absurd h aA1
theorem telA(s A f Z:aC)(h:s=A++(f++Z))(p:∀c,Z.head? =some c->c=59)(k:sK f=true):qW s A.length=(0,f)/\cM [59] s A.length=A.length+f.length:=by
 have j:=be f k;have i:cM [59] s A.length=A.length+f.length:=by
  refine Uc [59] s A f Z h (fun c m=> ?_) (fun c m=>by rw [p c m];decide);have l:¬c=59:=by simpa using (EB f k c m).1
  unfold jO;simp only [Ol,tG,SP];exact eP.2 (fun e=>l e.symm)
 refine⟨?_,i⟩;unfold qW;rw [i];have b:=Ti s A (f++Z) 43 h;rw [db _ _ j]at b;unfold sK at k;simp only [fS,cP,bU,aV]at k;obtain⟨⟨d1,d2⟩,d3⟩:=k;cases f with
 |nil=>exact absurd rfl j
 |cons a u=>
  by_cases g:a=43
  ·subst g;have o:eJ (43::u) [43]=u:=by unfold eJ eZ;simp
   have n:eZ (43::u) [43]=true:=by unfold eZ;simp
   rw [o]at d1 d2 d3;rw [n]at d3;have q:s=(A++[43])++(u++Z):=aA7;have d:sub s ((A.length+1:Nat):Int) ((A.length+(43::u).length:Nat):Int)=u:=by have:=Bz s (A++[43]) u Z q;rw [<-pS,show A.length+1+u.length=A.length+(43::u).length by rw [bR];omega]at this;exact this
   rw [b,cG,aK rfl,aB rfl,d,Ll true u d3];dsimp only;rw [aA d1,aA aA0,aB rfl]
  ·have l:¬(43:UInt8)=a:=fun e=>g e.symm;have o:eJ (a::u) [43]=a::u:=by unfold eJ eZ;simp [l]
   have n:eZ (a::u) [43]=false:=by show((43:UInt8)==a&&([]:aC).isPrefixOf u)=false;rw [eP.2 l];rfl
   rw [o]at d1 d2 d3;rw [n]at d3;have d:sub s (A.length:Int) ((A.length+(a::u).length:Nat):Int)=a::u:=Bz s A (a::u) Z h;rw [b,cG,aO (fun e=>g (aJ e)),aA aA1,d,Ll false _ d3];dsimp only;rw [aA d1,aA aA0,aA aA1]
theorem ga(st:aC)(a:st=[59]\/st=[59,63])(p:PP):∀c∈jB p,jO st c=false:=by
 intro c b
 have:(!(jO st c))=true:=by
  rcases a with rfl|rfl
  ·exact Kg (fun c=> !(jO [59] c)) (eA _ aA3) aA1 (eA _ aA3) aA1 p c b
  ·exact Kg (fun c=> !(jO [59,63] c)) (eA _ aA3) aA1 (eA _ aA3) aA1 p c b
 simpa using this
theorem WQ(u:UU)(a:Good u)(R:aC):cM [58] (u.1++(58::R)) 0=u.1.length/\dH ((u.1++(58::R)).take u.1.length)=u.1:=by
 have h:u.1=K6\/u.1=Xy\/u.1=kq:=by
  rcases a.S5 with⟨h|h,_⟩|⟨h,_⟩
  ·exact .inl h
  ·exact .inr (.inl h)
  ·exact .inr (.inr h)
 rw [Ov];rcases h with h|h|h<;>rw [h]<;>exact⟨rfl,rfl⟩
theorem GR(u:UU)(d:Good u)(A:(tT u).length<=1024):Tl (tT u)=(0,u):=by
 obtain⟨a,b,H,n,P,Q⟩:=u;have y:=d.S5;obtain⟨m,w⟩:=WQ _ d (Yg (a,b,H,n,P,Q)++(H++(uK n++(oC P++kC Q))));have o:tT (a,b,H,n,P,Q)=a++(58::(Yg (a,b,H,n,P,Q)++(H++(uK n++(oC P++kC Q))))):=rfl;have e:tT (a,b,H,n,P,Q)=(a++[58])++(Yg (a,b,H,n,P,Q)++(H++(uK n++(oC P++kC Q)))):=by rw [o];simp
 rw [<-o]at m w;dsimp only at m w;have s:cM [58] (tT (a,b,H,n,P,Q)) 0<(tT (a,b,H,n,P,Q)).length:=by rw [m,o,bM,bR];omega
 unfold Tl;rw [aA aA0,aB s,m,w,pS a 58];rcases y with⟨g,l,k,j,i⟩|⟨g,l,k,j,i⟩
 ·dsimp only at g l k j i;have q:¬a=kq:=by rcases g with h|h<;>rw [h]<;>decide
  have t:Yg (a,b,H,n,P,Q)=if b=[]then []else gY 0 b++[64]:=aA q
  rw [t]at e;have z:=plA _ (a++[58]) b H (oC P++kC Q) n e l k j (Qz P _ (CY Q)) (fun c f=>by
   rcases aS.1 f with h|h
   ·exact AU (fun c=> !(c==64)) (eA _ aA3) aA1 (eA _ aA3) aA1 aA1 P c h
   ·exact CZ (fun c=> !(c==64)) (eA _ aA3) aA1 (eA _ aA3) aA1 aA1 aA1 Q c h) i
  rw [aB g,z,aB rfl];simp only;rw [Ga,Ga,Ga];exact fy [59,63] _ (ga _ (.inr rfl)) aA1 _ a b H n P Q (by rw [e];simp only [gJ]) (.inr aA1) d.ps d.hs d.pl d.hl d.pi d.hi
 ·dsimp only at g l k j i;subst l;subst k;subst j;have r:¬(a=K6\/a=Xy):=by rw [g];decide
  have t:Yg (a,b,[],0,P,[])=b:=aB g;have v:uK 0=[]:=rfl;rw [t,v,mQ,mQ]at e;obtain⟨t1,t2⟩:=telA _ (a++[58]) b (oC P++kC []) e (fun c f=>by
   have x:kC []=[]:=rfl;rw [x]at f;rcases Qz P [] (fun c f=>by cases f) c f with h|h
   ·exact h
   ·cases P with
    |nil=>cases f
    |cons p P=>unfold oC at f;rw [kS,Bo,Bo,cG]at f;exact(aJ f).symm) i
  rw [aA r,aB g,t1,aB rfl];dsimp only;rw [t2,Ga];exact fy [59] _ (ga _ (.inl rfl)) aA1 ((a++[58])++b) a b [] 0 P [] (by rw [e];simp only [gJ]) (.inl rfl) d.ps d.hs d.pl d.hl d.pi d.hi
open Go.Lib renaming cut → cW, join → dA
def Ox(l:List PP):Nat:=(l.map fun z=>z.1.length+z.2.1.length).sum
theorem mS(p:PP)(l:List PP):Ox (p::l)=p.1.length+p.2.1.length+Ox l:=by unfold Ox;rw [vS,List.sum_cons]
theorem Jb{m:List PP}(h:l.Perm m):Ox l=Ox m:=by unfold Ox;exact(h.map _).sum_nat
theorem R3(a b:List PP):Ox (a++b)=Ox a+Ox b:=by unfold Ox;rw [Yo,List.sum_append]
theorem Jc(q:PP->Bool):∀l:List PP,Ox (l.filter q)<=Ox l
 |[]=>eV _
 |p::l=>by
  have:=Jc q l;rw [List.filter_cons];split
  ·rw [mS,mS];omega
  ·rw [mS];omega
theorem VL(p:PP):(tL p).length<=2*p.2.1.length+3:=by
 have:=rH p.2.1;unfold tL;cases p.2.2 with
 |false=>simp
 |true=>
  rw [aL,bR];cases(eY p.2.1||Te p.2.1)with
  |true=>rw [aL];omega
  |false=>rw [aG];omega
theorem AP:∀(r pre:List PP) (t:aC),mZ pre r=some t->t.length<=2*Ox r+4*r.length
 |[],_,t,h=>by rw [mZ,aU]at h;subst h;simp
 |p::r,pre,t,h=>by
  rw [mZ]at h;cases a:Rh pre p&&On p with
  |false=>rw [a]at h;cases h
  |true=>rw [a,aL,M2]at h;obtain⟨u,b,rfl⟩:=h;have:=AP r _ u b;have c:=VL p;rw [mS];simp only [bR,bM];omega
theorem Jx(l:List PP):(iP l).1.length<=2*Ox l+64:=by
 unfold iP;split
 ·simp
 ·cases a:mZ [] l with
  |none=>simp
  |some t=>have:=AP l [] t a;simp only;omega
theorem GQ(x:aC×List PP):(Oq x).1.length<=x.1.length+2*Ox x.2+64:=by
 have:=Jx (dW x.2);rw [Jb (SB x.2)]at this;unfold Oq;split
 ·simp only [bM];omega
 ·simp
theorem QS(s:aC):(Aq s).1.length<=250:=by
 unfold Aq;by_cases a:39<s.length
 ·rw [aB a];simp
 ·rw [aA a];have e:∀x:aC,x.length<=39->(dA (Au x).1 [58]).length<=40*5:=fun x hx=>by have g:=ayz x;have f:=N1 [58] 4 (Au x).1 g.2;simp only [eL]at f;omega
  split
  ·have:=e s aA0;simp only;omega
  ·split
   ·simp
   ·rename_i d;simp only [jU,cP,aV,not_or]at d;have c:=N1 [58] 4 (pZ (cW s [58,58]).1).1 (zW (zU _));have b:=N1 [58] 4 (pZ (cW s [58,58]).2.1).1 (zW (zU _));simp only [eL,bM,bR,eO]at c b⊢;omega
theorem uB(s:aC):(dZ s).1.length<=s.length+252:=by
 have:=QS (sub s 1 ((s.length:Int)-1));unfold dZ;split
 ·split
  ·simp only [bM,eL];omega
  ·simp
 ·split
  ·simp
  ·split
   ·unfold dH;simp
   ·simp
theorem mj(a:List PP)(b:aC):Ox (iT a++lG b)<=Ox a+b.length+6:=by
 have d:=Jc (fun p=> !(p.1==TN)) a;have c:Ox (lG b)<=b.length+6:=by
  unfold lG;split
  ·exact dL _
  ·rw [mS];have:TN.length=6:=rfl;have e:Ox []=0:=rfl;simp only;omega
 rw [R3];unfold iT;omega
theorem PH(x:VV):(Fj x).1.length<=x.1.length+x.2.1.length+2*(Ox x.2.2.2.2+x.2.2.2.1.length)+400:=by
 by_cases a:(dZ x.2.1).2=true/\eY x.1=true/\0<=x.2.2.1/\x.2.2.1<=65535/\(iP (dW (iT x.2.2.2.2++lG x.2.2.2.1))).2=0
 ·have b:=Jx (dW (iT x.2.2.2.2++lG x.2.2.2.1));rw [Jb (SB _)]at b;have h:=mj x.2.2.2.2 x.2.2.2.1;have g:=uB x.2.1;have f:=vY x.1;have e:=(alt x.2.2.1 a.2.2.1 a.2.2.2.1).2.2.1;have d:(Qb (dZ x.2.1).1 x.2.2.1).length<=(dZ x.2.1).1.length+6:=by
   unfold Qb;split
   ·omega
   ·simp only [bM,eL];omega
  have c:Aw.length=8:=rfl;rw [Ck x a];simp only [bM,eL];omega
 ·rw [mX x a];simp
theorem Zb(v:aC):(lO v).1.2.2.2.2.length<=16:=by
 have e:∀d h b a,(Bu d h b a).1.2.2.2.2.length<=16:=by
  intro d h b a;unfold Bu;split
  ·exact Kd a
  ·unfold vU;simp
 have c:(vU,(5:UInt8)).1.2.2.2.2.length<=16:=by unfold vU;simp
 unfold lO;split
 ·exact c
 ·split
  ·exact c
  ·split
   ·exact c
   ·split
    ·exact c
    ·unfold Ua;split
     ·exact c
     ·split
      ·split
       ·exact e _ _ _ _
       ·unfold vU;simp
      ·exact e _ _ _ _
open Go.Lib renaming join → dA
abbrev AA:=aC×UU×List PP
def Ph:AA:=([],rQ,[])
def uS(s:aC):Nat->Nat->List aC->UInt8×Nat×List aC
 |0,_,_=>(5,0,[])
 |f+1,i,a=>if fJ s i 60=true then(0,i,a)else if cD cB s (i:Int)=i then(5,0,[])else uS s f (cD cC s ((cD cB s (i:Int):Nat):Int)) (a++[sub s (i:Int) ((cD cB s (i:Int):Nat):Int)])
def Ao(s:aC)(i:Nat):UInt8×aC×Nat:=
 if fJ s i 34=true then
  (if(Nj s (i:Int)).2.2=0 then(if fJ s (cD cC s (Nj s (i:Int)).2.1) 60=true then(0,(Nj s (i:Int)).1,cD cC s (Nj s (i:Int)).2.1)else(5,[],0))else((Nj s (i:Int)).2.2,[],0))
 else if jO s 60=true then((uS s (s.length+1) i []).1,dA (uS s (s.length+1) i []).2.2 [32],(uS s (s.length+1) i []).2.1)
 else(0,[],i)
def kA(s:aC)(i:Nat):UInt8×UU×Nat:=
 if fJ s i 60=true then(if cM [62] s (i+1)=s.length then(5,rQ,0)else((Tl (sub s ((i+1:Nat):Int) (cM [62] s (i+1):Int))).1,(Tl (sub s ((i+1:Nat):Int) (cM [62] s (i+1):Int))).2,cM [62] s (i+1)+1))
 else if cM [63,44] s i<cM [59,32,9] s i then(5,rQ,0)else((Tl (sub s (i:Int) (cM [59,32,9] s i:Int))).1,(Tl (sub s (i:Int) (cM [59,32,9] s i:Int))).2,cM [59,32,9] s i)
def iA (s : aC) : UInt8 × AA :=
  if 1024 < s.length then (4, Ph) else
  if (Ao s (cD cC s 0)).1 = 0 then
    (if (kA s (Ao s (cD cC s 0)).2.2).1 = 0 then
      (if (kV (s.drop (kA s (Ao s (cD cC s 0)).2.2).2.2)).2.2 = 0 then (0, ((Ao s (cD cC s 0)).2.1, (kA s (Ao s (cD cC s 0)).2.2).2.1, (kV (s.drop (kA s (Ao s (cD cC s 0)).2.2).2.2)).1))
       else ((kV (s.drop (kA s (Ao s (cD cC s 0)).2.2).2.2)).2.2, Ph))
     else ((kA s (Ao s (cD cC s 0)).2.2).1, Ph))
  else ((Ao s (cD cC s 0)).1, Ph)
def Pr(d:aC):aC:=if d=[]then []else jA d++[32]
def vC(a:AA):aC×UInt8:=
 if a.1.any eW=false/\(iP (dW a.2.2)).2=0 then(Pr a.1++(60::(tT a.2.1++(62::(iP (dW a.2.2)).1))),0)else([],2)
theorem KX(u:UU)(f:Good u):∀c∈tT u,NU c=true:=by
 intro c a;have e:=AU NU (eA _ aA3) aA1 (eA _ aA3) aA1 aA1 u.2.2.2.2.1;have j:=CZ NU (eA _ aA3) aA1 (eA _ aA3) aA1 aA1 aA1 u.2.2.2.2.2;unfold tT at a;have d:∀c∈u.1,NU c=true:=by rcases f.S5 with⟨h|h,_⟩|⟨h,_⟩<;>rw [h]<;>decide
 have b:∀c∈uK u.2.2.2.1,NU c=true:=by
  intro c a;have m:0<=u.2.2.2.1/\u.2.2.2.1<=65535:=by
   rcases f.S5 with⟨_,_,n,p,_⟩|⟨_,_,n,_⟩
   ·exact⟨n,p⟩
   ·omega
  unfold uK at a;split at a
  ·cases a
  ·rcases aP.1 a with h|h
   ·rw [h];decide
   ·have:=aT.1 (alt _ m.1 m.2).2.2.2 c h;revert this;exact eA (fun c=>gW c=true->NU c=true) aA3 c
 have g:∀c∈Yg u,NU c=true:=by
  intro c a;unfold Yg at a;split at a
  ·rename_i l;rcases f.S5 with⟨h|h,_⟩|⟨_,_,_,_,o⟩
   ·rw [l]at h;exact absurd h aA1
   ·rw [l]at h;exact absurd h aA1
   ·exact(EB _ o c a).2
  ·split at a
   ·cases a
   ·rcases aS.1 a with h|h
    ·exact mC 0 NU (eA _ aA3) aA1 (eA _ aA3) _ c h
    ·rw [aE.1 h];decide
 have i:∀c∈u.2.2.1,NU c=true:=by
  rcases f.S5 with⟨_,k,_⟩|⟨_,k,_⟩
  ·have:=zS NU (eA _ aA3) aA1 aA1 aA1 aA1 aA1 (eA _ aA3) (eA _ aA3) u.2.2.1;rw [k]at this;exact this
  ·rw [k];intro c a;cases a
 rcases aS.1 a with h|h
 ·exact d c h
 ·rcases aP.1 h with h|h
  ·rw [h];decide
  ·rcases aS.1 h with h|h
   ·exact g c h
   ·rcases aS.1 h with h|h
    ·exact i c h
    ·rcases aS.1 h with h|h
     ·exact b c h
     ·rcases aS.1 h with h|h
      ·exact e c h
      ·exact j c h
theorem tgtA(s A t:aC)(u:UU)(k:Good u)(h:s=A++(60::(tT u++(62::t))))(l:s.length<=1024):kA s A.length=(0,u,(A++(60::(tT u++[62]))).length):=by
 have d:s=(A++[60])++(tT u++(62::t)):=aA7;have i:cM [62] s (A.length+1)=(A++[60]).length+(tT u).length:=by rw [pS A 60];refine Uc [62] s _ _ _ d (fun c g=> ?_) (fun c g=>by rw [<-aJ g];decide);have d:¬c=62:=fun e=>absurd (KX u k c g) (by rw [e];decide);unfold jO;simp only [Ol,tG,SP];exact eP.2 (fun e=>d e.symm)
 have a:sub s ((A.length+1:Nat):Int) (cM [62] s (A.length+1):Int)=tT u:=by rw [i,pS A 60];exact Bz s _ _ _ d
 have j:s.length=(A++[60]).length+((tT u).length+(t.length+1)):=by rw [d];simp only [bM,bR]
 have f:(tT u).length<=1024:=aA0;have b:fJ s A.length 60=true:=by rw [Ti s A _ 60 h];exact aK rfl
 unfold kA;rw [b,aB rfl,a,GR u k f,i,aA aA0];simp only [bM,bR,eO];congr 2;omega
theorem SG(d:aC)(u:UU)(l:List PP)(B:Good u)(n:(vC (d,u,l)).2=0)(y:(vC (d,u,l)).1.length<=1024):
  iA (vC (d,u,l)).1=(0,(d,u,dW l))/\cH (vC (d,u,l)).1=(vC (d,u,l)).1/\mZ [] (dW l)=some (iP (dW l)).1:=by
 have r:d.any eW=false/\(iP (dW l)).2=0:=by
  by_cases h:d.any eW=false/\(iP (dW l)).2=0
  ·exact h
  ·unfold vC at n;dsimp only at n;rw [aA h]at n;exact absurd n aA1
 have b:(vC (d,u,l)).1=Pr d++(60::(tT u++(62::(iP (dW l)).1))):=by unfold vC;dsimp only;rw [aB r]
 obtain⟨z,D,x,F⟩:=nA (dW l) (iP (dW l)).1 (by rw [<-r.2]);generalize E:(vC (d,u,l)).1=s at y b⊢;generalize(iP (dW l)).1=t at z D x b⊢
 have k:∀c,s.head? =some c->c=34\/c=60:=by
  intro c a;rw [b]at a;unfold Pr at a;split at a
  ·right;exact(aJ a).symm
  ·left;exact(aJ a).symm
 have p:cH s=s:=by
  refine I8 s (fun c a=> ?_) ?_
  ·rcases k c a with h|h<;>subst h<;>decide
  ·have w:s=(Pr d++(60::(tT u++[62])))++t:=by rw [b];simp
   rw [w];refine mY _ [] t _ x ?_;have:Pr d++60::(tT u++[62])=(Pr d++60::tT u)++[62]:=aA2;rw [this];exact azo _ 62 aA1
 refine⟨?_,p,x⟩;have v:cD cC s 0=0:=by rw [ayl];exact TH _ _ (fun c a=>by rcases k c a with h|h<;>subst h<;>decide)
 have i:Ao s 0=(0,d,(Pr d).length):=by
  unfold Ao;by_cases q:d=[]
  ·have m:Pr d=[]:=aB q;rw [m,mQ]at b;have f:fJ s 0 34=false:=by have:=Ti s [] s 34 rfl;rw [eO]at this;rw [this,b,cG];rfl
   have e:fJ s 0 60=true:=by have:=Ti s [] s 60 rfl;rw [eO]at this;rw [this,b,cG];rfl
   have A:jO s 60=true:=by rw [b];unfold jO;rw [Ol];rfl
   rw [f,aA aA1,aB A,uS,aB e,m,q];rfl
  ·have m:Pr d=jA d++[32]:=aA q;rw [m]at b;have f:fJ s 0 34=true:=by have:=Ti s [] s 34 rfl;rw [eO]at this;rw [this,b];exact aK rfl
   have o:=ze s [] d (32::60::(tT u++62::t)) (by rw [b];simp) r.1;rw [eO,Gz]at o;have C:cD cC s ((jA d).length:Int)=(jA d).length+1:=by rw [vA cC s (jA d) (32::60::(tT u++62::t)) (by rw [b];simp)];rfl
   have e:fJ s ((jA d).length+1) 60=true:=by have:=Ti s (jA d++[32]) (60::(tT u++62::t)) 60 (by rw [b]);rw [<-pS]at this;rw [this];exact aK rfl
   rw [f,aB rfl];rw [show((0:Nat):Int)=0 from rfl]at o⊢;rw [o];simp only;rw [aB trivial,C,e,aB rfl,m,<-pS]
 have j:=tgtA s (Pr d) t u B b y;have g:s.drop (Pr d++(60::(tT u++[62]))).length=t:=by
  have w:s=(Pr d++(60::(tT u++[62])))++t:=by rw [b];simp
  rw [w,Fq]
 unfold iA;rw [aA aA0,v,i];simp only;rw [aB trivial,j];simp only;rw [aB trivial,g,z,aB rfl]
theorem BC(s:aC):∀(f i:Nat) (a:List aC),i<=s.length->(uS s f i a).2.1<=s.length
 |0,_,_,_=>dL _
 |f+1,i,a,h=>by
  rw [uS];split
  ·exact h
  ·split
   ·exact dL _
   ·exact BC s f _ _ (qA _ _ _)
theorem DZ(s:aC)(i:Nat)(a:i<=s.length):(Ao s i).2.2<=s.length:=by
 unfold Ao;split
 ·split
  ·split
   ·exact qA _ _ _
   ·exact dL _
  ·exact dL _
 ·split
  ·exact BC s _ i [] a
  ·exact a
theorem OL(s:aC)(i:Nat)(h:(kA s i).1=0):Good (kA s i).2.1:=by
 unfold kA at h⊢;split
 ·rename_i b;rw [aB b]at h;split
  ·rename_i a;rw [aB a]at h;exact absurd h aA1
  ·rename_i a;rw [aA a]at h;exact Kc _ h
 ·rename_i b;rw [aA b]at h;split
  ·rename_i a;rw [aB a]at h;exact absurd h aA1
  ·rename_i a;rw [aA a]at h;exact Kc _ h
theorem Nw(s:aC)(h:(iA s).1=0):Good (iA s).2.2.1/\(iA s).2.2.2.length<=16/\∀p∈(iA s).2.2.2,dH p.1=p.1/\p.1.length<=4194304:=by
 unfold iA at h⊢;split
 ·rename_i c;rw [aB c]at h;exact absurd h aA1
 ·rename_i c;rw [aA c]at h;split
  ·rename_i b;rw [aB b]at h;split
   ·rename_i a;rw [aB a]at h;split
    ·have d:∀k,(s.drop k).length<=4194304:=fun k=>by rw [iX];omega
     refine⟨OL s _ a,Kd _,fun p f=> ?_⟩;have:=vu _ (d _) p f;exact⟨this.1,qN this.2.1 (d _)⟩
    ·rename_i e;rw [aA e]at h;exact absurd h e
   ·rename_i a;rw [aA a]at h;exact absurd h a
  ·rename_i b;rw [aA b]at h;exact absurd h b
def WN:List PP->aC->aC->List PP
 |[],nm,v=>[(nm,v,true)]
 |p::l,nm,v=>if dH p.1=nm then(p.1,v,true)::l else p::WN l nm v
def G2(x:aC):(List aC⊕UInt8)->(List aC⊕UInt8)
 |.inl l=>.inl (x::l)
 |.inr e=>.inr e
def fO:Nat->aC->aC->List aC⊕UInt8
 |0,a,[]=>.inl [cH a]
 |_+1,_,[]=>.inr 6
 |0,a,c::l=>if c=34 then fO 1 (a++[c]) l else if c=60 then fO 3 (a++[c]) l else if c=62 then .inr 5 else if c=44 then G2 (cH a) (fO 0 [] l)else fO 0 (a++[c]) l
 |1,a,c::l=>if c=34 then fO 0 (a++[c]) l else if c=92 then fO 2 (a++[c]) l else if eW c=true then .inr 5 else fO 1 (a++[c]) l
 |2,a,c::l=>if N0 c=true then fO 1 (a++[c]) l else .inr 5
 |_+3,a,c::l=>if c=62 then fO 0 (a++[c]) l else fO 3 (a++[c]) l
theorem s0n(a:aC):fO 0 a []=.inl [cH a]:=by rw [fO]
theorem mz(a:aC)(c:UInt8)(l:aC):fO 0 a (c::l)=if c=34 then fO 1 (a++[c]) l else if c=60 then fO 3 (a++[c]) l else if c=62 then .inr 5 else if c=44 then G2 (cH a) (fO 0 [] l)else fO 0 (a++[c]) l:=by rw [fO]
theorem zu(a:aC)(c:UInt8)(l:aC):fO 1 a (c::l)=if c=34 then fO 0 (a++[c]) l else if c=92 then fO 2 (a++[c]) l else if eW c=true then .inr 5 else fO 1 (a++[c]) l:=by rw [fO]
theorem s2c(a:aC)(c:UInt8)(l:aC):fO 2 a (c::l)=if N0 c=true then fO 1 (a++[c]) l else .inr 5:=by rw [fO]
theorem s3c(m:Nat)(a:aC)(c:UInt8)(l:aC):fO (m+3) a (c::l)=if c=62 then fO 0 (a++[c]) l else fO 3 (a++[c]) l:=by rw [fO]
theorem S6(a:aC)(c:UInt8)(l:aC):fO 3 a (c::l)=if c=62 then fO 0 (a++[c]) l else fO 3 (a++[c]) l:=s3c 0 a c l
def pH(v:aC):List aC×UInt8:=match fO 0 [] v with|.inr e=>([],e)|.inl l=>if l.any (fun x=>decide (x=[]))=true then([],5)else(l,0)
theorem XC(p:UInt8->Bool)(l:aC):∀b:aC,b.all p=true->Yh p (l++b)=Yh p l:=by
 intro b;induction b generalizing l with
 |nil=>intro _;rw [gA]
 |cons c b a=>intro h;rw [Ej,fS]at h;have e:l++c::b=(l++[c])++b:=aA2;rw [e,a _ h.2,XB,aB h.1]
theorem Mr(p:UInt8->Bool):∀(a b:aC),a.all p=true->(a++b).dropWhile p=b.dropWhile p
 |[],b,_=>rfl
 |c::a,b,h=>by rw [Ej,fS]at h;rw [Bo,List.dropWhile_cons_of_pos h.1,Mr p a b h.2]
theorem Iw(a x:aC)(h:a.all cC=true):cH (a++x)=cH x:=by unfold cH;rw [Mr cC a x h]
theorem Ql(x b:aC)(h:b.all cC=true):cH (x++b)=cH x:=by unfold cH;rw [<-rD,<-rD,XC cC x b h]
theorem Bw(x:aC):cH (cH x)=cH x:=by unfold cH;rw [rD,Ab];unfold Yh;rw [List.reverse_reverse,Ab]
theorem Ta{r:List aC⊕UInt8}(h:G2 s r=.inl a):∃m,r=.inl m/\a=s::m:=by
 cases r with
 |inl m=>exact⟨m,rfl,(Sum.inl.inj h).symm⟩
 |inr e=>cases h
theorem I7:∀(s:aC) (m:Nat) (a:aC) (l:List aC),fO m a s=.inl l->l≠[]/\∀x∈l,∃y,x=cH y
 |[],0,a,l,h=>by rw [fO]at h;have:=Sum.inl.inj h;subst this;exact⟨aA2,fun x hx=>⟨a,aE.1 hx⟩⟩
 |[],m+1,a,l,h=>by cases h
 |c::s,0,a,l,h=>by
  rw [fO]at h;split at h
  ·exact I7 s _ _ l h
  ·split at h
   ·exact I7 s _ _ l h
   ·split at h
    ·cases h
    ·split at h
     ·obtain⟨m,d,rfl⟩:=Ta h;obtain⟨_,b⟩:=I7 s _ _ m d;refine⟨aA2,fun x hx=> ?_⟩;rcases aP.1 hx with h|h
      ·exact⟨a,h⟩
      ·exact b x h
     ·exact I7 s _ _ l h
 |c::s,1,a,l,h=>by
  rw [fO]at h;split at h
  ·exact I7 s _ _ l h
  ·split at h
   ·exact I7 s _ _ l h
   ·split at h
    ·cases h
    ·exact I7 s _ _ l h
 |c::s,2,a,l,h=>by
  rw [fO]at h;split at h
  ·exact I7 s _ _ l h
  ·cases h
 |c::s,m+3,a,l,h=>by
  rw [fO]at h;split at h
  ·exact I7 s _ _ l h
  ·exact I7 s _ _ l h
theorem WE:∀(l:aC) (m:Nat) (b:aC) (e:UInt8),fO m b l=.inr e->e≠0:=by
 intro l;induction l with
 |nil=>
  intro m b e h;cases m with
  |zero=>cases h
  |succ m=>rw [<-L0 h];decide
 |cons c l a=>
  intro m b e h
  match m with
  |0=>
   rw [fO]at h;split at h
   ·exact a _ _ _ h
   ·split at h
    ·exact a _ _ _ h
    ·split at h
     ·rw [<-L0 h];decide
     ·split at h
      ·cases d:fO 0 [] l with
       |inl q=>rw [d]at h;cases h
       |inr e'=>rw [d]at h;rw [<-L0 h];exact a _ _ _ d
      ·exact a _ _ _ h
  |1=>
   rw [fO]at h;split at h
   ·exact a _ _ _ h
   ·split at h
    ·exact a _ _ _ h
    ·split at h
     ·rw [<-L0 h];decide
     ·exact a _ _ _ h
  |2=>
   rw [fO]at h;split at h
   ·exact a _ _ _ h
   ·rw [<-L0 h];decide
  |m+3=>
   rw [fO]at h;split at h
   ·exact a _ _ _ h
   ·exact a _ _ _ h
theorem YV(v:aC)(h:(pH v).2=0):(pH v).1≠[]/\∀x∈(pH v).1,cH x=x/\x≠[]:=by
 unfold pH at h⊢;cases a:fO 0 [] v with
 |inr e=>rw [a]at h;simp only at h;exact absurd h (WE v 0 [] e a)
 |inl l=>
  rw [a]at h;simp only at h⊢;by_cases b:l.any (fun x=>decide (x=[]))=true
  ·rw [aB b]at h;exact absurd h (show¬(5:UInt8)=0 by decide)
  ·rw [aA b];obtain⟨d,c⟩:=I7 v 0 [] l a;refine⟨d,fun x hx=>⟨?_,fun e=>b (eI.2 ⟨x,hx,aK e⟩)⟩⟩;obtain⟨y,rfl⟩:=c x hx;exact Bw y
open List renaming intercalate → NX
def Cl(e:aC):Prop:=(∀b a,fO 0 b (e++a)=fO 0 (b++e) a)/\e.any eW=false
theorem Cl.nil:Cl []:=⟨fun b a=>by rw [gA];rfl,rfl⟩
theorem Cl.app{b:aC}(e:Cl s)(d:Cl b):Cl (s++b):=⟨fun f c=>by rw [gJ,e.1,d.1,gJ],by rw [gR,e.2,d.2];rfl⟩
def Ez(c:UInt8):Bool:= !(c==34)&& !(c==60)&& !(c==62)&& !(c==44)&& !eW c
theorem Cl.one(c:UInt8)(h:Ez c=true):Cl [c]:=by unfold Ez at h;simp only [fS,cP,eP]at h;obtain⟨⟨⟨⟨g,f⟩,e⟩,d⟩,b⟩:=h;refine⟨fun i a=> ?_,by rw [Ol,b];rfl⟩;rw [Yf,mz,aA g,aA f,aA e,aA d]
theorem Cl.all:∀(a:aC),(∀c∈a,Ez c=true)->Cl a
 |[],_=>Cl.nil
 |c::a,h=>by have:=(Cl.one c (h c fQ)).app (Cl.all a (fun d b=>h d (fB _ b)));exact this
theorem Cl.cons{c:UInt8}(h:Ez c=true)(b:Cl s):Cl (c::s):=(Cl.one c h).app b
theorem WG:∀(x:aC) (b a:aC),(∀c∈x,(!(c==62))=true)->fO 3 b (x++62::a)=fO 0 (b++(x++[62])) a
 |[],b,a,_=>by rw [mQ,S6,aB rfl];rfl
 |c::x,b,a,h=>by
  have f:¬c=62:=by simpa using h c fQ
  rw [Bo,S6,aA f,WG x _ a (fun d e=>h d (fB _ e))];simp
theorem Cl.ang(x:aC)(h:∀c∈x,NU c=true):Cl (60::(x++[62])):=by
 have d:∀c∈x,(!(c==62))=true/\eW c=false:=fun c b=>by have:=h c b;unfold NU at this;rw [fS,cP]at this;simpa using this
 refine⟨fun e a=> ?_, ?_⟩
 ·rw [Bo,mz,aA aA1,aB rfl,gJ,Yf,WG x _ a (fun c b=>(d c b).1)];simp
 ·rw [Ol,gR,dX.2 (fun c b=>by rw [(d c b).2];decide)];decide
theorem GH:∀(v:aC) (b a:aC),v.any eW=false->fO 1 b (v.flatMap nV++34::a)=fO 0 (b++(v.flatMap nV++[34])) a
 |[],b,a,_=>by rw [xF,mQ,zu,aB rfl];rfl
 |c::v,b,a,h=>by
  rw [Ol,gU]at h;by_cases d:c=34\/c=92
  ·have f:N0 c=true:=by rcases d with rfl|rfl<;>decide
   rw [kS,GO c d,Bo,Bo,Bo,zu,aA aA1,aB rfl,mQ,Bo,s2c,aB f,GH v _ a h.2];simp
  ·rw [kS,XM c d,Yf,Bo,zu,aA (fun e=>d (.inl e)),aA (fun e=>d (.inr e)),aA (by rw [h.1];decide),GH v _ a h.2];simp
theorem nz:∀c:UInt8,(nV c).any eW=eW c:=eA _ aA3
theorem KW:∀v:aC,(v.flatMap nV).any eW=v.any eW
 |[]=>rfl
 |c::v=>by rw [kS,gR,KW v,nz];rfl
theorem Cl.quo(v:aC)(h:v.any eW=false):Cl (jA v):=by
 unfold jA;refine⟨fun b a=> ?_, ?_⟩
 ·rw [Bo,mz,aB rfl,gJ,Yf,GH v _ a h];simp
 ·rw [Ol,gR,KW,h];decide
theorem qa(a b:aC)(l:List aC)(s:aC):dA (a::b::l) s=a++(s++dA (b::l) s):=aD4
theorem Z3(a s:aC):dA [a] s=a:=by simp [dA,NX]
theorem CD(sep:aC):∀(c:List aC) (x:aC),dA (c++[x]) sep=if c=[]then x else dA c sep++(sep++x)
 |[],x=>by rw [mQ,Z3,aB rfl]
 |[a],x=>by rw [aA aA2,Z3];show dA [a,x] sep=_;rw [qa,Z3]
 |a::b::c,x=>by rw [aA aA2,qa];show dA (a::b::(c++[x])) sep=_;rw [qa];have:=CD sep (b::c) x;rw [aA aA2]at this;have e:b::(c++[x])=(b::c)++[x]:=rfl;rw [e,this];simp
theorem JY:∀(b:List aC) (e c:aC),(∀x,cH (c++x)=cH x)->(∀x∈e::b,Cl x/\cH x=x)->fO 0 c (dA (e::b) [44,32])=.inl (e::b)
 |[],e,c,a,h=>by
  obtain⟨j,i⟩:=h e fQ;have g:dA [e] [44,32]=e++[]:=by rw [gA,Z3]
  rw [g,j.1,s0n,a,i]
 |d::b,e,c,a,h=>by
  obtain⟨j,i⟩:=h e fQ;have g:dA (e::d::b) [44,32]=e++(44::32::dA (d::b) [44,32]):=by rw [qa];rfl
  have f:fO 0 [] (32::dA (d::b) [44,32])=.inl (d::b):=by rw [mz,aA aA1,aA aA1,aA aA1,aA aA1,mQ];exact JY b d [32] (fun x=>Iw [32] x rfl) (fun x hx=>h x (fB _ hx))
  rw [g,j.1,mz,aA aA1,aA aA1,aA aA1,aB rfl,f,a,i];rfl
theorem QG(a:List aC)(b:a≠[])(h:∀x∈a,Cl x/\cH x=x/\x≠[]):pH (dA a [44,32])=(a,0):=by
 cases a with
 |nil=>exact absurd rfl b
 |cons e a=>unfold pH;rw [JY a e [] (fun x=>rfl) (fun x hx=>⟨(h x hx).1,(h x hx).2.1⟩)];simp only;rw [aA];intro c;rw [eI]at c;obtain⟨x,hx,d⟩:=c;exact(h x hx).2.2 (cA d)
open Go.Lib renaming cut → cW, itoa → dO, join → dA
theorem sC(n:Int)(e:0<=n)(h:n<=2147483647):gX (dO n)=(n,0)/\1<=(dO n).length/\(dO n).length<=10/\(dO n).all gW=true:=by obtain⟨k,rfl⟩:∃k:Nat,n=(k:Int):=⟨n.toNat,aA0⟩;obtain⟨a,d,c,b⟩:=ji 9 k aA0;rw [CI];refine⟨?_,c,b,a⟩;unfold gX;rw [a,d,aA (by rintro(h|h|h);omega;omega;cases h),aA aA0]
def uT(s:aC):Int×aC×UInt8:=((gX (s.take (dQ (fun c=> !cC c) s))).1,s.drop (cD cC s (dQ (fun c=> !cC c) s:Int)),(gX (s.take (dQ (fun c=> !cC c) s))).2)
theorem Hr(s:aC):0<=(gX s).1/\(gX s).1<=2147483647:=by
 unfold gX;split
 ·exact⟨aA1,aA1⟩
 ·split
  ·exact⟨aA1,aA1⟩
  ·dsimp only;omega
theorem Hq(s:aC):0<=(uT s).1/\(uT s).1<=2147483647:=by unfold uT;exact Hr _
def An(v:aC):Int×aC×UInt8:=
 if(uT (cH v)).2.2=0 then(if eY (uT (cH v)).2.1=true then((uT (cH v)).1,(uT (cH v)).2.1,0)else(0,[],5))else(0,[],(uT (cH v)).2.2)
def Bi(v:aC):Int×Int×aC×UInt8:=
 if(uT (cH v)).2.2=0 then(if(An (uT (cH v)).2.1).2.2=0 then((uT (cH v)).1,(An (uT (cH v)).2.1).1,(An (uT (cH v)).2.1).2.1,0)else(0,0,[],(An (uT (cH v)).2.1).2.2))else(0,0,[],(uT (cH v)).2.2)
theorem pC:∀c:UInt8,gW c=true->(!cC c)=true:=eA _ aA3
theorem Rl(n:Int)(i:0<=n)(h:n<=2147483647)(m:aC)(b:∀c,m.head? =some c->cC c=false):uT (dO n++32::m)=(n,m,0):=by
 obtain⟨k,o,l,j⟩:=sC n i h;have a:dQ (fun c=> !cC c) (dO n++32::m)=(dO n).length:=by rw [N4 _ _ _ (aT.2 (fun c f=>pC c (aT.1 j c f))),cz _ _ _ aA1,Bm]
 have g:cD cC (dO n++32::m) ((dO n).length:Int)=(dO n++[32]).length:=by rw [vA cC _ (dO n) (32::m) rfl,dQ,aB aA1,TH cC m b,bM];rfl
 have d:(dO n++32::m).drop (dO n++[32]).length=m:=by have e:dO n++32::m=(dO n++[32])++m:=aA2;rw [e,Fq]
 unfold uT;rw [a,Ov,k,g,d]
theorem Mc(n:Int)(f:0<=n)(h:n<=2147483647)(m:aC):∀c,(dO n++m).head? =some c->cC c=false:=by
 intro c b;obtain⟨j,d,i,g⟩:=sC n f h;have a:dO n≠[]:=fun e=>by rw [e]at d;simp at d
 rw [db _ _ a]at b;have:=pC c (nP gW _ g c b);simpa using this
theorem Zd(m:aC)(a:eY m=true):ND m:=ju cB dm m (Qd a).2
theorem Sz(n:Int)(d:0<=n)(h:n<=2147483647)(m:aC)(a:eY m=true):cH (dO n++32::m)=dO n++32::m/\An (dO n++32::m)=(n,m,0):=by
 have b:cH (dO n++32::m)=dO n++32::m:=by refine I8 _ (Mc n d h _) ?_;have e:dO n++32::m=(dO n++[32])++m:=aA2;rw [e];exact N8 _ _ (Qd a).1 (Zd m a)
 refine⟨b, ?_⟩;have f:∀c,m.head? =some c->cC c=false:=fun c g=>dm c (nP cB m (Qd a).2 c g);unfold An;rw [b,Rl n d h m f];dsimp only;rw [aB rfl,aB a]
theorem OZ(a:Int)(g:0<=a)(f:a<=2147483647)(n:Int)(d:0<=n)(h:n<=2147483647)(m:aC)(b:eY m=true):cH (dO a++32::(dO n++32::m))=dO a++32::(dO n++32::m)/\Bi (dO a++32::(dO n++32::m))=(a,n,m,0):=by
 have c:cH (dO a++32::(dO n++32::m))=dO a++32::(dO n++32::m):=by refine I8 _ (Mc a g f _) ?_;have e:dO a++32::(dO n++32::m)=(dO a++32::(dO n++[32]))++m:=aA2;rw [e];exact N8 _ _ (Qd b).1 (Zd m b)
 refine⟨c, ?_⟩;unfold Bi;rw [c,Rl a g f _ (Mc n d h _)];dsimp only;rw [aB rfl,(Sz n d h m b).2,aB rfl]
theorem EJ(v:aC)(h:(An v).2.2=0):eY (An v).2.1=true/\0<=(An v).1/\(An v).1<=2147483647:=by
 have c:=Hq (cH v);unfold An at h⊢;by_cases b:(uT (cH v)).2.2=0
 ·rw [aB b]at h⊢;by_cases a:eY (uT (cH v)).2.1=true
  ·rw [aB a];exact⟨a,c⟩
  ·rw [aA a]at h;exact absurd h aA1
 ·rw [aA b]at h;exact absurd h b
theorem XI(v:aC)(h:(Bi v).2.2.2=0):eY (Bi v).2.2.1=true/\(0<=(Bi v).1/\(Bi v).1<=2147483647)/\0<=(Bi v).2.1/\(Bi v).2.1<=2147483647:=by
 have d:=Hq (cH v);have c:=EJ (uT (cH v)).2.1;unfold Bi at h⊢;generalize An (uT (cH v)).2.1=C at c h⊢;generalize uT (cH v)=D at d h⊢;by_cases b:D.2.2=0
 ·rw [aB b]at h⊢;by_cases a:C.2.2=0
  ·rw [aB a];exact⟨(c a).1,d,(c a).2⟩
  ·rw [aA a]at h;exact absurd h a
 ·rw [aA b]at h;exact absurd h b
def gV(k:Int)(ct:Bool)(v:aC):aC×UInt8:=
 if k=1 then(if ct=true/\cH v=[42]then([42],0)else if(iA (cH v)).1=0 then vC (iA (cH v)).2 else([],(iA (cH v)).1))
 else if k=2 then(if(lO v).2=0 then Fj (lO v).1 else([],(lO v).2))
 else if k=3 then(if(An v).2.2=0 then(dO (An v).1++32::(An v).2.1,0)else([],(An v).2.2))
 else if k=4 then(if(Bi v).2.2.2=0 then(dO (Bi v).1++32::(dO (Bi v).2.1++32::(Bi v).2.2.1),0)else([],(Bi v).2.2.2))
 else if k=5 then(if(gX (cH v)).2=0 then(dO (gX (cH v)).1,0)else([],(gX (cH v)).2))
 else if k=6\/k=7 then(if(Tg v).2=0 then Oq (Tg v).1 else([],(Tg v).2))
 else if(cH v).any eW=true then([],5)else(cH v,0)
theorem VP:∀c:UInt8,cB c=true->Ez c=true:=eA _ aA3
theorem Cl.tok(h:eY s=true):Cl s:=Cl.all s (fun c a=>VP c (aT.1 (Qd h).2 c a))
theorem Dl(s:aC):∀c∈(dZ s).1,Ez c=true:=zS _ (eA _ aA3) aA1 aA1 aA1 aA1 aA1 (eA _ aA3) (eA _ aA3) s
theorem Cl.Om(v:aC)(h:v.any eW=false):Cl (Om v):=by
 unfold Go.Wk.Om;cases c:eY v with
 |true=>exact Cl.tok c
 |false=>
  cases b:Te v with
  |true=>have a:=b;unfold Te at a;simp only [fS,aV]at a;have:=Dl v;rw [a.1.2]at this;exact Cl.all v this
  |false=>exact Cl.quo v h
theorem Cl.tL(p:PP)(h:On p=true):Cl (tL p):=by
 unfold On at h;cases a:p.2.2 with
 |true=>rw [a,aL]at h;rw [Bv p a];exact Cl.cons aA1 (Cl.Om _ aA9)
 |false=>rw [Iv p a];exact Cl.nil
theorem Cl.par:∀(r pre:List PP) (u:aC),mZ pre r=some u->Cl u
 |[],pre,u,h=>by rw [mZ,aU]at h;subst h;exact Cl.nil
 |p::r,pre,u,h=>by
  rw [mZ]at h;cases a:Rh pre p&&On p with
  |false=>rw [a]at h;cases h
  |true=>
   rw [a,aL,M2]at h;obtain⟨t,b,rfl⟩:=h;rw [fS]at a;have c:eY p.1=true:=by have:=a.1;unfold Rh at this;simp only [fS]at this;exact this.1.1
   exact Cl.cons aA1 ((Cl.tok c).app ((Cl.tL p a.2).app (Cl.par r _ t b)))
theorem ZQ(l:List PP)(t:aC)(h:mZ [] (dW l)=some t):dW (dW l)=dW l:=
 sD l (Ae (SB l) (Hm (dW l) [] t h).1)
theorem K0(d:aC)(u:UU)(l:List PP)(k:Good u)(b:(vC (d,u,l)).2=0)(p:(vC (d,u,l)).1.length<=1024):
  (iA (vC (d,u,l)).1).1=0/\vC (iA (vC (d,u,l)).1).2=vC (d,u,l)/\cH (vC (d,u,l)).1=(vC (d,u,l)).1/\(vC (d,u,l)).1≠[]/\(vC (d,u,l)).1≠[42]/\Cl (vC (d,u,l)).1:=by
 obtain⟨o,r,n⟩:=SG d u l k b p;have m:d.any eW=false/\(iP (dW l)).2=0:=by
  by_cases h:d.any eW=false/\(iP (dW l)).2=0
  ·exact h
  ·unfold vC at b;dsimp only at b;rw [aA h]at b;exact absurd b aA1
 have g:(vC (d,u,l)).1=Pr d++(60::(tT u++(62::(iP (dW l)).1))):=by unfold vC;dsimp only;rw [aB m]
 have j:Cl (Pr d):=by
  unfold Pr;split
  ·exact Cl.nil
  ·exact(Cl.quo d m.1).app (Cl.one 32 aA1)
 have i:Cl (vC (d,u,l)).1:=by rw [g];have q:Pr d++(60::(tT u++(62::(iP (dW l)).1)))=Pr d++((60::(tT u++[62]))++(iP (dW l)).1):=aA2;rw [q];exact j.app ((Cl.ang _ (KX u k)).app (Cl.par _ _ _ n))
 have f:∀c,(vC (d,u,l)).1.head? =some c->c=34\/c=60:=by
  intro c a;rw [g]at a;unfold Pr at a;split at a
  ·right;exact(aJ a).symm
  ·left;exact(aJ a).symm
 refine⟨by rw [o], ?_,r, ?_, ?_,i⟩
 ·rw [o];unfold vC;dsimp only;rw [ZQ l _ n]
 ·intro e;rw [g]at e;simp at e
 ·intro e;have:=f 42 aE9;rcases this with h|h<;>exact absurd h aA1
theorem UZ(x:VV)(h:(Fj x).2=0):(lO (Fj x).1).2=0/\Fj (lO (Fj x).1).1=Fj x/\cH (Fj x).1=(Fj x).1/\(Fj x).1≠[]/\Cl (Fj x).1:=by
 have k:=VB x h;have i:=OE x h;refine⟨by rw [k],by rw [k];exact i, ?_⟩;have j:=h;unfold Fj at j;by_cases a:(dZ x.2.1).2=true/\eY x.1=true/\0<=x.2.2.1/\x.2.2.1<=65535/\(iP (dW (iT x.2.2.2.2++lG x.2.2.2.1))).2=0
 ·have n:=bD Prod.fst (Ck x a);obtain⟨p,o,d,b,q⟩:=a;obtain⟨t,s,l,r⟩:=nA (dW (iT x.2.2.2.2++lG x.2.2.2.1)) (iP (dW (iT x.2.2.2.2++lG x.2.2.2.1))).1 (by rw [<-q]);have e:=Jw x.2.1 x.2.2.1 d b;obtain⟨f,_⟩:=Qv x.2.1 x.2.2.1 p;have g:∀c∈Qb (dZ x.2.1).1 x.2.2.1,Ez c=true:=by
   intro c a;unfold Qb at a;split at a
   ·exact Dl _ c a
   ·rcases aS.1 a with h|h
    ·exact Dl _ c h
    ·rcases aS.1 h with h|h
     ·rw [aE.1 h];decide
     ·exact(eA (fun c=>gW c=true->Ez c=true) aA3) c (aT.1 (alt _ d b).2.2.2 c h)
  rw [n];dsimp only;refine⟨?_,by unfold Aw;simp, ?_⟩
  ·refine I8 _ (fun c a=> ?_) (mY _ [] _ _ l (N8 _ _ f (ju (fun c=> !lA c) Cd _ e)));have:c=83:=(aJ a).symm;rw [this];decide
  ·have m:Cl Aw:=Cl.all _ aA1;exact(((m.app (Cl.tok (vX x.1 o))).app (Cl.one 32 aA1)).app (Cl.all _ g)).app (Cl.par _ _ _ l)
 ·rw [aA a]at j;exact absurd j aA1
theorem QJ(x:aC×List PP)(h:(Oq x).2=0):(Tg (Oq x).1).2=0/\Oq (Tg (Oq x).1).1=Oq x/\cH (Oq x).1=(Oq x).1/\(Oq x).1≠[]/\Cl (Oq x).1:=by
 have n:=QK x h;have l:=h;unfold Oq at l;by_cases d:Ag x.1=true/\(iP (dW x.2)).2=0
 ·have j:(Oq x).1=x.1++(iP (dW x.2)).1:=by unfold Oq;rw [aB d]
  obtain⟨k,q⟩:=d;have a:=k;rw [CJ,aV]at k;obtain⟨b,o⟩:=k;obtain⟨w,v,m,u⟩:=nA (dW x.2) (iP (dW x.2)).1 (by rw [<-q]);refine⟨by rw [n], ?_, ?_, ?_, ?_⟩
  ·rw [n];unfold Oq;dsimp only;rw [ZQ x.2 _ m]
  ·rw [j];refine I8 _ (fun c d=> ?_) (mY _ [] _ x.1 m (Lp x.1 o b));rw [db x.1 _ b]at d;exact dm c (Lq x.1 o b c d)
  ·rw [j];simp [b]
  ·rw [j];refine Cl.app ?_ (Cl.par _ _ _ m);unfold Ag at a;simp only [fS,jU,cP]at a;rcases CS 47 x.1 with⟨i,_⟩|⟨f,g,p,t,i⟩
   ·have e:cW x.1 [47]=(x.1,[],false):=by rw [wP,aB i]
    rw [e]at a;exact Cl.tok a.1
   ·have e:cW x.1 [47]=(f,g,true):=by
     rw [wP,aA (by rw [i];omega),i,iY,p,Ov];have:(f++47::g).drop (f.length+([47]:aC).length)=g:=by have s:f++47::g=(f++[47])++g:=aA2;have r:f.length+([47]:aC).length=(f++[47]).length:=aA2;rw [s,r,Fq]
     rw [this]
    rw [e]at a;dsimp only at a;rw [p];refine(Cl.tok a.1).app (Cl.cons aA1 (Cl.tok ?_));rcases a.2 with h|h
    ·cases h
    ·exact h
 ·rw [aA d]at l;exact absurd l aA1
theorem LD(h:s.all gW=true):s.any eW=false:=dX.2 fun c a=>by have:=aT.1 h c a;revert this;exact eA (fun c=>gW c=true->¬eW c=true) aA3 c
theorem Uh(h:eY s=true):s.any eW=false:=(Cl.tok h).2
theorem Lo(n:Int)(b:0<=n)(a:n<=2147483647)(r:aC)(h:r.any eW=false):(dO n++32::r).any eW=false:=by rw [gR,LD (sC n b a).2.2.2,Ol,h];decide
def BH(k:Int):Prop:=k=1\/k=2\/k=6\/k=7
theorem Iy(k:Int)(ct:Bool)(v:aC)(h:(gV k ct v).2=0)(y:(gV k ct v).1.length<=1024):
  gV k ct (gV k ct v).1=gV k ct v/\(cH (gV k ct v).1=(gV k ct v).1/\(gV k ct v).1.any eW=false)/\(BH k->(gV k ct v).1≠[]/\Cl (gV k ct v).1):=by
 by_cases o:k=1
 ·subst o;by_cases A:ct=true/\cH v=[42]
  ·have e:gV 1 ct v=([42],0):=by unfold gV;rw [aB rfl,aB A]
   rw [e];have x:cH [42]=[42]:=rfl;refine⟨?_,⟨x,rfl⟩,fun _=>⟨aA2,Cl.one 42 aA1⟩⟩;unfold gV;rw [aB rfl,aB ⟨A.1,x⟩]
  ·by_cases b:(iA (cH v)).1=0
   ·have e:gV 1 ct v=vC (iA (cH v)).2:=by unfold gV;rw [aB rfl,aA A,aB b]
    have F:=(Nw _ b).1;rw [e]at h y⊢;generalize(iA (cH v)).2=a at F h y⊢;obtain⟨d,u,l⟩:=a;obtain⟨i,g,t,z,p,G⟩:=K0 d u l F h y;refine⟨?_,⟨t,G.2⟩,fun _=>⟨z,G⟩⟩;unfold gV;rw [aB rfl,t,aA (fun h=>p h.2),aB i,g]
   ·have e:gV 1 ct v=([],(iA (cH v)).1):=by unfold gV;rw [aB rfl,aA A,aA b]
    rw [e]at h;exact absurd h b
 ·by_cases m:k=2
  ·subst m;by_cases b:(lO v).2=0
   ·have e:gV 2 ct v=Fj (lO v).1:=by unfold gV;rw [aA aA1,aB rfl,aB b]
    rw [e]at h y⊢;obtain⟨i,g,t,z,p⟩:=UZ _ h;refine⟨?_,⟨t,p.2⟩,fun _=>⟨z,p⟩⟩;unfold gV;rw [aA aA1,aB rfl,aB i,g]
   ·have e:gV 2 ct v=([],(lO v).2):=by unfold gV;rw [aA aA1,aB rfl,aA b]
    rw [e]at h;exact absurd h b
  ·by_cases s:k=3
   ·subst s;by_cases b:(An v).2.2=0
    ·have e:gV 3 ct v=(dO (An v).1++32::(An v).2.1,0):=by unfold gV;rw [aA aA1,aA aA1,aB rfl,aB b]
     have f:=EJ v b;rw [e];dsimp only;obtain⟨i,g⟩:=Sz _ f.2.1 f.2.2 _ f.1;refine⟨?_,⟨i,Lo _ f.2.1 f.2.2 _ (Uh f.1)⟩,fun h=>by rcases h with h|h|h|h<;>exact absurd h aA1⟩;unfold gV;rw [aA aA1,aA aA1,aB rfl,g,aB rfl]
    ·have e:gV 3 ct v=([],(An v).2.2):=by unfold gV;rw [aA aA1,aA aA1,aB rfl,aA b]
     rw [e]at h;exact absurd h b
   ·by_cases r:k=4
    ·subst r;by_cases b:(Bi v).2.2.2=0
     ·have e:gV 4 ct v=(dO (Bi v).1++32::(dO (Bi v).2.1++32::(Bi v).2.2.1),0):=by unfold gV;rw [aA aA1,aA aA1,aA aA1,aB rfl,aB b]
      have f:=XI v b;rw [e];dsimp only;obtain⟨i,g⟩:=OZ _ f.2.1.1 f.2.1.2 _ f.2.2.1 f.2.2.2 _ f.1;refine⟨?_,⟨i,Lo _ f.2.1.1 f.2.1.2 _ (Lo _ f.2.2.1 f.2.2.2 _ (Uh f.1))⟩,fun h=>by rcases h with h|h|h|h<;>exact absurd h aA1⟩;unfold gV;rw [aA aA1,aA aA1,aA aA1,aB rfl,g,aB rfl]
     ·have e:gV 4 ct v=([],(Bi v).2.2.2):=by unfold gV;rw [aA aA1,aA aA1,aA aA1,aB rfl,aA b]
      rw [e]at h;exact absurd h b
    ·by_cases q:k=5
     ·subst q;by_cases b:(gX (cH v)).2=0
      ·have e:gV 5 ct v=(dO (gX (cH v)).1,0):=by unfold gV;rw [aA aA1,aA aA1,aA aA1,aA aA1,aB rfl,aB b]
       rw [e];dsimp only;obtain⟨E,D⟩:=Hr (cH v);generalize(gX (cH v)).1=n at E D;obtain⟨I,K,J,C⟩:=sC n E D;have x:cH (dO n)=dO n:=by refine I8 _ (fun c B=> ?_) (ju gW (fun c B=>by have:=pC c B;simpa using this) _ C);have:=pC c (nP gW _ C c B);simpa using this
       refine⟨?_,⟨x,LD C⟩,fun h=>by rcases h with h|h|h|h<;>exact absurd h aA1⟩;unfold gV;rw [aA aA1,aA aA1,aA aA1,aA aA1,aB rfl,x,I,aB rfl]
      ·have e:gV 5 ct v=([],(gX (cH v)).2):=by unfold gV;rw [aA aA1,aA aA1,aA aA1,aA aA1,aB rfl,aA b]
       rw [e]at h;exact absurd h b
     ·by_cases j:k=6\/k=7
      ·by_cases b:(Tg v).2=0
       ·have e:gV k ct v=Oq (Tg v).1:=by unfold gV;rw [aA o,aA m,aA s,aA r,aA q,aB j,aB b]
        rw [e]at h y⊢;obtain⟨i,g,t,z,p⟩:=QJ _ h;refine⟨?_,⟨t,p.2⟩,fun _=>⟨z,p⟩⟩;unfold gV;rw [aA o,aA m,aA s,aA r,aA q,aB j,aB i,g]
       ·have e:gV k ct v=([],(Tg v).2):=by unfold gV;rw [aA o,aA m,aA s,aA r,aA q,aB j,aA b]
        rw [e]at h;exact absurd h b
      ·by_cases b:(cH v).any eW=true
       ·have e:gV k ct v=([],5):=by unfold gV;rw [aA o,aA m,aA s,aA r,aA q,aA j,aB b]
        rw [e]at h;exact absurd h (show¬(5:UInt8)=0 by decide)
       ·have e:∀w,cH w=cH v->gV k ct w=(cH v,0):=fun w H=>by unfold gV;rw [H,aA o,aA m,aA s,aA r,aA q,aA j,aA b]
        rw [e v rfl];refine⟨e _ (Bw v),⟨Bw v,aB6⟩,fun h=> ?_⟩;rcases h with h|h|h|h
        ·exact absurd h o
        ·exact absurd h m
        ·exact absurd (.inl h) j
        ·exact absurd (.inr h) j
def qO(k:Int)(ct:Bool):List aC->List aC×UInt8
 |[]=>([],0)
 |x::l=>if(gV k ct x).2=0 then(if(qO k ct l).2=0 then((gV k ct x).1::(qO k ct l).1,0)else([],(qO k ct l).2))else([],(gV k ct x).2)
theorem Ui(k:Int)(ct:Bool):∀l:List aC,(qO k ct l).2=0->(qO k ct l).1.length=l.length
 |[],_=>rfl
 |x::l,h=>by
  rw [qO]at h⊢;by_cases b:(gV k ct x).2=0
  ·rw [aB b]at h⊢;by_cases a:(qO k ct l).2=0
   ·rw [aB a];simp only [bR,Ui k ct l a]
   ·rw [aA a]at h;exact absurd h a
  ·rw [aA b]at h;exact absurd h b
theorem Iz(k:Int)(ct:Bool)(f:BH k):∀l:List aC,(qO k ct l).2=0->(∀x∈(qO k ct l).1,x.length<=1024)->qO k ct (qO k ct l).1=((qO k ct l).1,0)/\∀x∈(qO k ct l).1,Cl x/\cH x=x/\x≠[]
 |[],_,_=>⟨rfl,fun x hx=>by cases hx⟩
 |x::l,h,a=>by
  rw [qO]at h a⊢;by_cases b:(gV k ct x).2=0
  ·rw [aB b]at h a⊢;by_cases c:(qO k ct l).2=0
   ·rw [aB c]at a⊢;dsimp only at a⊢;obtain⟨n,m,g⟩:=Iy k ct x b (a _ fQ);obtain⟨j,i⟩:=Iz k ct f l c (fun y d=>a y (fB _ d));refine⟨?_,fun y d=> ?_⟩
    ·rw [qO,n,j,aB b,aB rfl]
    ·rcases aP.1 d with e|e
     ·rw [e];exact⟨(g f).2,m.1,(g f).1⟩
     ·exact i y e
   ·rw [aA c]at h;exact absurd h c
  ·rw [aA b]at h;exact absurd h b
theorem oW(sep:aC):∀(l:List aC),∀x∈l,x.length<=(dA l sep).length
 |[],x,hx=>by cases hx
 |[a],x,hx=>by rw [aE.1 hx,Z3];exact eV _
 |a::b::l,x,hx=>by
  have e:=qa a b l sep;rw [e,bM,bM];rcases aP.1 hx with h|h
  ·rw [h];omega
  ·have:=oW sep (b::l) x h;omega
def Eb(many:Bool)(k:Int)(ct:Bool)(v:aC):aC×UInt8:=
 if many=true then(if(pH v).2=0 then(if(qO k ct (pH v).1).2=0 then(dA (qO k ct (pH v).1).1 [44,32],0)else([],(qO k ct (pH v).1).2))else([],(pH v).2))else gV k ct v
theorem GB(many:Bool)(k:Int)(ct:Bool)(f:many=true->BH k)(v:aC)(h:(Eb many k ct v).2=0)(a:(Eb many k ct v).1.length<=1024):Eb many k ct (Eb many k ct v).1=((Eb many k ct v).1,0):=by
 cases many with
 |false=>have e:∀w,Eb false k ct w=gV k ct w:=fun w=>aA aA1;rw [e v]at h a⊢;rw [e,(Iy k ct v h a).1,<-h]
 |true=>
  by_cases c:(pH v).2=0
  ·by_cases b:(qO k ct (pH v).1).2=0
   ·have e:Eb true k ct v=(dA (qO k ct (pH v).1).1 [44,32],0):=by unfold Eb;rw [aB rfl,aB c,aB b]
    rw [e]at a⊢;dsimp only at a⊢;obtain⟨j,i⟩:=Iz k ct (f rfl) (pH v).1 b (fun x hx=>qN (oW _ _ x hx) a);have d:(qO k ct (pH v).1).1≠[]:=fun e=>by have:=Ui k ct _ b;rw [e,eO]at this;exact(YV v c).1 (Fp this.symm)
    have g:=QG _ d i;unfold Eb;rw [aB rfl,g];dsimp only;rw [aB rfl,j];dsimp only;rw [aB rfl]
   ·have e:Eb true k ct v=([],(qO k ct (pH v).1).2):=by unfold Eb;rw [aB rfl,aB c,aA b]
    rw [e]at h;exact absurd h b
  ·have e:Eb true k ct v=([],(pH v).2):=by unfold Eb;rw [aB rfl,aA c]
   rw [e]at h;exact absurd h c
open Int renaming toNat → aZ
theorem VN(x:aC):Lib.trimRightS x [32,9]=Yh cC x:=by unfold Lib.trimRightS Yh;rw [uF]
theorem Qp(p:UInt8->Bool):∀(l:aC) (n:Nat),dQ p (l.take n)=min (dQ p l) n
 |[],n=>by rw [List.take_nil];simp [dQ]
 |c::l,0=>by rw [List.take_zero];simp [dQ]
 |c::l,n+1=>by
  rw [fH,dQ,dQ];split
  ·rw [Qp p l n];omega
  ·omega
theorem Qw(s:aC)(h:aR s<=4194304)(b e:Nat)(j:b<=e)(m:e<=aR s):∃k,asx FU s (b:Int) (e:Int)=some (k,cH (sub s (b:Int) (e:Int))):=by
 have i:cD cC s (b:Int)=b+dQ cC (s.drop b):=by unfold cD;rw [jx b s.length aA0]
 have d:sub s (b:Int) (e:Int)=(s.drop b).take (e-b):=by unfold sub;rw [iY,iY]
 have c:min ((cD cC s (b:Int):Nat):Int) (e:Int)=((b+dQ cC (sub s (b:Int) (e:Int)):Nat):Int):=by rw [d,Qp,i];omega
 have f:=FN cC (sub s (b:Int) (e:Int));have l:(sub s (b:Int) (e:Int)).length=e-b:=aD6;have a:sub s ((b+dQ cC (sub s (b:Int) (e:Int)):Nat):Int) (e:Int)=(sub s (b:Int) (e:Int)).dropWhile cC:=by rw [<-ayg];generalize dQ cC (sub s (b:Int) (e:Int))=n;rw [d];unfold sub;rw [iY,iY,List.drop_take,JE];congr 1;omega
 have g:=sub_le s ((b+dQ cC (sub s (b:Int) (e:Int)):Nat):Int) (e:Int);unfold asx;rw [nT s h,aY,c,bA aA0,bA aA0,bA aA1,a,VN];exact⟨_,rfl⟩
theorem Je(s:aC)(b i m:Nat)(a:b<=i):sub s (b:Int) ((i+m:Nat):Int)=sub s (b:Int) (i:Int)++(s.drop i).take m:=by unfold sub;rw [iY,iY,iY,show i+m-b=(i-b)+m by omega,List.take_add,JE,show b+(i-b)=i by omega]
theorem nv(n:Nat):∀(l:aC) (k:Nat) (a b:aC),aR l<=n->
  ((fT l k a).2.2=0->fO 1 b l=fO 0 (b++l.take ((fT l k a).2.1.toNat-k)) (l.drop ((fT l k a).2.1.toNat-k)))/\(¬(fT l k a).2.2=0->fO 1 b l=.inr (fT l k a).2.2):=by
 induction n with
 |zero=>
  intro l k a b h;obtain rfl:l=[]:=Fp aA0;have e:fT [] k a=([],(k:Int),6):=by unfold fT;rfl
  rw [e];exact⟨fun h=>absurd h (show¬(6:UInt8)=0 by decide),fun _=>rfl⟩
 |succ n p=>
  intro l k a b h;cases l with
  |nil=>
   have e:fT [] k a=([],(k:Int),6):=by unfold fT;rfl
   rw [e];exact⟨fun h=>absurd h (show¬(6:UInt8)=0 by decide),fun _=>rfl⟩
  |cons c l=>
   rw [bR]at h;rw [ua,zu];by_cases g:c=34
   ·rw [aB g,aB g];refine⟨fun _=> ?_,fun h=>absurd rfl h⟩;dsimp only;rw [show aZ (((k+1:Nat):Int))-k=1 by omega];rfl
   ·rw [aA g,aA g];by_cases f:c=92
    ·rw [aB f,aB f];cases l with
     |nil=>rw [aB rfl];exact⟨fun h=>absurd h (show¬(6:UInt8)=0 by decide),fun _=>rfl⟩
     |cons d r=>
      have s:at_ (d::r) 0=d:=rfl;rw [aA aA2,s,s2c];cases t:N0 d with
      |false=>rw [aA aA1,aA aA1];exact⟨fun h=>absurd h (show¬(5:UInt8)=0 by decide),fun _=>rfl⟩
      |true=>rw [aB rfl,aB rfl,List.drop_one,List.tail_cons];rw [bR]at h;obtain⟨o,m⟩:=p r (k+2) (a++[d]) ((b++[c])++[d]) aA0;have i:=(Hf r.length r (k+2) (a++[d]) (eV _)).2;refine⟨fun j=> ?_,m⟩;have q:=i j;rw [o j];have e:(fT r (k+2) (a++[d])).2.1.toNat-k=((fT r (k+2) (a++[d])).2.1.toNat-(k+2))+2:=aA0;rw [e,fH,fH,ej,ej];simp
    ·rw [aA f,aA f];cases u:eW c with
     |true=>rw [aB rfl];exact⟨fun h=>absurd h (show¬(5:UInt8)=0 by decide),fun _=>rfl⟩
     |false=>obtain⟨o,m⟩:=p l (k+1) (a++[c]) (b++[c]) aA0;have i:=(Hf l.length l (k+1) (a++[c]) (eV _)).2;rw [aA aA1];refine⟨fun j=> ?_,m⟩;have q:=i j;have v:(if false=true then(.inr 5:List aC⊕UInt8)else fO 1 (b++[c]) l)=fO 1 (b++[c]) l:=aA aA1;have e:(fT l (k+1) (a++[c])).2.1.toNat-k=((fT l (k+1) (a++[c])).2.1.toNat-(k+1))+1:=aA0;rw [o j,e,fH,ej];simp
theorem ang1:∀(l a:aC),(dT (·==(62:UInt8)) l<0->fO 3 a l=.inr 6)/\(¬dT (·==(62:UInt8)) l<0->fO 3 a l=fO 0 (a++l.take ((dT (·==(62:UInt8)) l).toNat+1)) (l.drop ((dT (·==(62:UInt8)) l).toNat+1)))
 |[],a=>⟨fun _=>rfl,fun h=>absurd (show(-1:Int)<0 by decide) h⟩
 |c::l,a=>by
  obtain⟨f,d⟩:=ang1 l (a++[c]);have g:=sB (·==(62:UInt8)) l;rw [S6];by_cases h:c=62
  ·have e:dT (·==(62:UInt8)) (c::l)=0:=by rw [dT,h];rfl
   rw [e,aB h];exact⟨fun h=>absurd h aA1,fun _=>rfl⟩
  ·have i:(c==(62:UInt8))=false:=eP.2 h;rw [aA h,dT,i,aA aA1];by_cases b:dT (·==(62:UInt8)) l= -1
   ·rw [aB b];refine⟨fun _=>f aA0,fun h=>absurd (show(-1:Int)<0 by decide) h⟩
   ·rw [aA b];refine⟨fun h=>absurd h aA0,fun _=> ?_⟩;rw [d aA0,show aZ (dT (·==(62:UInt8)) l+1)+1=((dT (·==(62:UInt8)) l).toNat+1)+1 by omega,fH,ej];simp
theorem VZ(s:aC)(Z:aR s<=4194303)(n:Nat):∀(i f:Nat) (c:dP) (b:Nat),aR s-i<=n->n<f->b<=i->i<=aR s->aR c<=i->
  ∃j,aly FU s 44 f c (b:Int) (i:Int)=some j/\
   (match fO 0 (sub s (b:Int) (i:Int)) (s.drop i)with
   |.inl l=>∃(d:dP) (b':Nat),j=.inl (d,(b':Int))/\b'<=aR s/\d.length<=aR s/\d.map (·.2)++[cH (sub s (b':Int) (aR s:Int))]=c.map (·.2)++l
   |.inr e=>∃q a,j=.inr (q,a,e)):=by
 induction n with
 |zero=>intro i f c b T V C w I;obtain⟨f,rfl⟩:=dY f;obtain rfl:i=aR s:=aA0;rw [ark,akf,aA aA0,O4 (eV _),s0n];exact⟨_,rfl,c,b,rfl,aA0,I,rfl⟩
 |succ n B=>
  intro i f c b T V C w I;obtain⟨f,rfl⟩:=dY f;by_cases v:i<aR s
  ·have H:=drop_at s i v;have u:sub s (b:Int) ((i+1:Nat):Int)=sub s (b:Int) (i:Int)++[at_ s (i:Int)]:=by rw [Je s b i 1 C,H];rfl
   rw [ark,akf,aB aA0,bA aA0,H,mz];by_cases m:at_ s (i:Int)=34
   ·rw [aB m,aB m,vZ s aA0,aY];have R:Nj s (i:Int)=fT (s.drop (i+1)) (i+1) []:=by unfold Nj;rw [aA aA0,aA (by rintro(h|h);omega;exact h m),iY]
    have E:=nv (s.drop (i+1)).length (s.drop (i+1)) (i+1) [] (sub s (b:Int) (i:Int)++[at_ s (i:Int)]) (eV _);have y:=(Hf (s.drop (i+1)).length (s.drop (i+1)) (i+1) [] (eV _)).2;have G:(s.drop (i+1)).length=aR s-(i+1):=iX;rw [R];generalize fT (s.drop (i+1)) (i+1) []=U at E y⊢;by_cases z:U.2.2=0
    ·obtain⟨Y,X⟩:=y z;obtain⟨o,F⟩:∃o:Nat,U.2.1=(o:Int):=⟨U.2.1.toNat,aA0⟩;rw [F]at Y X;have K:=E.1 z;rw [F,iY,<-u,<-Je s b (i+1) (o-(i+1)) aA0,JE,show i+1+(o-(i+1))=o by omega]at K;rw [aB z,F,<-u,K];exact B o f c b aA0 aA0 aA0 aA0 aA0
    ·rw [aA z,E.2 z];exact⟨_,rfl,_,_,rfl⟩
   ·rw [aA m,aA m];by_cases g:at_ s (i:Int)=60
    ·have hx:fO 3 (sub s (b:Int) (i:Int)) (s.drop i)=fO 3 (sub s (b:Int) (i:Int)++[at_ s (i:Int)]) (s.drop (i+1)):=by rw [H,S6,aA (by rw [g];decide)]
     obtain⟨M,L⟩:=ang1 (s.drop i) (sub s (b:Int) (i:Int));have G:(s.drop i).length=aR s-i:=iX;have D:=dh (·==(62:UInt8)) (s.drop i);rw [aB g,aB g,bA aA0,iY,<-hx];generalize dT (·==(62:UInt8)) (s.drop i)=x at M L D⊢;by_cases p:x<0
     ·rw [aB p,M p];exact⟨_,rfl,_,_,rfl⟩
     ·rw [aA p,L p,<-Je s b i (x.toNat+1) C,JE,bA (eT _ aA0 aA0),bA (eT _ aA0 aA0),show(i:Int)+(x+1)=((i+(x.toNat+1):Nat):Int)by omega];exact B (i+(x.toNat+1)) f c b aA0 aA0 aA0 aA0 aA0
    ·rw [aA g,aA g];by_cases r:at_ s (i:Int)=62
     ·rw [aB r,aB r];exact⟨_,rfl,_,_,rfl⟩
     ·rw [aA r,aA r];by_cases t:at_ s (i:Int)=44
      ·obtain⟨k,S⟩:=Qw s aA0 b i C w;rw [aB t,aB t,S,aY,bA aE4,bA (eT _ aA0 aA0),Ot];obtain⟨j,W,A⟩:=B (i+1) f (c++[(k,cH (sub s (b:Int) (i:Int)))]) (i+1) aA0 aA0 (eV _) v aB7;refine⟨j,W, ?_⟩;rw [tN]at A;cases J:fO 0 [] (s.drop (i+1))with
       |inr e=>rw [J]at A;exact A
       |inl l=>rw [J]at A;obtain⟨d,b',Q,P,O,N⟩:=A;refine⟨d,b',Q,P,O, ?_⟩;rw [N,Yo,jK,gJ];rfl
      ·rw [aA t,aA t,bA (eT _ aA0 aA0),Ot,<-u];exact B (i+1) f c b aA0 aA0 aA0 v aA0
  ·obtain rfl:i=aR s:=by omega
   rw [ark,akf,aA aA0,O4 (eV _),s0n];exact⟨_,rfl,c,b,rfl,aA0,I,rfl⟩
theorem OQ(s:aC)(m:aR s<=4194303):∃q a,avv FU s 44=some (q,a,(match fO 0 [] s with|.inl _=>0|.inr e=>e))/\(∀l,fO 0 [] s=.inl l->q.map (·.2)=l/\q.length<=aR s+1):=by
 obtain⟨j,o,b⟩:=VZ s m s.length 0 FU [] 0 aA0 aA6 (eV _) (dL _) (eV _);have c:aly FU s 44 FU [] (0:Int) (0:Int)=some j:=o;rw [tN,SR]at b;unfold avv;rw [vt,aY];have e:(bif cC 44 then some true else(if(44:UInt8)=(34:UInt8)then some true else(if(44:UInt8)=(60:UInt8)then some true else some (decide ((44:UInt8)=(62:UInt8))))))=some false:=aA1;rw [e,aY,aG,c,aY];cases d:fO 0 [] s with
 |inr e=>rw [d]at b;obtain⟨q,a,rfl⟩:=b;rw [Yd];exact⟨q,a,rfl,fun l h=>by cases h⟩
 |inl l=>rw [d]at b;obtain⟨f,b',rfl,i,p,g⟩:=b;obtain⟨k,n⟩:=Qw s aA0 b' s.length i (eV _);rw [pR];dsimp only;rw [n,aY,bA aE4];refine⟨_,_,rfl,fun l' h=> ?_⟩;have:=Sum.inl.inj h;subst this;rw [Yo,jK,g];exact⟨rfl,by rw [bM,eL];omega⟩
theorem A3(c:(dP×Int×UInt8))(k:aR c.1<=4194304)(q:dP):∀(p:dP) (b:Nat),c.1=p++q->aR q<b->
  ame FU c b (p.map (·.2)) (aR p:Int)=some (if(q.map (·.2)).any (fun x=>decide (x=[]))=true then .inr ([],5)else .inl (c.1.map (·.2))):=by
 induction q with
 |nil=>intro p b h f;obtain⟨b,rfl⟩:=dY b;rw [gA]at h;rw [axc,aoy,aA aE6,h];rfl
 |cons a q g=>
  intro p b h f;obtain⟨b,rfl⟩:=dY b;have i:=bD aR h;simp only [bM,bR]at i f;have e:(0:Int)<=(aR p:Int)/\(aR p:Int)<(aR c.1:Int):=aA0;have j:el c.1 (aR p:Int)=a:=aB4;rw [axc,aoy,aB e.2,bA e,bA e,j,vS,Ol];by_cases d:a.2=[]
  ·rw [aB d,aK d,lX,aB rfl]
  ·rw [aA d,aO d,eD,bA (by simp only [Hb,eL];omega),bA (eT _ aA0 aA0)];have:=g (p++[a]) b aA7 aA0;rw [Yo,jK]at this;rw [show((aR p:Int)+1)=((p++[a]).length:Int)by simp];exact this
theorem ZC(v:aC)(g:aR v<=4194303):avx FU v=some (pH v):=by
 obtain⟨q,a,j,i⟩:=OQ v g;unfold avx pH;rw [j,aY];have d:=WE v 0 [];cases f:fO 0 [] v with
 |inr e=>dsimp only;rw [aA (d e f)]
 |inl l=>
  obtain⟨h,k⟩:=i l f;dsimp only;have:=A3 (q,a,0) (by dsimp only;omega) q [] FU rfl aA6;have b:ame FU (q,a,0) FU [] (0:Int)=_:=this;rw [aB rfl,b,aY,h];by_cases c:l.any (fun x=>decide (x=[]))=true
  ·rw [aB c,aB c,Yd]
  ·rw [aA c,aA c,pR]
theorem OF(s:aC)(k:Nat)(c:k<=s.length):(kT s k).1.length<=s.length+252:=by
 unfold kT;split
 ·rename_i h;have:=xU s k (Nu h).2 (Nu h).1;omega
 ·split
  ·split
   ·have a:=uB (sub s (k:Int) (min ((k+dQ (fun b=> !(b==93)) (s.drop k):Nat)+1:Int) (s.length:Int)));rw [IJ]at a;dsimp only;omega
   ·exact dL _
  ·split
   ·exact dL _
   ·dsimp only;rw [IJ];omega
theorem HD(s:aC)(b:Nat):(wT s b).1.2.1.length<=s.length+252:=by
 unfold wT;split
 ·exact dL _
 ·split
  ·exact dL _
  ·split
   ·exact OF s _ (qA _ _ _)
   ·exact dL _
theorem AW(s:aC):∀(f:Nat) (l:List PP) (i:Nat),(∀p∈l,p.2.1.length<=s.length+252)->∀p∈(lP s f l i).1,p.2.1.length<=s.length+252
 |0,_,_,_=>by simp [lP]
 |f+1,l,i,h=>by
  rw [lP];split
  ·exact h
  ·split
   ·simp
   ·split
    ·split
     ·refine AW s f _ _ fun p a=> ?_;rcases aS.1 a with a|a
      ·exact h p a
      ·rw [aE.1 a];exact HD s _
     ·simp
    ·simp
theorem yN(s:aC):∀p∈(kV s).1,p.2.1.length<=s.length+252:=AW s _ [] 0 aA2
theorem DO(k:Int)(l:List PP)(T:aC):(hZ k l T).2.1.length<=T.length/\(hZ k l T).2.2.1.length<=T.length:=by
 have b:=Ai k (T.take (kG T));have a:=Ai k (T.drop (kG T+1));rw [kR]at b;rw [iX]at a;have c:(dH (qK k (T.take (kG T)))).length=(qK k (T.take (kG T))).length:=by unfold dH;rw [Hb]
 unfold hZ;split
 ·exact⟨dL _,dL _⟩
 ·split
  ·exact⟨dL _,dL _⟩
  ·split
   ·split
    ·exact⟨dL _,dL _⟩
    ·split
     ·exact⟨dL _,dL _⟩
     ·dsimp only;omega
   ·split
    ·exact⟨dL _,dL _⟩
    ·exact⟨by dsimp only;omega,dL _⟩
def iR(n:Nat)(l:List PP):Prop:=∀p∈l,p.1.length<=n/\p.2.1.length<=n
variable {n:Nat}
theorem iR.snoc(h:iR n l)(p:PP)(d:p.1.length<=n)(c:p.2.1.length<=n):iR n (l++[p]):=fun q b=>by
 rcases aS.1 b with a|a
 ·exact h q a
 ·rw [aE.1 a];exact⟨d,c⟩
theorem XY(st s:aC):∀(f i:Nat) (l:List PP),iR s.length l->iR s.length (qG st s f i l).2.2
 |0,i,l,h=>h
 |f+1,i,l,h=>by
  rw [qG];split
  ·split
   ·have:=DO 1 l (sub s ((i+1:Nat):Int) (cM st s (i+1):Int));have b:=sub_le s ((i+1:Nat):Int) (cM st s (i+1):Int);exact XY st s f _ _ (h.snoc _ aA0 aA0)
   ·intro p a;cases a
  ·exact h
theorem A7(s:aC):∀(f i:Nat) (l:List PP),iR s.length l->iR s.length (Gd s f i l).2
 |0,i,l,h=>h
 |f+1,i,l,h=>by
  rw [Gd];split
  ·split
   ·have:=DO 2 l (sub s ((i+1:Nat):Int) (cM [38] s (i+1):Int));have b:=sub_le s ((i+1:Nat):Int) (cM [38] s (i+1):Int);exact A7 s f _ _ (h.snoc _ aA0 aA0)
   ·intro p a;cases a
  ·exact h
def qY(n:Nat)(u:UU):Prop:=u.1.length<=n/\u.2.1.length<=n/\u.2.2.1.length<=n/\iR n u.2.2.2.2.1/\iR n u.2.2.2.2.2
theorem Yk(n:Nat):qY n rQ:=⟨dL _,dL _,dL _,(fun p a=>by cases a),(fun p a=>by cases a)⟩
theorem Lt(h:iR n l):iR n (dW l):=fun p a=>h p (vn l p a)
theorem yE(n:Nat)(st s b d h:aC)(c:Int)(i:Nat)(m:b.length<=n)(k:d.length<=n)(j:h.length<=n)(g:s.length<=n):qY n (mV st s b d h c i).2:=by
 have e:∀l,iR s.length l->iR n l:=fun l f p a=>⟨qN (f p a).1 g,qN (f p a).2 g⟩;unfold mV;split
 ·split
  ·exact⟨m,k,j,Lt (e _ (XY st s _ i [] (fun p a=>by cases a))),Lt (e _ (A7 s _ _ [] (fun p a=>by cases a)))⟩
  ·exact Yk n
 ·exact Yk n
theorem MF(s:aC)(i:Nat):(Oo s i).2.1.length<=s.length+252:=by
 have b:=uB (sub s (i:Int) (jR s i:Int));have a:=sub_le s (i:Int) (jR s i:Int);unfold Oo;split
 ·exact dL _
 ·split
  ·split
   ·dsimp only;omega
   ·exact dL _
  ·split
   ·exact dL _
   ·dsimp only;omega
theorem VG(U:aC):(Fs U).2.length<=U.length:=by
 have:=Ai 0 U;unfold Fs;split
 ·exact dL _
 ·split
  ·exact dL _
  ·exact this
theorem KZ(s:aC)(i:Nat):(wE s i).2.1.length<=s.length/\(wE s i).2.2.1.length<=s.length+252:=by
 have b:=MF s i;have a:=MF s (cM [64] s i+1);have d:=VG (sub s (i:Int) (cM [64] s i:Int));have c:=sub_le s (i:Int) (cM [64] s i:Int);unfold wE;split
 ·split
  ·exact⟨by dsimp only;omega,a⟩
  ·exact⟨dL _,dL _⟩
 ·exact⟨dL _,b⟩
theorem Zh(s:aC)(i:Nat):(qW s i).2.length<=31:=by
 unfold qW;split
 ·exact dL _
 ·split
  ·exact dL _
  ·split
   ·exact dL _
   ·dsimp only;split
    ·rw [bR];omega
    ·omega
theorem Qx(s:aC):qY 1300 (Tl s).2:=by
 unfold Tl;split
 ·exact Yk _
 ·have c:(dH (s.take (cM [58] s 0))).length<=s.length:=by unfold dH;rw [Hb,kR];omega
  have b:=KZ s (cM [58] s 0+1);have a:=Zh s (cM [58] s 0+1);split
  ·split
   ·split
    ·exact yE 1300 _ s _ _ _ _ _ aA0 aA0 aA0 aA0
    ·exact Yk _
   ·split
    ·split
     ·exact yE 1300 _ s _ _ _ _ _ aA0 aA0 (dL _) aA0
     ·exact Yk _
    ·exact Yk _
  ·exact Yk _
variable {u:UU}
theorem qY.sml(h:qY n u)(a:n<=4194304):Sml u:=
 ⟨qN h.1 a,qN h.2.1 a,qN h.2.2.1 a,fun p b=>⟨qN (h.2.2.2.1 p b).1 a,qN (h.2.2.2.1 p b).2 a⟩,fun p b=>⟨qN (h.2.2.2.2 p b).1 a,qN (h.2.2.2.2 p b).2 a⟩⟩
theorem U5(u:UU)(b:Good u)(i:Sml u):(tT u).length<=2000000000:=by
 obtain⟨n,m,l,f,e⟩:=i;have p:=Co _ f;have o:=DA _ e;have j:=b.pl;have k:=b.hl;have g:=FL 0 u.2.1;have a:0<=u.2.2.2.1/\u.2.2.2.1<=65535:=by
  rcases b.S5 with⟨_,_,d,c,_⟩|⟨_,_,h,_⟩
  ·exact⟨d,c⟩
  ·omega
 have hit:=alt u.2.2.2.1 a.1 a.2;have d:(Yg u).length<=12582913:=by
  unfold Yg;split
  ·omega
  ·split
   ·exact dL _
   ·rw [bM,eL];omega
 have c:(uK u.2.2.2.1).length<=6:=by
  unfold uK;split
  ·exact dL _
  ·rw [bR];omega
 unfold tT;simp only [bM,bR];omega
theorem Kq(s:aC):∀(f i:Nat) (a:List aC),i<=s.length->a.length<=i->(∀x∈a,x.length<=s.length)->(uS s f i a).2.2.length<=s.length/\∀x∈(uS s f i a).2.2,x.length<=s.length
 |0,_,_,_,_,_=>⟨dL _,fun x hx=>by cases hx⟩
 |f+1,i,a,c,d,hx=>by
  have k:=Xt cB s i c;have g:=qA cB s (i:Int);have j:=Xt cC s (cD cB s (i:Int)) g;rw [uS];split
  ·exact⟨qN d c,hx⟩
  ·split
   ·exact⟨dL _,fun x hx=>by cases hx⟩
   ·rename_i e;refine Kq s f _ _ (qA _ _ _) aB7 (fun x b=> ?_);rcases aS.1 b with h|h
    ·exact hx x h
    ·rw [aE.1 h];exact sub_le _ _ _
theorem F1(s:aC)(c:s.length<=1024)(i:Nat)(e:i<=s.length):(Ao s i).2.1.length<=1100000:=by
 unfold Ao;split
 ·rename_i h;have:=xU s i (Nu h).2 (Nu h).1;split
  ·split
   ·dsimp only;omega
   ·exact dL _
  ·exact dL _
 ·split
  ·obtain⟨a,b⟩:=Kq s (s.length+1) i [] e (dL _) (fun x hx=>by cases hx);have d:=N1 [32] s.length _ b;rw [eL]at d;refine qN d ?_;refine qN (Nat.mul_le_mul (qN a c) (Nat.succ_le_succ c)) aA1
  ·exact dL _
theorem dv(s:aC):qY 1300 (iA s).2.2.1/\(iA s).2.1.length<=1100000/\iR 1300 (iA s).2.2.2:=by
 have a:qY 1300 Ph.2.1/\Ph.1.length<=1100000/\iR 1300 Ph.2.2:=⟨Yk _,dL _,fun p b=>by cases b⟩;unfold iA;split
 ·exact a
 ·rename_i c;split
  ·split
   ·split
    ·refine⟨?_,F1 s aA0 _ (qA _ _ _), ?_⟩
     ·show qY 1300 (kA s (Ao s (cD cC s 0)).2.2).2.1;generalize(Ao s (cD cC s 0)).2.2=j;unfold kA;split
      ·split
       ·exact Yk _
       ·exact Qx _
      ·split
       ·exact Yk _
       ·exact Qx _
     ·intro p b;dsimp only at b;have d:(s.drop (kA s (Ao s (cD cC s 0)).2.2).2.2).length<=1024:=by rw [iX];omega
      have f:=vu _ aA0 p b;have e:=yN _ p b;exact⟨aA0,aA0⟩
    ·exact a
   ·exact a
  ·exact a
theorem Q5(n:Nat):∀(l:aC) (k:Nat) (a:aC),l.length<=n->0<=(fT l k a).2.1/\(fT l k a).2.1<=((k+l.length:Nat):Int):=by
 induction n with
 |zero=>intro l k a h;have:l=[]:=Fp aA0;subst this;unfold fT;exact⟨by dsimp only;omega,by dsimp only;omega⟩
 |succ n b=>
  intro l k a h;cases l with
  |nil=>unfold fT;exact⟨by dsimp only;omega,by dsimp only;omega⟩
  |cons c l=>
   rw [bR]at h⊢;rw [ua];split
   ·exact⟨by dsimp only;omega,by dsimp only;omega⟩
   ·split
    ·split
     ·exact⟨by dsimp only;omega,by dsimp only;omega⟩
     ·split
      ·have e:(l.drop 1).length=l.length-1:=iX;have:=b (l.drop 1) (k+2) (a++[at_ l 0]) aA0;have d:l≠[]:=by assumption
       have:=bK.2 d;omega
      ·exact⟨by dsimp only;omega,by dsimp only;omega⟩
    ·split
     ·exact⟨by dsimp only;omega,by dsimp only;omega⟩
     ·have:=b l (k+1) (a++[c]) aA0;omega
theorem VI(s:aC)(k:Nat)(c:k<=s.length):0<=(Nj s (k:Int)).2.1/\(Nj s (k:Int)).2.1<=(s.length:Int):=by
 unfold Nj;split
 ·exact⟨by dsimp only;omega,by dsimp only;omega⟩
 ·split
  ·exact⟨by dsimp only;omega,by dsimp only;omega⟩
  ·rename_i h;have a:¬(k:Int)=(s.length:Int):=fun e=>h (.inl e);have b:(s.drop (aZ (k:Int)+1)).length=s.length-(k+1):=by rw [iY,iX]
   have:=Q5 _ (s.drop (aZ (k:Int)+1)) (aZ (k:Int)+1) [] (eV _);rw [iY]at this b⊢;omega
theorem Q2(s:aC)(k:Nat)(c:k<=s.length):0<=(kT s k).2.1/\(kT s k).2.1<=(s.length:Int)+1:=by
 have d:=qA cB s (k:Int);have a:=FN (fun b=> !(b==93)) (s.drop k);rw [iX]at a;unfold kT;split
 ·have:=VI s k c;omega
 ·split
  ·split
   ·exact⟨by dsimp only;omega,by dsimp only;omega⟩
   ·exact⟨by dsimp only;omega,by dsimp only;omega⟩
  ·split
   ·exact⟨by dsimp only;omega,by dsimp only;omega⟩
   ·exact⟨by dsimp only;omega,by dsimp only;omega⟩
theorem ZD(s:aC)(b:Nat)(a:b<=s.length):0<=(wT s b).2.1/\(wT s b).2.1<=(s.length:Int)+1:=by
 unfold wT;split
 ·exact⟨by dsimp only;omega,by dsimp only;omega⟩
 ·split
  ·exact⟨by dsimp only;omega,by dsimp only;omega⟩
  ·split
   ·exact⟨by dsimp only;omega,by dsimp only;omega⟩
   ·exact Q2 s _ (qA _ _ _)
theorem LB(s:aC):∀(f:Nat) (l:List PP) (i:Nat),0<=(lP s f l i).2.1/\(lP s f l i).2.1<=(s.length:Int)+1
 |0,_,_=>⟨by unfold lP;decide,by unfold lP;dsimp only;omega⟩
 |f+1,l,i=>by
  have b:=qA cC s (i:Int);have a:=qA cC s ((cD cC s (i:Int)+1:Nat):Int);rw [lP];split
  ·exact⟨by dsimp only;omega,by dsimp only;omega⟩
  ·split
   ·exact⟨by dsimp only;omega,by dsimp only;omega⟩
   ·split
    ·split
     ·exact LB s f _ _
     ·exact⟨by dsimp only;omega,by dsimp only;omega⟩
    ·exact ZD s _ a
theorem U9(s:aC)(a:s.length<=4194304):0<=(kV s).2.1/\(kV s).2.1<=(s.length:Int)+1:=LB s _ _ _
theorem W2(s:aC)(y:s.length<=1024)(x:AA)(n:Nat):∀(i d f:Nat) (b:List aC),s.length-i<=n->n<d->n<f->i<=s.length->b.length<=i->
  ∃j,aes FU x d b s (i:Int)=some j/\
   ((uS s f i b).1=0->j=.inl ((uS s f i b).2.2,s,((uS s f i b).2.1:Int)))/\(¬(uS s f i b).1=0->∃a c w,j=.inr (a,(uS s f i b).1,c,w)):=by
 induction n with
 |zero=>
  intro i d f b u v o k t;obtain⟨d,rfl⟩:=dY d;obtain⟨f,rfl⟩:∃m,f=m+1:=⟨f-1,aA0⟩;obtain rfl:i=s.length:=aA0;have l:fJ s s.length 60=false:=by unfold fJ;rw [aO aA0];rfl
  have e:cD cB s (s.length:Int)=s.length:=Qr _ _;rw [ald,aen,FM,aY,l,xI,aL,tM s aA0 _ (eV _),aY,e,tN,aB rfl];have g:uS s (f+1) s.length b=(5,0,[]):=by rw [uS,l,aA aA1,aB e]
  rw [g];exact⟨_,rfl,fun h=>absurd h (show¬(5:UInt8)=0 by decide),fun _=>⟨_,_,_,rfl⟩⟩
 |succ n r=>
  intro i d f b u v o k t;obtain⟨d,rfl⟩:=dY d;obtain⟨f,rfl⟩:∃m,f=m+1:=⟨f-1,aA0⟩;have q:=Xt cB s i k;have p:=qA cB s (i:Int);have z:=Xt cC s (cD cB s (i:Int)) p;rw [ald,aen,FM,aY];cases l:fJ s i 60 with
  |true=>
   have g:uS s (f+1) i b=(0,i,b):=by rw [uS,l,aB rfl]
   rw [g,jM,aG];exact⟨_,rfl,fun _=>rfl,fun h=>absurd rfl h⟩
  |false=>
   rw [xI,aL,tM s aA0 i k,aY];dsimp only;by_cases e:cD cB s (i:Int)=i
   ·have g:uS s (f+1) i b=(5,0,[]):=by rw [uS,l,aA aA1,aB e]
    rw [aB ((vx s i _ p q).2 e),g];exact⟨_,rfl,fun h=>absurd h (show¬(5:UInt8)=0 by decide),fun _=>⟨_,_,_,rfl⟩⟩
   ·have g:uS s (f+1) i b=uS s f (cD cC s ((cD cB s (i:Int):Nat):Int)) (b++[sub s (i:Int) ((cD cB s (i:Int):Nat):Int)]):=by rw [uS,l,aA aA1,aA e]
    rw [aA (fun h=>e ((vx s i _ p q).1 h)),bA aE4,jt s aA0,aY,g];exact r _ d f _ aA0 aA0 aA0 (qA _ _ _) aB7
theorem PJ(s:aC)(f:s.length<=1024)(i:Nat)(g:i<=s.length):∃a c w,ya FU (s,(i:Int)) ([],rQ,[])=some (a,(uS s (s.length+1) i []).1,c,w)/\
  ((uS s (s.length+1) i []).1=0->c=(s,((uS s (s.length+1) i []).2.1:Int))/\w=(dA (uS s (s.length+1) i []).2.2 [32],rQ,[])):=by
 obtain⟨j,e,n,m⟩:=W2 s f ([],rQ,[]) s.length i FU (s.length+1) [] aA0 aA6 aA0 g (dL _);unfold ya;rw [show(s,(i:Int)).1=s from rfl,show(s,(i:Int)).2=(i:Int)from rfl,e,aY];by_cases d:(uS s (s.length+1) i []).1=0
 ·rw [n d,pR];obtain⟨a,b⟩:=Kq s (s.length+1) i [] g (dL _) (fun x hx=>by cases hx);have l:=N1 [32] s.length _ b;rw [eL]at l;have k:(uS s (s.length+1) i []).2.2.length*(s.length+1)<=1024*1025:=Nat.mul_le_mul (qN a f) (Nat.succ_le_succ f);dsimp only;rw [bA (by constructor<;>omega),d];exact⟨_,_,_,rfl,fun _=>⟨rfl,rfl⟩⟩
 ·obtain⟨a,c,w,o⟩:=m d;rw [o,Yd];exact⟨_,_,_,rfl,fun h=>absurd h d⟩
theorem mg(s:aC)(z:s.length<=1024)(i:Nat)(p:i<=s.length)(d:aC):∃a c w,agl FU (s,(i:Int)) (d,rQ,[])=some (a,(kA s i).1,c,w)/\((kA s i).1=0->c=(s,((kA s i).2.2:Int))/\w=(d,(kA s i).2.1,[])/\(kA s i).2.2<=s.length):=by
 have n:∀(b e k:Nat),b<=e->e<=s.length->k<=s.length->k<=1025->∃a c w,(gd (0<=(b:Int)/\(b:Int)<=(e:Int)/\(e:Int)<=(s.length:Int))<|((apq FU (sub s (b:Int) (e:Int))).bind fun(f:UU×Int×UInt8)=>(if f.2.2=(0:UInt8)then some ((0:Int),(0:UInt8),(s,(k:Int)),(d,f.1,([]:List PP)))else(gd (bZ ((b:Int)+f.2.1))<|some ((b:Int)+f.2.1,f.2.2,(s,(i:Int)),(d,rQ,([]:List PP)))))))=some (a,(Tl (sub s (b:Int) (e:Int))).1,c,w)/\((Tl (sub s (b:Int) (e:Int))).1=0->c=(s,(k:Int))/\w=(d,(Tl (sub s (b:Int) (e:Int))).2,[])/\k<=s.length):=by
  intro b e k A l u t;obtain⟨a,x,v,y⟩:=YE (sub s (b:Int) (e:Int));have r:=sub_le s (b:Int) (e:Int);rw [bA aA0,y,aY];dsimp only;by_cases o:(Tl (sub s (b:Int) (e:Int))).1=0
  ·rw [aB o,o];exact⟨_,_,_,rfl,fun _=>⟨rfl,rfl,u⟩⟩
  ·rw [aA o,bA (eT _ aA0 aA0)];exact⟨_,_,_,rfl,fun h=>absurd h o⟩
 unfold agl kA;rw [FM,aY];dsimp only;cases q:fJ s i 60 with
 |true=>
  have m:=(Nu q).1;have j:=jZ [62] s (i+1);have g:=NG [62] s (i+1) m;rw [aL,aB rfl,bA (eT _ aA0 aA0),Ot,di s aA0 (i+1) m _ aA1 aA1,aY];by_cases l:cM [62] s (i+1)=s.length
  ·rw [aB aA0,aB l,aY,Yd];exact⟨_,_,_,rfl,fun h=>absurd h (show¬(5:UInt8)=0 by decide)⟩
  ·rw [aA aA0,aA l,bA (eT _ aA0 aA0),aY,pR];exact n (i+1) (cM [62] s (i+1)) (cM [62] s (i+1)+1) j g aA0 aA0
 |false=>
  have j:=jZ [59,32,9] s i;have g:=NG [59,32,9] s i p;rw [aG,aA aA1,di s aA0 i p _ aA1 aA1,aY,di s aA0 i p _ aA1 aA1,aY];by_cases l:cM [63,44] s i<cM [59,32,9] s i
  ·rw [aB aA0,aB l,aY,Yd];exact⟨_,_,_,rfl,fun h=>absurd h (show¬(5:UInt8)=0 by decide)⟩
  ·rw [aA aA0,aA l,aY,pR];exact n i (cM [59,32,9] s i) (cM [59,32,9] s i) j g g aA0
theorem IA(s:aC):Lib.contains s [60]=jO s 60:=pD s 60
theorem Vw(s:aC):∃a,ajs FU s=some ((iA s).2,a,(iA s).1):=by
 unfold ajs iA;by_cases r:1024<s.length
 ·rw [aB aA0,aB r];exact⟨_,rfl⟩
 ·rw [aA aA0,aA r,jt s aA0,aY];have m:=qA cC s 0;generalize cD cC s 0=b at m⊢;have j:∃a c w,((((Gp FU (s,(b:Int)) (34:UInt8)).bind fun(l:Bool)=>(bif l then((agm FU (s,(b:Int)) (([]:aC),(([]:aC),([]:aC),([]:aC),(0:Int),([]:List PP),([]:List PP)),([]:List PP))).bind fun(f:(Int×UInt8×(aC×Int)×AA))=>some (f.1,f.2.1,f.2.2.1.1,f.2.2.1.2,f.2.2.2.1,f.2.2.2.2.1.1,f.2.2.2.2.1.2.1,f.2.2.2.2.1.2.2.1,f.2.2.2.2.1.2.2.2.1,f.2.2.2.2.1.2.2.2.2.1,f.2.2.2.2.1.2.2.2.2.2,f.2.2.2.2.2))else(gd (s.length<=1000000000)<|(bif (Lib.contains s ([60]:aC))then((ya FU (s,(b:Int)) (([]:aC),(([]:aC),([]:aC),([]:aC),(0:Int),([]:List PP),([]:List PP)),([]:List PP))).bind fun(d:(Int×UInt8×(aC×Int)×AA))=>some (d.1,d.2.1,d.2.2.1.1,d.2.2.1.2,d.2.2.2.1,d.2.2.2.2.1.1,d.2.2.2.2.1.2.1,d.2.2.2.2.1.2.2.1,d.2.2.2.2.1.2.2.2.1,d.2.2.2.2.1.2.2.2.2.1,d.2.2.2.2.1.2.2.2.2.2,d.2.2.2.2.2))else some ((0:Int),(0:UInt8),s,(b:Int),([]:aC),([]:aC),([]:aC),([]:aC),(0:Int),([]:List PP),([]:List PP),([]:List PP))))))):Option (Int×UInt8×aC×Int×aC×aC×aC×aC×Int×(List PP)×(List PP)×(List PP)))
    =some (a,(Ao s b).1,c,w)/\((Ao s b).1=0->c=s/\w=(((Ao s b).2.2:Int),(Ao s b).2.1,[],[],[],0,[],[],[])):=by
   have i:=DZ s b m;rw [FM,aY];unfold Ao at i⊢;cases v:fJ s b 34 with
   |true=>
    rw [v,aB rfl]at i;rw [aL,aB rfl];unfold agm;dsimp only;rw [vZ s aA0,aY];by_cases g:(Nj s (b:Int)).2.2=0
    ·rw [aB g]at i;rw [aB g,aB g,jt s aA0,aY,FM,aY];cases p:fJ s (cD cC s (Nj s (b:Int)).2.1) 60 with
     |true=>rw [jM,aG,aY,aB rfl];exact⟨_,_,_,rfl,fun _=>⟨rfl,rfl⟩⟩
     |false=>rw [xI,aL,aY,aA aA1];exact⟨_,_,_,rfl,fun h=>absurd h (show¬(5:UInt8)=0 by decide)⟩
    ·rw [aA g,aA g,aY];exact⟨_,_,_,rfl,fun h=>absurd h g⟩
   |false=>
    rw [aG,aA aA1,bA aA0,IA];cases p:jO s 60 with
    |true=>obtain⟨a,c,w,e,h⟩:=PJ s aA0 b m;rw [aL,aB rfl];have e':ya FU (s,(b:Int)) (([]:aC),(([]:aC),([]:aC),([]:aC),(0:Int),([]:List PP),([]:List PP)),([]:List PP))=some (a,(uS s (s.length+1) b []).1,c,w):=e;rw [e',aY];refine⟨_,_,_,rfl,fun g=> ?_⟩;obtain⟨rfl,rfl⟩:=h g;exact⟨rfl,rfl⟩
    |false=>rw [aG,aA aA1];exact⟨_,_,_,rfl,fun _=>⟨rfl,rfl⟩⟩
  obtain⟨a,c,w,e,h⟩:=j;have i:=DZ s b m;dsimp only;rw [e,aY];dsimp only;generalize Ao s b=D at h i⊢;by_cases g:D.1=0
  ·obtain⟨rfl,rfl⟩:=h g;rw [aB g,aB g];obtain⟨A,z,u,y,t⟩:=mg c aA0 D.2.2 i D.2.1;have q:agl FU (c,(D.2.2:Int)) (D.2.1,(([]:aC),([]:aC),([]:aC),(0:Int),([]:List PP),([]:List PP)),([]:List PP))=some (A,(kA c D.2.2).1,z,u):=y;rw [q,aY,aY];dsimp only;generalize kA c D.2.2=G at t⊢;by_cases k:G.1=0
   ·obtain⟨rfl,rfl,B⟩:=t k;rw [aB k,aB k];dsimp only;obtain⟨x,o⟩:=U9 (c.drop G.2.2) aB9;rw [bA aA0,iY,Cq _ aB9,aY,bA (eT _ aA0 (by rw [iX]at o;omega)),aY];dsimp only;by_cases n:(kV (c.drop G.2.2)).2.2=0
    ·rw [aB n,aB n];exact⟨_,rfl⟩
    ·rw [aA n,aA n];exact⟨_,rfl⟩
   ·rw [aA k,aA k,aY];dsimp only;rw [aA k];exact⟨_,rfl⟩
  ·rw [aA g,aA g,aY];dsimp only;rw [aA g,aY];dsimp only;rw [aA g];exact⟨_,rfl⟩
theorem Vk(a:AA)(g:Good a.2.1)(f:Sml a.2.1)(o:a.1.length<=4194304)(n:a.2.2.length<20)(q:∀p∈a.2.2,p.1.length<=4194304/\p.2.1.length<=4194304):ajr FU a=some (vC a):=by
 have c:∀p∈dW a.2.2,p.1.length<=4194304/\p.2.1.length<=4194304:=fun p m=>q p (vn _ p m);have j:=U5 a.2.1 g f;have l:=Vn (dW a.2.2) c;have k:=rH a.1;unfold ajr vC;rw [Jt _ o,aY];cases i:a.1.any eW with
 |true=>
  have e:AM a.1=([],5):=by unfold AM;rw [i,aB rfl]
  rw [e,aA (show¬(5:UInt8)=0 by decide),aA (show¬(true=false/\(iP (dW a.2.2)).2=0)from fun h=>absurd h.1 aA1)]
 |false=>
  have e:AM a.1=(jA a.1,0):=by unfold AM;rw [i,aA aA1]
  rw [e,aB rfl,XS _ g f,aY,aB rfl,pJ _ n,aY,axy _ c,aY];dsimp only;by_cases d:(iP (dW a.2.2)).2=0
  ·rw [aB d,aB (show false=false/\(iP (dW a.2.2)).2=0 from⟨rfl,d⟩)];unfold Pr;by_cases b:a.1=[]
   ·rw [aB b,aB b,bA aE4,bA aA8,bA aA8];simp
   ·have r:([32,60]:aC).length=2:=rfl;rw [aA b,aA b,bA aA0,bA aC2,bA aA8,bA aA8];simp
  ·rw [aA d,aA (show¬(false=false/\(iP (dW a.2.2)).2=0)from fun h=>d h.2)]
theorem A9(v:aC)(b:v.length<=4194304):aqy FU v=some ((iA (cH v)).2,(iA (cH v)).1):=by obtain⟨a,e⟩:=Vw (cH v);unfold aqy;rw [mA v b,aY,e,aY]
open Go.Lib renaming indexAny → Bk
theorem yV(s:aC)(f:s.length<=4194304):amc FU s=some (uT s):=by
 have a:Bk s [32,9]=dT cC s:=by rw [wa,uF]
 unfold amc uT;rw [bA ⟨aA0,aA1,aA1⟩,a];have e:(if dT cC s<(0:Int)then some (s.length:Int)else some (dT cC s))=some ((dQ (fun c=> !cC c) s:Nat):Int):=by
  rcases dh cC s with⟨i,b⟩|⟨i,b,h⟩
  ·rw [aB aA0,b]
  ·rw [aA aA0,h]
 have d:=FN (fun c=> !cC c) s;have g:=qA cC s ((dQ (fun c=> !cC c) s:Nat):Int);rw [e,aY,bA aA0,iY,tV,aY,nT s f,aY,bA aA0,iY]
theorem tU(s:aC):(uT s).2.1.length<=s.length:=by unfold uT;rw [iX];omega
theorem EI(v:aC)(a:v.length<=4194304):atd FU v=some (An v):=by
 have b:=NQ v;have c:=tU (cH v);unfold atd An;rw [mA v a,aY,yV _ aA0,aY];by_cases h:(uT (cH v)).2.2=0
 ·rw [aB h,aB h,js _ aA0,aY];cases d:eY (uT (cH v)).2.1 with
  |true=>rw [jM,aG,aB rfl]
  |false=>rw [xI,aL,aA aA1]
 ·rw [aA h,aA h]
theorem XH(v:aC)(b:v.length<=4194304):avw FU v=some (Bi v):=by
 have c:=NQ v;have d:=tU (cH v);unfold avw Bi;rw [mA v b,aY,yV _ aA0,aY];by_cases h:(uT (cH v)).2.2=0
 ·rw [aB h,aB h,EI _ aA0,aY];by_cases a:(An (uT (cH v)).2.1).2.2=0
  ·rw [aB a,aB a]
  ·rw [aA a,aA a]
 ·rw [aA h,aA h]
theorem A2(v:aC)(a:v.length<=4194304):atc FU v=some (gX (cH v)):=by unfold atc;rw [mA v a,aY,tV,aY]
open Go.Lib renaming itoa → dO, join → dA
open List renaming length → aR, set → jV
def Nh(c:aC):Int:=(ka FU c).getD 0
theorem Y6:∀x∈Gn,ka FU x.1=some (Nh x.1):=aA3
theorem QF:∀x∈Gn,Kt x.1=true->Nh x.1=1\/Nh x.1=2\/Nh x.1=6\/Nh x.1=7:=aA3
theorem Y7(c:aC):ka FU c=some (Nh c):=by
 by_cases h:∃x∈Gn,x.1=c
 ·obtain⟨x,hx,rfl⟩:=h;exact Y6 x hx
 ·have a:∀x∈Gn,x.1≠c:=fun x hx e=>h ⟨x,hx,e⟩;have:=BZ c a;unfold Nh;rw [this];rfl
theorem Rr(c:aC)(h:Kt c=true):BH (Nh c):=by
 by_cases hx:∃x∈Gn,x.1=c
 ·obtain⟨x,hx,rfl⟩:=hx;exact QF x hx h
 ·have b:∀x∈Gn,x.1≠c:=fun x a e=>hx ⟨x,a,e⟩;have:=BG c b;rw [LH,h]at this;cases this
theorem Uj(n:Nat):∀l:List PP,iR n l->Ox l<=aR l*(2*n)
 |[],_=>dL _
 |p::l,h=>by have c:=h p fQ;have b:=Uj n l (fun q a=>h q (fB _ a));rw [mS,bR,lK];omega
theorem Qy(n:Nat):∀l:List PP,iR n l->(oC l).length<=aR l*(6*n+2)
 |[],_=>dL _
 |p::l,h=>by
  have e:=h p fQ;have d:=Qy n l (fun q a=>h q (fB _ a));have g:=FL 1 p.1;have f:=FL 1 p.2.1;have b:oC (p::l)=59::(jB p++oC l):=by unfold oC;rw [kS];rfl
  have c:(jB p).length<=6*n+1:=by
   unfold jB;rw [bM];cases p.2.2 with
   |true=>rw [aL,bR];omega
   |false=>rw [aG,eO];omega
  rw [b,bR,bM,bR,lK];omega
theorem CX(n:Nat):∀l:List PP,iR n l->(fW l).length<=aR l*(6*n+2)
 |[],_=>dL _
 |p::l,h=>by
  have e:=h p fQ;have d:=CX n l (fun q a=>h q (fB _ a));have g:=FL 2 p.1;have f:=FL 2 p.2.1;have b:fW (p::l)=38::(iI p++fW l):=aD2;have c:(iI p).length<=6*n+1:=by unfold iI;rw [bM,bR];omega
  rw [b,bR,bM,bR,lK];omega
theorem QQ(n:Nat)(l:List PP)(h:iR n l):(kC l).length<=aR l*(6*n+2):=by
 have:=CX n l h;cases l with
 |nil=>exact dL _
 |cons p l=>have a:fW (p::l)=38::(iI p++fW l):=aD2;rw [a]at this;unfold kC;exact this
theorem XT(n:Nat)(u:UU)(b:Good u)(h:qY n u):(tT u).length<=197*n+80:=by
 obtain⟨k,j,i,f,e⟩:=h;have p:=Qy n _ f;have o:=QQ n _ e;have g:=FL 0 u.2.1;have a:0<=u.2.2.2.1/\u.2.2.2.1<=65535:=by
  rcases b.S5 with⟨_,_,d,c,_⟩|⟨_,_,h,_⟩
  ·exact⟨d,c⟩
  ·omega
 have hit:=alt u.2.2.2.1 a.1 a.2;have m:aR u.2.2.2.2.1*(6*n+2)<=16*(6*n+2):=TO _ b.pl;have l:aR u.2.2.2.2.2*(6*n+2)<=16*(6*n+2):=TO _ b.hl;have d:(Yg u).length<=3*n+1:=by
  unfold Yg;split
  ·omega
  ·split
   ·exact dL _
   ·rw [bM,eL];omega
 have c:(uK u.2.2.2.1).length<=6:=by
  unfold uK;split
  ·exact dL _
  ·rw [bR];omega
 unfold tT;simp only [bM,bR];omega
theorem Kb(s:aC):qY (aR s+252) (Tl s).2:=by
 unfold Tl;split
 ·exact Yk _
 ·have c:(dH (s.take (cM [58] s 0))).length<=aR s:=by unfold dH;rw [Hb,kR];omega
  have b:=KZ s (cM [58] s 0+1);have a:=Zh s (cM [58] s 0+1);split
  ·split
   ·split
    ·exact yE _ _ s _ _ _ _ _ aA0 aA0 aA0 aA0
    ·exact Yk _
   ·split
    ·split
     ·exact yE _ _ s _ _ _ _ _ aA0 aA0 (dL _) aA0
     ·exact Yk _
    ·exact Yk _
  ·exact Yk _
theorem qY.mono{n m:Nat}(h:qY n u)(a:n<=m):qY m u:=
 ⟨qN h.1 a,qN h.2.1 a,qN h.2.2.1 a,fun p b=>⟨qN (h.2.2.2.1 p b).1 a,qN (h.2.2.2.1 p b).2 a⟩,fun p b=>⟨qN (h.2.2.2.2 p b).1 a,qN (h.2.2.2.2 p b).2 a⟩⟩
theorem Kp(s:aC):∀(f i:Nat) (a:List aC),i<=aR s->(dA a [32]).length<=2*i->(dA (uS s f i a).2.2 [32]).length<=2*aR s
 |0,_,_,_,_=>dL _
 |f+1,i,a,d,g=>by
  have j:=Xt cB s i d;have e:=qA cB s (i:Int);have h:=Xt cC s (cD cB s (i:Int)) e;rw [uS];split
  ·dsimp only;omega
  ·split
   ·exact dL _
   ·rename_i c;have b:(sub s (i:Int) ((cD cB s (i:Int):Nat):Int)).length=cD cB s (i:Int)-i:=by rw [IJ];omega
    refine Kp s f _ _ (qA _ _ _) ?_;rw [CD];split
    ·omega
    ·rw [bM,bM,eL];omega
theorem RJ(s:aC)(i:Nat)(a:i<=aR s):(Ao s i).2.1.length<=2*aR s:=by
 unfold Ao;split
 ·rename_i h;have:=xU s i (Nu h).2 (Nu h).1;split
  ·split
   ·dsimp only;omega
   ·exact dL _
  ·exact dL _
 ·split
  ·exact Kp s (aR s+1) i [] a (dL _)
  ·exact dL _
theorem K1(s:aC):qY (aR s+252) (iA s).2.2.1/\(iA s).2.1.length<=2*aR s/\iR (aR s+252) (iA s).2.2.2:=by
 have a:qY (aR s+252) Ph.2.1/\Ph.1.length<=2*aR s/\iR (aR s+252) Ph.2.2:=⟨Yk _,dL _,fun p b=>by cases b⟩;unfold iA;split
 ·exact a
 ·rename_i c;split
  ·split
   ·split
    ·refine⟨?_,RJ s _ (qA _ _ _), ?_⟩
     ·show qY (aR s+252) (kA s (Ao s (cD cC s 0)).2.2).2.1;generalize(Ao s (cD cC s 0)).2.2=j;unfold kA;split
      ·split
       ·exact Yk _
       ·exact(Kb _).mono (by have:=sub_le s ((j+1:Nat):Int) (cM [62] s (j+1):Int);omega)
      ·split
       ·exact Yk _
       ·exact(Kb _).mono (by have:=sub_le s (j:Int) (cM [59,32,9] s j:Int);omega)
     ·intro p b;dsimp only at b;have d:(s.drop (kA s (Ao s (cD cC s 0)).2.2).2.2).length<=aR s:=by rw [iX];omega
      have f:=vu _ aA0 p b;have e:=yN _ p b;exact⟨aA0,aA0⟩
    ·exact a
   ·exact a
  ·exact a
theorem U6(n:Nat)(a:AA)(b:Good a.2.1)(e:qY n a.2.1)(f:aR a.1<=2*n)(d:iR n a.2.2)(c:aR a.2.2<=16):(vC a).1.length<=265*n+200:=by
 have m:=XT n a.2.1 b e;have l:=rH a.1;have k:=Jx (dW a.2.2);have j:=Jb (SB a.2.2);have i:=Uj n a.2.2 d;have h:aR a.2.2*(2*n)<=16*(2*n):=TO _ c;have g:(Pr a.1).length<=4*n+3:=by
  unfold Pr;split
  ·exact dL _
  ·rw [bM,eL];omega
 unfold vC;split
 ·simp only [bM,bR];omega
 ·exact dL _
theorem VA(v:aC)(q:aR v<=4194304):(lO v).1.1.length<=aR v/\(lO v).1.2.1.length<=aR v+252/\(lO v).1.2.2.2.1.length<=aR v+252/\iR (aR v+252) (lO v).1.2.2.2.2:=by
 have e:aR vU.1<=aR v/\vU.2.1.length<=aR v+252/\vU.2.2.2.1.length<=aR v+252/\iR (aR v+252) vU.2.2.2.2:=⟨dL _,dL _,dL _,fun p g=>by cases g⟩
 have r:=NQ v;have l:∀(f h:aC) (d:Int) (c:aC),aR f<=aR v->aR h<=aR v+252->aR c<=aR v->(Bu f h d c).1.1.length<=aR v/\(Bu f h d c).1.2.1.length<=aR v+252/\(Bu f h d c).1.2.2.2.1.length<=aR v+252/\iR (aR v+252) (Bu f h d c).1.2.2.2.2:=by
  intro f h d c o n w;have j:iR (aR v+252) (kV c).1:=fun p g=>by have a:=vu c aA0 p g;have b:=yN c p g;exact⟨aA0,aA0⟩
  unfold Bu;split
  ·refine⟨o,n, ?_,j⟩;dsimp only;unfold wN;split
   ·rename_i p g;exact(j p (Qf g)).2
   ·exact dL _
  ·exact e
 unfold lO;split
 ·exact e
 ·split
  ·exact e
  ·split
   ·exact e
   ·split
    ·exact e
    ·have i:(jH (sub (cH v) 8 (cD cB (cH v) 8:Int))).length<=aR v:=by have:=sub_le (cH v) 8 (cD cB (cH v) 8:Int);rw [vY];omega
     have m:∀P c:aC,aR P<=aR v->aR c<=aR v->(Ua (jH (sub (cH v) 8 (cD cB (cH v) 8:Int))) P c).1.1.length<=aR v/\(Ua (jH (sub (cH v) 8 (cD cB (cH v) 8:Int))) P c).1.2.1.length<=aR v+252/\(Ua (jH (sub (cH v) 8 (cD cB (cH v) 8:Int))) P c).1.2.2.2.1.length<=aR v+252/\iR (aR v+252) (Ua (jH (sub (cH v) 8 (cD cB (cH v) 8:Int))) P c).1.2.2.2.2:=by
      intro P c u k;have s:=uB (kF P).1;have t:=(EF P).1;unfold Ua;split
      ·exact e
      ·split
       ·split
        ·exact l _ _ _ _ i aA0 k
        ·exact e
       ·exact l _ _ _ _ i aA0 k
     refine m _ _ ?_ ?_
     ·rw [kR,iX];omega
     ·rw [iX,iX];omega
theorem MA(v:aC)(d:aR v<=4194304):(Tg v).1.1.length<=aR v/\iR (aR v+252) (Tg v).1.2:=by
 have e:=NQ v;unfold Tg;split
 ·exact⟨dL _,fun p c=>by cases c⟩
 ·split
  ·refine⟨by dsimp only;rw [kR];omega,fun p c=> ?_⟩;have f:((cH v).drop (kP (cH v))).length<=aR v:=aB9;have a:=vu _ aA0 p c;have b:=yN _ p c;exact⟨aA0,aA0⟩
  ·exact⟨dL _,fun p c=>by cases c⟩
theorem tu(n:Int)(a:0<=n)(h:n<=2147483647):(dO n).length<=10:=(sC n a h).2.2.1
theorem Mw(v:aC):0<=(An v).1/\(An v).1<=2147483647/\(An v).2.1.length<=aR v:=by
 have a:=Hq (cH v);have c:=tU (cH v);have b:=NQ v;unfold An;split
 ·split
  ·exact⟨a.1,a.2,by dsimp only;omega⟩
  ·exact⟨qE 0,(show(0:Int)<=2147483647 by decide),dL _⟩
 ·exact⟨qE 0,(show(0:Int)<=2147483647 by decide),dL _⟩
theorem AL(v:aC):(0<=(Bi v).1/\(Bi v).1<=2147483647)/\(0<=(Bi v).2.1/\(Bi v).2.1<=2147483647)/\(Bi v).2.2.1.length<=aR v:=by
 have b:=Hq (cH v);have a:=Mw (uT (cH v)).2.1;have c:=tU (cH v);have d:=NQ v;unfold Bi;generalize An (uT (cH v)).2.1=C at a⊢;generalize uT (cH v)=D at b c a⊢;split
 ·split
  ·exact⟨b,⟨a.1,a.2.1⟩,by dsimp only;omega⟩
  ·exact⟨⟨qE 0,(show(0:Int)<=2147483647 by decide)⟩,⟨qE 0,(show(0:Int)<=2147483647 by decide)⟩,dL _⟩
 ·exact⟨⟨qE 0,(show(0:Int)<=2147483647 by decide)⟩,⟨qE 0,(show(0:Int)<=2147483647 by decide)⟩,dL _⟩
theorem R0(k:Int)(ct:Bool)(v:aC)(r:aR v<=4194000):(gV k ct v).1.length<=265*aR v+80000:=by
 have s:=NQ v;have z:∀e:UInt8,(([]:aC),e).1.length<=265*aR v+80000:=fun e=>dL _;unfold gV;split
 ·split
  ·show 1<=_;omega
  ·split
   ·rename_i j;obtain⟨m,l,_⟩:=Nw _ j;obtain⟨p,u,o⟩:=K1 (cH v);have:=U6 ((cH v).length+252) _ m p aA0 o l;omega
   ·exact z _
 ·split
  ·split
   ·obtain⟨v1,h,q,v4⟩:=VA v aA0;have a:=PH (lO v).1;have b:=Uj _ _ v4;have c:=Zb v;have d:(lO v).1.2.2.2.2.length*(2*(aR v+252))<=16*(2*(aR v+252)):=TO _ c;omega
   ·exact z _
  ·split
   ·split
    ·obtain⟨g,f,i⟩:=Mw v;have:=tu _ g f;simp only [bM,bR];omega
    ·exact z _
   ·split
    ·split
     ·obtain⟨⟨g,f⟩,⟨i,n⟩,t⟩:=AL v;have:=tu _ g f;have:=tu _ i n;simp only [bM,bR];omega
     ·exact z _
    ·split
     ·split
      ·obtain⟨g,f⟩:=Hr (cH v);have:=tu _ g f;dsimp only;omega
      ·exact z _
     ·split
      ·split
       ·obtain⟨v1,h⟩:=MA v aA0;have a:=GQ (Tg v).1;have b:=Uj _ _ h;have c:=Sd v;have d:(Tg v).1.2.length*(2*(aR v+252))<=16*(2*(aR v+252)):=TO _ c;omega
       ·exact z _
      ·split
       ·exact z _
       ·dsimp only;omega
def Zk(l:List aC):Nat:=(l.map aR).sum
theorem tx(x:aC)(l:List aC):Zk (x::l)=aR x+Zk l:=rfl
theorem CB:∀(l:List aC),(dA l [44,32]).length<=Zk l+2*aR l
 |[]=>dL _
 |[a]=>by rw [Z3,tx];omega
 |a::b::l=>by have:=CB (b::l);rw [qa,tx];simp only [bM,bR,eO]at this⊢;omega
theorem JS(k:Int)(ct:Bool):∀l:List aC,(∀x∈l,aR x<=4194000)->Zk (qO k ct l).1<=265*Zk l+80000*aR l
 |[],_=>dL _
 |x::l,h=>by
  have c:=R0 k ct x (h x fQ);have b:=JS k ct l (fun y a=>h y (fB _ a));rw [qO,tx,bR];split
  ·split
   ·rw [tx];omega
   ·exact dL _
  ·exact dL _
theorem kZ:∀(s:aC) (m:Nat) (a:aC) (l:List aC),fO m a s=.inl l->Zk l<=aR a+aR s/\l.length<=aR s+1
 |[],0,a,l,h=>by rw [s0n]at h;have:=Sum.inl.inj h;subst this;have:=NQ a;exact⟨by rw [tx];show _+0<=_;omega,aA2⟩
 |[],m+1,a,l,h=>by cases h
 |c::s,0,a,l,h=>by
  have b:(a++[c]).length=aR a+1:=aA2;rw [mz]at h;rw [bR];split at h
  ·have:=kZ s _ _ l h;omega
  ·split at h
   ·have:=kZ s _ _ l h;omega
   ·split at h
    ·cases h
    ·split at h
     ·obtain⟨m,d,rfl⟩:=Ta h;have:=kZ s _ _ m d;have:=NQ a;rw [tx,bR];simp only [eO]at*;omega
     ·have:=kZ s _ _ l h;omega
 |c::s,1,a,l,h=>by
  have b:(a++[c]).length=aR a+1:=aA2;rw [zu]at h;rw [bR];split at h
  ·have:=kZ s _ _ l h;omega
  ·split at h
   ·have:=kZ s _ _ l h;omega
   ·split at h
    ·cases h
    ·have:=kZ s _ _ l h;omega
 |c::s,2,a,l,h=>by
  have b:(a++[c]).length=aR a+1:=aA2;rw [s2c]at h;rw [bR];split at h
  ·have:=kZ s _ _ l h;omega
  ·cases h
 |c::s,m+3,a,l,h=>by
  have b:(a++[c]).length=aR a+1:=aA2;rw [s3c]at h;rw [bR];split at h
  ·have:=kZ s _ _ l h;omega
  ·have:=kZ s _ _ l h;omega
theorem YU(v:aC):Zk (pH v).1<=aR v/\(pH v).1.length<=aR v+1:=by
 unfold pH;cases a:fO 0 [] v with
 |inr e=>exact⟨dL _,dL _⟩
 |inl l=>
  have:=kZ v 0 [] l a;dsimp only;split
  ·exact⟨dL _,dL _⟩
  ·dsimp only;simp only [eO]at this;omega
theorem Zj:∀(l:List aC),∀x∈l,aR x<=Zk l
 |[],x,hx=>by cases hx
 |a::l,x,hx=>by
  rw [tx];rcases aP.1 hx with h|h
  ·rw [h];omega
  ·have:=Zj l x h;omega
def CONT:aC:=[67,111,110,116,97,99,116]
def EH(c:aC):Bool:=decide (c=CONT)
theorem Zg(c v:aC)(C:aR v<=4190000):ata FU c v=some (gV (Nh c) (EH c) v):=by
 unfold ata gV;rw [Y7,aY];generalize Nh c=k;by_cases m:k=1
 ·rw [aB m,aB m];have e:(if c=([67,111,110,116,97,99,116]:aC)then((TJ FU v).bind fun(d:aC)=>some (decide (d=([42]:aC))))else some false)=some (decide (EH c=true/\cH v=[42])):=by
   unfold EH;by_cases o:c=CONT
   ·rw [aB (show c=([67,111,110,116,97,99,116]:aC)from o),mA v aA0,aY,aK o];congr 1;rw [eH];exact⟨fun h=>⟨rfl,h⟩,fun h=>h.2⟩
   ·rw [aA (show¬c=([67,111,110,116,97,99,116]:aC)from o),aO o,aO (fun h=>absurd h.1 aA1)]
  rw [e,aY];by_cases n:EH c=true/\cH v=[42]
  ·rw [aK n,aL,aB n]
  ·rw [aO n,aG,aA n,A9 v aA0,aY];dsimp only;by_cases a:(iA (cH v)).1=0
   ·obtain⟨x,G,F⟩:=Nw _ a;obtain⟨A,I,z⟩:=dv (cH v);rw [aB a,aB a,Vk _ x (A.sml aA1) aA0 aA0 (fun p f=>by have:=z p f;omega),aY]
   ·rw [aA a,aA a]
 ·rw [aA m,aA m];by_cases l:k=2
  ·rw [aB l,aB l,lv v aA0,aY];by_cases a:(lO v).2=0
   ·obtain⟨v1,s,B,v4⟩:=VA v aA0;have u:=Zb v;rw [aB a,aB a,AN _ aA0 aA0 aA0 (fun p f=>by have:=v4 p f;omega) aA0,aY]
   ·rw [aA a,aA a]
  ·rw [aA l,aA l];by_cases j:k=3
   ·obtain⟨r,q,t⟩:=Mw v;have w:=tu _ r q;rw [aB j,aB j,EI v aA0,aY];by_cases a:(An v).2.2=0
    ·rw [aB a,aB a,bA (eT _ aA0 aA0),bA aE4,bA aB7,gJ];rfl
    ·rw [aA a,aA a]
   ·rw [aA j,aA j];by_cases i:k=4
    ·obtain⟨⟨r,q⟩,⟨t,y⟩,H⟩:=AL v;have w:=tu _ r q;have E:=tu _ t y;rw [aB i,aB i,XH v aA0,aY];by_cases a:(Bi v).2.2.2=0
     ·rw [aB a,aB a,bA (eT _ aA0 aA0),bA aE4,bA (eT _ aA0 aA0),bA aB7,bA aA8,bA aA8];simp
     ·rw [aA a,aA a]
    ·rw [aA i,aA i];by_cases g:k=5
     ·obtain⟨r,q⟩:=Hr (cH v);rw [aB g,aB g,A2 v aA0,aY];by_cases a:(gX (cH v)).2=0
      ·rw [aB a,aB a,bA (eT _ aA0 aA0)]
      ·rw [aA a,aA a]
     ·rw [aA g,aA g];have e:(if k=(6:Int)then some (decide (k=(6:Int)))else some (decide (k=(7:Int))))=some (decide (k=6\/k=7)):=by
       by_cases b:k=6
       ·rw [aB b,aK b,aK (.inl b)]
       ·rw [aA b];congr 1;rw [eH];exact⟨.inr,fun h=>h.resolve_left b⟩
      rw [e,aY];by_cases b:k=6\/k=7
      ·rw [aK b,aL,aB b,Z7 v aA0,aY];by_cases a:(Tg v).2=0
       ·obtain⟨v1,s⟩:=MA v aA0;have u:=Sd v;rw [aB a,aB a,Vj _ aA0 aA0 (fun p f=>by have:=s p f;omega),aY]
       ·rw [aA a,aA a]
      ·have D:=NQ v;rw [aO b,aG,aA b,mA v aA0,aY,Jt _ aA0,aY];unfold AM;by_cases a:(cH v).any eW=true
       ·rw [aB a,aB a];rfl
       ·rw [aA a,aA a,aB rfl]
theorem Q8(a:aC×UInt8)(d:List aC×UInt8)(n:aR d.1<=4194304)(r:List aC):∀(P:List aC) (c:Nat),aR P+aR r=aR d.1->aR r<c->(∀x∈r,aR x<=4190000)->
  amd FU a d c (P++r) (aR P:Int)=some (if(qO (Nh a.1) (EH a.1) r).2=0 then .inl (P++(qO (Nh a.1) (EH a.1) r).1)else .inr ([],(qO (Nh a.1) (EH a.1) r).2)):=by
 induction r with
 |nil=>intro P c h i hx;obtain⟨c,rfl⟩:=dY c;rw [eO]at h;rw [axb,aow,aA aA0];rfl
 |cons x r j=>
  intro P c h i hx;obtain⟨c,rfl⟩:=dY c;rw [bR]at h i;have g:(P++x::r).length=aR P+(aR r+1):=by rw [bM,bR]
  have b:0<=(aR P:Int)/\(aR P:Int)<((P++x::r).length:Int):=aA0;have m:el (P++x::r) (aR P:Int)=x:=by simp [el]
  rw [axb,aow,aB aA0,bA b,bA b,m,Zg _ x (hx x fQ),aY,bA b,bA b,qO];by_cases f:(gV (Nh a.1) (EH a.1) x).2=0
  ·have l:jV (P++x::r) (aZ (aR P:Int)) (gV (Nh a.1) (EH a.1) x).1=(P++[(gV (Nh a.1) (EH a.1) x).1])++r:=by rw [iY,gE _ _ (eV _),Gx,Og];simp
   have:=j (P++[(gV (Nh a.1) (EH a.1) x).1]) c aB7 aA0 (fun y k=>hx y (fB _ k));rw [show((P++[(gV (Nh a.1) (EH a.1) x).1]).length:Int)=(aR P:Int)+1 by rw [bM,eL];rfl]at this;rw [aB f,aB f,bA (eT _ aA0 aA0),l,this];by_cases e:(qO (Nh a.1) (EH a.1) r).2=0
   ·rw [aB e,aB e,aB rfl,gJ];rfl
   ·rw [aA e,aA e,aA e]
  ·rw [aA f,aA f,aA f]
def Pz(nm v:aC):aC×UInt8:=if(jP nm).2=0 then Eb (Kt (jP nm).1) (Nh (jP nm).1) (EH (jP nm).1) v else([],5)
theorem DD(nm v:aC)(j:aR nm<=4194304)(g:aR v<=1100000):wh FU nm v=some (Pz nm v):=by
 unfold wh Pz;rw [Ak nm aA0,aY];by_cases d:(jP nm).2=0
 ·rw [aB d,aB d,LH,aY];unfold Eb;cases k:Kt (jP nm).1 with
  |false=>rw [xI,aL,Zg _ v aA0,aY,aA aA1]
  |true=>
   obtain⟨f,e⟩:=YU v;have hx:∀x∈(pH v).1,aR x<=4190000:=fun x hx=>by have:=Zj _ x hx;omega
   have:=Q8 (jP nm) (pH v) aA0 (pH v).1 [] FU aA2 aA6 hx;have a:amd FU (jP nm) (pH v) FU (pH v).1 (0:Int)=_:=this;have i:=JS (Nh (jP nm).1) (EH (jP nm).1) (pH v).1 (fun x h=>by have:=hx x h;omega);rw [jM,aG,ZC v aA0,aY,aB rfl];by_cases c:(pH v).2=0
   ·rw [aB c,aB c,a,aY];by_cases b:(qO (Nh (jP nm).1) (EH (jP nm).1) (pH v).1).2=0
    ·have l:=Ui _ _ _ b;have m:=CB (qO (Nh (jP nm).1) (EH (jP nm).1) (pH v).1).1;rw [aB b,aB b,pR,mQ,bA (by constructor<;>omega)]
    ·rw [aA b,aA b,Yd]
   ·rw [aA c,aA c]
 ·rw [aA d,aA d]
theorem oM(x:aC)(h:cH x=x):(∀c,x.head? =some c->cC c=false)/\ND x:=by
 refine⟨fun c b=> ?_,fun c b=> ?_⟩
 ·cases x with
  |nil=>cases b
  |cons a x=>
   obtain rfl:=aJ b;cases e:cC a with
   |false=>rfl
   |true=>have g:cH (a::x)=cH x:=Iw [a] x (by simp [e]);have f:=NQ x;rw [<-g,h,bR]at f;omega
 ·rcases vO x with rfl|⟨y,a,rfl⟩
  ·cases b
  ·rw [vQ]at b h;have d:a=c:=by rw [L6]at b;exact aJ b
   rw [<-d];cases e:cC a with
   |false=>rfl
   |true=>have g:cH (y++[a])=cH y:=Ql y [a] (by simp [e]);have f:=NQ y;rw [<-g,h,bM,eL]at f;omega
theorem Ln:∀(l:List aC) (a:aC),(∀x∈a::l,Cl x/\cH x=x/\x≠[])->(dA (a::l) [44,32]).any eW=false/\(dA (a::l) [44,32]).head? =a.head? /\dA (a::l) [44,32]≠[]/\ND (dA (a::l) [44,32])
 |[],a,h=>by obtain⟨e,f,d⟩:=h a fQ;rw [Z3];exact⟨e.2,rfl,d,(oM a f).2⟩
 |b::l,a,h=>by
  obtain⟨e,f,d⟩:=h a fQ;obtain⟨j,k,i,g⟩:=Ln l b fun x hx=>h x (fB _ hx);rw [qa];refine⟨?_, ?_,by simp [d],N8 _ _ aA2 (N8 _ _ i g)⟩
  ·rw [gR,e.2,gR,j];decide
  ·cases a with
   |nil=>exact absurd rfl d
   |cons c a=>rfl
theorem Ze(many:Bool)(k:Int)(ct:Bool)(o:many=true->BH k)(v:aC)(h:(Eb many k ct v).2=0)(b:(Eb many k ct v).1.length<=1024):cH (Eb many k ct v).1=(Eb many k ct v).1/\(Eb many k ct v).1.any eW=false:=by
 cases many with
 |false=>have e:Eb false k ct v=gV k ct v:=aA aA1;rw [e]at h b⊢;exact(Iy k ct v h b).2.1
 |true=>
  by_cases f:(pH v).2=0
  ·by_cases d:(qO k ct (pH v).1).2=0
   ·have e:Eb true k ct v=(dA (qO k ct (pH v).1).1 [44,32],0):=by unfold Eb;rw [aB rfl,aB f,aB d]
    rw [e]at b⊢;dsimp only at b⊢;obtain⟨q,i⟩:=Iz k ct (o rfl) (pH v).1 d (fun x hx=>qN (oW _ _ x hx) b);generalize(qO k ct (pH v).1).1=g at i⊢;cases g with
    |nil=>exact⟨rfl,rfl⟩
    |cons a g=>obtain⟨n,m,p,l⟩:=Ln g a i;refine⟨I8 _ (fun c j=> ?_) l,n⟩;rw [m]at j;exact(oM a (i a fQ).2.1).1 c j
   ·have e:Eb true k ct v=([],(qO k ct (pH v).1).2):=by unfold Eb;rw [aB rfl,aB f,aA d]
    rw [e]at h;exact absurd h d
  ·have e:Eb true k ct v=([],(pH v).2):=by unfold Eb;rw [aB rfl,aA f]
   rw [e]at h;exact absurd h f
theorem Zf(nm v:aC)(h:(Pz nm v).2=0)(b:(Pz nm v).1.length<=1024):Pz nm (Pz nm v).1=((Pz nm v).1,0)/\cH (Pz nm v).1=(Pz nm v).1/\(Pz nm v).1.any eW=false:=by
 unfold Pz at h b⊢;by_cases c:(jP nm).2=0
 ·rw [aB c]at h b⊢;rw [aB c];exact⟨GB _ _ _ (fun a=>Rr _ a) v h aA0,Ze _ _ _ (fun a=>Rr _ a) v h b⟩
 ·rw [aA c]at h;exact absurd h (show¬(5:UInt8)=0 by decide)
open List renaming isPrefixOf → Ou, length → aR
def fG(y:aC):aC:=45::45::y
def EE(R:aC):aC:=(eJ R [45,45]).dropWhile cC
def vi(R:aC):Bool:=decide (EE R=[])||eZ (EE R) [13,10]
def iN(h:aC×aC):aC:=(h.1++58::32::h.2)++[13,10]
def fF(l:eC):aC:=l.flatMap iN
theorem Hl(p s:aC)(h:eZ s p=true):∃r,s=p++r:=by obtain⟨r,a⟩:=eM.1 (show Ou p s=true from h);exact⟨r,a.symm⟩
theorem Hj(p r:aC):eZ (p++r) p=true:=eM.2 ⟨r,rfl⟩
theorem Ug(p r:aC):eJ (p++r) p=r:=by unfold eJ;rw [Hj];simp
theorem VM(p r:aC)(h:eZ r p=false):eJ r p=r:=by unfold eJ;rw [h];simp
theorem F6(R:aC)(h:vi R=true):∀c,(R.dropWhile cB).head? =some c->c=32\/c=9\/c=13:=by
 have key:∀S:aC,(decide (S.dropWhile cC=[])||eZ (S.dropWhile cC) [13,10])=true->∀c,(S.dropWhile cB).head? =some c->c=32\/c=9\/c=13:=by
  intro S f c b;cases S with
  |nil=>cases b
  |cons a S=>
   cases d:cC a with
   |true=>
    have j:cB a=false:=by revert d;exact eA (fun a=>cC a=true->cB a=false) aA3 a
    rw [iG,j]at b;obtain rfl:=aJ b;revert d;exact eA (fun a=>cC a=true->a=32\/a=9\/a=13) aA3 a
   |false=>rw [iG,d]at f;simp only [pQ,cX,List.cons_ne_nil,decide_false,eD]at f;obtain⟨r,i⟩:=Hl _ _ f;obtain rfl:a=13:=(bF i).1;rw [iG,show cB 13=false by decide]at b;exact .inr (.inr (aJ b).symm)
 unfold vi EE at h;cases g:eZ R [45,45]with
 |false=>rw [VM _ _ g]at h;exact key R h
 |true=>obtain⟨S,rfl⟩:=Hl _ _ g;rw [Ug]at h;have e:([45,45]++S).dropWhile cB=S.dropWhile cB:=Mr cB [45,45] S aA1;rw [e];exact key S h
theorem W8(y nm w R:aC)(b:y.all cB=true)(c:nm.all cB=true)(h:nm++58::w=fG y++R)(e:vi R=true):False:=by
 have a:=bD (fun s=>s.dropWhile cB) h;have d:(fG y).all cB=true:=by unfold fG;rw [Ej,Ej,b];decide
 rw [Mr cB nm _ c,Mr cB (fG y) _ d,iG,show cB 58=false by decide]at a;rcases F6 R e 58 (by rw [<-a];rfl)with h|h|h<;>exact absurd h aA1
theorem EL(P Z A W:aC)(g:∀c∈P,c≠13)(h:P++13::Z=A++13::W):∃f,A=P++f/\13::Z=f++13::W:=by
 rcases gN.1 h with⟨a,d,e⟩|⟨a,d,e⟩
 ·exact⟨a,d,e⟩
 ·cases a with
  |nil=>rw [gA]at d;exact⟨[],by rw [d];simp,by simpa using e.symm⟩
  |cons b a=>have:(13:UInt8)=b:=(bF e).1;exact absurd this.symm (g b aD1)
theorem LG(y body d R:aC)(g:∀c∈fG y,c≠13)(h:body++13::d=fG y++R):∃Z,body=fG y++Z:=by
 rcases gN.1 h with⟨a,e,f⟩|⟨a,e,f⟩
 ·cases a with
  |nil=>exact⟨[],by simpa using e.symm⟩
  |cons b a=>have:(13:UInt8)=b:=(bF f).1;exact absurd this.symm (g b (by rw [e];simp))
 ·exact⟨a,e⟩
def Ko(h:aC×aC):Prop:=eY h.1=true/\∀c∈h.2,c≠13
theorem GA(h:s.all cB=true):∀c∈s,c≠13:=fun c a e=>by have:=aT.1 h c a;rw [e]at this;exact absurd this aA1
theorem MH(h:aC×aC)(b:Ko h):∀c∈h.1++58::32::h.2,c≠13:=fun c d=>by
 rcases aS.1 d with a|a
 ·exact GA (Qd b.1).2 c a
 ·rcases aP.1 a with a|a
  ·rw [a];decide
  ·rcases aP.1 a with a|a
   ·rw [a];decide
   ·exact b.2 c a
theorem dc(h:aC×aC)(a:eC)(Z:aC):fF (h::a)++Z=(h.1++58::32::h.2)++13::10::(fF a++Z):=by unfold fF iN;rw [kS];simp
theorem Jz(y:aC)(s:eY y=true)(body g:aC)(o:∀Z,body≠fG y++Z)(n:∀A Z,body≠A++13::10::(fG y++Z))(R:aC)(z:vi R=true):∀(l:eC) (A:aC),(∀h∈l,Ko h)->13::10::(fF l++13::10::(body++13::10::g))=A++13::10::(fG y++R)->aR A<(fF l).length+aR body+4->False
 |[],A,_,h,q=>by
  have w:∀c∈fG y,c≠13:=GA (by unfold fG;rw [Ej,Ej,(Qd s).2];decide)
  match A,h with
  |[],h=>exact absurd (bF (bF (bF h).2).2).1 aA1
  |[a],h=>exact absurd (bF (bF h).2).1 aA1
  |[_,_],h=>have f:=(bF (bF h).2).2;have p:=(bF (bF f).2).2;obtain⟨Z,t⟩:=LG y body _ R w p;exact o Z t
  |[_,_,a],h=>have f:=(bF (bF h).2).2;exact absurd (bF (bF f).2).1 aA1
  |_::_::a::b::A,h=>
   have f:=(bF (bF h).2).2;have p:body++13::10::g=A++13::10::(fG y++R):=(bF (bF f).2).2;have j:aR A<aR body:=by simp only [fF,xF,eO,bR]at q;omega
   rcases gN.1 p with⟨B,i,k⟩|⟨B,i,k⟩
   ·rw [i,bM]at j;omega
   ·match B,i,k with
    |[],i,k=>rw [i]at j;simp at j
    |[b],i,k=>exact absurd (bF (bF k).2).1 aA1
    |b::d::B,i,k=>obtain⟨E,u⟩:=bF k;obtain⟨D,C⟩:=bF u;obtain⟨Z,t⟩:=LG y B _ R w C.symm;exact n A Z (by rw [i,t,<-E,<-D])
 |r::l,A,v,h,q=>by
  have m:=v r fQ;rw [dc]at h
  match A,h with
  |[],h=>have f:=(bF (bF h).2).2;rw [gJ]at f;exact W8 y r.1 _ R (Qd s).2 (Qd m.1).2 f z
  |[a],h=>have f:=(bF h).2;exact absurd (bF f).1 aA1
  |_::_::A,h=>have f:=(bF (bF h).2).2;obtain⟨F,p,u⟩:=EL _ _ A _ (MH r m) f;refine Jz y s body g o n R z l F (fun x hx=>v x (fB _ hx)) u ?_;have e:=bD aR (dc r l []);rw [p]at q;simp only [bM,bR,eO,gA]at q e;omega
theorem CW(body:aC):∀(b:eC) (A Z:aC),b≠[]->(∀h∈b,Ko h)->fF b++13::10::body=A++13::10::13::10::Z->(fF b).length<=aR A+2
 |[],A,Z,d,_,_=>absurd rfl d
 |n::b,A,Z,_,k,h=>by
  have j:=k n fQ;have e:=bD aR (dc n b []);simp only [bM,bR,eO,gA]at e;rw [dc]at h;obtain⟨q,o,f⟩:=EL _ _ A _ (MH n j) h;rw [o];cases b with
  |nil=>simp only [fF,xF,eO,bM,bR]at*;omega
  |cons m b=>
   match q,f with
   |[],f=>
    have i:=(bF (bF f).2).2;rw [dc]at i;have g:=k m aA2;have d:=(Qd g.1).1;cases l:m.1 with
    |nil=>exact absurd l d
    |cons c nm=>rw [l]at i;have:c=13:=(bF i).1;exact absurd this (GA (Qd g.1).2 c (by rw [l];simp))
   |[a],f=>exact absurd (bF (bF f).2).1 aA1
   |_::_::p,f=>have i:=(bF (bF f).2).2;have:=CW body (m::b) p Z aA2 (fun x hx=>k x (fB _ hx)) i;simp only [bM,bR]at*;omega
theorem ER:∀c:UInt8,rR c≠[]->jP (rR c)=(rR c,0):=eA _ aA3
theorem Nc:∀n∈N9,jP n=(n,0):=aA3
theorem xY(y:aC):∀(l:List aC) {q},mT l y=some (.inr q)->q.1∈l/\q.2=0
 |[],q,h=>by cases h
 |n::l,q,h=>by
  unfold mT at h;split at h
  ·cases h;exact⟨fQ,rfl⟩
  ·have:=xY y l h;exact⟨fB _ this.1,this.2⟩
theorem mb:∀c:UInt8,cB (Tm c)=cB c:=eA _ aA3
theorem Q6:∀c:UInt8,cB (iF c)=cB c:=eA _ aA3
theorem Q4:∀c:UInt8,(Tm c==45)=(c==45):=eA _ aA3
theorem upup:∀c:UInt8,Tm (Tm c)=Tm c:=eA _ aA3
theorem YX:∀c:UInt8,iF (iF c)=iF c:=eA _ aA3
theorem gm:∀c:UInt8,iF (Tm c)=iF c:=eA _ aA3
theorem Bx:∀(l:aC) (f:Bool),(Ni f l).length=l.length
 |[],_=>rfl
 |c::l,f=>by rw [Ni,bR,bR,Bx l]
theorem Qm:∀(l:aC) (f:Bool),(Ni f l).all cB=l.all cB
 |[],_=>rfl
 |c::l,f=>by
  rw [Ni,Ej,Ej,Qm l];cases f
  ·rw [aA aA1,Q6]
  ·rw [aB rfl,mb]
theorem Ep:∀(l:aC) (f:Bool),dH (Ni f l)=dH l
 |[],_=>rfl
 |c::l,f=>by
  have:=Ep l (c==45);simp only [dH]at this⊢;rw [Ni,vS,vS,this];cases f
  ·rw [aA aA1,YX]
  ·rw [aB rfl,gm]
theorem Eo:∀(l:aC) (f:Bool),Ni f (Ni f l)=Ni f l
 |[],_=>rfl
 |c::l,f=>by
  have:=Eo l (c==45);cases f
  ·simp only [Ni,aA (show¬(false=true)by decide),YX,low45,this]
  ·simp only [Ni,fM,upup,Q4,this]
theorem CK(l:aC)(f:Bool):eY (Ni f l)=eY l:=by unfold eY;rw [Qm];cases l<;>rfl
theorem pE(s:aC)(h:(jP s).2=0):jP (jP s).1=((jP s).1,0):=by
 by_cases f:eY s=false\/64<s.length
 ·have e:jP s=([],5):=by unfold jP;rw [aB f]
  rw [e]at h;exact absurd h aA1
 ·by_cases d:s.length=1/\rR (iF (at_ s 0))≠[]
  ·have e:jP s=(rR (iF (at_ s 0)),0):=by unfold jP;rw [aA f,aB d]
   rw [e];exact ER _ d.2
  ·have e:jP s=((aki FU (dH s) FU 0).getD (.inl ())).elim (fun _=>(Ni true s,0)) id:=by unfold jP;rw [aA f,aA d]
   obtain⟨r,g⟩:=azg (dH s) N9;rw [oP,g,lU]at e;cases r with
   |inr q=>have i:=xY _ _ g;have e':jP s=q:=e;rw [e',Nc q.1 i.1]
   |inl u=>
    have e':jP s=(Ni true s,0):=e;rw [e'];have k:¬(eY (Ni true s)=false\/64<(Ni true s).length):=by rw [CK,Bx];exact f
    have j:¬((Ni true s).length=1/\rR (iF (at_ (Ni true s) 0))≠[]):=by
     rintro⟨a,b⟩;rw [Bx]at a
     match s,a with
     |[c],_=>exact d ⟨rfl,fun x=>b (by show rR (iF (Tm c))=[];rw [gm];exact x)⟩
    unfold jP;rw [aA k,aA j,Ep,Eo,oP,g];rfl
abbrev PL:=dB
theorem aq(l:PL)(q:PL):∀(p:PL) (d:Nat) (n:Int),l=p++q->21<d+aR p->aR p<=20->0<=n->n<=100*(aR p:Int)->
  ∃j,wv FU l d n (aR p:Int)=some j/\(∀b,j=.inr b->b=false)/\∀m,j=.inl m->aR l<=20->∀x∈q,aR x.1<=100/\x.2.length<=20000:=by
 induction q with
 |nil=>intro p d n h u s B A;obtain⟨d,rfl⟩:=dY d;refine⟨.inl n, ?_,fun _ c=>(by cases c),fun _ _ _ x hx=>by cases hx⟩;rw [auh,anz,aA aA7,aY,aG]
 |cons a q r=>
  intro p d n h u s B A;obtain⟨d,rfl⟩:=dY d;have g:=bD aR h;simp only [bM,bR]at g;have c:(0:Int)<=(aR p:Int)/\(aR p:Int)<(aR l:Int):=aA0;have v:el l (aR p:Int)=a:=aB4;have t:((aR p:Int)+1)=((p++[a]).length:Int):=aA2;rw [auh,anz,aB c.2,aY,bA c,bA c,bA c,bA c,v];by_cases f:(aR p:Int)<20
  ·rw [aK f,aL];by_cases o:(100:Int)<(aR a.1:Int)
   ·rw [aB o,aY,aL];exact⟨_,rfl,fun b c=>(by cases c;rfl),fun m e=>by cases e⟩
   ·rw [aA o,aY];by_cases k:(20000:Int)<(aR a.2:Int)
    ·rw [aK k,aL];exact⟨_,rfl,fun b c=>(by cases c;rfl),fun m e=>by cases e⟩
    ·obtain⟨j,z,w,y⟩:=r (p++[a]) d (n+(aR a.1:Int)) aA7 aA5 aA5 aA0 aA5;rw [aO k,aG,bA c,bA c,bA (eT _ aA0 aA0),bA (eT _ aA0 aA0),t,z];refine⟨j,rfl,w,fun m e i x hx=> ?_⟩;rcases aP.1 hx with rfl|hx
     ·omega
     ·exact y m e i x hx
  ·rw [aO f,aG];exact⟨_,rfl,fun b c=>(by cases c),fun m _ i=>by omega⟩
theorem rh(l:PL):∃b,axa FU l=some b/\(b=true->aR l<=20/\∀x∈l,aR x.1<=100/\x.2.length<=20000):=by
 obtain⟨j,f,d,e⟩:=aq l l [] FU 0 rfl (by rw [iD];decide) aA2 aA0 aA2;have c:wv FU l FU (0:Int) (0:Int)=some j:=f;unfold axa;rw [c,aY];cases j with
 |inr b=>refine⟨b,rfl,fun a=> ?_⟩;rw [d b rfl]at a;cases a
 |inl m=>
  show∃b,((if(aR l:Int)<=20 then some (decide (m<=200))else some false).bind fun v=>some v)=some b/\_;by_cases h:(aR l:Int)<=20
  ·rw [aB h];exact⟨_,rfl,fun _=>⟨aA0,e m rfl aA0⟩⟩
  ·rw [aA h];exact⟨_,rfl,fun a=>by cases a⟩
open Go.Lib renaming hasPrefix → eZ, index → cE
open List renaming length → aR, replicate → iZ, set → jV
abbrev PU:=eC×List UInt8
def jC{d c:Type}(f:d->Option c):List d->Option (List c)
 |[]=>some []
 |a::l=>(f a).bind fun b=>(jC f l).map (b::·)
theorem dk{g d:Type}(f:g->Option d):∀(l:List g) (m:List d),jC f l=some m->aR m=aR l/\∀y∈m,∃x∈l,f x=some y
 |[],m,h=>by cases h;exact⟨rfl,fun y c=>by cases c⟩
 |a::l,m,h=>by
  rw [jC,qC]at h;obtain⟨b,p,o⟩:=h;obtain⟨n,k,rfl⟩:=bX.1 o;obtain⟨j,i⟩:=dk f l n k;refine⟨by simp [j],fun y c=> ?_⟩;rcases aP.1 c with rfl|c
  ·exact⟨a,fQ,p⟩
  ·obtain⟨x,hx,e⟩:=i y c;exact⟨x,fB _ hx,e⟩
theorem Wb{b:Type}(f:b->Option b):∀l:List b,(∀x∈l,f x=some x)->jC f l=some l
 |[],_=>rfl
 |a::l,h=>by rw [jC,h a fQ,aY,Wb f l (fun x hx=>h x (fB _ hx))];rfl
theorem Dy(s:aC)(h:(jP s).2=0):(jP s).1.length<=64:=by
 have e:=pE s h;by_cases a:64<(jP s).1.length
 ·have b:jP (jP s).1=([],5):=by rw [jP,aB (Or.inr a)]
  rw [b]at e;exact absurd (bD Prod.snd e) (show¬((5:UInt8)=0)by decide)
 ·omega
def V8(nm v:aC):Option (aC×aC):=if v.length<=1024/\(Pz nm v).2=0/\(Pz nm v).1.length<=1024 then some (nm,(Pz nm v).1)else none
def HH(h:aC×aC):Option (aC×aC):=if(jP h.1).2=0 then V8 (jP h.1).1 h.2 else none
def Yi(x:PU):Option PU:=if x.1.length<=64 then(jC HH x.1).map (·,x.2)else none
theorem YP(nm v:aC)(c:aR nm<=4194304):∃r,xr FU nm v=some r/\((r.2=0/\V8 nm v=some r.1)\/(¬r.2=0/\V8 nm v=none)):=by
 unfold xr V8;by_cases h:(1024:Int)<(aR v:Int)
 ·rw [aB h,aA aA0];exact⟨_,rfl,.inr ⟨aA1,rfl⟩⟩
 ·rw [aA h,DD nm v c aA0,aY];by_cases a:(Pz nm v).2=0
  ·rw [aB a];by_cases b:(1024:Int)<((Pz nm v).1.length:Int)
   ·rw [aB b,aA aA0];exact⟨_,rfl,.inr ⟨aA1,rfl⟩⟩
   ·rw [aA b,aB ⟨aA0,a,aA0⟩];exact⟨_,rfl,.inl ⟨rfl,rfl⟩⟩
  ·rw [aA a,aA (fun h=>a h.2.1)];exact⟨_,rfl,.inr ⟨a,rfl⟩⟩
def tdJ(a:eC):Option eC->eC⊕(PU×Bool)
 |some l=>.inl (a++l)
 |none=>.inr (([],[]),false)
theorem R1(d:PU)(y:aR d.1<=64)(s:∀h∈d.1,aR h.1<=4194304)(q:eC):∀(p:eC) (c:Nat) (b:eC),d.1=p++q->aR q<c->aR b<=aR p->
  xn FU d c (aR p:Int) b=some (tdJ b (jC HH q)):=by
 induction q with
 |nil=>intro p c b h l v;obtain⟨c,rfl⟩:=dY c;rw [apl,aik,aA aA7];simp [jC,tdJ]
 |cons a q n=>
  intro p c b h l v;obtain⟨c,rfl⟩:=dY c;have g:=bD aR h;simp only [bM,bR]at g l;have i:(0:Int)<=(aR p:Int)/\(aR p:Int)<(aR d.1:Int):=aA0;have u:el d.1 (aR p:Int)=a:=aB4;have t:((aR p:Int)+1)=((p++[a]).length:Int):=aA2;have o:=s a aA7;rw [apl,aik,aB i.2,bA i,bA i,u,Ak _ aA0,aY,jC];by_cases f:(jP a.1).2=0
  ·obtain⟨r,x,w⟩:=YP (jP a.1).1 a.2 (by have:=Dy _ f;omega);have e:HH a=V8 (jP a.1).1 a.2:=aB f;rw [aB f,x,aY];rcases w with⟨k,j⟩|⟨k,j⟩
   ·rw [aB k,bA aA5,bA (eT _ aA0 aA0),t,n (p++[a]) c (b++[r.1]) aA7 aA0 aA5,e,j];cases jC HH q with
    |none=>rfl
    |some m=>simp [tdJ]
   ·rw [aA k,e,j];rfl
  ·have e:HH a=none:=aA f;rw [aA f,e];rfl
def tdR:Option PU->PU×Bool
 |some q=>(q,true)
 |none=>(([],[]),false)
theorem mi(a:PU)(c:∀h∈a.1,aR h.1<=4194304)(e:aR a.2<=1000000):apm FU a=some (tdR (Yi a)):=by
 unfold apm Yi;by_cases h:(64:Int)<(aR a.1:Int)
 ·rw [aB h,aA aA0];rfl
 ·have d:=R1 a aA0 c a.1 [] FU [] rfl aA6 aA2;have b:xn FU a FU (0:Int) []=some (tdJ [] (jC HH a.1)):=d;rw [aA h,bA aA0,b,aY,aB aA0];cases jC HH a.1 with
  |none=>rfl
  |some m=>rfl
def jnJ(a:PL):Option PL->PL⊕(List UInt8×UInt8)
 |some l=>.inl (a++l)
 |none=>.inr ([],2)
theorem Z2(parts:PL)(u:aR parts<=8)(n:∀x∈parts,(∀h∈x.1,aR h.1<=4194304)/\x.2.length<=1000000)(q:PL):∀(p c:PL) (b:Nat),parts=p++q->aR q<b->aR c=aR p->
  um FU parts b (c++iZ q.length ([],[])) (aR p:Int)=some (jnJ c (jC Yi q)):=by
 induction q with
 |nil=>intro p c b h j g;obtain⟨b,rfl⟩:=dY b;rw [aro,akm,aA aA7];simp [jC,jnJ]
 |cons a q l=>
  intro p c b h j g;obtain⟨b,rfl⟩:=dY b;have f:=bD aR h;simp only [bM,bR]at f j;have i:(0:Int)<=(aR p:Int)/\(aR p:Int)<(aR parts:Int):=aA0;have s:el parts (aR p:Int)=a:=aB4;have o:((aR p:Int)+1)=((p++[a]).length:Int):=aA2;have k:=n a aA7;rw [aro,akm,aB i.2,bA i,bA i,s,mi a k.1 k.2,aY,jC];cases t:Yi a with
  |none=>rfl
  |some r=>
   have e:(0:Int)<=(aR p:Int)/\(aR p:Int)<((c++iZ (a::q).length (([],[]):PU)).length:Int):=aA5;have d:jV (c++iZ (a::q).length (([],[]):PU)) (aZ (aR p:Int)) r=(c++[r])++iZ q.length ([],[]):=by rw [iY,<-g,gE _ _ (eV _),Gx,bR,List.replicate_succ];simp
   show gd _ (gd _ (gd _ _))=_;rw [bA e,bA e,bA (eT _ aA0 aA0)];show um FU parts b (jV _ _ r) _=_;rw [d,o,l (p++[a]) (c++[r]) b aA7 aA0 (by simp [g]),aY];cases jC Yi q with
   |none=>rfl
   |some m=>simp [jnJ]
theorem A0(s p:aC):uq FU s p=some (eZ s p):=by
 unfold uq ate;cases h:eZ s p with
 |true=>obtain⟨r,rfl⟩:=Hl _ _ h;rw [aB aC2,bA ⟨aA0,by rw [bM];omega⟩,iY,Ov,aK rfl];rfl
 |false=>
  by_cases a:(aR p:Int)<=(aR s:Int)
  ·rw [aB a,bA aA0,iY,aO]
   ·rfl
   ·intro e;have:=JF p.length s;rw [e]at this;rw [<-this,Hj]at h;cases h
  ·rw [aA a];rfl
def Ac(y body:aC):Bool:=eZ body (fG y)|| !decide (cE body (13::10::fG y)= -1)
theorem Z1(y:aC)(o:aR y<=70)(v:PL)(r:aR v<=8)(n:∀x∈v,aR x.2<=1000000)(q:PL):∀(p:PL) (b:Nat),v=p++q->aR q<b->
  uo FU y v b (aR p:Int)=some (if q.any (fun x=>Ac y x.2)=true then .inr ([],7)else .inl ()):=by
 induction q with
 |nil=>intro p b h i;obtain⟨b,rfl⟩:=dY b;rw [arn,akl,aA aA7];rfl
 |cons a q j=>
  intro p b h i;obtain⟨b,rfl⟩:=dY b;have g:=bD aR h;simp only [bM,bR]at g i;have c:(0:Int)<=(aR p:Int)/\(aR p:Int)<(aR v:Int):=aA0;have l:el v (aR p:Int)=a:=aB4;have s:=n a aA7;have k:((aR p:Int)+1)=((p++[a]).length:Int):=aA2
  have m:((uq FU a.2 (([45,45]:aC)++y)).bind fun(f:Bool)=>(bif f then some true else(gd (0<(([45,45]:aC)++y).length/\(([(13:UInt8),(10:UInt8)]:List UInt8).length+(([45,45]:aC)++y).length)*1<=140737488355328)<|((aoa FU a.2 (([(13:UInt8),(10:UInt8)]:List UInt8)++(([45,45]:aC)++y))).bind fun(d:Bool)=>some d))))=some (Ac y a.2):=by
   rw [A0,aY];have e:([45,45]:aC)++y=fG y:=rfl;unfold Ac;rw [e];cases eZ a.2 (fG y)with
   |true=>rfl
   |false=>rw [aG,bA (by unfold fG;simp;omega)];unfold aoa;rw [bA (by unfold fG;simp;omega)];rfl
  rw [arn,akl,aB c.2,bA c,bA c,l,m,aY,Ol];cases Ac y a.2 with
  |true=>rfl
  |false=>rw [aG,bA (eT _ aA0 aA0),k,j (p++[a]) b aA7 aA0];rfl
theorem MC(h:aC×aC)(a:eC):fF (h::a)=(((h.1++[58,32])++h.2)++[13,10])++fF a:=by unfold fF iN;rw [kS];simp
def YK(h:aC×aC):Prop:=aR h.1<=64/\h.2.length<=1024
theorem MD:∀a:eC,(∀h∈a,YK h)->(fF a).length<=aR a*1100
 |[],_=>dL _
 |h::a,b=>by have:=MD a (fun x hx=>b x (fB _ hx));obtain⟨d,c⟩:=b h fQ;rw [MC];simp only [bM,bR,eO];omega
theorem Y9(v:PL)(X:Int)(e:eC)(j:(el v X).1=e)(t:aR e<=64)(l:∀h∈e,YK h)(q:eC):∀(p:eC) (c:Nat) (b:List UInt8),e=p++q->aR q<c->aR b<=10000+aR p*1100->
  xg FU v X c b (aR p:Int)=some (b++fF q):=by
 induction q with
 |nil=>intro p c b h i n;obtain⟨c,rfl⟩:=dY c;rw [arl,akj,j,aA aA7];simp [fF]
 |cons a q k=>intro p c b h i n;obtain⟨c,rfl⟩:=dY c;have f:=bD aR h;simp only [bM,bR]at f i;have d:(0:Int)<=(aR p:Int)/\(aR p:Int)<(aR e:Int):=aA0;have g:el e (aR p:Int)=a:=aB4;have m:((aR p:Int)+1)=((p++[a]).length:Int):=aA2;obtain⟨s,r⟩:=l a aA7;have o:=k (p++[a]) c (b++(((a.1++[58,32])++a.2)++[13,10])) aA7 aA0 aA5;rw [arl,akj,j,aB d.2,bA d,bA d,g,bA aA5,bA aA5,bA aA5,bA aA5,bA (eT _ aA0 aA0),m,o,MC,gJ]
def Pg(y:aC)(x:PU):aC:=fG y++13::10::(fF x.1++13::10::(x.2++[13,10]))
def pz(y:aC)(v:PL):aC:=v.flatMap (Pg y)++(fG y++[45,45,13,10])
def okU(x:PU):Prop:=aR x.1<=64/\∀h∈x.1,YK h
theorem Z0(y:aC)(B:aR y<=70)(v:PL)(C:aR v<=8)(t:∀x∈v,aR x.2<=1000000)(r:∀x∈v,okU x)(q:PL):∀(p:PL) (c:Nat) (b:List UInt8),v=p++q->aR q<c->aR b<=8192->
  xf FU y v c b (aR p:Int)=some (if 8192<(b++q.flatMap (Pg y)).length then .inr ([],4)else .inl (b++q.flatMap (Pg y))):=by
 induction q with
 |nil=>intro p c b h j f;obtain⟨c,rfl⟩:=dY c;rw [arm,akk,aA aA7,xF,gA,aA aA0]
 |cons a q o=>
  intro p c b h j f;obtain⟨c,rfl⟩:=dY c;have e:=bD aR h;simp only [bM,bR]at e j;have d:(0:Int)<=(aR p:Int)/\(aR p:Int)<(aR v:Int):=aA0;have k:el v (aR p:Int)=a:=aB4;have l:a∈v:=aA7;have s:((aR p:Int)+1)=((p++[a]).length:Int):=aA2;have u:=t a l;obtain⟨n,i⟩:=r a l;have A:=MD a.1 i;have w:=Y9 v (aR p:Int) a.1 (by rw [k]) n i a.1 [] FU (b++(([45,45]++y)++[13,10])) rfl aA6 aA5;have g:xg FU v (aR p:Int) FU (b++(([45,45]++y)++[13,10])) (0:Int)=some ((b++(([45,45]++y)++[13,10]))++fF a.1):=w;have z:((((b++(([45,45]++y)++[13,10]))++fF a.1)++([13,10]:aC))++a.2)++([13,10]:aC)=b++Pg y a:=by unfold Pg fG;simp
  have eq:b++(a::q).flatMap (Pg y)=(b++Pg y a)++q.flatMap (Pg y):=by rw [kS,gJ]
  rw [arm,akk,aB d.2,bA d,bA d,bA aA5,bA aA5,bA aA5,g,aY,bA aA5,k,bA aA5,bA aA5,z,eq];by_cases m:(8192:Int)<((b++Pg y a).length:Int)
  ·rw [aB m,aB aC2];rfl
  ·rw [aA m];show gd _ _=_;rw [bA (eT _ aA0 aA0),s,o (p++[a]) c (b++Pg y a) aA7 aA0 aA0]
theorem I1(y:aC)(a:aR y<=9223372036854775807):wu FU y=some (eY y&&decide (aR y<=70)):=by
 unfold wu;rw [js y a,aY];cases eY y with
 |true=>simp;omega
 |false=>rfl
theorem HG(h r:aC×aC)(e:HH h=some r):YK r/\(jP h.1).2=0/\r.1=(jP h.1).1/\(Pz r.1 h.2).2=0/\r.2=(Pz r.1 h.2).1/\h.2.length<=1024:=by
 unfold HH V8 at e;split at e
 ·rename_i b;split at e
  ·rename_i a;obtain rfl:=aJ e;exact⟨⟨Dy _ b,a.2.2⟩,b,rfl,a.2.1,rfl,a.1⟩
  ·cases e
 ·cases e
theorem Jv(x r:PU)(e:Yi x=some r):r.2=x.2/\jC HH x.1=some r.1/\okU r:=by
 unfold Yi at e;split at e
 ·rename_i f;obtain⟨m,a,rfl⟩:=bX.1 e;obtain⟨g,d⟩:=dk _ _ _ a;refine⟨rfl,a,by dsimp only;omega,fun h c=> ?_⟩;obtain⟨z,_,b⟩:=d h c;exact(HG z h b).1
 ·cases e
def gq (l : PL) (y : aC) : aC × UInt8 :=
  if (eY y = true /\ y.length <= 70) /\ 1 <= l.length /\ l.length <= 8 then
    (match jC Yi l with
     | none => ([], 2)
     | some v => if v.any (fun x => Ac y x.2) = true then ([], 7) else if 8192 < (pz y v).length then ([], 4) else (pz y v, 0))
  else ([], 2)
theorem ZN(y:aC)(B:aR y<=9223372036854775807)(l:PL)(s:∀x∈l,(∀h∈x.1,aR h.1<=4194304)/\x.2.length<=1000000):uf FU l y=some (gq l y):=by
 unfold uf gq;rw [I1 y B,aY];by_cases m:eY y=true/\y.length<=70
 ·obtain⟨j,a⟩:=m;rw [j,aK a,Bool.and_self,jM,aG];by_cases w:(aR l:Int)<1
  ·rw [aB w,aA aA0];rfl
  ·rw [aA w];by_cases u:(8:Int)<(aR l:Int)
   ·rw [aK u,aA aA0];rfl
   ·have G:=Z2 l aA0 s l [] [] FU rfl aA6 rfl;have p:um FU l FU (iZ (aZ (aR l:Int)) ([],[])) (0:Int)=some (jnJ [] (jC Yi l)):=by rw [iY];exact G
    have D:∀(f:Type) (i:Decidable (0<=(aR l:Int)/\(48:Int)*(aR l:Int)<=281474976710656)) (k:Option f), @gd f _ i k=k:=fun f i k=> @bA _ _ i _ ⟨aA0,aA0⟩;rw [aO u,aY,aG,D,p,aY,aB ⟨⟨rfl,a⟩,aA0,aA0⟩];cases C:jC Yi l with
    |none=>rfl
    |some v=>
     have H:jnJ [] (some v)=.inl v:=rfl;rw [H];obtain⟨I,q⟩:=dk _ _ _ C;have b:∀x∈v,aR x.2<=1000000:=fun x hx=>by obtain⟨z,r,e⟩:=q x hx;rw [(Jv z x e).1];exact(s z r).2
     have g:∀x∈v,okU x:=fun x hx=>by obtain⟨z,r,e⟩:=q x hx;exact(Jv z x e).2.2
     have F:=Z1 y a v aA0 b v [] FU rfl aA6;have o:uo FU y v FU (0:Int)=_:=F;have E:=Z0 y a v aA0 b g v [] FU [] rfl aA6 aA2;have n:xf FU y v FU [] (0:Int)=_:=E;show gd _ (Option.bind (uo FU y v FU (0:Int)) _)=_;rw [bA aA5,o,aY];by_cases d:v.any (fun x=>Ac y x.2)=true
     ·rw [aB d];dsimp only;rw [aB d];rfl
     ·rw [aA d];dsimp only;rw [aA d];show Option.bind _ _=_;rw [n,aY,mQ];have A:v.flatMap (Pg y)++((([45,45]:aC)++y)++([45,45,13,10]:aC))=pz y v:=by unfold pz fG;simp
      by_cases t:8192<(v.flatMap (Pg y)).length
      ·rw [aB t,aB (by rw [<-A,bM];omega)];rfl
      ·rw [aA t];show gd _ (gd _ (gd _ _))=_;rw [bA aB2,bA aB2,bA aB2,A];by_cases c:8192<(pz y v).length
       ·rw [aB aA0,aB c]
       ·rw [aA aA0,aA c]
 ·have:(eY y&&decide (aR y<=70))=false:=by
   cases h:eY y&&decide (aR y<=70)with
   |false=>rfl
   |true=>rw [fS,aV]at h;exact absurd h m
  rw [this];show some (([]:List UInt8),(2:UInt8))=_;rw [aA (fun h=>m h.1)]
open Go.Lib renaming hasPrefix → eZ, index → cE, trimPrefix → eJ
open List renaming drop → bN, isPrefixOf → Ou, length → aR
def zZ(s:aC):Bool:=decide (s.drop (aR s-2)=[13,10])
theorem DV(t:aC):zZ (t++[13,10])=true:=by unfold zZ;rw [bM,show([13,10]:aC).length=2 from rfl,Nat.add_sub_cancel,Fq];exact aK rfl
theorem RF(s:aC)(h:zZ s=true):∃t,s=t++[13,10]:=by have:=JF (aR s-2) s;rw [cA h]at this;exact⟨_,this.symm⟩
theorem WM(s:aC)(b:aR s<=1000000):uw FU s [13,10]=some (zZ s):=by
 unfold uw agv zZ;have a:((([13,10]:aC).length:Nat):Int)=2:=rfl;rw [a];by_cases h:(2:Int)<=(aR s:Int)
 ·have e:aZ ((aR s:Int)-2)=aR s-2:=by omega
  rw [aB h,bA ⟨aA0,aA0⟩,bA aA0,e];rfl
 ·rw [aA h,aO]
  ·rfl
  ·intro e;have:=bD aR e;rw [iX]at this;simp only [bR,eO]at this;omega
theorem ou(s p:aC):ajg FU s p=some (eZ s p):=by have:=A0 s p;unfold uq ate at this;unfold ajg agw;exact(bD (fun o=>Option.bind o some) this).trans rfl
def jl(T y:aC)(a:Nat):Option (Int×Int×Bool):=
 if 0<a/\zZ (T.take a)=false then none
 else if EE (T.drop (a+(aR y+2)))=[]then some ((a:Int),(aR T:Int),eZ (T.drop (a+(aR y+2))) [45,45])
 else if eZ (EE (T.drop (a+(aR y+2)))) [13,10]=true then some ((a:Int),(aR T:Int)-((EE (T.drop (a+(aR y+2)))).length:Int)+2,eZ (T.drop (a+(aR y+2))) [45,45])
 else none
def dRs(rec:Int->Option ((Int×Int×Bool)×Bool))(a:Nat):Option (Int×Int×Bool)->Option ((Int×Int×Bool)×Bool)
 |some d=>some (d,true)
 |none=>rec ((a:Int)+1)
theorem bk(R:aC):(EE R).length<=aR R:=by
 unfold EE;have b:=avt cC (eJ R [45,45]);have a:(eJ R [45,45]).length<=aR R:=by
  unfold eJ;split
  ·rw [iX];omega
  ·exact eV _
 omega
theorem W0(T y:aC)(x:aR T<=100000)(u:aR y<=100000)(rec:Int->Option ((Int×Int×Bool)×Bool))(b i:Nat)(h:b<=aR T)(n:cE (T.drop b) (fG y)=(i:Int))(l:b+i+(aR y+2)<=aR T):
  aei FU T y rec (b:Int)=dRs rec (b+i) (jl T y (b+i)):=by
 have t:([45,45]:aC)++y=fG y:=rfl;have s:min (b:Int) (aR T:Int)=(b:Int):=aA0;have r:(b:Int)+(i:Int)=((b+i:Nat):Int):=aA0;have q:((fG y).length:Int)=((aR y+2:Nat):Int):=rfl;unfold aei;simp only [t,s,iY,n,r,q];have p:((b+i:Nat):Int)+((aR y+2:Nat):Int)=((b+i+(aR y+2):Nat):Int):=aA0;simp only [p,iY];generalize b+i=a at l;have w:(T.drop b).length<=aR T:=aB9
 have o:O1 FU (eJ (T.drop (a+(aR y+2))) [45,45]) 0=some ((dQ cC (eJ (T.drop (a+(aR y+2))) [45,45]):Nat):Int):=by
  have v:(eJ (T.drop (a+(aR y+2))) [45,45]).length<=aR T:=by
   unfold eJ;split
   ·rw [iX,iX];omega
   ·rw [iX];omega
  rw [nT _ aA0,ayl]
 have k:dQ cC (eJ (T.drop (a+(aR y+2))) [45,45])<=(eJ (T.drop (a+(aR y+2))) [45,45]).length:=by
  have:=qA cC (eJ (T.drop (a+(aR y+2))) [45,45]) 0
  rwa [ayl]at this
 have m:bN (dQ cC (eJ (T.drop (a+(aR y+2))) [45,45])) (eJ (T.drop (a+(aR y+2))) [45,45])=EE (T.drop (a+(aR y+2))):=ayg _ _;have g:=bk (T.drop (a+(aR y+2)));rw [iX]at g;have d:(((if(0:Int)<(a:Int)then(gd (0<=(a:Int)/\(a:Int)<=(aR T:Int))<|((uw FU (T.take a) ([13,10]:aC)).bind fun(c:Bool)=>some (!c)))else some false)))=some (decide (0<a/\zZ (T.take a)=false)):=by
  by_cases j:0<a
  ·rw [aB aA0,bA aA0,WM _ aC4,aY];cases zZ (T.take a)<;>simp [j]
  ·rw [aA aA0,aO (fun h=>j h.1)]
 rw [bA aA0,bA aA0,aA aA0,bA ⟨aA0,aA0⟩,d,aY];unfold jl;by_cases f:0<a/\zZ (T.take a)=false
 ·rw [aB f,aK f,aL,bA ⟨aA0,aA0⟩];rfl
 ·rw [aA f,aO f,aG,bA ⟨aA0,aA0⟩,bA aA0,o,aY,iY,bA aA0,m];by_cases e:EE (T.drop (a+(aR y+2)))=[]
  ·rw [aB e,aB e];rfl
  ·rw [aA e,aA e,ou,aY];cases z:eZ (EE (T.drop (a+(aR y+2)))) [13,10]with
   |true=>rw [aL,bA ⟨aA0,aA0⟩,bA ⟨aA0,aA0⟩,aB rfl];rfl
   |false=>rw [aG,bA ⟨aA0,aA0⟩,aA aA1];rfl
theorem Kl(T p:aC)(a j:Nat):Lib.occAt (T.drop a) p j=Lib.occAt T p (a+j):=by unfold Lib.occAt;rw [JE]
theorem LF(T y:aC)(x:aR T<=100000)(s:aR y<=100000)(n:Nat)(d:Int×Int×Bool)(g:Lib.occAt T (fG y) n=true)(w:jl T y n=some d):∀(m a c:Nat),n=a+m->m<c->(∀j,a<=j->j<n->Lib.occAt T (fG y) j=true->jl T y j=none)->yb FU T y c (a:Int)=some (d,true):=by
 have b:∀j,Lib.occAt T (fG y) j=true->j+(aR y+2)<=aR T:=fun j q=>by
  rcases Lib.occAt_room q with h|h
  ·exact h
  ·cases h
 intro m;induction m using Nat.strongRecOn with
 |ind m r=>
 intro a c k C f;obtain⟨c,rfl⟩:=dY c;have t:=b n g;have o:a<=aR T:=aA0;rcases Lib.index_spec (T.drop a) (fG y)with⟨_,A⟩|⟨i,B,_,p,z⟩
 ·have:=A m aB9;rw [Kl,<-k,g]at this;cases this
 ·rw [Kl]at p;have u:i<=m:=by
   rcases tE m i with h|h
   ·have:=z m h;rw [Kl,<-k,g]at this;cases this
   ·exact h
  rw [apa,W0 T y x s _ a i o B (b _ p)];by_cases v:i=m
  ·rw [v,<-k,w];rfl
  ·rw [f (a+i) aA0 aA0 p];show yb FU T y c (((a+i:Nat):Int)+1)=_;have e:((a+i:Nat):Int)+1=((a+i+1:Nat):Int):=by omega
   rw [e];exact r (m-i-1) aA0 (a+i+1) c aA0 aA0 (fun j q l=>f j aA0 l)
theorem ta(Z:aC):EE (13::10::Z)=13::10::Z:=by unfold EE;rw [VM _ _ (by simp [eZ,Ou])];rfl
theorem sy(Z:aC):EE (45::45::13::10::Z)=13::10::Z:=by unfold EE;have:(45::45::13::10::Z:aC)=[45,45]++13::10::Z:=rfl;rw [this,Ug];rfl
def kW(last:Bool)(Z:aC):aC:=bif last then 45::45::13::10::Z else 13::10::Z
theorem MY(A y Z:aC)(last:Bool)(d:A=[]\/∃t,A=t++[13,10]):jl (A++(fG y++kW last Z)) y A.length=some ((aR A:Int),((aR A+(aR y+2)+(bif last then 4 else 2):Nat):Int),last):=by
 have b:(A++(fG y++kW last Z)).take A.length=A:=Ov;have a:(A++(fG y++kW last Z)).drop (aR A+(aR y+2))=kW last Z:=by
  have:aR A+(aR y+2)=(A++fG y).length:=by rw [bM];rfl
  rw [this,<-gJ,Fq]
 have e:¬(0<aR A/\zZ A=false):=by
  rcases d with rfl|⟨t,rfl⟩
  ·intro h;exact absurd h.1 aA1
  ·rw [DV];intro h;cases h.2
 have c:((A++(fG y++kW last Z)).length:Int)=(aR A:Int)+((aR y+2:Nat):Int)+((kW last Z).length:Int):=by simp only [bM,fG,bR];omega
 unfold jl;rw [b,aA e,a,c];cases last with
 |true=>unfold kW;rw [aL,sy,aA aA2,aB (by simp [eZ,Ou])];refine bD some ?_;rw [bQ,bQ];refine⟨rfl, ?_,by simp [eZ,Ou]⟩;simp only [bR,aL];omega
 |false=>unfold kW;rw [aG,ta,aA aA2,aB (by simp [eZ,Ou])];refine bD some ?_;rw [bQ,bQ];refine⟨rfl, ?_,by simp [eZ,Ou]⟩;simp only [bR,aG];omega
theorem yU(A p R:aC):Lib.occAt (A++(p++R)) p A.length=true:=by unfold Lib.occAt;rw [Fq];exact eM.2 ⟨R,rfl⟩
theorem YQ(y:aC)(Z:aC)(a:(fG y++kW false Z).length<=100000):kj FU (fG y++kW false Z) 0 y=some (((0:Int),((aR y+4:Nat):Int),false),true):=by
 have b:aR y<=100000:=by rw [bM]at a;unfold fG at a;simp only [bR]at a;omega
 unfold kj;rw [bA aB5];have d:=MY [] y Z false (.inl rfl);have c:=yU [] (fG y) (kW false Z);rw [mQ]at d c;have f:=LF (fG y++kW false Z) y a b 0 _ c d 0 0 FU rfl aA6 (fun j _ e=>absurd e (Nat.not_lt_zero _));refine f.trans ?_;refine bD some ?_;rw [bQ,bQ,bQ];refine⟨⟨rfl, ?_,rfl⟩,rfl⟩;simp only [eO,aG];omega
theorem W1(y:aC)(v:eY y=true)(b body Z:aC)(a:eC)(last:Bool)(x:∀h∈a,Ko h)(i:∀Z,body≠fG y++Z)(g:∀A Z,body≠A++13::10::(fG y++Z))
  (T:aC) (k:T=b++13::10::(fF a++13::10::(body++13::10::(fG y++kW last Z)))) (K:aR T<=100000):
  kj FU T ((b.length+2:Nat):Int) y=some ((((b.length+(fF a).length+aR body+6:Nat):Int),((b.length+(fF a).length+aR body+6+(aR y+2)+(bif last then 4 else 2):Nat):Int),last),true):=by
 have m:T=(b++13::10::(fF a++13::10::(body++[13,10])))++(fG y++kW last Z):=by rw [k];simp
 have l:(b++13::10::(fF a++13::10::(body++[13,10]))).length=b.length+(fF a).length+aR body+6:=aB2;have r:=bD aR m;rw [bM,l,bM]at r;have H:(fG y).length=aR y+2:=rfl;have o:aR y<=100000:=aA0;have E:=MY (b++13::10::(fF a++13::10::(body++[13,10]))) y Z last (.inr ⟨b++13::10::(fF a++13::10::body),aA2⟩);have D:=yU (b++13::10::(fF a++13::10::(body++[13,10]))) (fG y) (kW last Z);rw [<-m,l]at E D;unfold kj;rw [bA aB5];refine LF T y K o _ _ D E ((fF a).length+aR body+4) (b.length+2) FU aA0 aA6 fun j N J G=> ?_;cases e:jl T y j with
 |none=>rfl
 |some d=>
  exfalso;obtain⟨R,z⟩:=eM.1 (show Ou (fG y) (T.drop j)=true from G);have c:=JF j T;rw [<-z]at c;have q:T.drop (j+(aR y+2))=R:=by rw [<-JE,<-z];exact Fq (l₁:=fG y)
  unfold jl at e;rw [q]at e;by_cases p:0<j/\zZ (T.take j)=false
  ·rw [aB p]at e;cases e
  ·rw [aA p]at e;have s:zZ (T.take j)=true:=by
    cases s:zZ (T.take j)with
    |true=>rfl
    |false=>exact absurd ⟨aA0,s⟩ p
   obtain⟨t,w⟩:=RF _ s;have I:j<=aR T:=by have:=bD aR c;rw [bM,kR,bM]at this;unfold fG at this;simp only [bR]at this;omega
   have F:aR t+2=j:=by have:=bD aR w;rw [kR,bM]at this;simp only [bR,eO]at this;omega
   have f:vi R=true:=by
    unfold vi;by_cases C:EE R=[]
    ·rw [aK C];rfl
    ·rw [aA C]at e;by_cases B:eZ (EE R) [13,10]=true
     ·rw [B,JD]
     ·rw [aA B]at e;cases e
   rw [w,k]at c;have M:b++13::10::(fF a++13::10::(body++13::10::(fG y++kW last Z)))=t++13::10::(fG y++R):=by rw [<-c];simp
   rcases gN.1 M with⟨A,u,n⟩|⟨A,u,n⟩
   ·refine Jz y v body (fG y++kW last Z) i g R f a A x n ?_;have:=bD aR u;rw [bM]at this;omega
   ·have:=bD aR u;rw [bM]at this;have L:A=[]:=Fp aA0;rw [L,mQ]at n;exact Jz y v body (fG y++kW last Z) i g R f a [] x n.symm aA2
open Go.Lib renaming cut → cW, index → cE, join → dA
structure Yn (h:aC×aC):Prop where
 tok:eY h.1=true
 can:jP h.1=(h.1,0)
 tdy:Pz h.1 h.2=(h.2,0)
 trm:cH h.2=h.2
 ctl:h.2.any eW=false
 zm:YK h
variable {h:aC×aC}
theorem Yn.ok(k:Yn h):Ko h:=⟨k.tok,fun c a e=>by have:=dX.1 k.ctl c a;rw [e]at this;exact this aA1⟩
theorem Yn.hd(k:Yn h):HH h=some h:=by have a:=k.zm.2;unfold HH V8;rw [k.can,aB rfl,k.tdy,aB ⟨a,rfl,a⟩]
def gP(h:aC×aC):aC:=h.1++58::32::h.2
def Fz(h:aC×aC):aC:=h.1++58::(if h.2=[]then []else 32::h.2)
theorem qV(k:Yn h):∃c l,h.1=c::l/\cB c=true:=by
 obtain⟨d,b⟩:=Qd k.tok;cases a:h.1 with
 |nil=>exact absurd a d
 |cons c l=>rw [a,Ej,fS]at b;exact⟨c,l,rfl,b.1⟩
theorem mB:∀c:UInt8,cB c=true->cC c=false/\eW c=false/\c≠58/\c≠13:=eA _ aA3
theorem ZB(h:aC×aC)(k:Yn h):cH (gP h)=Fz h:=by
 obtain⟨c,l,i,g⟩:=qV k;have f:∀x,(h.1++x).head? =some c:=fun x=>by rw [i];rfl
 unfold gP Fz;by_cases b:h.2=[]
 ·rw [aB b,b];have e:h.1++58::32::[]=(h.1++[58])++[32]:=by simp
  rw [e,Ql _ _ rfl];refine I8 _ (fun d a=> ?_) (fun d a=> ?_)
  ·rw [f]at a;rw [<-aJ a];exact(mB c g).1
  ·rw [L6]at a;rw [<-aJ a];decide
 ·rw [aA b];refine I8 _ (fun d a=> ?_) ?_
  ·rw [f]at a;rw [<-aJ a];exact(mB c g).1
  ·have e:h.1++58::32::h.2=(h.1++[58,32])++h.2:=by simp
   rw [e];exact N8 _ _ b (oM _ k.trm).2
theorem rl_eq(h:aC×aC)(k:Yn h):amg FU (Fz h)=some (h,0):=by
 obtain⟨J,s⟩:=k.zm;have d:=(Qd k.tok).2;have q:cE (Fz h) [58]=(aR h.1:Int):=by
  have B:∀b∈h.1,b≠58:=fun b C=>(mB b (aT.1 d b C)).2.2.1;rcases CS 58 (Fz h)with⟨_,F⟩|⟨f,H,t,m,G⟩
  ·exact absurd rfl (F 58 (by unfold Fz;simp))
  ·rw [G];unfold Fz at t;rcases gN.1 t with⟨a,i,n⟩|⟨a,i,n⟩
   ·cases a with
    |nil=>rw [i];simp
    |cons b a=>have:(58:UInt8)=b:=(bF n).1;exact absurd this.symm (m b aE7)
   ·cases a with
    |nil=>rw [i];simp
    |cons b a=>have:(58:UInt8)=b:=(bF n).1;exact absurd this.symm (B b aE7)
 have l:cW (Fz h) [58]=(h.1,(if h.2=[]then []else 32::h.2),true):=by
  rw [wP,aA (by rw [q];omega),q,iY];unfold Fz;rw [Ov];have e:aR h.1+([58]:aC).length=(h.1++[58]).length:=aA2;have m:∀x:aC,h.1++58::x=(h.1++[58])++x:=fun x=>by simp
  rw [e,m (if h.2=[]then []else 32::h.2),Fq]
 have z:Lib.trimRightS h.1 [32,9]=h.1:=by
  unfold Lib.trimRightS;rw [uF];exact(by
   have E:ND h.1:=ju cB (fun c l=>(mB c l).1) _ d;rcases vO h.1 with e|⟨y,a,e⟩
   ·rw [e];rfl
   ·rw [vQ]at e;have D:=E a (by rw [e];simp);rw [e,List.reverse_append,JA,Yf,iG,D];simp:(h.1.reverse.dropWhile cC).reverse=h.1)
 have w:Lib.trimS (if h.2=[]then []else 32::h.2) [32,9]=h.2:=by
  rw [xV];by_cases j:h.2=[]
  ·rw [aB j,j];rfl
  ·rw [aA j];exact(Iw [32] h.2 rfl).trans k.trm
 have I:(Fz h).length<=2000:=by
  unfold Fz;rw [bM,bR];split
  ·simp;omega
  ·rw [bR];omega
 have A:(if h.2=[]then([]:aC)else 32::h.2).length<=2000:=by
  split
  ·simp
  ·rw [bR];omega
 obtain⟨r,v,u⟩:=YP h.1 h.2 aA0;have p:V8 h.1 h.2=some h:=by unfold V8;rw [k.tdy,aB ⟨s,rfl,s⟩]
 unfold amg;rw [bA aA0,l];dsimp only;rw [jM,aG,bA aA0,bA aA1,z,Ak _ aA0,k.can,aY];dsimp only;rw [aB rfl,bA aA0,bA aA1,w,v,aY];rcases u with⟨o,g⟩|⟨o,g⟩
 ·rw [p]at g;rw [<-aJ g,o]
 ·rw [p]at g;cases g
def AS:Nat->eC->dP
 |_,[]=>[]
 |k,h::a=>((k:Int),Fz h)::AS (k+(gP h).length+2) a
theorem uc(A B:aC)(c:UInt8):at_ (A++c::B) (aR A:Int)=c:=by rw [II];simp
theorem Zm(T:aC)(i:aR T<=100000):∀(L P Z:aC) (a:Nat),T=P++(L++Z)->L.any eW=false->ur FU T (a+aR L) (aR P:Int)=ur FU T a ((P++L).length:Int)
 |[],P,Z,a,h,b=>by rw [gA];rfl
 |c::L,P,Z,a,h,b=>by
  rw [Ol,gU]at b;have d:=bD aR h;simp only [bM,bR]at d;have g:at_ T (aR P:Int)=c:=by rw [h,II];simp
  have f:((aR P:Int)+1)=((P++[c]).length:Int):=aA2;have e:=Zm T i L (P++[c]) Z a aA7 b.2;rw [bR,<-Bn,arj,ake,aB aA0,bA aA0,g,axt,aY,b.1,xI,aL,bA (eT _ aA0 aA0),f,e];simp
theorem Qo(T:aC)(o:aR T<=100000):∀(b:eC) (P:aC) (d:Nat),(∀h∈b,Yn h)->T=P++fF b->(fF b).length<d->ur FU T d (aR P:Int)=some (.inl ())
 |[],P,d,_,h,s=>by obtain⟨d,rfl⟩:=dY d;rw [arj,ake,aA (by rw [h];simp [fF])]
 |a::b,P,d,n,h,s=>by
  have m:=n a fQ;have e:=dc a b [];rw [gA,gA]at e;have j:=bD aR h;have p:=bD aR e;have f:(gP a).any eW=false:=by unfold gP;rw [gR,Uh m.tok,Ol,Ol,m.ctl];decide
  have i:T=P++(gP a++13::10::fF b):=by rw [h,e];rfl
  have q:(fF (a::b)).length=(gP a).length+2+(fF b).length:=by rw [e];unfold gP;simp only [bM,bR];omega
  rw [bM]at j;obtain⟨g,rfl⟩:∃g,d=(g+1)+(gP a).length:=⟨d-(gP a).length-1,aA0⟩;rw [Zm T o (gP a) P (13::10::fF b) (g+1) i f];have c:T=(P++gP a)++13::10::fF b:=aE7;have k:aR T=(P++gP a).length+2+(fF b).length:=by have:=bD aR c;rw [bM]at this;simp only [bR]at this;omega
  have t:at_ T ((P++gP a).length:Int)=13:=by rw [c,II];simp
  have l:at_ T (((P++gP a).length:Int)+1)=10:=by
   have v:((P++gP a).length:Int)+1=(((P++gP a)++[13]).length:Int):=aA5;have u:T=((P++gP a)++[13])++10::fF b:=by rw [c];simp
   rw [v,u,uc]
  have r:((P++gP a).length:Int)+1+1=(((P++gP a)++[13,10]).length:Int):=aA5;rw [arj,ake,aB aA0,bA aA0,t,axt,aY,show eW 13=true by decide,jM,aG,bA aA0,aB rfl,bA ⟨aA0,aA0⟩,aA aA0,bA ⟨aA0,aA0⟩,bA aA0,l,aB rfl,bA ⟨aA0,aA0⟩,bA ⟨aA0,aA0⟩,r];exact Qo T o b ((P++gP a)++[13,10]) g (fun x hx=>n x (fB _ hx)) (by rw [c];simp) aA0
theorem DC(L Z:aC)(d:∀c∈L,c≠13):cE (L++13::10::Z) [13,10]=(aR L:Int):=by
 refine Lib.index_first aC2 ?_ fun j b=> ?_
 ·exact yU L [13,10] Z
 ·cases a:Lib.occAt (L++13::10::Z) [13,10] j with
  |false=>rfl
  |true=>have:=Lib.occAt_head (c:=13) (t:=[10]) rfl a;rw [aH b]at this;exact absurd rfl (d 13 (aI this))
theorem XE(h:aC×aC)(k:Yn h)(a:Int):dt FU a (gP h) [] []=some (0,[Fz h],[(a,[])]):=by
 obtain⟨c,l,e,f⟩:=qV k;obtain⟨m,j⟩:=k.zm;have d:gP h≠[]:=by unfold gP;simp
 have i:(gP h).length<=2000:=by unfold gP;simp;omega
 have g:at_ (gP h) (0:Int)=c:=by unfold gP;rw [e];rfl
 have b:Fz h≠[]:=by unfold Fz;simp
 unfold dt;rw [aA d,bA (by have:=bK.2 d;omega),g,vt,aY,(mB c f).1,xI,aY,aL,aA aA1,aY,bA aA2,bA aA2,aY,bA aA0,bA aA1,xV,ZB h k,aA b,bA aA2];rfl
theorem T5(h:aC×aC)(k:Yn h)(a o:Int)(t:aC)(g:dP)(r:aR t<=2000)(u:aR g<=100000):dt FU a (gP h) [t] (g++[(o,[])])=some (0,[Fz h],(g++[(o,t)])++[(a,[])]):=by
 obtain⟨c,l,j,p⟩:=qV k;obtain⟨w,v⟩:=k.zm;have e:gP h≠[]:=by unfold gP;simp
 have s:(gP h).length<=2000:=by unfold gP;simp;omega
 have q:at_ (gP h) (0:Int)=c:=by unfold gP;rw [j];rfl
 have d:Fz h≠[]:=by unfold Fz;simp
 have f:((g++[(o,([]:aC))]).length:Int)=(aR g:Int)+1:=aA2;have i:el (g++[(o,([]:aC))]) (aR g:Int)=(o,[]):=by simp [el]
 have b:jV (g++[(o,([]:aC))]) g.length (o,t)=g++[(o,t)]:=aA2;have m:dA [t] [32]=t:=Z3 t [32];have n:(aR g:Int)+1-1=(aR g:Int):=aA0;unfold dt;rw [aA e,bA (by have:=bK.2 e;omega),q,vt,aY,(mB c p).1,xI,aY,aL,f,aB aA0,bA ⟨aA0,aA0⟩,m,bA ⟨aA2,aA0⟩,n,bA aA0,bA aA0,i,iY,b,aY,bA aA5,bA aA2,aY,bA aA0,bA aA1,xV,ZB h k,aA d,bA aA2];rfl
theorem LL(h:aC×aC)(k:Yn h):(Fz h).length<=2000:=by
 obtain⟨b,a⟩:=k.zm;unfold Fz;rw [bM,bR];split
 ·simp;omega
 ·rw [bR];omega
theorem fz(T:aC)(z:aR T<=100000):∀(b:eC) (P:aC) (c:Nat) (g:dP) (o:Int) (t:aC),(∀h∈b,Yn h)->T=P++fF b->aR b<c->aR t<=2000->aR g+aR b<=1000->
  ∃j o' t',yd FU T c (aR P:Int) [t] (g++[(o,[])])=some ([t'],j++[(o',[])],0)/\j++[(o',t')]=(g++[(o,t)])++AS P.length b/\t'.length<=2000
 |[],P,c,g,o,t,_,h,q,l,p=>by obtain⟨c,rfl⟩:=dY c;refine⟨g,o,t, ?_,by simp [AS],l⟩;rw [ach,ye,aA (by rw [h];simp [fF])]
 |a::b,P,c,g,o,t,n,h,q,l,p=>by
  obtain⟨c,rfl⟩:=dY c;have k:=n a fQ;have e:=dc a b [];rw [gA,gA]at e;have d:T=P++(gP a++13::10::fF b):=by rw [h,e];rfl
  have i:=bD aR d;simp only [bM,bR]at i;have r:T.drop P.length=gP a++13::10::fF b:=by rw [d,Fq]
  have m:cE (T.drop P.length) [13,10]=((gP a).length:Int):=by rw [r];exact DC _ _ (MH a k.ok)
  have f:sub T (aR P:Int) ((aR P:Int)+((gP a).length:Int))=gP a:=by unfold sub;rw [iY,r];have:aZ ((aR P:Int)+((gP a).length:Int))-aR P=(gP a).length:=aA0;rw [this,Ov]
  have w:((aR P:Int)+(((gP a).length:Int)+2))=((P++(gP a++[13,10])).length:Int):=aA2;have A:(P++(gP a++[13,10])).length=aR P+(gP a).length+2:=aA5;have y:(T.drop P.length).length<=100000:=aB9;simp only [bR]at q p;obtain⟨j,o',t',v,u,s⟩:=fz T z b (P++(gP a++[13,10])) c (g++[(o,t)]) (aR P:Int) (Fz a) (fun x hx=>n x (fB _ hx)) aD1 aA0 (LL a k) aA5;refine⟨j,o',t', ?_, ?_,s⟩
  ·rw [ach,ye,aB aA0,bA aA0,iY,bA aA0,m,aA aA0,bA ⟨aA0,aA0⟩,bA aA0,f,T5 a k _ o t g l aA0,aY];dsimp only;rw [aB rfl,bA ⟨aA0,aA0⟩,bA ⟨aA0,aA0⟩,w,v]
  ·rw [u,A,AS];simp
theorem zf(a:aC×aC)(f:eC)(B:∀h∈a::f,Yn h)(W:aR f<=100)(H:(fF (a::f)).length<=100000):aqq FU (fF (a::f))=some (AS 0 (a::f),0,0):=by
 have u:=B a fQ;obtain⟨c,l,L,P⟩:=qV u;have e:=dc a f [];rw [gA,gA]at e;have d:fF (a::f)=gP a++13::10::fF f:=e;generalize j:fF (a::f)=T at H d;have r:=bD aR d;simp only [bM,bR]at r;have q:T≠[]:=by rw [d];unfold gP;simp
 have S:at_ T (0:Int)=c:=by rw [d];unfold gP;rw [L];rfl
 have y:=Qo T H (a::f) [] FU B j.symm (by rw [j,iD];omega);have o:ur FU T FU (0:Int)=some (.inl ()):=y;have z:zZ T=true:=by
  rw [<-j]
  have:∀(l:eC) (x:aC×aC),∃t,fF (x::l)=t++[13,10]:=by
   intro l;induction l with
   |nil=>intro x;exact⟨gP x,by simp [fF,iN,gP]⟩
   |cons b l v=>intro x;obtain⟨t,w⟩:=v b;refine⟨iN x++t, ?_⟩;have:fF (x::b::l)=iN x++fF (b::l):=rfl;rw [this,w,gJ]
  obtain⟨t,w⟩:=this f a;rw [w];exact DV t
 have G:T.drop (aZ 0)=gP a++13::10::fF f:=by rw [d];rfl
 have C:cE (T.drop (aZ 0)) [13,10]=((gP a).length:Int):=by rw [G];exact DC _ _ (MH a u.ok)
 have n:sub T (0:Int) ((0:Int)+((gP a).length:Int))=gP a:=by unfold sub;rw [G];have:aZ ((0:Int)+((gP a).length:Int))-aZ 0=(gP a).length:=aA0;rw [this,Ov]
 have N:((0:Int)+(((gP a).length:Int)+2))=((gP a++[13,10]).length:Int):=aA2;have Q:(gP a++[13,10]).length=0+(gP a).length+2:=aA2;obtain⟨U,s⟩:∃m,FU=m+1:=⟨FU-1,by rw [iD]⟩
 obtain⟨g,o',t',K,J,V⟩:=fz T H f (gP a++[13,10]) U [] (0:Int) (Fz a) (fun x hx=>B x (fB _ hx)) aD1 (by rw [iD]at s;omega) (LL a u) aA5;have A:yd FU T FU (0:Int) [] []=some ([t'],g++[(o',[])],0):=by
  conv=>lhs;arg 3;rw [s]
  rw [ach,ye,aB aA0,bA aA0,bA (by rw [G,<-d];omega),C,aA aA0,bA ⟨aA0,aA0⟩,bA aA0,n,XE a u,aY];dsimp only;rw [aB rfl,bA ⟨aA0,aA0⟩,bA ⟨aA0,aA0⟩,N];exact K
 have i:g++[(o',t')]=AS 0 (a::f):=by rw [J,Q,AS];rfl
 have E:((g++[(o',([]:aC))]).length:Int)=(aR g:Int)+1:=aA2
 have O:aR g<=100:=by
  have I:=bD aR i;have R:∀(l:eC) (k:Nat),(AS k l).length=aR l:=by
   intro l;induction l with
   |nil=>intro k;rfl
   |cons b l v=>intro k;rw [AS,bR,v,bR]
  rw [R,bM]at I;simp only [bR,eO]at I;omega
 have F:el (g++[(o',([]:aC))]) (aR g:Int)=(o',[]):=by simp [el]
 have p:jV (g++[(o',([]:aC))]) g.length (o',t')=g++[(o',t')]:=aA2;have M:dA [t'] [32]=t':=Z3 t' [32];have D:(aR g:Int)+1-1=(aR g:Int):=aA0;unfold aqq avu aqv adr;rw [aA q,bA (by have:=bK.2 q;omega),S,vt,aY,(mB c P).1,aG,o,aY];simp only [pR,aY,aG];rw [WM T aA0,z,aY,jM,aG,A,aY];dsimp only;rw [aB rfl,E,bA ⟨aA0,aA0⟩,M,bA ⟨aA2,aA0⟩,D,bA aA0,bA aA0,F,iY,p,i]
open Go.Lib renaming cut → cW, hasPrefix → eZ, index → cE
theorem Vu:∀(l:eC) (k:Nat),(AS k l).length=aR l
 |[],_=>rfl
 |a::l,k=>by rw [AS,bR,Vu l,bR]
theorem zw(y:dP×Int×UInt8)(q:eC):∀(c:dP) (k d:Nat) (b:eC),y.1=c++AS k q->(∀h∈q,Yn h)->aR q<d->aR b+aR q<=64->c.length+aR q<=1000->
  xu FU y d (c.length:Int) b=some (.inl (b++q)):=by
 induction q with
 |nil=>intro c k d b h f j l i;obtain⟨d,rfl⟩:=dY d;rw [anl,ahd,aA (by rw [h];simp [AS]),gA]
 |cons a q n=>
  intro c k d b h f j l i;obtain⟨d,rfl⟩:=dY d;have m:=f a fQ;have e:=bD aR h;rw [bM,Vu]at e;simp only [bR]at e j l i;have g:(0:Int)<=(c.length:Int)/\(c.length:Int)<(aR y.1:Int):=aA0;have p:el y.1 (c.length:Int)=((k:Int),Fz a):=by rw [h,AS];simp [el]
  have o:((c.length:Int)+1)=((c++[((k:Int),Fz a)]).length:Int):=aA2;rw [anl,ahd,aB g.2,bA g,bA g,p,rl_eq a m,aY];dsimp only;rw [aB rfl,aO aA0,aY,aG,aY,aB rfl,bA aB5,bA ⟨aA0,aA0⟩,o,n (c++[((k:Int),Fz a)]) (k+(gP a).length+2) d (b++[a]) (by rw [h,AS];simp) (fun x hx=>f x (fB _ hx)) aA0 aA5 aA5,gJ,Yf]
theorem ME:∀(l:eC) (x:aC×aC),∃t,fF (x::l)=t++[13,10]
 |[],x=>⟨gP x,by simp [fF,iN,gP]⟩
 |b::l,x=>by obtain⟨t,a⟩:=ME l b;refine⟨iN x++t, ?_⟩;have:fF (x::b::l)=iN x++fF (b::l):=rfl;rw [this,a,gJ]
theorem YD(a:aC×aC)(b:eC)(k:∀h∈a::b,Yn h)(body H:aC)(f:fF (a::b)=H++[13,10]):cW (fF (a::b)++13::10::body) [13,10,13,10]=(H,body,true):=by
 have e:fF (a::b)++13::10::body=H++([13,10,13,10]++body):=by rw [f];simp
 have d:cE (fF (a::b)++13::10::body) [13,10,13,10]=(aR H:Int):=by
  refine Lib.index_first (by rw [e,bM];omega) (by rw [e];exact yU H _ body) fun j o=> ?_;cases i:Lib.occAt (fF (a::b)++13::10::body) [13,10,13,10] j with
  |false=>rfl
  |true=>exfalso;obtain⟨Z,m⟩:=eM.1 (show Ou [13,10,13,10] ((fF (a::b)++13::10::body).drop j)=true from i);have c:=JF j (fF (a::b)++13::10::body);rw [<-m]at c;have g:=CW body (a::b) _ Z aA2 (fun h l=>(k h l).ok) c.symm;rw [kR,f,bM]at g;simp only [bR,eO]at g;omega
 rw [wP,aA (by rw [d];omega),d,iY,e,Ov];have n:aR H+([13,10,13,10]:aC).length=(H++[13,10,13,10]).length:=aA2;rw [n,<-gJ,Fq]
theorem zx(b:eC)(body:aC)(f:∀h∈b,Yn h)(m:aR b<=64)(n:(fF b++13::10::body).length<=100000):amf FU (fF b++13::10::body)=some ((b,body),0,0):=by
 unfold amf;cases b with
 |nil=>have e:fF []++13::10::body=([13,10]:aC)++body:=rfl;rw [e,Hj,aL,Ug]
 |cons a b=>
  have o:=f a fQ;obtain⟨c,l,p,q⟩:=qV o;obtain⟨H,i⟩:=ME b a;have g:eZ (fF (a::b)++13::10::body) [13,10]=false:=by rw [dc,p];have:=(mB c q).2.2.2;simp [eZ,Ou,Ne.symm this]
  have d:=bD aR i;rw [bM]at d n;have k:=Vu (a::b) 0;have r:=zw (AS 0 (a::b),0,0) (a::b) [] 0 FU [] rfl f aA6 (by simpa using m) (by simp only [eO];omega);have j:xu FU (AS 0 (a::b),0,0) FU (0:Int) []=some (.inl (a::b)):=r;simp only [bR]at m n;rw [g,aG,bA aF3,YD a b f body H i];dsimp only;rw [jM,aG,bA (by simp only [bR,eO]at d⊢;omega),<-i,zf a b f aA0 aA0,aY];dsimp only;rw [aB rfl,j];rfl
structure kr (y:aC) (x:PU):Prop where
 len:aR x.1<=64
 hds:∀h∈x.1,Yn h
 no1:∀Z,x.2≠fG y++Z
 no2:∀A Z,x.2≠A++13::10::(fG y++Z)
def Pe(y B:aC)(q:PL):aC:=q.flatMap (Pg y)++(fG y++kW true B)
theorem yC(y B:aC)(a:PU)(q:PL):Pe y B (a::q)=fG y++13::10::(fF a.1++13::10::(a.2++13::10::Pe y B q)):=by unfold Pe Pg;rw [kS];simp
theorem WU(y B:aC)(q:PL):∃Z,Pe y B q=fG y++kW (decide (q=[])) Z:=by
 cases q with
 |nil=>exact⟨B,rfl⟩
 |cons a q=>exact⟨_,yC y B a q⟩
theorem JX(y B T:aC)(p:eY y=true)(t:aR T<=100000)(q:PL)(a:PU)(l:PL)(b:aC)(o:Nat)(h:T=b++Pe y B (a::q))(d:kr y a)(z:aR l<8):
  kd FU T y (o+1) l (b.length:Int) ((b.length+(aR y+4):Nat):Int) false=kd FU T y o (l++[a]) ((b++Pg y a).length:Int) (((b++Pg y a).length+(aR y+2)+(bif decide (q=[])then 4 else 2):Nat):Int) (decide (q=[])):=by
 obtain⟨Z,m⟩:=WU y B q;generalize decide (q=[])=last at m⊢;have c:T=(b++fG y)++13::10::(fF a.1++13::10::(a.2++13::10::(fG y++kW last Z))):=by rw [h,yC,m];simp
 have r:(fG y).length=aR y+2:=rfl;have g:(b++fG y).length+2=b.length+(aR y+4):=aC2;have n:=W1 y p (b++fG y) a.2 Z a.1 last (fun h s=>(d.hds h s).ok) d.no1 d.no2 T c t;have j:(b++Pg y a).length=(b++fG y).length+(fF a.1).length+aR a.2+6:=by unfold Pg;simp only [bM,bR,eO];omega
 have f:=bD aR c;simp only [bM,bR]at f;have u:(b++fG y).length=b.length+(fG y).length:=bM;rw [g,<-j]at n;have k:max (((b++Pg y a).length:Int)-2) ((b.length+(aR y+4):Nat):Int)=((b.length+(aR y+4)+((fF a.1).length+aR a.2+2):Nat):Int):=aA0
 have e:sub T ((b.length+(aR y+4):Nat):Int) ((b.length+(aR y+4)+((fF a.1).length+aR a.2+2):Nat):Int)=fF a.1++13::10::a.2:=by
  unfold sub;rw [iY,iY,vd];have x:T=((b++fG y)++[13,10])++((fF a.1++13::10::a.2)++13::10::(fG y++kW last Z)):=by rw [c];simp
  have w:((b++fG y)++[13,10]:aC).length=b.length+(aR y+4):=by rw [bM,<-g];rfl
  have v:(fF a.1++13::10::a.2).length=(fF a.1).length+aR a.2+2:=aF3;rw [x,<-w,Fq,<-v,Ov]
 have i:(fF a.1++13::10::a.2).length<=100000:=aF3;rw [aqj,ajm,xI,aL,aA aA0,n,aY];dsimp only;rw [jM,aG,bA ⟨aA0,aA0⟩,k,bA ⟨aA0,aA0,aA0⟩,e,zx a.1 a.2 d.hds d.len i,aY];dsimp only;rw [aB rfl,bA aA0]
theorem zk(y B T:aC)(n:eY y=true)(o:aR T<=100000)(q:PL):∀(a:PU) (l:PL) (d:aC) (e:Nat),T=d++Pe y B (a::q)->(∀x∈a::q,kr y x)->aR q+2<=e->aR l+aR q+1<=8->
  ∃i j b,kd FU T y e l (d.length:Int) ((d.length+(aR y+4):Nat):Int) false=some (.inl (l++a::q,i,j,b)):=by
 induction q with
 |nil=>intro a l d e h f k g;obtain⟨e,rfl⟩:∃m,e=m+1+1:=⟨e-2,by simp only [eO]at k;omega⟩;exact⟨_,_,_,(JX y B T n o [] a l d (e+1) h (f a fQ) (by simp only [eO]at g;omega)).trans (by rw [aK rfl,aqj,ajm,jM,aG])⟩
 |cons b q r=>intro a l d e h f k g;obtain⟨e,rfl⟩:=dY e;simp only [bR]at k g;obtain⟨i,j,c,p⟩:=r b (l++[a]) (d++Pg y a) e (by rw [h,yC];unfold Pg;simp) (fun x hx=>f x (fB _ hx)) aA0 aA5;rw [gJ,Yf]at p;exact⟨i,j,c,(JX y B T n o (b::q) a l d e h (f a fQ) aA0).trans p⟩
theorem fw(y B:aC)(g:eY y=true)(c:aR y<=70)(v:PL)(d:1<=aR v/\v.length<=8)(l:∀x∈v,kr y x)(n:(Pe y B v).length<=8192):uj FU (Pe y B v) y=some (v,0,0):=by
 unfold uj;rw [I1 y aA0,g,aK c,aY,Bool.and_self,jM,aG,aA aA0];cases v with
 |nil=>exact absurd d.1 aA1
 |cons a q=>have e:Pe y B (a::q)=fG y++kW false (fF a.1++13::10::(a.2++13::10::Pe y B q)):=yC y B a q;have k:=YQ y (fF a.1++13::10::(a.2++13::10::Pe y B q)) (by rw [<-e];omega);rw [<-e]at k;obtain⟨i,j,b,h⟩:=zk y B (Pe y B (a::q)) g aA0 q a [] [] FU rfl l (by simp only [bR]at d;rw [iD];omega) (by simp only [bR,eO]at d⊢;omega);have m:((([]:aC).length+(aR y+4):Nat):Int)=((aR y+4:Nat):Int):=aA2;rw [m]at h;have f:kd FU (Pe y B (a::q)) y FU [] (0:Int) ((aR y+4:Nat):Int) false=some (.inl (a::q,i,j,b)):=h;rw [k,aY];dsimp only;rw [jM,aG,aG,f,aY];rfl
open Go.Lib renaming hasPrefix → eZ
theorem ET:uh FU=some true:=by kernel_rfl
theorem RT(s:aC)(h:(jP s).2=0):eY (jP s).1=true:=by
 have e:=pE s h;cases a:eY (jP s).1 with
 |true=>rfl
 |false=>
  have b:jP (jP s).1=([],5):=by rw [jP,aB (.inl a)]
  rw [b]at e;exact absurd (bD Prod.snd e) (show¬((5:UInt8)=0)by decide)
theorem ab(z r:aC×aC)(e:HH z=some r):Yn r:=by
 obtain⟨h,g,f,j,d,_⟩:=HG z r e;have i:(Pz r.1 z.2).1.length<=1024:=by rw [<-d];exact h.2
 obtain⟨c,b,a⟩:=Zf r.1 z.2 j i;rw [<-d]at c b a;exact⟨by rw [f];exact RT _ g,by rw [f];exact pE _ g,c,b,a,h⟩
theorem sp(y body:aC)(h:Ac y body=false):(∀Z,body≠fG y++Z)/\∀A Z,body≠A++13::10::(fG y++Z):=by
 unfold Ac at h;rw [gU,Bool.not_eq_false',aV]at h;refine⟨fun Z e=> ?_,fun A Z e=> ?_⟩
 ·rw [e,Hj]at h;cases h.1
 ·rcases Lib.index_spec body (13::10::fG y)with⟨_,a⟩|⟨i,b,_⟩
  ·have:=a A.length (by rw [e,bM];omega);rw [e,show A++13::10::(fG y++Z)=A++((13::10::fG y)++Z)from rfl,yU]at this;cases this
  ·rw [b]at h;omega
theorem U4(y:aC)(z x:PU)(e:Yi z=some x)(d:Ac y x.2=false):kr y x:=by obtain⟨k,i,g⟩:=Jv z x e;obtain⟨_,f⟩:=dk _ _ _ i;obtain⟨b,a⟩:=sp y x.2 d;exact⟨g.1,fun h c=>by obtain⟨w,_,j⟩:=f h c;exact ab w h j,b,a⟩
theorem oe(y:aC)(x:PU)(k:kr y x):Yi x=some x:=by unfold Yi;rw [aB k.len,Wb HH x.1 (fun h a=>(k.hds h a).hd)];rfl
theorem QH(l:PL)(y:aC):((gq l y).1=[]/\¬(gq l y).2=0)\/∃v,jC Yi l=some v/\eY y=true/\y.length<=70/\(1<=aR v/\v.length<=8)/\(∀x∈v,kr y x)/\(Pe y [] v).length<=8192/\gq l y=(Pe y [] v,0):=by
 unfold gq;by_cases a:(eY y=true/\y.length<=70)/\1<=aR l/\l.length<=8
 ·rw [aB a];cases g:jC Yi l with
  |none=>exact .inl ⟨rfl,show¬((2:UInt8)=0)by decide⟩
  |some v=>
   obtain⟨f,d⟩:=dk _ _ _ g;dsimp only;by_cases c:v.any (fun x=>Ac y x.2)=true
   ·rw [aB c];exact .inl ⟨rfl,show¬((7:UInt8)=0)by decide⟩
   ·rw [aA c];by_cases b:8192<(pz y v).length
    ·rw [aB b];exact .inl ⟨rfl,show¬((4:UInt8)=0)by decide⟩
    ·rw [aA b];refine .inr ⟨v,rfl,a.1.1,a.1.2,by rw [f];exact a.2,fun x hx=> ?_,lV b,rfl⟩;obtain⟨z,_,e⟩:=d x hx;refine U4 y z x e ?_;cases h:Ac y x.2 with
     |false=>rfl
     |true=>exact absurd (eI.2 ⟨x,hx,h⟩) c
 ·rw [aA a];exact .inl ⟨rfl,show¬((2:UInt8)=0)by decide⟩
theorem QI(y:aC)(v:PL)(b:eY y=true)(a:aR y<=70)(c:1<=aR v/\v.length<=8)(f:∀x∈v,kr y x)(g:∀x∈v,Ac y x.2=false)(d:(Pe y [] v).length<=8192):gq v y=(Pe y [] v,0):=by unfold gq;rw [aB ⟨⟨b,a⟩,c⟩,Wb Yi v (fun x hx=>oe y x (f x hx))];dsimp only;rw [aA (fun h=>by obtain⟨x,hx,e⟩:=eI.1 h;rw [g x hx]at e;cases e),aA (show¬8192<(pz y v).length from Nat.not_lt.2 d)];rfl
theorem V6(y:aC)(x:PU)(k:kr y x):Ac y x.2=false:=by
 unfold Ac;rw [gU,Bool.not_eq_false',aV];refine⟨?_, ?_⟩
 ·cases h:eZ x.2 (fG y)with
  |false=>rfl
  |true=>obtain⟨Z,a⟩:=Hl _ _ h;exact absurd a (k.no1 Z)
 ·refine Lib.index_none fun j c=> ?_;cases b:Lib.occAt x.2 (13::10::fG y) j with
  |false=>rfl
  |true=>obtain⟨Z,a⟩:=eM.1 (show Ou (13::10::fG y) (x.2.drop j)=true from b);have:=JF j x.2;rw [<-a]at this;exact absurd this.symm (k.no2 _ Z)
theorem ml(v l:PL)(i:Int)(x z:PU)(hx:el v i=x)(J:el l i=z)(e:0<=i/\i<(aR v:Int))(y:i<(aR l:Int))(n:∀h∈z.1,aR h.1<=4194304)(K:aR x.1<=64)(q w:eC):∀(p g:eC) (d:Nat),x.1=p++q->z.1=g++w->aR p=aR g->jC HH w=some q->aR q<d->xb FU v l i d (aR p:Int)=some (.inl ()):=by
 induction w generalizing q with
 |nil=>intro p g d k j s m G;obtain⟨d,rfl⟩:=dY d;cases m;rw [asy,alz,bA e,bA e,hx,aA (by rw [k];simp)]
 |cons b w I=>
  intro p g d k j s m G;obtain⟨d,rfl⟩:=dY d;rw [jC,qC]at m;obtain⟨r,Q,P⟩:=m;obtain⟨q',O,rfl⟩:=bX.1 P;obtain⟨S,F,E,D,H,R⟩:=HG b r Q;have u:=bD aR k;have t:=bD aR j;simp only [bM,bR]at u t G;have c:(0:Int)<=(aR p:Int)/\(aR p:Int)<(aR z.1:Int):=aA0;have f:(0:Int)<=(aR p:Int)/\(aR p:Int)<(aR x.1:Int):=aA0;have B:el z.1 (aR p:Int)=b:=by rw [s,j];simp [el]
  have C:el x.1 (aR p:Int)=r:=by rw [k];simp [el]
  have a:0<=i/\i<(aR l:Int):=⟨e.1,y⟩;have M:=n b aF7;have o:((aR p:Int)+1)=((p++[r]).length:Int):=aA2;have N:=Dy _ F;have L:r=((jP b.1).1,(Pz (jP b.1).1 b.2).1):=by rw [<-E,<-H]
  rw [E]at D;have A:=I q' (p++[r]) (g++[b]) d (by rw [k];simp) aF7 (by simp [s]) O bJ;rw [asy,alz,bA e,bA e,hx,aB f.2,bA a,bA a,J,bA c,bA c,B,Ak _ bJ,aY,bA a,bA a,bA c,bA c,DD _ _ bJ bJ,aY,aB F,aB D,bA e,bA e,bA f,bA f,C,aK L,jM,aY,aG,bA (eT _ bJ bJ),o,A]
theorem mo(v l:PL)(I:aR v<=8)(iN:∀x∈l,∀h∈x.1,aR h.1<=4194304)(q w:PL):∀(p e:PL) (d:Nat),v=p++q->l=e++w->aR p=aR e->jC Yi w=some q->aR q<d->xa FU v l d (aR p:Int)=some (.inl ()):=by
 induction w generalizing q with
 |nil=>intro p e d j i n k B;obtain⟨d,rfl⟩:=dY d;cases k;rw [asz,ama,aA aF7]
 |cons b w F=>
  intro p e d j i n k B;obtain⟨d,rfl⟩:=dY d;rw [jC,qC]at k;obtain⟨r,H,G⟩:=k;obtain⟨q',C,rfl⟩:=bX.1 G;obtain⟨E,A,z⟩:=Jv b r H;obtain⟨D,_⟩:=dk _ _ _ A;have s:=bD aR j;have o:=bD aR i;simp only [bM,bR]at s o B;have a:(0:Int)<=(aR p:Int)/\(aR p:Int)<(aR v:Int):=aA0;have c:(0:Int)<=(aR p:Int)/\(aR p:Int)<(aR l:Int):=by have:=(dk _ _ _ C).1;omega
  have f:el v (aR p:Int)=r:=by rw [j];simp [el]
  have g:el l (aR p:Int)=b:=by rw [n,i];simp [el]
  have m:((aR p:Int)+1)=((p++[r]).length:Int):=aA2;have y:=ml v l (aR p:Int) r b f g a c.2 (iN b aE7) z.1 r.1 b.1 [] [] FU rfl rfl rfl A (by rw [iD];have:=z.1;omega);have u:xb FU v l (aR p:Int) FU (0:Int)=some (.inl ()):=y;have t:=F q' (p++[r]) (e++[b]) d aF7 aE7 (by simp [n]) C bJ;rw [asz,ama,aB a.2,bA a,bA a,bA c,bA c,f,g,aB E,bA a,bA a,bA c,bA c,aK (by rw [D]),jM,aY,aG,u,aY];show gd _ _=_;rw [bA (eT _ bJ bJ),m,t]
theorem zl(v l:PL)(c:aR v<=8)(iN:∀x∈l,∀h∈x.1,aR h.1<=4194304)(b:jC Yi l=some v):aut FU v l=some true:=by have d:=mo v l c iN v l [] [] FU rfl rfl rfl b aA6;have a:xa FU v l FU (0:Int)=some (.inl ()):=d;unfold aut;rw [aB (by rw [(dk _ _ _ b).1]),a,aY];rfl
theorem zt(x:PU)(hx:aR x.1<=64)(q:eC):∀(p:eC) (b:Nat),x.1=p++q->aR q<b->xc FU (([]:aC),([]:aC),(0:Int),([]:aC),x.1,x.2) (([]:aC),([]:aC),(0:Int),([]:aC),x.1,x.2) b (aR p:Int)=some (.inl ()):=by
 induction q with
 |nil=>intro p b h e;obtain⟨b,rfl⟩:=dY b;rw [asw,alw,aA (by dsimp only;rw [h];simp)]
 |cons a q f=>intro p b h e;obtain⟨b,rfl⟩:=dY b;have d:=bD aR h;simp only [bM,bR]at d e;have c:(0:Int)<=(aR p:Int)/\(aR p:Int)<(aR x.1:Int):=aA0;rw [asw,alw,aB c.2,bA c,bA c,bA c,bA c,aB rfl,bA (eT _ bJ bJ),show((aR p:Int)+1)=((p++[a]).length:Int)by simp];exact f (p++[a]) b aA7 bJ
theorem zr(x:PU)(hx:aR x.1<=64):anx FU x x=some true:=by have b:=zt x hx x.1 [] FU rfl aA6;have a:xc FU (([]:aC),([]:aC),(0:Int),([]:aC),x.1,x.2) (([]:aC),([]:aC),(0:Int),([]:aC),x.1,x.2) FU (0:Int)=some (.inl ()):=b;unfold anx axu;dsimp only;rw [aB rfl,aB rfl,aB rfl,aB rfl,aB rfl,aK rfl,jM,aY,aG,a];rfl
theorem zq(v:PL)(i:aR v<=8)(hx:∀x∈v,aR x.1<=64)(q:PL):∀(p:PL) (b:Nat),v=p++q->aR q<b->xd FU v v b (aR p:Int)=some (.inl ()):=by
 induction q with
 |nil=>intro p b h e;obtain⟨b,rfl⟩:=dY b;rw [asv,alv,aA aA7]
 |cons a q f=>intro p b h e;obtain⟨b,rfl⟩:=dY b;have d:=bD aR h;simp only [bM,bR]at d e;have c:(0:Int)<=(aR p:Int)/\(aR p:Int)<(aR v:Int):=aA0;have g:el v (aR p:Int)=a:=aB4;rw [asv,alv,aB c.2,bA c,bA c,bA c,bA c,g,zr a (hx a aA7),aY,jM,aG,bA (eT _ bJ bJ),show((aR p:Int)+1)=((p++[a]).length:Int)by simp];exact f (p++[a]) b aA7 bJ
theorem my(v:PL)(b:aR v<=8)(hx:∀x∈v,aR x.1<=64):vz FU v v=some true:=by have c:=zq v b hx v [] FU rfl aA6;have a:xd FU v v FU (0:Int)=some (.inl ()):=c;unfold vz;rw [aB rfl,a,aY];rfl
theorem yM(l:PL)(y B:aC)(m:∀x∈l,∀h∈x.1,aR h.1<=4194304)(J:aR y<=4194304):ani FU l y B=some true:=by
 obtain⟨b,F,E⟩:=rh l;unfold ani;rw [F,aY,ET];cases b with
 |false=>rfl
 |true=>
  obtain⟨D,k⟩:=E rfl;rw [jM,aG,aY];by_cases q:(200:Int)<(aR B:Int)
  ·rw [aK q];rfl
  ·rw [aO q,aG,ZN y bJ l (fun x hx=>⟨m x hx,by have:=(k x hx).2;omega⟩),aY];rcases QH l y with⟨H,G⟩|⟨v,n,g,a,c,f,o,C⟩
   ·rw [aA G,H];rfl
   ·have i:=fw y [] g a v c f o;obtain⟨I,s⟩:=dk _ _ _ n;have p:=ZN y bJ v (fun x hx=>by obtain⟨z,w,e⟩:=s x hx;obtain⟨u,_,t⟩:=Jv z x e;exact⟨fun h A=>by have:=(t.2 h A).1;omega,by rw [u];have:=(k z w).2;omega⟩);rw [QI y v g a c f (fun x hx=>V6 y x (f x hx)) o]at p;rw [C];dsimp only;rw [aB rfl,i,aY];dsimp only;rw [p,aY];dsimp only;rw [aB rfl,aB rfl,zl v l c.2 m n,aY,jM,aG,aB rfl,aK rfl,jM,aY,aG,bA ⟨aA0,aA0⟩];by_cases r:(8192:Int)<((Pe y [] v).length:Int)+(aR B:Int)
    ·rw [aB r];rfl
    ·have d:=fw y B g a v c f;have eB:(([]:aC)++Pe y [] v)++B=Pe y B v:=by unfold Pe kW;simp
     have j:=bD aR eB;rw [mQ,bM]at j;rw [aA r,bA (by simp only [eO];omega),bA (by rw [mQ];omega),eB,d bJ,aY];dsimp only;rw [aB rfl,my v c.2 (fun x hx=>(f x hx).len)];rfl
end Go.Wk
