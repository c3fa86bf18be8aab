/-
  The law BodiesBack holds (part 5 of 9).
-/
import Derived.Test.YtomjpealmhpciaaGreatDoorYe4
import Derived.Lib.IndexMore
open Bool renaming false → η, true → ζ
open List renaming length → γ
open Option renaming none → ε, some → δ
set_option linter.unusedVariables false
set_option linter.unusedSimpArgs false
set_option maxRecDepth 100000
namespace Go.Wk
open Go.Px
open Go.Lib renaming join → cY
theorem vZ(p:UInt8->Bool)(s A B:aC)(h:s=A++B):cC p s (γ A)=γ A+dN p B:=by subst h;unfold cC;rw [ta _ _ aC1,Gg]
theorem atA(s A B:aC)(c:UInt8)(h:s=A++c::B):at_ s (γ A)=c:=by rw [h,VY]
theorem Wh(s A B:aC)(b:UInt8)(h:s=A++B):fJ s (γ A) b=decide (B.head? =δ b):=by
 subst h;unfold fJ;cases B with
 |nil=>simp
 |cons c B=>
  rw [VY];by_cases h:c=b
  ·subst h;simp
  ·simp [h]
theorem Dp(s A B C:aC)(h:s=A++(B++C)):sub s (γ A) ((γ A+γ B:Nat))=B:=by subst h;unfold sub;rw [iO,iO,Gg,zbM,Qy]
theorem XJ(p:UInt8->Bool)(B:aC)(h:∀c,B.head? =δ c->p c=η):dN p B=0:=by
 cases B with
 |nil=>rfl
 |cons c B=>exact pR p c B (h c rfl)
theorem lu(a b:aC)(h:a≠[]):(a++b).head? =a.head? :=by
 cases a with
 |nil=>exact absurd rfl h
 |cons x a=>rfl
theorem oJ(p:UInt8->Bool)(a:aC)(h:a.all p=ζ)(c:UInt8)(b:a.head? =δ c):p c=ζ:=by
 cases a with
 |nil=>cases b
 |cons x a=>rw [dZ,aW]at b;rw [Gf,hO]at h;rw [<-b];exact h.1
theorem Rc{v:aC}(h:eP v=ζ):v≠[]/\v.all cA=ζ:=by unfold eP at h;rw [hO]at h;refine⟨λe=> ?_,h.2⟩;subst e;exact absurd h.1 aA1
theorem JL(c:UInt8)(h:c=34\/c=92):oS c=[92,c]:=by unfold oS;rw [aB h]
theorem E5(c:UInt8)(h:¬(c=34\/c=92)):oS c=[c]:=by unfold oS;rw [aA h]
theorem Kq:∀(v a:aC) k b,v.any eO=η->fX (v.flatMap oS++34::a) k b=(b++v,((k+γ (v.flatMap oS)+1:Nat):Int),0)
 |[],a,k,b,_=>by rw [yO,vX,ayr,aB rfl,fI,fT]
 |c::v,a,k,b,h=>by
  rw [Re,gY]at h;by_cases d:c=34\/c=92
  ·have f:y5 c=ζ:=by rcases d with rfl|rfl<;>decide
   have e:(c::v).flatMap oS++34::a=92::c::(v.flatMap oS++34::a):=by rw [rZ,JL c d];rfl
   rw [e,ayr,aA aA1,aB rfl,aA aA2];have g:at_ (c::(v.flatMap oS++34::a)) 0=c:=by simp [at_]
   rw [g,aB f,List.drop_one,List.tail_cons,Kq v a (k+2) _ h.2,rZ,JL c d];simp only [gH,bP,bX,fT];congr 2;omega
  ·have e:(c::v).flatMap oS++34::a=c::(v.flatMap oS++34::a):=by rw [rZ,E5 c d];rfl
   rw [e,ayr,aA (λh=>d (.inl h)),aA (λh=>d (.inr h)),aA (by rw [h.1];decide),Kq v a _ _ h.2,rZ,E5 c d];simp only [gH,BI,bX];congr 2;omega
theorem unqA(s A v C:aC)(h:s=A++(jG v++C))(b:v.any eO=η):Pw s (γ A)=(v,((γ A+γ (jG v):Nat):Int),0):=by
 have e:jG v++C=34::(v.flatMap oS++34::C):=by unfold jG;simp
 have a:s=A++34::(v.flatMap oS++34::C):=by rw [h,e]
 have g:γ s=γ A+γ (v.flatMap oS++34::C)+1:=by rw [a,bP,bX];omega
 have d:=atA s A _ 34 a;have c:s.drop (γ A+1)=v.flatMap oS++34::C:=by rw [a,show A++34::(v.flatMap oS++34::C)=(A++[34])++(v.flatMap oS++34::C)by simp,show γ A+1=γ (A++[34]) by simp,Gg]
 unfold Pw;rw [aA aA0,aA (by rintro(h|h);omega;exact h d),iO,c,Kq v C _ [] b];have f:γ (jG v)=γ (v.flatMap oS)+2:=by unfold jG;simp
 congr 2;omega
section
variable (q : UInt8 -> Bool) (h1 : ∀ c, kL c = ζ -> q (gB c) = ζ) (h2 : q 58 = ζ) (h3 : q 48 = ζ)
include h1 h2 h3
omit h2 in
theorem KG (g:aC) (h:Cz g=ζ):∀c∈mR g,q c=ζ:=by
 have hx:g.all kL=ζ:=by unfold Cz at h;simp only [hO]at h;exact h.2
 intro c a;unfold mR at a;split at a
 ·rw [aE.1 a];exact h3
 ·have b:=(wR _).subset a;obtain⟨d,e,rfl⟩:=cJ.1 b;exact h1 d (aT.1 hx d e)
omit h1 h3 in
theorem Zf:∀(l:List aC),(∀x∈l,∀c∈x,q c=ζ)->∀c∈cY l [58],q c=ζ
 |[],_,c,d=>by simp [cY]at d
 |[a],h,c,d=>by simp [cY]at d;exact h a aA2 c d
 |a::b::l,h,c,d=>by
  rcases aR.1 d with d|d
  ·exact h a aA2 c d
  ·rcases aP.1 d with rfl|d
   ·exact h2
   ·exact Zf _ (λx hx=>h x (eT _ hx)) c d
omit h2 in
theorem Vm (s:aC):∀x∈(Cj s).1,∀c∈x,q c=ζ:=by
 intro x hx;unfold Cj at hx;split at hx
 ·rename_i b;obtain⟨y,a,rfl⟩:=cJ.1 hx;exact KG q h1 h3 y (aT.1 b y a)
 ·simp at hx
omit h2 in
theorem QG (s:aC):∀x∈(qY s).1,∀c∈x,q c=ζ:=by
 intro x hx;unfold qY at hx;split at hx
 ·simp at hx
 ·exact Vm q h1 h3 s x hx
theorem QF(s:aC):∀c∈(Cc s).1,q c=ζ:=by
 intro c a;unfold Cc at a;split at a
 ·simp at a
 ·split at a
  ·exact Zf q h2 _ (Vm q h1 h3 s) c a
  ·split at a
   ·simp at a
   ·rcases aR.1 a with a|a
    ·rcases aR.1 a with a|a
     ·exact Zf q h2 _ (QG q h1 h3 _) c a
     ·have b:c=58:=by simpa using a
      rw [b];exact h2
    ·exact Zf q h2 _ (QG q h1 h3 _) c a
end
theorem iw:∀c:UInt8,kL c=ζ->(!(gB c==93))=ζ:=dS _ aA3
theorem jv:∀c:UInt8,hK c=ζ->c≠91:=dS _ aA3
theorem PJ:∀c:UInt8,mC c=ζ->c≠91:=dS _ aA3
theorem Bz(v:aC)(h:We v=ζ):∃g:aC,v=91::(g++[93])/\(∀c∈g,(!(c==93))=ζ):=by
 unfold We at h;simp at h;obtain⟨⟨h1,h2⟩,h3⟩:=h;have f:0<γ v->91∈v:=λb=>by have:=at_mem v 0 b;have e:at_ v (0:Nat)=91:=h3;rw [e]at this;exact this
 have d:=PY v h1 h2;have b:=bK.2 d;unfold dW at h1 h2;split at h1
 ·rename_i j;rw [aB j]at h2;split at h1
  ·rename_i i;rw [aB i]at h2;refine⟨(Cc (sub v 1 (γ v-1))).1, ?_,QF _ iw aA1 aA1 _⟩;exact h2.symm
  ·cases h1
 ·exfalso;split at h1
  ·rename_i a;unfold jX at a;simp only [hO]at a;rcases XH 46 hK v (λx hx=>(nW x (by rw [<-Ag];exact aT.1 a.1.2 x hx)).2.2) 91 (f b)with h|h
   ·exact jv 91 h rfl
   ·exact absurd h aA1
  ·split at h1
   ·rename_i a;unfold VZ at a;simp only [hO]at a;rcases XH 46 mC v (λx hx=>by have:=aT.1 a.1.2 x hx;unfold Sn at this;simp only [hO]at this;exact this.2) 91 (f b)with h|h
    ·exact PJ 91 h rfl
    ·exact absurd h aA1
   ·cases h1
theorem ZE(s A v C:aC)(h:s=A++(v++C))(i:eP v=ζ)(j:∀c,C.head? =δ c->cA c=η):kZ s (γ A)=(v,((γ A+γ v:Nat):Int),0):=by
 obtain⟨b,a⟩:=Rc i;have d:cC cA s (γ A)=γ A+γ v:=by rw [vZ cA s A _ h,y8 cA v C a,XJ cA C j];rfl
 have f:∀c:UInt8,cA c=η->fJ s (γ A) c=η:=λc g=>by rw [Wh s A _ c h,lu v C b,bL];intro e;rw [oJ cA v a c e]at g;cases g
 have k:=bK.2 b;unfold kZ;rw [f 34 aA1,aA aA1,f 91 aA1,aA aA1,d,aA aA0,Dp s A v C h]
theorem ZF(s A v C:aC)(h:s=A++(jG v++C))(a:v.any eO=η):kZ s (γ A)=(v,((γ A+γ (jG v):Nat):Int),0):=by unfold kZ;rw [Wh s A _ 34 h,aK (by unfold jG;rfl),aB rfl,unqA s A v C h a]
theorem ZG(s A v C:aC)(h:s=A++(v++C))(k:We v=ζ):kZ s (γ A)=(v,((γ A+γ v:Nat):Int),0):=by
 obtain⟨g,i,m⟩:=Bz v k;have a:(v++C).head? =δ 91:=by rw [i];rfl
 have f:dN (λb=> !(b==93)) (s.drop (γ A))=γ v-1:=by
  rw [h,Gg,i,show(91::(g++[93]))++C=(91::g)++93::C by simp,y8 _ _ _ (by
   rw [aT];intro c j;rcases aP.1 j with rfl|j
   ·decide
   ·exact m c j),pR _ 93 C aA1]
  simp
 have n:2<=γ v:=aE5;have l:γ s=γ A+γ v+γ C:=by rw [h,bP,bP];omega
 have e:=k;unfold We at e;simp at e;have d:(min ((γ A+(γ v-1):Nat)+1:Int) (γ s:Int))=((γ A+γ v:Nat):Int):=aA0;unfold kZ;rw [Wh s A _ 34 h,a,aA aA1,Wh s A _ 91 h,a,aK rfl,aB rfl,f,d,Dp s A v C h,aB e.1.1,e.1.2];congr 2;omega
theorem ma:∀c:UInt8,cA c=ζ->bY c=η:=dS _ aA3
theorem FK(v B:aC)(e:eP v=ζ):∀c,(v++B).head? =δ c->cA c=ζ:=λc d=>by obtain⟨b,a⟩:=Rc e;rw [lu v B b]at d;exact oJ cA v a c d
def Qz(v:aC):aC:=bif eP v||We v then v else jG v
theorem ax(s A v C:aC)(h:s=A++(Qz v++C))(a:v.any eO=η)(b:∀c,C.head? =δ c->cA c=η):kZ s (γ A)=(v,((γ A+γ (Qz v):Nat):Int),0):=by
 unfold Qz at h⊢;cases h1:eP v with
 |true=>rw [h1]at h;rw [mK];exact ZE s A v C h h1 b
 |false=>
  cases h2:We v with
  |true=>rw [h1,h2]at h;rw [Bool.or_true];exact ZG s A v C h h2
  |false=>rw [h1,h2]at h;rw [eE];exact ZF s A v C h a
theorem RZ(v C:aC):∀c,(Qz v++C).head? =δ c->bY c=η:=by
 intro c a;unfold Qz at a;cases h1:eP v with
 |true=>rw [h1]at a;exact ma c (FK v C h1 c a)
 |false=>
  cases h2:We v with
  |true=>
   obtain⟨g,b,_⟩:=Bz v h2;rw [h1,h2,b]at a;have:c=91:=by simpa using a.symm
   rw [this];decide
  |false=>
   rw [h1,h2]at a;have:c=34:=by unfold jG at a;simpa using a.symm
   rw [this];decide
theorem Dj(p:PP)(h:p.2.2=ζ):sE p=61::Qz p.2.1:=by unfold sE Qz;rw [h];rfl
theorem Kt(p:PP)(h:p.2.2=η):sE p=[]:=by unfold sE;rw [h];rfl
theorem listA(s A C:aC)(p:PP)(h:s=A++(p.1++(sE p++C)))(E:eP p.1=ζ)(o:dR p.1=p.1)(k:Jo p=ζ)(y:∀c,C.head? =δ c->c=59):
  xW s (γ A)=(p,0,0,(s,((γ A+(γ p.1+γ (sE p)):Nat):Int))):=by
 obtain⟨t,q⟩:=Rc E;have G:=bK.2 t;have r:∀f:UInt8->Bool,f 59=η->∀c,C.head? =δ c->f c=η:=λf F c l=>by rw [y c l];exact F
 have a:∀f:UInt8->Bool,f 59=η->f 61=η->∀c,(sE p++C).head? =δ c->f c=η:=by
  intro f v d c l;cases h2:p.2.2 with
  |true=>rw [Dj p h2,Kg,dZ,aW]at l;rw [<-l];exact d
  |false=>rw [Kt p h2]at l;exact r f v c l
 have D:cC cA s (γ A:Int)=γ A+γ p.1:=by rw [vZ cA s A _ h,y8 cA p.1 _ q,XJ cA _ (a cA aA1 aA1)];rfl
 have m:=Dp s A p.1 _ h;have w:s=(A++p.1)++(sE p++C):=by rw [h,gH]
 have j:γ (A++p.1)=γ A+γ p.1:=bP;have B:cC bY s ((γ A+γ p.1:Nat):Int)=γ A+γ p.1:=by rw [<-j,vZ bY s (A++p.1) _ w,XJ bY _ (a bY aA1 aA1)];rfl
 have i:=Wh s _ _ 61 w;rw [j]at i;unfold xW;rw [D,aA aA0,B,i,m,o];cases h2:p.2.2 with
 |false=>
  have n:p.2.1=[]:=by unfold Jo at k;rw [h2]at k;exact bU k
  have d:¬(sE p++C).head? =δ 61:=λe=>by rw [Kt p h2]at e;exact absurd (y 61 e) aA1
  rw [aL d,Kt p h2];have x:(p.1,[],η)=p:=by rw [<-n,<-h2]
  rw [x];rfl
 |true=>
  have u:p.2.1.any eO=η:=by unfold Jo at k;rw [h2]at k;simpa using k
  have d:(sE p++C).head? =δ 61:=by rw [Dj p h2];rfl
  have h3:s=(A++p.1++[61])++(Qz p.2.1++C):=by rw [w,Dj p h2];simp
  have b:γ (A++p.1++[61])=γ A+γ p.1+1:=aA4;have z:cC bY s ((γ A+γ p.1+1:Nat):Int)=γ A+γ p.1+1:=by rw [<-b,vZ bY s (A++p.1++[61]) _ h3,XJ bY _ (RZ p.2.1 C)];rfl
  have g:=ax s _ p.2.1 C h3 u (r cA aA1);rw [b]at g;rw [aK d,z,g];have x:(p.1,p.2.1,ζ)=p:=by rw [<-h2]
  have el:γ (sE p)=γ (Qz p.2.1)+1:=by rw [Dj p h2];rfl
  rw [x,el];show(p,0,0,(s,((γ A+γ p.1+1+γ (Qz p.2.1):Nat):Int)))=_;rw [show γ A+γ p.1+1+γ (Qz p.2.1)=γ A+(γ p.1+(γ (Qz p.2.1)+1))by omega]
theorem DI:∀r pre u,mX pre r=δ u->∀c,u.head? =δ c->c=59
 |[],pre,u,h,c,a=>by rw [mX,aW]at h;subst h;cases a
 |p::r,pre,u,h,c,a=>by
  rw [mX]at h;cases b:Ru pre p&&Jo p with
  |false=>rw [b]at h;cases h
  |true=>rw [b,aQ,Z1]at h;obtain⟨t,_,rfl⟩:=h;rw [dZ,aW]at a;exact a.symm
theorem parA(s:aC):∀r pre (u A) f,mX pre r=δ u->s=A++u->γ r<f->γ pre+γ r<=16->mB s f pre (γ A)=(pre++r,0,0)
 |[],pre,u,A,f,h,d,C,B=>by obtain⟨f,rfl⟩:∃m,f=m+1:=⟨f-1,aA0⟩;rw [mX,aW]at h;subst h;rw [fI]at d;subst d;rw [mB,aB (by rw [Tn];exact eK _),fI]
 |p::r,pre,u,A,f,h,d,C,B=>by
  obtain⟨f,rfl⟩:∃m,f=m+1:=⟨f-1,aA0⟩;rw [mX]at h;cases n:Ru pre p&&Jo p with
  |false=>rw [n]at h;cases h
  |true=>
   rw [n,aQ,Z1]at h;obtain⟨t,y,rfl⟩:=h;rw [hO]at n;obtain⟨v,F⟩:=n;unfold Ru at v;simp only [hO,bD,dT]at v;obtain⟨⟨z,k⟩,l⟩:=v;simp at C B;have D:γ s=γ A+(γ (p.1++(sE p++t))+1):=by rw [d,bP,bX]
   have o:cC bY s (γ A:Int)=γ A:=by rw [vZ bY s A _ d];rfl
   have kV:=atA s A _ 59 d;have j:s=(A++[59])++(p.1++(sE p++t)):=aD1;have b:γ (A++[59])=γ A+1:=aA2;have i:cC bY s ((γ A+1:Nat):Int)=γ A+1:=by rw [<-b,vZ bY s (A++[59]) _ j,XJ bY _ (λc E=>ma c (FK p.1 _ z c E))];rfl
   have a:=listA s (A++[59]) t p j z k F (DI r _ t y);rw [b]at a;have e:Hq pre p.1=0:=by unfold Hq;rw [l,aA aA1,aA aA0]
   have q:s=(A++[59]++p.1++sE p)++t:=aD1;have g:γ (A++[59]++p.1++sE p)=γ A+1+(γ p.1+γ (sE p)):=aA4;have x:=parA s r (pre++[p]) t (A++[59]++p.1++sE p) f y q aA0 aA4;rw [g,gH]at x;have w:at_ s ((γ A:Nat):Int)=59:=kV;rw [mB,o,aA aA0,aA (not_not_intro w),i,a];rw [aB e];exact x
theorem F7:∀r pre u,mX pre r=δ u->γ r<=γ u
 |[],_,_,_=>cO _
 |p::r,pre,u,h=>by
  rw [mX]at h;cases a:Ru pre p&&Jo p with
  |false=>rw [a]at h;cases h
  |true=>rw [a,aQ,Z1]at h;obtain⟨t,b,rfl⟩:=h;have:=F7 r _ t b;simp;omega
theorem nU(l:List PP)(t:aC)(h:iV l=(t,0)):lA t=(l,0,0)/\(∀c,t.head? =δ c->c=59)/\mX [] l=δ t/\γ l<=16:=by
 unfold iV at h;by_cases b:16<γ l
 ·rw [aB b]at h;exact absurd (aV Prod.snd h) aA2
 ·rw [aA b]at h;cases a:mX [] l with
  |none=>rw [a]at h;exact absurd (aV Prod.snd h) aA2
  |some u=>rw [a]at h;have e:=aV Prod.fst h;subst e;have d:=F7 l [] u a;exact⟨parA u l [] u [] (γ u+1) a rfl aA0 aA4,DI l [] u a,rfl,aA0⟩
open Go.Px
open Go.Lib renaming cut → eD, index → cK, join → cY, trimLeftS → AZ
open List renaming isPrefixOf → Sz
theorem Be(a b:aC)(l:List aC):cY (a::b::l) [58]=a++(58::cY (b::l) [58]):=by simp [cY]
theorem join_one(a:aC):cY [a] [58]=a:=by simp [cY]
theorem NF(c:UInt8):∀(a z:aC),(∀b∈a,b≠c)->cR c (a++c::z)=a::cR c z
 |[],z,_=>ayu c z
 |b::a,z,h=>by rw [Kg,avx c b _ (h b aA2),NF c a z (λx hx=>h x (eT _ hx))];rfl
theorem A5(c:UInt8):∀(a:aC),(∀b∈a,b≠c)->cR c a=[a]
 |[],_=>rfl
 |b::a,h=>by rw [avx c b _ (h b aA2),A5 c a (λx hx=>h x (eT _ hx))];rfl
theorem Lj:∀gs:List aC,gs≠[]->(∀g∈gs,∀b∈g,b≠58)->cR 58 (cY gs [58])=gs
 |[],h,_=>absurd rfl h
 |[a],_,h=>by rw [join_one,A5 58 a (h a aA2)]
 |a::b::l,_,h=>by rw [Be,NF 58 a _ (h a aA2),Lj (b::l) aA2 (λg c=>h g (eT _ c))]
def A8:aC->Bool
 |[]=>ζ
 |c::l=>(if c=58 then !(l.head? ==ε)&& !(l.head? ==δ 58)else ζ)&&A8 l
theorem Dq:∀l:aC,A8 l=ζ->cK l [58,58]= -1/\∀r,cK (l++58::58::r) [58,58]=γ l
 |[],_=>⟨aA1,λr=>by rw [vX];rfl⟩
 |c::l,h=>by
  rw [A8,hO]at h;obtain⟨g,f⟩:=Dq l h.2;have key:∀r:aC,(r=[]\/l≠[]\/c≠58)->[58,58].isPrefixOf (c::(l++r))=η:=by
   by_cases a:c=58
   ·subst a;cases l with
    |nil=>simp at h
    |cons d l=>
     have i:¬d=58:=by simpa using h.1
     have b:(58==d)=η:=by simpa using λe:58=d=>i e.symm
     simp [Sz,b]
   ·have:(58==c)=η:=by simpa using λe:58=c=>a e.symm
    simp [Sz,this]
  constructor
  ·have:=key [] (.inl rfl);rw [fI]at this;rw [bbr,this,aA aA1,aB g]
  ·intro r
   have:=key (58::58::r) (by
    by_cases a:c=58
    ·right;left;intro e;subst e a;simp at h
    ·exact .inr (.inr a))
   rw [Kg,bbr,this,aA aA1,f r,bX];omega
theorem A7:∀a:aC,(∀b∈a,b≠58)->A8 a=ζ
 |[],_=>rfl
 |c::a,h=>by rw [A8,aA (h c aA2),A7 a (λx hx=>h x (eT _ hx))];rfl
theorem NG:∀a d (z:aC),(∀b∈a,b≠58)->d≠58->A8 (d::z)=ζ->A8 (a++58::d::z)=ζ
 |[],d,z,_,f,e=>by have:(d==58)=η:=aE0;rw [vX,A8,e];simp [this]
 |c::a,d,z,h,f,e=>by rw [Kg,A8,aA (h c aA2),NG a d z (λx hx=>h x (eT _ hx)) f e];rfl
theorem Lk:∀gs:List aC,(∀g∈gs,g≠[]/\∀b∈g,b≠58)->A8 (cY gs [58])=ζ
 |[],_=>by simp [Lib.join_nil,A8]
 |[a],h=>by rw [join_one];exact A7 a (h a aA2).2
 |a::b::l,h=>by
  have f:=Lk (b::l) (λg k=>h g (eT _ k));have j:=h b aA2;obtain⟨d,z,e⟩:∃d z,cY (b::l) [58]=d::z/\d≠58:=by
   cases c:b with
   |nil=>exact absurd c j.1
   |cons d b'=>
    have i:d≠58:=j.2 d (by rw [c];simp);cases l with
    |nil=>exact⟨d,b',by rw [join_one],i⟩
    |cons x l=>exact⟨d,b'++(58::cY (x::l) [58]),by rw [Be];rfl,i⟩
  rw [Be,e.1];rw [e.1]at f;exact NG a d z (h a aA2).2 e.2 f
theorem iz:∀c:UInt8,kL c=ζ->kL (gB c)=ζ:=dS _ aA3
theorem iy:∀c:UInt8,kL c=ζ->(!(gB c==58))=ζ:=dS _ aA3
theorem VC(g:aC)(h:Cz g=ζ):Cz (mR g)=ζ/\mR (mR g)=mR g/\mR g≠[]/\∀b∈mR g,b≠58:=by
 have k:=FV g h;have o:∀b∈mR g,b≠58:=λb i=>by have:=KG (λc=> !(c==58)) iy aA1 g h b i;simpa using this
 have l:=KG kL iz aA1 g h;have f:mR g≠[]:=by
  unfold mR;split
  ·simp
  ·assumption
 refine⟨?_, ?_,f,o⟩
 ·have:=bK.2 f;unfold Cz;rw [aK aA0,aK k,Qx,Qx,aT];exact l
 ·have j:JV (mR g)=mR g:=by
   refine Us _ λb i=> ?_;unfold mR at i;split at i
   ·rw [aE.1 i];decide
   ·have p:=(wR _).subset i;obtain⟨d,q,rfl⟩:=cJ.1 p;exact low2 d
  have m:AZ (mR g) [48]=[]\/AZ (mR g) [48]=mR g:=by
   unfold mR;split
   ·left;decide
   ·right;unfold AZ;exact Bq _ _
  have e:mR (mR g)=if AZ (mR g) [48]=[]then [48]else AZ (mR g) [48]:=by
   conv=>lhs;unfold mR
   rw [show JV (if AZ _ _=[]then [48]else AZ _ _)=mR g from j]
  rw [e];rcases m with a|a
  ·rw [aB a]
   have:mR g=[48]:=by
    unfold mR at a⊢;split
    ·rfl
    ·rename_i n;rw [aA n]at a;unfold AZ at a n;rw [Bq]at a;exact absurd a n
   rw [this]
  ·rw [a,aA f]
def gdG(gs:List aC):Prop:=∀g∈gs,Cz g=ζ/\mR g=g/\g≠[]/\∀b∈g,b≠58
theorem Om(s:aC):gdG (Cj s).1:=by
 intro x hx;unfold Cj at hx;split at hx
 ·rename_i b;obtain⟨y,a,rfl⟩:=cJ.1 hx;exact VC y (aT.1 b y a)
 ·simp at hx
theorem Bj(s:aC):gdG (qY s).1:=by
 unfold qY;split
 ·intro x hx;simp at hx
 ·exact Om s
theorem Bi(gs:List aC)(h:gdG gs)(b:gs≠[]):Cj (cY gs [58])=(gs,ζ):=by
 unfold Cj;rw [Lj gs b (λg a=>(h g a).2.2.2),aB (aT.2 λg a=>(h g a).1)];congr 1
 conv=>rhs;rw [<-List.map_id gs]
 exact Y9 λg a=>(h g a).2.1
theorem gq(gs:List aC)(h:gdG gs)(a:gs≠[]):cY gs [58]≠[]:=by
 intro e;have:=Lj gs a (λg b=>(h g b).2.2.2);rw [e]at this;cases gs with
 |nil=>exact a rfl
 |cons g l=>
  have c:[]=g:=by have:=aV List.head? this;simpa [cR] using this
  exact(h g aA2).2.2.1 c.symm
theorem On(gs:List aC)(h:gdG gs):qY (cY gs [58])=(gs,ζ):=by
 unfold qY;by_cases a:gs=[]
 ·subst a;rw [aB (by simp [Lib.join_nil])]
 ·rw [aA (gq gs h a),Bi gs h a]
theorem Uz:∀gs:List aC,(∀g∈gs,γ g<=4)->gs≠[]->γ (cY gs [58])+1<=γ gs*5
 |[],_,h=>absurd rfl h
 |[a],h,_=>by rw [join_one];have:=h a aA2;simp;omega
 |a::b::l,h,_=>by have c:=Uz _ (λg d=>h g (eT _ d)) aA2;have:=h a aA2;rw [Be];simp at c⊢;omega
variable {a:List aC}
theorem Bl(h:gdG a):∀g∈a,γ g<=4:=λg c=>by have:=(h g c).1;unfold Cz at this;simp at this;exact this.1.2
theorem UY(x:aC)(h:(Cc x).2=ζ):Cc (Cc x).1=((Cc x).1,ζ):=by
 unfold Cc at h;by_cases a:39<γ x
 ·rw [aB a]at h;cases h
 rw [aA a]at h;by_cases i:(eD x [58,58]).2.2=η
 ·rw [aB i]at h;simp at h;have e:(Cc x).1=cY (Cj x).1 [58]:=by unfold Cc;rw [aA a,aB i]
  rw [e];have f:=Om x;generalize(Cj x).1=gs at h f⊢;have c:gs≠[]:=by intro e;rw [e]at h;exact absurd h.2 aA1
  have r:=Uz gs (Bl f) c;have l:=(Dq _ (Lk gs λg b=>(f g b).2.2)).1;unfold Cc;rw [aA aA0,xS,aB l,Bi gs f c,aK h.2];rfl
 ·rw [aA i]at h;by_cases j:(!(qY (eD x [58,58]).1).2|| !(qY (eD x [58,58]).2.1).2||decide (7<(γ (qY (eD x [58,58]).1).1:Int)+(γ (qY (eD x [58,58]).2.1).1:Int)))=ζ
  ·rw [aB j]at h;cases h
  ·have e:(Cc x).1=cY (qY (eD x [58,58]).1).1 [58]++[58,58]++cY (qY (eD x [58,58]).2.1).1 [58]:=by unfold Cc;rw [aA a,aA i,aA j]
   rw [e];have k:=Bj (eD x [58,58]).1;have m:=Bj (eD x [58,58]).2.1;simp at j;have n:=j.2;generalize(qY (eD x _).1).1=A at k n⊢;generalize(qY (eD x _).2.1).1=B at m n⊢;have q:γ (cY A _)<=γ A*5:=y6 [58] 4 A (Bl k);have p:γ (cY B [58])<=γ B*5:=y6 [58] 4 B (Bl m);have l:=(Dq _ (Lk A λg b=>(k g b).2.2)).2 (cY B [58]);have o:cY A [58]++[58,58]++cY B [58]=cY A [58]++58::58::cY B [58]:=aA2;have d:eD (cY A [58]++[58,58]++cY B [58]) [58,58]=(cY A [58],cY B [58],ζ):=by rw [o,xS,l,aA aA0,iO,Qy];rw [show cY A [58]++58::58::cY B [58]=(cY A [58]++[58,58])++cY B [58]by simp,show(cY A [58]).length+γ ([58,58]:aC)=γ (cY A [58]++[58,58]) by simp,Gg]
   unfold Cc;rw [aA aA4,d,aA (show¬(ζ=η)by decide)];rw [On A k,On B m,aA (by
    simp only [Ge,bD];rintro((h|h)|h)
    ·cases h
    ·cases h
    ·omega)]
theorem ND(c:UInt8)(f:UInt8->UInt8)(a:∀b,f b=c↔b=c):∀s:aC,cR c (s.map f)=(cR c s).map (List.map f)
 |[]=>rfl
 |b::l=>by
  have d:=ND c f a l;by_cases h:b=c
  ·have g:=(a b).2 h;rw [yS,h,ayu];rw [h]at g;rw [g,ayu,d];rfl
  ·rw [yS,avx c b l h,avx c (f b) _ (λe=>h ((a b).1 e)),d];cases cR c l with
   |nil=>rfl
   |cons x r=>rfl
theorem xv:∀c:UInt8,(decide (gB c=46))=decide (c=46):=dS _ aA3
theorem qc(b:UInt8):gB b=46↔b=46:=by
 have:=xv b;by_cases h:b=46
 ·simp [h];decide
 ·rw [aL h,bL]at this;simp [h,this]
theorem OY:∀c:UInt8,mC (gB c)=mC c:=dS _ aA3
theorem fg:∀c:UInt8,hK (gB c)=hK c:=dS _ aA3
theorem J5:∀c:UInt8,hK (gB c)=ζ->gB c=c:=dS _ aA3
theorem fh:∀c:UInt8,(gB c==45)=(c==45):=dS _ aA3
theorem W0(x:aC)(i:Int):(at_ (dR x) i==45)=(at_ x i==45):=by
 unfold dR at_;rw [bQ,bQ,bE];cases x[i.toNat]? with
 |none=>rfl
 |some c=>exact fh c
theorem UH(x:aC):Sn (dR x)=Sn x:=by
 have a:γ (dR x)=γ x:=by unfold dR;exact Rf ..
 have b:(dR x).all mC=x.all mC:=by unfold dR;rw [List.all_map];congr 1;funext c;exact OY c
 unfold Sn;rw [a,W0,W0,b]
theorem K5(x:aC):Ij (dR x)=Ij x:=by unfold Ij dR;rw [List.any_map];congr 1;funext c;show(!hK _)=_;rw [fg]
theorem UA(s:aC):VZ (dR s)=VZ s:=by
 have b:γ (dR s)=γ s:=by unfold dR;exact Rf ..
 have a:cR 46 (dR s)=(cR 46 s).map dR:=ND 46 gB qc s;have d:((cR 46 s).map dR).all Sn=(cR 46 s).all Sn:=by rw [List.all_map];congr 1;funext x;exact UH x
 have c:((cR 46 s).map dR).any Ij=(cR 46 s).any Ij:=by rw [List.any_map];congr 1;funext x;exact K5 x
 unfold VZ;rw [b,a,d,c]
theorem U5(g:aC):Fu ([91]++g++[93])=ζ/\sub ([91]++g++[93]) 1 ((γ ([91]++g++[93]))-1)=g:=by
 have a:γ ([91]++g++[93])=γ g+2:=aA2;have e:((γ g+2:Nat)-1)=(γ ([91]++g):Int):=aA4;constructor
 ·unfold Fu;rw [a,e];have b:=VY ([91]++g) 93 [];rw [b];rfl
 ·rw [a];have:=Dp ([91]++g++[93]) [91] g [93] aA2;have c:((γ g+2:Nat)-1)=((γ ([91]:aC)+γ g):Int):=aA4;rw [c];exact this
theorem uY(s:aC)(h:(dW s).2=ζ):dW (dW s).1=((dW s).1,ζ):=by
 by_cases f:Fu s=ζ
 ·unfold dW at h;rw [aB f]at h;by_cases k:(Cc (sub s 1 (γ s-1))).2=ζ
  ·have e:(dW s).1=[91]++(Cc (sub s 1 (γ s-1))).1++[93]:=by unfold dW;rw [aB f,aB k]
   rw [e];have n:=UY _ k;generalize(Cc _).1=g at n⊢;obtain⟨f1,f2⟩:=U5 g;unfold dW;rw [aB f1,f2,n,aB rfl]
  ·rw [aA k]at h;cases h
 ·by_cases j:jX s=ζ
  ·have e:dW s=(s,ζ):=by unfold dW;rw [aA f,aB j]
   rw [e];exact e
  ·by_cases i:VZ s=ζ
   ·have e:dW s=(dR s,ζ):=by unfold dW;rw [aA f,aA j,aB i]
    rw [e];have m:∀b∈s,mC b=ζ\/b=46:=by unfold VZ at i;simp only [hO]at i;exact XH 46 mC s (λx hx=>by have:=aT.1 i.1.2 x hx;unfold Sn at this;simp only [hO]at this;exact this.2)
    have p:Fu (dR s)=η:=by
     cases hx:Fu _ with
     |false=>rfl
     |true=>
      exfalso;unfold Fu at hx;simp at hx;have:=at_mem (dR s) 0 aA0;have r:at_ _ (0:Nat)=91:=hx.1.2;rw [r]at this;obtain⟨d,q,l⟩:=cJ.1 this;rcases m d q with a|a
      ·have:mC (gB d)=ζ:=by rw [OY];exact a
       rw [l]at this;exact PJ 91 this rfl
      ·rw [a]at l;exact absurd l aA1
    have o:jX (dR s)=η:=by
     cases hx:jX _ with
     |false=>rfl
     |true=>
      exfalso;have c:=hx;unfold jX at c;simp only [hO]at c;have:=XH 46 hK _ (λx hx=>(nW x (by rw [<-Ag];exact aT.1 c.1.2 x hx)).2.2)
      have hid:=Us s λb f=>by
       rcases this _ (List.mem_map_of_mem f)with a|a
       ·exact J5 b a
       ·rw [a];exact((qc b).1 a).symm
      rw [hid]at hx;exact j hx
    unfold dW;rw [p,aA aA1,o,aA aA1,UA,i,aB rfl,An]
   ·unfold dW at h;rw [aA f,aA j,aA i]at h;cases h
open List renaming length → aM
def QX(l:aC):Prop:=∀c,l.getLast? =δ c->bY c=η
theorem z8(a b:aC)(g:b≠[])(h:QX b):QX (a++b):=by
 intro c f;refine h c ?_;cases e:b.getLast? with
 |none=>exact absurd (List.getLast?_eq_none_iff.1 e) g
 |some d=>rw [Y5,e]at f;exact f
theorem su(p:UInt8->Bool)(a:∀c,p c=ζ->bY c=η)(b:aC)(h:b.all p=ζ):QX b:=
 λc d=>a c (aT.1 h c (List.mem_of_getLast? d))
theorem bch(a:aC)(d:UInt8)(h:bY d=η):QX (a++[d]):=by intro c b;rw [List.getLast?_concat,aW]at b;rw [<-b];exact h
theorem V5(s:aC)(d:∀c,s.head? =δ c->bY c=η)(b:QX s):cF s=s:=by
 have f:s.dropWhile bY=s:=by
  cases s with
  |nil=>rfl
  |cons c l=>exact lV (by rw [d c rfl];decide)
 have e:s.reverse.dropWhile bY=s.reverse:=by
  cases a:s.reverse with
  |nil=>rfl
  |cons c l=>
   refine lV ?_;have:s.getLast? =δ c:=by rw [<-List.head?_reverse,a];rfl
   rw [b c this];decide
 unfold cF BA;rw [f,e,List.reverse_reverse]
theorem ZA(v:aC)(a:Qz v≠[]):QX (Qz v):=by
 unfold Qz at a⊢;cases d:eP v with
 |true=>rw [mK,aQ];exact su cA ma v (Rc d).2
 |false=>
  cases c:We v with
  |true=>obtain⟨g,b,_⟩:=Bz v c;rw [Bool.or_true,aQ,b];exact bch (91::g) 93 aA1
  |false=>rw [eE,aH];unfold jG;exact bch (34::v.flatMap oS) 34 aA1
theorem nT:∀(r pre:List PP) (u V:aC),mX pre r=δ u->QX V->QX (V++u)
 |[],pre,u,V,h,f=>by rw [mX,aW]at h;subst h;rw [fI];exact f
 |p::r,pre,u,V,h,f=>by
  rw [mX]at h;cases a:Ru pre p&&Jo p with
  |false=>rw [a]at h;cases h
  |true=>
   rw [a,aQ,Z1]at h;obtain⟨t,i,rfl⟩:=h;rw [hO]at a;have d:eP p.1=ζ:=by have:=a.1;unfold Ru at this;simp only [hO]at this;exact this.1.1
   have e:V++59::(p.1++(sE p++t))=(V++59::(p.1++sE p))++t:=aA2;rw [e];refine nT r _ t _ i ?_;have c:=su cA ma p.1 (Rc d).2;cases g:p.2.2 with
   |false=>rw [Kt p g,fI,show V++59::p.1=(V++[59])++p.1 by simp];exact z8 _ _ (Rc d).1 c
   |true=>
    rw [Dj p g,show V++59::(p.1++61::Qz p.2.1)=(V++59::p.1++[61])++Qz p.2.1 by simp];by_cases b:Qz p.2.1=[]
    ·rw [b,fI];exact bch _ 61 aA1
    ·exact z8 _ _ b (ZA _ b)
theorem CG(p:UInt8->Bool)(t:aC)(a:∀c,t.head? =δ c->p c=η):∀s:aC,dN p (s++t)=dN p s
 |[]=>XJ p t a
 |c::s=>by rw [Kg,dN,dN,CG p t a s]
theorem B5(p:UInt8->Bool)(s t:aC)(k:Nat)(a:k<=aM s)(b:∀c,t.head? =δ c->p c=η):cC p (s++t) (k:Int)=cC p s (k:Int):=by unfold cC;rw [ta k _ aC1,ta k _ a,jF a,CG p t b]
theorem C0(s t:aC)(k:Nat)(b:UInt8)(d:k<=aM s)(a:∀c,t.head? =δ c->c≠b):fJ (s++t) k b=fJ s k b:=by
 by_cases h:k<aM s
 ·unfold fJ;rw [aK h,aK (show k<γ (s++t) by rw [bP];omega)];congr 2;simp only [at_,bQ];rw [aI aA0]
 ·have e:k=aM s:=by omega
  subst e;rw [Wh (s++t) s t b rfl,Wh s s [] b aA2,aL (λe=>a b e rfl)];rfl
theorem UM(V t:aC)(f:∀c,t.head? =δ c->c=59):kU (V++t)=kU V:=by
 have g:∀k,k<=aM V->cC cA (V++t) (k:Int)=cC cA V (k:Int):=λk b=>B5 cA V t k b λc d=>by rw [f c d];decide
 have h:cC cA (V++t) 0=cC cA V 0:=g 0 (cO _);have b:=rU cA V 0;unfold kU;rw [h];generalize cC cA V 0=k at b⊢;rw [C0 V t k 47 b λc d=>by rw [f c d];decide];by_cases a:k=0
 ·rw [aB a,aB a]
 ·rw [aA a,aA a];cases e:fJ V k 47 with
  |false=>rfl
  |true=>rw [g (k+1) (Qh e).1]
theorem Nv(V:aC)(h:kU V=aM V)(a:V≠[]):∀c,V.head? =δ c->cA c=ζ:=by
 intro c b;cases V with
 |nil=>exact absurd rfl a
 |cons d l=>
  rw [dZ,aW]at b;subst b;cases e:cA d with
  |true=>rfl
  |false=>
   have:cC cA (d::l) 0=0:=by rw [bbf,pR cA d l e]
   unfold kU at h;rw [aB this]at h;cases h
theorem Nu(V:aC)(h:kU V=aM V)(b:V≠[]):QX V:=by
 have a:∀(i:Nat),i<=aM V->cC cA V (i:Int)=aM V->i<aM V->QX V:=by
  intro i j d f;unfold cC at d;rw [ta i _ j]at d;have k:(V.drop i).all cA=ζ:=by rw [pS,bD,gZ];omega
  have e:=(IL i V).symm;rw [e];refine z8 _ _ ?_ (su cA ma _ k);intro l;have:=aV aM l;rw [gZ,fT]at this;omega
 have g:=bK.2 b;unfold kU at h;split at h
 ·omega
 ·split at h
  ·rename_i c;have m:=(Qh c).1;split at h
   ·omega
   ·rename_i hx;have:=rU cA V ((cC cA V 0+1:Nat):Int);exact a (cC cA V 0+1) aA0 h aA0
  ·exact a 0 (cO _) h g
theorem Va(x:aC×List PP)(h:(Ke x).2=0):jS (Ke x).1=((x.1,eC x.2),0):=by
 unfold Ke at h⊢;by_cases b:Bv x.1=ζ/\(iV (eC x.2)).2=0
 ·rw [aB b]at h⊢;obtain⟨f,k⟩:=b;rw [EZ,bD]at f;obtain⟨a,e⟩:=f;obtain⟨j,i,g,m⟩:=nU (eC x.2) (iV (eC x.2)).1 (by rw [<-k]);generalize(iV (eC x.2)).1=t at j i g⊢;have d:cF (x.1++t)=x.1++t:=by refine V5 _ (λc b=> ?_) (nT _ [] t x.1 g (Nu x.1 e a));rw [lu x.1 t a]at b;exact ma c (Nv x.1 e a c b)
  have l:=bK.2 a;simp only;unfold jS;rw [d,UM x.1 t i,e,aA aA0,Gg,Qy,j,aB rfl]
 ·rw [aA b]at h;exact absurd h aA1
open Go.Lib renaming itoa → dU
open Go.Op renaming bytesLess → vI
theorem FT(a b:aC):N7 a b=vI b a:=by unfold N7;rw [<-sX b a]
theorem Nb:∀a b c:aC,vI b a=η->vI c b=η->vI c a=η
 |[],b,c,_,_=>by cases c<;>rfl
 |x::a,[],c,h,_=>by cases h
 |x::a,y::b,[],_,h=>by cases h
 |x::a,y::b,z::c,f,d=>by
  rw [vI,gY]at f d⊢;have i:=fY f.1;have g:=fY d.1;rw [Z0]at i g;refine⟨aL (by rw [Z0];omega), ?_⟩;by_cases h:z=x
  ·have e:y=x:=by apply pB.1;rw [h]at g;omega
   subst h e;have j:(y==y)=ζ:=aA2;rw [j]at f d⊢;exact Nb a b c f.2 d.2
  ·have:(z==x)=η:=by simpa using h
   rw [this];rfl
theorem UE(a b:aC)(h:vI a b=ζ):vI b a=η:=by rw [sX b a,h];rfl
def XA(a b:PP):Prop:=vI b.1 a.1=η
theorem K0(a b:PP)(c:XA a b)(d:XA b a):a.1=b.1:=by unfold XA at c d;rw [sX b.1 a.1,d]at c;have:(a.1==b.1)=ζ:=aC2;exact eq_of_beq this
theorem FF(x:PP):∀V:List PP,V.Pairwise (λa b=>XA b a)->(Fg x V).Pairwise (λa b=>XA b a)
 |[],_=>by simp [Fg]
 |a::V,h=>by
  rw [fZ]at h;rw [Fg];cases e:N7 a.1 x.1 with
  |true=>
   rw [aQ,fZ];refine⟨λy c=> ?_,FF x V h.2⟩;rcases Oa x y V c with rfl|c
   ·exact UE _ _ (by rw [<-FT];exact e)
   ·exact h.1 y c
  |false=>
   have d:XA a x:=by unfold XA;rw [<-FT];exact e
   rw [aH,fZ,fZ];refine⟨λy c=> ?_,h.1,h.2⟩;rcases aP.1 c with rfl|c
   ·exact d
   ·exact Nb _ _ _ (h.1 y c) d
theorem Ve(x:PP):∀V:List PP,(Fg x V).Perm (x::V)
 |[]=>List.Perm.refl _
 |a::V=>by
  rw [Fg];cases N7 a.1 x.1 with
  |true=>rw [aQ];exact((Ve x V).cons a).trans (List.Perm.swap x a V)
  |false=>rw [aH]
theorem L8(x:PP)(l:List PP)(h:l.Pairwise XA):(rR x l).Pairwise XA:=by unfold rR;rw [List.pairwise_reverse];exact FF x _ (List.pairwise_reverse.2 aA8)
theorem UR(x:PP)(l:List PP):(rR x l).Perm (l++[x]):=by refine(List.reverse_perm _).trans ((Ve x _).trans ?_);exact(((List.reverse_perm l).cons x).trans (XQ (l₁:=[x])))
theorem Ou:∀(q p:List PP),p.Pairwise XA->(q.foldl (λout x=>rR x out) p).Pairwise XA/\(q.foldl (λout x=>rR x out) p).Perm (p++q)
 |[],p,h=>⟨h,aA2⟩
 |a::q,p,h=>by obtain⟨c,b⟩:=Ou q _ (L8 a p h);refine⟨c,b.trans ?_⟩;have:=(UR a p).append_right q;rw [gH]at this;exact this
theorem Vc(l:List PP):(eC l).Pairwise XA:=(Ou l [] List.Pairwise.nil).1
theorem WH(l:List PP):(eC l).Perm l:=by have:=(Ou l [] List.Pairwise.nil).2;exact this
def Ip(l:List PP):Prop:=l.Pairwise λa b=>a.1≠b.1
theorem Zx:∀l,Ip l->∀a∈l,∀b∈l,a.1=b.1->a=b
 |[],_,a,h,_,_,_=>absurd h aA2
 |x::l,d,a,i,b,g,e=>by
  unfold Ip at d;rw [fZ]at d;rcases aP.1 i with rfl|f
  ·rcases aP.1 g with rfl|c
   ·rfl
   ·exact absurd e (d.1 b c)
  ·rcases aP.1 g with rfl|c
   ·exact absurd e.symm (d.1 a f)
   ·exact Zx l d.2 a f b c e
variable {l:List PP}
theorem Br{m:List PP}(h:l.Perm m)(a:Ip l):Ip m:=h.pairwise a λh e=>h e.symm
theorem Nw(l m:List PP)(h:l.Perm m)(e:Ip l):eC l=eC m:=by have d:=(WH l).trans (h.trans (WH m).symm);have c:=Br (WH l).symm e;refine List.Perm.eq_of_pairwise (λa b g f j i=> ?_) (Vc l) (Vc m) d;exact Zx _ c a g b (d.mem_iff.2 f) (K0 a b j i)
theorem Jj:∀r pre u,mX pre r=δ u->Ip r/\∀p∈r,(∀q∈pre,q.1≠p.1)/\dR p.1=p.1
 |[],pre,u,_=>⟨List.Pairwise.nil,aA2⟩
 |p::r,pre,u,h=>by
  rw [mX]at h;cases c:Ru pre p&&Jo p with
  |false=>rw [c]at h;cases h
  |true=>
   rw [c,aQ,Z1]at h;obtain⟨t,j,rfl⟩:=h;rw [hO]at c;have d:=c.1;unfold Ru at d;simp only [hO,bD,dT]at d;obtain⟨g,f⟩:=Jj r _ t j;have b:∀q∈pre,q.1≠p.1:=λq a e=>by have:=dC.1 d.2 q a;exact this aD2
   refine⟨fZ.2 ⟨λq a=>(f q a).1 p aA2,g⟩,λq a=> ?_⟩;rcases aP.1 a with rfl|a
   ·exact⟨b,d.1.2⟩
   ·exact⟨λz i=>(f q a).1 z (by simp [i]),(f q a).2⟩
theorem get_mem(l:List PP)(g:Ip l)(a:∀p∈l,dR p.1=p.1)(p:PP)(b:p∈l):xQ l p.1=(p.2.1,ζ):=by
 have e:xQ l p.1=(match l.find? (λq=>dR q.1==dR p.1)with|some p=>(p.2.1,ζ)|none=>([],η)):=rfl;rw [e];cases c:l.find? (λq=>dR q.1==dR p.1)with
 |none=>have:=List.find?_eq_none.1 c p b;exact absurd aA2 this
 |some q=>have h:=RR c;have f:=mU c;have d:dR q.1=dR p.1:=aA8;rw [a q f,a p b]at d;rw [Zx l g q f p b d]
theorem yy(l:List PP)(name:aC)(a:∀p∈l,dR p.1=p.1)(f:dR name=name)(h:∀p∈l,p.1≠name):xQ l name=([],η):=by
 have e:xQ l name=(match l.find? (λq=>dR q.1==dR name)with|some p=>(p.2.1,ζ)|none=>([],η)):=rfl;rw [e];cases b:l.find? (λq=>dR q.1==dR name)with
 |none=>rfl
 |some q=>have g:=RR b;have d:=mU b;have c:dR q.1=dR name:=aD9;rw [a q d,f]at c;exact absurd c (h q d)
theorem Bg(q:UInt8->Bool)(n:∀c,kL c=ζ->q (gB c)=ζ)(m:q 58=ζ)(l:q 48=ζ)(k:q 91=ζ)(j:q 93=ζ)(e:q 46=ζ)(i:∀c,hK c=ζ->q c=ζ)(g:∀c,mC c=ζ->q (gB c)=ζ)(s:aC):∀c∈(dW s).1,q c=ζ:=by
 intro c a;unfold dW at a;split at a
 ·split at a
  ·rcases aR.1 a with a|a
   ·rcases aR.1 a with a|a
    ·rw [aE.1 a];exact k
    ·exact QF q n m l _ c a
   ·rw [aE.1 a];exact j
  ·simp at a
 ·split at a
  ·rename_i b;unfold jX at b;simp only [hO]at b;rcases XH 46 hK s (λx hx=>(nW x (by rw [<-Ag];exact aT.1 b.1.2 x hx)).2.2) c a with h|h
   ·exact i c h
   ·rw [h];exact e
  ·split at a
   ·rename_i b;unfold VZ at b;simp only [hO]at b;obtain⟨d,f,rfl⟩:=cJ.1 a;rcases XH 46 mC s (λx hx=>by have:=aT.1 b.1.2 x hx;unfold Sn at this;simp only [hO]at this;exact this.2) d f with h|h
    ·exact g d h
    ·rw [h];exact e
   ·simp at a
theorem Oh(s:aC):∀c∈(dW s).1,(!lY c)=ζ:=Bg _ (dS _ aA3) aA1 aA1 aA1 aA1 aA1 (dS _ aA3) (dS _ aA3) s
theorem Dt:∀c:UInt8,(!lY c)=ζ->bY c=η:=dS _ aA3
theorem ju:∀c:UInt8,hK c=ζ->(!lY c)=ζ:=dS _ aA3
theorem Vf(s:aC)(h:(dW s).2=ζ):(∃g,(dW s).1=[91]++g++[93])\/(∀c∈(dW s).1,c≠58/\c≠91/\c≠93):=by
 by_cases f:Fu s=ζ
 ·left;unfold dW at h⊢;rw [aB f]at h⊢;by_cases e:(Cc (sub s 1 (γ s-1))).2=ζ
  ·rw [aB e];exact⟨_,rfl⟩
  ·rw [aA e]at h;cases h
 ·right;intro c b;unfold dW at b;rw [aA f]at b;split at b
  ·rename_i a;unfold jX at a;simp only [hO]at a;rcases XH 46 hK s (λx hx=>(nW x (by rw [<-Ag];exact aT.1 a.1.2 x hx)).2.2) c b with h|h
   ·revert h;revert c;exact λc _=>(dS (λc=>hK c=ζ->c≠58/\c≠91/\c≠93) aA3) c
   ·rw [h];decide
  ·split at b
   ·rename_i a;unfold VZ at a;simp only [hO]at a;obtain⟨d,i,rfl⟩:=cJ.1 b;rcases XH 46 mC s (λx hx=>by have:=aT.1 a.1.2 x hx;unfold Sn at this;simp only [hO]at this;exact this.2) d i with h|h
    ·exact(dS (λc=>mC c=ζ->gB c≠58/\gB c≠91/\gB c≠93) aA3) d h
    ·rw [h];decide
   ·simp at b
theorem FJ(s:aC)(h:(dW s).2=ζ):(dW s).1≠[]:=by intro e;have:=uY s h;rw [e]at this;exact absurd (aV Prod.snd this) aA1
theorem Em(p:UInt8->Bool):∀l:aC,(∀c∈l,p c=η)->kC p l= -1
 |[],_=>rfl
 |b::l,h=>by unfold kC;rw [Em p l (λc a=>h c (eT _ a)),aB rfl,h b aA2,aA aA1]
theorem Uv(p:UInt8->Bool)(c:UInt8)(d:p c=ζ)(B:aC)(e:∀b∈B,p b=η):∀A:aC,kC p (A++c::B)=γ A
 |[]=>by rw [vX];unfold kC;rw [Em p B e,d];rfl
 |a::A=>by rw [Kg];unfold kC;rw [Uv p c d B e A,bX];omega
theorem T0(s:aC)(h:(dW s).2=ζ):kO (dW s).1=((dW s).1,[],η):=by
 rcases Vf s h with⟨g,j⟩|i
 ·rw [j];unfold kO;by_cases hx:kC (·==(58:UInt8)) ([91]++g++[93])<0
  ·rw [aB hx]
  ·rw [aA hx];have e:∀a:Nat,kC (·==(58:UInt8)) ([91]++g++[93])=(a:Int)->1<=a/\a<=γ g:=by
    intro a d;have l:kC (·==(58:UInt8)) ([91]++g++[93])=kC (·==(58:UInt8)) ([91]++g):=by rw [El,aA aA1]
    rw [l,BI]at d;unfold kC at d;have f:=Ek (·==(58:UInt8)) g;split at d
    ·rw [aA aA1]at d;omega
    ·omega
   obtain⟨a,d⟩:∃a:Nat,kC (·==(58:UInt8)) ([91]++g++[93])=(a:Int):=⟨(kC (·==(58:UInt8)) ([91]++g++[93])).toNat,aA0⟩;have m:=e a d;rw [d,iO];have t1:(([91]++g++[93]).take a).any (·==91)=ζ:=by obtain⟨b,rfl⟩:∃b,a=b+1:=⟨a-1,aA0⟩;simp
   have t2:(([91]++g++[93]).drop a).any (·==93)=ζ:=by rw [jF aA4];simp
   rw [t1,t2,aB aA1]
 ·unfold kO;rw [Em _ _ (λc k=>by simpa using (i c k).1),aB aA1]
theorem S9(s u:aC)(h:(dW s).2=ζ)(g:u.all hK=ζ):kO ((dW s).1++58::u)=((dW s).1,u,ζ):=by
 have f:∀c∈u,c≠58/\c≠93:=λc a=>(dS (λc=>hK c=ζ->c≠58/\c≠93) aA3) c (aT.1 g c a)
 have hx:kC (·==58) ((dW s).1++58::u)=(γ (dW s).1:Int):=Uv _ 58 aA1 u (λb i=>by simpa using (f b i).1) _;have d:(58::u).any (·==93)=η:=by
  rw [dC];intro c a;rcases aP.1 a with rfl|a
  ·decide
  ·simpa using (f c a).2
 have e:((γ (dW s).1:Int)+1).toNat=γ ((dW s).1++[58]):=aA2;unfold kO;rw [hx,aA aA0,iO,Qy,Gg,d,Qw,aA aA1,e,show(dW s).1++58::u=((dW s).1++[58])++u by simp,Gg]
theorem ux:∀c:UInt8,cA c=ζ->cA (HI c)=ζ:=dS _ aA3
theorem up_up:∀c:UInt8,HI (HI c)=HI c:=dS _ aA3
theorem Gk(s:aC):jI (jI s)=jI s:=by unfold jI;rw [jN];exact Y9 λc _=>up_up c
theorem wW(s:aC)(h:eP s=ζ):eP (jI s)=ζ:=by
 obtain⟨d,b⟩:=Rc h;unfold eP;rw [hO];refine⟨?_, ?_⟩
 ·cases s with
  |nil=>exact absurd rfl d
  |cons a s=>rfl
 ·unfold jI;rw [List.all_map];exact aT.2 λc e=>ux c (aT.1 b c e)
theorem kv:dR XO=XO:=aA1
theorem dst_vl(a:List PP)(b:aC)(t:aC)(h:mX [] (eC (kE a++nG b))=δ t):Ip (kE a++nG b):=Br (WH _) (Jj _ _ _ h).1
theorem KL(e:List PP)(b:aC)(t:aC)(h:mX [] (eC (kE e++nG b))=δ t):xQ (eC (kE e++nG b)) XO=(b, !(decide (b=[]))):=by
 obtain⟨i,f⟩:=Jj _ _ _ h;by_cases d:b=[]
 ·rw [d];refine yy _ _ (λp c=>(f p (by rw [d];exact c)).2) kv λp c=> ?_;have a:=bbq _ p c;unfold nG at a;rw [aB rfl,fI]at a;have:=(pC.1 a).2;simpa using this
 ·rw [aL d];have g:(XO,b,ζ)∈eC (kE e++nG b):=(WH _).mem_iff.2 (by unfold nG;rw [aA d];simp);exact get_mem _ i (λp c=>(f p c).2) _ g
theorem Lz(s:aC)(n:Int)(d:0<=n)(b:n<=65535):(Sq (dW s).1 n).all (λc=> !lY c)=ζ:=by
 rw [aT];intro c a;unfold Sq at a;split at a
 ·exact Oh s c a
 ·rcases aR.1 a with a|a
  ·exact Oh s c a
  ·rcases aR.1 a with a|a
   ·rw [aE.1 a];decide
   ·exact ju c (aT.1 (WE n d b).2.2.2 c a)
theorem Ts(s:aC)(n:Int)(h:(dW s).2=ζ):Sq (dW s).1 n≠[]/\(Sq (dW s).1 n).head? =(dW s).1.head? :=by
 have a:=FJ s h;unfold Sq;split
 ·exact⟨a,rfl⟩
 ·exact⟨aA2,lu _ _ a⟩
theorem ZD(x:VV)(h:(Ho x).2=0):lX (Ho x).1=((jI x.1,(dW x.2.1).1,x.2.2.1,x.2.2.2.1,eC (kE x.2.2.2.2++nG x.2.2.2.1)),0):=by
 unfold Ho at h⊢;by_cases i:(dW x.2.1).2=ζ/\eP x.1=ζ/\0<=x.2.2.1/\x.2.2.1<=65535/\(iV (eC (kE x.2.2.2.2++nG x.2.2.2.1))).2=0
 ·rw [aB i];obtain⟨y,R,o,n,T⟩:=i;obtain⟨M,L,A,U⟩:=nU (eC (kE x.2.2.2.2++nG x.2.2.2.1)) (iV (eC (kE x.2.2.2.2++nG x.2.2.2.1))).1 (by rw [<-T]);have u:=KL _ _ _ A;have g:kO (Sq (dW x.2.1).1 x.2.2.1)=if x.2.2.1=0 then((dW x.2.1).1,[],η)else((dW x.2.1).1,dU x.2.2.1,ζ):=by
   unfold Sq;by_cases j:x.2.2.1=0
   ·rw [aB j,aB j,T0 _ y]
   ·rw [aA j,aA j,BI,S9 _ _ y (WE _ o n).2.2.2]
  generalize eC (kE x.2.2.2.2++nG x.2.2.2.1)=l at M L A U u⊢;generalize(iV l).1=t at M L A⊢;have b:=Lz x.2.1 x.2.2.1 o n;obtain⟨m,E⟩:=Ts x.2.1 x.2.2.1 y;have f:=uY x.2.1 y;have r:=(WE x.2.2.1 o n).1;have K:=wW x.1 R;obtain⟨I,J⟩:=Rc K;simp only;have N:Cm++jI x.1++[32]++Sq (dW x.2.1).1 x.2.2.1++t=(Cm++jI x.1++[32])++(Sq (dW x.2.1).1 x.2.2.1++t):=aA2;have v:∀c,(Sq (dW x.2.1).1 x.2.2.1++t).head? =δ c->bY c=η:=λc i=>by rw [lu _ _ m]at i;exact Dt c (oJ (λc=> !lY c) _ b c i)
  generalize Sq (dW x.2.1).1 x.2.2.1=a at g b m E N v⊢;have C:cF (Cm++jI x.1++[32]++a++t)=Cm++jI x.1++[32]++a++t:=by
   refine V5 _ (λc i=> ?_) (nT _ [] t _ A (z8 _ _ m (su (λc=> !lY c) Dt _ b)));have:c=83:=by have e:(Cm++jI x.1++[32]++a++t).head? =δ 83:=rfl;rw [e,aW]at i;exact i.symm
   rw [this];decide
  have O:γ (Cm:aC)=8:=rfl;have z:Cm++jI x.1++[32]++a++t=Cm++(jI x.1++32::(a++t)):=aA2;have D:cC cA (Cm++jI x.1++[32]++a++t) 8=8+γ (jI x.1):=by have:=vZ cA _ Cm _ z;rw [y8 cA _ _ J]at this;exact this
  have s:γ (Cm++jI x.1)=8+γ (jI x.1):=by rw [bP,O]
  have S:Cm++jI x.1++[32]++a++t=(Cm++jI x.1)++32::(a++t):=aA2
  have H:cC bY (Cm++jI x.1++[32]++a++t) ((8+γ (jI x.1):Nat):Int)=8+γ (jI x.1)+1:=by
   have:=vZ bY _ (Cm++jI x.1) _ S;have e:dN bY (32::(a++t))=1:=by rw [dN,aB aA1,XJ bY _ v]
   rw [e,s]at this;exact this
  have q:sub (Cm++jI x.1++[32]++a++t) 8 ((8+γ (jI x.1):Nat):Int)=jI x.1:=Dp _ Cm (jI x.1) (32::(a++t)) z;have G:γ (Cm++jI x.1++[32])=8+γ (jI x.1)+1:=by rw [bP,s];rfl
  have p:(Cm++jI x.1++[32]++a++t).drop (8+γ (jI x.1)+1)=a++t:=by rw [N,<-G,Gg]
  have k:dN (λc=> !lY c) (a++t)=γ a:=by rw [y8 _ _ _ b,XJ _ t (λc i=>by rw [L c i];decide)];rfl
  have F:¬γ (Cm++jI x.1++[32]++a++t)<8:=by rw [z,bP];omega
  have B:jI ((Cm++jI x.1++[32]++a++t).take 8)=Cm:=by rw [z,<-O,Qy];decide
  have Q:=bK.2 I;unfold lX;rw [C,aA F,aA (not_not_intro B),D,aA aA0,H,aA aA0,q,p,k,Qy,Gg,Gk];unfold Xa;rw [g];have w:∀d:Int,Di (jI x.1) (dW x.2.1).1 d t=((jI x.1,(dW x.2.1).1,d,x.2.2.2.1,l),0):=by intro d;unfold Di;rw [M,aB rfl,u]
  by_cases j:x.2.2.1=0
  ·rw [aB j];simp only;rw [f,aA (show¬(ζ=η)by decide),aA aA1,w,j]
  ·have P:kT (dU x.2.2.1)=(x.2.2.1,0):=by unfold kT;rw [r,aA (by rintro⟨_,h|h⟩<;>simp only at h<;>omega)]
   rw [aA j];simp only;rw [f,aA (show¬(ζ=η)by decide),aB trivial,P,aB rfl,w]
 ·rw [aA i]at h;exact absurd h aA1
theorem SB(x:VV)(h:(Ho x).2=0):Ho (jI x.1,(dW x.2.1).1,x.2.2.1,x.2.2.2.1,eC (kE x.2.2.2.2++nG x.2.2.2.1))=Ho x:=by
 have b:=h;unfold Ho at b;by_cases c:(dW x.2.1).2=ζ/\eP x.1=ζ/\0<=x.2.2.1/\x.2.2.1<=65535/\(iV (eC (kE x.2.2.2.2++nG x.2.2.2.1))).2=0
 ·obtain⟨e,d,i,g,m⟩:=c;obtain⟨s,r,o,q⟩:=nU _ (iV _).1 (by rw [<-m]);have k:=dst_vl _ _ _ o;have a:(kE (eC (kE x.2.2.2.2++nG x.2.2.2.1))++nG x.2.2.2.1).Perm (kE x.2.2.2.2++nG x.2.2.2.1):=by
   refine MI _ ?_;have f:(kE (eC _)).Perm (kE (kE x.2.2.2.2++nG x.2.2.2.1)):=(WH _).filter _;have l:kE (kE x.2.2.2.2++nG x.2.2.2.1)=kE x.2.2.2.2:=by
    unfold kE;rw [jP,List.filter_filter];have n:(nG x.2.2.2.1).filter (λp=> !(p.1==XO))=[]:=by
     unfold nG;split
     ·rfl
     ·simp
    rw [n,fI];simp
   rw [l]at f;exact f
  have j:=Nw _ _ a.symm k;unfold Ho;rw [<-j,uY _ e,wW _ d,e,d,Gk]
 ·rw [aA c]at b;exact absurd b aA1
open Go.Lib renaming hasPrefix → fW, trimPrefix → fK
def Wi(s:aC):Bool:=s.all λc=> !eO c
theorem US(k:Int)(a:k=0\/k=1\/k=2):∀c:UInt8,Od c k=ζ->eO c=η:=by rcases a with rfl|rfl|rfl<;>exact dS _ aA3
theorem Ry:∀c:UInt8,eO (gB c)=eO c:=dS _ aA3
theorem HA(s:aC):Wi (dR s)=Wi s:=by unfold Wi dR;rw [List.all_map];congr 1;funext c;simp only [Function.comp_apply,Ry]
theorem Pm(s:aC)(d:aM s<=4194304):aoo FU s=δ (Wi s):=by
 have h:=Qf (λc=> !eO c) s d η (apn FU s)
  (λb=>by rw [arm,ajz,aA aA0])
  (λb k e h=>by have a:eO (at_ s (k:Int))=ζ:=aA8;rw [arm,ajz,aB aA0,tF,yB,aX,a,aQ])
  (λb k e h=>by have a:eO (at_ s (k:Int))=η:=aA8;rw [arm,ajz,aB aA0,tF,yB,aX,a,aH,tF])
 unfold aoo;rw [h,aX];unfold Wi;cases s.all (λc=> !eO c)<;>rfl
theorem xV(k:Int)(b:k=0\/k=1\/k=2):∀(f:Nat) (l:aC),nC k f l=ε->Wi (tM k f l)=ζ
 |0,l,_=>rfl
 |f+1,l,h=>by
  unfold nC at h;unfold tM;by_cases d:l=[]
  ·rw [aB d];rfl
  ·rw [aA d]at h⊢;cases c:Od (at_ l 0) k with
   |true=>rw [c,aB rfl,uA]at h;rw [aB rfl];have:=xV k b f (l.drop 1) h;unfold Wi at this⊢;rw [Gf,US k b _ c,this];rfl
   |false=>
    rw [c,aA aA1]at h;rw [aA aA1];cases e:Fo l with
    |none=>rw [e]at h;cases h
    |some v=>
     rw [e]at h;simp only at h⊢;cases a:eO v with
     |true=>rw [a,aB rfl]at h;cases h
     |false=>rw [a,aA aA1,uA]at h;have:=xV k b f (l.drop 3) h;unfold Wi at this⊢;rw [Gf,a,this];rfl
theorem xU(k:Int)(a:k=0\/k=1\/k=2)(l:aC)(h:vR k l=ε):Wi (rT k l)=ζ:=xV k a _ l h
def py(k:Int)(p:PP):Prop:=p.1≠[]/\dR p.1=p.1/\Wi p.1=ζ/\Wi p.2.1=ζ/\(k=1->p.2.2= !decide (p.2.1=[]))/\(k=2->p.2.2=ζ)
variable {s:aC}
theorem NQ(h:Hq l s=0):∀q∈l,q.1≠s:=by
 unfold Hq at h;split at h
 ·exact absurd h aA1
 ·rename_i b;intro q a e;exact b (iU.2 ⟨q,a,aD2⟩)
theorem P8(k:Int)(r:k=1\/k=2)(l:List PP)(T:aC)(h:(iH k l T).1=0):py k (iH k l T).2/\∀q∈l,q.1≠(iH k l T).2.1:=by
 have d:k=0\/k=1\/k=2:=.inr r;unfold iH at h⊢;cases g:vR k (T.take (kP T))with
 |some j=>rw [g]at h;exact absurd h (show¬(5:UInt8)=0 by decide)
 |none=>
  rw [g]at h;simp only at h⊢;by_cases o:kP T=0
  ·rw [aB o]at h;exact absurd h aA1
  ·rw [aA o]at h⊢;have i:∀_:kP T<=aM T,T.take (kP T)≠[]:=λp e=>by have:=aV aM e;rw [kX,fT]at this;omega
   have b:=i (ID _ _);have n:dR (rT k (T.take (kP T)))≠[]:=λe=>b ((Bw k _ g).1 ((Ej _).1 e));have f:Wi (dR (rT k (T.take (kP T))))=ζ:=by rw [HA];exact xU k d _ g
   by_cases c:kP T<aM T
   ·rw [aB c]at h⊢;cases a:vR k (T.drop (kP T+1))with
    |some j=>rw [a]at h;exact absurd h (show¬(5:UInt8)=0 by decide)
    |none=>
     rw [a]at h;simp only at h⊢;by_cases hx:T.drop (kP T+1)=[]/\k=1
     ·rw [aB hx]at h;exact absurd h aA1
     ·rw [aA hx]at h⊢;refine⟨⟨n,An _,f,xU k d _ a,λs=> ?_,λ_=>rfl⟩,NQ h⟩;have:¬rT k (T.drop (kP T+1))=[]:=λe=>hx ⟨(Bw k _ a).1 e,s⟩;show ζ= !decide (rT k (T.drop (kP T+1))=[]);rw [aL this];rfl
   ·rw [aA c]at h⊢;by_cases m:k=2
    ·rw [aB m]at h;exact absurd h aA1
    ·rw [aA m]at h⊢;exact⟨⟨n,An _,f,rfl,λ_=>rfl,λe=>absurd e m⟩,NQ h⟩
def LS(k:Int)(l:List PP):Prop:=Ip l/\∀p∈l,py k p
theorem LS.nil(k:Int):LS k []:=⟨List.Pairwise.nil,aA2⟩
variable {k:Int}
theorem LS.snoc(h:LS k l)(p:PP)(d:py k p)(e:∀q∈l,q.1≠p.1):LS k (l++[p]):=by
 refine⟨dH.2 ⟨h.1,List.pairwise_singleton _ _,λa g b f=> ?_⟩,λq c=> ?_⟩
 ·rw [aE.1 f];exact e a g
 ·rcases aR.1 c with c|c
  ·exact h.2 q c
  ·rw [aE.1 c];exact d
theorem LS.sort(h:LS k l):LS k (eC l):=⟨Br (WH l).symm h.1,λp a=>h.2 p ((WH l).mem_iff.1 a)⟩
theorem tD(l:List PP)(h:Ip l):eC (eC l)=eC l:=(Nw l (eC l) (WH l).symm h).symm
theorem G2(st s:aC):∀(f i:Nat) (l:List PP),LS 1 l->LS 1 (rM st s f i l).2.2
 |0,i,l,h=>h
 |f+1,i,l,h=>by
  unfold rM;split
  ·split
   ·rename_i c;obtain⟨b,a⟩:=P8 1 (.inl rfl) _ _ c;exact G2 st s f _ _ (h.snoc _ b a)
   ·exact LS.nil 1
  ·exact h
theorem N4(s:aC):∀(f i:Nat) (l:List PP),LS 2 l->LS 2 (Im s f i l).2
 |0,i,l,h=>h
 |f+1,i,l,h=>by
  unfold Im;split
  ·split
   ·rename_i c;obtain⟨b,a⟩:=P8 2 (.inr rfl) _ _ c;exact N4 s f _ _ (h.snoc _ b a)
   ·exact LS.nil 2
  ·exact h
def tJ(u:aC):Bool:= !decide (fK u [43]=[])&&decide (γ (fK u [43])<=30)&&(fK u [43]).all (tK (fW u [43]))
theorem Hn(b:Bool)(c:UInt8):((XM FU c).bind λ(a:Bool)=>(bif (!a)then(bif b then δ ζ else(if c=(42:UInt8)then δ η else δ (!decide (c=(35:UInt8)))))else δ η))=δ (!tK b c):=by rw [tT,aX];revert c;cases b<;>exact dS _ aA3
theorem VP(u:aC)(f:aM u<=4194304):atc FU u=δ (tJ u):=by
 have b:=Kv u [43];have h:=Qf (tK (fW u [43])) (fK u [43]) aA0 η (anj FU u)
  (λc=>by rw [aqk,ajh,aA aA0])
  (λc k d h=>by rw [aqk,ajh,aB aA0,tF,Hn,aX,h,yX,aQ])
  (λc k d h=>by rw [aqk,ajh,aB aA0,tF,Hn,aX,h,iN,aH,tF])
 unfold atc tJ;by_cases a:fK u [43]=[]
 ·rw [aB a,aX,aQ,aK a];rfl
 ·rw [aA a,aX,aL a];by_cases e:30<γ (fK u [43])
  ·rw [aK aA0,aQ,aL (show¬γ (fK u [43])<=30 by omega)];rfl
  ·rw [aL aA0,aH,h,aX,aK (show(fK u [43]).length<=30 by omega)];cases(fK u [43]).all (tK (fW u [43]))<;>rfl
theorem Fb(a:Bool):∀(T d:aC),Sm a T=δ d->d.all (tK a)=ζ
 |[],d,h=>by simp only [Sm,aW]at h;subst h;rfl
 |c::T,d,h=>by
  unfold Sm at h;split at h
  ·rename_i e;cases b:Sm a T with
   |none=>rw [b]at h;cases h
   |some d'=>rw [b]at h;simp only [WW,aW]at h;subst h;rw [Gf,e,Fb a T d' b];rfl
  ·split at h
   ·exact Fb a T d h
   ·cases h
theorem bo(s:aC)(i:Nat)(h:(vK s i).1=0):tJ (vK s i).2=ζ:=by
 unfold vK at h⊢;cases f:Sm (fJ s i 43) (sub s ((if fJ s i 43=ζ then i+1 else i:Nat):Int) (cM [59] s i:Int))with
 |none=>rw [f]at h;exact absurd h (show¬(5:UInt8)=0 by decide)
 |some d=>
  rw [f]at h;simp only at h⊢;by_cases j:d=[]
  ·rw [aB j]at h;exact absurd h aA1
  ·rw [aA j]at h⊢;by_cases g:30<aM d
   ·rw [aB g]at h;exact absurd h aA1
   ·rw [aA g];have a:=Fb _ _ _ f;simp only;cases b:fJ s i 43 with
    |true=>
     rw [b]at a;rw [aB rfl];have l:fK (43::d) [43]=d:=by unfold fK fW;simp
     have k:fW (43::d) [43]=ζ:=by unfold fW;simp
     unfold tJ;rw [l,k,a,aL j,aK (show γ d<=30 by omega)];rfl
    |false=>
     rw [b]at a f;rw [aA aA1];have l:=Nq _ _ f;have k:fW d [43]=η:=by
      cases d with
      |nil=>exact absurd rfl j
      |cons c d=>
       have m:tK η c=ζ:=by rw [Gf,hO]at a;exact a.1
       have:c≠43:=λe=>by subst e;exact absurd m aA1
       have n:¬(43:UInt8)=c:=λe=>this e.symm;show((43:UInt8)==c&&([]:aC).isPrefixOf d)=η;rw [eJ.2 n];rfl
     unfold tJ;rw [l,k,a,aL j,aK (show γ d<=30 by omega)];rfl
structure Good (u:UU):Prop where
 cu:((u.1=X9\/u.1=AT)/\dW u.2.2.1=(u.2.2.1,ζ)/\0<=u.2.2.2.1/\u.2.2.2.1<=65535/\Wi u.2.1=ζ)\/(u.1=tn/\u.2.2.1=[]/\u.2.2.2.1=0/\u.2.2.2.2.2=[]/\tJ u.2.1=ζ)
 ps:LS 1 u.2.2.2.2.1
 hs:LS 2 u.2.2.2.2.2
 pl:aM u.2.2.2.2.1<=16
 hl:aM u.2.2.2.2.2<=16
 pi:eC u.2.2.2.2.1=u.2.2.2.2.1
 hi:eC u.2.2.2.2.2=u.2.2.2.2.2
theorem CX(st s b e h:aC)(a:Int)(i:Nat)(c:(nO st s b e h a i).1=0):
  ∃P H,(nO st s b e h a i).2=(b,e,h,a,P,H)/\LS 1 P/\LS 2 H/\γ P<=16/\γ H<=16/\eC P=P/\eC H=H/\H=eC (Im s (aM s+1) (rM st s (aM s+1) i []).2.1 []).2:=by
 unfold nO at c⊢;have j:=G2 st s (aM s+1) i [] (LS.nil 1);have g:=N4 s (aM s+1) (rM st s (aM s+1) i []).2.1 [] (LS.nil 2);have l:=Yk st s (aM s+1) i [] aA2;have k:=Zm s (aM s+1) (rM st s (aM s+1) i []).2.1 [] aA2;split
 ·rename_i d;rw [aB d]at c;split
  ·exact⟨_,_,rfl,j.sort,g.sort,by rw [uU];exact l,by rw [uU];exact k,tD _ j.1,tD _ g.1,rfl⟩
  ·rename_i f;rw [aA f]at c;exact absurd c f
 ·rename_i d;rw [aA d]at c;exact absurd c d
theorem F8(q:aC)(h:(kT q).2=0):1<=(kT q).1/\(kT q).1<=65535:=by
 unfold kT at h⊢;split
 ·rename_i hx;rw [aB hx]at h;exact absurd h aA1
 ·rename_i hx;rw [aA hx]at h;have a:¬((hZ q).1<1\/65535<(hZ q).1):=λe=>hx ⟨h,e⟩;omega
theorem M3(s:aC)(i:Nat)(h:(Ra s i).1=0):dW (Ra s i).2.1=((Ra s i).2.1,ζ)/\0<=(Ra s i).2.2.1/\(Ra s i).2.2.1<=65535:=by
 unfold Ra at h⊢;split
 ·rename_i c;rw [aB c]at h;exact absurd h aA1
 ·rename_i c;rw [aA c]at h;have hid:=uY _ aC2;split
  ·rename_i a;rw [aB a]at h;split
   ·rename_i b;have:=F8 _ b;exact⟨hid,by simp only;omega,by simp only;omega⟩
   ·rename_i b;rw [aA b]at h;exact absurd h b
  ·rename_i a;rw [aA a]at h;split
   ·rename_i hx;rw [aB hx]at h;exact absurd h aA1
   ·exact⟨hid,show(0:Int)<=0 by decide,show(0:Int)<=65535 by decide⟩
theorem bc(U:aC)(h:(Hz U).1=0):Wi (Hz U).2=ζ/\(Hz U).2≠[]:=by
 unfold Hz at h⊢;cases a:vR 0 U with
 |some j=>rw [a]at h;simp only at h;split at h<;>exact absurd h aA1
 |none=>
  rw [a]at h;simp only at h⊢;by_cases b:U=[]
  ·rw [aB b]at h;exact absurd h aA1
  ·rw [aA b];exact⟨xU 0 (.inl rfl) U a,λe=>b ((Bw 0 U a).1 e)⟩
theorem wz(s:aC)(i:Nat)(h:(xF s i).1=0):dW (xF s i).2.2.1=((xF s i).2.2.1,ζ)/\0<=(xF s i).2.2.2.1/\(xF s i).2.2.2.1<=65535/\Wi (xF s i).2.1=ζ:=by
 unfold xF at h⊢;split
 ·rename_i a;rw [aB a]at h;split
  ·rename_i b;rw [aB b]at h;have:=M3 s _ h;exact⟨this.1,this.2.1,this.2.2,(bc _ b).1⟩
  ·rename_i b;rw [aA b]at h;exact absurd h b
 ·rename_i a;rw [aA a]at h;have:=M3 s _ h;exact⟨this.1,this.2.1,this.2.2,rfl⟩
theorem OL(s:aC):∀(f i:Nat) (l:List PP),i<=aM s->aM s-i<f->(i=aM s\/fJ s i 59=ζ)->(rM [59] s f i l).1=0->(rM [59] s f i l).2.1=aM s
 |0,i,l,n,m,h,b=>by omega
 |f+1,i,l,n,m,h,b=>by
  unfold rM at b⊢;by_cases d:fJ s i 59=ζ
  ·rw [aB d]at b⊢;have c:=(Qh d).1;have j:=kH [59] s (i+1);have e:=QZ [59] s (i+1) c;by_cases g:(iH 1 l (sub s ((i+1:Nat):Int) (cM [59] s (i+1):Int))).1=0
   ·rw [aB g]at b⊢;refine OL s f _ _ e aA0 ?_ b;by_cases k:cM [59] s (i+1)=aM s
    ·exact .inl k
    ·have a:=BU [59] s (i+1) c aA0;refine .inr ?_;unfold fJ;rw [aK aA0,Qx];unfold jR at a;rw [Re,uD,eE]at a;have o:=eq_of_beq a;rw [<-o];rfl
   ·rw [aA g]at b;exact absurd b g
  ·rw [aA d];exact h.resolve_right d
theorem Mg(s:aC)(h:(Wl s).1=0):Good (Wl s).2:=by
 unfold Wl at h⊢;by_cases t:1024<aM s
 ·rw [aB t]at h;exact absurd h aA1
 ·rw [aA t]at h⊢;by_cases j:cM [58] s 0<aM s
  ·rw [aB j]at h⊢;generalize cM [58] s 0=c at j h⊢;generalize dR (s.take c)=f at h⊢;by_cases b:f=X9\/f=AT
   ·rw [aB b]at h⊢;by_cases d:(xF s (c+1)).1=0
    ·rw [aB d]at h⊢;obtain⟨P,H,e,r,q,p,o,n,m,_⟩:=CX _ _ _ _ _ _ _ h;rw [e];obtain⟨A,z,y,x⟩:=wz s (c+1) d;exact⟨.inl ⟨b,A,z,y,x⟩,r,q,p,o,n,m⟩
    ·rw [aA d]at h;exact absurd h d
   ·rw [aA b]at h⊢;by_cases a:f=tn
    ·rw [aB a]at h⊢;by_cases d:(vK s (c+1)).1=0
     ·rw [aB d]at h⊢;have u:=kH [59] s (c+1);have k:=QZ [59] s (c+1) j;have l:(rM [59] s (aM s+1) (cM [59] s (c+1)) []).1=0:=by
       unfold nO at h;by_cases hx:(rM [59] s (aM s+1) (cM [59] s (c+1)) []).1=0
       ·exact hx
       ·rw [aA hx]at h;exact absurd h hx
      have i:=OL s (aM s+1) (cM [59] s (c+1)) [] k aA0 (by
       by_cases v:cM [59] s (c+1)=aM s
       ·exact .inl v
       ·have g:=BU [59] s (c+1) j aA0;refine .inr ?_;unfold fJ;rw [aK aA0,Qx];unfold jR at g;rw [Re,uD,eE]at g;have B:=eq_of_beq g;rw [<-B];rfl) l
      obtain⟨P,H,e,r,q,p,o,n,m,C⟩:=CX _ _ _ _ _ _ _ h;rw [e];have w:H=[]:=by rw [C,i,Im,aA (Nat.lt_irrefl _)];rfl
      exact⟨.inr ⟨a,rfl,rfl,w,bo s (c+1) d⟩,r,q,p,o,n,m⟩
     ·rw [aA d]at h;exact absurd h d
    ·rw [aA a]at h;exact absurd h aA1
  ·rw [aA j]at h;exact absurd h aA1
theorem VJ(k:Int)(z:k=1\/k=2)(l:List PP)(E:aM l<=16)(n:LS k l)(B:∀p∈l,aM p.1<=4194304/\γ p.2.1<=4194304)(q:List PP):∀(p:List PP) (b:Nat),l=p++q->aM q<b->
  ajy FU l k b p (aM p:Int)=δ (.inl l):=by
 induction q with
 |nil=>intro p b h i;obtain⟨b,rfl⟩:=cS b;rw [avr,amk,aA aA5,h,fI]
 |cons a q y=>
  intro p b h i;obtain⟨b,rfl⟩:=cS b;have d:=aV aM h;simp only [bP,bX]at d i;have c:(0:Int)<=(aM p:Int)/\(aM p:Int)<(aM l:Int):=aA0;have A:el l (aM p:Int)=a:=aB3;have m:a∈l:=aA5;obtain⟨w,v,u,t,s,r⟩:=n.2 a m;obtain⟨o,D⟩:=B a m;have g:(p.any λx=>x.1==a.1)=η:=by rw [dC];intro x hx e;have j:=n.1;rw [h]at j;exact(dH.1 j).2.2 x hx a aA2 aD2
  have f:=y (p++[a]) b aA5 aA0;rw [show(γ (p++[a]):Int)=(aM p:Int)+1 by simp]at f;rw [avr,amk,aB c.2,aU c,aU c,A,z6 _ o,aX,v,aA w,Pm _ o,aX,u,iN,aH,Pm _ D,aX,t,iN,aH,Oi p aA0,g,aX,aX,aH];have C:(if k=(2:Int)then(bif (!(a.2.2))then δ ζ else(if k=(1:Int)then δ (!((a.2.2)==(!decide ((a.2.1)=([]:aC)))))else δ η))else(if k=(1:Int)then δ (!((a.2.2)==(!decide ((a.2.1)=([]:aC)))))else δ η))=δ η:=by
   rcases z with rfl|rfl
   ·rw [aA aA1,aB rfl,s rfl];simp
   ·rw [aB rfl,r rfl,iN,aH,aA aA1]
  rw [C,aX,aH];simp only [JO];rw [aU aB0,aU (cZ _ aA0 aA0)];exact f
theorem vA(k:Int)(b:k=1\/k=2)(l:List PP)(a:aM l<=16)(d:LS k l)(c:∀p∈l,aM p.1<=4194304/\γ p.2.1<=4194304):apz FU l k=δ (eC l,ζ):=by unfold apz;have h:ajy FU l k FU [] (0:Int)=δ (.inl l):=VJ k b l a d c l [] FU rfl aA6;rw [aA aA0,h,aX,yR,qI l aA0,aX]
def Sml(u:UU):Prop:=aM u.1<=4194304/\γ u.2.1<=4194304/\γ u.2.2.1<=4194304/\(∀p∈u.2.2.2.2.1,aM p.1<=4194304/\γ p.2.1<=4194304)/\(∀p∈u.2.2.2.2.2,aM p.1<=4194304/\γ p.2.1<=4194304)
theorem TX(u:UU)(A:Good u)(z:Sml u):atd FU u=δ (u,0):=by
 obtain⟨a,B,h,y,P,H⟩:=u;obtain⟨t,s,r,q,p,o,n⟩:=A;obtain⟨x,g,w,f,e⟩:=z;simp only at t s r q p o n x g w f e;have c:dR a=a:=by
  rcases t with⟨b,_⟩|⟨b,_⟩
  ·rcases b with rfl|rfl<;>decide
  ·rw [b];decide
 unfold atd;simp only;rw [z6 _ x,aX,c];have v:(if a=([115,105,112]:aC)then δ (decide (a=([115,105,112]:aC)))else δ (decide (a=([115,105,112,115]:aC))))=δ (decide (a=X9\/a=AT)):=by
  by_cases d:a=X9
  ·rw [aB (show a=([115,105,112]:aC)from d),aK (show a=([115,105,112]:aC)from d),aK (Or.inl d)]
  ·rw [aA (show¬a=([115,105,112]:aC)from d)];congr 1;rw [eA];exact⟨Or.inr,λh=>h.resolve_left d⟩
 rw [v,aX];rcases t with⟨b,m,l,k,j⟩|⟨b,m,l,k,j⟩
 ·rw [aK b,aQ,bbx _ w,aX,m,aQ,aB l,aB k,Pm _ g,aX,j,aX];rw [vA 1 (.inl rfl) P q s f,aX,vA 2 (.inr rfl) H p r e,aX,o,n];rfl
 ·subst m l k;have i:¬(a=X9\/a=AT):=by rw [b];decide
  rw [aL i,aH,aB (show a=([116,101,108]:aC)from b),aB rfl,aB rfl,aB (show(γ ([]:List PP):Int)=0 from rfl),VP _ g,aX,j,aX];rw [vA 1 (.inl rfl) P q s f,aX,vA 2 (.inr rfl) [] p r e,aX,o,n];rfl
def qG(n:Nat):UInt8:=at_ [48,49,50,51,52,53,54,55,56,57,65,66,67,68,69,70] (n:Int)
def GM(k:Int)(c:UInt8):aC:=if Od c k=ζ then [c]else [37,qG (c.toNat/16),qG (c.toNat%16)]
def iC(k:Int)(s:aC):aC:=s.flatMap (GM k)
theorem shr4:∀c:UInt8,(Xs c (4:Int)).toNat=c.toNat/16:=dS _ aA3
theorem xn:∀c:UInt8,(c&&&(15:UInt8)).toNat=c.toNat%16:=dS _ aA3
theorem HZ(k:Int)(s:aC):γ (iC k s)<=3*aM s:=by
 unfold iC;induction s with
 |nil=>exact eK _
 |cons c s a=>
  rw [rZ,bP,bX];have:γ (GM k c)<=3:=by unfold GM;split<;>simp
  omega
theorem zf(s:aC)(r:aM s<=4194304)(k:Int)(l:k=0\/k=1\/k=2)(q:aC):∀(p:aC) (d:Nat),s=p++q->aM q<d->
  aka FU s k d (iC k p) (aM p:Int)=δ (iC k s):=by
 induction q with
 |nil=>intro p d h g;obtain⟨d,rfl⟩:=cS d;rw [avt,amq,aA aA5,h,fI]
 |cons c q j=>
  intro p d h g;obtain⟨d,rfl⟩:=cS d;have e:=aV aM h;simp only [bP,bX]at e g;have b:(0:Int)<=(aM p:Int)/\(aM p:Int)<(aM s:Int):=aA0;have n:at_ s (aM p:Int)=c:=by rw [h];simp [at_]
  have a:=j (p++[c]) d aA5 aA0;have m:=HZ k p;have o:iC k (p++[c])=iC k p++GM k c:=by unfold iC;rw [IK,MF]
  rw [show(γ (p++[c]):Int)=(aM p:Int)+1 by simp,o]at a;rw [avt,amq,aB b.2,aU b,Oc _ k l,n,aX];unfold GM at a;cases i:Od c k with
  |true=>rw [i,aB rfl]at a;rw [aQ,aU b,aU aB0,aU (cZ _ aA0 aA0)];exact a
  |false=>rw [i,aA aA1]at a;have t:=lT c;have f:(γ ([48,49,50,51,52,53,54,55,56,57,65,66,67,68,69,70]:aC):Int)=16:=rfl;rw [aH,aU b,shr4,xn,f,aU aA0,aU b,aU aA0,aU aB4,aU (cZ _ aA0 aA0)];exact a
theorem oO(s:aC)(a:aM s<=4194304)(k:Int)(b:k=0\/k=1\/k=2):W7 FU s k=δ (iC k s):=by unfold W7;have h:aka FU s k FU [] (0:Int)=δ (iC k s):=zf s a k b s [] FU rfl aA6;rw [O5 aA0,h,aX]
theorem jo:∀c:UInt8,kL (qG (c.toNat/16))=ζ/\kL (qG (c.toNat%16))=ζ/\esV (qG (c.toNat/16)) (qG (c.toNat%16))=c:=dS _ aA3
theorem Q6(c:UInt8)(t:aC):Fo (37::qG (c.toNat/16)::qG (c.toNat%16)::t)=δ c:=by obtain⟨d,b,a⟩:=jo c;unfold Fo;have g:at_ (37::qG (c.toNat/16)::qG (c.toNat%16)::t) 0=37:=rfl;have f:at_ (37::qG (c.toNat/16)::qG (c.toNat%16)::t) 1=qG (c.toNat/16):=rfl;have e:at_ (37::qG (c.toNat/16)::qG (c.toNat%16)::t) 2=qG (c.toNat%16):=rfl;rw [g,f,e,aB ⟨aA2,rfl,d,b⟩,a]
theorem Oy(k:Int)(g:k=0\/k=1\/k=2):∀(s:aC) (f:Nat),Wi s=ζ->γ (iC k s)<f->nC k f (iC k s)=ε/\tM k f (iC k s)=s
 |[],f,_,b=>by obtain⟨f,rfl⟩:∃m,f=m+1:=⟨f-1,aA0⟩;exact⟨rfl,rfl⟩
 |c::s,f,d,b=>by
  obtain⟨f,rfl⟩:∃m,f=m+1:=⟨f-1,aA0⟩;unfold Wi at d;rw [Gf,hO]at d;have e:iC k (c::s)=GM k c++iC k s:=by unfold iC;rw [rZ]
  rw [e]at b⊢;unfold GM at b⊢;cases h:Od c k with
  |true=>rw [h,aB rfl]at b;obtain⟨l,j⟩:=Oy k g s f d.2 aE4;have n:at_ (c::iC k s) 0=c:=rfl;rw [aB rfl,BI];have a:¬(c::iC k s=[]):=aA2;unfold nC tM;rw [aA a,aA a,n,h,aB rfl,aB rfl,nt,WV,l,j];exact⟨rfl,rfl⟩
  |false=>
   rw [h,aA aA1]at b;obtain⟨l,j⟩:=Oy k g s f d.2 aE4;rw [aA aA1];have o:=Q6 c (iC k s);have i:eO c=η:=by simpa using d.1
   show nC k (f+1) (37::qG (c.toNat/16)::qG (c.toNat%16)::iC k s)=ε/\tM k (f+1) (37::qG (c.toNat/16)::qG (c.toNat%16)::iC k s)=c::s;have n:at_ (37::qG (c.toNat/16)::qG (c.toNat%16)::iC k s) 0=37:=rfl;have a:¬(37::qG (c.toNat/16)::qG (c.toNat%16)::iC k s=[]):=aA2;unfold nC tM;rw [aA a,aA a,n,qi k g,aA aA1,aA aA1,o];simp only;rw [i,aA aA1];simp only [nt,WV];rw [l,j];exact⟨rfl,rfl⟩
theorem Fk(k:Int)(a:k=0\/k=1\/k=2)(s:aC)(h:Wi s=ζ):vR k (iC k s)=ε/\rT k (iC k s)=s:=Oy k a s _ h (nF _)
theorem mP(k:Int)(q:UInt8->Bool)(f:∀c,Od c k=ζ->q c=ζ)(e:q 37=ζ)(b:∀c:UInt8,q (qG (c.toNat/16))=ζ/\q (qG (c.toNat%16))=ζ)(s:aC):∀c∈iC k s,q c=ζ:=by
 intro c a;unfold iC at a;rw [mJ]at a;obtain⟨x,_,hx⟩:=a;unfold GM at hx;split at hx
 ·rename_i d;rw [aE.1 hx];exact f x d
 ·simp only [WU,fR,HP]at hx;rcases hx with rfl|rfl|rfl
  ·exact e
  ·exact(b x).1
  ·exact(b x).2
theorem Gh(out s:aC)(h:aM out+aM s<=140737488355328):BF FU ((),out) s=δ ((aM s:Int),(),(),out++s):=by unfold BF;simp only;rw [aU aA0]
theorem ou(out:aC)(c:UInt8)(h:aM out+1<=140737488355328):afd FU ((),out) c=δ ((),(),out++[c]):=by unfold afd;simp only;rw [aU aB0]
def lB(p:PP):aC:=iC 1 p.1++(bif p.2.2 then 61::iC 1 p.2.1 else [])
def mE(p:PP):aC:=iC 2 p.1++61::iC 2 p.2.1
def wL(l:List PP):aC:=l.flatMap λp=>59::lB p
def jA(l:List PP):aC:=l.flatMap λp=>38::mE p
def tE:List PP->aC
 |[]=>[]
 |p::r=>63::(mE p++jA r)
def BV(u:UU):aC:=if u.1=tn then u.2.1 else if u.2.1=[]then []else iC 0 u.2.1++[64]
def xE(n:Int):aC:=if n=0 then []else 58::dU n
def uP(u:UU):aC:=u.1++(58::(BV u++(u.2.2.1++(xE u.2.2.2.1++(wL u.2.2.2.2.1++tE u.2.2.2.2.2)))))
theorem DO(p:PP)(h:aM p.1<=4194304/\γ p.2.1<=4194304):γ (lB p)<=25165830:=by
 have b:=HZ 1 p.1;have a:=HZ 1 p.2.1;unfold lB;rw [bP];cases p.2.2 with
 |true=>rw [aQ,bX];omega
 |false=>rw [aH,fT];omega
theorem QC(p:PP)(h:aM p.1<=4194304/\γ p.2.1<=4194304):γ (mE p)<=25165830:=by have b:=HZ 2 p.1;have a:=HZ 2 p.2.1;unfold mE;rw [bP,bX];omega
theorem TL(u:UU)(q:∀p∈u.2.2.2.2.1,aM p.1<=4194304/\γ p.2.1<=4194304)(s:aM u.2.2.2.2.1<=16)(r:List PP):∀(pre:List PP) (a:Nat) (out:aC),u.2.2.2.2.1=pre++r->aM r<a->aM out<=100000000+aM pre*30000000->
  aip FU (u,0) a (aM pre:Int) () out=δ ((),out++wL r):=by
 induction r with
 |nil=>intro pre a out h j m;obtain⟨a,rfl⟩:=cS a;rw [fI]at h;rw [axd,anl,aA aA5];simp [wL]
 |cons p r k=>
  intro pre a out h j m;obtain⟨a,rfl⟩:=cS a;have f:=aV aM h;simp only [bP,bX]at f j;have b:(0:Int)<=(aM pre:Int)/\(aM pre:Int)<(aM u.2.2.2.2.1:Int):=aA0;have n:el u.2.2.2.2.1 (aM pre:Int)=p:=aB3;have c:=q p aA5;have v:=HZ 1 p.1;have t:=HZ 1 p.2.1;have d:acl ((aM pre:Int)+1):=cZ _ aA0 aA0;have next:∀o:aC,o=out++(59::lB p)->aip FU (u,0) a ((aM pre:Int)+1) () o=δ ((),out++wL (p::r)):=by intro o e;have l:=DO p c;have g:=k (pre++[p]) a o aA5 aA0 (by rw [e];simp only [bP,bX,fT];omega);rw [show(γ (pre++[p]):Int)=(aM pre:Int)+1 by simp]at g;rw [g,e];simp [wL]
  rw [axd,anl,aB b.2];simp only;rw [aU b,aU b,n,oO _ c.1 1 (.inr (.inl rfl)),aX,aU aB0,Gh _ _ aB2,aX];cases i:p.2.2 with
  |true=>
   rw [aQ,oO _ c.2 1 (.inr (.inl rfl)),aX,aU aB0,Gh _ _ aB2,aX,aU d];refine next _ ?_
   unfold lB;rw [i];simp
  |false=>
   rw [aH,aU d];refine next _ ?_
   unfold lB;rw [i];simp
theorem TK(u:UU)(y:∀p∈u.2.2.2.2.2,aM p.1<=4194304/\γ p.2.1<=4194304)(z:aM u.2.2.2.2.2<=16)(r:List PP):∀(pre:List PP) (b:Nat) (out:aC),u.2.2.2.2.2=pre++r->aM r<b->aM out<=1000000000+aM pre*30000000->
  agj FU (u,0) b (aM pre:Int) () out=δ ((),out++(if pre=[]then tE r else jA r)):=by
 induction r with
 |nil=>intro pre b out h s w;obtain⟨b,rfl⟩:=cS b;rw [fI]at h;rw [axc,ank,aA aA5];split<;>simp [tE,jA]
 |cons p r t=>
  intro pre b out h s w;obtain⟨b,rfl⟩:=cS b;have k:=aV aM h;simp only [bP,bX]at k s;have f:(0:Int)<=(aM pre:Int)/\(aM pre:Int)<(aM u.2.2.2.2.2:Int):=aA0;have x:el u.2.2.2.2.2 (aM pre:Int)=p:=aB3;have g:=y p aA5;have B:=HZ 2 p.1;have A:=HZ 2 p.2.1;have v:=QC p g;have q:acl ((aM pre:Int)+1):=cZ _ aA0 aA0;have next:∀(c:UInt8) (o:aC),o=out++(c::mE p)->agj FU (u,0) b ((aM pre:Int)+1) () o=δ ((),out++(c::(mE p++jA r))):=by intro c o j;have l:=t (pre++[p]) b o aA5 aA0 (by rw [j];simp only [bP,bX,fT];omega);rw [show(γ (pre++[p]):Int)=(aM pre:Int)+1 by simp,aA aA2]at l;rw [l,j];simp
  have tail:∀(c:UInt8),((W7 FU p.1 (2:Int)).bind λ(a:aC)=>(gd (aM a+γ ([61]:aC)<=9223372036854775807)<|((W7 FU p.2.1 (2:Int)).bind λ(d:aC)=>(gd (γ (a++([61]:aC))+aM d<=9223372036854775807)<|((BF FU ((),out++[c]) ((a++([61]:aC))++d)).bind λ(i:(Int×Unit×(Unit×(List UInt8))))=>(gd (acl ((aM pre:Int)+(1:Int)))<|(agj FU (u,0) b ((aM pre:Int)+(1:Int)) () i.2.2.2)))))))=δ ((),out++(c::(mE p++jA r))):=by
   intro c;rw [oO _ g.1 2 (.inr (.inr rfl)),aX,aU aB0,oO _ g.2 2 (.inr (.inr rfl)),aX,aU aB2,Gh _ _ aB2,aX,aU q];refine next c _ ?_
   unfold mE;simp
  rw [axc,ank,aB f.2];simp only;rw [aU f,aU f,x];by_cases m:pre=[]
  ·have n:(aM pre:Int)=0:=by rw [m];rfl
   rw [aB n,aB m,ou _ _ aA0,aX,aX];simp only;rw [tail 63];rfl
  ·have n:¬(aM pre:Int)=0:=λe=>m (vJ aA0);rw [aA n,aA m,ou _ _ aA0,aX,aX];simp only;rw [tail 38];unfold jA;rw [rZ];rfl
theorem Eb:∀(l:List PP),(∀p∈l,aM p.1<=4194304/\γ p.2.1<=4194304)->γ (wL l)<=aM l*30000000
 |[],_=>eK _
 |p::l,h=>by have c:=DO p (h p fE);have b:=Eb l (λq a=>h q (eT _ a));unfold wL at b⊢;rw [rZ,bP,bX,bX];omega
theorem FQ:∀(l:List PP),(∀p∈l,aM p.1<=4194304/\γ p.2.1<=4194304)->γ (jA l)<=aM l*30000000
 |[],_=>eK _
 |p::l,h=>by have c:=QC p (h p fE);have b:=FQ l (λq a=>h q (eT _ a));unfold jA at b⊢;rw [rZ,bP,bX,bX];omega
theorem FP(l:List PP)(h:∀p∈l,aM p.1<=4194304/\γ p.2.1<=4194304):γ (tE l)<=aM l*30000000:=by
 have:=FQ l h;cases l with
 |nil=>exact cO _
 |cons p l=>unfold jA at this;rw [rZ,bP,bX]at this;unfold tE jA;rw [bX,bP];omega
theorem F5(u:UU)(g:Good u)(z:Sml u):avj FU u=δ (uP u,0):=by
 have d:0<=u.2.2.2.1/\u.2.2.2.1<=65535:=by
  rcases g.cu with⟨_,_,p,A,_⟩|⟨_,_,h,_⟩
  ·exact⟨p,A⟩
  ·omega
 have hit:=WE u.2.2.2.1 d.1 d.2;have m:=g.pl;have n:=g.hl;have x:=HZ 0 u.2.1;obtain⟨w,s,v,l,k⟩:=z;have C:=Eb _ l;have B:=FP _ k;unfold avj;rw [TX u g ⟨w,s,v,l,k⟩,aX,aB rfl];simp only;rw [aU aB0,Gh _ _ aC8,aX];simp only;have q:(if u.1=([116,101,108]:aC)then((BF FU ((),([]:aC)++(u.1++([58]:aC))) u.2.1).bind λ(j:(Int×Unit×(Unit×(List UInt8))))=>δ ((),j.2.2.2))else(if u.2.1=([]:aC)then δ ((),([]:aC)++(u.1++([58]:aC)))else((W7 FU u.2.1 (0:Int)).bind λ(b:aC)=>(gd (aM b+γ ([64]:aC)<=9223372036854775807)<|((BF FU ((),([]:aC)++(u.1++([58]:aC))) (b++([64]:aC))).bind λ(i:(Int×Unit×(Unit×(List UInt8))))=>δ ((),i.2.2.2))))))=δ ((),u.1++([58]:aC)++BV u):=by
  unfold BV;by_cases e:u.1=tn
  ·rw [aB (show u.1=([116,101,108]:aC)from e),aB e,Gh _ _ aC8,aX];simp
  ·rw [aA (show¬u.1=([116,101,108]:aC)from e),aA e];by_cases f:u.2.1=[]
   ·rw [aB f,aB f];simp
   ·rw [aA f,aA f,oO _ s 0 (.inl rfl),aX,aU aB0,Gh _ _ aC8,aX];simp
 rw [q,aX];have y:γ (BV u)<=12582913:=by
  unfold BV;split
  ·omega
  ·split
   ·exact cO _
   ·rw [bP,fD];omega
 simp only;rw [Gh _ _ aB2,aX];simp only;have r:∀o:aC,aM o<=50000000->(if u.2.2.2.1=(0:Int)then δ ((),o)else(gd (acl u.2.2.2.1)<|(gd (γ ([58]:aC)+γ (dU u.2.2.2.1)<=9223372036854775807)<|((BF FU ((),o) (([58]:aC)++(dU u.2.2.2.1))).bind λ(c:(Int×Unit×(Unit×(List UInt8))))=>δ ((),c.2.2.2)))))=δ ((),o++xE u.2.2.2.1):=by
  intro o D;unfold xE;by_cases a:u.2.2.2.1=0
  ·rw [aB a,aB a,fI]
  ·rw [aA a,aA a,aU (cZ _ aA0 aA0),aU aB0,Gh _ _ aB2,aX];simp
 rw [r _ aB2,aX];have t:γ (xE u.2.2.2.1)<=6:=by
  unfold xE;split
  ·exact cO _
  ·rw [bX];omega
 simp only;have a:aip FU (u,0) FU (0:Int) () _=_:=TL u l m u.2.2.2.2.1 [] FU (u.1++([58]:aC)++BV u++u.2.2.1++xE u.2.2.2.1) rfl aA6 aC8;rw [a,aX];simp only;have p:agj FU (u,0) FU (0:Int) () _=_:=TK u k n u.2.2.2.2.2 [] FU (u.1++([58]:aC)++BV u++u.2.2.1++xE u.2.2.2.1++wL u.2.2.2.2.1) rfl aA6 aC8;rw [p,aX,aB rfl];simp only;rw [aU aB2];unfold uP;simp
open Go.Lib renaming hasPrefix → fW, itoa → dU, trimPrefix → fK
theorem Xb(st s A X Y:aC)(h:s=A++(X++Y))(d:∀c∈X,jR st c=η)(b:∀c,Y.head? =δ c->jR st c=ζ):cM st s (γ A)=γ A+γ X:=by subst h;unfold cM;rw [Gg,y8 _ _ _ (by rw [aT];intro c a;rw [d c a];rfl),XJ _ _ (λc a=>by rw [b c a];rfl),BG]
theorem Ii(A X:aC):γ A+γ X=γ (A++X):=jO.symm
theorem qQ(A:aC)(c:UInt8):γ A+1=γ (A++[c]):=by rw [bP];rfl
theorem qu(X Y:aC)(d:∀c∈X,(!(c==61))=ζ)(b:∀c,Y.head? =δ c->c=61):kP (X++Y)=γ X:=by unfold kP;rw [y8 _ _ _ (aT.2 d),XJ _ _ (λc a=>by rw [b c a];rfl),BG]
theorem e61(k:Int)(a:k=1\/k=2)(s:aC):∀c∈iC k s,(!(c==61))=ζ:=by
 rcases a with rfl|rfl
 ·exact mP 1 _ (dS _ aA3) aA1 (dS _ aA3) s
 ·exact mP 2 _ (dS _ aA3) aA1 (dS _ aA3) s
theorem Jy(k:Int)(a:k=0\/k=1\/k=2)(s:aC)(b:Wi s=ζ):iC k s=[]↔s=[]:=by have:=Bw k _ (Fk k a s b).1;rw [(Fk k a s b).2]at this;exact this.symm
theorem QI(k:Int)(g:k=1\/k=2)(l:List PP)(p:PP)(n:py k p)(h:p.2.2=ζ):iH k l (iC k p.1++61::iC k p.2.1)=(Hq l p.1,p):=by
 have a:k=0\/k=1\/k=2:=.inr g;obtain⟨m,j,f,d,i,z⟩:=n;obtain⟨y,x⟩:=Fk k a p.1 f;obtain⟨w,v⟩:=Fk k a p.2.1 d;have o:kP (iC k p.1++61::iC k p.2.1)=γ (iC k p.1):=qu _ _ (e61 k g p.1) (λc r=>by simpa using r.symm);have b:¬γ (iC k p.1)=0:=λe=>m ((Jy k a p.1 f).1 (vJ e));have q:(iC k p.1++61::iC k p.2.1).drop (γ (iC k p.1)+1)=iC k p.2.1:=by rw [<-MJ,Gg];rfl
 have hx:¬(iC k p.2.1=[]/\k=1):=by rintro⟨u,t⟩;have s:=(Jy k a p.2.1 d).1 u;have:=i t;rw [h,s]at this;exact absurd this aA1
 unfold iH;rw [o,Qy,y];rw [aA b,aB (by rw [bP,bX];omega),q,w];rw [aA hx,x,v,j];have:p=(p.1,p.2.1,ζ):=by rw [<-h]
 rw [<-this]
theorem P6(l:List PP)(p:PP)(k:py 1 p)(f:p.2.2=η):iH 1 l (iC 1 p.1)=(Hq l p.1,p):=by
 have a:(1:Int)=0\/(1:Int)=1\/(1:Int)=2:=.inr (.inl rfl);obtain⟨i,h,d,s,g,r⟩:=k;obtain⟨q,o⟩:=Fk 1 a p.1 d;have m:kP (iC 1 p.1)=γ (iC 1 p.1):=by have:=qu (iC 1 p.1) [] (e61 1 (.inl rfl) p.1) (λc n=>by simp at n);rw [fI]at this;exact this
 have b:¬γ (iC 1 p.1)=0:=λe=>i ((Jy 1 a p.1 d).1 (vJ e));have j:p.2.1=[]:=by have:=g rfl;rw [f]at this;simpa using this.symm
 unfold iH;rw [m,iS,q];rw [aA b,aA (Nat.lt_irrefl _),aA aA1,o,h];have:p=(p.1,[],η):=by rw [<-f,<-j]
 rw [<-this]
theorem P7(l:List PP)(p:PP)(a:py 1 p):iH 1 l (lB p)=(Hq l p.1,p):=by
 unfold lB;cases b:p.2.2 with
 |true=>rw [aQ];exact QI 1 (.inl rfl) l p a b
 |false=>rw [aH,fI];exact P6 l p a b
theorem jm(l:List PP)(p:PP)(a:py 2 p):iH 2 l (mE p)=(Hq l p.1,p):=QI 2 (.inr rfl) l p a (a.2.2.2.2.2 rfl)
theorem Mk(q:UInt8->Bool)(e:∀c,Od c 1=ζ->q c=ζ)(d:q 37=ζ)(b:∀c:UInt8,q (qG (c.toNat/16))=ζ/\q (qG (c.toNat%16))=ζ)(g:q 61=ζ)(p:PP):∀c∈lB p,q c=ζ:=by
 intro c f;rcases aR.1 f with h|h
 ·exact mP 1 q e d b _ c h
 ·cases a:p.2.2 with
  |true=>
   rw [a]at h;rcases aP.1 h with h|h
   ·rw [h];exact g
   ·exact mP 1 q e d b _ c h
  |false=>rw [a]at h;cases h
theorem Zn(q:UInt8->Bool)(d:∀c,Od c 2=ζ->q c=ζ)(b:q 37=ζ)(a:∀c:UInt8,q (qG (c.toNat/16))=ζ/\q (qG (c.toNat%16))=ζ)(f:q 61=ζ)(p:PP):∀c∈mE p,q c=ζ:=by
 intro c e;rcases aR.1 e with h|h
 ·exact mP 2 q d b a _ c h
 ·rcases aP.1 h with h|h
  ·rw [h];exact f
  ·exact mP 2 q d b a _ c h
theorem DL(q:UInt8->Bool)(i:∀c,Od c 1=ζ->q c=ζ)(g:q 37=ζ)(f:∀c:UInt8,q (qG (c.toNat/16))=ζ/\q (qG (c.toNat%16))=ζ)(e:q 61=ζ)(d:q 59=ζ)(l:List PP):∀c∈wL l,q c=ζ:=by
 intro c b;obtain⟨p,_,a⟩:=mJ.1 b;rcases aP.1 a with h|h
 ·rw [h];exact d
 ·exact Mk q i g f e p c h
theorem N1(q:UInt8->Bool)(i:∀c,Od c 2=ζ->q c=ζ)(g:q 37=ζ)(f:∀c:UInt8,q (qG (c.toNat/16))=ζ/\q (qG (c.toNat%16))=ζ)(e:q 61=ζ)(d:q 38=ζ)(l:List PP):∀c∈jA l,q c=ζ:=by
 intro c b;obtain⟨p,_,a⟩:=mJ.1 b;rcases aP.1 a with h|h
 ·rw [h];exact d
 ·exact Zn q i g f e p c h
theorem FO(q:UInt8->Bool)(f:∀c,Od c 2=ζ->q c=ζ)(e:q 37=ζ)(d:∀c:UInt8,q (qG (c.toNat/16))=ζ/\q (qG (c.toNat%16))=ζ)(b:q 61=ζ)(i:q 38=ζ)(g:q 63=ζ)(l:List PP):∀c∈tE l,q c=ζ:=by
 intro c a;cases l with
 |nil=>cases a
 |cons p l=>
  rcases aP.1 a with h|h
  ·rw [h];exact g
  ·rcases aR.1 h with h|h
   ·exact Zn q f e d b p c h
   ·exact N1 q f e d b i l c h
theorem Tz(l:List PP)(Z:aC)(b:∀c,Z.head? =δ c->c=63):∀c,(wL l++Z).head? =δ c->c=59\/c=63:=by
 intro c a;cases l with
 |nil=>exact .inr (b c a)
 |cons p l=>exact .inl (aJ a).symm
theorem FN(l:List PP):∀c,(tE l).head? =δ c->c=63:=by
 intro c a;cases l with
 |nil=>cases a
 |cons p l=>unfold tE at a;rw [dZ]at a;exact(aJ a).symm
theorem Vh(l:List PP):∀c,(jA l).head? =δ c->c=38:=by
 intro c a;cases l with
 |nil=>cases a
 |cons p l=>unfold jA at a;rw [rZ]at a;exact(aJ a).symm
theorem Ls(pre r:List PP)(p:PP)(a:Ip (pre++p::r))(d:γ pre+(γ r+1)<=16):Hq pre p.1=0:=by unfold Hq;unfold Ip at a;rw [dH]at a;rw [aA,aA aA0];intro h;rw [iU]at h;obtain⟨q,b,c⟩:=h;exact a.2.2 q b p fE (eq_of_beq c)
theorem plLA(st s:aC)(b:∀p:PP,∀c∈lB p,jR st c=η)(d:jR st 59=ζ)(Z:aC)(l:∀c,Z.head? =δ c->c≠59/\jR st c=ζ):∀r pre A f,s=A++(wL r++Z)->LS 1 (pre++r)->γ pre+γ r<=16->γ r<f->
  rM st s f (γ A) pre=(0,γ A+γ (wL r),pre++r)
 |[],pre,A,f,h,i,k,o=>by
  obtain⟨f,rfl⟩:∃m,f=m+1:=⟨f-1,aA0⟩;have j:fJ s (γ A) 59=η:=by rw [Wh s A Z 59 h];exact aL (λe=>(l 59 e).1 rfl)
  rw [rM,j,fI];rfl
 |p::r,pre,A,f,h,i,k,o=>by
  obtain⟨f,rfl⟩:∃m,f=m+1:=⟨f-1,aA0⟩;have w:wL (p::r)=59::(lB p++wL r):=by unfold wL;rfl
  rw [w]at h⊢;have z:s=A++(59::(lB p++(wL r++Z))):=aA5;have t:s=(A++[59])++(lB p++(wL r++Z)):=aA5;have y:s=((A++[59])++lB p)++(wL r++Z):=aA5;have j:fJ s (γ A) 59=ζ:=by rw [Wh s A _ 59 z];exact aK rfl
  have v:=i.2 p aA2;have n:cM st s (γ A+1)=γ (A++[59])+γ (lB p):=by
   rw [qQ A 59];refine Xb st s _ _ _ t (b p) (λc g=> ?_);cases r with
   |nil=>exact(l c g).2
   |cons q r=>unfold wL at g;rw [rZ,Kg]at g;rw [<-aJ g];exact d
  have a:sub s (γ A+1:Nat) (cM st s (γ A+1))=lB p:=by rw [n,qQ A 59];exact Dp s _ _ _ t
  have u:=Ls pre r p i.1 (by simp at k;omega);have x:iH 1 pre (lB p)=(0,p):=by rw [P7 pre p v,u]
  rw [rM,j,aB rfl,a,x,aB rfl,n,Ii];have:=plLA st s b d Z l r (pre++[p]) ((A++[59])++lB p) f y (by rw [gH];exact i) (by simp at k⊢;omega) (by simp at o;omega);rw [this];simp only [bP,bX,gH,BI];congr 2;omega
theorem N2(s:aC)(p:PP)(a:UInt8)(Z:aC)(l:∀c,Z.head? =δ c->c=38)(A:aC)(pre:List PP)(f:Nat)(h:s=A++(a::(mE p++Z)))(k:py 2 p)(j:Hq pre p.1=0):
  Im s (f+1) (γ A) pre=Im s f (γ ((A++[a])++mE p)) (pre++[p]):=by
 have i:s=(A++[a])++(mE p++Z):=aA5;have e:∀c∈mE p,jR [38] c=η:=by intro c d;have:=Zn (λc=> !(jR [38] c)) (dS _ aA3) aA1 (dS _ aA3) aA1 p c d;simpa using this
 have g:cM [38] s (γ A+1)=γ (A++[a])+γ (mE p):=by rw [qQ A a];exact Xb _ s _ _ Z i e (λc d=>by rw [l c d];decide)
 have b:sub s (γ A+1:Nat) (cM [38] s (γ A+1))=mE p:=by rw [g,qQ A a];exact Dp s _ _ _ i
 have m:iH 2 pre (mE p)=(0,p):=by rw [jm pre p k,j]
 rw [Im,aB (by rw [h,bP,bX];omega),b,m,aB rfl,g,Ii]
theorem qo(s:aC):∀r pre A f,s=A++jA r->LS 2 (pre++r)->γ pre+γ r<=16->γ r<f->
  Im s f (γ A) pre=(0,pre++r)
 |[],pre,A,f,h,a,b,c=>by obtain⟨f,rfl⟩:∃m,f=m+1:=⟨f-1,aA0⟩;have e:jA []=[]:=rfl;rw [e,fI]at h;rw [Im,aA aE3,fI]
 |p::r,pre,A,f,h,a,b,c=>by
  obtain⟨f,rfl⟩:∃m,f=m+1:=⟨f-1,aA0⟩;have d:jA (p::r)=38::(mE p++jA r):=by unfold jA;rfl
  rw [d]at h;rw [N2 s p 38 (jA r) (Vh r) A pre f h (a.2 p aA2) (Ls pre r p a.1 aE4),
   qo s r _ _ f aA5 (by rw [gH];exact a) (by simp at b⊢;omega) (by simp at c;omega),gH];rfl
theorem hdLA(s:aC)(r:List PP)(A:aC)(f:Nat)(h:s=A++tE r)(a:LS 2 r)(b:γ r<=16)(c:γ r<f):Im s f (γ A) []=(0,r):=by
 cases r with
 |nil=>obtain⟨f,rfl⟩:∃m,f=m+1:=⟨f-1,aA0⟩;have d:tE []=[]:=rfl;rw [d,fI]at h;rw [Im,aA aE3]
 |cons p r=>
  obtain⟨f,rfl⟩:∃m,f=m+1:=⟨f-1,aA0⟩
  unfold tE at h;rw [N2 s p 63 (jA r) (Vh r) A [] f h (a.2 p aA2) (Ls [] r p a.1 (by simp at b⊢;omega)),
   qo s r _ _ f aA5 a (by simp at b⊢;omega) (by simp at c;omega)];rfl
theorem DM:∀l:List PP,γ l<=γ (wL l)
 |[]=>eK _
 |p::l=>by
  have:=DM l;have a:wL (p::l)=59::(lB p++wL l):=by unfold wL;rfl
  rw [a,bX,bX,bP];omega
theorem QB:∀l:List PP,γ l<=γ (jA l)
 |[]=>eK _
 |p::l=>by
  have:=QB l;have a:jA (p::l)=38::(mE p++jA l):=by unfold jA;rfl
  rw [a,bX,bX,bP];omega
theorem ja(l:List PP):γ l<=γ (tE l):=by
 have:=QB l;cases l with
 |nil=>exact eK _
 |cons p l=>exact this
theorem pj(st s:aC)(d:∀p:PP,∀c∈lB p,jR st c=η)(i:jR st 59=ζ)(A b j h:aC)(a:Int)(P H:List PP)(e:s=A++(wL P++tE H))(g:H=[]\/jR st 63=ζ)(r:LS 1 P)(t:LS 2 H)(m:γ P<=16)(o:γ H<=16)(n:eC P=P)(q:eC H=H):
  nO st s b j h a (γ A)=(0,(b,j,h,a,P,H)):=by
 have w:=DM P;have v:=ja H;have k:γ s=γ A+(γ (wL P)+γ (tE H)):=by rw [e,bP,bP]
 have u:=plLA st s d i _ (λc f=>by
  have:=FN H c f;subst this;refine⟨aA1, ?_⟩;rcases g with h|h
  ·rw [h]at f;cases f
  ·exact h) P [] A (γ s+1) e r (by simpa using m) aA0
 have l:=hdLA s H _ (γ s+1) (by rw [e,gH]) t o aA0;rw [bP]at l;unfold nO;rw [u];rw [l];rw [aB rfl,aB rfl,vX,n,q]
theorem yt(s:aC):∀c∈(dW s).1,(!(c==63))=ζ:=Bg _ (dS _ aA3) aA1 aA1 aA1 aA1 aA1 (dS _ aA3) (dS _ aA3) s
theorem ys(s:aC):∀c∈(dW s).1,(!(c==64))=ζ:=Bg _ (dS _ aA3) aA1 aA1 aA1 aA1 aA1 (dS _ aA3) (dS _ aA3) s
theorem hEndA(s A H Z:aC)(h:s=A++(H++Z))(f:dW H=(H,ζ))(o:∀c,Z.head? =δ c->c=58\/c=59\/c=63):jY s (γ A)=γ A+γ H:=by
 have k:H≠[]:=by have:=FJ H (by rw [f]);rw [f]at this;exact this
 have a:=Wh s A _ 91 h;rw [lu _ _ k]at a;unfold jY;by_cases b:H.head? =δ 91
 ·rw [a,aK b,aB rfl];have kV:at_ H 0=91:=by
   cases H with
   |nil=>cases b
   |cons c H=>rw [dZ]at b;exact aJ b
  have n:We H=ζ:=by unfold We;rw [f,kV];simp
  obtain⟨g,e,m⟩:=Bz H n;have t:cM [93] s (γ A)=γ A+γ (91::g):=by
   refine Xb _ s A _ (93::Z) (by rw [h,e];simp) (λc d=> ?_) (λc d=>by rw [dZ]at d;rw [<-aJ d];decide);rcases aP.1 d with h|h
   ·rw [h];decide
   ·have:=m c h;unfold jR;simp only [Re,uD,eE];have j:¬c=93:=by simpa using this
    exact eJ.2 (λe=>j e.symm)
  have p:γ H=γ (91::g)+1:=aF5;have u:γ s=γ A+(γ H+γ Z):=by rw [h,bP,bP]
  omega
 ·rw [a,aL b];refine Xb _ s A H Z h (λc d=> ?_) (λc d=>by rcases o c d with h|h|h<;>subst h<;>decide);have i:=Vf H (by rw [f]);have l:=Oh H;have j:=yt H;rw [f]at i l j;have v:c≠58:=by
   rcases i with⟨g,e⟩|i
   ·exfalso;apply b;have e':H=[91]++g++[93]:=e;rw [e'];rfl
   ·exact(i c d).1
  have r:=l c d;have q:=j c d;revert c;exact λc _=>dS (λc=>c≠58->(!lY c)=ζ->(!(c==63))=ζ->jR _ c=η) aA3 c
theorem wu(n:Int)(a:0<=n)(h:n<=65535)(b:¬n=0):kT (dU n)=(n,0):=by obtain⟨e,_,_,_⟩:=WE n a h;unfold kT;rw [e,aA (by rintro⟨_,h|h⟩<;>dsimp only at h<;>omega)]
theorem hpA(s A H R:aC)(n:Int)(h:s=A++(H++(xE n++R)))(r:dW H=(H,ζ))(v:0<=n)(u:n<=65535)(p:∀c,R.head? =δ c->c=59\/c=63):Ra s (γ A)=(0,H,n,γ A+γ H+γ (xE n)):=by
 have x:=hEndA s A H _ h r (by
  intro c f;unfold xE at f;split at f
  ·exact .inr (p c f)
  ·exact .inl (aJ f).symm)
 have k:=Dp s A H _ h;have j:s=(A++H)++(xE n++R):=by rw [h,gH]
 have l:γ s=γ A+(γ H+(γ (xE n)+γ R)):=aA5;unfold Ra;rw [x,k,r];simp only;rw [aA aA1];by_cases o:n=0
 ·have m:xE n=[]:=aB o;rw [m]at j;have g:fJ s (γ A+γ H) 58=η:=by rw [Ii,Wh s _ R 58 j];exact aL (λe=>by rcases p 58 e with h|h<;>exact absurd h aA1)
  rw [g,aA aA1,o,aA]
  ·rfl
  ·rintro⟨a,b,c⟩;rw [Ii,Wh s _ R 59 j]at b;rw [Ii,Wh s _ R 63 j]at c;rw [m]at l;cases R with
   |nil=>rw [fT]at l;omega
   |cons d R=>
    rcases p d rfl with h|h
    ·subst h;exact absurd b aA2
    ·subst h;exact absurd c aA2
 ·have m:xE n=58::dU n:=aA o;obtain⟨_,_,_,w⟩:=WE n v u;rw [m]at j;have g:fJ s (γ A+γ H) 58=ζ:=by rw [Ii,Wh s _ _ 58 j];exact aK rfl
  have t:s=((A++H)++[58])++(dU n++R):=aF4;have q:cM [59,63] s (γ A+γ H+1)=γ ((A++H)++[58])+γ (dU n):=by rw [Ii,qQ _ 58];refine Xb _ s _ _ R t (λc f=> ?_) (λc f=>by rcases p c f with h|h<;>subst h<;>decide);have:=aT.1 w c f;revert c;exact λc _=>dS (λc=>hK c=ζ->jR _ c=η) aA3 c
  have i:sub s (γ A+γ H+1:Nat) (cM [59,63] s (γ A+γ H+1))=dU n:=by rw [q,Ii,qQ _ 58];exact Dp s _ _ R t
  rw [g,aB rfl,i,wu n v u o,aB rfl,q,m];simp only [bP,bX,fT];congr 3;omega
theorem plA(s A a H R:aC)(n:Int)(h:s=A++((if a=[]then []else iC 0 a++[64])++(H++(xE n++R))))(p:dW H=(H,ζ))(r:0<=n)(q:n<=65535)(u:∀c,R.head? =δ c->c=59\/c=63)(o:∀c∈R,(!(c==64))=ζ)(b:Wi a=ζ):
  xF s (γ A)=(0,a,H,n,γ A+γ (if a=[]then []else iC 0 a++[64]:aC)+γ H+γ (xE n)):=by
 unfold xF;by_cases k:a=[]
 ·rw [aB k]at h⊢;rw [vX]at h;have f:s=A++((H++(xE n++R))++[]):=by rw [h,fI]
  have d:cM [64] s (γ A)=γ A+γ (H++(xE n++R)):=by
   refine Xb [64] s A _ [] f (λc b=> ?_) (λc b=>by cases b);have t:=ys H;rw [p]at t;have v:(!(c==64))=ζ:=by
    rcases aR.1 b with h|h
    ·exact t c h
    ·rcases aR.1 h with h|h
     ·unfold xE at h;split at h
      ·cases h
      ·rcases aP.1 h with h|h
       ·rw [h];decide
       ·have:=aT.1 (WE n r q).2.2.2 c h;revert this;exact dS (λc=>hK c=ζ->(!(c==64))=ζ) aA3 c
     ·exact o c h
   have f:¬c=64:=by simpa using v
   unfold jR;simp only [Re,uD,eE];exact eJ.2 (λe=>f e.symm)
  have j:γ s=γ A+γ (H++(xE n++R)):=by rw [h,bP]
  rw [aA (by rw [d,j];exact Nat.lt_irrefl _),hpA s A H R n h p r q u,k];rfl
 ·rw [aA k]at h⊢;have f:s=A++(iC 0 a++(64::(H++(xE n++R)))):=by rw [h];simp
  have w:s=(A++iC 0 a++[64])++(H++(xE n++R)):=aA5;have d:cM [64] s (γ A)=γ A+γ (iC 0 a):=by refine Xb [64] s A _ _ f (λc b=> ?_) (λc b=>by rw [<-aJ b];decide);have:=mP 0 (λc=> !(jR [64] c)) (dS _ aA3) aA1 (dS _ aA3) a c b;simpa using this
  have g:sub s (γ A:Int) ((γ A+γ (iC 0 a):Nat):Int)=iC 0 a:=Dp s A _ _ f;obtain⟨y,x⟩:=Fk 0 (.inl rfl) a b;have l:Hz (iC 0 a)=(0,a):=by unfold Hz;rw [y];rw [aA (λe=>k ((Jy 0 (.inl rfl) a b).1 e)),x]
  have m:γ A+γ (iC 0 a)<γ s:=by rw [f,bP,bP,bX];omega
  have i:γ A+γ (iC 0 a)+1=γ (A++iC 0 a++[64]):=by simp only [bP,bX,fT]
  rw [d,aB m,g,l,aB rfl,i,hpA s _ H R n w p r q u];simp only;congr 4;simp only [bP];omega
theorem Np(a:Bool):∀d:aC,d.all (tK a)=ζ->Sm a d=δ d
 |[],_=>rfl
 |c::d,h=>by rw [Gf,hO]at h;rw [Sm,aB h.1,Np a d h.2];rfl
def RP(c:UInt8):Bool:= !(c==62)&& !eO c
theorem GR(u:aC)(h:tJ u=ζ):∀c∈u,(!(c==59))=ζ/\RP c=ζ:=by
 unfold tJ at h;simp only [hO]at h;have g:=h.2;intro c f;have i:∀d c,tK d c=ζ->(!(c==59))=ζ/\RP c=ζ:=by intro d;cases d<;>exact dS _ aA3
 cases u with
 |nil=>cases f
 |cons a u=>
  by_cases b:a=43
  ·subst b;rcases aP.1 f with h|h
   ·rw [h];decide
   ·exact i _ c (aT.1 g c h)
  ·have j:¬43=a:=λe=>b e.symm;have k:fK (a::u) [43]=a::u:=by unfold fK fW;simp [j]
   rw [k]at g;exact i _ c (aT.1 g c f)
theorem jx(u:aC)(h:tJ u=ζ):u≠[]:=λe=>by rw [e]at h;exact absurd h aA1
theorem telA(s A f Z:aC)(h:s=A++(f++Z))(o:∀c,Z.head? =δ c->c=59)(k:tJ f=ζ):vK s (γ A)=(0,f)/\cM [59] s (γ A)=γ A+γ f:=by
 have j:=jx f k;have i:cM [59] s (γ A)=γ A+γ f:=by
  refine Xb [59] s A f Z h (λc m=> ?_) (λc m=>by rw [o c m];decide);have l:¬c=59:=by simpa using (GR f k c m).1
  unfold jR;simp only [Re,uD,eE];exact eJ.2 (λe=>l e.symm)
 refine⟨?_,i⟩;unfold vK;rw [i];have b:=Wh s A (f++Z) 43 h;rw [lu _ _ j]at b;unfold tJ at k;simp only [hO,dT,bL,bD]at k;obtain⟨⟨d1,d2⟩,d3⟩:=k;cases f with
 |nil=>exact absurd rfl j
 |cons a u=>
  by_cases g:a=43
  ·subst g;have n:fK (43::u) [43]=u:=by unfold fK fW;simp
   rw [n]at d1 d2 d3;have p:s=(A++[43])++(u++Z):=aA5;have d:sub s ((γ A+1:Nat):Int) ((γ A+γ (43::u):Nat):Int)=u:=by have:=Dp s (A++[43]) u Z p;rw [<-qQ,show γ A+1+γ u=γ A+γ (43::u) by rw [bX];omega]at this;exact this
   rw [b,dZ,aK rfl,aB rfl,d,Np ζ u d3];dsimp only;rw [aA d1,aA aA0,aB rfl]
  ·have l:¬(43:UInt8)=a:=λe=>g e.symm;have n:fK (a::u) [43]=a::u:=by unfold fK fW;simp [l]
   have q:fW (a::u) [43]=η:=by show((43:UInt8)==a&&([]:aC).isPrefixOf u)=η;rw [eJ.2 l];rfl
   rw [n]at d1 d2 d3;rw [q]at d3;have d:sub s (γ A:Int) ((γ A+γ (a::u):Nat):Int)=a::u:=Dp s A (a::u) Z h;rw [b,dZ,aL (λe=>g (aJ e)),aA aA1,d,Np η _ d3];dsimp only;rw [aA d1,aA aA0,aA aA1]
theorem pq(st:aC)(a:st=[59]\/st=[59,63])(p:PP):∀c∈lB p,jR st c=η:=by
 intro c b
 have:(!(jR st c))=ζ:=by
  rcases a with rfl|rfl
  ·exact Mk (λc=> !(jR _ c)) (dS _ aA3) aA1 (dS _ aA3) aA1 p c b
  ·exact Mk (λc=> !(jR _ c)) (dS _ aA3) aA1 (dS _ aA3) aA1 p c b
 simpa using this
theorem C1(u:UU)(a:Good u)(R:aC):cM [58] (u.1++(58::R)) 0=γ u.1/\dR ((u.1++(58::R)).take (γ u.1))=u.1:=by
 have h:u.1=X9\/u.1=AT\/u.1=tn:=by
  rcases a.cu with⟨h|h,_⟩|⟨h,_⟩
  ·exact .inl h
  ·exact .inr (.inl h)
  ·exact .inr (.inr h)
 rcases h with h|h|h<;>rw [h]<;>exact⟨rfl,rfl⟩
theorem JQ(u:UU)(d:Good u)(z:γ (uP u)<=1024):Wl (uP u)=(0,u):=by
 obtain⟨a,b,H,n,P,Q⟩:=u;have x:=d.cu;obtain⟨m,w⟩:=C1 _ d _;have o:uP (a,b,H,n,P,Q)=a++(58::(BV (a,b,H,n,P,Q)++(H++(xE n++(wL P++tE Q))))):=rfl;have e:uP (a,b,H,n,P,Q)=(a++[58])++(BV (a,b,H,n,P,Q)++(H++(xE n++(wL P++tE Q)))):=by rw [o];simp
 rw [<-o]at m w;dsimp only at m w;have s:cM [58] (uP (a,b,H,n,P,Q)) 0<γ (uP (a,b,H,n,P,Q)):=by rw [m,o,bP,bX];omega
 unfold Wl;rw [aA aA0,aB s,m,w,qQ a 58];rcases x with⟨g,l,k,j,i⟩|⟨g,l,k,j,i⟩
 ·dsimp only at g l k j i;have q:¬a=tn:=by rcases g with h|h<;>rw [h]<;>decide
  have t:BV (a,b,H,n,P,Q)=if b=[]then []else iC 0 b++[64]:=aA q
  rw [t]at e;have y:=plA _ _ b H _ n e l k j (Tz P _ (FN Q)) (λc f=>by
   rcases aR.1 f with h|h
   ·exact DL (λc=> !(c==64)) (dS _ aA3) aA1 (dS _ aA3) aA1 aA1 P c h
   ·exact FO (λc=> !(c==64)) (dS _ aA3) aA1 (dS _ aA3) aA1 aA1 aA1 Q c h) i
  rw [aB g,y];rw [Ii,Ii,Ii];exact pj _ _ (pq _ (.inr rfl)) aA1 _ a b H n P Q aF5 (.inr aA1) d.ps d.hs d.pl d.hl d.pi d.hi
 ·dsimp only at g l k j i;subst l;subst k;subst j;have r:¬(a=X9\/a=AT):=by rw [g];decide
  have t:BV (a,b,[],0,P,[])=b:=aB g;have v:xE 0=[]:=rfl;rw [t,v,vX]at e;obtain⟨t1,t2⟩:=telA _ _ b _ e (λc f=>by
   rcases Tz P [] (λc f=>by cases f) c f with h|h
   ·exact h
   ·cases P with
    |nil=>cases f
    |cons p P=>unfold wL at f;rw [rZ,Kg]at f;exact(aJ f).symm) i
  rw [aA r,aB g,t1];rw [t2,Ii];exact pj _ _ (pq _ (.inl rfl)) aA1 _ a b [] 0 P [] aF5 (.inl rfl) d.ps d.hs d.pl d.hl d.pi d.hi
open Go.Lib renaming cut → eD, join → cY
def Ri(l:List PP):Nat:=(l.map λz=>γ z.1+γ z.2.1).sum
theorem nK(p:PP)(l:List PP):Ri (p::l)=γ p.1+γ p.2.1+Ri l:=by unfold Ri;rw [yS,List.sum_cons]
theorem Kz{m:List PP}(h:l.Perm m):Ri l=Ri m:=by unfold Ri;exact(h.map _).sum_nat
theorem bu(a b:List PP):Ri (a++b)=Ri a+Ri b:=by unfold Ri;rw [AY,List.sum_append]
theorem La(q:PP->Bool):∀l:List PP,Ri (l.filter q)<=Ri l
 |[]=>eK _
 |p::l=>by
  have:=La q l;rw [List.filter_cons];split
  ·rw [nK,nK];omega
  ·rw [nK];omega
theorem ZO(p:PP):γ (sE p)<=2*γ p.2.1+3:=by
 have:=sO p.2.1;unfold sE;cases p.2.2 with
 |false=>simp
 |true=>
  rw [aQ,bX];cases(eP p.2.1||We p.2.1)with
  |true=>rw [aQ];omega
  |false=>rw [aH];omega
theorem DH:∀(r pre:List PP) (t:aC),mX pre r=δ t->γ t<=2*Ri r+4*γ r
 |[],_,t,h=>by rw [mX,aW]at h;subst h;simp
 |p::r,pre,t,h=>by
  rw [mX]at h;cases a:Ru pre p&&Jo p with
  |false=>rw [a]at h;cases h
  |true=>rw [a,aQ,Z1]at h;obtain⟨u,b,rfl⟩:=h;have:=DH r _ u b;have c:=ZO p;rw [nK];simp only [bX,bP];omega
theorem Ma(l:List PP):γ (iV l).1<=2*Ri l+64:=by
 unfold iV;split
 ·simp
 ·cases a:mX [] l with
  |none=>simp
  |some t=>have:=DH l [] t a;simp only;omega
theorem JN(x:aC×List PP):γ (Ke x).1<=γ x.1+2*Ri x.2+64:=by
 have:=Ma (eC x.2);rw [Kz (WH x.2)]at this;unfold Ke;split
 ·simp only [bP];omega
 ·simp
theorem UX(s:aC):γ (Cc s).1<=250:=by
 unfold Cc;by_cases a:39<γ s
 ·rw [aB a];simp
 ·rw [aA a];have e:∀x:aC,γ x<=39->γ (cY (Cj x).1 [58])<=40*5:=λx hx=>by have g:=bbs x;have f:=y6 [58] 4 (Cj x).1 g.2;simp only [fD]at f;omega
  split
  ·have:=e s aA0;simp only;omega
  ·split
   ·simp
   ·rename_i d;simp only [Ge,dT,bD,not_or]at d;have c:=y6 [58] 4 (qY (eD s [58,58]).1).1 (Bl (Bj _));have b:=y6 [58] 4 (qY (eD s [58,58]).2.1).1 (Bl (Bj _));simp only [fD,bP,bX,fT]at c b⊢;omega
theorem uX(s:aC):γ (dW s).1<=γ s+252:=by
 have:=UX (sub s 1 ((γ s:Int)-1));unfold dW;split
 ·split
  ·simp only [bP,fD];omega
  ·simp
 ·split
  ·simp
  ·split
   ·unfold dR;simp
   ·simp
theorem ve(a:List PP)(b:aC):Ri (kE a++nG b)<=Ri a+γ b+6:=by
 have d:=La (λp=> !(p.1==XO)) a;have c:Ri (nG b)<=γ b+6:=by
  unfold nG;split
  ·exact cO _
  ·rw [nK];have:γ XO=6:=rfl;have e:Ri []=0:=rfl;simp only;omega
 rw [bu];unfold kE;omega
theorem TN(x:VV):γ (Ho x).1<=γ x.1+γ x.2.1+2*(Ri x.2.2.2.2+γ x.2.2.2.1)+400:=by
 by_cases a:(dW x.2.1).2=ζ/\eP x.1=ζ/\0<=x.2.2.1/\x.2.2.1<=65535/\(iV (eC (kE x.2.2.2.2++nG x.2.2.2.1))).2=0
 ·have b:=Ma (eC (kE x.2.2.2.2++nG x.2.2.2.1));rw [Kz (WH _)]at b;have h:=ve x.2.2.2.2 x.2.2.2.1;have g:=uX x.2.1;have f:=wX x.1;have e:=(WE x.2.2.1 a.2.2.1 a.2.2.2.1).2.2.1;have d:γ (Sq (dW x.2.1).1 x.2.2.1)<=γ (dW x.2.1).1+6:=by
   unfold Sq;split
   ·omega
   ·simp only [bP,fD];omega
  have c:γ Cm=8:=rfl;rw [Dy x a];simp only [bP,fD];omega
 ·rw [nS x a];simp
theorem BT(v:aC):γ (lX v).1.2.2.2.2<=16:=by
 have e:∀d h b a,γ (Di d h b a).1.2.2.2.2<=16:=by
  intro d h b a;unfold Di;split
  ·exact Mh a
  ·unfold wT;simp
 have c:γ (wT,(5:UInt8)).1.2.2.2.2<=16:=by unfold wT;simp
 unfold lX;split
 ·exact c
 ·split
  ·exact c
  ·split
   ·exact c
   ·split
    ·exact c
    ·unfold Xa;split
     ·exact c
     ·split
      ·split
       ·exact e _ _ _ _
       ·unfold wT;simp
      ·exact e _ _ _ _
open Go.Lib renaming join → cY
abbrev AA:=aC×UU×List PP
def Rx:AA:=([],vM,[])
def vS(s:aC):Nat->Nat->List aC->UInt8×Nat×List aC
 |0,_,_=>(5,0,[])
 |f+1,i,a=>if fJ s i 60=ζ then(0,i,a)else if cC cA s (i:Int)=i then(5,0,[])else vS s f (cC bY s ((cC cA s (i:Int):Nat):Int)) (a++[sub s (i:Int) ((cC cA s (i:Int):Nat):Int)])
def Cy(s:aC)(i:Nat):UInt8×aC×Nat:=
 if fJ s i 34=ζ then
  (if(Pw s (i:Int)).2.2=0 then(if fJ s (cC bY s (Pw s (i:Int)).2.1) 60=ζ then(0,(Pw s (i:Int)).1,cC bY s (Pw s (i:Int)).2.1)else(5,[],0))else((Pw s (i:Int)).2.2,[],0))
 else if jR s 60=ζ then((vS s (γ s+1) i []).1,cY (vS s (γ s+1) i []).2.2 [32],(vS s (γ s+1) i []).2.1)
 else(0,[],i)
def kI(s:aC)(i:Nat):UInt8×UU×Nat:=
 if fJ s i 60=ζ then(if cM [62] s (i+1)=γ s then(5,vM,0)else((Wl (sub s ((i+1:Nat):Int) (cM [62] s (i+1):Int))).1,(Wl (sub s ((i+1:Nat):Int) (cM [62] s (i+1):Int))).2,cM [62] s (i+1)+1))
 else if cM [63,44] s i<cM [59,32,9] s i then(5,vM,0)else((Wl (sub s (i:Int) (cM [59,32,9] s i:Int))).1,(Wl (sub s (i:Int) (cM [59,32,9] s i:Int))).2,cM [59,32,9] s i)
def iI (s : aC) : UInt8 × AA :=
  if 1024 < γ s then (4, Rx) else
  if (Cy s (cC bY s 0)).1 = 0 then
    (if (kI s (Cy s (cC bY s 0)).2.2).1 = 0 then
      (if (lA (s.drop (kI s (Cy s (cC bY s 0)).2.2).2.2)).2.2 = 0 then (0, ((Cy s (cC bY s 0)).2.1, (kI s (Cy s (cC bY s 0)).2.2).2.1, (lA (s.drop (kI s (Cy s (cC bY s 0)).2.2).2.2)).1))
       else ((lA (s.drop (kI s (Cy s (cC bY s 0)).2.2).2.2)).2.2, Rx))
     else ((kI s (Cy s (cC bY s 0)).2.2).1, Rx))
  else ((Cy s (cC bY s 0)).1, Rx)
def Sh(d:aC):aC:=if d=[]then []else jG d++[32]
def wB(a:AA):aC×UInt8:=
 if a.1.any eO=η/\(iV (eC a.2.2)).2=0 then(Sh a.1++(60::(uP a.2.1++(62::(iV (eC a.2.2)).1))),0)else([],2)
theorem OI(u:UU)(f:Good u):∀c∈uP u,RP c=ζ:=by
 intro c a;have e:=DL RP (dS _ aA3) aA1 (dS _ aA3) aA1 aA1 u.2.2.2.2.1;have j:=FO RP (dS _ aA3) aA1 (dS _ aA3) aA1 aA1 aA1 u.2.2.2.2.2;unfold uP at a;have d:∀c∈u.1,RP c=ζ:=by rcases f.cu with⟨h|h,_⟩|⟨h,_⟩<;>rw [h]<;>decide
 have b:∀c∈xE u.2.2.2.1,RP c=ζ:=by
  intro c a;have m:0<=u.2.2.2.1/\u.2.2.2.1<=65535:=by
   rcases f.cu with⟨_,_,n,p,_⟩|⟨_,_,n,_⟩
   ·exact⟨n,p⟩
   ·omega
  unfold xE at a;split at a
  ·cases a
  ·rcases aP.1 a with h|h
   ·rw [h];decide
   ·have:=aT.1 (WE _ m.1 m.2).2.2.2 c h;revert this;exact dS (λc=>hK c=ζ->RP c=ζ) aA3 c
 have g:∀c∈BV u,RP c=ζ:=by
  intro c a;unfold BV at a;split at a
  ·rename_i l;rcases f.cu with⟨h|h,_⟩|⟨_,_,_,_,o⟩
   ·rw [l]at h;exact absurd h aA1
   ·rw [l]at h;exact absurd h aA1
   ·exact(GR _ o c a).2
  ·split at a
   ·cases a
   ·rcases aR.1 a with h|h
    ·exact mP 0 RP (dS _ aA3) aA1 (dS _ aA3) _ c h
    ·rw [aE.1 h];decide
 have i:∀c∈u.2.2.1,RP c=ζ:=by
  rcases f.cu with⟨_,k,_⟩|⟨_,k,_⟩
  ·have:=Bg RP (dS _ aA3) aA1 aA1 aA1 aA1 aA1 (dS _ aA3) (dS _ aA3) u.2.2.1;rw [k]at this;exact this
  ·rw [k];intro c a;cases a
 rcases aR.1 a with h|h
 ·exact d c h
 ·rcases aP.1 h with h|h
  ·rw [h];decide
  ·rcases aR.1 h with h|h
   ·exact g c h
   ·rcases aR.1 h with h|h
    ·exact i c h
    ·rcases aR.1 h with h|h
     ·exact b c h
     ·rcases aR.1 h with h|h
      ·exact e c h
      ·exact j c h
theorem tgtA(s A t:aC)(u:UU)(k:Good u)(h:s=A++(60::(uP u++(62::t))))(l:γ s<=1024):kI s (γ A)=(0,u,γ (A++(60::(uP u++[62])))):=by
 have d:s=(A++[60])++(uP u++(62::t)):=aA5;have i:cM [62] s (γ A+1)=γ (A++[60])+γ (uP u):=by rw [qQ A 60];refine Xb [62] s _ _ _ d (λc g=> ?_) (λc g=>by rw [<-aJ g];decide);have d:¬c=62:=λe=>absurd (OI u k c g) (by rw [e];decide);unfold jR;simp only [Re,uD,eE];exact eJ.2 (λe=>d e.symm)
 have a:sub s ((γ A+1:Nat):Int) (cM [62] s (γ A+1):Int)=uP u:=by rw [i,qQ A 60];exact Dp s _ _ _ d
 have j:γ s=γ (A++[60])+(γ (uP u)+(γ t+1)):=by rw [d];simp only [bP,bX]
 have f:γ (uP u)<=1024:=aA0;have b:fJ s (γ A) 60=ζ:=by rw [Wh s A _ 60 h];exact aK rfl
 unfold kI;rw [b,aB rfl,a,JQ u k f,i,aA aA0];simp only [bP,bX,fT];congr 2;omega
theorem WK(d:aC)(u:UU)(l:List PP)(B:Good u)(n:(wB (d,u,l)).2=0)(y:γ (wB (d,u,l)).1<=1024):
  iI (wB (d,u,l)).1=(0,(d,u,eC l))/\cF (wB (d,u,l)).1=(wB (d,u,l)).1/\mX [] (eC l)=δ (iV (eC l)).1:=by
 have r:d.any eO=η/\(iV (eC l)).2=0:=by
  by_cases h:d.any eO=η/\(iV (eC l)).2=0
  ·exact h
  ·unfold wB at n;dsimp only at n;rw [aA h]at n;exact absurd n aA1
 have b:(wB (d,u,l)).1=Sh d++(60::(uP u++(62::(iV (eC l)).1))):=by unfold wB;dsimp only;rw [aB r]
 obtain⟨z,D,x,F⟩:=nU (eC l) (iV (eC l)).1 (by rw [<-r.2]);generalize E:(wB (d,u,l)).1=s at y b⊢;generalize(iV (eC l)).1=t at z D x b⊢
 have k:∀c,s.head? =δ c->c=34\/c=60:=by
  intro c a;rw [b]at a;unfold Sh at a;split at a
  ·right;exact(aJ a).symm
  ·left;exact(aJ a).symm
 have p:cF s=s:=by
  refine V5 s (λc a=> ?_) ?_
  ·rcases k c a with h|h<;>subst h<;>decide
  ·have w:s=(Sh d++(60::(uP u++[62])))++t:=by rw [b];simp
   rw [w];refine nT _ [] t _ x ?_;have:Sh d++60::(uP u++[62])=(Sh d++60::uP u)++[62]:=aA2;rw [this];exact bch _ 62 aA1
 refine⟨?_,p,x⟩;have v:cC bY s 0=0:=by rw [bbf];exact XJ _ _ (λc a=>by rcases k c a with h|h<;>subst h<;>decide)
 have i:Cy s 0=(0,d,γ (Sh d)):=by
  unfold Cy;by_cases q:d=[]
  ·have m:Sh d=[]:=aB q;rw [m,vX]at b;have f:fJ s 0 34=η:=by have:=Wh s [] s 34 rfl;rw [fT]at this;rw [this,b,dZ];rfl
   have e:fJ s 0 60=ζ:=by have:=Wh s [] s 60 rfl;rw [fT]at this;rw [this,b,dZ];rfl
   have A:jR s 60=ζ:=by rw [b];unfold jR;rw [Re];rfl
   rw [f,aA aA1,aB A,vS,aB e,m,q];rfl
  ·have m:Sh d=jG d++[32]:=aA q;rw [m]at b;have f:fJ s 0 34=ζ:=by have:=Wh s [] s 34 rfl;rw [fT]at this;rw [this,b];exact aK rfl
   have o:=unqA s [] d (32::60::(uP u++62::t)) (by rw [b];simp) r.1;rw [fT,Ta]at o;have C:cC bY s (γ (jG d):Int)=γ (jG d)+1:=by rw [vZ bY s (jG d) (32::60::(uP u++62::t)) (by rw [b];simp)];rfl
   have e:fJ s (γ (jG d)+1) 60=ζ:=by have:=Wh s (jG d++[32]) (60::(uP u++62::t)) 60 (by rw [b]);rw [<-qQ]at this;rw [this];exact aK rfl
   rw [f,aB rfl];rw [show((0:Nat):Int)=0 from rfl]at o⊢;rw [o];simp only;rw [aB trivial,C,e,aB rfl,m,<-qQ]
 have j:=tgtA s (Sh d) t u B b y;have g:s.drop (γ (Sh d++(60::(uP u++[62]))))=t:=by
  have w:s=(Sh d++(60::(uP u++[62])))++t:=by rw [b];simp
  rw [w,Gg]
 unfold iI;rw [aA aA0,v,i];simp only;rw [aB trivial,j];simp only;rw [aB trivial,g,z,aB rfl]
theorem DU(s:aC):∀(f i:Nat) (a:List aC),i<=γ s->(vS s f i a).2.1<=γ s
 |0,_,_,_=>cO _
 |f+1,i,a,h=>by
  rw [vS];split
  ·exact h
  ·split
   ·exact cO _
   ·exact DU s f _ _ (rU _ _ _)
theorem GP(s:aC)(i:Nat)(a:i<=γ s):(Cy s i).2.2<=γ s:=by
 unfold Cy;split
 ·split
  ·split
   ·exact rU _ _ _
   ·exact cO _
  ·exact cO _
 ·split
  ·exact DU s _ i [] a
  ·exact a
theorem SK(s:aC)(i:Nat)(h:(kI s i).1=0):Good (kI s i).2.1:=by
 unfold kI at h⊢;split
 ·rename_i b;rw [aB b]at h;split
  ·rename_i a;rw [aB a]at h;exact absurd h aA1
  ·rename_i a;rw [aA a]at h;exact Mg _ h
 ·rename_i b;rw [aA b]at h;split
  ·rename_i a;rw [aB a]at h;exact absurd h aA1
  ·rename_i a;rw [aA a]at h;exact Mg _ h
theorem Qj(s:aC)(h:(iI s).1=0):Good (iI s).2.2.1/\γ (iI s).2.2.2<=16/\∀p∈(iI s).2.2.2,dR p.1=p.1/\γ p.1<=4194304:=by
 unfold iI at h⊢;split
 ·rename_i c;rw [aB c]at h;exact absurd h aA1
 ·rename_i c;rw [aA c]at h;split
  ·rename_i b;rw [aB b]at h;split
   ·rename_i a;rw [aB a]at h;split
    ·have d:∀k,γ (s.drop k)<=4194304:=λk=>by rw [gZ];omega
     refine⟨SK s _ a,Mh _,λp f=> ?_⟩;have:=avz _ (d _) p f;exact⟨this.1,lE this.2.1 (d _)⟩
    ·rename_i e;rw [aA e]at h;exact absurd h e
   ·rename_i a;rw [aA a]at h;exact absurd h a
  ·rename_i b;rw [aA b]at h;exact absurd h b
def B8:List PP->aC->aC->List PP
 |[],nm,v=>[(nm,v,ζ)]
 |p::l,nm,v=>if dR p.1=nm then(p.1,v,ζ)::l else p::B8 l nm v
def T5(x:aC):(List aC⊕UInt8)->(List aC⊕UInt8)
 |.inl l=>.inl (x::l)
 |.inr e=>.inr e
def fP:Nat->aC->aC->List aC⊕UInt8
 |0,a,[]=>.inl [cF a]
 |_+1,_,[]=>.inr 6
 |0,a,c::l=>if c=34 then fP 1 (a++[c]) l else if c=60 then fP 3 (a++[c]) l else if c=62 then .inr 5 else if c=44 then T5 (cF a) (fP 0 [] l)else fP 0 (a++[c]) l
 |1,a,c::l=>if c=34 then fP 0 (a++[c]) l else if c=92 then fP 2 (a++[c]) l else if eO c=ζ then .inr 5 else fP 1 (a++[c]) l
 |2,a,c::l=>if y5 c=ζ then fP 1 (a++[c]) l else .inr 5
 |_+3,a,c::l=>if c=62 then fP 0 (a++[c]) l else fP 3 (a++[c]) l
theorem s0n(a:aC):fP 0 a []=.inl [cF a]:=by rw [fP]
theorem vr(a:aC)(c:UInt8)(l:aC):fP 0 a (c::l)=if c=34 then fP 1 (a++[c]) l else if c=60 then fP 3 (a++[c]) l else if c=62 then .inr 5 else if c=44 then T5 (cF a) (fP 0 [] l)else fP 0 (a++[c]) l:=by rw [fP]
theorem s1c(a:aC)(c:UInt8)(l:aC):fP 1 a (c::l)=if c=34 then fP 0 (a++[c]) l else if c=92 then fP 2 (a++[c]) l else if eO c=ζ then .inr 5 else fP 1 (a++[c]) l:=by rw [fP]
theorem s2c(a:aC)(c:UInt8)(l:aC):fP 2 a (c::l)=if y5 c=ζ then fP 1 (a++[c]) l else .inr 5:=by rw [fP]
theorem s3c(m:Nat)(a:aC)(c:UInt8)(l:aC):fP (m+3) a (c::l)=if c=62 then fP 0 (a++[c]) l else fP 3 (a++[c]) l:=by rw [fP]
theorem cw(a:aC)(c:UInt8)(l:aC):fP 3 a (c::l)=if c=62 then fP 0 (a++[c]) l else fP 3 (a++[c]) l:=s3c 0 a c l
def fF(v:aC):List aC×UInt8:=match fP 0 [] v with|.inr e=>([],e)|.inl l=>if l.any (λx=>decide (x=[]))=ζ then([],5)else(l,0)
theorem D4(p:UInt8->Bool)(l:aC):∀b:aC,b.all p=ζ->BA p (l++b)=BA p l:=by
 intro b;induction b generalizing l with
 |nil=>intro _;rw [fI]
 |cons c b a=>intro h;rw [Gf,hO]at h;have e:l++c::b=(l++[c])++b:=aA2;rw [e,a _ h.2,D3,aB h.1]
theorem Pb(p:UInt8->Bool):∀(a b:aC),a.all p=ζ->(a++b).dropWhile p=b.dropWhile p
 |[],b,_=>rfl
 |c::a,b,h=>by rw [Gf,hO]at h;rw [Kg,List.dropWhile_cons_of_pos h.1,Pb p a b h.2]
theorem Ku(a x:aC)(h:a.all bY=ζ):cF (a++x)=cF x:=by unfold cF;rw [Pb bY a x h]
theorem Th(x b:aC)(h:b.all bY=ζ):cF (x++b)=cF x:=by unfold cF;rw [<-sM,<-sM,D4 bY x b h]
theorem Dk(x:aC):cF (cF x)=cF x:=by unfold cF;rw [sM,Bq];unfold BA;rw [List.reverse_reverse,Bq]
theorem Vz{r:List aC⊕UInt8}(h:T5 s r=.inl a):∃m,r=.inl m/\a=s::m:=by
 cases r with
 |inl m=>exact⟨m,rfl,(Sum.inl.inj h).symm⟩
 |inr e=>cases h
theorem V4:∀(s:aC) (m:Nat) (a:aC) (l:List aC),fP m a s=.inl l->l≠[]/\∀x∈l,∃y,x=cF y
 |[],0,a,l,h=>by rw [fP]at h;have:=Sum.inl.inj h;subst this;exact⟨aA2,λx hx=>⟨a,aE.1 hx⟩⟩
 |[],m+1,a,l,h=>by cases h
 |c::s,0,a,l,h=>by
  rw [fP]at h;split at h
  ·exact V4 s _ _ l h
  ·split at h
   ·exact V4 s _ _ l h
   ·split at h
    ·cases h
    ·split at h
     ·obtain⟨m,d,rfl⟩:=Vz h;obtain⟨_,b⟩:=V4 s _ _ m d;refine⟨aA2,λx hx=> ?_⟩;rcases aP.1 hx with h|h
      ·exact⟨a,h⟩
      ·exact b x h
     ·exact V4 s _ _ l h
 |c::s,1,a,l,h=>by
  rw [fP]at h;split at h
  ·exact V4 s _ _ l h
  ·split at h
   ·exact V4 s _ _ l h
   ·split at h
    ·cases h
    ·exact V4 s _ _ l h
 |c::s,2,a,l,h=>by
  rw [fP]at h;split at h
  ·exact V4 s _ _ l h
  ·cases h
 |c::s,m+3,a,l,h=>by
  rw [fP]at h;split at h
  ·exact V4 s _ _ l h
  ·exact V4 s _ _ l h
theorem A9:∀(l:aC) (m:Nat) (b:aC) (e:UInt8),fP m b l=.inr e->e≠0:=by
 intro l;induction l with
 |nil=>
  intro m b e h;cases m with
  |zero=>cases h
  |succ m=>rw [<-Y2 h];decide
 |cons c l a=>
  intro m b e h
  match m with
  |0=>
   rw [fP]at h;split at h
   ·exact a _ _ _ h
   ·split at h
    ·exact a _ _ _ h
    ·split at h
     ·rw [<-Y2 h];decide
     ·split at h
      ·cases d:fP 0 [] l with
       |inl q=>rw [d]at h;cases h
       |inr e'=>rw [d]at h;rw [<-Y2 h];exact a _ _ _ d
      ·exact a _ _ _ h
  |1=>
   rw [fP]at h;split at h
   ·exact a _ _ _ h
   ·split at h
    ·exact a _ _ _ h
    ·split at h
     ·rw [<-Y2 h];decide
     ·exact a _ _ _ h
  |2=>
   rw [fP]at h;split at h
   ·exact a _ _ _ h
   ·rw [<-Y2 h];decide
  |m+3=>
   rw [fP]at h;split at h
   ·exact a _ _ _ h
   ·exact a _ _ _ h
theorem J0(v:aC)(h:(fF v).2=0):(fF v).1≠[]/\∀x∈(fF v).1,cF x=x/\x≠[]:=by
 unfold fF at h⊢;cases a:fP 0 [] v with
 |inr e=>rw [a]at h;simp only at h;exact absurd h (A9 v 0 [] e a)
 |inl l=>
  rw [a]at h;simp only at h⊢;by_cases b:l.any (λx=>decide (x=[]))=ζ
  ·rw [aB b]at h;exact absurd h (show¬(5:UInt8)=0 by decide)
  ·rw [aA b];obtain⟨d,c⟩:=V4 v 0 [] l a;refine⟨d,λx hx=>⟨?_,λe=>b (iU.2 ⟨x,hx,aK e⟩)⟩⟩;obtain⟨y,rfl⟩:=c x hx;exact Dk y
def Cl(e:aC):Prop:=(∀b a,fP 0 b (e++a)=fP 0 (b++e) a)/\e.any eO=η
theorem Cl.nil:Cl []:=⟨λb a=>by rw [fI];rfl,rfl⟩
variable {d:aC}
theorem Cl.app(e:Cl s)(a:Cl d):Cl (s++d):=⟨λf c=>by rw [gH,e.1,a.1,gH],by rw [gR,e.2,a.2];rfl⟩
def Hf(c:UInt8):Bool:= !(c==34)&& !(c==60)&& !(c==62)&& !(c==44)&& !eO c
theorem Cl.one(c:UInt8)(h:Hf c=ζ):Cl [c]:=by unfold Hf at h;simp only [hO,dT,eJ]at h;obtain⟨⟨⟨⟨g,f⟩,e⟩,d⟩,b⟩:=h;refine⟨λi a=> ?_,by rw [Re,b];rfl⟩;rw [BI,vr,aA g,aA f,aA e,aA d]
theorem Cl.all:∀(a:aC),(∀c∈a,Hf c=ζ)->Cl a
 |[],_=>Cl.nil
 |c::a,h=>by have:=(Cl.one c (h c fE)).app (Cl.all a (λd b=>h d (eT _ b)));exact this
theorem Cl.cons{c:UInt8}(h:Hf c=ζ)(b:Cl s):Cl (c::s):=(Cl.one c h).app b
theorem B0:∀(x:aC) (b a:aC),(∀c∈x,(!(c==62))=ζ)->fP 3 b (x++62::a)=fP 0 (b++(x++[62])) a
 |[],b,a,_=>by rw [vX,cw,aB rfl];rfl
 |c::x,b,a,h=>by
  have f:¬c=62:=by simpa using h c fE
  rw [Kg,cw,aA f,B0 x _ a (λd e=>h d (eT _ e))];simp
theorem Cl.ang(x:aC)(h:∀c∈x,RP c=ζ):Cl (60::(x++[62])):=by
 have d:∀c∈x,(!(c==62))=ζ/\eO c=η:=λc b=>by have:=h c b;unfold RP at this;rw [hO,dT]at this;simpa using this
 refine⟨λe a=> ?_, ?_⟩
 ·rw [Kg,vr,aA aA1,aB rfl,gH,BI,B0 x _ a (λc b=>(d c b).1)];simp
 ·rw [Re,gR,dC.2 (λc b=>by rw [(d c b).2];decide)];decide
theorem JF:∀(v:aC) (b a:aC),v.any eO=η->fP 1 b (v.flatMap oS++34::a)=fP 0 (b++(v.flatMap oS++[34])) a
 |[],b,a,_=>by rw [yO,vX,s1c,aB rfl];rfl
 |c::v,b,a,h=>by
  rw [Re,gY]at h;by_cases d:c=34\/c=92
  ·have f:y5 c=ζ:=by rcases d with rfl|rfl<;>decide
   rw [rZ,JL c d,Kg,Kg,Kg,s1c,aA aA1,aB rfl,vX,Kg,s2c,aB f,JF v _ a h.2];simp
  ·rw [rZ,E5 c d,BI,Kg,s1c,aA (λe=>d (.inl e)),aA (λe=>d (.inr e)),aA (by rw [h.1];decide),JF v _ a h.2];simp
theorem wi:∀c:UInt8,(oS c).any eO=eO c:=dS _ aA3
theorem OH:∀v:aC,(v.flatMap oS).any eO=v.any eO
 |[]=>rfl
 |c::v=>by rw [rZ,gR,OH v,wi];rfl
theorem Cl.quo(v:aC)(h:v.any eO=η):Cl (jG v):=by
 unfold jG;refine⟨λb a=> ?_, ?_⟩
 ·rw [Kg,vr,aB rfl,gH,BI,JF v _ a h];simp
 ·rw [Re,gR,OH,h];decide
theorem ye(a b:aC)(l:List aC)(s:aC):cY (a::b::l) s=a++(s++cY (b::l) s):=by simp [cY,List.intercalate,List.intersperse]
theorem gx(a s:aC):cY [a] s=a:=by simp [cY,List.intercalate]
theorem EU(sep:aC):∀(c:List aC) (x:aC),cY (c++[x]) sep=if c=[]then x else cY c sep++(sep++x)
 |[],x=>by rw [vX,gx,aB rfl]
 |[a],x=>by rw [aA aA2,gx];show cY [a,x] sep=_;rw [ye,gx]
 |a::b::c,x=>by rw [aA aA2,ye];show cY (a::b::(c++[x])) sep=_;rw [ye];have:=EU sep (b::c) x;rw [aA aA2]at this;have e:b::(c++[x])=(b::c)++[x]:=rfl;rw [e,this];simp
theorem NI:∀(b:List aC) (e c:aC),(∀x,cF (c++x)=cF x)->(∀x∈e::b,Cl x/\cF x=x)->fP 0 c (cY (e::b) [44,32])=.inl (e::b)
 |[],e,c,a,h=>by
  obtain⟨j,i⟩:=h e fE;have g:cY [e] [44,32]=e++[]:=by rw [fI,gx]
  rw [g,j.1,s0n,a,i]
 |d::b,e,c,a,h=>by
  obtain⟨j,i⟩:=h e fE;have g:cY (e::d::b) [44,32]=e++(44::32::cY (d::b) [44,32]):=by rw [ye];rfl
  have f:fP 0 [] (32::cY (d::b) [44,32])=.inl (d::b):=by rw [vr,aA aA1,aA aA1,aA aA1,aA aA1,vX];exact NI b d [32] (λx=>Ku [32] x rfl) (λx hx=>h x (eT _ hx))
  rw [g,j.1,vr,aA aA1,aA aA1,aA aA1,aB rfl,f,a,i];rfl
theorem UJ(a:List aC)(b:a≠[])(h:∀x∈a,Cl x/\cF x=x/\x≠[]):fF (cY a [44,32])=(a,0):=by
 cases a with
 |nil=>exact absurd rfl b
 |cons e a=>unfold fF;rw [NI a e [] (λx=>rfl) (λx hx=>⟨(h x hx).1,(h x hx).2.1⟩)];simp only;rw [aA];intro c;rw [iU]at c;obtain⟨x,hx,d⟩:=c;exact(h x hx).2.2 (bU d)
open Go.Lib renaming cut → eD, itoa → dU, join → cY
theorem tC(n:Int)(e:0<=n)(h:n<=2147483647):hZ (dU n)=(n,0)/\1<=γ (dU n)/\γ (dU n)<=10/\(dU n).all hK=ζ:=by obtain⟨k,rfl⟩:∃k:Nat,n=k:=⟨n.toNat,aA0⟩;obtain⟨a,d,c,b⟩:=QO 9 k aA0;rw [Ns];refine⟨?_,c,b,a⟩;unfold hZ;rw [a,d,aA (by rintro(h|h|h);omega;omega;cases h),aA aA0]
def wK(s:aC):Int×aC×UInt8:=((hZ (s.take (dN (λc=> !bY c) s))).1,s.drop (cC bY s (dN (λc=> !bY c) s)),(hZ (s.take (dN (λc=> !bY c) s))).2)
theorem Jq(s:aC):0<=(hZ s).1/\(hZ s).1<=2147483647:=by
 unfold hZ;split
 ·exact⟨aA1,aA1⟩
 ·split
  ·exact⟨aA1,aA1⟩
  ·dsimp only;omega
theorem Jp(s:aC):0<=(wK s).1/\(wK s).1<=2147483647:=by unfold wK;exact Jq _
def Cb(v:aC):Int×aC×UInt8:=
 if(wK (cF v)).2.2=0 then(if eP (wK (cF v)).2.1=ζ then((wK (cF v)).1,(wK (cF v)).2.1,0)else(0,[],5))else(0,[],(wK (cF v)).2.2)
def Da(v:aC):Int×Int×aC×UInt8:=
 if(wK (cF v)).2.2=0 then(if(Cb (wK (cF v)).2.1).2.2=0 then((wK (cF v)).1,(Cb (wK (cF v)).2.1).1,(Cb (wK (cF v)).2.1).2.1,0)else(0,0,[],(Cb (wK (cF v)).2.1).2.2))else(0,0,[],(wK (cF v)).2.2)
theorem qD:∀c:UInt8,hK c=ζ->(!bY c)=ζ:=dS _ aA3
theorem Uh(n:Int)(i:0<=n)(h:n<=2147483647)(m:aC)(b:∀c,m.head? =δ c->bY c=η):wK (dU n++32::m)=(n,m,0):=by
 obtain⟨k,o,l,j⟩:=tC n i h;have a:dN (λc=> !bY c) (dU n++32::m)=γ (dU n):=by rw [y8 _ _ _ (aT.2 (λc f=>qD c (aT.1 j c f))),pR _ _ _ aA1,BG]
 have g:cC bY (dU n++32::m) (γ (dU n))=γ (dU n++[32]):=by rw [vZ bY _ _ _ rfl,dN,XJ bY m b,bP];rfl
 have d:(dU n++32::m).drop (γ (dU n++[32]))=m:=by have e:dU n++32::m=(dU n++[32])++m:=aA2;rw [e,Gg]
 unfold wK;rw [a,Qy,k,g,d]
theorem Oj(n:Int)(f:0<=n)(h:n<=2147483647)(m:aC):∀c,(dU n++m).head? =δ c->bY c=η:=by
 intro c b;obtain⟨j,d,i,g⟩:=tC n f h;have a:dU n≠[]:=λe=>by rw [e]at d;simp at d
 rw [lu _ _ a]at b;have:=qD c (oJ hK _ g c b);simpa using this
theorem BW(m:aC)(a:eP m=ζ):QX m:=su cA ma m (Rc a).2
theorem Vy(n:Int)(d:0<=n)(h:n<=2147483647)(m:aC)(a:eP m=ζ):cF (dU n++32::m)=dU n++32::m/\Cb (dU n++32::m)=(n,m,0):=by
 have b:cF (dU n++32::m)=dU n++32::m:=by refine V5 _ (Oj n d h _) ?_;have e:dU n++32::m=(dU n++[32])++m:=aA2;rw [e];exact z8 _ _ (Rc a).1 (BW m a)
 refine⟨b, ?_⟩;have f:∀c,m.head? =δ c->bY c=η:=λc g=>ma c (oJ cA m (Rc a).2 c g);unfold Cb;rw [b,Uh n d h m f];rw [aB rfl,aB a]
theorem TG(a:Int)(g:0<=a)(f:a<=2147483647)(n:Int)(d:0<=n)(h:n<=2147483647)(m:aC)(b:eP m=ζ):cF (dU a++32::(dU n++32::m))=dU a++32::(dU n++32::m)/\Da (dU a++32::(dU n++32::m))=(a,n,m,0):=by
 have c:cF (dU a++32::(dU n++32::m))=dU a++32::(dU n++32::m):=by refine V5 _ (Oj a g f _) ?_;have e:dU a++32::(dU n++32::m)=(dU a++32::(dU n++[32]))++m:=aA2;rw [e];exact z8 _ _ (Rc b).1 (BW m b)
 refine⟨c, ?_⟩;unfold Da;rw [c,Uh a g f _ (Oj n d h _)];rw [aB rfl,(Vy n d h m b).2,aB rfl]
theorem GY(v:aC)(h:(Cb v).2.2=0):eP (Cb v).2.1=ζ/\0<=(Cb v).1/\(Cb v).1<=2147483647:=by
 have c:=Jp (cF v);unfold Cb at h⊢;by_cases b:(wK (cF v)).2.2=0
 ·rw [aB b]at h⊢;by_cases a:eP (wK (cF v)).2.1=ζ
  ·rw [aB a];exact⟨a,c⟩
  ·rw [aA a]at h;exact absurd h aA1
 ·rw [aA b]at h;exact absurd h b
theorem E1(v:aC)(h:(Da v).2.2.2=0):eP (Da v).2.2.1=ζ/\(0<=(Da v).1/\(Da v).1<=2147483647)/\0<=(Da v).2.1/\(Da v).2.1<=2147483647:=by
 have d:=Jp (cF v);have c:=GY (wK (cF v)).2.1;unfold Da at h⊢;generalize Cb (wK _).2.1=C at c h⊢;generalize wK _=D at d h⊢;by_cases b:D.2.2=0
 ·rw [aB b]at h⊢;by_cases a:C.2.2=0
  ·rw [aB a];exact⟨(c a).1,d,(c a).2⟩
  ·rw [aA a]at h;exact absurd h a
 ·rw [aA b]at h;exact absurd h b
def hC(k:Int)(ct:Bool)(v:aC):aC×UInt8:=
 if k=1 then(if ct=ζ/\cF v=[42]then([42],0)else if(iI (cF v)).1=0 then wB (iI (cF v)).2 else([],(iI (cF v)).1))
 else if k=2 then(if(lX v).2=0 then Ho (lX v).1 else([],(lX v).2))
 else if k=3 then(if(Cb v).2.2=0 then(dU (Cb v).1++32::(Cb v).2.1,0)else([],(Cb v).2.2))
 else if k=4 then(if(Da v).2.2.2=0 then(dU (Da v).1++32::(dU (Da v).2.1++32::(Da v).2.2.1),0)else([],(Da v).2.2.2))
 else if k=5 then(if(hZ (cF v)).2=0 then(dU (hZ (cF v)).1,0)else([],(hZ (cF v)).2))
 else if k=6\/k=7 then(if(jS v).2=0 then Ke (jS v).1 else([],(jS v).2))
 else if(cF v).any eO=ζ then([],5)else(cF v,0)
theorem ZS:∀c:UInt8,cA c=ζ->Hf c=ζ:=dS _ aA3
theorem Cl.tok(h:eP s=ζ):Cl s:=Cl.all s (λc a=>ZS c (aT.1 (Rc h).2 c a))
theorem Fi(s:aC):∀c∈(dW s).1,Hf c=ζ:=Bg _ (dS _ aA3) aA1 aA1 aA1 aA1 aA1 (dS _ aA3) (dS _ aA3) s
theorem Cl.Qz(v:aC)(h:v.any eO=η):Cl (Qz v):=by
 unfold Go.Wk.Qz;cases c:eP v with
 |true=>exact Cl.tok c
 |false=>
  cases b:We v with
  |true=>have a:=b;unfold We at a;simp at a;have:=Fi v;rw [a.1.2]at this;exact Cl.all v this
  |false=>exact Cl.quo v h
theorem Cl.sE(p:PP)(h:Jo p=ζ):Cl (sE p):=by
 unfold Jo at h;cases a:p.2.2 with
 |true=>rw [a]at h;rw [Dj p a];exact Cl.cons aA1 (Cl.Qz _ aA8)
 |false=>rw [Kt p a];exact Cl.nil
theorem Cl.par:∀r pre u,mX pre r=δ u->Cl u
 |[],pre,u,h=>by rw [mX,aW]at h;subst h;exact Cl.nil
 |p::r,pre,u,h=>by
  rw [mX]at h;cases a:Ru pre p&&Jo p with
  |false=>rw [a]at h;cases h
  |true=>
   rw [a,aQ,Z1]at h;obtain⟨t,b,rfl⟩:=h;rw [hO]at a;have c:eP p.1=ζ:=by have:=a.1;unfold Ru at this;simp at this;exact this.1.1
   exact Cl.cons aA1 ((Cl.tok c).app ((Cl.sE p a.2).app (Cl.par r _ t b)))
theorem L5(l:List PP)(t:aC)(h:mX [] (eC l)=δ t):eC (eC l)=eC l:=
 tD l (Br (WH l) (Jj _ [] t h).1)
theorem X0(d:aC)(u:UU)(l:List PP)(k:Good u)(b:(wB (d,u,l)).2=0)(p:γ (wB (d,u,l)).1<=1024):
  (iI (wB (d,u,l)).1).1=0/\wB (iI (wB (d,u,l)).1).2=wB (d,u,l)/\cF (wB (d,u,l)).1=(wB (d,u,l)).1/\(wB (d,u,l)).1≠[]/\(wB (d,u,l)).1≠[42]/\Cl (wB (d,u,l)).1:=by
 obtain⟨o,r,n⟩:=WK d u l k b p;have m:d.any eO=η/\(iV (eC l)).2=0:=by
  by_cases h:d.any eO=η/\(iV (eC l)).2=0
  ·exact h
  ·unfold wB at b;rw [aA h]at b;exact absurd b aA1
 have g:(wB (d,u,l)).1=Sh d++(60::(uP u++(62::(iV (eC l)).1))):=by unfold wB;rw [aB m]
 have j:Cl (Sh d):=by
  unfold Sh;split
  ·exact Cl.nil
  ·exact(Cl.quo d m.1).app (Cl.one 32 aA1)
 have i:Cl (wB (d,u,l)).1:=by rw [g];have q:Sh d++(60::(uP u++(62::(iV (eC l)).1)))=Sh d++((60::(uP u++[62]))++(iV (eC l)).1):=aA2;rw [q];exact j.app ((Cl.ang _ (OI u k)).app (Cl.par _ _ _ n))
 have f:∀c,(wB (d,u,l)).1.head? =δ c->c=34\/c=60:=by
  intro c a;rw [g]at a;unfold Sh at a;split at a
  ·right;exact(aJ a).symm
  ·left;exact(aJ a).symm
 refine⟨by rw [o], ?_,r, ?_, ?_,i⟩
 ·rw [o];unfold wB;rw [L5 l _ n]
 ·intro e;rw [g]at e;simp at e
 ·intro e;have:=f 42 aE7;rcases this with h|h<;>exact absurd h aA1
theorem ZB(x:VV)(h:(Ho x).2=0):(lX (Ho x).1).2=0/\Ho (lX (Ho x).1).1=Ho x/\cF (Ho x).1=(Ho x).1/\(Ho x).1≠[]/\Cl (Ho x).1:=by
 have k:=ZD x h;have i:=SB x h;refine⟨by rw [k],by rw [k];exact i, ?_⟩;have j:=h;unfold Ho at j;by_cases a:(dW x.2.1).2=ζ/\eP x.1=ζ/\0<=x.2.2.1/\x.2.2.1<=65535/\(iV (eC (kE x.2.2.2.2++nG x.2.2.2.1))).2=0
 ·have n:=aV Prod.fst (Dy x a);obtain⟨p,o,d,b,q⟩:=a;obtain⟨t,s,l,r⟩:=nU _ (iV _).1 (by rw [<-q]);have e:=Lz x.2.1 x.2.2.1 d b;obtain⟨f,_⟩:=Ts x.2.1 x.2.2.1 p;have g:∀c∈Sq (dW x.2.1).1 x.2.2.1,Hf c=ζ:=by
   intro c a;unfold Sq at a;split at a
   ·exact Fi _ c a
   ·rcases aR.1 a with h|h
    ·exact Fi _ c h
    ·rcases aR.1 h with h|h
     ·rw [aE.1 h];decide
     ·exact(dS (λc=>hK c=ζ->Hf c=ζ) aA3) c (aT.1 (WE _ d b).2.2.2 c h)
  rw [n];refine⟨?_,by unfold Cm;simp, ?_⟩
  ·refine V5 _ (λc a=> ?_) (nT _ [] _ _ l (z8 _ _ f (su _ Dt _ e)));have:c=83:=(aJ a).symm;rw [this];decide
  ·have m:Cl Cm:=Cl.all _ aA1;exact(((m.app (Cl.tok (wW x.1 o))).app (Cl.one 32 aA1)).app (Cl.all _ g)).app (Cl.par _ _ _ l)
 ·rw [aA a]at j;exact absurd j aA1
theorem UL(x:aC×List PP)(h:(Ke x).2=0):(jS (Ke x).1).2=0/\Ke (jS (Ke x).1).1=Ke x/\cF (Ke x).1=(Ke x).1/\(Ke x).1≠[]/\Cl (Ke x).1:=by
 have n:=Va x h;have l:=h;unfold Ke at l;by_cases d:Bv x.1=ζ/\(iV (eC x.2)).2=0
 ·have j:(Ke x).1=x.1++(iV (eC x.2)).1:=by unfold Ke;rw [aB d]
  obtain⟨k,q⟩:=d;have a:=k;rw [EZ,bD]at k;obtain⟨b,o⟩:=k;obtain⟨w,v,m,u⟩:=nU _ (iV _).1 (by rw [<-q]);refine⟨by rw [n], ?_, ?_, ?_, ?_⟩
  ·rw [n];unfold Ke;rw [L5 x.2 _ m]
  ·rw [j];refine V5 _ (λc d=> ?_) (nT _ [] _ x.1 m (Nu x.1 o b));rw [lu x.1 _ b]at d;exact ma c (Nv x.1 o b c d)
  ·rw [j];simp [b]
  ·rw [j];refine Cl.app ?_ (Cl.par _ _ _ m);unfold Bv at a;simp at a;rcases FH 47 x.1 with⟨i,_⟩|⟨f,g,p,t,i⟩
   ·have e:eD x.1 [47]=(x.1,[],η):=by rw [xS,aB i]
    rw [e]at a;exact Cl.tok a.1
   ·have e:eD x.1 [47]=(f,g,ζ):=by
     rw [xS,aA (by rw [i];omega),i,iO,p,Qy];have:(f++47::g).drop (γ f+γ ([47]:aC))=g:=by have s:f++47::g=(f++[47])++g:=aA2;have r:γ f+γ ([47]:aC)=γ (f++[47]):=aA2;rw [s,r,Gg]
     rw [this]
    rw [e]at a;rw [p];refine(Cl.tok a.1).app (Cl.cons aA1 (Cl.tok ?_));rcases a.2 with h|h
    ·cases h
    ·exact h
 ·rw [aA d]at l;exact absurd l aA1
theorem OQ(h:s.all hK=ζ):s.any eO=η:=dC.2 λc a=>by have:=aT.1 h c a;revert this;exact dS (λc=>hK c=ζ->¬eO c=ζ) aA3 c
theorem Xh(h:eP s=ζ):s.any eO=η:=(Cl.tok h).2
theorem Nt(n:Int)(b:0<=n)(a:n<=2147483647)(r:aC)(h:r.any eO=η):(dU n++32::r).any eO=η:=by rw [gR,OQ (tC n b a).2.2.2,Re,h];decide
def DX(k:Int):Prop:=k=1\/k=2\/k=6\/k=7
theorem Kw(k:Int)(ct:Bool)(v:aC)(h:(hC k ct v).2=0)(y:γ (hC k ct v).1<=1024):
  hC k ct (hC k ct v).1=hC k ct v/\(cF (hC k ct v).1=(hC k ct v).1/\(hC k ct v).1.any eO=η)/\(DX k->(hC k ct v).1≠[]/\Cl (hC k ct v).1):=by
 by_cases o:k=1
 ·subst o;by_cases A:ct=ζ/\cF v=[42]
  ·have e:hC 1 ct v=([42],0):=by unfold hC;rw [aB rfl,aB A]
   rw [e];have x:cF [42]=[42]:=rfl;refine⟨?_,⟨x,rfl⟩,λ_=>⟨aA2,Cl.one 42 aA1⟩⟩;unfold hC;rw [aB rfl,aB ⟨A.1,x⟩]
  ·by_cases b:(iI (cF v)).1=0
   ·have e:hC 1 ct v=wB (iI (cF v)).2:=by unfold hC;rw [aB rfl,aA A,aB b]
    have F:=(Qj _ b).1;rw [e]at h y⊢;generalize(iI (cF v)).2=a at F h y⊢;obtain⟨d,u,l⟩:=a;obtain⟨i,g,t,z,p,G⟩:=X0 d u l F h y;refine⟨?_,⟨t,G.2⟩,λ_=>⟨z,G⟩⟩;unfold hC;rw [aB rfl,t,aA (λh=>p h.2),aB i,g]
   ·have e:hC 1 ct v=([],(iI (cF v)).1):=by unfold hC;rw [aB rfl,aA A,aA b]
    rw [e]at h;exact absurd h b
 ·by_cases m:k=2
  ·subst m;by_cases b:(lX v).2=0
   ·have e:hC 2 ct v=Ho (lX v).1:=by unfold hC;rw [aA aA1,aB rfl,aB b]
    rw [e]at h y⊢;obtain⟨i,g,t,z,p⟩:=ZB _ h;refine⟨?_,⟨t,p.2⟩,λ_=>⟨z,p⟩⟩;unfold hC;rw [aA aA1,aB rfl,aB i,g]
   ·have e:hC 2 ct v=([],(lX v).2):=by unfold hC;rw [aA aA1,aB rfl,aA b]
    rw [e]at h;exact absurd h b
  ·by_cases s:k=3
   ·subst s;by_cases b:(Cb v).2.2=0
    ·have e:hC 3 ct v=(dU (Cb v).1++32::(Cb v).2.1,0):=by unfold hC;rw [aA aA1,aA aA1,aB rfl,aB b]
     have f:=GY v b;rw [e];dsimp only;obtain⟨i,g⟩:=Vy _ f.2.1 f.2.2 _ f.1;refine⟨?_,⟨i,Nt _ f.2.1 f.2.2 _ (Xh f.1)⟩,λh=>by rcases h with h|h|h|h<;>exact absurd h aA1⟩;unfold hC;rw [aA aA1,aA aA1,aB rfl,g,aB rfl]
    ·have e:hC 3 ct v=([],(Cb v).2.2):=by unfold hC;rw [aA aA1,aA aA1,aB rfl,aA b]
     rw [e]at h;exact absurd h b
   ·by_cases r:k=4
    ·subst r;by_cases b:(Da v).2.2.2=0
     ·have e:hC 4 ct v=(dU (Da v).1++32::(dU (Da v).2.1++32::(Da v).2.2.1),0):=by unfold hC;rw [aA aA1,aA aA1,aA aA1,aB rfl,aB b]
      have f:=E1 v b;rw [e];dsimp only;obtain⟨i,g⟩:=TG _ f.2.1.1 f.2.1.2 _ f.2.2.1 f.2.2.2 _ f.1;refine⟨?_,⟨i,Nt _ f.2.1.1 f.2.1.2 _ (Nt _ f.2.2.1 f.2.2.2 _ (Xh f.1))⟩,λh=>by rcases h with h|h|h|h<;>exact absurd h aA1⟩;unfold hC;rw [aA aA1,aA aA1,aA aA1,aB rfl,g,aB rfl]
     ·have e:hC 4 ct v=([],(Da v).2.2.2):=by unfold hC;rw [aA aA1,aA aA1,aA aA1,aB rfl,aA b]
      rw [e]at h;exact absurd h b
    ·by_cases q:k=5
     ·subst q;by_cases b:(hZ (cF v)).2=0
      ·have e:hC 5 ct v=(dU (hZ (cF v)).1,0):=by unfold hC;rw [aA aA1,aA aA1,aA aA1,aA aA1,aB rfl,aB b]
       rw [e];dsimp only;obtain⟨E,D⟩:=Jq _;generalize(hZ _).1=n at E D;obtain⟨I,K,J,C⟩:=tC n E D;have x:cF (dU n)=dU n:=by refine V5 _ (λc B=> ?_) (su hK (λc B=>by have:=qD c B;simpa using this) _ C);have:=qD c (oJ hK _ C c B);simpa using this
       refine⟨?_,⟨x,OQ C⟩,λh=>by rcases h with h|h|h|h<;>exact absurd h aA1⟩;unfold hC;rw [aA aA1,aA aA1,aA aA1,aA aA1,aB rfl,x,I,aB rfl]
      ·have e:hC 5 ct v=([],(hZ (cF v)).2):=by unfold hC;rw [aA aA1,aA aA1,aA aA1,aA aA1,aB rfl,aA b]
       rw [e]at h;exact absurd h b
     ·by_cases j:k=6\/k=7
      ·by_cases b:(jS v).2=0
       ·have e:hC k ct v=Ke (jS v).1:=by unfold hC;rw [aA o,aA m,aA s,aA r,aA q,aB j,aB b]
        rw [e]at h y⊢;obtain⟨i,g,t,z,p⟩:=UL _ h;refine⟨?_,⟨t,p.2⟩,λ_=>⟨z,p⟩⟩;unfold hC;rw [aA o,aA m,aA s,aA r,aA q,aB j,aB i,g]
       ·have e:hC k ct v=([],(jS v).2):=by unfold hC;rw [aA o,aA m,aA s,aA r,aA q,aB j,aA b]
        rw [e]at h;exact absurd h b
      ·by_cases b:(cF v).any eO=ζ
       ·have e:hC k ct v=([],5):=by unfold hC;rw [aA o,aA m,aA s,aA r,aA q,aA j,aB b]
        rw [e]at h;exact absurd h (show¬5=0 by decide)
       ·have e:∀w,cF w=cF v->hC k ct w=(cF v,0):=λw H=>by unfold hC;rw [H,aA o,aA m,aA s,aA r,aA q,aA j,aA b]
        rw [e v rfl];refine⟨e _ (Dk v),⟨Dk v,aB6⟩,λh=> ?_⟩;rcases h with h|h|h|h
        ·exact absurd h o
        ·exact absurd h m
        ·exact absurd (.inl h) j
        ·exact absurd (.inr h) j
def rW(k:Int)(ct:Bool):List aC->List aC×UInt8
 |[]=>([],0)
 |x::l=>if(hC k ct x).2=0 then(if(rW k ct l).2=0 then((hC k ct x).1::(rW k ct l).1,0)else([],(rW k ct l).2))else([],(hC k ct x).2)
theorem Xi(k:Int)(ct:Bool):∀l:List aC,(rW k ct l).2=0->γ (rW k ct l).1=γ l
 |[],_=>rfl
 |x::l,h=>by
  rw [rW]at h⊢;by_cases b:(hC k ct x).2=0
  ·rw [aB b]at h⊢;by_cases a:(rW k ct l).2=0
   ·rw [aB a];simp only [bX,Xi k ct l a]
   ·rw [aA a]at h;exact absurd h a
  ·rw [aA b]at h;exact absurd h b
theorem Kx(k:Int)(ct:Bool)(f:DX k):∀l:List aC,(rW k ct l).2=0->(∀x∈(rW k ct l).1,γ x<=1024)->rW k ct (rW k ct l).1=((rW k ct l).1,0)/\∀x∈(rW k ct l).1,Cl x/\cF x=x/\x≠[]
 |[],_,_=>⟨rfl,λx hx=>by cases hx⟩
 |x::l,h,a=>by
  rw [rW]at h a⊢;by_cases b:(hC k ct x).2=0
  ·rw [aB b]at h a⊢;by_cases c:(rW k ct l).2=0
   ·rw [aB c]at a⊢;obtain⟨n,m,g⟩:=Kw k ct x b (a _ fE);obtain⟨j,i⟩:=Kx k ct f l c (λy d=>a y (eT _ d));refine⟨?_,λy d=> ?_⟩
    ·rw [rW,n,j,aB b,aB rfl]
    ·rcases aP.1 d with e|e
     ·rw [e];exact⟨(g f).2,m.1,(g f).1⟩
     ·exact i y e
   ·rw [aA c]at h;exact absurd h c
  ·rw [aA b]at h;exact absurd h b
theorem pZ(sep:aC):∀(l:List aC),∀x∈l,γ x<=γ (cY l sep)
 |[],x,hx=>by cases hx
 |[a],x,hx=>by rw [aE.1 hx,gx];exact eK _
 |a::b::l,x,hx=>by
  have e:=ye a b l sep;rw [e,bP,bP];rcases aP.1 hx with h|h
  ·rw [h];omega
  ·have:=pZ sep _ x h;omega
def Fv(many:Bool)(k:Int)(ct:Bool)(v:aC):aC×UInt8:=
 if many=ζ then(if(fF v).2=0 then(if(rW k ct (fF v).1).2=0 then(cY (rW k ct (fF v).1).1 [44,32],0)else([],(rW k ct (fF v).1).2))else([],(fF v).2))else hC k ct v
theorem IY(many:Bool)(k:Int)(ct:Bool)(f:many=ζ->DX k)(v:aC)(h:(Fv many k ct v).2=0)(c:γ (Fv many k ct v).1<=1024):Fv many k ct (Fv many k ct v).1=((Fv many k ct v).1,0):=by
 cases many with
 |false=>have e:∀w,Fv η k ct w=hC k ct w:=λw=>aA aA1;rw [e v]at h c⊢;rw [e,(Kw k ct v h c).1,<-h]
 |true=>
  by_cases b:(fF v).2=0
  ·by_cases a:(rW k ct (fF v).1).2=0
   ·have e:Fv ζ k ct v=(cY (rW k ct (fF v).1).1 [44,32],0):=by unfold Fv;rw [aB rfl,aB b,aB a]
    rw [e]at c⊢;obtain⟨j,i⟩:=Kx k ct (f rfl) (fF v).1 a (λx hx=>lE (pZ _ _ x hx) c);have d:(rW k ct (fF v).1).1≠[]:=λe=>by have:=Xi k ct _ a;rw [e]at this;exact(J0 v b).1 (vJ this.symm)
    have g:=UJ _ d i;unfold Fv;rw [aB rfl,g];rw [aB rfl,j];rw [aB rfl]
   ·have e:Fv ζ k ct v=([],(rW k ct (fF v).1).2):=by unfold Fv;rw [aB rfl,aB b,aA a]
    rw [e]at h;exact absurd h a
  ·have e:Fv ζ k ct v=([],(fF v).2):=by unfold Fv;rw [aB rfl,aA b]
   rw [e]at h;exact absurd h b
open Int renaming toNat → bF
theorem ZQ(x:aC):Lib.trimRightS x [32,9]=BA bY x:=by unfold Lib.trimRightS BA;rw [vE]
theorem Tl(p:UInt8->Bool):∀(l:aC) n,dN p (l.take n)=min (dN p l) n
 |[],n=>by rw [List.take_nil];simp [dN]
 |c::l,0=>by rw [Qq];simp [dN]
 |c::l,n+1=>by
  rw [fG,dN,dN];split
  ·rw [Tl p l n];omega
  ·omega
theorem Tt(s:aC)(h:aM s<=4194304)(b e:Nat)(j:b<=e)(m:e<=aM s):∃k,auu FU s (b:Int) (e:Int)=δ (k,cF (sub s (b:Int) (e:Int))):=by
 have i:cC bY s (b:Int)=b+dN bY (s.drop b):=by unfold cC;rw [ta b (γ s) aA0]
 have d:sub s (b:Int) (e:Int)=(s.drop b).take (e-b):=by unfold sub;rw [iO,iO]
 have c:min ((cC bY s (b:Int):Nat):Int) (e:Int)=((b+dN bY (sub s (b:Int) (e:Int)):Nat):Int):=by rw [d,Tl,i];omega
 have f:=ID bY (sub s (b:Int) (e:Int));have l:γ (sub s (b:Int) (e:Int))=e-b:=aD0;have a:sub s ((b+dN bY (sub s (b:Int) (e:Int)):Nat):Int) (e:Int)=(sub s (b:Int) (e:Int)).dropWhile bY:=by rw [<-bay];generalize dN bY (sub s (b:Int) (e:Int))=n;rw [d];unfold sub;rw [iO,iO,Y6,MJ];congr 1;omega
 have g:=sub_le s ((b+dN bY (sub s (b:Int) (e:Int)):Nat):Int) (e:Int);unfold auu;rw [oQ s h,aX,c,aU aA0,aU aA0,aU aA1,a,ZQ];exact⟨_,rfl⟩
theorem Ld(s:aC)(b i m:Nat)(a:b<=i):sub s (b:Int) ((i+m:Nat):Int)=sub s (b:Int) (i:Int)++(s.drop i).take m:=by unfold sub;rw [iO,iO,iO,show i+m-b=(i-b)+m by omega,List.take_add,MJ,show b+(i-b)=i by omega]
theorem wg(n:Nat):∀(l:aC) (k:Nat) (a b:aC),aM l<=n->
  ((fX l k a).2.2=0->fP 1 b l=fP 0 (b++l.take ((fX l k a).2.1.toNat-k)) (l.drop ((fX l k a).2.1.toNat-k)))/\(¬(fX l k a).2.2=0->fP 1 b l=.inr (fX l k a).2.2):=by
 induction n with
 |zero=>
  intro l k a b h;obtain rfl:l=[]:=vJ aA0;have e:fX [] k a=([],(k:Int),6):=by unfold fX;rfl
  rw [e];exact⟨λh=>absurd h (show¬(6:UInt8)=0 by decide),λ_=>rfl⟩
 |succ n p=>
  intro l k a b h;cases l with
  |nil=>
   have e:fX [] k a=([],(k:Int),6):=by unfold fX;rfl
   rw [e];exact⟨λh=>absurd h (show¬(6:UInt8)=0 by decide),λ_=>rfl⟩
  |cons c l=>
   rw [bX]at h;rw [ayr,s1c];by_cases g:c=34
   ·rw [aB g,aB g];refine⟨λ_=> ?_,λh=>absurd rfl h⟩;dsimp only;rw [show bF (((k+1:Nat):Int))-k=1 by omega];rfl
   ·rw [aA g,aA g];by_cases f:c=92
    ·rw [aB f,aB f];cases l with
     |nil=>rw [aB rfl];exact⟨λh=>absurd h (show¬(6:UInt8)=0 by decide),λ_=>rfl⟩
     |cons d r=>
      have s:at_ (d::r) 0=d:=rfl;rw [aA aA2,s,s2c];cases t:y5 d with
      |false=>rw [aA aA1,aA aA1];exact⟨λh=>absurd h (show¬(5:UInt8)=0 by decide),λ_=>rfl⟩
      |true=>rw [aB rfl,aB rfl,List.drop_one,List.tail_cons];rw [bX]at h;obtain⟨o,m⟩:=p r (k+2) (a++[d]) ((b++[c])++[d]) aA0;have i:=(Jg (γ r) r (k+2) (a++[d]) (eK _)).2;refine⟨λj=> ?_,m⟩;have q:=i j;rw [o j];have e:(fX r (k+2) (a++[d])).2.1.toNat-k=((fX r (k+2) (a++[d])).2.1.toNat-(k+2))+2:=aA0;rw [e,fG,fG,nt,nt];simp
    ·rw [aA f,aA f];cases u:eO c with
     |true=>rw [aB rfl];exact⟨λh=>absurd h (show¬(5:UInt8)=0 by decide),λ_=>rfl⟩
     |false=>obtain⟨o,m⟩:=p l (k+1) (a++[c]) (b++[c]) aA0;have i:=(Jg (γ l) l (k+1) (a++[c]) (eK _)).2;rw [aA aA1];refine⟨λj=> ?_,m⟩;have q:=i j;have v:(if η=ζ then(.inr 5:List aC⊕UInt8)else fP 1 (b++[c]) l)=fP 1 (b++[c]) l:=aA aA1;have e:(fX l (k+1) (a++[c])).2.1.toNat-k=((fX l (k+1) (a++[c])).2.1.toNat-(k+1))+1:=aA0;rw [o j,e,fG,nt];simp
theorem ang1:∀(l a:aC),(dP (·==(62:UInt8)) l<0->fP 3 a l=.inr 6)/\(¬dP (·==(62:UInt8)) l<0->fP 3 a l=fP 0 (a++l.take ((dP (·==(62:UInt8)) l).toNat+1)) (l.drop ((dP (·==(62:UInt8)) l).toNat+1)))
 |[],a=>⟨λ_=>rfl,λh=>absurd (show(-1:Int)<0 by decide) h⟩
 |c::l,a=>by
  obtain⟨f,d⟩:=ang1 l (a++[c]);have g:=tB (·==(62:UInt8)) l;rw [cw];by_cases h:c=62
  ·have e:dP (·==(62:UInt8)) (c::l)=0:=by rw [dP,h];rfl
   rw [e,aB h];exact⟨λh=>absurd h aA1,λ_=>rfl⟩
  ·have i:(c==(62:UInt8))=η:=eJ.2 h;rw [aA h,dP,i,aA aA1];by_cases b:dP (·==(62:UInt8)) l= -1
   ·rw [aB b];refine⟨λ_=>f aA0,λh=>absurd (show(-1:Int)<0 by decide) h⟩
   ·rw [aA b];refine⟨λh=>absurd h aA0,λ_=> ?_⟩;rw [d aA0,show bF (dP (·==(62:UInt8)) l+1)+1=((dP (·==(62:UInt8)) l).toNat+1)+1 by omega,fG,nt];simp
theorem A3(s:aC)(Z:aM s<=4194303)(n:Nat):∀(i f:Nat) (c:jU) (b:Nat),aM s-i<=n->n<f->b<=i->i<=aM s->aM c<=i->
  ∃j,anv FU s 44 f c (b:Int) (i:Int)=δ j/\
   (match fP 0 (sub s (b:Int) (i:Int)) (s.drop i)with
   |.inl l=>∃(d:jU) (b':Nat),j=.inl (d,(b':Int))/\b'<=aM s/\γ d<=aM s/\d.map (·.2)++[cF (sub s (b':Int) (aM s:Int))]=c.map (·.2)++l
   |.inr e=>∃q a,j=.inr (q,a,e)):=by
 induction n with
 |zero=>intro i f c b T V C w I;obtain⟨f,rfl⟩:=cS f;obtain rfl:i=aM s:=aA0;rw [atj,alz,aA aA0,af (eK _),s0n];exact⟨_,rfl,c,b,rfl,aA0,I,rfl⟩
 |succ n B=>
  intro i f c b T V C w I;obtain⟨f,rfl⟩:=cS f;by_cases v:i<aM s
  ·have H:=drop_at s i v;have u:sub s (b:Int) ((i+1:Nat):Int)=sub s (b:Int) (i:Int)++[at_ s (i:Int)]:=by rw [Ld s b i 1 C,H];rfl
   rw [atj,alz,aB aA0,aU aA0,H,vr];by_cases m:at_ s (i:Int)=34
   ·rw [aB m,aB m,wY s aA0,aX];have R:Pw s (i:Int)=fX (s.drop (i+1)) (i+1) []:=by unfold Pw;rw [aA aA0,aA (by rintro(h|h);omega;exact h m),iO]
    have E:=wg (γ (s.drop (i+1))) (s.drop (i+1)) (i+1) [] (sub s (b:Int) (i:Int)++[at_ s (i:Int)]) (eK _);have y:=(Jg (γ (s.drop (i+1))) (s.drop (i+1)) (i+1) [] (eK _)).2;have G:γ (s.drop (i+1))=aM s-(i+1):=gZ;rw [R];generalize fX (s.drop (i+1)) (i+1) []=U at E y⊢;by_cases z:U.2.2=0
    ·obtain⟨Y,X⟩:=y z;obtain⟨o,F⟩:∃o:Nat,U.2.1=(o:Int):=⟨U.2.1.toNat,aA0⟩;rw [F]at Y X;have K:=E.1 z;rw [F,iO,<-u,<-Ld s b (i+1) (o-(i+1)) aA0,MJ,show i+1+(o-(i+1))=o by omega]at K;rw [aB z,F,<-u,K];exact B o f c b aA0 aA0 aA0 aA0 aA0
    ·rw [aA z,E.2 z];exact⟨_,rfl,_,_,rfl⟩
   ·rw [aA m,aA m];by_cases g:at_ s (i:Int)=60
    ·have hx:fP 3 (sub s (b:Int) (i:Int)) (s.drop i)=fP 3 (sub s (b:Int) (i:Int)++[at_ s (i:Int)]) (s.drop (i+1)):=by rw [H,cw,aA (by rw [g];decide)]
     obtain⟨M,L⟩:=ang1 (s.drop i) (sub s (b:Int) (i:Int));have G:γ (s.drop i)=aM s-i:=gZ;have D:=lx (·==(62:UInt8)) (s.drop i);rw [aB g,aB g,aU aA0,iO,<-hx];generalize dP (·==(62:UInt8)) (s.drop i)=x at M L D⊢;by_cases p:x<0
     ·rw [aB p,M p];exact⟨_,rfl,_,_,rfl⟩
     ·rw [aA p,L p,<-Ld s b i (x.toNat+1) C,MJ,aU (cZ _ aA0 aA0),aU (cZ _ aA0 aA0),show(i:Int)+(x+1)=((i+(x.toNat+1):Nat):Int)by omega];exact B (i+(x.toNat+1)) f c b aA0 aA0 aA0 aA0 aA0
    ·rw [aA g,aA g];by_cases r:at_ s (i:Int)=62
     ·rw [aB r,aB r];exact⟨_,rfl,_,_,rfl⟩
     ·rw [aA r,aA r];by_cases t:at_ s (i:Int)=44
      ·obtain⟨k,S⟩:=Tt s aA0 b i C w;rw [aB t,aB t,S,aX,aU aE2,aU (cZ _ aA0 aA0),Su];obtain⟨j,W,A⟩:=B (i+1) f (c++[(k,cF (sub s (b:Int) (i:Int)))]) (i+1) aA0 aA0 (eK _) v aB5;refine⟨j,W, ?_⟩;rw [uK]at A;cases J:fP 0 [] (s.drop (i+1))with
       |inr e=>rw [J]at A;exact A
       |inl l=>rw [J]at A;obtain⟨d,b',Q,P,O,N⟩:=A;refine⟨d,b',Q,P,O, ?_⟩;rw [N,AY,jM,gH];rfl
      ·rw [aA t,aA t,aU (cZ _ aA0 aA0),Su,<-u];exact B (i+1) f c b aA0 aA0 aA0 v aA0
  ·obtain rfl:i=aM s:=by omega
   rw [atj,alz,aA aA0,af (eK _),s0n];exact⟨_,rfl,c,b,rfl,aA0,I,rfl⟩
theorem SP(s:aC)(m:aM s<=4194303):∃q a,ayi FU s 44=δ (q,a,(match fP 0 [] s with|.inl _=>0|.inr e=>e))/\(∀l,fP 0 [] s=.inl l->q.map (·.2)=l/\γ q<=aM s+1):=by
 obtain⟨j,o,b⟩:=A3 s m (γ s) 0 FU [] 0 aA0 aA6 (eK _) (cO _) (eK _);have c:anv FU s 44 FU [] (0:Int) (0:Int)=δ j:=o;rw [uK,WV]at b;unfold ayi;rw [sq,aX];have e:(bif bY 44 then δ ζ else(if(44:UInt8)=(34:UInt8)then δ ζ else(if(44:UInt8)=(60:UInt8)then δ ζ else δ (decide ((44:UInt8)=(62:UInt8))))))=δ η:=aA1;rw [e,aX,aH,c,aX];cases d:fP 0 [] s with
 |inr e=>rw [d]at b;obtain⟨q,a,rfl⟩:=b;rw [eF];exact⟨q,a,rfl,λl h=>by cases h⟩
 |inl l=>rw [d]at b;obtain⟨f,b',rfl,i,p,g⟩:=b;obtain⟨k,n⟩:=Tt s aA0 b' (γ s) i (eK _);rw [yR];dsimp only;rw [n,aX,aU aE2];refine⟨_,_,rfl,λl' h=> ?_⟩;have:=Sum.inl.inj h;subst this;rw [AY,jM,g];exact⟨rfl,by rw [bP,fD];omega⟩
theorem M8(c:(jU×Int×UInt8))(k:aM c.1<=4194304)(q:jU):∀(p:jU) (b:Nat),c.1=p++q->aM q<b->
  aoe FU c b (p.map (·.2)) (aM p:Int)=δ (if(q.map (·.2)).any (λx=>decide (x=[]))=ζ then .inr ([],5)else .inl (c.1.map (·.2))):=by
 induction q with
 |nil=>intro p b h f;obtain⟨b,rfl⟩:=cS b;rw [fI]at h;rw [azn,aqx,aA aE3,h];rfl
 |cons a q g=>
  intro p b h f;obtain⟨b,rfl⟩:=cS b;have i:=aV aM h;simp only [bP,bX]at i f;have e:(0:Int)<=(aM p:Int)/\(aM p:Int)<(aM c.1:Int):=aA0;have j:el c.1 (aM p:Int)=a:=aB3;rw [azn,aqx,aB e.2,aU e,aU e,j,yS,Re];by_cases d:a.2=[]
  ·rw [aB d,aK d,mK,aB rfl]
  ·rw [aA d,aL d,dX,aU (by simp only [Rf,fD];omega),aU (cZ _ aA0 aA0)];have:=g (p++[a]) b aA5 aA0;rw [AY,jM]at this;rw [show((aM p:Int)+1)=(γ (p++[a]):Int)by simp];exact this
theorem J7(v:aC)(g:aM v<=4194303):ayk FU v=δ (fF v):=by
 obtain⟨q,a,j,i⟩:=SP v g;unfold ayk fF;rw [j,aX];have d:=A9 v 0 [];cases f:fP 0 [] v with
 |inr e=>dsimp only;rw [aA (d e f)]
 |inl l=>
  obtain⟨h,k⟩:=i l f;dsimp only;have:=M8 (q,a,0) (by dsimp only;omega) q [] FU rfl aA6;have b:aoe FU (q,a,0) FU [] (0:Int)=_:=this;rw [aB rfl,b,aX,h];by_cases c:l.any (λx=>decide (x=[]))=ζ
  ·rw [aB c,aB c,eF]
  ·rw [aA c,aA c,yR]
theorem SD(s:aC)(k:Nat)(c:k<=γ s):γ (kZ s k).1<=γ s+252:=by
 unfold kZ;split
 ·rename_i h;have:=zG s k (Qh h).2 (Qh h).1;omega
 ·split
  ·split
   ·have a:=uX (sub s k (min ((k+dN (λb=> !(b==93)) (s.drop k):Nat)+1:Int) (γ s)));rw [LL]at a;dsimp only;omega
   ·exact cO _
  ·split
   ·exact cO _
   ·dsimp only;rw [LL];omega
theorem JX(s:aC)(b:Nat):γ (xW s b).1.2.1<=γ s+252:=by
 unfold xW;split
 ·exact cO _
 ·split
  ·exact cO _
  ·split
   ·exact SD s _ (rU _ _ _)
   ·exact cO _
theorem DN(s:aC):∀f l i,(∀p∈l,γ p.2.1<=γ s+252)->∀p∈(mB s f l i).1,γ p.2.1<=γ s+252
 |0,_,_,_=>by simp [mB]
 |f+1,l,i,h=>by
  rw [mB];split
  ·exact h
  ·split
   ·simp
   ·split
    ·split
     ·refine DN s f _ _ λp a=> ?_;rcases aR.1 a with a|a
      ·exact h p a
      ·rw [aE.1 a];exact JX s _
     ·simp
    ·simp
theorem Ab(s:aC):∀p∈(lA s).1,γ p.2.1<=γ s+252:=DN s _ [] 0 aA2
theorem GG(k:Int)(l:List PP)(T:aC):γ (iH k l T).2.1<=γ T/\γ (iH k l T).2.2.1<=γ T:=by
 have b:=Bx k (T.take (kP T));have a:=Bx k (T.drop (kP T+1));rw [kX]at b;rw [gZ]at a;have c:γ (dR (rT k (T.take (kP T))))=γ (rT k (T.take (kP T))):=by unfold dR;rw [Rf]
 unfold iH;split
 ·exact⟨cO _,cO _⟩
 ·split
  ·exact⟨cO _,cO _⟩
  ·split
   ·split
    ·exact⟨cO _,cO _⟩
    ·split
     ·exact⟨cO _,cO _⟩
     ·dsimp only;omega
   ·split
    ·exact⟨cO _,cO _⟩
    ·exact⟨by dsimp only;omega,cO _⟩
def iZ(n:Nat)(l:List PP):Prop:=∀p∈l,γ p.1<=n/\γ p.2.1<=n
variable {n:Nat}
theorem iZ.snoc(h:iZ n l)(p:PP)(d:γ p.1<=n)(c:γ p.2.1<=n):iZ n (l++[p]):=λq b=>by
 rcases aR.1 b with a|a
 ·exact h q a
 ·rw [aE.1 a];exact⟨d,c⟩
theorem G1(st s:aC):∀f i l,iZ (γ s) l->iZ (γ s) (rM st s f i l).2.2
 |0,i,l,h=>h
 |f+1,i,l,h=>by
  rw [rM];split
  ·split
   ·have:=GG 1 l (sub s (i+1:Nat) (cM st s (i+1)));have b:=sub_le s (i+1:Nat) (cM st s (i+1));exact G1 st s f _ _ (h.snoc _ aA0 aA0)
   ·intro p a;cases a
  ·exact h
theorem N3(s:aC):∀f i l,iZ (γ s) l->iZ (γ s) (Im s f i l).2
 |0,i,l,h=>h
 |f+1,i,l,h=>by
  rw [Im];split
  ·split
   ·have:=GG 2 l (sub s (i+1:Nat) (cM [38] s (i+1)));have b:=sub_le s (i+1:Nat) (cM [38] s (i+1));exact N3 s f _ _ (h.snoc _ aA0 aA0)
   ·intro p a;cases a
  ·exact h
def sI(n:Nat)(u:UU):Prop:=γ u.1<=n/\γ u.2.1<=n/\γ u.2.2.1<=n/\iZ n u.2.2.2.2.1/\iZ n u.2.2.2.2.2
theorem BD(n:Nat):sI n vM:=⟨cO _,cO _,cO _,(λp a=>by cases a),(λp a=>by cases a)⟩
theorem Ny(h:iZ n l):iZ n (eC l):=λp a=>h p (bbq l p a)
theorem zP(n:Nat)(st s b d h:aC)(c:Int)(i:Nat)(m:γ b<=n)(k:γ d<=n)(j:γ h<=n)(g:γ s<=n):sI n (nO st s b d h c i).2:=by
 have e:∀l,iZ (γ s) l->iZ n l:=λl f p a=>⟨lE (f p a).1 g,lE (f p a).2 g⟩;unfold nO;split
 ·split
  ·exact⟨m,k,j,Ny (e _ (G1 st s _ i [] (λp a=>by cases a))),Ny (e _ (N3 s _ _ [] (λp a=>by cases a)))⟩
  ·exact BD n
 ·exact BD n
theorem PX(s:aC)(i:Nat):γ (Ra s i).2.1<=γ s+252:=by
 have b:=uX (sub s i (jY s i));have a:=sub_le s i (jY s i);unfold Ra;split
 ·exact cO _
 ·split
  ·split
   ·dsimp only;omega
   ·exact cO _
  ·split
   ·exact cO _
   ·dsimp only;omega
theorem ZI(U:aC):γ (Hz U).2<=γ U:=by
 have:=Bx 0 U;unfold Hz;split
 ·exact cO _
 ·split
  ·exact cO _
  ·exact this
theorem OK(s:aC)(i:Nat):γ (xF s i).2.1<=γ s/\γ (xF s i).2.2.1<=γ s+252:=by
 have b:=PX s i;have a:=PX s (cM [64] s i+1);have d:=ZI (sub s i (cM [64] s i));have c:=sub_le s i (cM [64] s i);unfold xF;split
 ·split
  ·exact⟨by dsimp only;omega,a⟩
  ·exact⟨cO _,cO _⟩
 ·exact⟨cO _,b⟩
theorem CA(s:aC)(i:Nat):γ (vK s i).2<=31:=by
 unfold vK;split
 ·exact cO _
 ·split
  ·exact cO _
  ·split
   ·exact cO _
   ·dsimp only;split
    ·rw [bX];omega
    ·omega
theorem Tw(s:aC):sI 1300 (Wl s).2:=by
 unfold Wl;split
 ·exact BD _
 ·have c:γ (dR (s.take (cM [58] s 0)))<=γ s:=by unfold dR;rw [Rf,kX];omega
  have b:=OK s (cM [58] s 0+1);have a:=CA s (cM [58] s 0+1);split
  ·split
   ·split
    ·exact zP 1300 _ s _ _ _ _ _ aA0 aA0 aA0 aA0
    ·exact BD _
   ·split
    ·split
     ·exact zP 1300 _ s _ _ _ _ _ aA0 aA0 (cO _) aA0
     ·exact BD _
    ·exact BD _
  ·exact BD _
variable {u:UU}
theorem sI.sml(h:sI n u)(a:n<=4194304):Sml u:=
 ⟨lE h.1 a,lE h.2.1 a,lE h.2.2.1 a,λp b=>⟨lE (h.2.2.2.1 p b).1 a,lE (h.2.2.2.1 p b).2 a⟩,λp b=>⟨lE (h.2.2.2.2 p b).1 a,lE (h.2.2.2.2 p b).2 a⟩⟩
theorem ed(u:UU)(b:Good u)(i:Sml u):γ (uP u)<=2000000000:=by
 obtain⟨n,m,l,f,e⟩:=i;have p:=Eb _ f;have o:=FP _ e;have j:=b.pl;have k:=b.hl;have g:=HZ 0 u.2.1;have a:0<=u.2.2.2.1/\u.2.2.2.1<=65535:=by
  rcases b.cu with⟨_,_,d,c,_⟩|⟨_,_,h,_⟩
  ·exact⟨d,c⟩
  ·omega
 have hit:=WE u.2.2.2.1 a.1 a.2;have d:γ (BV u)<=12582913:=by
  unfold BV;split
  ·omega
  ·split
   ·exact cO _
   ·rw [bP,fD];omega
 have c:γ (xE u.2.2.2.1)<=6:=by
  unfold xE;split
  ·exact cO _
  ·rw [bX];omega
 unfold uP;simp;omega
theorem Mw(s:aC):∀f i a,i<=γ s->γ a<=i->(∀x∈a,γ x<=γ s)->γ (vS s f i a).2.2<=γ s/\∀x∈(vS s f i a).2.2,γ x<=γ s
 |0,_,_,_,_,_=>⟨cO _,λx hx=>by cases hx⟩
 |f+1,i,a,c,d,hx=>by
  have k:=AP cA s i c;have g:=rU cA s i;have j:=AP bY s _ g;rw [vS];split
  ·exact⟨lE d c,hx⟩
  ·split
   ·exact⟨cO _,λx hx=>by cases hx⟩
   ·rename_i e;refine Mw s f _ _ (rU _ _ _) aB5 (λx b=> ?_);rcases aR.1 b with h|h
    ·exact hx x h
    ·rw [aE.1 h];exact sub_le _ _ _
theorem R8(s:aC)(c:γ s<=1024)(i:Nat)(e:i<=γ s):γ (Cy s i).2.1<=1100000:=by
 unfold Cy;split
 ·rename_i h;have:=zG s i (Qh h).2 (Qh h).1;split
  ·split
   ·dsimp only;omega
   ·exact cO _
  ·exact cO _
 ·split
  ·obtain⟨a,b⟩:=Mw s _ i [] e (cO _) (λx hx=>by cases hx);have d:=y6 [32] (γ s) _ b;refine lE d ?_;refine lE (Y3 (lE a c) (Nat.succ_le_succ c)) aA1
  ·exact cO _
theorem my(s:aC):sI 1300 (iI s).2.2.1/\γ (iI s).2.1<=1100000/\iZ 1300 (iI s).2.2.2:=by
 have a:sI 1300 Rx.2.1/\γ Rx.1<=1100000/\iZ 1300 Rx.2.2:=⟨BD _,cO _,λp b=>by cases b⟩;unfold iI;split
 ·exact a
 ·rename_i c;split
  ·split
   ·split
    ·refine⟨?_,R8 s aA0 _ (rU _ _ _), ?_⟩
     ·show sI 1300 (kI s (Cy s _).2.2).2.1;unfold kI;split
      ·split
       ·exact BD _
       ·exact Tw _
      ·split
       ·exact BD _
       ·exact Tw _
     ·intro p b;have d:γ (s.drop (kI s (Cy s (cC bY s 0)).2.2).2.2)<=1024:=by rw [gZ];omega
      have f:=avz _ aA0 p b;have e:=Ab _ p b;exact⟨aA0,aA0⟩
    ·exact a
   ·exact a
  ·exact a
theorem bf(n:Nat):∀l k a,γ l<=n->0<=(fX l k a).2.1/\(fX l k a).2.1<=((k+γ l:Nat)):=by
 induction n with
 |zero=>intro l k a h;have:l=[]:=vJ aA0;subst this;unfold fX;exact⟨by dsimp only;omega,by dsimp only;omega⟩
 |succ n b=>
  intro l k a h;cases l with
  |nil=>unfold fX;exact⟨by dsimp only;omega,by dsimp only;omega⟩
  |cons c l=>
   rw [bX]at h⊢;rw [ayr];split
   ·exact⟨by dsimp only;omega,by dsimp only;omega⟩
   ·split
    ·split
     ·exact⟨by dsimp only;omega,by dsimp only;omega⟩
     ·split
      ·have e:γ (l.drop 1)=γ l-1:=gZ;have:=b (l.drop 1) (k+2) (a++[at_ l 0]) aA0;have d:l≠[]:=by assumption
       have:=bK.2 d;omega
      ·exact⟨by dsimp only;omega,by dsimp only;omega⟩
    ·split
     ·exact⟨by dsimp only;omega,by dsimp only;omega⟩
     ·have:=b l (k+1) (a++[c]) aA0;omega
theorem ZK(s:aC)(k:Nat)(a:k<=γ s):0<=(Pw s k).2.1/\(Pw s k).2.1<=γ s:=by
 unfold Pw;split
 ·exact⟨by dsimp only;omega,by dsimp only;omega⟩
 ·split
  ·exact⟨by dsimp only;omega,by dsimp only;omega⟩
  ·rename_i h;have b:γ (s.drop (bF k+1))=γ s-(k+1):=by rw [iO,gZ]
   have:=bf _ (s.drop (bF k+1)) (bF k+1) [] (eK _);omega
theorem bb(s:aC)(k:Nat)(c:k<=γ s):0<=(kZ s k).2.1/\(kZ s k).2.1<=γ s+1:=by
 have d:=rU cA s k;have a:=ID (λb=> !(b==93)) (s.drop k);rw [gZ]at a;unfold kZ;split
 ·have:=ZK s k c;omega
 ·split
  ·split
   ·exact⟨by dsimp only;omega,by dsimp only;omega⟩
   ·exact⟨by dsimp only;omega,by dsimp only;omega⟩
  ·split
   ·exact⟨by dsimp only;omega,by dsimp only;omega⟩
   ·exact⟨by dsimp only;omega,by dsimp only;omega⟩
theorem J8(s:aC)(b:Nat)(a:b<=γ s):0<=(xW s b).2.1/\(xW s b).2.1<=γ s+1:=by
 unfold xW;split
 ·exact⟨by dsimp only;omega,by dsimp only;omega⟩
 ·split
  ·exact⟨by dsimp only;omega,by dsimp only;omega⟩
  ·split
   ·exact⟨by dsimp only;omega,by dsimp only;omega⟩
   ·exact bb s _ (rU _ _ _)
theorem ON(s:aC):∀f l i,0<=(mB s f l i).2.1/\(mB s f l i).2.1<=γ s+1
 |0,_,_=>⟨by unfold mB;decide,by unfold mB;dsimp only;omega⟩
 |f+1,l,i=>by
  have a:=rU bY s (cC bY s i+1:Nat);rw [mB];split
  ·exact⟨by dsimp only;omega,by dsimp only;omega⟩
  ·split
   ·exact⟨by dsimp only;omega,by dsimp only;omega⟩
   ·split
    ·split
     ·exact ON s f _ _
     ·exact⟨by dsimp only;omega,by dsimp only;omega⟩
    ·exact J8 s _ a
theorem eh(s:aC)(a:γ s<=4194304):0<=(lA s).2.1/\(lA s).2.1<=γ s+1:=ON s _ _ _
theorem fa(s:aC)(y:γ s<=1024)(x:AA)(n:Nat):∀i d f b,γ s-i<=n->n<d->n<f->i<=γ s->γ b<=i->
  ∃j,afo FU x d b s i=δ j/\
   ((vS s f i b).1=0->j=.inl ((vS s f i b).2.2,s,((vS s f i b).2.1)))/\(¬(vS s f i b).1=0->∃a c w,j=.inr (a,(vS s f i b).1,c,w)):=by
 induction n with
 |zero=>
  intro i d f b u v o k t;obtain⟨d,rfl⟩:=cS d;obtain⟨f,rfl⟩:∃m,f=m+1:=⟨f-1,aA0⟩;obtain rfl:i=γ s:=aA0;have l:fJ s (γ s) 60=η:=by unfold fJ;rw [aL aA0];rfl
  have e:cC cA s (γ s:Int)=γ s:=Tn _ _;rw [amy,afl,IC,l,uJ s aA0 _ (eK _),e,uK];have g:vS s (f+1) (γ s) b=(5,0,[]):=by rw [vS,l,aA aA1,aB e]
  rw [g];exact⟨_,rfl,λh=>absurd h (show¬(5:UInt8)=0 by decide),λ_=>⟨_,_,_,rfl⟩⟩
 |succ n r=>
  intro i d f b u v o k t;obtain⟨d,rfl⟩:=cS d;obtain⟨f,rfl⟩:∃m,f=m+1:=⟨f-1,aA0⟩;have q:=AP cA s i k;have p:=rU cA s (i:Int);have z:=AP bY s (cC cA s (i:Int)) p;rw [amy,afl,IC,aX];cases l:fJ s i 60 with
  |true=>
   have g:vS s (f+1) i b=(0,i,b):=by rw [vS,l,aB rfl]
   rw [g];exact⟨_,rfl,λ_=>rfl,λh=>absurd rfl h⟩
  |false=>
   rw [uJ s aA0 i k,aX];dsimp only;by_cases e:cC cA s (i:Int)=i
   ·have g:vS s (f+1) i b=(5,0,[]):=by rw [vS,l,aA aA1,aB e]
    rw [aB ((avw s i _ p q).2 e),g];exact⟨_,rfl,λh=>absurd h (show¬(5:UInt8)=0 by decide),λ_=>⟨_,_,_,rfl⟩⟩
   ·have g:vS s (f+1) i b=vS s f (cC bY s ((cC cA s (i:Int):Nat):Int)) (b++[sub s (i:Int) ((cC cA s (i:Int):Nat):Int)]):=by rw [vS,l,aA aA1,aA e]
    rw [aA (λh=>e ((avw s i _ p q).1 h)),aU aE2,so s aA0,g];exact r _ d f _ aA0 aA0 aA0 (rU _ _ _) aB5
theorem TO(s:aC)(f:γ s<=1024)(i:Nat)(g:i<=γ s):∃a c w,aed FU (s,i) ([],vM,[])=δ (a,(vS s (γ s+1) i []).1,c,w)/\
  ((vS s (γ s+1) i []).1=0->c=(s,((vS s (γ s+1) i []).2.1:Int))/\w=(cY (vS s (γ s+1) i []).2.2 [32],vM,[])):=by
 obtain⟨j,e,n,m⟩:=fa s f _ (γ s) i FU (γ s+1) [] aA0 aA6 aA0 g (cO _);unfold aed;rw [e,aX];by_cases d:(vS s (γ s+1) i []).1=0
 ·rw [n d,yR];obtain⟨a,b⟩:=Mw s _ i [] g (cO _) (λx hx=>by cases hx);have l:=y6 [32] (γ s) _ b;rw [fD]at l;have k:γ (vS s (γ s+1) i []).2.2*(γ s+1)<=1024*1025:=Y3 (lE a f) (Nat.succ_le_succ f);dsimp only;rw [aU (by constructor<;>omega),d];exact⟨_,_,_,rfl,λ_=>⟨rfl,rfl⟩⟩
 ·obtain⟨a,c,w,o⟩:=m d;rw [o];exact⟨_,_,_,rfl,λh=>absurd h d⟩
theorem vc(s:aC)(z:γ s<=1024)(i:Nat)(o:i<=γ s)(d:aC):∃a c w,ahn FU (s,i) (d,vM,[])=δ (a,(kI s i).1,c,w)/\((kI s i).1=0->c=(s,((kI s i).2.2:Int))/\w=(d,(kI s i).2.1,[])/\(kI s i).2.2<=γ s):=by
 have n:∀(b e k:Nat),b<=e->e<=γ s->k<=γ s->k<=1025->∃a c w,(gd (0<=(b:Int)/\(b:Int)<=(e:Int)/\(e:Int)<=(γ s:Int))<|((aro FU (sub s (b:Int) (e:Int))).bind λ(f:UU×Int×UInt8)=>(if f.2.2=(0:UInt8)then δ ((0:Int),(0:UInt8),(s,(k:Int)),(d,f.1,([]:List PP)))else(gd (acl (b+f.2.1))<|some (b+f.2.1,f.2.2,(s,i),(d,vM,[]))))))=δ (a,(Wl (sub s b e)).1,c,w)/\((Wl (sub s b e)).1=0->c=(s,(k:Int))/\w=(d,(Wl (sub s b e)).2,[])/\k<=γ s):=by
  intro b e k A l u t;obtain⟨a,x,v,y⟩:=G7 _;have r:=sub_le s b e;rw [aU aA0,y,aX];dsimp only;by_cases p:(Wl (sub s b e)).1=0
  ·rw [p];exact⟨_,_,_,rfl,λ_=>⟨rfl,rfl,u⟩⟩
  ·rw [aA p,aU (cZ _ aA0 aA0)];exact⟨_,_,_,rfl,λh=>absurd h p⟩
 unfold ahn kI;rw [IC,aX];dsimp only;cases q:fJ s i 60 with
 |true=>
  have m:=(Qh q).1;have j:=kH [62] s (i+1);have g:=QZ [62] s (i+1) m;rw [aU (cZ _ aA0 aA0),Su,ly s aA0 (i+1) m _ aA1 aA1,aX];by_cases l:cM [62] s (i+1)=γ s
  ·rw [aB aA0,aB l];exact⟨_,_,_,rfl,λh=>absurd h (show¬(5:UInt8)=0 by decide)⟩
  ·rw [aA aA0,aA l,aU (cZ _ aA0 aA0)];exact n (i+1) (cM [62] s (i+1)) (cM [62] s (i+1)+1) j g aA0 aA0
 |false=>
  have j:=kH [59,32,9] s i;have g:=QZ [59,32,9] s i o;rw [ly s aA0 i o _ aA1 aA1,aX,ly s aA0 i o _ aA1 aA1,aX];by_cases l:cM [63,44] s i<cM [59,32,9] s i
  ·rw [aB aA0,aB l];exact⟨_,_,_,rfl,λh=>absurd h (show¬5=0 by decide)⟩
  ·rw [aA aA0,aA l];exact n i _ _ j g g aA0
theorem KZ(s:aC):Lib.contains s [60]=jR s 60:=qE s 60
theorem Yp(s:aC):∃a,alk FU s=δ ((iI s).2,a,(iI s).1):=by
 unfold alk iI;by_cases r:1024<γ s
 ·rw [aB aA0,aB r];exact⟨_,rfl⟩
 ·rw [aA aA0,aA r,so s aA0,aX];have m:=rU bY s 0;generalize cC bY s 0=b at m⊢;have j:∃a c w,((((Ir FU (s,(b:Int)) (34:UInt8)).bind λ(l:Bool)=>(bif l then((aho FU (s,(b:Int)) (([]:aC),(([]:aC),([]:aC),([]:aC),(0:Int),([]:List PP),([]:List PP)),([]:List PP))).bind λ(f:(Int×UInt8×(aC×Int)×AA))=>δ (f.1,f.2.1,f.2.2.1.1,f.2.2.1.2,f.2.2.2.1,f.2.2.2.2.1.1,f.2.2.2.2.1.2.1,f.2.2.2.2.1.2.2.1,f.2.2.2.2.1.2.2.2.1,f.2.2.2.2.1.2.2.2.2.1,f.2.2.2.2.1.2.2.2.2.2,f.2.2.2.2.2))else(gd (γ s<=1000000000)<|(bif (Lib.contains s ([60]:aC))then((aed FU (s,(b:Int)) (([]:aC),(([]:aC),([]:aC),([]:aC),(0:Int),([]:List PP),([]:List PP)),([]:List PP))).bind λ(d:(Int×UInt8×(aC×Int)×AA))=>δ (d.1,d.2.1,d.2.2.1.1,d.2.2.1.2,d.2.2.2.1,d.2.2.2.2.1.1,d.2.2.2.2.1.2.1,d.2.2.2.2.1.2.2.1,d.2.2.2.2.1.2.2.2.1,d.2.2.2.2.1.2.2.2.2.1,d.2.2.2.2.1.2.2.2.2.2,d.2.2.2.2.2))else δ ((0:Int),(0:UInt8),s,(b:Int),([]:aC),([]:aC),([]:aC),([]:aC),(0:Int),([]:List PP),([]:List PP),([]:List PP))))))):Option (Int×UInt8×aC×Int×aC×aC×aC×aC×Int×(List PP)×(List PP)×(List PP)))
    =δ (a,(Cy s b).1,c,w)/\((Cy s b).1=0->c=s/\w=(((Cy s b).2.2:Int),(Cy s b).2.1,[],[],[],0,[],[],[])):=by
   have i:=GP s b m;rw [IC,aX];unfold Cy at i⊢;cases v:fJ s b 34 with
   |true=>
    rw [v]at i;rw [aQ];unfold aho;dsimp only;rw [wY s aA0,aX];by_cases g:(Pw s (b:Int)).2.2=0
    ·rw [aB g]at i;rw [aB g,aB g,so s aA0,aX,IC,aX];cases p:fJ s (cC bY s (Pw s (b:Int)).2.1) 60 with
     |true=>rw [iN];exact⟨_,_,_,rfl,λ_=>⟨rfl,rfl⟩⟩
     |false=>rw [yX];exact⟨_,_,_,rfl,λh=>absurd h (show¬(5:UInt8)=0 by decide)⟩
    ·rw [aA g,aA g];exact⟨_,_,_,rfl,λh=>absurd h g⟩
   |false=>
    rw [aU aA0,KZ];cases p:jR s 60 with
    |true=>obtain⟨a,c,w,e,h⟩:=TO s aA0 b m;rw [aQ];have e':aed FU (s,(b:Int)) (([]:aC),(([]:aC),([]:aC),([]:aC),(0:Int),([]:List PP),([]:List PP)),([]:List PP))=δ (a,(vS s (γ s+1) b []).1,c,w):=e;rw [e'];refine⟨_,_,_,rfl,λg=> ?_⟩;obtain⟨rfl,rfl⟩:=h g;exact⟨rfl,rfl⟩
    |false=>exact⟨_,_,_,rfl,λ_=>⟨rfl,rfl⟩⟩
  obtain⟨a,c,w,e,h⟩:=j;have i:=GP s b m;rw [e,aX];generalize Cy s b=D at h i⊢;by_cases g:D.1=0
  ·obtain⟨rfl,rfl⟩:=h g;rw [aB g,aB g];obtain⟨A,z,u,y,t⟩:=vc c aA0 D.2.2 i D.2.1;have q:ahn FU (c,(D.2.2:Int)) (D.2.1,(([]:aC),([]:aC),([]:aC),(0:Int),([]:List PP),([]:List PP)),([]:List PP))=δ (A,(kI c D.2.2).1,z,u):=y;rw [q,aX,aX];dsimp only;generalize kI c D.2.2=G at t⊢;by_cases k:G.1=0
   ·obtain⟨rfl,rfl,B⟩:=t k;rw [aB k,aB k];obtain⟨x,o⟩:=eh (c.drop G.2.2) aB7;rw [aU aA0,iO,Ec _ aB7,aX,aU (cZ _ aA0 (by rw [gZ]at o;omega)),aX];by_cases n:(lA (c.drop G.2.2)).2.2=0
    ·rw [aB n,aB n];exact⟨_,rfl⟩
    ·rw [aA n,aA n];exact⟨_,rfl⟩
   ·rw [aA k,aA k,aX];rw [aA k];exact⟨_,rfl⟩
  ·rw [aA g,aA g,aX];rw [aA g,aX];rw [aA g];exact⟨_,rfl⟩
theorem Yg(a:AA)(g:Good a.2.1)(f:Sml a.2.1)(o:γ a.1<=4194304)(n:γ a.2.2<20)(q:∀p∈a.2.2,γ p.1<=4194304/\γ p.2.1<=4194304):alj FU a=δ (wB a):=by
 have c:∀p∈eC a.2.2,γ p.1<=4194304/\γ p.2.1<=4194304:=λp m=>q p (bbq _ p m);have j:=ed a.2.1 g f;have l:=Yi (eC a.2.2) c;have k:=sO a.1;unfold alj wB;rw [Lx _ o,aX];cases i:a.1.any eO with
 |true=>
  have e:DE a.1=([],5):=by unfold DE;rw [i,aB rfl]
  rw [e,aA (show¬(5:UInt8)=0 by decide),aA (λh=>absurd h.1 aA1)]
 |false=>
  have e:DE a.1=(jG a.1,0):=by unfold DE;rw [i,aA aA1]
  rw [e,aB rfl,F5 _ g f,aX,aB rfl,qI _ n,aX,bap _ c,aX];dsimp only;by_cases d:(iV (eC a.2.2)).2=0
  ·rw [aB d,aB (show η=η/\(iV _).2=0 from⟨rfl,d⟩)];unfold Sh;by_cases b:a.1=[]
   ·rw [aB b,aB b,aU aE2,aU aA4,aU aA4];simp
   ·have r:[32,60].length=2:=rfl;rw [aA b,aA b,aU aA0,aU aC1,aU aA4,aU aA4];simp
  ·rw [aA d,aA (λh=>d h.2)]
theorem N5(v:aC)(b:γ v<=4194304):ata FU v=δ ((iI (cF v)).2,(iI (cF v)).1):=by obtain⟨a,e⟩:=Yp _;unfold ata;rw [mM v b,aX,e,aX]
open Go.Lib renaming indexAny → Dc
theorem Ai(s:aC)(f:γ s<=4194304):aoc FU s=δ (wK s):=by
 have a:Dc s [32,9]=dP bY s:=by rw [att,vE]
 unfold aoc wK;rw [aU ⟨aA0,aA1,aA1⟩,a];have e:(if dP bY s<(0:Int)then δ (γ s:Int)else δ (dP bY s))=δ ((dN (λc=> !bY c) s:Nat):Int):=by
  rcases lx bY s with⟨i,b⟩|⟨i,b,h⟩
  ·rw [aB aA0,b]
  ·rw [aA aA0,h]
 have d:=ID (λc=> !bY c) s;have g:=rU bY s ((dN (λc=> !bY c) s:Nat):Int);rw [e,aX,aU aA0,iO,uR,aX,oQ s f,aX,aU aA0,iO]
theorem uQ(s:aC):γ (wK s).2.1<=γ s:=by unfold wK;rw [gZ];omega
theorem GX(v:aC)(a:γ v<=4194304):ava FU v=δ (Cb v):=by
 have b:=IF v;have c:=uQ (cF v);unfold ava Cb;rw [mM v a,aX,Ai _ aA0,aX];by_cases h:(wK (cF v)).2.2=0
 ·rw [aB h,aB h,sn _ aA0,aX];cases d:eP (wK (cF v)).2.1 with
  |true=>rw [iN,aH,aB rfl]
  |false=>rw [yX,aQ,aA aA1]
 ·rw [aA h,aA h]
theorem E0(v:aC)(b:γ v<=4194304):ayj FU v=δ (Da v):=by
 have c:=IF v;have d:=uQ (cF v);unfold ayj Da;rw [mM v b,aX,Ai _ aA0,aX];by_cases h:(wK (cF v)).2.2=0
 ·rw [aB h,aB h,GX _ aA0,aX];by_cases a:(Cb (wK (cF v)).2.1).2.2=0
  ·rw [aB a,aB a]
  ·rw [aA a,aA a]
 ·rw [aA h,aA h]
theorem M7(v:aC)(a:γ v<=4194304):auz FU v=δ (hZ (cF v)):=by unfold auz;rw [mM v a,aX,uR,aX]
open Go.Lib renaming itoa → dU, join → cY
open List renaming length → aM, set → gQ
def Pv(c:aC):Int:=(tc FU c).getD 0
theorem gk:∀x∈Iq,tc FU x.1=δ (Pv x.1):=aA3
theorem UI:∀x∈Iq,My x.1=ζ->Pv x.1=1\/Pv x.1=2\/Pv x.1=6\/Pv x.1=7:=aA3
theorem gm(c:aC):tc FU c=δ (Pv c):=by
 by_cases h:∃x∈Iq,x.1=c
 ·obtain⟨x,hx,rfl⟩:=h;exact gk x hx
 ·have a:∀x∈Iq,x.1≠c:=λx hx e=>h ⟨x,hx,e⟩;have:=ER c a;unfold Pv;rw [this];rfl
theorem Un(c:aC)(h:My c=ζ):DX (Pv c):=by
 by_cases hx:∃x∈Iq,x.1=c
 ·obtain⟨x,hx,rfl⟩:=hx;exact UI x hx h
 ·have b:∀x∈Iq,x.1≠c:=λx a e=>hx ⟨x,a,e⟩;have:=DW c b;rw [OX,h]at this;cases this
theorem Xj(n:Nat):∀l:List PP,iZ n l->Ri l<=aM l*(2*n)
 |[],_=>cO _
 |p::l,h=>by have c:=h p fE;have b:=Xj n l (λq a=>h q (eT _ a));rw [nK,bX,fN];omega
theorem Tx(n:Nat):∀l:List PP,iZ n l->γ (wL l)<=aM l*(6*n+2)
 |[],_=>cO _
 |p::l,h=>by
  have e:=h p fE;have d:=Tx n l (λq a=>h q (eT _ a));have g:=HZ 1 p.1;have f:=HZ 1 p.2.1;have b:wL (p::l)=59::(lB p++wL l):=by unfold wL;rfl
  have c:γ (lB p)<=6*n+1:=by
   unfold lB;rw [bP];cases p.2.2 with
   |true=>rw [aQ,bX];omega
   |false=>rw [aH,fT];omega
  rw [b,bX,bP,bX,fN];omega
theorem FM(n:Nat):∀l:List PP,iZ n l->γ (jA l)<=aM l*(6*n+2)
 |[],_=>cO _
 |p::l,h=>by
  have e:=h p fE;have d:=FM n l (λq a=>h q (eT _ a));have g:=HZ 2 p.1;have f:=HZ 2 p.2.1;have b:jA (p::l)=38::(mE p++jA l):=by unfold jA;rfl
  have c:γ (mE p)<=6*n+1:=by unfold mE;rw [bP,bX];omega
  rw [b,bX,bP,bX,fN];omega
theorem UT(n:Nat)(l:List PP)(h:iZ n l):γ (tE l)<=aM l*(6*n+2):=by
 have:=FM n l h;cases l with
 |nil=>exact cO _
 |cons p l=>exact this
theorem F6(n:Nat)(u:UU)(b:Good u)(h:sI n u):γ (uP u)<=197*n+80:=by
 obtain⟨k,j,i,f,e⟩:=h;have p:=Tx n _ f;have o:=UT n _ e;have g:=HZ 0 u.2.1;have a:0<=u.2.2.2.1/\u.2.2.2.1<=65535:=by
  rcases b.cu with⟨_,_,d,c,_⟩|⟨_,_,h,_⟩
  ·exact⟨d,c⟩
  ·omega
 have hit:=WE u.2.2.2.1 a.1 a.2;have m:aM u.2.2.2.2.1*(6*n+2)<=16*(6*n+2):=BH _ b.pl;have l:aM u.2.2.2.2.2*(6*n+2)<=16*(6*n+2):=BH _ b.hl;have d:γ (BV u)<=3*n+1:=by
  unfold BV;split
  ·omega
  ·split
   ·exact cO _
   ·rw [bP,fD];omega
 have c:γ (xE u.2.2.2.1)<=6:=by
  unfold xE;split
  ·exact cO _
  ·rw [bX];omega
 unfold uP;simp;omega
theorem Mf(s:aC):sI (aM s+252) (Wl s).2:=by
 unfold Wl;split
 ·exact BD _
 ·have c:γ (dR (s.take (cM [58] s 0)))<=aM s:=by unfold dR;rw [Rf,kX];omega
  have b:=OK s (cM [58] s 0+1);have a:=CA s (cM [58] s 0+1);split
  ·split
   ·split
    ·exact zP _ _ s _ _ _ _ _ aA0 aA0 aA0 aA0
    ·exact BD _
   ·split
    ·split
     ·exact zP _ _ s _ _ _ _ _ aA0 aA0 (cO _) aA0
     ·exact BD _
    ·exact BD _
  ·exact BD _
theorem sI.mono{n m:Nat}(h:sI n u)(a:n<=m):sI m u:=
 ⟨lE h.1 a,lE h.2.1 a,lE h.2.2.1 a,λp b=>⟨lE (h.2.2.2.1 p b).1 a,lE (h.2.2.2.1 p b).2 a⟩,λp b=>⟨lE (h.2.2.2.2 p b).1 a,lE (h.2.2.2.2 p b).2 a⟩⟩
theorem Mv(s:aC):∀f i (a:List aC),i<=aM s->γ (cY a [32])<=2*i->γ (cY (vS s f i a).2.2 [32])<=2*aM s
 |0,_,_,_,_=>cO _
 |f+1,i,a,d,g=>by
  have j:=AP cA s i d;have e:=rU cA s i;have h:=AP bY s _ e;rw [vS];split
  ·dsimp only;omega
  ·split
   ·exact cO _
   ·rename_i c;have b:γ (sub s i ((cC cA s i):Int))=cC cA s i-i:=by rw [LL];omega
    refine Mv s f _ _ (rU _ _ _) ?_;rw [EU];split
    ·omega
    ·rw [bP,bP,fD];omega
theorem VN(s:aC)(i:Nat)(a:i<=aM s):γ (Cy s i).2.1<=2*aM s:=by
 unfold Cy;split
 ·rename_i h;have:=zG s i (Qh h).2 (Qh h).1;split
  ·split
   ·dsimp only;omega
   ·exact cO _
  ·exact cO _
 ·split
  ·exact Mv s _ i [] a (cO _)
  ·exact cO _
theorem X1(s:aC):sI (aM s+252) (iI s).2.2.1/\γ (iI s).2.1<=2*aM s/\iZ (aM s+252) (iI s).2.2.2:=by
 have a:sI (aM s+252) Rx.2.1/\γ Rx.1<=2*aM s/\iZ (aM s+252) Rx.2.2:=⟨BD _,cO _,λp b=>by cases b⟩;unfold iI;split
 ·exact a
 ·rename_i c;split
  ·split
   ·split
    ·refine⟨?_,VN s _ (rU _ _ _), ?_⟩
     ·show sI _ (kI s (Cy s _).2.2).2.1;generalize(Cy s _).2.2=j;unfold kI;split
      ·split
       ·exact BD _
       ·exact(Mf _).mono (by have:=sub_le s (j+1:Nat) (cM [62] s (j+1));omega)
      ·split
       ·exact BD _
       ·exact(Mf _).mono (by have:=sub_le s j (cM [59,32,9] s j);omega)
     ·intro p b;have d:γ (s.drop (kI s (Cy s (cC bY s 0)).2.2).2.2)<=aM s:=by rw [gZ];omega
      have f:=avz _ aA0 p b;have e:=Ab _ p b;exact⟨aA0,aA0⟩
    ·exact a
   ·exact a
  ·exact a
theorem ee(n:Nat)(a:AA)(b:Good a.2.1)(e:sI n a.2.1)(f:aM a.1<=2*n)(d:iZ n a.2.2)(c:aM a.2.2<=16):γ (wB a).1<=265*n+200:=by
 have m:=F6 n a.2.1 b e;have l:=sO a.1;have k:=Ma (eC a.2.2);have j:=Kz (WH a.2.2);have i:=Xj n a.2.2 d;have h:aM a.2.2*(2*n)<=16*(2*n):=BH _ c;have g:γ (Sh a.1)<=4*n+3:=by
  unfold Sh;split
  ·exact cO _
  ·rw [bP,fD];omega
 unfold wB;split
 ·simp;omega
 ·exact cO _
theorem ZC(v:aC)(q:aM v<=4194304):γ (lX v).1.1<=aM v/\γ (lX v).1.2.1<=aM v+252/\γ (lX v).1.2.2.2.1<=aM v+252/\iZ (aM v+252) (lX v).1.2.2.2.2:=by
 have e:aM wT.1<=aM v/\γ wT.2.1<=aM v+252/\γ wT.2.2.2.1<=aM v+252/\iZ (aM v+252) wT.2.2.2.2:=⟨cO _,cO _,cO _,λp g=>by cases g⟩
 have r:=IF v;have l:∀(f h) d c,aM f<=aM v->aM h<=aM v+252->aM c<=aM v->γ (Di f h d c).1.1<=aM v/\γ (Di f h d c).1.2.1<=aM v+252/\γ (Di f h d c).1.2.2.2.1<=aM v+252/\iZ (aM v+252) (Di f h d c).1.2.2.2.2:=by
  intro f h d c o n w;have j:iZ (aM v+252) (lA c).1:=λp g=>by have a:=avz c aA0 p g;have b:=Ab c p g;exact⟨aA0,aA0⟩
  unfold Di;split
  ·refine⟨o,n, ?_,j⟩;unfold xQ;split
   ·rename_i p g;exact(j p (mU g)).2
   ·exact cO _
  ·exact e
 unfold lX;split
 ·exact e
 ·split
  ·exact e
  ·split
   ·exact e
   ·split
    ·exact e
    ·have i:γ (jI (sub (cF v) 8 (cC cA (cF v) 8)))<=aM v:=by have:=sub_le (cF v) 8 (cC cA (cF v) 8);rw [wX];omega
     have m:∀P c:aC,aM P<=aM v->aM c<=aM v->γ (Xa (jI (sub (cF v) 8 (cC cA (cF v) 8))) P c).1.1<=aM v/\γ (Xa (jI (sub (cF v) 8 (cC cA (cF v) 8))) P c).1.2.1<=aM v+252/\γ (Xa (jI (sub (cF v) 8 (cC cA (cF v) 8))) P c).1.2.2.2.1<=aM v+252/\iZ (aM v+252) (Xa (jI (sub (cF v) 8 (cC cA (cF v) 8))) P c).1.2.2.2.2:=by
      intro P c u k;have s:=uX (kO P).1;have t:=(GV P).1;unfold Xa;split
      ·exact e
      ·split
       ·split
        ·exact l _ _ _ _ i aA0 k
        ·exact e
       ·exact l _ _ _ _ i aA0 k
     refine m _ _ ?_ ?_
     ·rw [kX,gZ];omega
     ·rw [gZ,gZ];omega
theorem PN(v:aC)(d:aM v<=4194304):γ (jS v).1.1<=aM v/\iZ (aM v+252) (jS v).1.2:=by
 have e:=IF v;unfold jS;split
 ·exact⟨cO _,λp c=>by cases c⟩
 ·split
  ·refine⟨by dsimp only;rw [kX];omega,λp c=> ?_⟩;have f:γ ((cF v).drop (kU (cF v)))<=aM v:=aB7;have a:=avz _ aA0 p c;have b:=Ab _ p c;exact⟨aA0,aA0⟩
  ·exact⟨cO _,λp c=>by cases c⟩
theorem azf(n:Int)(a:0<=n)(h:n<=2147483647):γ (dU n)<=10:=(tC n a h).2.2.1
theorem Ph(v:aC):0<=(Cb v).1/\(Cb v).1<=2147483647/\γ (Cb v).2.1<=aM v:=by
 have a:=Jp (cF v);have c:=uQ (cF v);have b:=IF v;unfold Cb;split
 ·split
  ·exact⟨a.1,a.2,by dsimp only;omega⟩
  ·exact⟨fO 0,(show 0<=2147483647 by decide),cO _⟩
 ·exact⟨fO 0,(show 0<=2147483647 by decide),cO _⟩
theorem DD(v:aC):(0<=(Da v).1/\(Da v).1<=2147483647)/\(0<=(Da v).2.1/\(Da v).2.1<=2147483647)/\γ (Da v).2.2.1<=aM v:=by
 have b:=Jp (cF v);have a:=Ph (wK (cF v)).2.1;have d:=uQ (cF v);have c:=IF v;unfold Da;generalize Cb (wK _).2.1=C at a⊢;split
 ·split
  ·exact⟨b,⟨a.1,a.2.1⟩,by dsimp only;omega⟩
  ·exact⟨⟨fO 0,(show 0<=2147483647 by decide)⟩,⟨fO 0,(show 0<=2147483647 by decide)⟩,cO _⟩
 ·exact⟨⟨fO 0,(show 0<=2147483647 by decide)⟩,⟨fO 0,(show 0<=2147483647 by decide)⟩,cO _⟩
theorem bp(k:Int)(ct:Bool)(v:aC)(r:aM v<=4194000):γ (hC k ct v).1<=265*aM v+80000:=by
 have s:=IF v;have z:∀e:UInt8,γ (([]:aC),e).1<=265*aM v+80000:=λe=>cO _;unfold hC;split
 ·split
  ·show 1<=_;omega
  ·split
   ·rename_i j;obtain⟨m,l,_⟩:=Qj _ j;obtain⟨p,u,o⟩:=X1 _;have:=ee _ _ m p aA0 o l;omega
   ·exact z _
 ·split
  ·split
   ·obtain⟨v1,h,q,v4⟩:=ZC v aA0;have a:=TN (lX v).1;have b:=Xj _ _ v4;have c:=BT v;have d:γ (lX v).1.2.2.2.2*(2*(aM v+252))<=16*(2*(aM v+252)):=BH _ c;omega
   ·exact z _
  ·split
   ·split
    ·obtain⟨g,f,i⟩:=Ph v;have:=azf _ g f;simp;omega
    ·exact z _
   ·split
    ·split
     ·obtain⟨⟨g,f⟩,⟨i,n⟩,t⟩:=DD v;have:=azf _ g f;have:=azf _ i n;simp;omega
     ·exact z _
    ·split
     ·split
      ·obtain⟨g,f⟩:=Jq (cF v);have:=azf _ g f;dsimp only;omega
      ·exact z _
     ·split
      ·split
       ·obtain⟨v1,h⟩:=PN v aA0;have a:=JN (jS v).1;have b:=Xj _ _ h;have c:=Fc v;have d:γ (jS v).1.2*(2*(aM v+252))<=16*(2*(aM v+252)):=BH _ c;omega
       ·exact z _
      ·split
       ·exact z _
       ·dsimp only;omega
def CE(l:List aC):Nat:=(l.map aM).sum
theorem ayt(x:aC)(l:List aC):CE (x::l)=aM x+CE l:=rfl
theorem ET:∀(l:List aC),γ (cY l [44,32])<=CE l+2*aM l
 |[]=>cO _
 |[a]=>by rw [gx,ayt];omega
 |a::b::l=>by have:=ET (b::l);rw [ye,ayt];simp at this⊢;omega
theorem NA(k:Int)(ct:Bool):∀l:List aC,(∀x∈l,aM x<=4194000)->CE (rW k ct l).1<=265*CE l+80000*aM l
 |[],_=>cO _
 |x::l,h=>by
  have c:=bp k ct x (h x fE);have b:=NA k ct l (λy a=>h y (eT _ a));rw [rW,ayt,bX];split
  ·split
   ·rw [ayt];omega
   ·exact cO _
  ·exact cO _
theorem lF:∀s m a l,fP m a s=.inl l->CE l<=aM a+aM s/\γ l<=aM s+1
 |[],0,a,l,h=>by have:=Sum.inl.inj h;subst this;have:=IF a;exact⟨by rw [ayt];show _+0<=_;omega,aA2⟩
 |[],m+1,a,l,h=>by cases h
 |c::s,0,a,l,h=>by
  have b:γ (a++[c])=aM a+1:=aA2;rw [vr]at h;rw [bX];split at h
  ·have:=lF s _ _ l h;omega
  ·split at h
   ·have:=lF s _ _ l h;omega
   ·split at h
    ·cases h
    ·split at h
     ·obtain⟨m,d,rfl⟩:=Vz h;have:=lF s _ _ m d;have:=IF a;rw [ayt];simp at*
      omega
     ·have:=lF s _ _ l h;omega
 |c::s,1,a,l,h=>by
  have b:γ (a++[c])=aM a+1:=aA2;rw [s1c]at h;rw [bX];split at h
  ·have:=lF s _ _ l h;omega
  ·split at h
   ·have:=lF s _ _ l h;omega
   ·split at h
    ·cases h
    ·have:=lF s _ _ l h;omega
 |c::s,2,a,l,h=>by
  have b:γ (a++[c])=aM a+1:=aA2;rw [s2c]at h;rw [bX];split at h
  ·have:=lF s _ _ l h;omega
  ·cases h
 |c::s,m+3,a,l,h=>by
  have b:γ (a++[c])=aM a+1:=aA2;rw [s3c]at h;rw [bX];split at h
  ·have:=lF s _ _ l h;omega
  ·have:=lF s _ _ l h;omega
theorem I9(v:aC):CE (fF v).1<=aM v/\γ (fF v).1<=aM v+1:=by
 unfold fF;cases a:fP 0 [] v with
 |inr e=>exact⟨cO _,cO _⟩
 |inl l=>
  have:=lF v 0 [] l a;dsimp only;split
  ·exact⟨cO _,cO _⟩
  ·dsimp only;simp at this;omega
theorem CD:∀l,∀x∈l,aM x<=CE l
 |[],x,hx=>by cases hx
 |a::l,x,hx=>by
  rw [ayt];rcases aP.1 hx with h|h
  ·rw [h];omega
  ·have:=CD l x h;omega
def CONT:aC:=[67,111,110,116,97,99,116]
def GW(c:aC):Bool:=decide (c=CONT)
theorem BZ(c v:aC)(C:aM v<=4190000):aux FU c v=δ (hC (Pv c) (GW c) v):=by
 unfold aux hC;rw [gm,aX];generalize Pv c=k;by_cases m:k=1
 ·rw [aB m,aB m];have e:(if c=([67,111,110,116,97,99,116]:aC)then((XK FU v).bind λ(d:aC)=>δ (decide (d=([42]:aC))))else δ η)=δ (decide (GW c=ζ/\cF v=[42])):=by
   unfold GW;by_cases o:c=CONT
   ·rw [aB (show c=([67,111,110,116,97,99,116]:aC)from o),mM v aA0,aX,aK o];congr 1;rw [eA];exact⟨λh=>⟨rfl,h⟩,λh=>h.2⟩
   ·rw [aA (show¬c=([67,111,110,116,97,99,116]:aC)from o),aL o,aL (λh=>absurd h.1 aA1)]
  rw [e,aX];by_cases n:GW c=ζ/\cF v=[42]
  ·rw [aK n,aQ,aB n]
  ·rw [aL n,aH,aA n,N5 v aA0,aX];dsimp only;by_cases a:(iI (cF v)).1=0
   ·obtain⟨x,G,F⟩:=Qj _ a;obtain⟨A,I,z⟩:=my (cF v);rw [aB a,aB a,Yg _ x (A.sml aA1) aA0 aA0 (λp f=>by have:=z p f;omega),aX]
   ·rw [aA a,aA a]
 ·rw [aA m,aA m];by_cases l:k=2
  ·rw [aB l,aB l,uu v aA0,aX];by_cases a:(lX v).2=0
   ·obtain⟨v1,s,B,v4⟩:=ZC v aA0;have u:=BT v;rw [aB a,aB a,DF _ aA0 aA0 aA0 (λp f=>by have:=v4 p f;omega) aA0,aX]
   ·rw [aA a,aA a]
  ·rw [aA l,aA l];by_cases j:k=3
   ·obtain⟨r,q,t⟩:=Ph v;have w:=azf _ r q;rw [aB j,aB j,GX v aA0,aX];by_cases a:(Cb v).2.2=0
    ·rw [aB a,aB a,aU (cZ _ aA0 aA0),aU aE2,aU aB5,gH];rfl
    ·rw [aA a,aA a]
   ·rw [aA j,aA j];by_cases i:k=4
    ·obtain⟨⟨r,q⟩,⟨t,y⟩,H⟩:=DD v;have w:=azf _ r q;have E:=azf _ t y;rw [aB i,aB i,E0 v aA0,aX];by_cases a:(Da v).2.2.2=0
     ·rw [aB a,aB a,aU (cZ _ aA0 aA0),aU aE2,aU (cZ _ aA0 aA0),aU aB5,aU aA4,aU aA4];simp
     ·rw [aA a,aA a]
    ·rw [aA i,aA i];by_cases g:k=5
     ·obtain⟨r,q⟩:=Jq (cF v);rw [aB g,aB g,M7 v aA0,aX];by_cases a:(hZ (cF v)).2=0
      ·rw [aB a,aB a,aU (cZ _ aA0 aA0)]
      ·rw [aA a,aA a]
     ·rw [aA g,aA g];have e:(if k=(6:Int)then δ (decide (k=(6:Int)))else δ (decide (k=(7:Int))))=δ (decide (k=6\/k=7)):=by
       by_cases b:k=6
       ·rw [aB b,aK b,aK (.inl b)]
       ·rw [aA b];congr 1;rw [eA];exact⟨.inr,λh=>h.resolve_left b⟩
      rw [e,aX];by_cases b:k=6\/k=7
      ·rw [aK b,aQ,aB b,Zi v aA0,aX];by_cases a:(jS v).2=0
       ·obtain⟨v1,s⟩:=PN v aA0;have u:=Fc v;rw [aB a,aB a,Yf _ aA0 aA0 (λp f=>by have:=s p f;omega),aX]
       ·rw [aA a,aA a]
      ·have D:=IF v;rw [aL b,aH,aA b,mM v aA0,aX,Lx _ aA0,aX];unfold DE;by_cases a:(cF v).any eO=ζ
       ·rw [aB a,aB a];rfl
       ·rw [aA a,aA a,aB rfl]
theorem bm(a:aC×UInt8)(d:List aC×UInt8)(n:aM d.1<=4194304)(r:List aC):∀P c,aM P+aM r=aM d.1->aM r<c->(∀x∈r,aM x<=4190000)->
  aod FU a d c (P++r) (γ P)=δ (if(rW (Pv a.1) (GW a.1) r).2=0 then .inl (P++(rW (Pv a.1) (GW a.1) r).1)else .inr ([],(rW (Pv a.1) (GW a.1) r).2)):=by
 induction r with
 |nil=>intro P c h i hx;obtain⟨c,rfl⟩:=cS c;rw [fT]at h;rw [azm,aqv,aA aA0];rfl
 |cons x r j=>
  intro P c h i hx;obtain⟨c,rfl⟩:=cS c;rw [bX]at h i;have g:γ (P++x::r)=aM P+(aM r+1):=by rw [bP,bX]
  have b:0<=(aM P:Int)/\(aM P:Int)<(γ (P++x::r):Int):=aA0;have m:el (P++x::r) (aM P:Int)=x:=aF0;rw [azm,aqv,aB aA0,aU b,aU b,m,BZ _ x (hx x fE),aX,aU b,aU b,rW];by_cases f:(hC (Pv a.1) (GW a.1) x).2=0
  ·have l:gQ (P++x::r) (bF (aM P:Int)) (hC (Pv a.1) (GW a.1) x).1=(P++[(hC (Pv a.1) (GW a.1) x).1])++r:=by simp
   have:=j (P++[(hC (Pv a.1) (GW a.1) x).1]) c aB5 aA0 (λy k=>hx y (eT _ k));rw [show(γ (P++[(hC (Pv a.1) (GW a.1) x).1]):Int)=(aM P:Int)+1 by rw [bP];rfl]at this;rw [aB f,aB f,aU (cZ _ aA0 aA0),l,this];by_cases e:(rW (Pv a.1) (GW a.1) r).2=0
   ·rw [aB e,aB e,gH];rfl
   ·rw [aA e,aA e,aA e]
  ·rw [aA f,aA f,aA f]
def So(nm v:aC):aC×UInt8:=if(eQ nm).2=0 then Fv (My (eQ nm).1) (Pv (eQ nm).1) (GW (eQ nm).1) v else([],5)
theorem Ok(nm v:aC)(j:aM nm<=4194304)(g:aM v<=1100000):aph FU nm v=δ (So nm v):=by
 unfold aph So;rw [ls nm aA0,aX];by_cases d:(eQ nm).2=0
 ·rw [aB d,aB d,OX,aX];unfold Fv;cases k:My (eQ nm).1 with
  |false=>rw [yX,aQ,BZ _ v aA0,aX,aA aA1]
  |true=>
   obtain⟨f,e⟩:=I9 v;have hx:∀x∈(fF v).1,aM x<=4190000:=λx hx=>by have:=CD _ x hx;omega
   have:=bm (eQ nm) (fF v) aA0 (fF v).1 [] FU aA2 aA6 hx;have a:aod FU _ _ FU (fF v).1 0=_:=this;have i:=NA (Pv (eQ nm).1) (GW (eQ nm).1) (fF v).1 (λx h=>by have:=hx x h;omega);rw [iN,aH,J7 v aA0,aX,aB rfl];by_cases c:(fF v).2=0
   ·rw [aB c,aB c,a,aX];by_cases b:(rW (Pv (eQ nm).1) (GW (eQ nm).1) (fF v).1).2=0
    ·have l:=Xi _ _ _ b;have m:=ET (rW (Pv (eQ nm).1) (GW (eQ nm).1) (fF v).1).1;rw [aB b,aB b,yR,vX,aU (by constructor<;>omega)]
    ·rw [aA b,aA b,eF]
   ·rw [aA c,aA c]
 ·rw [aA d,aA d]
theorem pN(x:aC)(h:cF x=x):(∀c,x.head? =δ c->bY c=η)/\QX x:=by
 refine⟨λc b=> ?_,λc b=> ?_⟩
 ·cases x with
  |nil=>cases b
  |cons a x=>
   obtain rfl:=aJ b;cases e:bY a with
   |false=>rfl
   |true=>have g:cF (a::x)=cF x:=Ku [a] x (by simp [e]);have f:=IF x;rw [<-g,h,bX]at f;omega
 ·rcases wQ x with rfl|⟨y,a,rfl⟩
  ·cases b
  ·rw [wS]at b h;have d:a=c:=by rw [Y5]at b;exact aJ b
   rw [<-d];cases e:bY a with
   |false=>rfl
   |true=>have g:cF (y++[a])=cF y:=Th y [a] (by simp [e]);have f:=IF y;rw [<-g,h,bP,fD]at f;omega
theorem Nr:∀(l:List aC) (a:aC),(∀x∈a::l,Cl x/\cF x=x/\x≠[])->(cY (a::l) [44,32]).any eO=η/\(cY (a::l) [44,32]).head? =a.head? /\cY (a::l) [44,32]≠[]/\QX (cY (a::l) [44,32])
 |[],a,h=>by obtain⟨e,f,d⟩:=h a fE;rw [gx];exact⟨e.2,rfl,d,(pN a f).2⟩
 |b::l,a,h=>by
  obtain⟨e,f,d⟩:=h a fE;obtain⟨j,k,i,g⟩:=Nr l b λx hx=>h x (eT _ hx);rw [ye];refine⟨?_, ?_,by simp [d],z8 _ _ aA2 (z8 _ _ i g)⟩
  ·rw [gR,e.2,gR,j];decide
  ·cases a with
   |nil=>exact absurd rfl d
   |cons c a=>rfl
theorem BX(many:Bool)(k:Int)(ct:Bool)(o:many=ζ->DX k)(v:aC)(h:(Fv many k ct v).2=0)(b:γ (Fv many k ct v).1<=1024):cF (Fv many k ct v).1=(Fv many k ct v).1/\(Fv many k ct v).1.any eO=η:=by
 cases many with
 |false=>have e:Fv η k ct v=hC k ct v:=aA aA1;rw [e]at h b⊢;exact(Kw k ct v h b).2.1
 |true=>
  by_cases f:(fF v).2=0
  ·by_cases d:(rW k ct (fF v).1).2=0
   ·have e:Fv ζ k ct v=(cY (rW k ct (fF v).1).1 [44,32],0):=by unfold Fv;rw [aB rfl,aB f,aB d]
    rw [e]at b⊢;dsimp only at b⊢;obtain⟨q,i⟩:=Kx k ct (o rfl) (fF v).1 d (λx hx=>lE (pZ _ _ x hx) b);generalize(rW k ct (fF v).1).1=g at i⊢;cases g with
    |nil=>exact⟨rfl,rfl⟩
    |cons a g=>obtain⟨n,m,p,l⟩:=Nr g a i;refine⟨V5 _ (λc j=> ?_) l,n⟩;rw [m]at j;exact(pN a (i a fE).2.1).1 c j
   ·have e:Fv ζ k ct v=([],(rW k ct (fF v).1).2):=by unfold Fv;rw [aB rfl,aB f,aA d]
    rw [e]at h;exact absurd h d
  ·have e:Fv ζ k ct v=([],(fF v).2):=by unfold Fv;rw [aB rfl,aA f]
   rw [e]at h;exact absurd h f
theorem BY(nm v:aC)(h:(So nm v).2=0)(b:γ (So nm v).1<=1024):So nm (So nm v).1=((So nm v).1,0)/\cF (So nm v).1=(So nm v).1/\(So nm v).1.any eO=η:=by
 unfold So at h b⊢;by_cases c:(eQ nm).2=0
 ·rw [aB c]at h b⊢;rw [aB c];exact⟨IY _ _ _ (λa=>Un _ a) v h aA0,BX _ _ _ (λa=>Un _ a) v h b⟩
 ·rw [aA c]at h;exact absurd h (show¬(5:UInt8)=0 by decide)
open List renaming isPrefixOf → Sz, length → aM
def eW(y:aC):aC:=45::45::y
def BC(R:aC):aC:=(fK R [45,45]).dropWhile bY
def dOk(R:aC):Bool:=decide (BC R=[])||fW (BC R) [13,10]
def iX(h:aC×aC):aC:=(h.1++58::32::h.2)++[13,10]
def eX(l:cD):aC:=l.flatMap iX
theorem mN(p s:aC)(h:fW s p=ζ):∃r,s=p++r:=by obtain⟨r,a⟩:=dI.1 (show Sz p s=ζ from h);exact⟨r,a.symm⟩
theorem Aa(p r:aC):fW (p++r) p=ζ:=dI.2 ⟨r,rfl⟩
theorem Xg(p r:aC):fK (p++r) p=r:=by unfold fK;rw [Aa];simp
theorem ZP(p r:aC)(h:fW r p=η):fK r p=r:=by unfold fK;rw [h];simp
theorem S5(R:aC)(h:dOk R=ζ):∀c,(R.dropWhile cA).head? =δ c->c=32\/c=9\/c=13:=by
 have key:∀S:aC,(decide (S.dropWhile bY=[])||fW (S.dropWhile bY) [13,10])=ζ->∀c,(S.dropWhile cA).head? =δ c->c=32\/c=9\/c=13:=by
  intro S f c b;cases S with
  |nil=>cases b
  |cons a S=>
   cases d:bY a with
   |true=>
    have j:cA a=η:=by revert d;exact dS (λa=>bY a=ζ->cA a=η) aA3 a
    rw [iM,j]at b;obtain rfl:=aJ b;revert d;exact dS (λa=>bY a=ζ->a=32\/a=9\/a=13) aA3 a
   |false=>rw [iM,d]at f;simp only [Bool.false_eq_true,oZ,List.cons_ne_nil,decide_false,dX]at f;obtain⟨r,i⟩:=mN _ _ f;obtain rfl:a=13:=(bG i).1;rw [iM,show cA 13=η by decide]at b;exact .inr (.inr (aJ b).symm)
 unfold dOk BC at h;cases g:fW R [45,45]with
 |false=>rw [ZP _ _ g]at h;exact key R h
 |true=>obtain⟨S,rfl⟩:=mN _ _ g;rw [Xg]at h;have e:([45,45]++S).dropWhile cA=S.dropWhile cA:=Pb cA [45,45] S aA1;rw [e];exact key S h
theorem fj(y nm w R:aC)(b:y.all cA=ζ)(c:nm.all cA=ζ)(h:nm++58::w=eW y++R)(e:dOk R=ζ):False:=by
 have a:=aV (λs=>s.dropWhile cA) h;have d:(eW y).all cA=ζ:=by unfold eW;rw [Gf,Gf,b];decide
 rw [Pb cA nm _ c,Pb cA (eW y) _ d,iM,show cA 58=η by decide]at a;rcases S5 R e 58 (by rw [<-a];rfl)with h|h|h<;>exact absurd h aA1
theorem GZ(P Z A W:aC)(g:∀c∈P,c≠13)(h:P++13::Z=A++13::W):∃f,A=P++f/\13::Z=f++13::W:=by
 rcases gO.1 h with⟨a,d,e⟩|⟨a,d,e⟩
 ·exact⟨a,d,e⟩
 ·cases a with
  |nil=>rw [fI]at d;exact⟨[],by rw [d];simp,by simpa using e.symm⟩
  |cons b a=>have:(13:UInt8)=b:=(bG e).1;exact absurd this.symm (g b aD1)
theorem OU(y body d R:aC)(g:∀c∈eW y,c≠13)(h:body++13::d=eW y++R):∃Z,body=eW y++Z:=by
 rcases gO.1 h with⟨a,e,f⟩|⟨a,e,f⟩
 ·cases a with
  |nil=>exact⟨[],by simpa using e.symm⟩
  |cons b a=>have:(13:UInt8)=b:=(bG f).1;exact absurd this.symm (g b aF5)
 ·exact⟨a,e⟩
def Mu(h:aC×aC):Prop:=eP h.1=ζ/\∀c∈h.2,c≠13
theorem IX(h:s.all cA=ζ):∀c∈s,c≠13:=λc a e=>by have:=aT.1 h c a;rw [e]at this;exact absurd this aA1
theorem PZ(h:aC×aC)(b:Mu h):∀c∈h.1++58::32::h.2,c≠13:=λc d=>by
 rcases aR.1 d with a|a
 ·exact IX (Rc b.1).2 c a
 ·rcases aP.1 a with a|a
  ·rw [a];decide
  ·rcases aP.1 a with a|a
   ·rw [a];decide
   ·exact b.2 c a
theorem lv(h:aC×aC)(a:cD)(Z:aC):eX (h::a)++Z=(h.1++58::32::h.2)++13::10::(eX a++Z):=by unfold eX iX;rw [rZ];simp
theorem Mc(y:aC)(s:eP y=ζ)(body g:aC)(o:∀Z,body≠eW y++Z)(n:∀A Z,body≠A++13::10::(eW y++Z))(R:aC)(z:dOk R=ζ):∀(l:cD) (A:aC),(∀h∈l,Mu h)->13::10::(eX l++13::10::(body++13::10::g))=A++13::10::(eW y++R)->aM A<γ (eX l)+aM body+4->False
 |[],A,_,h,q=>by
  have w:∀c∈eW y,c≠13:=IX (by unfold eW;rw [Gf,Gf,(Rc s).2];decide)
  match A,h with
  |[],h=>exact absurd (bG (bG (bG h).2).2).1 aA1
  |[a],h=>exact absurd (bG (bG h).2).1 aA1
  |[_,_],h=>have f:=(bG (bG h).2).2;have p:=(bG (bG f).2).2;obtain⟨Z,t⟩:=OU y body _ R w p;exact o Z t
  |[_,_,a],h=>have f:=(bG (bG h).2).2;exact absurd (bG (bG f).2).1 aA1
  |_::_::a::b::A,h=>
   have f:=(bG (bG h).2).2;have p:body++13::10::g=A++13::10::(eW y++R):=(bG (bG f).2).2;have j:aM A<aM body:=by simp only [eX,yO,fT,bX]at q;omega
   rcases gO.1 p with⟨B,i,k⟩|⟨B,i,k⟩
   ·rw [i,bP]at j;omega
   ·match B,i,k with
    |[],i,k=>rw [i]at j;simp at j
    |[b],i,k=>exact absurd (bG (bG k).2).1 aA1
    |b::d::B,i,k=>obtain⟨E,u⟩:=bG k;obtain⟨D,C⟩:=bG u;obtain⟨Z,t⟩:=OU y B _ R w C.symm;exact n A Z (by rw [i,t,<-E,<-D])
 |r::l,A,v,h,q=>by
  have m:=v r fE;rw [lv]at h
  match A,h with
  |[],h=>have f:=(bG (bG h).2).2;rw [gH]at f;exact fj y r.1 _ R (Rc s).2 (Rc m.1).2 f z
  |[a],h=>have f:=(bG h).2;exact absurd (bG f).1 aA1
  |_::_::A,h=>have f:=(bG (bG h).2).2;obtain⟨F,p,u⟩:=GZ _ _ A _ (PZ r m) f;refine Mc y s body g o n R z l F (λx hx=>v x (eT _ hx)) u ?_;have e:=aV aM (lv r l []);rw [p]at q;simp only [bP,bX,fT,fI]at q e;omega
theorem FL(body:aC):∀(b:cD) (A Z:aC),b≠[]->(∀h∈b,Mu h)->eX b++13::10::body=A++13::10::13::10::Z->γ (eX b)<=aM A+2
 |[],A,Z,d,_,_=>absurd rfl d
 |n::b,A,Z,_,k,h=>by
  have j:=k n fE;have e:=aV aM (lv n b []);simp only [bP,bX,fT,fI]at e;rw [lv]at h;obtain⟨q,o,f⟩:=GZ _ _ A _ (PZ n j) h;rw [o];cases b with
  |nil=>simp only [eX,yO,fT,bP,bX]at*;omega
  |cons m b=>
   match q,f with
   |[],f=>
    have i:=(bG (bG f).2).2;rw [lv]at i;have g:=k m aA2;have d:=(Rc g.1).1;cases l:m.1 with
    |nil=>exact absurd l d
    |cons c nm=>rw [l]at i;have:c=13:=(bG i).1;exact absurd this (IX (Rc g.1).2 c (by rw [l];simp))
   |[a],f=>exact absurd (bG (bG f).2).1 aA1
   |_::_::p,f=>have i:=(bG (bG f).2).2;have:=FL body (m::b) p Z aA2 (λx hx=>k x (eT _ hx)) i;simp only [bP,bX]at*;omega
theorem HF:∀c:UInt8,qS c≠[]->eQ (qS c)=(qS c,0):=dS _ aA3
theorem Pp:∀n∈W6,eQ n=(n,0):=aA3
theorem pQ(y:aC):∀(l:List aC) {q},nL l y=δ (.inr q)->q.1∈l/\q.2=0
 |[],q,h=>by cases h
 |n::l,q,h=>by
  unfold nL at h;split at h
  ·cases h;exact⟨fE,rfl⟩
  ·have:=pQ y l h;exact⟨eT _ this.1,this.2⟩
theorem va:∀c:UInt8,cA (HI c)=cA c:=dS _ aA3
theorem bj:∀c:UInt8,cA (gB c)=cA c:=dS _ aA3
theorem be:∀c:UInt8,(HI c==45)=(c==45):=dS _ aA3
theorem upup:∀c:UInt8,HI (HI c)=HI c:=dS _ aA3
theorem J2:∀c:UInt8,gB (gB c)=gB c:=dS _ aA3
theorem qb:∀c:UInt8,gB (HI c)=gB c:=dS _ aA3
theorem Dl:∀(l:aC) (f:Bool),γ (Kd f l)=γ l
 |[],_=>rfl
 |c::l,f=>by rw [Kd,bX,bX,Dl l]
theorem Ti:∀(l:aC) (f:Bool),(Kd f l).all cA=l.all cA
 |[],_=>rfl
 |c::l,f=>by
  rw [Kd,Gf,Gf,Ti l];cases f
  ·rw [aA aA1,bj]
  ·rw [aB rfl,va]
theorem Gn:∀(l:aC) (f:Bool),dR (Kd f l)=dR l
 |[],_=>rfl
 |c::l,f=>by
  have:=Gn l (c==45);simp only [dR]at this⊢;rw [Kd,yS,yS,this];cases f
  ·rw [aA aA1,J2]
  ·rw [aB rfl,qb]
theorem Gm:∀(l:aC) (f:Bool),Kd f (Kd f l)=Kd f l
 |[],_=>rfl
 |c::l,f=>by
  have:=Gm l (c==45);cases f
  ·simp only [Kd,aA (show¬(η=ζ)by decide),J2,low45,this]
  ·simp only [Kd,iL,upup,be,this]
theorem FA(l:aC)(f:Bool):eP (Kd f l)=eP l:=by unfold eP;rw [Ti];cases l<;>rfl
theorem qF(s:aC)(h:(eQ s).2=0):eQ (eQ s).1=((eQ s).1,0):=by
 by_cases f:eP s=η\/64<γ s
 ·have e:eQ s=([],5):=by unfold eQ;rw [aB f]
  rw [e]at h;exact absurd h aA1
 ·by_cases d:γ s=1/\qS (gB (at_ s 0))≠[]
  ·have e:eQ s=(qS (gB (at_ s 0)),0):=by unfold eQ;rw [aA f,aB d]
   rw [e];exact HF _ d.2
  ·have e:eQ s=((ajp FU (dR s) FU 0).getD (.inl ())).elim (λ_=>(Kd ζ s,0)) id:=by unfold eQ;rw [aA f,aA d]
   obtain⟨r,g⟩:=aya (dR s) W6;rw [azy,g,HQ]at e;cases r with
   |inr q=>have i:=pQ _ _ g;have e':eQ s=q:=e;rw [e',Pp q.1 i.1]
   |inl u=>
    have e':eQ s=(Kd ζ s,0):=e;rw [e'];have k:¬(eP (Kd ζ s)=η\/64<γ (Kd ζ s)):=by rw [FA,Dl];exact f
    have j:¬(γ (Kd ζ s)=1/\qS (gB (at_ (Kd ζ s) 0))≠[]):=by
     rintro⟨a,b⟩;rw [Dl]at a
     match s,a with
     |[c],_=>exact d ⟨rfl,λx=>b (by show qS (gB (HI c))=[];rw [qb];exact x)⟩
    unfold eQ;rw [aA k,aA j,Gn,Gm,azy,g];rfl
theorem LF(s:aC)(h:(eQ s).2≠0):eQ s=([],5):=by
 by_cases a:eP s=η\/64<γ s
 ·unfold eQ;rw [aB a]
 ·exfalso;apply h;by_cases c:γ s=1/\qS (gB (at_ s 0))≠[]
  ·unfold eQ;rw [aA a,aB c]
  ·have e:eQ s=((ajp FU (dR s) FU 0).getD (.inl ())).elim (λ_=>(Kd ζ s,0)) id:=by unfold eQ;rw [aA a,aA c]
   obtain⟨r,b⟩:=aya (dR s) W6;rw [azy,b,HQ]at e;rw [e];cases r with
   |inr q=>exact(pQ _ _ b).2
   |inl u=>rfl
abbrev PL:=dO
theorem jn(l:PL)(q:PL):∀(p:PL) (d:Nat) (n:Int),l=p++q->21<d+aM p->aM p<=20->0<=n->n<=100*(aM p:Int)->
  ∃j,aoa FU l d n (aM p:Int)=δ j/\(∀b,j=.inr b->b=η)/\∀m,j=.inl m->aM l<=20->∀x∈q,aM x.1<=100/\γ x.2<=20000:=by
 induction q with
 |nil=>intro p d n h u s B A;obtain⟨d,rfl⟩:=cS d;refine⟨.inl n, ?_,λ_ c=>(by cases c),λ_ _ _ x hx=>by cases hx⟩;rw [awg,apw,aA aA5,aX,aH]
 |cons a q r=>
  intro p d n h u s B A;obtain⟨d,rfl⟩:=cS d;have g:=aV aM h;simp only [bP,bX]at g;have c:(0:Int)<=(aM p:Int)/\(aM p:Int)<(aM l:Int):=aA0;have v:el l (aM p:Int)=a:=aB3;have t:((aM p:Int)+1)=(γ (p++[a]):Int):=aA2;rw [awg,apw,aB c.2,aX,aU c,aU c,aU c,aU c,v];by_cases f:(aM p:Int)<20
  ·rw [aK f,aQ];by_cases o:(100:Int)<(aM a.1:Int)
   ·rw [aB o,aX,aQ];exact⟨_,rfl,λb c=>(by cases c;rfl),λm e=>by cases e⟩
   ·rw [aA o,aX];by_cases k:(20000:Int)<(aM a.2:Int)
    ·rw [aK k,aQ];exact⟨_,rfl,λb c=>(by cases c;rfl),λm e=>by cases e⟩
    ·obtain⟨j,z,w,y⟩:=r (p++[a]) d (n+(aM a.1:Int)) aA5 aA4 aA4 aA0 aA4;rw [aL k,aH,aU c,aU c,aU (cZ _ aA0 aA0),aU (cZ _ aA0 aA0),t,z];refine⟨j,rfl,w,λm e i x hx=> ?_⟩;rcases aP.1 hx with rfl|hx
     ·omega
     ·exact y m e i x hx
  ·rw [aL f,aH];exact⟨_,rfl,λb c=>(by cases c),λm _ i=>by omega⟩
theorem ze(l:PL):∃b,azl FU l=δ b/\(b=ζ->aM l<=20/\∀x∈l,aM x.1<=100/\γ x.2<=20000):=by
 obtain⟨j,f,d,e⟩:=jn l l [] FU 0 rfl (by rw [eZ];decide) aA2 aA0 aA2;have c:aoa FU l FU (0:Int) (0:Int)=δ j:=f;unfold azl;rw [c,aX];cases j with
 |inr b=>refine⟨b,rfl,λa=> ?_⟩;rw [d b rfl]at a;cases a
 |inl m=>
  show∃b,((if(aM l:Int)<=20 then δ (decide (m<=200))else δ η).bind λv=>δ v)=δ b/\_;by_cases h:(aM l:Int)<=20
  ·rw [aB h];exact⟨_,rfl,λ_=>⟨aA0,e m rfl aA0⟩⟩
  ·rw [aA h];exact⟨_,rfl,λa=>by cases a⟩
open Go.Lib renaming hasPrefix → fW, index → cK
open List renaming length → aM, replicate → fH, set → gQ
open Option renaming bind → pG
abbrev PU:=cD×List UInt8
def fQ{d c:Type}(f:d->Option c):List d->Option (List c)
 |[]=>δ []
 |a::l=>(f a).bind λb=>(fQ f l).map (b::·)
theorem RG{g d:Type}(f:g->Option d):∀l m,fQ f l=δ m->aM m=aM l/\∀y∈m,∃x∈l,f x=δ y
 |[],m,h=>by cases h;exact⟨rfl,λy c=>by cases c⟩
 |a::l,m,h=>by
  rw [fQ,iR]at h;obtain⟨b,p,o⟩:=h;obtain⟨n,k,rfl⟩:=bT.1 o;obtain⟨j,i⟩:=RG f l n k;refine⟨by simp [j],λy c=> ?_⟩;rcases aP.1 c with rfl|c
  ·exact⟨a,fE,p⟩
  ·obtain⟨x,hx,e⟩:=i y c;exact⟨x,eT _ hx,e⟩
theorem Yv{b:Type}(f:b->Option b):∀l:List b,(∀x∈l,f x=δ x)->fQ f l=δ l
 |[],_=>rfl
 |a::l,h=>by rw [fQ,h a fE,Yv f l (λx hx=>h x (eT _ hx))];rfl
theorem vD(s:aC)(h:(eQ s).2=0):γ (eQ s).1<=64:=by
 have e:=qF s h;by_cases a:64<γ (eQ s).1
 ·have b:eQ (eQ s).1=([],5):=by rw [eQ,aB (Or.inr a)]
  rw [b]at e;exact absurd (aV Prod.snd e) (show¬(5=0)by decide)
 ·omega
def eu(nm v:aC):Option (aC×aC):=if γ v<=1024/\(So nm v).2=0/\γ (So nm v).1<=1024 then δ (nm,(So nm v).1)else ε
def KB(h:aC×aC):Option (aC×aC):=if(eQ h.1).2=0 then eu (eQ h.1).1 h.2 else ε
def zZ(x:PU):Option PU:=if γ x.1<=64 then(fQ KB x.1).map (·,x.2)else ε
theorem JU(nm v:aC)(c:aM nm<=4194304):∃r,aje FU nm v=δ r/\((r.2=0/\eu nm v=δ r.1)\/(¬r.2=0/\eu nm v=ε)):=by
 unfold aje eu;by_cases h:1024<(aM v:Int)
 ·rw [aB h,aA aA0];exact⟨_,rfl,.inr ⟨aA1,rfl⟩⟩
 ·rw [aA h,Ok nm v c aA0,aX];by_cases a:(So nm v).2=0
  ·rw [aB a];by_cases b:1024<(γ (So nm v).1:Int)
   ·rw [aB b,aA aA0];exact⟨_,rfl,.inr ⟨aA1,rfl⟩⟩
   ·rw [aA b,aB ⟨aA0,a,aA0⟩];exact⟨_,rfl,.inl ⟨rfl,rfl⟩⟩
  ·rw [aA a,aA (λh=>a h.2.1)];exact⟨_,rfl,.inr ⟨a,rfl⟩⟩
def tdJ(a:cD):Option cD->cD⊕(PU×Bool)
 |some l=>.inl (a++l)
 |none=>.inr (([],[]),η)
theorem bq(d:PU)(y:aM d.1<=64)(s:∀h∈d.1,aM h.1<=4194304)(q:cD):∀p c b,d.1=p++q->aM q<c->aM b<=aM p->
  alc FU d c (γ p) b=δ (tdJ b (fQ KB q)):=by
 induction q with
 |nil=>intro p c b h l v;obtain⟨c,rfl⟩:=cS c;rw [awz,anf,aA aA5];simp [fQ,tdJ]
 |cons a q n=>
  intro p c b h l v;obtain⟨c,rfl⟩:=cS c;have g:=aV aM h;simp at g l;have i:0<=(aM p:Int)/\(aM p:Int)<(aM d.1:Int):=aA0;have u:el d.1 (aM p:Int)=a:=aB3;have t:((aM p:Int)+1)=(γ (p++[a]):Int):=aA2;have o:=s a aA5;rw [awz,anf,aB i.2,aU i,aU i,u,ls _ aA0,aX,fQ];by_cases f:(eQ a.1).2=0
  ·obtain⟨r,x,w⟩:=JU (eQ a.1).1 a.2 (by have:=vD _ f;omega);have e:KB a=eu (eQ a.1).1 a.2:=aB f;rw [aB f,x,aX];rcases w with⟨k,j⟩|⟨k,j⟩
   ·rw [aB k,aU aA4,aU (cZ _ aA0 aA0),t,n _ c _ aA5 aA0 aA4,e,j];cases fQ KB q with
    |none=>rfl
    |some m=>simp [tdJ]
   ·rw [aA k,e,j];rfl
  ·have e:KB a=ε:=aA f;rw [aA f,e];rfl
def tdR:Option PU->PU×Bool
 |some q=>(q,ζ)
 |none=>(([],[]),η)
theorem ZW(a:PU)(c:∀h∈a.1,aM h.1<=4194304)(e:aM a.2<=1000000):aof FU a=δ (tdR (zZ a)):=by
 unfold aof zZ;by_cases h:64<(aM a.1:Int)
 ·rw [aB h,aA aA0];rfl
 ·have d:=bq a aA0 c a.1 [] FU [] rfl aA6 aA2;have b:alc FU a FU 0 []=δ _:=d;rw [aA h,aU aA0,b,aB aA0];cases fQ KB a.1 with
  |none=>rfl
  |some m=>rfl
def jnJ(a:PL):Option PL->PL⊕(List UInt8×UInt8)
 |some l=>.inl (a++l)
 |none=>.inr ([],2)
theorem gw(parts:PL)(u:aM parts<=8)(n:∀x∈parts,(∀h∈x.1,aM h.1<=4194304)/\γ x.2<=1000000)(q:PL):∀p c b,parts=p++q->aM q<b->aM c=aM p->
  ain FU parts b (c++fH (γ q) ([],[])) (γ p)=δ (jnJ c (fQ zZ q)):=by
 induction q with
 |nil=>intro p c b h j g;obtain⟨b,rfl⟩:=cS b;rw [ato,amj,aA aA5];simp [fQ,jnJ]
 |cons a q l=>
  intro p c b h j g;obtain⟨b,rfl⟩:=cS b;have f:=aV aM h;simp at f j;have i:(0:Int)<=(aM p:Int)/\(aM p:Int)<(aM parts:Int):=aA0;have s:el parts (aM p:Int)=a:=aB3;have o:((aM p:Int)+1)=(γ (p++[a]):Int):=aA2;have k:=n a aA5;rw [ato,amj,aB i.2,aU i,aU i,s,ZW a k.1 k.2,fQ];cases t:zZ a with
  |none=>rfl
  |some r=>
   have e:(0:Int)<=(aM p:Int)/\(aM p:Int)<(γ (c++fH (γ (a::q)) (([],[]):PU)):Int):=aA4;have d:gQ (c++fH (γ (a::q)) (([],[]):PU)) (bF (aM p:Int)) r=(c++[r])++fH (γ q) ([],[]):=by rw [<-g,bX,Hx];simp
   show gd _ (gd _ (gd _ _))=_;rw [aU e,aU e,aU (cZ _ aA0 aA0)];show ain FU parts b (gQ _ _ r) _=_;rw [d,o,l (p++[a]) (c++[r]) b aA5 aA0 (by simp [g])];cases fQ zZ q with
   |none=>rfl
   |some m=>simp [jnJ]
theorem M5(s p:aC):aii FU s p=δ (fW s p):=by
 unfold aii ayl;cases h:fW s p with
 |true=>obtain⟨r,rfl⟩:=mN _ _ h;rw [aB aC1,aU ⟨aA0,by rw [bP];omega⟩,iO,Qy,aK rfl];rfl
 |false=>
  by_cases a:aM p<=(aM s:Int)
  ·rw [aB a,aU aA0,iO,aL]
   ·rfl
   ·intro e;have:=IL (γ p) s;rw [e]at this;rw [<-this,Aa]at h;cases h
  ·rw [aA a];rfl
def Pc(y body:aC):Bool:=fW body (eW y)|| !decide (cK body (13::10::eW y)= -1)
theorem gv(y:aC)(o:aM y<=70)(v:PL)(r:aM v<=8)(n:∀x∈v,aM x.2<=1000000)(q:PL):∀p b,v=p++q->aM q<b->
  aim FU y v b (γ p)=δ (if q.any (λx=>Pc y x.2)=ζ then .inr ([],7)else .inl ()):=by
 induction q with
 |nil=>intro p b h i;obtain⟨b,rfl⟩:=cS b;rw [atn,ami,aA aA5];rfl
 |cons a q j=>
  intro p b h i;obtain⟨b,rfl⟩:=cS b;have g:=aV aM h;simp at g i;have c:(0:Int)<=(aM p:Int)/\(aM p:Int)<(aM v:Int):=aA0;have l:el v (aM p:Int)=a:=aB3;have s:=n a aA5;have k:((aM p:Int)+1)=(γ (p++[a]):Int):=aA2
  have m:((aii FU a.2 (([45,45]:aC)++y)).bind λ(f:Bool)=>(bif f then δ ζ else(gd (0<γ (([45,45]:aC)++y)/\(γ ([(13:UInt8),(10:UInt8)]:List UInt8)+γ (([45,45]:aC)++y))*1<=140737488355328)<|((apx FU a.2 (([(13:UInt8),(10:UInt8)]:List UInt8)++(([45,45]:aC)++y))).bind λ(d:Bool)=>δ d))))=δ (Pc y a.2):=by
   rw [M5];have e:([45,45]:aC)++y=eW y:=rfl;unfold Pc;rw [e];cases fW a.2 (eW y)with
   |true=>rfl
   |false=>rw [aU (by unfold eW;simp;omega)];unfold apx;rw [aU (by unfold eW;simp;omega)];rfl
  rw [atn,ami,aB c.2,aU c,aU c,l,m,Re];cases Pc y a.2 with
  |true=>rfl
  |false=>rw [aU (cZ _ aA0 aA0),k,j _ b aA5 aA0];rfl
theorem PS(h:aC×aC)(a:cD):eX (h::a)=(((h.1++[58,32])++h.2)++[13,10])++eX a:=by unfold eX iX;simp
def H7(h:aC×aC):Prop:=aM h.1<=64/\γ h.2<=1024
theorem PT:∀a:cD,(∀h∈a,H7 h)->γ (eX a)<=aM a*1100
 |[],_=>cO _
 |h::a,b=>by have:=PT a (λx hx=>b x (eT _ hx));obtain⟨d,c⟩:=b h fE;rw [PS];simp;omega
theorem gr(v:PL)(X:Int)(e:cD)(j:(el v X).1=e)(t:aM e<=64)(l:∀h∈e,H7 h)(q:cD):∀p c b,e=p++q->aM q<c->aM b<=10000+aM p*1100->
  akp FU v X c b (γ p)=δ (b++eX q):=by
 induction q with
 |nil=>intro p c b h i n;obtain⟨c,rfl⟩:=cS c;rw [atl,amg,j,aA aA5];simp [eX]
 |cons a q k=>intro p c b h i n;obtain⟨c,rfl⟩:=cS c;have f:=aV aM h;simp at f i;have d:0<=(aM p:Int)/\(aM p:Int)<(aM e:Int):=aA0;have g:el e (aM p:Int)=a:=aB3;have m:((aM p:Int)+1)=(γ (p++[a]):Int):=aA2;obtain⟨s,r⟩:=l a aA5;have o:=k (p++[a]) c (b++(((a.1++[58,32])++a.2)++[13,10])) aA5 aA0 aA4;rw [atl,amg,j,aB d.2,aU d,aU d,g,aU aA4,aU aA4,aU aA4,aU aA4,aU (cZ _ aA0 aA0),m,o,PS,gH]
def Tu(y:aC)(x:PU):aC:=eW y++13::10::(eX x.1++13::10::(x.2++[13,10]))
def jnT(y:aC)(v:PL):aC:=v.flatMap (Tu y)++(eW y++[45,45,13,10])
def okU(x:PU):Prop:=aM x.1<=64/\∀h∈x.1,H7 h
theorem gu(y:aC)(B:aM y<=70)(v:PL)(C:aM v<=8)(t:∀x∈v,aM x.2<=1000000)(r:∀x∈v,okU x)(q:PL):∀p c b,v=p++q->aM q<c->aM b<=8192->
  akq FU y v c b (γ p)=δ (if 8192<γ (b++q.flatMap (Tu y)) then .inr ([],4)else .inl (b++q.flatMap (Tu y))):=by
 induction q with
 |nil=>intro p c b h j f;obtain⟨c,rfl⟩:=cS c;rw [atm,amh,aA aA5,yO,fI,aA aA0]
 |cons a q o=>
  intro p c b h j f;obtain⟨c,rfl⟩:=cS c;have e:=aV aM h;simp at e j;have d:(0:Int)<=(aM p:Int)/\(aM p:Int)<(aM v:Int):=aA0;have k:el v (aM p:Int)=a:=aB3;have l:a∈v:=aA5;have s:((aM p:Int)+1)=(γ (p++[a]):Int):=aA2;have u:=t a l;obtain⟨n,i⟩:=r a l;have A:=PT a.1 i;have w:=gr v (aM p:Int) a.1 (by rw [k]) n i a.1 [] FU (b++(([45,45]++y)++[13,10])) rfl aA6 aA4;have g:akp FU v (aM p:Int) FU (b++(([45,45]++y)++[13,10])) (0:Int)=δ ((b++(([45,45]++y)++[13,10]))++eX a.1):=w;have z:((((b++(([45,45]++y)++[13,10]))++eX a.1)++([13,10]:aC))++a.2)++([13,10]:aC)=b++Tu y a:=by unfold Tu eW;simp
  have eq:b++(a::q).flatMap (Tu y)=(b++Tu y a)++q.flatMap (Tu y):=by rw [rZ,gH]
  rw [atm,amh,aB d.2,aU d,aU d,aU aA4,aU aA4,aU aA4,g,aX,aU aA4,k,aU aA4,aU aA4,z,eq];by_cases m:(8192:Int)<(γ (b++Tu y a):Int)
  ·rw [aB m,aB aC1];rfl
  ·rw [aA m];show gd _ _=_;rw [aU (cZ _ aA0 aA0),s,o _ c _ aA5 aA0 aA0]
theorem LJ(y:aC)(a:aM y<=9223372036854775807):aoi FU y=δ (eP y&&decide (aM y<=70)):=by
 unfold aoi;rw [sn y a];cases eP y with
 |true=>simp;omega
 |false=>rfl
theorem Zl(h r:aC×aC)(e:KB h=δ r):H7 r/\(eQ h.1).2=0/\r.1=(eQ h.1).1/\(So r.1 h.2).2=0/\r.2=(So r.1 h.2).1/\γ h.2<=1024:=by
 unfold KB eu at e;split at e
 ·rename_i b;split at e
  ·rename_i a;obtain rfl:=aJ e;exact⟨⟨vD _ b,a.2.2⟩,b,rfl,a.2.1,rfl,a.1⟩
  ·cases e
 ·cases e
theorem sQ(x r:PU)(e:zZ x=δ r):r.2=x.2/\fQ KB x.1=δ r.1/\okU r:=by
 unfold zZ at e;split at e
 ·rename_i f;obtain⟨m,a,rfl⟩:=bT.1 e;obtain⟨g,d⟩:=RG _ _ _ a;refine⟨rfl,a,by dsimp only;omega,λh c=> ?_⟩;obtain⟨z,_,b⟩:=d h c;exact(Zl z h b).1
 ·cases e
def jnP (l : PL) (y : aC) : aC × UInt8 :=
  if (eP y = ζ /\ γ y <= 70) /\ 1 <= γ l /\ γ l <= 8 then
    (match fQ zZ l with
     | none => ([], 2)
     | some v => if v.any (λx => Pc y x.2) = ζ then ([], 7) else if 8192 < γ (jnT y v) then ([], 4) else (jnT y v, 0))
  else ([], 2)
theorem yd(y:aC)(B:aM y<=9223372036854775807)(l:PL)(s:∀x∈l,(∀h∈x.1,aM h.1<=4194304)/\γ x.2<=1000000):arz FU l y=δ (jnP l y):=by
 unfold arz jnP;rw [LJ y B];by_cases m:eP y=ζ/\γ y<=70
 ·obtain⟨j,a⟩:=m;rw [j,aK a];by_cases w:(aM l:Int)<1
  ·rw [aB w,aA aA0];rfl
  ·rw [aA w];by_cases u:(8:Int)<(aM l:Int)
   ·rw [aK u,aA aA0];rfl
   ·have G:=gw l aA0 s l [] [] FU rfl aA6 rfl;have p:ain FU l FU (fH (bF (aM l:Int)) ([],[])) (0:Int)=δ (jnJ [] (fQ zZ l)):=by rw [iO];exact G
    have D:∀(f:Type) (i:Decidable (0<=(aM l:Int)/\(48:Int)*(aM l:Int)<=281474976710656)) (k:Option f), @gd f _ i k=k:=λf i k=> @aU _ _ i _ ⟨aA0,aA0⟩;rw [aL u,D,p,aB ⟨⟨rfl,a⟩,aA0,aA0⟩];cases C:fQ zZ l with
    |none=>rfl
    |some v=>
     have H:jnJ [] (δ v)=.inl v:=rfl;rw [H];obtain⟨I,q⟩:=RG _ _ _ C;have b:∀x∈v,aM x.2<=1000000:=λx hx=>by obtain⟨z,r,e⟩:=q x hx;rw [(sQ z x e).1];exact(s z r).2
     have g:∀x∈v,okU x:=λx hx=>by obtain⟨z,r,e⟩:=q x hx;exact(sQ z x e).2.2
     have F:=gv y a v aA0 b v [] FU rfl aA6;have o:aim FU y v FU (0:Int)=_:=F;have E:=gu y a v aA0 b g v [] FU [] rfl aA6 aA2;have n:akq FU y v FU [] (0:Int)=_:=E;show gd _ (pG (aim FU y v FU (0:Int)) _)=_;rw [aU aA4,o];by_cases d:v.any (λx=>Pc y x.2)=ζ
     ·rw [aB d];dsimp only;rw [aB d];rfl
     ·rw [aA d];dsimp only;rw [aA d];rw [n,vX];have A:v.flatMap (Tu y)++((([45,45]:aC)++y)++([45,45,13,10]:aC))=jnT y v:=by unfold jnT eW;simp
      by_cases t:8192<γ (v.flatMap (Tu y))
      ·rw [aB t,aB (by rw [<-A,bP];omega)];rfl
      ·rw [aA t];show gd _ (gd _ (gd _ _))=_;rw [aU aA4,aU aA4,aU aC0,A];by_cases c:8192<γ (jnT y v)
       ·rw [aB aA0,aB c]
       ·rw [aA aA0,aA c]
 ·have:(eP y&&decide (aM y<=70))=η:=by
   cases h:eP y&&decide (aM y<=70)with
   |false=>rfl
   |true=>rw [hO,bD]at h;exact absurd h m
  rw [this];show δ (([]:List UInt8),(2:UInt8))=_;rw [aA (λh=>m h.1)]
open Go.Lib renaming hasPrefix → fW, index → cK, trimPrefix → fK
open List renaming drop → cG, isPrefixOf → Sz, length → aM
def xR(s:aC):Bool:=decide (s.drop (aM s-2)=[13,10])
theorem GN(t:aC):xR (t++[13,10])=ζ:=by unfold xR;rw [bP,show([13,10]:aC).length=2 from rfl,Nat.add_sub_cancel,Gg];exact aK rfl
theorem VK(s:aC)(h:xR s=ζ):∃t,s=t++[13,10]:=by have:=IL (aM s-2) s;rw [bU h]at this;exact⟨_,this.symm⟩
theorem JH(s:aC)(b:aM s<=1000000):agf FU s [13,10]=δ (xR s):=by
 unfold agf ahw xR;have a:((γ ([13,10]:aC):Nat):Int)=2:=rfl;rw [a];by_cases h:(2:Int)<=(aM s:Int)
 ·have e:bF ((aM s:Int)-2)=aM s-2:=by omega
  rw [aB h,aU ⟨aA0,aA0⟩,aU aA0,e];rfl
 ·rw [aA h,aL]
  ·rfl
  ·intro e;have:=aV aM e;rw [gZ]at this;simp only [bX,fT]at this;omega
theorem Ym(s p:aC):tg FU s p=δ (fW s p):=by have:=M5 s p;unfold aii ayl at this;unfold tg ahx;exact(aV (λo=>pG o δ) this).trans rfl
def S7(T y:aC)(a:Nat):Option (Int×Int×Bool):=
 if 0<a/\xR (T.take a)=η then ε
 else if BC (T.drop (a+(aM y+2)))=[]then δ ((a:Int),(aM T:Int),fW (T.drop (a+(aM y+2))) [45,45])
 else if fW (BC (T.drop (a+(aM y+2)))) [13,10]=ζ then δ ((a:Int),(aM T:Int)-(γ (BC (T.drop (a+(aM y+2)))):Int)+2,fW (T.drop (a+(aM y+2))) [45,45])
 else ε
def dRs(rec:Int->Option ((Int×Int×Bool)×Bool))(a:Nat):Option (Int×Int×Bool)->Option ((Int×Int×Bool)×Bool)
 |some d=>δ (d,ζ)
 |none=>rec ((a:Int)+1)
theorem QP(R:aC):γ (BC R)<=aM R:=by
 unfold BC;have b:=auq bY (fK R [45,45]);have a:γ (fK R [45,45])<=aM R:=by
  unfold fK;split
  ·rw [gZ];omega
  ·exact eK _
 omega
theorem OR(T y:aC)(x:aM T<=100000)(u:aM y<=100000)(rec:Int->Option ((Int×Int×Bool)×Bool))(b i:Nat)(h:b<=aM T)(n:cK (T.drop b) (eW y)=(i:Int))(l:b+i+(aM y+2)<=aM T):
  afe FU T y rec (b:Int)=dRs rec (b+i) (S7 T y (b+i)):=by
 have t:([45,45]:aC)++y=eW y:=rfl;have s:min (b:Int) (aM T:Int)=(b:Int):=aA0;have r:(b:Int)+(i:Int)=((b+i:Nat):Int):=aA0;have q:(γ (eW y):Int)=((aM y+2:Nat):Int):=rfl;unfold afe;simp only [t,s,iO,n,r,q];have p:((b+i:Nat):Int)+((aM y+2:Nat):Int)=((b+i+(aM y+2):Nat):Int):=aA0;simp only [p,iO];generalize b+i=a at l;have w:γ (T.drop b)<=aM T:=aB7
 have o:mi FU (fK (T.drop (a+(aM y+2))) [45,45]) 0=δ ((dN bY (fK (T.drop (a+(aM y+2))) [45,45]):Nat):Int):=by
  have v:γ (fK (T.drop (a+(aM y+2))) [45,45])<=aM T:=by
   unfold fK;split
   ·rw [gZ,gZ];omega
   ·rw [gZ];omega
  rw [oQ _ aA0,bbf]
 have k:dN bY (fK (T.drop (a+(aM y+2))) [45,45])<=γ (fK (T.drop (a+(aM y+2))) [45,45]):=by
  have:=rU bY (fK (T.drop (a+(aM y+2))) [45,45]) 0
  rwa [bbf]at this
 have m:cG (dN bY (fK (T.drop (a+(aM y+2))) [45,45])) (fK (T.drop (a+(aM y+2))) [45,45])=BC (T.drop (a+(aM y+2))):=bay _ _;have g:=QP (T.drop (a+(aM y+2)));rw [gZ]at g;have d:(((if(0:Int)<(a:Int)then(gd (0<=(a:Int)/\(a:Int)<=(aM T:Int))<|((agf FU (T.take a) ([13,10]:aC)).bind λ(c:Bool)=>δ (!c)))else δ η)))=δ (decide (0<a/\xR (T.take a)=η)):=by
  by_cases j:0<a
  ·rw [aB aA0,aU aA0,JH _ aC4,aX];cases xR (T.take a)<;>simp [j]
  ·rw [aA aA0,aL (λh=>j h.1)]
 rw [aU aA0,aU aA0,aA aA0,aU ⟨aA0,aA0⟩,d,aX];unfold S7;by_cases f:0<a/\xR (T.take a)=η
 ·rw [aB f,aK f,aQ,aU ⟨aA0,aA0⟩];rfl
 ·rw [aA f,aL f,aH,aU ⟨aA0,aA0⟩,aU aA0,o,aX,iO,aU aA0,m];by_cases e:BC (T.drop (a+(aM y+2)))=[]
  ·rw [aB e,aB e];rfl
  ·rw [aA e,aA e,Ym,aX];cases z:fW (BC (T.drop (a+(aM y+2)))) [13,10]with
   |true=>rw [aQ,aU ⟨aA0,aA0⟩,aU ⟨aA0,aA0⟩,aB rfl];rfl
   |false=>rw [aH,aU ⟨aA0,aA0⟩,aA aA1];rfl
theorem Mq(T p:aC)(a j:Nat):Lib.occAt (T.drop a) p j=Lib.occAt T p (a+j):=by unfold Lib.occAt;rw [MJ]
theorem OT(T y:aC)(x:aM T<=100000)(s:aM y<=100000)(n:Nat)(d:Int×Int×Bool)(g:Lib.occAt T (eW y) n=ζ)(w:S7 T y n=δ d):∀(m a c:Nat),n=a+m->m<c->(∀j,a<=j->j<n->Lib.occAt T (eW y) j=ζ->S7 T y j=ε)->ade FU T y c (a:Int)=δ (d,ζ):=by
 have b:∀j,Lib.occAt T (eW y) j=ζ->j+(aM y+2)<=aM T:=λj q=>by
  rcases Lib.occAt_room q with h|h
  ·exact h
  ·cases h
 intro m;induction m using Nat.strongRecOn with
 |ind m r=>
 intro a c k C f;obtain⟨c,rfl⟩:=cS c;have t:=b n g;have o:a<=aM T:=aA0;rcases Lib.index_spec (T.drop a) (eW y)with⟨_,A⟩|⟨i,B,_,p,z⟩
 ·have:=A m aB7;rw [Mq,<-k,g]at this;cases this
 ·rw [Mq]at p;have u:i<=m:=by
   rcases uB m i with h|h
   ·have:=z m h;rw [Mq,<-k,g]at this;cases this
   ·exact h
  rw [ake,OR T y x s _ a i o B (b _ p)];by_cases v:i=m
  ·rw [v,<-k,w];rfl
  ·rw [f (a+i) aA0 aA0 p];show ade FU T y c (((a+i:Nat):Int)+1)=_;have e:((a+i:Nat):Int)+1=((a+i+1:Nat):Int):=by omega
   rw [e];exact r (m-i-1) aA0 (a+i+1) c aA0 aA0 (λj q l=>f j aA0 l)
theorem dTl_cr(Z:aC):BC (13::10::Z)=13::10::Z:=by unfold BC;rw [ZP _ _ (by simp [fW,Sz])];rfl
theorem dTl_hy(Z:aC):BC (45::45::13::10::Z)=13::10::Z:=by unfold BC;have:(45::45::13::10::Z:aC)=[45,45]++13::10::Z:=rfl;rw [this,Xg];rfl
def lO(last:Bool)(Z:aC):aC:=bif last then 45::45::13::10::Z else 13::10::Z
theorem QQ(A y Z:aC)(last:Bool)(d:A=[]\/∃t,A=t++[13,10]):S7 (A++(eW y++lO last Z)) y (γ A)=δ ((aM A:Int),((aM A+(aM y+2)+(bif last then 4 else 2):Nat):Int),last):=by
 have b:(A++(eW y++lO last Z)).take (γ A)=A:=Qy;have a:(A++(eW y++lO last Z)).drop (aM A+(aM y+2))=lO last Z:=by
  have:aM A+(aM y+2)=γ (A++eW y):=by rw [bP];rfl
  rw [this,<-gH,Gg]
 have e:¬(0<aM A/\xR A=η):=by
  rcases d with rfl|⟨t,rfl⟩
  ·intro h;exact absurd h.1 aA1
  ·rw [GN];intro h;cases h.2
 have c:(γ (A++(eW y++lO last Z)):Int)=(aM A:Int)+((aM y+2:Nat):Int)+(γ (lO last Z):Int):=by simp only [bP,eW,bX];omega
 unfold S7;rw [b,aA e,a,c];cases last with
 |true=>unfold lO;rw [aQ,dTl_hy,aA aA2,aB (by simp [fW,Sz])];refine aV δ ?_;rw [bR,bR];refine⟨rfl, ?_,by simp [fW,Sz]⟩;simp only [bX,aQ];omega
 |false=>unfold lO;rw [aH,dTl_cr,aA aA2,aB (by simp [fW,Sz])];refine aV δ ?_;rw [bR,bR];refine⟨rfl, ?_,by simp [fW,Sz]⟩;simp only [bX,aH];omega
theorem Ah(A p R:aC):Lib.occAt (A++(p++R)) p (γ A)=ζ:=by unfold Lib.occAt;rw [Gg];exact dI.2 ⟨R,rfl⟩
theorem I5(y:aC)(Z:aC)(a:γ (eW y++lO η Z)<=100000):X5 FU (eW y++lO η Z) 0 y=δ (((0:Int),((aM y+4:Nat):Int),η),ζ):=by
 have b:aM y<=100000:=by rw [bP]at a;unfold eW at a;simp only [bX]at a;omega
 unfold X5;rw [aU aB4];have d:=QQ [] y Z η (.inl rfl);have c:=Ah [] (eW y) (lO η Z);rw [vX]at d c;have f:=OT (eW y++lO η Z) y a b 0 _ c d 0 0 FU rfl aA6 (λj _ e=>absurd e (fC _));refine f.trans ?_;refine aV δ ?_;rw [bR,bR,bR];refine⟨⟨rfl, ?_,rfl⟩,rfl⟩;simp only [fT,aH];omega
theorem ez(y:aC)(v:eP y=ζ)(b body Z:aC)(a:cD)(last:Bool)(x:∀h∈a,Mu h)(i:∀Z,body≠eW y++Z)(g:∀A Z,body≠A++13::10::(eW y++Z))
  (T:aC) (k:T=b++13::10::(eX a++13::10::(body++13::10::(eW y++lO last Z)))) (K:aM T<=100000):
  X5 FU T ((γ b+2:Nat):Int) y=δ ((((γ b+γ (eX a)+aM body+6:Nat):Int),((γ b+γ (eX a)+aM body+6+(aM y+2)+(bif last then 4 else 2):Nat):Int),last),ζ):=by
 have m:T=(b++13::10::(eX a++13::10::(body++[13,10])))++(eW y++lO last Z):=by rw [k];simp
 have l:γ (b++13::10::(eX a++13::10::(body++[13,10])))=γ b+γ (eX a)+aM body+6:=aC0;have r:=aV aM m;rw [bP,l,bP]at r;have H:γ (eW y)=aM y+2:=rfl;have o:aM y<=100000:=aA0;have E:=QQ (b++13::10::(eX a++13::10::(body++[13,10]))) y Z last (.inr ⟨b++13::10::(eX a++13::10::body),aA2⟩);have D:=Ah (b++13::10::(eX a++13::10::(body++[13,10]))) (eW y) (lO last Z);rw [<-m,l]at E D;unfold X5;rw [aU aB4];refine OT T y K o _ _ D E (γ (eX a)+aM body+4) (γ b+2) FU aA0 aA6 λj N J G=> ?_;cases e:S7 T y j with
 |none=>rfl
 |some d=>
  exfalso;obtain⟨R,z⟩:=dI.1 (show Sz (eW y) (T.drop j)=ζ from G);have c:=IL j T;rw [<-z]at c;have q:T.drop (j+(aM y+2))=R:=by rw [<-MJ,<-z];exact Gg (l₁:=eW y)
  unfold S7 at e;rw [q]at e;by_cases p:0<j/\xR (T.take j)=η
  ·rw [aB p]at e;cases e
  ·rw [aA p]at e;have s:xR (T.take j)=ζ:=by
    cases s:xR (T.take j)with
    |true=>rfl
    |false=>exact absurd ⟨aA0,s⟩ p
   obtain⟨t,w⟩:=VK _ s;have I:j<=aM T:=by have:=aV aM c;rw [bP,kX,bP]at this;unfold eW at this;simp only [bX]at this;omega
   have F:aM t+2=j:=by have:=aV aM w;rw [kX,bP]at this;simp only [bX,fT]at this;omega
   have f:dOk R=ζ:=by
    unfold dOk;by_cases C:BC R=[]
    ·rw [aK C];rfl
    ·rw [aA C]at e;by_cases B:fW (BC R) [13,10]=ζ
     ·rw [B,Bool.or_true]
     ·rw [aA B]at e;cases e
   rw [w,k]at c;have M:b++13::10::(eX a++13::10::(body++13::10::(eW y++lO last Z)))=t++13::10::(eW y++R):=by rw [<-c];simp
   rcases gO.1 M with⟨A,u,n⟩|⟨A,u,n⟩
   ·refine Mc y v body (eW y++lO last Z) i g R f a A x n ?_;have:=aV aM u;rw [bP]at this;omega
   ·have:=aV aM u;rw [bP]at this;have L:A=[]:=vJ aA0;rw [L,vX]at n;exact Mc y v body (eW y++lO last Z) i g R f a [] x n.symm aA2
open Go.Lib renaming cut → eD, index → cK, join → cY
structure Wv (h:aC×aC):Prop where
 tok:eP h.1=ζ
 can:eQ h.1=(h.1,0)
 tdy:So h.1 h.2=(h.2,0)
 trm:cF h.2=h.2
 ctl:h.2.any eO=η
 cm:H7 h
variable {h:aC×aC}
theorem Wv.ok(k:Wv h):Mu h:=⟨k.tok,λc a e=>by have:=dC.1 k.ctl c a;rw [e]at this;exact this aA1⟩
theorem Wv.hd(k:Wv h):KB h=δ h:=by have a:=k.cm.2;unfold KB eu;rw [k.can,aB rfl,k.tdy,aB ⟨a,rfl,a⟩]
def gS(h:aC×aC):aC:=h.1++58::32::h.2
def Ih(h:aC×aC):aC:=h.1++58::(if h.2=[]then []else 32::h.2)
theorem sG(k:Wv h):∃c l,h.1=c::l/\cA c=ζ:=by
 obtain⟨d,b⟩:=Rc k.tok;cases a:h.1 with
 |nil=>exact absurd a d
 |cons c l=>rw [a,Gf,hO]at b;exact⟨c,l,rfl,b.1⟩
theorem ll:∀c:UInt8,cA c=ζ->bY c=η/\eO c=η/\c≠58/\c≠13:=dS _ aA3
theorem J6(h:aC×aC)(k:Wv h):cF (gS h)=Ih h:=by
 obtain⟨c,l,i,g⟩:=sG k;have f:∀x,(h.1++x).head? =δ c:=λx=>by rw [i];rfl
 unfold gS Ih;by_cases b:h.2=[]
 ·rw [b];have e:h.1++58::32::[]=(h.1++[58])++[32]:=by simp
  rw [e,Th _ _ rfl];refine V5 _ (λd a=> ?_) (λd a=> ?_)
  ·rw [f]at a;rw [<-aJ a];exact(ll c g).1
  ·rw [Y5]at a;rw [<-aJ a];decide
 ·rw [aA b];refine V5 _ (λd a=> ?_) ?_
  ·rw [f]at a;rw [<-aJ a];exact(ll c g).1
  ·have e:h.1++58::32::h.2=(h.1++[58,32])++h.2:=by simp
   rw [e];exact z8 _ _ b (pN _ k.trm).2
theorem rl_eq(h:aC×aC)(k:Wv h):aik FU (Ih h)=δ (h,0):=by
 obtain⟨J,s⟩:=k.cm;have d:=(Rc k.tok).2;have q:cK (Ih h) [58]=(aM h.1:Int):=by
  have B:∀b∈h.1,b≠58:=λb C=>(ll b (aT.1 d b C)).2.2.1;rcases FH 58 (Ih h)with⟨_,F⟩|⟨f,H,t,l,G⟩
  ·exact absurd rfl (F 58 (by unfold Ih;simp))
  ·rw [G];unfold Ih at t;rcases gO.1 t with⟨a,i,m⟩|⟨a,i,m⟩
   ·cases a with
    |nil=>rw [i];simp
    |cons b a=>have:(58:UInt8)=b:=(bG m).1;exact absurd this.symm (l b aE5)
   ·cases a with
    |nil=>rw [i];simp
    |cons b a=>have:(58:UInt8)=b:=(bG m).1;exact absurd this.symm (B b aE5)
 have j:eD (Ih h) [58]=(h.1,(if h.2=[]then []else 32::h.2),ζ):=by
  rw [xS,aA (by rw [q];omega),q,iO];unfold Ih;rw [Qy];have e:aM h.1+γ ([58]:aC)=γ (h.1++[58]):=aA2;have l:∀x:aC,h.1++58::x=(h.1++[58])++x:=λx=>by simp
  rw [e,l (if h.2=[]then []else 32::h.2),Gg]
 have z:Lib.trimRightS h.1 [32,9]=h.1:=by
  unfold Lib.trimRightS;rw [vE];exact(by
   have E:QX h.1:=su cA (λc j=>(ll c j).1) _ d;rcases wQ h.1 with e|⟨y,a,e⟩
   ·rw [e];rfl
   ·rw [wS]at e;have D:=E a aF5;rw [e,List.reverse_append,ME,BI,iM,D];simp:(h.1.reverse.dropWhile bY).reverse=h.1)
 have w:Lib.trimS (if h.2=[]then []else 32::h.2) [32,9]=h.2:=by
  rw [zH];by_cases o:h.2=[]
  ·rw [o];rfl
  ·rw [aA o];exact(Ku [32] h.2 rfl).trans k.trm
 have I:γ (Ih h)<=2000:=by
  unfold Ih;rw [bP,bX];split
  ·simp;omega
  ·rw [bX];omega
 have A:γ (if h.2=[]then([]:aC)else 32::h.2)<=2000:=by
  split
  ·simp
  ·rw [bX];omega
 obtain⟨r,v,u⟩:=JU h.1 h.2 aA0;have p:eu h.1 h.2=δ h:=by unfold eu;rw [k.tdy,aB ⟨s,rfl,s⟩]
 unfold aik;rw [aU aA0,j];dsimp only;rw [iN,aH,aU aA0,aU aA1,z,ls _ aA0,k.can,aX];rw [aB rfl,aU aA0,aU aA1,w,v,aX];rcases u with⟨n,g⟩|⟨n,g⟩
 ·rw [p]at g;rw [<-aJ g,n]
 ·rw [p]at g;cases g
def DJ:Nat->cD->jU
 |_,[]=>[]
 |k,h::a=>(k,Ih h)::DJ (k+γ (gS h)+2) a
theorem at_apN(A B:aC)(c:UInt8):at_ (A++c::B) (γ A)=c:=by rw [LM];simp
theorem CF(T:aC)(i:aM T<=100000):∀L P Z a,T=P++(L++Z)->L.any eO=η->mr FU T (a+aM L) (γ P)=mr FU T a (γ (P++L))
 |[],P,Z,a,h,b=>by rw [fI];rfl
 |c::L,P,Z,a,h,b=>by
  rw [Re,gY]at b;have d:=aV aM h;simp at d;have g:at_ T (γ P)=c:=by rw [h,LM];simp
  have f:(aM P+1)=(γ (P++[c]):Int):=aA2;have e:=CF T i L (P++[c]) Z a aA5 b.2;rw [bX,<-De,apb,ajm,aB aA0,aU aA0,g,awx,b.1,aU (cZ _ aA0 aA0),f,e];simp
theorem Tk(T:aC)(o:aM T<=100000):∀b P d,(∀h∈b,Wv h)->T=P++eX b->γ (eX b)<d->mr FU T d (γ P)=δ (.inl ())
 |[],P,d,_,h,s=>by obtain⟨d,rfl⟩:=cS d;rw [apb,ajm,aA (by rw [h];simp [eX])]
 |a::b,P,d,n,h,s=>by
  have m:=n a fE;have e:=lv a b [];rw [fI,fI]at e;have j:=aV aM h;have p:=aV aM e;have f:(gS a).any eO=η:=by unfold gS;rw [gR,Xh m.tok,Re,Re,m.ctl];decide
  have i:T=P++(gS a++13::10::eX b):=by rw [h,e];rfl
  have q:γ (eX (a::b))=γ (gS a)+2+γ (eX b):=by rw [e];unfold gS;simp;omega
  rw [bP]at j;obtain⟨g,rfl⟩:∃g,d=(g+1)+γ (gS a):=⟨d-γ (gS a)-1,aA0⟩;rw [CF T o (gS a) P (13::10::eX b) (g+1) i f];have c:T=(P++gS a)++13::10::eX b:=aE5;have k:aM T=γ (P++gS a)+2+γ (eX b):=by have:=aV aM c;rw [bP]at this;simp only [bX]at this;omega
  have t:at_ T (γ (P++gS a):Int)=13:=by rw [c,LM];simp
  have l:at_ T ((γ (P++gS a):Int)+1)=10:=by
   have v:(γ (P++gS a):Int)+1=(γ ((P++gS a)++[13]):Int):=aA4;have u:T=((P++gS a)++[13])++10::eX b:=by rw [c];simp
   rw [v,u,at_apN]
  have r:(γ (P++gS a):Int)+1+1=(γ ((P++gS a)++[13,10]):Int):=aA4;rw [apb,ajm,aB aA0,aU aA0,t,awx,aX,show eO 13=ζ by decide,iN,aH,aU aA0,aB rfl,aU ⟨aA0,aA0⟩,aA aA0,aU ⟨aA0,aA0⟩,aU aA0,l,aU ⟨aA0,aA0⟩,aU ⟨aA0,aA0⟩,r];exact Tk T o b _ g (λx hx=>n x (eT _ hx)) (by rw [c];simp) aA0
theorem FR(L Z:aC)(d:∀c∈L,c≠13):cK (L++13::10::Z) [13,10]=aM L:=by
 refine Lib.index_first aC1 ?_ λj b=> ?_
 ·exact Ah L _ Z
 ·cases a:Lib.occAt _ _ j with
  |false=>rfl
  |true=>have:=Lib.occAt_head rfl a;rw [aI b]at this;exact absurd rfl (d 13 (aG this))
theorem D7(h:aC×aC)(k:Wv h)(a:Int):X2 FU a (gS h) [] []=δ (0,[Ih h],[(a,[])]):=by
 obtain⟨c,l,e,f⟩:=sG k;obtain⟨m,j⟩:=k.cm;have d:gS h≠[]:=by unfold gS;simp
 have i:γ (gS h)<=2000:=by unfold gS;simp;omega
 have g:at_ (gS h) 0=c:=by unfold gS;rw [e];rfl
 have b:Ih h≠[]:=by unfold Ih;simp
 unfold X2;rw [aA d,aU (by have:=bK.2 d;omega),g,sq,aX,(ll c f).1,yX,aX,aQ,aA aA1,aX,aU aA2,aU aA2,aX,aU aA0,zH,J6 h k,aA b];rfl
theorem dm(h:aC×aC)(k:Wv h)(a o:Int)(t:aC)(g:jU)(r:aM t<=2000)(u:aM g<=100000):X2 FU a (gS h) [t] (g++[(o,[])])=δ (0,[Ih h],(g++[(o,t)])++[(a,[])]):=by
 obtain⟨c,l,j,p⟩:=sG k;obtain⟨w,v⟩:=k.cm;have e:gS h≠[]:=by unfold gS;simp
 have s:γ (gS h)<=2000:=by unfold gS;simp;omega
 have q:at_ (gS h) 0=c:=by unfold gS;rw [j];rfl
 have d:Ih h≠[]:=by unfold Ih;simp
 have f:(γ (g++[(o,[])]):Int)=aM g+1:=aA2;have i:el (g++[(o,[])]) (γ g)=(o,[]):=aF0;have b:gQ (g++[(o,[])]) (γ g) (o,t)=g++[(o,t)]:=aA2;have m:=gx t [32];have n:aM g+1-1=(aM g:Int):=aA0;unfold X2;rw [aA e,aU (by have:=bK.2 e;omega),q,sq,aX,(ll c p).1,yX,aX,aQ,f,aB aA0,aU ⟨aA0,aA0⟩,m,aU ⟨aA2,aA0⟩,n,aU aA0,aU aA0,i,iO,b,aX,aU aA4,aU aA2,aX,aU aA0,zH,J6 h k,aA d];rfl
theorem PB(h:aC×aC)(k:Wv h):γ (Ih h)<=2000:=by
 obtain⟨b,a⟩:=k.cm;unfold Ih;rw [bP,bX];split
 ·simp;omega
 ·rw [bX];omega
theorem po(T:aC)(z:aM T<=100000):∀b P c (g:jU) (o:Int) t,(∀h∈b,Wv h)->T=P++eX b->aM b<c->aM t<=2000->aM g+aM b<=1000->
  ∃j o' t',tm FU T c (γ P) [t] (g++[(o,[])])=δ ([t'],j++[(o',[])],0)/\j++[(o',t')]=(g++[(o,t)])++DJ (γ P) b/\γ t'<=2000
 |[],P,c,g,o,t,_,h,q,l,p=>by obtain⟨c,rfl⟩:=cS c;refine⟨g,o,t, ?_,by simp [DJ],l⟩;rw [aaz,nj,aA (by rw [h];simp [eX])]
 |a::b,P,c,g,o,t,n,h,q,l,p=>by
  obtain⟨c,rfl⟩:=cS c;have k:=n a fE;have e:=lv a b [];rw [fI,fI]at e;have d:T=P++(gS a++13::10::eX b):=by rw [h,e];rfl
  have i:=aV aM d;simp at i;have r:T.drop (γ P)=gS a++13::10::eX b:=by rw [d,Gg]
  have m:cK (T.drop (γ P)) [13,10]=(γ (gS a):Int):=by rw [r];exact FR _ _ (PZ a k.ok)
  have f:sub T (aM P:Int) ((aM P:Int)+(γ (gS a):Int))=gS a:=by unfold sub;rw [iO,r];have:bF ((aM P:Int)+(γ (gS a):Int))-aM P=γ (gS a):=aA0;rw [this,Qy]
  have w:((aM P:Int)+((γ (gS a):Int)+2))=(γ (P++(gS a++[13,10])):Int):=aA2;have A:γ (P++(gS a++[13,10]))=aM P+γ (gS a)+2:=aA4;have y:γ (T.drop (γ P))<=100000:=aB7;simp at q p;obtain⟨j,o',t',v,u,s⟩:=po T z b (P++(gS a++[13,10])) c (g++[(o,t)]) (aM P:Int) (Ih a) (λx hx=>n x (eT _ hx)) aD1 aA0 (PB a k) aA4;refine⟨j,o',t', ?_, ?_,s⟩
  ·rw [aaz,nj,aB aA0,aU aA0,iO,aU aA0,m,aA aA0,aU ⟨aA0,aA0⟩,aU aA0,f,dm a k _ o t g l aA0,aX];rw [aB rfl,aU ⟨aA0,aA0⟩,aU ⟨aA0,aA0⟩,w,v]
  ·rw [u,A,DJ];simp
theorem uf_eq(a:aC×aC)(f:cD)(B:∀h∈a::f,Wv h)(W:aM f<=100)(H:γ (eX (a::f))<=100000):amu FU (eX (a::f))=δ (DJ 0 (a::f),0,0):=by
 have u:=B a fE;obtain⟨c,l,L,P⟩:=sG u;have e:=lv a f [];rw [fI,fI]at e;have d:eX (a::f)=gS a++13::10::eX f:=e;generalize j:eX (a::f)=T at H d;have r:=aV aM d;simp only [bP,bX]at r;have q:T≠[]:=by rw [d];unfold gS;simp
 have S:at_ T (0:Int)=c:=by rw [d];unfold gS;rw [L];rfl
 have y:=Tk T H (a::f) [] FU B j.symm (by rw [j,eZ];omega);have o:mr FU T FU (0:Int)=δ (.inl ()):=y;have z:xR T=ζ:=by
  rw [<-j]
  have:∀(l:cD) (x:aC×aC),∃t,eX (x::l)=t++[13,10]:=by
   intro l;induction l with
   |nil=>intro x;exact⟨gS x,by simp [eX,iX,gS]⟩
   |cons b l v=>intro x;obtain⟨t,w⟩:=v b;refine⟨iX x++t, ?_⟩;have:eX (x::b::l)=iX x++eX (b::l):=rfl;rw [this,w,gH]
  obtain⟨t,w⟩:=this f a;rw [w];exact GN t
 have G:T.drop (bF 0)=gS a++13::10::eX f:=by rw [d];rfl
 have C:cK (T.drop (bF 0)) [13,10]=(γ (gS a):Int):=by rw [G];exact FR _ _ (PZ a u.ok)
 have n:sub T (0:Int) ((0:Int)+(γ (gS a):Int))=gS a:=by unfold sub;rw [G];have:bF ((0:Int)+(γ (gS a):Int))-bF 0=γ (gS a):=aA0;rw [this,Qy]
 have N:((0:Int)+((γ (gS a):Int)+2))=(γ (gS a++[13,10]):Int):=aA2;have Q:γ (gS a++[13,10])=0+γ (gS a)+2:=aA2;obtain⟨U,s⟩:∃m,FU=m+1:=⟨FU-1,by rw [eZ]⟩
 obtain⟨g,o',t',K,J,V⟩:=po T H f (gS a++[13,10]) U [] (0:Int) (Ih a) (λx hx=>B x (eT _ hx)) aD1 (by rw [eZ]at s;omega) (PB a u) aA4;have A:tm FU T FU (0:Int) [] []=δ ([t'],g++[(o',[])],0):=by
  conv=>lhs;arg 3;rw [s]
  rw [aaz,nj,aB aA0,aU aA0,aU (by rw [G,<-d];omega),C,aA aA0,aU ⟨aA0,aA0⟩,aU aA0,n,D7 a u,aX];dsimp only;rw [aB rfl,aU ⟨aA0,aA0⟩,aU ⟨aA0,aA0⟩,N];exact K
 have i:g++[(o',t')]=DJ 0 (a::f):=by rw [J,Q,DJ];rfl
 have E:(γ (g++[(o',([]:aC))]):Int)=(aM g:Int)+1:=aA2
 have O:aM g<=100:=by
  have I:=aV aM i;have R:∀(l:cD) (k:Nat),γ (DJ k l)=aM l:=by
   intro l;induction l with
   |nil=>intro k;rfl
   |cons b l v=>intro k;rw [DJ,bX,v,bX]
  rw [R,bP]at I;simp only [bX,fT]at I;omega
 have F:el (g++[(o',([]:aC))]) (aM g:Int)=(o',[]):=aF0;have p:gQ (g++[(o',([]:aC))]) (γ g) (o',t')=g++[(o',t')]:=aA2;have M:cY [t'] [32]=t':=gx t' [32];have D:(aM g:Int)+1-1=(aM g:Int):=aA0;unfold amu arv apv acv;rw [aA q,aU (by have:=bK.2 q;omega),S,sq,aX,(ll c P).1,aH,o,aX];simp only [yR,aX,aH];rw [JH T aA0,z,aX,iN,aH,A,aX];dsimp only;rw [aB rfl,E,aU ⟨aA0,aA0⟩,M,aU ⟨aA2,aA0⟩,D,aU aA0,aU aA0,F,iO,p,i]
open Go.Lib renaming cut → eD, hasPrefix → fW, index → cK
theorem Yn:∀(l:cD) (k:Nat),γ (DJ k l)=aM l
 |[],_=>rfl
 |a::l,k=>by rw [DJ,bX,Yn l,bX]
theorem rp_lp(y:jU×Int×UInt8)(q:cD):∀(c:jU) (k d:Nat) (b:cD),y.1=c++DJ k q->(∀h∈q,Wv h)->aM q<d->aM b+aM q<=64->γ c+aM q<=1000->
  ti FU y d (γ c:Int) b=δ (.inl (b++q)):=by
 induction q with
 |nil=>intro c k d b h f j l i;obtain⟨d,rfl⟩:=cS d;rw [ahl,aes,aA (by rw [h];simp [DJ]),fI]
 |cons a q n=>
  intro c k d b h f j l i;obtain⟨d,rfl⟩:=cS d;have m:=f a fE;have e:=aV aM h;rw [bP,Yn]at e;simp only [bX]at e j l i;have g:(0:Int)<=(γ c:Int)/\(γ c:Int)<(aM y.1:Int):=aA0;have p:el y.1 (γ c:Int)=((k:Int),Ih a):=by rw [h,DJ];simp [el]
  have o:((γ c:Int)+1)=(γ (c++[((k:Int),Ih a)]):Int):=aA2;rw [ahl,aes,aB g.2,aU g,aU g,p,rl_eq a m,aX];dsimp only;rw [aB rfl,aL aA0,aX,aH,aX,aB rfl,aU aB4,aU ⟨aA0,aA0⟩,o,n (c++[((k:Int),Ih a)]) (k+γ (gS a)+2) d (b++[a]) (by rw [h,DJ];simp) (λx hx=>f x (eT _ hx)) aA0 aA4 aA4,gH,BI]
theorem PW:∀(l:cD) (x:aC×aC),∃t,eX (x::l)=t++[13,10]
 |[],x=>⟨gS x,by simp [eX,iX,gS]⟩
 |b::l,x=>by obtain⟨t,a⟩:=PW l b;refine⟨iX x++t, ?_⟩;have:eX (x::b::l)=iX x++eX (b::l):=rfl;rw [this,a,gH]
theorem G6(a:aC×aC)(b:cD)(k:∀h∈a::b,Wv h)(body H:aC)(f:eX (a::b)=H++[13,10]):eD (eX (a::b)++13::10::body) [13,10,13,10]=(H,body,ζ):=by
 have e:eX (a::b)++13::10::body=H++([13,10,13,10]++body):=by rw [f];simp
 have d:cK (eX (a::b)++13::10::body) [13,10,13,10]=(aM H:Int):=by
  refine Lib.index_first (by rw [e,bP];omega) (by rw [e];exact Ah H _ body) λj o=> ?_;cases i:Lib.occAt (eX (a::b)++13::10::body) [13,10,13,10] j with
  |false=>rfl
  |true=>exfalso;obtain⟨Z,m⟩:=dI.1 (show Sz [13,10,13,10] ((eX (a::b)++13::10::body).drop j)=ζ from i);have c:=IL j (eX (a::b)++13::10::body);rw [<-m]at c;have g:=FL body (a::b) _ Z aA2 (λh l=>(k h l).ok) c.symm;rw [kX,f,bP]at g;simp only [bX,fT]at g;omega
 rw [xS,aA (by rw [d];omega),d,iO,e,Qy];have n:aM H+γ ([13,10,13,10]:aC)=γ (H++[13,10,13,10]):=aA2;rw [n,<-gH,Gg]
theorem rp_eq(b:cD)(body:aC)(f:∀h∈b,Wv h)(m:aM b<=64)(n:γ (eX b++13::10::body)<=100000):aij FU (eX b++13::10::body)=δ ((b,body),0,0):=by
 unfold aij;cases b with
 |nil=>have e:eX []++13::10::body=([13,10]:aC)++body:=rfl;rw [e,Aa,aQ,Xg]
 |cons a b=>
  have o:=f a fE;obtain⟨c,l,p,q⟩:=sG o;obtain⟨H,i⟩:=PW b a;have g:fW (eX (a::b)++13::10::body) [13,10]=η:=by rw [lv,p];have:=(ll c q).2.2.2;simp [fW,Sz,Ne.symm this]
  have d:=aV aM i;rw [bP]at d n;have k:=Yn (a::b) 0;have r:=rp_lp (DJ 0 (a::b),0,0) (a::b) [] 0 FU [] rfl f aA6 (by simpa using m) (by simp only [fT];omega);have j:ti FU (DJ 0 (a::b),0,0) FU (0:Int) []=δ (.inl (a::b)):=r;simp only [bX]at m n;rw [g,aH,aU aE9,G6 a b f body H i];dsimp only;rw [iN,aH,aU (by simp only [bX,fT]at d⊢;omega),<-i,uf_eq a b f aA0 aA0,aX];dsimp only;rw [aB rfl,j];rfl
structure NrP (y:aC) (x:PU):Prop where
 len:aM x.1<=64
 hds:∀h∈x.1,Wv h
 no1:∀Z,x.2≠eW y++Z
 no2:∀A Z,x.2≠A++13::10::(eW y++Z)
def Rr(y B:aC)(q:PL):aC:=q.flatMap (Tu y)++(eW y++lO ζ B)
theorem zO(y B:aC)(a:PU)(q:PL):Rr y B (a::q)=eW y++13::10::(eX a.1++13::10::(a.2++13::10::Rr y B q)):=by unfold Rr Tu;rw [rZ];simp
theorem C4(y B:aC)(q:PL):∃Z,Rr y B q=eW y++lO (decide (q=[])) Z:=by
 cases q with
 |nil=>exact⟨B,rfl⟩
 |cons a q=>exact⟨_,zO y B a q⟩
theorem NH(y B T:aC)(p:eP y=ζ)(t:aM T<=100000)(q:PL)(a:PU)(l:PL)(b:aC)(o:Nat)(h:T=b++Rr y B (a::q))(d:NrP y a)(z:aM l<8):
  mu FU T y (o+1) l (γ b:Int) ((γ b+(aM y+4):Nat):Int) η=mu FU T y o (l++[a]) (γ (b++Tu y a):Int) ((γ (b++Tu y a)+(aM y+2)+(bif decide (q=[])then 4 else 2):Nat):Int) (decide (q=[])):=by
 obtain⟨Z,m⟩:=C4 y B q;generalize decide (q=[])=last at m⊢;have c:T=(b++eW y)++13::10::(eX a.1++13::10::(a.2++13::10::(eW y++lO last Z))):=by rw [h,zO,m];simp
 have r:γ (eW y)=aM y+2:=rfl;have g:γ (b++eW y)+2=γ b+(aM y+4):=aC1;have n:=ez y p (b++eW y) a.2 Z a.1 last (λh s=>(d.hds h s).ok) d.no1 d.no2 T c t;have j:γ (b++Tu y a)=γ (b++eW y)+γ (eX a.1)+aM a.2+6:=by unfold Tu;simp only [bP,bX,fT];omega
 have f:=aV aM c;simp only [bP,bX]at f;have u:γ (b++eW y)=γ b+γ (eW y):=bP;rw [g,<-j]at n;have k:max ((γ (b++Tu y a):Int)-2) ((γ b+(aM y+4):Nat):Int)=((γ b+(aM y+4)+(γ (eX a.1)+aM a.2+2):Nat):Int):=aA0
 have e:sub T ((γ b+(aM y+4):Nat):Int) ((γ b+(aM y+4)+(γ (eX a.1)+aM a.2+2):Nat):Int)=eX a.1++13::10::a.2:=by
  unfold sub;rw [iO,iO,zbM];have x:T=((b++eW y)++[13,10])++((eX a.1++13::10::a.2)++13::10::(eW y++lO last Z)):=by rw [c];simp
  have w:γ ((b++eW y)++[13,10]:aC)=γ b+(aM y+4):=by rw [bP,<-g];rfl
  have v:γ (eX a.1++13::10::a.2)=γ (eX a.1)+aM a.2+2:=aE9;rw [x,<-w,Gg,<-v,Qy]
 have i:γ (eX a.1++13::10::a.2)<=100000:=aE9;rw [anh,ail,yX,aQ,aA aA0,n,aX];dsimp only;rw [iN,aH,aU ⟨aA0,aA0⟩,k,aU ⟨aA0,aA0,aA0⟩,e,rp_eq a.1 a.2 d.hds d.len i,aX];dsimp only;rw [aB rfl,aU aA0]
theorem sp_lp(y B T:aC)(n:eP y=ζ)(o:aM T<=100000)(q:PL):∀(a:PU) (l:PL) (d:aC) (e:Nat),T=d++Rr y B (a::q)->(∀x∈a::q,NrP y x)->aM q+2<=e->aM l+aM q+1<=8->
  ∃i j b,mu FU T y e l (γ d:Int) ((γ d+(aM y+4):Nat):Int) η=δ (.inl (l++a::q,i,j,b)):=by
 induction q with
 |nil=>intro a l d e h f k g;obtain⟨e,rfl⟩:∃m,e=m+1+1:=⟨e-2,by simp only [fT]at k;omega⟩;exact⟨_,_,_,(NH y B T n o [] a l d (e+1) h (f a fE) (by simp only [fT]at g;omega)).trans (by rw [aK rfl,anh,ail,iN,aH])⟩
 |cons b q r=>intro a l d e h f k g;obtain⟨e,rfl⟩:=cS e;simp only [bX]at k g;obtain⟨i,j,c,p⟩:=r b (l++[a]) (d++Tu y a) e (by rw [h,zO];unfold Tu;simp) (λx hx=>f x (eT _ hx)) aA0 aA4;rw [gH,BI]at p;exact⟨i,j,c,(NH y B T n o (b::q) a l d e h (f a fE) aA0).trans p⟩
theorem sp_eq(y B:aC)(g:eP y=ζ)(c:aM y<=70)(v:PL)(d:1<=aM v/\γ v<=8)(l:∀x∈v,NrP y x)(n:γ (Rr y B v)<=8192):mh FU (Rr y B v) y=δ (v,0,0):=by
 unfold mh;rw [LJ y aA0,g,aK c,aX,Bool.and_self,iN,aH,aA aA0];cases v with
 |nil=>exact absurd d.1 aA1
 |cons a q=>have e:Rr y B (a::q)=eW y++lO η (eX a.1++13::10::(a.2++13::10::Rr y B q)):=zO y B a q;have k:=I5 y (eX a.1++13::10::(a.2++13::10::Rr y B q)) (by rw [<-e];omega);rw [<-e]at k;obtain⟨i,j,b,h⟩:=sp_lp y B (Rr y B (a::q)) g aA0 q a [] [] FU rfl l (by simp only [bX]at d;rw [eZ];omega) (by simp only [bX,fT]at d⊢;omega);have m:((γ ([]:aC)+(aM y+4):Nat):Int)=((aM y+4:Nat):Int):=aA2;rw [m]at h;have f:mu FU (Rr y B (a::q)) y FU [] (0:Int) ((aM y+4:Nat):Int) η=δ (.inl (a::q,i,j,b)):=h;rw [k,aX];dsimp only;rw [iN,aH,aH,f,aX];rfl
theorem Ht:ape FU=δ ζ:=by kernel_rfl
theorem VW(s:aC)(h:(eQ s).2=0):eP (eQ s).1=ζ:=by
 have e:=qF s h;cases a:eP (eQ s).1 with
 |true=>rfl
 |false=>
  have b:eQ (eQ s).1=([],5):=by rw [eQ,aB (.inl a)]
  rw [b]at e;exact absurd (aV Prod.snd e) (show¬((5:UInt8)=0)by decide)
theorem Bh(z r:aC×aC)(e:KB z=δ r):Wv r:=by
 obtain⟨h,g,f,j,d,_⟩:=Zl z r e;have i:γ (So r.1 z.2).1<=1024:=by rw [<-d];exact h.2
 obtain⟨c,b,a⟩:=BY r.1 z.2 j i;rw [<-d]at c b a;exact⟨by rw [f];exact VW _ g,by rw [f];exact qF _ g,c,b,a,h⟩
theorem zz(y body:aC)(h:Pc y body=η):(∀Z,body≠eW y++Z)/\∀A Z,body≠A++13::10::(eW y++Z):=by
 unfold Pc at h;rw [gY,Bool.not_eq_false',bD]at h;refine⟨λZ e=> ?_,λA Z e=> ?_⟩
 ·rw [e,Aa]at h;cases h.1
 ·rcases Lib.index_spec body (13::10::eW y)with⟨_,a⟩|⟨i,b,_⟩
  ·have:=a (γ A) (by rw [e,bP];omega);rw [e,show A++13::10::(eW y++Z)=A++((13::10::eW y)++Z)from rfl,Ah]at this;cases this
  ·rw [b]at h;omega
theorem dy(y:aC)(z x:PU)(e:zZ z=δ x)(d:Pc y x.2=η):NrP y x:=by obtain⟨k,i,g⟩:=sQ z x e;obtain⟨_,f⟩:=RG _ _ _ i;obtain⟨b,a⟩:=zz y x.2 d;exact⟨g.1,λh c=>by obtain⟨w,_,j⟩:=f h c;exact Bh w h j,b,a⟩
theorem UK(l:PL)(y:aC):((jnP l y).1=[]/\¬(jnP l y).2=0)\/∃v,fQ zZ l=δ v/\eP y=ζ/\γ y<=70/\(1<=aM v/\γ v<=8)/\(∀x∈v,NrP y x)/\γ (Rr y [] v)<=8192/\jnP l y=(Rr y [] v,0):=by
 unfold jnP;by_cases a:(eP y=ζ/\γ y<=70)/\1<=aM l/\γ l<=8
 ·rw [aB a];cases g:fQ zZ l with
  |none=>exact .inl ⟨rfl,show¬((2:UInt8)=0)by decide⟩
  |some v=>
   obtain⟨f,d⟩:=RG _ _ _ g;dsimp only;by_cases c:v.any (λx=>Pc y x.2)=ζ
   ·rw [aB c];exact .inl ⟨rfl,show¬((7:UInt8)=0)by decide⟩
   ·rw [aA c];by_cases b:8192<γ (jnT y v)
    ·rw [aB b];exact .inl ⟨rfl,show¬((4:UInt8)=0)by decide⟩
    ·rw [aA b];refine .inr ⟨v,rfl,a.1.1,a.1.2,by rw [f];exact a.2,λx hx=> ?_,yK b,rfl⟩;obtain⟨z,_,e⟩:=d x hx;refine dy y z x e ?_;cases h:Pc y x.2 with
     |false=>rfl
     |true=>exact absurd (iU.2 ⟨x,hx,h⟩) c
 ·rw [aA a];exact .inl ⟨rfl,show¬((2:UInt8)=0)by decide⟩
theorem vh(v l:PL)(i:Int)(x z:PU)(hx:el v i=x)(J:el l i=z)(e:0<=i/\i<(aM v:Int))(y:i<(aM l:Int))(n:∀h∈z.1,aM h.1<=4194304)(K:aM x.1<=64)(q w:cD):∀(p g:cD) (d:Nat),x.1=p++q->z.1=g++w->aM p=aM g->fQ KB w=δ q->aM q<d->alo FU v l i d (aM p:Int)=δ (.inl ()):=by
 induction w generalizing q with
 |nil=>intro p g d k j s m G;obtain⟨d,rfl⟩:=cS d;cases m;rw [auv,anw,aU e,aU e,hx,aA (by rw [k];simp)]
 |cons b w I=>
  intro p g d k j s m G;obtain⟨d,rfl⟩:=cS d;rw [fQ,iR]at m;obtain⟨r,Q,P⟩:=m;obtain⟨q',O,rfl⟩:=bT.1 P;obtain⟨S,F,E,D,H,R⟩:=Zl b r Q;have u:=aV aM k;have t:=aV aM j;simp only [bP,bX]at u t G;have c:(0:Int)<=(aM p:Int)/\(aM p:Int)<(aM z.1:Int):=aA0;have f:(0:Int)<=(aM p:Int)/\(aM p:Int)<(aM x.1:Int):=aA0;have B:el z.1 (aM p:Int)=b:=by rw [s,j];simp [el]
  have C:el x.1 (aM p:Int)=r:=by rw [k];simp [el]
  have a:0<=i/\i<(aM l:Int):=⟨e.1,y⟩;have M:=n b aF4;have o:((aM p:Int)+1)=(γ (p++[r]):Int):=aA2;have N:=vD _ F;have L:r=((eQ b.1).1,(So (eQ b.1).1 b.2).1):=by rw [<-E,<-H]
  rw [E]at D;have A:=I q' (p++[r]) (g++[b]) d (by rw [k];simp) aF4 (by simp [s]) O aA0;rw [auv,anw,aU e,aU e,hx,aB f.2,aU a,aU a,J,aU c,aU c,B,ls _ aA0,aX,aU a,aU a,aU c,aU c,Ok _ _ aA0 aA0,aX,aB F,aB D,aU e,aU e,aU f,aU f,C,aK L,iN,aX,aH,aU (cZ _ aA0 aA0),o,A]
theorem vi(v l:PL)(I:aM v<=8)(iX:∀x∈l,∀h∈x.1,aM h.1<=4194304)(q w:PL):∀(p e:PL) (d:Nat),v=p++q->l=e++w->aM p=aM e->fQ zZ w=δ q->aM q<d->alp FU v l d (aM p:Int)=δ (.inl ()):=by
 induction w generalizing q with
 |nil=>intro p e d j i n k B;obtain⟨d,rfl⟩:=cS d;cases k;rw [auw,anx,aA aF4]
 |cons b w F=>
  intro p e d j i n k B;obtain⟨d,rfl⟩:=cS d;rw [fQ,iR]at k;obtain⟨r,H,G⟩:=k;obtain⟨q',C,rfl⟩:=bT.1 G;obtain⟨E,A,z⟩:=sQ b r H;obtain⟨D,_⟩:=RG _ _ _ A;have s:=aV aM j;have o:=aV aM i;simp only [bP,bX]at s o B;have a:(0:Int)<=(aM p:Int)/\(aM p:Int)<(aM v:Int):=aA0;have c:(0:Int)<=(aM p:Int)/\(aM p:Int)<(aM l:Int):=by have:=(RG _ _ _ C).1;omega
  have f:el v (aM p:Int)=r:=by rw [j];simp [el]
  have g:el l (aM p:Int)=b:=by rw [n,i];simp [el]
  have m:((aM p:Int)+1)=(γ (p++[r]):Int):=aA2;have y:=vh v l (aM p:Int) r b f g a c.2 (iX b aE5) z.1 r.1 b.1 [] [] FU rfl rfl rfl A (by rw [eZ];have:=z.1;omega);have u:alo FU v l (aM p:Int) FU (0:Int)=δ (.inl ()):=y;have t:=F q' (p++[r]) (e++[b]) d aF4 aE5 (by simp [n]) C aA0;rw [auw,anx,aB a.2,aU a,aU a,aU c,aU c,f,g,aB E,aU a,aU a,aU c,aU c,aK (by rw [D]),iN,aX,aH,u,aX];show gd _ _=_;rw [aU (cZ _ aA0 aA0),m,t]
theorem B2(v l:PL)(c:aM v<=8)(iX:∀x∈l,∀h∈x.1,aM h.1<=4194304)(b:fQ zZ l=δ v):atz FU v l=δ ζ:=by have d:=vi v l c iX v l [] [] FU rfl rfl rfl b aA6;have a:alp FU v l FU (0:Int)=δ (.inl ()):=d;unfold atz;rw [aB (by rw [(RG _ _ _ b).1]),a,aX];rfl
open Go.Lib renaming hasPrefix → fW
def qX(h:aC×aC):Bool:=decide ((eQ h.1).2=0)&&fW (eQ h.1).1 [67,111,110,116,101,110,116,45]
def uS(h:aC×aC):Prop:=aM h.1<=4194304
theorem LB(h:aC×aC)(b:uS h):ajs FU h=δ ((eQ h.1).1,qX h):=by
 unfold uS at b;unfold ajs qX;rw [ls _ aA0,aX];by_cases a:(eQ h.1).2=0
 ·rw [aB a,Ym,aX,aX,aK a,Qx]
 ·rw [aA a,aX,aL a,Y7]
theorem F4(h:aC×aC)(a:uS h):aqg FU h=δ (qX h):=by unfold aqg;rw [LB h a,aX]
theorem yn(s:cD)(A:aM s<=100000)(m:∀h∈s,uS h)(q:cD):∀(p:cD) (c:Nat),s=p++q->aM q<c->
  ∃j,abx FU s c (aM p:Int)=δ j/\((j=.inl ()/\∀h∈q,qX h=η)\/∃a h b,q=a++h::b/\(∀x∈a,qX x=η)/\qX h=ζ/\j=.inr (γ (p++a):Int)):=by
 induction q with
 |nil=>intro p c h i;obtain⟨c,rfl⟩:=cS c;rw [agx,acq,aA aA5];exact⟨_,rfl,.inl ⟨rfl,λh d=>by cases d⟩⟩
 |cons x q k=>
  intro p c h i;obtain⟨c,rfl⟩:=cS c;have f:=aV aM h;simp only [bP,bX]at f i;have g:(0:Int)<=(aM p:Int)/\(aM p:Int)<(aM s:Int):=aA0;have o:el s (aM p:Int)=x:=aB3;have n:((aM p:Int)+1)=(γ (p++[x]):Int):=aA2;rw [agx,acq,aB g.2,aU g,aU g,o,F4 x (m x aA5),aX];cases hx:qX x with
  |true=>exact⟨_,rfl,.inr ⟨[],x,q,rfl,λy l=>(nomatch l),hx,aA2⟩⟩
  |false=>
   obtain⟨j,w,v⟩:=k (p++[x]) c aA5 aA0;rw [aH,aU (cZ _ aA0 aA0),n];refine⟨j,w, ?_⟩;rcases v with⟨rfl,u⟩|⟨a,y,b,rfl,t,r,rfl⟩
   ·exact .inl ⟨rfl,λh d=>by
     rcases aP.1 d with rfl|d
     ·exact hx
     ·exact u h d⟩
   ·exact .inr ⟨x::a,y,b,rfl,λz e=>by
     rcases aP.1 e with rfl|e
     ·exact hx
     ·exact t z e,r,aA2⟩
variable {b:Type}
theorem Fq[Inhabited b](P:List b)(x:b)(q:List b):el (P++x::q) (aM P:Int)=x:=aF0
theorem B9(P:List b)(x z:b)(q:List b):gQ (P++z::q) (bF (aM P:Int)) x=P++x::q:=aA2
theorem dfc_lp(q:cD):∀(a b:cD) (e:Nat),b≠[]->γ (a++b++q)<=100000->(∀h∈q,uS h)->aM q<e->
  ∃d,abv FU e (a++b++q) (aM a:Int) (γ (a++b):Int)=δ ((a++q.filter (λh=> !qX h))++d,(γ (a++q.filter (λh=> !qX h)):Int)):=by
 induction q with
 |nil=>intro a b e p o l r;obtain⟨e,rfl⟩:=cS e;rw [adt,abt,aA aA2];exact⟨b,aA2⟩
 |cons x q n=>
  intro a b e p o l r;obtain⟨e,rfl⟩:=cS e;have f:=o;simp only [bP,bX]at f r;have m:(0:Int)<=(γ (a++b):Int)/\(γ (a++b):Int)<(γ (a++b++x::q):Int):=by rw [@jO _ (a++b) _,bX];omega
  have t:el (a++b++x::q) (γ (a++b):Int)=x:=Fq _ _ _;rw [adt,abt,aB m.2,aU m,aU m,t,F4 x (l x fE),aX];have i:∀h∈q,uS h:=λh s=>l h (eT _ s);cases hx:qX x with
  |true=>obtain⟨d,k⟩:=n a (b++[x]) e aA2 aC0 i aA0;refine⟨d, ?_⟩;rw [iN,aH,aU (cZ _ aA0 (by simp only [bP];omega)),show((γ (a++b):Int)+1)=(γ (a++(b++[x])):Int)by simp only [bP,bX,fT];omega];rw [show a++(b++[x])++q=a++b++x::q by simp]at k;rw [k];simp [hx]
  |false=>
   obtain⟨z,c,rfl⟩:=List.exists_cons_of_ne_nil p;obtain⟨d,k⟩:=n (a++[x]) (c++[x]) e aA2 (by simp only [bP,bX,fT]at f⊢;omega) i aA0;refine⟨d, ?_⟩;have j:(0:Int)<=(aM a:Int)/\(aM a:Int)<(γ (a++z::c++x::q):Int):=by simp only [bP,bX];omega
   have g:gQ (a++z::c++x::q) (bF (aM a:Int)) x=a++[x]++(c++[x])++q:=by rw [show a++z::c++x::q=a++z::(c++x::q)by simp,B9];simp
   rw [yX,aQ,aU j,aU j,aU (cZ _ aA0 (by simp only [bP,bX]at f;omega)),aU (cZ _ aA0 (by simp only [bP,bX]at f⊢;omega)),g,show((aM a:Int)+1)=(γ (a++[x]):Int)by simp,show((γ (a++z::c):Int)+1)=(γ (a++[x]++(c++[x])):Int)by simp only [bP,bX,fT];omega,k];simp [hx]
theorem dfc_eq(s:cD)(i:aM s<=1000)(d:∀h∈s,uS h):ach FU s=δ (s.filter (λh=> !qX h)):=by
 obtain⟨j,r,q⟩:=yn s aA0 d s [] FU rfl aA6;have f:abx FU s FU (0:Int)=δ j:=r;unfold ach adj;rw [f,aX];rcases q with⟨rfl,p⟩|⟨a,x,b,rfl,o,n,rfl⟩
 ·show pG (δ (-1:Int)) _=_;rw [aX,aB rfl,Hy.2 λh c=>by rw [p h c];rfl]
 ·simp only [bP,bX]at i;have k:=d x aA2;obtain⟨g,m⟩:=dfc_lp b a [x] FU aA2 aC0 (λh c=>d h (by simp [c])) aA6;have l:(a++x::b).filter (λh=> !qX h)=a++b.filter (λh=> !qX h):=by rw [jP,Hy.2 λh c=>by rw [o h c];rfl];simp [n]
  show pG (δ ((γ ([]++a):Int))) _=_;rw [aX,vX,aA aA0,aU (cZ _ aA0 aA0),show a++x::b=a++[x]++b by simp,show((aM a:Int)+1)=(γ (a++[x]):Int)by simp,m,aX];dsimp only;have e:γ (a++b.filter (λh=> !qX h))<=γ ((a++b.filter (λh=> !qX h))++g):=by rw [bP (bs:=g)];omega
  rw [aU ⟨aA0,aA0⟩,AE,aU ⟨aA0,aA0⟩,iO,T7 _ _ _ e,Qy,<-l];simp
open Go.Lib renaming decDigits → kY, index → cK
open UInt8 renaming ofNat → uF
theorem UB{l:List Int}{i:Int}(h:i∈l):i∈jD l k:=by
 unfold jD;split
 ·exact h
 ·simp [h]
theorem xH(l:List Int)(n:Int):n∈jD l n:=by
 unfold jD;split
 ·assumption
 ·simp
theorem UC(l:List Int)(n:Int):γ (jD l n)<=aM l+1:=by unfold jD;split<;>simp
def lG:aC->Nat->Int->List Int->List Int
 |[],_,_,a=>a
 |c::s,x,n,a=>if c<48\/57<c\/1125899906842624<n\/(0<x/\n=0)then a else lG s (x+1) (10*n+((c-48).toNat)) (jD a (10*n+((c-48).toNat)))
theorem To(s:aC):∀x n a i,i∈a->i∈lG s x n a:=by
 induction s with
 |nil=>intro x n a i h;exact h
 |cons c s b=>
  intro x n a i h;unfold lG;split
  ·exact h
  ·exact b _ _ _ _ (UB h)
theorem SY(s:aC):∀x n a,γ (lG s x n a)<=aM a+aM s:=by
 induction s with
 |nil=>intro x n a;exact eK _
 |cons c s b=>
  intro x n a;unfold lG;split
  ·omega
  ·have e:=b (x+1) (10*n+((c-48).toNat)) (jD a (10*n+((c-48).toNat)));have d:=UC a (10*n+((c-48).toNat));rw [bX];omega
theorem dig_sc:∀d:Fin 10,¬uF (48+d.val)<48/\¬57<uF (48+d.val)/\(uF (48+d.val)-48).toNat=d.val:=aA3
theorem Ln(d:Nat)(c:d<10)(x:Nat)(n:Int)(j:n<=1125899906842624)(hx:0<x->n≠0)(a:aC)(b:List Int):
  lG (uF (48+d)::a) x n b=lG a (x+1) (10*n+d) (jD b (10*n+d)):=by
 obtain⟨i,g,f⟩:=dig_sc ⟨d,c⟩;have e:¬(uF (48+d)<48\/57<uF (48+d)\/1125899906842624<n\/(0<x/\n=0)):=by
  rintro(h|h|h|h)
  ·exact i h
  ·exact g h
  ·omega
  ·exact hx h.1 h.2
 rw [lG,aA e,f]
theorem C2:∀(k u:Nat),u<10^(k+1)->u<=11258999068426240->∀a b,∃c,(u:Int)∈c/\lG (kY u++a) 0 0 b=lG a (γ (kY u)) u c:=by
 intro k;induction k with
 |zero=>
  intro u h g a b;rw [kY,dif_pos h,BI,Ln u h 0 0 aA1 (by intro h;omega)];refine⟨jD b (10*0+(u:Int)), ?_, ?_⟩
  ·have:=xH b (10*0+(u:Int));simpa using this
  ·simp
 |succ k f=>
  intro u h g a b;by_cases d:u<10
  ·rw [kY,dif_pos d,BI,Ln u d 0 0 aA1 (by intro h;omega)];refine⟨jD b (10*0+(u:Int)), ?_, ?_⟩
   ·have:=xH b (10*0+(u:Int));simpa using this
   ·simp
  ·obtain⟨c,_,i⟩:=f (u/10) (by rw [Nat.pow_succ]at h;omega) aA0 (uF (48+u%10)::a) b;have e:kY u=kY (u/10)++[uF (48+u%10)]:=by conv=>lhs;rw [kY,dif_neg d]
   rw [e,gH,BI,i,Ln (u%10) (Nat.mod_lt _ aA1) _ _ aA0 (by intro _;omega)];have j:10*(u/10:Nat)+(u%10:Nat)=(u:Int):=aA0;rw [j,bP];exact⟨_,xH _ _,rfl⟩
abbrev Gx:List UInt8:=[45,45,98]
theorem xe(body s:aC)(k:cG (bF (cK body Gx+3)) body=s)(z:aM s<=1000000000)(q:aC):∀p b n a,s=p++q->aM q<b->0<=n->n<=11258999068426249->
  ako FU body b n (γ p) a=δ (lG q (γ p) n a):=by
 have d:((aM body-bF (cK body Gx+3):Nat):Int)=(aM s:Int):=by rw [<-k,gZ]
 induction q with
 |nil=>intro p b n a h l x w;obtain⟨b,rfl⟩:=cS b;rw [atk,ame,d,aA aA5];rfl
 |cons c q m=>
  intro p b n a h l x w;obtain⟨b,rfl⟩:=cS b;have j:=aV aM h;simp at j l;have kV:at_ s (aM p:Int)=c:=by rw [h];simp [at_]
  have t:((aM p:Int)+1)=(γ (p++[c]):Int):=aA2;have y:(((c-48:UInt8).toNat:Nat):Int)<=255:=by have:=(c-48).toNat_lt;omega
  rw [atk,ame,d,aB aA0,k,aU aA0,aU aA0,kV,lG];by_cases e:c<48
  ·rw [aB e,aB (.inl e)];rfl
  ·by_cases f:57<c
   ·rw [aA e,aB f,aB (.inr (.inl f))];rfl
   ·by_cases i:1125899906842624<n
    ·rw [aA e,aA f,aB i,aB (.inr (.inr (.inl i)))];rfl
    ·have A:(c-48:UInt8).toNat<=9:=by have B:c.toNat<=57:=UInt8.not_lt.1 f;rw [WQ _ _ (UInt8.not_lt.1 e)];show c.toNat-48<=9;omega
     by_cases g:0<(aM p:Int)/\n=0
     ·rw [aA e,aA f,aA i,aB g.1,aB (.inr (.inr (.inr ⟨aA0,g.2⟩))),aK g.2];rfl
     ·have u:¬(c<48\/57<c\/1125899906842624<n\/(0<aM p/\n=0)):=by
       rintro(h|h|h|h)
       ·exact e h
       ·exact f h
       ·exact i h
       ·exact g ⟨aA0,h.2⟩
      have o:(if(0:Int)<(aM p:Int)then δ (decide (n=0))else δ η)=δ η:=by
       split
       ·rename_i v;rw [aL (λh=>g ⟨v,h⟩)]
       ·rfl
      have r:=m (p++[c]) b (10*n+((c-48).toNat:Int)) (jD a (10*n+((c-48).toNat:Int))) aA5 aA0 aA0 aA0;rw [aA e,aA f,aA i,o,aA u,aU (cZ _ aA0 aA0),aU (cZ _ aA0 aA0),aU (cZ _ aA0 aA0),t,r];simp
theorem I8{e:aC}(h:Gx++s=d++(Gx++e)):d=[]\/∃w,d=Gx++w:=by
 match d,h with
 |[],_=>exact .inl rfl
 |[a],h=>simp at h
 |[a,b],h=>simp at h
 |a::b::c::w,h=>simp at h;exact .inr ⟨w,by simp [<-h.1,<-h.2.1,<-h.2.2.1]⟩
theorem iq:∀s:aC,(cK s Gx= -1/\∀u v,s≠u++(Gx++v))\/(∃u v,s=u++(Gx++v)/\cK s Gx=aM u/\∀c d,s=c++(Gx++d)->c=u\/∃w,c=u++(Gx++w))
 |[]=>.inl ⟨rfl,λu v h=>by simp at h⟩
 |b::l=>by
  rw [bbr];by_cases e:Sz Gx (b::l)=ζ
  ·obtain⟨v,i⟩:=dI.1 e;refine .inr ⟨[],v,i.symm,by rw [aB e];rfl,λc d h=> ?_⟩;rw [<-i]at h;exact I8 h
  ·rw [aA e];have j:∀u v,b::l=u++(Gx++v)->∃u',u=b::u'/\l=u'++(Gx++v):=by
    intro u v h;cases u with
    |nil=>exact absurd (dI.2 ⟨v,h.symm⟩) e
    |cons a u=>simp at h;exact⟨u,by rw [h.1],h.2⟩
   rcases iq l with⟨g,f⟩|⟨u,v,g,f,m⟩
   ·refine .inl ⟨by rw [aB g],λu v h=> ?_⟩;obtain⟨u',_,h⟩:=j u v h;exact f u' v h
   ·refine .inr ⟨b::u,v,by rw [g];rfl,by rw [f];simp,λc d h=> ?_⟩;obtain⟨u',rfl,k⟩:=j c d h;rcases m u' d k with rfl|⟨w,rfl⟩
    ·exact .inl rfl
    ·exact .inr ⟨w,rfl⟩
def sV:Nat->aC->List Int->List Int
 |0,_,a=>a
 |k+1,b,a=>if 0<=cK b Gx then sV k (cG (bF (cK b Gx+3)) b) (lG (cG (bF (cK b Gx+3)) b) 0 0 a)else a
theorem R5(h:k=aM s):cG (bF (k+3)) (s++(Gx++d))=d:=by
 have e:bF (k+3)=γ (s++Gx):=by rw [h];simp;omega
 rw [e,<-gH,Gg]
theorem Ei:∀k b a i,i∈a->i∈sV k b a
 |0,_,_,_,h=>h
 |k+1,b,a,i,h=>by
  unfold sV;split
  ·exact Ei k _ _ _ (To _ _ _ _ _ h)
  ·exact h
theorem Uk:∀k b a,γ (sV k b a)<=aM a+aM b*aM b
 |0,_,_=>Nat.le_add_right _ _
 |k+1,b,a=>by
  unfold sV;rcases iq b with⟨c,_⟩|⟨u,v,c,d,_⟩
  ·rw [c];exact Nat.le_add_right _ _
  ·rw [aB aA0,c,R5 (by rw [<-c];exact d)];have h:=Uk k v (lG v 0 0 a);have g:=SY v 0 0 a;have e:γ (u++(Gx++v))=aM u+3+aM v:=by simp;omega
   have f:aM v*aM v+aM v<=(aM u+3+aM v)*(aM u+3+aM v):=by have:aM v*(aM v+1)<=(aM u+3+aM v)*(aM u+3+aM v):=Y3 aA0 aA0;exact this
   rw [e];omega
theorem Uj(n:Nat)(i:n<=11258999068426240)(l:n<10^18):∀k b c (u a:aC),aM b<k->b=u++(Gx++(kY n++a))->(n:Int)∈sV k b c
 |0,_,_,_,_,h,_=>absurd h (fC _)
 |k+1,b,c,s,a,j,d=>by
  unfold sV;rcases iq b with⟨e,g⟩|⟨u,v,e,g,r⟩
  ·exact absurd d (g _ _)
  ·have o:cG (bF (cK b Gx+3)) b=v:=by rw [e];exact R5 (by rw [<-e];exact g)
   rw [aB aA0,o];rcases r _ _ d with rfl|⟨w,rfl⟩
   ·have f:v=kY n++a:=by rw [e]at d;exact rH (rH d)
    obtain⟨m,q,p⟩:=C2 17 n l i a c;rw [f,p];exact Ei _ _ _ _ (To _ _ _ _ _ q)
   ·have f:v=w++(Gx++(kY n++a)):=by rw [e,gH]at d;exact rH (rH d)
    refine Uj n i l k v _ w a ?_ f;rw [e]at j;simp at j;omega
theorem I0:∀e (b:aC) a,aM b<e->aM b<=1000000->aog FU e b a=δ (sV e b a)
 |0,_,_,h,_=>absurd h (fC _)
 |e+1,b,a,h,n=>by
  rw [azo,aqz,aU aA4];unfold sV;rcases iq b with⟨d,_⟩|⟨u,v,d,j,_⟩
  ·have k:=d;rw [k,aA aA1,aA aA1]
  ·have i:cK b [45,45,98]=(aM u:Int):=j;have l:cG (bF (cK b Gx+3)) b=v:=by rw [d];exact R5 (by rw [<-d];exact j)
   have m:aM b=aM u+3+aM v:=by rw [d];simp;omega
   have f:=xe b v l aA0 v [] FU 0 a rfl aA6 aA1 aA1;have g:cG (bF ((aM u:Int)+3)) b=v:=by rw [<-j];exact l
   have c:ako FU b FU 0 0 a=δ (lG v 0 0 a):=f;rw [aB aA0,i,aU aA0,aU (cZ _ aA0 aA0),aU aA0,c,aX,g,I0 e v _ aA0 aA0,aB aA0]
theorem JP:∀(n:Nat) (v:List Int),(∀i:Nat,i<n->(i:Int)∈v)->n<=aM v
 |0,_,_=>cO _
 |n+1,v,h=>by have a:=h n (nF _);have e:=JP n (v.erase (n:Int)) λi b=>(List.mem_erase_of_ne aA0).2 (h i aA0);have d:=List.length_erase_of_mem a;have c:0<aM v:=List.length_pos_of_mem a;omega
theorem bd_lp1(v:List Int)(k:aM v<=1000000000000):∀(b n:Nat),(∀i:Nat,i<n->(i:Int)∈v)->aM v-n<b->∃m:Nat,agq FU v b (n:Int)=δ (m:Int)/\(m:Int)∉v/\m<=aM v:=by
 intro b;induction b with
 |zero=>intro n _ h;exact absurd h (fC _)
 |succ b f=>
  intro n d o;have j:=JP n v d;rw [avf,alf];by_cases h:(n:Int)∈v
  ·have a:∀i:Nat,i<n+1->(i:Int)∈v:=by
    intro i l;by_cases c:i=n
    ·rw [c];exact h
    ·exact d i aA0
   have g:=JP (n+1) v a;have e:(n:Int)+1=((n+1:Nat):Int):=aA0;rw [aB h,aU (cZ _ aA0 aA0),e];exact f (n+1) a aA0
  ·exact⟨n,by rw [aA h],h,j⟩
theorem nt_eq(b:aC)(a:List Int)(c:aM b<=20000):aym FU a b=δ (sV FU b a):=by exact I0 FU b a aA6 aA0
theorem bd_lp0(parts:dO)(z:aM parts<=20)(q:dO):∀p d b,parts=p++q->aM q<d->(∀x∈q,aM x.2<=20000)->
  ∃r,agr FU parts d (γ p) b=δ r/\(∀i∈b,i∈r)/\γ r<=aM b+aM q*400000000/\∀x∈q,∀(u c:aC) n,n<=11258999068426240->x.2=u++(Gx++(kY n++c))->(n:Int)∈r:=by
 induction q with
 |nil=>intro p d b h o _;obtain⟨d,rfl⟩:=cS d;refine⟨b, ?_,λ_ h=>h,aA2,λx hx=>by cases hx⟩;rw [apl,aif,aA aA5]
 |cons a q t=>
  intro p d b h o l;obtain⟨d,rfl⟩:=cS d;have f:=aV aM h;simp at f o;have j:0<=(aM p:Int)/\(aM p:Int)<(aM parts:Int):=aA0;have v:el parts (aM p:Int)=a:=aB3;have k:=l a aA2;have g:((aM p:Int)+1)=(γ (p++[a]):Int):=aA2;obtain⟨r,y,s,C,w⟩:=t (p++[a]) d (sV FU a.2 b) aA5 aA0 λx hx=>l x (by simp [hx]);refine⟨r, ?_,λi g=>s i (Ei _ _ _ _ g), ?_, ?_⟩
  ·rw [apl,aif,aB j.2,aU j,aU j,v,nt_eq _ _ k,aX,aU (cZ _ aA0 aA0),g,y]
  ·have B:=Uk FU a.2 b;have A:=Y3 k k;rw [bX];omega
  ·intro x hx u c n m e;rcases aP.1 hx with rfl|hx
   ·exact s _ (Uj n m aA0 FU _ b u c aA6 e)
   ·exact w x hx u c n m e
theorem bd_eq(l:dO)(e:aM l<=20)(d:∀x∈l,aM x.2<=20000):
  ∃m:Nat,aio FU l=δ (98::kY m)/\m<=8000000000/\∀x∈l,∀u a:aC,x.2≠u++(Gx++(kY m++a)):=by
 obtain⟨r,o,_,n,k⟩:=bd_lp0 l e l [] FU [] rfl aA6 d;simp at n;obtain⟨m,j,h,q⟩:=bd_lp1 r aA0 FU 0 (λi f=>absurd f (fC _)) aA6;have p:=(QO 17 m aA0).2.2.2;refine⟨m, ?_,aA0,λx hx u a g=>h (k x hx u a m aA0 g)⟩;have c:agr FU l FU 0 []=δ r:=o;have b:agq FU r FU (0:Int)=δ (m:Int):=j;unfold aio;rw [c,aX,b,aX,aU (cZ _ aA0 aA0),Ns,aU aA4];rfl
end Go.Wk
