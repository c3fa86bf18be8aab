/-
  The law RoutingArrives holds (part 5 of 9).
-/
import Derived.Test.YtiefafeoagcedaaGreatDoorYa4
import Derived.Laws.Bits64
import Derived.Lib.IndexMore
open Bool renaming false → ν, true → μ
open List renaming length → γ, set → Ξ
open Option renaming none → ι, some → θ
set_option linter.unusedVariables false
set_option linter.unusedSimpArgs false
set_option maxRecDepth 100000
namespace Go.Wk
open Go.Px
open List renaming length → aR
theorem Sv(s:aC)(c:aR s<=4194304)(b e:Nat)(a:b<=e)(g:e<=aR s):∃k,ayn FU s (b:Int) (e:Int)=θ (k,oS (sub s (b:Int) (e:Int))):=by
 have d:=sub_le s (b:Int) (e:Int);have f:cB cF (sub s (b:Int) (e:Int)) 0<=γ (sub s (b:Int) (e:Int)):=by have:=HI cF ((sub s (b:Int) (e:Int)).drop 0);unfold cB;rw[show Ep 0 (γ (sub s (b:Int) (e:Int)))=0 from apv 0 _ (eJ _)];simp only[WZ]at this⊢;omega
 unfold ayn;rw[aV aA0,lv _ aA0,aS,aV (cJ _ aA0 aA0),wW _ aA0];exact⟨_,Τ⟩
theorem qe(s:aC)(j:aR s<=4194303)(n:Nat):∀i a,aR s-i<=n->n<a->i<=aR s->
  auj FU s a i=θ ((i+dV (λc=> !(c==(62:ζ))) (s.drop i):Nat):Int):=by
 induction n with
 |zero=>intro i a f g d;obtain⟨a,rfl⟩:=cD a;obtain rfl:i=aR s:=aA0;rw[awu,amo,aA aA0,Pu (dC _)];rfl
 |succ n e=>
  intro i a f g d;obtain⟨a,rfl⟩:=cD a;by_cases b:i<aR s
  ·rw[awu,amo,aB aA0,aV aA0,aS,Pb s i b,dV];by_cases h:Υ s (i:Int)=62
   ·rw[h];rfl
   ·rw[aG h,vJ,aO,aV (cJ _ aA0 aA0),qG,e (i+1) a aA0 aA0 b,aB aA8];congr 2;omega
  ·obtain rfl:i=aR s:=by omega
   rw[awu,amo,aA aA0,Pu (dC _)];rfl
theorem SN(s:aC)(T:aR s<=4194303)(n:Nat):∀(i t:Nat) (d:δ (Int×aC)) (b:Nat),aR s-i<=n->n<t->b<=i->i<=aR s->aR d<=i->
  ∃j,aox FU s 44 t d (b:Int) (i:Int)=θ j/\
   (match eZ 0 (sub s (b:Int) (i:Int)) (s.drop i)with
   |.inl l=>∃(g:δ (Int×aC)) (b':Nat),j=.inl (g,(b':Int))/\b'<=aR s/\γ g<=aR s/\g.map (·.2)++[oS (sub s (b':Int) (aR s:Int))]=d.map (·.2)++l
   |.inr e=>∃q a,j=.inr (q,a,e)):=by
 induction n with
 |zero=>intro i t d b W X E y J;obtain⟨t,rfl⟩:=cD t;obtain rfl:i=aR s:=aA0;rw[awv,amq,aA aA0,Pu (dC _),s0n];exact⟨_,Τ,d,b,Τ,aA0,J,Τ⟩
 |succ n D=>
  intro i t d b W X E y J;obtain⟨t,rfl⟩:=cD t;by_cases w:i<aR s
  ·have I:=Pb s i w;have v:sub s (b:Int) ((i+1:Nat):Int)=sub s (b:Int) (i:Int)++[Υ s (i:Int)]:=by rw[mM s b i 1 E,I];rfl
   rw[awv,amq,aB aA0,aV aA0,I,s0c];by_cases p:Υ s (i:Int)=44
   ·obtain⟨k,V⟩:=Sv s aA0 b i E y;have r:¬Υ s (i:Int)=34:=by rw[p];decide
    have f:¬Υ s (i:Int)=60:=by rw[p];decide
    have m:¬Υ s (i:Int)=62:=by rw[p];decide
    rw[aB p,aA r,aA f,aA m,aB p,V,aS,aV aC5,aV (cJ _ aA0 aA0),aV (cJ _ aA0 aA0),qG];obtain⟨j,Y,C⟩:=D (i+1) t (d++[(k,oS (sub s (b:Int) (i:Int)))]) (i+1) aA0 aA0 (dC _) w aC0;refine⟨j,Y,?_⟩;rw[jk]at C;cases K:eZ 0 [] (s.drop (i+1))with
    |inr e=>rw[K]at C;exact C
    |inl l=>rw[K]at C;obtain⟨g,b',P,O,N,M⟩:=C;refine⟨g,b',P,O,N,?_⟩;rw[M,Ru,mi,nW];rfl
   ·rw[aA p];by_cases r:Υ s (i:Int)=34
    ·rw[aB r,aB r,oF s aA0,aS];have Q:sW s (i:Int)=fR (s.drop (i+1)) (i+1) []:=by unfold sW;rw[aA aA0,aA (by rintro(h|h);omega;exact h r),tT]
     have F:=Y7 (γ (s.drop (i+1))) (s.drop (i+1)) (i+1) [] (sub s (b:Int) (i:Int)++[Υ s (i:Int)]) (dC _);have A:=(yR (γ (s.drop (i+1))) (s.drop (i+1)) (i+1) [] (dC _)).2;have H:γ (s.drop (i+1))=aR s-(i+1):=fY;rw[Q];generalize fR (s.drop (i+1)) (i+1) []=U at F A⊢;by_cases B:U.2.2=0
     ·obtain⟨b1,Z⟩:=A B;obtain⟨o,G⟩:∃o:Nat,U.2.1=(o:Int):=⟨U.2.1.toNat,aA0⟩;rw[G]at b1 Z;have L:=F.1 B;rw[G,tT,<-v,<-mM s b (i+1) (o-(i+1)) aA0,AG,show i+1+(o-(i+1))=o by omega]at L;rw[aB B,G,<-v,L];exact D o t d b aA0 aA0 aA0 aA0 aA0
     ·rw[aA B,F.2 B];exact⟨_,Τ,_,_,Τ⟩
    ·rw[aA r,aA r];by_cases m:Υ s (i:Int)=62
     ·have f:¬Υ s (i:Int)=60:=by rw[m];decide
      rw[aB m,aA f,aB m];exact⟨_,Τ,_,_,Τ⟩
     ·rw[aA m];by_cases f:Υ s (i:Int)=60
      ·have hx:eZ 3 (sub s (b:Int) (i:Int)) (s.drop i)=eZ 3 (sub s (b:Int) (i:Int)++[Υ s (i:Int)]) (s.drop (i+1)):=by rw[I,s3c',aA (by rw[f];decide)]
       obtain⟨a1,a2⟩:=ang1 (s.drop i) (sub s (b:Int) (i:Int));have H:γ (s.drop i)=aR s-i:=fY;have u:=Nb (·==(62:ζ)) (s.drop i);have S:=HI (λc=> !(c==(62:ζ))) (s.drop i);rw[aB f,aB f,qe s T (aR s-i) i FU (dC _) aA5 y,aS,<-hx];by_cases z:dV (λc=> !(c==(62:ζ))) (s.drop i)=γ (s.drop i)
       ·rw[aB z]at u;rw[aB aA0,a1 aA0];exact⟨_,Τ,_,_,Τ⟩
       ·rw[aA z]at u;have R:(dN (·==(62:ζ)) (s.drop i)).toNat=dV (λc=> !(c==(62:ζ))) (s.drop i):=by rw[u];simp
        rw[aA aA0,a2 aA0,R];generalize dV (λc=> !(c==(62:ζ))) (s.drop i)=x at*;rw[<-mM s b i (x+1) E,AG,aV (cJ _ aA0 aA0),show((i+x:Nat):Int)+1=((i+(x+1):Nat):Int)by omega];exact D (i+(x+1)) t d b aA0 aA0 aA0 aA0 aA0
      ·rw[aA f,aA f,aA m,aA p,aV (cJ _ aA0 aA0),qG,<-v];exact D (i+1) t d b aA0 aA0 aA0 w aA0
  ·obtain rfl:i=aR s:=by omega
   rw[awv,amq,aA aA0,Pu (dC _),s0n];exact⟨_,Τ,d,b,Τ,aA0,J,Τ⟩
theorem SO(s:aC)(n:aR s<=4194303):∃q a,bch FU s 44=θ (q,a,(match eZ 0 [] s with|.inl _=>0|.inr e=>e))/\(∀l,eZ 0 [] s=.inl l->q.map (·.2)=l/\γ q<=aR s+1):=by
 obtain⟨j,p,b⟩:=SN s n (γ s) 0 FU [] 0 aA0 aA5 (dC _) (eJ _) (dC _);have d:aox FU s 44 FU [] 0 0=θ j:=p;rw[jk,WZ]at b;unfold bch;have e:((wh FU 44).bind λ(c:η)=>bif c then θ μ else if(44:ζ)=(34:ζ)then θ μ else if(44:ζ)=(60:ζ)then θ μ else θ (decide ((44:ζ)=(62:ζ))))=θ ν:=by kernel_rfl
 rw[e,aS,d,aS];cases f:eZ 0 [] s with
 |inr e=>rw[f]at b;obtain⟨q,a,rfl⟩:=b;exact⟨q,a,Τ,λl h=>by cases h⟩
 |inl l=>rw[f]at b;obtain⟨g,b',rfl,m,r,i⟩:=b;obtain⟨k,o⟩:=Sv s aA0 b' (γ s) m (dC _);rw[qL];dsimp only;rw[o,aS,aV aC5];refine⟨_,_,Τ,λl' h=> ?_⟩;have:=Sum.inl.inj h;subst this;rw[Ru,mi,i];exact⟨Τ,by rw[cR,fE];omega⟩
theorem V8(c:((δ (Int×aC))×Int×ζ))(k:aR c.1<=4194304)(q:δ (Int×aC)):∀(p:δ (Int×aC)) (b:Nat),c.1=p++q->aR q<b->
  aqt FU c b (p.map (·.2)) (aR p:Int)=θ (if(q.map (·.2)).any (λx=>decide (x=[]))=μ then .inr ([],5)else .inl (c.1.map (·.2))):=by
 induction q with
 |nil=>intro p b h f;obtain⟨b,rfl⟩:=cD b;rw[gV]at h;rw[bev,atu,aA aB8,h];rfl
 |cons a q g=>
  intro p b h f;obtain⟨b,rfl⟩:=cD b;have i:=bM aR h;simp only[cR,dT]at i f;have d:(0:Int)<=(aR p:Int)/\(aR p:Int)<(aR c.1:Int):=aA0;have j:el c.1 (aR p:Int)=a:=aB3;rw[bev,atu,aB d.2,aV d,aV d,j,qO,GY];by_cases e:a.2=[]
  ·rw[aB e,aH e,Bool.true_or,aB rfl]
  ·rw[aA e,aG e,jE,aV d,aV d,aV (by simp only[Gj,fE];omega),aV (cJ _ aA0 aA0)];have:=g (p++[a]) b aA7 aA0;rw[Ru,mi]at this;rw[show((aR p:Int)+1)=(γ (p++[a]):Int)by simp];exact this
theorem V9(v:aC)(g:aR v<=4194303):bew FU v=θ (Lv v):=by
 obtain⟨q,a,j,i⟩:=SO v g;unfold bew Lv;rw[j,aS];have d:=IK v 0 [];cases f:eZ 0 [] v with
 |inr e=>dsimp only;rw[aA (d e f)]
 |inl l=>
  obtain⟨h,k⟩:=i l f;dsimp only;have:=V8 (q,a,0) aE2 q [] FU Τ aA5;have b:aqt FU (q,a,0) FU [] (0:Int)=_:=this;rw[aB rfl,b,aS,h];by_cases c:l.any (λx=>decide (x=[]))=μ
  ·rw[aB c,aB c,GX]
  ·rw[aA c,aA c,qL]
open Int renaming toNat → bR
open List renaming drop → dG, length → aR, take → eP
theorem JV(h:HH)(name:aC)(d:aR h.1<=4194303)(c:aR name<=4194303):azv FU h.1 name=θ (mE name h):=by
 unfold azv mE pN;rw[bhk h.1 aA0,aS,bhk name aA0,aS];by_cases b:(mC name).2=0
 ·by_cases a:(mC h.1).2=0
  ·rw[aB a,aB b,aH b,aH a,AO,AO,aS]
  ·rw[aA a,aG a,Bool.and_false,XW,aS]
 ·rw[aG b,XW,XW];by_cases a:(mC h.1).2=0
  ·rw[aB a,aA b,aS]
  ·rw[aA a,aS]
theorem SP(s:aC)(a:aR s<=4194303):ayd FU s=θ (Ax s):=by
 unfold ayd Ax;rw[bhk s aA0,aS];by_cases h:(mC s).2=0
 ·rw[aB h,aB h]
 ·rw[aA h,aA h]
theorem W0(name:aC)(k:aR name<=4194303)(l:δ HH)(g:Sm l)(q:δ HH):∀(p:δ HH) (b:Nat),l=p++q->aR q<b->
  aqr FU l name b (aR p:Int)=θ (if uF (mE name) q= -1 then .inl ()else .inr ((aR p:Int)+uF (mE name) q)):=by
 induction q with
 |nil=>intro p b h i;obtain⟨b,rfl⟩:=cD b;rw[gV]at h;rw[bes,atp,aA aB8];rfl
 |cons a q j=>
  intro p b h i;obtain⟨b,rfl⟩:=cD b;have d:=bM aR h;simp only[cR,dT]at d i;have iD:=g.1;have e:(0:Int)<=(aR p:Int)/\(aR p:Int)<(aR l:Int):=aA0;have m:el l (aR p:Int)=a:=aB3;have n:=(g.2 a aA7).1;rw[bes,atp,aB e.2,aV e,aV e,m,JV a name n k,aS,uF];by_cases f:mE name a=μ
  ·rw[f,aB rfl,aA aA1];simp
  ·rw[aA f,show mE name a=ν by simpa using f,aV (cJ _ aA0 aA0)];have:=j (p++[a]) b aA7 aA0;rw[show((aR p:Int)+1)=(γ (p++[a]):Int)by simp];rw[aJ,this];have o:=Nc (mE name) q;by_cases c:uF (mE name) q= -1
   ·rw[aB c,aB c,aB rfl]
   ·rw[aA c,aA c,aA aA0,cR,fE];congr 2;omega
theorem W1(name:aC)(c:aR name<=4194303)(l:δ HH)(b:Sm l):axe FU l name=θ (uF (mE name) l):=by
 unfold axe;have:=W0 name c l b l [] FU Τ (by have:=b.1;rw[eG];omega);have a:aqr FU l name FU 0=_:=this;rw[a,aS];by_cases h:uF (mE name) l= -1
 ·rw[aB h,qL,h]
 ·rw[aA h];simp
theorem Y4(m:MM)(name value:aC)(b:Sm m.2.2.2.2.1)(a:aR name<=4194303):
  baq FU m name value=θ (m.1,m.2.1,m.2.2.1,m.2.2.2.1,nE m.2.2.2.2.1 (max (uF (mE name) m.2.2.2.2.1) 0) (Ax name,value),m.2.2.2.2.2):=by
 unfold baq axd;have iD:=b.1;have e:=Nc (mE name) m.2.2.2.2.1;have c:=JS (mE name) m.2.2.2.2.1;rw[W1 name a _ b,aS,show max (0:Int) (uF (mE name) m.2.2.2.2.1)=max (uF (mE name) m.2.2.2.2.1) 0 by omega];generalize d:max (uF (mE name) m.2.2.2.2.1) 0=i;have g:γ (eP (bR i) m.2.2.2.2.1)<=aR m.2.2.2.2.1:=aB5;have f:γ (dG (bR i) m.2.2.2.2.1)<=aR m.2.2.2.2.1:=aB6;rw[aV aA0,aV (by rw[tU];omega),SP name a,aS,aV (by rw[yL,fE];omega),aV aA0,aV (by rw[yL,cR,fE];omega),aS];unfold nE;rw[yL,nW];rfl
theorem X9(m:MM)(name:aC)(o:aR name<=4194303)(i:Sm m.2.2.2.2.1)(q:δ HH):∀(p:δ HH) (b:Nat) (out:δ HH),m.2.2.2.2.1=p++q->aR q<b->aR out<=aR p->
  aly FU m name b out (aR p:Int)=θ (out++q.filter (λh=> !mE name h)):=by
 induction q with
 |nil=>intro p b out h l n;obtain⟨b,rfl⟩:=cD b;rw[gV]at h;rw[aye,aos,aA aB8];simp
 |cons a q g=>
  intro p b out h l n;obtain⟨b,rfl⟩:=cD b;have e:=bM aR h;simp only[cR,dT]at e l;have iD:=i.1;have c:(0:Int)<=(aR p:Int)/\(aR p:Int)<(aR m.2.2.2.2.1:Int):=aA0;have r:el m.2.2.2.2.1 (aR p:Int)=a:=aB3;have s:=(i.2 a aA7).1;have j:((aR p:Int)+1)=(γ (p++[a]):Int):=aA2;have k:bK ((aR p:Int)+1):=cJ _ aA0 aA0;rw[aye,aos,aB c.2,aV c,aV c,r,JV a name s o,aS];by_cases f:mE name a=μ
  ·rw[f,iV,aJ,aV k,j,g (p++[a]) b out aA7 aA0 aC0,GU (by simp[f])]
  ·have d:mE name a=ν:=by simpa using f
   rw[d,vJ,aO,aV c,aV c,aV aC5,aV k,j,g (p++[a]) b (out++[a]) aA7 aA0 (by rw[cR,fE,cR,fE];omega),List.filter_cons_of_pos (by simp[d])];simp
theorem Y5(m:MM)(name:aC)(b:Sm m.2.2.2.2.1)(c:aR name<=4194303):
  bar FU m name=θ (m.1,m.2.1,m.2.2.1,m.2.2.2.1,m.2.2.2.2.1.filter (λh=> !mE name h),m.2.2.2.2.2):=by
 unfold bar axd;have iD:=b.1;have:=X9 m name c b m.2.2.2.2.1 [] FU [] Τ aA5 (dC _);have a:aly FU m name FU [] 0=_:=this;rw[a,aS,aS,yL]
theorem X7(h:HH)(e:aR h.1<=4194303)(c:aR h.2<=4194303):avw FU h=θ (PJ h):=by
 unfold avw PJ;rw[Qm h.1 aA0,aS];have b:(if(mC h.1).2=0 then vQ (mC h.1).1 else ν)=Lt h.1:=Τ;rw[b];cases d:Lt h.1 with
 |false=>rw[aJ,aA aA1]
 |true=>
  rw[aO,aB rfl,V9 h.2 c,aS];unfold Fz;by_cases a:(Lv h.2).2=0
  ·rw[aB a,aB a]
  ·rw[aA a,aA a]
theorem ov(a:MM)(g:aR a.2.2.2.2.1<=4194304)(q:δ HH):∀(p:δ HH) (b:Nat),a.2.2.2.2.1=p++q->aR q<b->aqs FU a a b (aR p:Int)=θ (.inl ()):=by
 induction q with
 |nil=>intro p b h e;obtain⟨b,rfl⟩:=cD b;rw[gV]at h;rw[bet,atq,aA aB8]
 |cons x q f=>intro p b h e;obtain⟨b,rfl⟩:=cD b;have d:=bM aR h;simp only[cR,dT]at d e;have c:(0:Int)<=(aR p:Int)/\(aR p:Int)<(aR a.2.2.2.2.1:Int):=aA0;rw[bet,atq,aB c.2,aV c,aV c,aV c,aV c,aB rfl,aV (cJ _ aA0 aA0),show((aR p:Int)+1)=(γ (p++[x]):Int)by simp];exact f (p++[x]) b aA7 aA0
theorem ox(a:MM)(c:aR a.2.2.2.2.1<=4194304):Zr FU a a=θ μ:=by unfold Zr;have:=ov a c a.2.2.2.2.1 [] FU Τ aA5;have b:aqs FU a a FU 0=_:=this;rw[aB rfl,aB rfl,aB rfl,aB rfl,aB rfl,aH rfl,iV,aS,aJ,b,aS,qL]
open Sum renaming elim → dQ
abbrev PP:=aC×aC×η
theorem ew{c:Type}[Inhabited c](p:c->η)(l:δ c)(F:Nat->Int->ε (Unit⊕Int))
  (o:∀a,F (a+1) (γ l)=θ (.inl ()))
  (m:∀a k,k<γ l->p (el l k)=μ->F (a+1) k=θ (.inr k))
  (i:∀a k,k<γ l->p (el l k)=ν->F (a+1) k=F a (k+1)) (n:Nat):
  ∀k a,k+n=γ l->n<a->F a k=θ (match(l.drop k).findIdx? p with|none=>.inl ()|some j=>.inr ((k+j:Nat))):=by
 induction n with
 |zero=>intro k a e f;obtain⟨a,rfl⟩:=cD a;obtain rfl:k=γ l:=aA0;rw[o,WX];rfl
 |succ n d=>
  intro k a e f;obtain⟨a,rfl⟩:=cD a;have b:k<γ l:=aA0;have g:l.drop k=el l k::l.drop (k+1):=by rw[Nz _ _ b,zbC b]
  rw[g,List.findIdx?_cons];cases h:p _ with
  |true=>rw[m a k b h];rfl
  |false=>
   rw[i a k b h,qG,d _ a bA bA];cases(l.drop _).findIdx? p with
   |none=>rfl
   |some j=>show θ (Sum.inr _)=θ (Sum.inr _);congr 2;show((k+1+j:Nat):Int)=((k+(j+1):Nat):Int);omega
theorem Us{c:Type}[Inhabited c](p:c->η)(l:δ c)(g:γ l<=4194304)(F:Nat->Int->ε (Unit⊕Int))
  (f:∀b,F (b+1) (γ l)=θ (.inl ()))
  (e:∀b k,k<γ l->p (el l k)=μ->F (b+1) k=θ (.inr k))
  (d:∀b k,k<γ l->p (el l k)=ν->F (b+1) k=F b (k+1)):F FU 0=θ (match l.findIdx? p with|none=>.inl ()|some j=>.inr (j)):=by
 have:=ew p l F f e d (γ l) 0 FU bA aA5;rw[WZ]at this;have a:F FU 0=_:=this;rw[a];cases l.findIdx? p with
 |none=>rfl
 |some j=>show θ (Sum.inr _)=θ (Sum.inr _);congr 2;omega
def fIdx(o:ε Nat):Int:=match o with|none=> -1|some j=>j
variable{a:Type}
theorem FK(p:a->η)(l:δ a):decide (0<=fIdx (l.findIdx? p))=l.any p:=by
 rw[<-List.findIdx?_isSome];cases l.findIdx? p with
 |none=>rfl
 |some j=>show decide (0<=j)=μ;rw[bL];omega
theorem EP(l:δ PP)(d:γ l<=4194304)(name:aC):apf FU l name=θ (l.any λp=>p.1==name):=by
 have h:=Us (λp:PP=>p.1==name) l d (acf FU l name)
  (λb=>by rw[adh,abj,aA bA])
  (λb k f h=>by have a:(el l (k:Int)).1=name:=aA8;rw[adh,abj,aB bA,aV bA,aV bA];unfold auq;rw[aS,aH a,aO])
  (λb k f h=>by have a:¬(el l k).1=name:=aA8;rw[adh,abj,aB bA,aV bA,aV bA];unfold auq;rw[aS,aG a,aJ,eF])
 unfold apf aea aeu;rw[h,aS];have e:dQ (λc=>θ (-1)) (λq=>θ q) (match l.findIdx? (λp:PP=>p.1==name)with|none=>(Sum.inl ())|some j=>Sum.inr (j:Int))=θ (fIdx (l.findIdx? (λp:PP=>p.1==name))):=by cases l.findIdx? _<;>rfl
 rw[e,aS,FK];rfl
def yK(l:δ PP)(name:aC):ζ:=if(l.any λp=>p.1==name)=μ then 7 else if 16<=γ l then 4 else 0
theorem NI(l:δ PP)(a:γ l<=4194304)(name:aC):arc FU l name=θ (yK l name):=by
 unfold arc yK;rw[EP l a,aS];cases l.any λp=>p.1==name with
 |true=>rfl
 |false=>
  rw[aJ,aA (show¬(ν=μ)by decide)];by_cases h:16<=γ l
  ·rw[aB bA,aB h]
  ·rw[aA bA,aA h]
theorem PK(l:δ PP)(k:Nat)(h:k<γ l):el l k∈l:=Yv l k h
theorem SW(l:δ PP)(e:γ l<=4194304)(c:∀p∈l,γ p.1<=4194304)(name:aC)(f:γ name<=4194304):bex FU l name=θ (fIdx (l.findIdx? λp=>cZ p.1==cZ name)):=by
 have h:=Us (λp:PP=>cZ p.1==cZ name) l e (avz FU l name)
  (λd=>by rw[ayk,aov,aA bA])
  (λd k a h=>by have b:cZ (el l (k:Int)).1=cZ name:=aA8;have:=c _ (PK l k a);rw[ayk,aov,aB bA,aV bA,aV bA,XM _ bA,aS,XM _ bA,aS,aB b])
  (λd k a h=>by have b:¬cZ (el l k).1=cZ name:=aA8;have:=c _ (PK l k a);rw[ayk,aov,aB bA,aV bA,aV bA,XM _ bA,aS,XM _ bA,aS,aA b,eF])
 unfold bex;rw[h];cases l.findIdx? _<;>rfl
theorem Cj(l:δ PP)(j:γ l<=4194304)(g:∀p∈l,γ p.1<=4194304)(name:aC)(i:γ name<=4194304)(f:∀p∈l,cZ p.1=p.1)(d:cZ name=name):WC FU l name=θ (yK l name):=by
 unfold WC yK;have e:l.any (λp=>p.1==name)=l.any (λp=>cZ p.1==cZ name):=by
  rw[fX,eK,eK];constructor
  ·rintro⟨p,a,h⟩;exact⟨p,a,by rw[f p a,d];exact h⟩
  ·rintro⟨p,a,h⟩;exact⟨p,a,by rw[f p a,d]at h;exact h⟩
 rw[SW l j g name i,aS,e];have b:=FK (λp:PP=>cZ p.1==cZ name) l;cases c:l.any _ with
 |true=>rw[c,bL]at b;rw[aB b,aB rfl]
 |false=>
  rw[c,bT]at b;rw[aA b,aA (show¬(ν=μ)by decide)];by_cases h:16<=γ l
  ·rw[aB bA,aB h]
  ·rw[aA bA,aA h]
def kI (s : aC) : Nat -> δ PP -> Nat -> δ PP × Int × ζ
  | 0,_,_ => ([],0,0)
  | f + 1,l,i =>
    if γ s <= cB cF s (i : Int) then (l,0,0)
    else if ¬ Υ s ((cB cF s (i : Int) : Nat) : Int) = 59 then ([],((cB cF s (i : Int) : Nat) : Int),5)
    else if (yJ s (cB cF s ((cB cF s (i : Int) + 1 : Nat) : Int))).2.2.1 = 0 then
      (if yK l (yJ s (cB cF s ((cB cF s (i : Int) + 1 : Nat) : Int))).1.1 = 0 then kI s f (l ++ [(yJ s (cB cF s ((cB cF s (i : Int) + 1 : Nat) : Int))).1]) (yJ s (cB cF s ((cB cF s (i : Int) + 1 : Nat) : Int))).2.2.2.2.toNat
       else ([],((cB cF s ((cB cF s (i : Int) + 1 : Nat) : Int) : Nat) : Int),yK l (yJ s (cB cF s ((cB cF s (i : Int) + 1 : Nat) : Int))).1.1))
    else ([],(yJ s (cB cF s ((cB cF s (i : Int) + 1 : Nat) : Int))).2.1,(yJ s (cB cF s ((cB cF s (i : Int) + 1 : Nat) : Int))).2.2.1)
theorem low2:∀c:ζ,fQ (fQ c)=fQ c:=hY _ aA4
theorem lL(l:aC):cZ (cZ l)=cZ l:=by unfold cZ;rw[tP];apply xj;intro c _;exact low2 c
theorem DJ(s:aC)(n:γ s<=4194304)(b:Nat)(o:b<=γ s)(a:(yJ s b).2.2.1=0):(yJ s b).2.2.2.1=s/\b+1<=(yJ s b).2.2.2.2/\(yJ s b).2.2.2.2<=γ s+1/\cZ (yJ s b).1.1=(yJ s b).1.1/\γ (yJ s b).1.1<=γ s/\γ (yJ s b).1.2.1<=90000000:=by
 have k:=Qc eN s b o;have f:=pO eN s (b:Int);unfold yJ at a⊢;generalize r:cB eN s (b:Int)=t at k f a⊢;have i:=pO cF s (t:Int);have j:=Qc cF s t f;have c:γ (cZ (sub s (b:Int) (t:Int)))<=γ s:=by unfold cZ;rw[Gj,Qb];omega
 by_cases l:t=b
 ·rw[aB l]at a;exact absurd a (show¬((5:ζ)=0)by decide)
 ·rw[aA l]at a⊢;generalize q:cB cF s (t:Int)=y at j i a⊢;cases g:cX s y 61 with
  |false=>rw[aB rfl];exact⟨Τ,by simp only;omega,by simp only;omega,lL _,c,aA2⟩
  |true=>
   have m:=(Eu g).1;rw[g]at a;rw[aA (show¬(μ=ν)by decide)];have h:=Qc cF s (y+1) bA;have d:=pO cF s ((y+1:Nat):Int);generalize p:cB cF s ((y+1:Nat):Int)=z at h d a⊢;by_cases e:(kF s z).2.2=0
   ·have:=MV s n z d;rw[aB e];exact⟨Τ,by simp only;have:=(this.2 e).1;omega,by simp only;exact(this.2 e).2,lL _,c,this.1⟩
   ·rw[aA e]at a;exact absurd a e
theorem TL(s:aC)(m:γ s<=4194304)(n:Nat):∀k e (l:δ PP),γ s-k<=n->n<e->k<=4194305->γ l<=16->
  aoi FU e l s k=θ (kI s (n+1) l k):=by
 have L:¬(ν=μ):=aA1;induction n with
 |zero=>
  intro k e l w A z x;obtain⟨e,rfl⟩:=cD e;have u:=pO cF s k;have B:γ s<=cB cF s k:=by unfold cB Ep;omega
  rw[azh,anb,zr s m,aS,nI,aS,aH bA,aO,kI,aB B]
 |succ n v=>
  intro k e l w A z x;obtain⟨e,rfl⟩:=cD e;have u:=pO cF s k;have p:=Qc cF s k;rw[kI,azh,anb,zr s m,aS,nI,aS];generalize E:cB cF s k=j at u p⊢;by_cases t:γ s<=j
  ·rw[aH bA,aO,aB t]
  ·have y:k<=γ s:=by
    rcases Ia (γ s) k with h|h
    ·exfalso;have:cB cF s k=γ s:=by have a:=pO cF s k;unfold cB Ep at a⊢;omega
     omega
    ·exact h
   rw[aG bA,aJ,aA t,HG,aS];have o:j<γ s:=aA0;unfold cX;rw[aH o,AO];by_cases d:Υ s j=59
   ·have g:(Υ s j==59)=μ:=by simpa using d
    rw[g,iV,aJ,aA aD5];simp only;rw[eF,zr s m,aS,tZ];have f:=pO cF s (j+1:Nat);have q:=Qc cF s (j+1) bA;generalize F:cB cF s ((j+1:Nat):Int)=b at q f⊢;rw[UA s m b f,aS];by_cases i:(yJ s b).2.2.1=0
    ·obtain⟨C,K,J,I,H,G⟩:=DJ s m b f i;rw[aB i,aB i,NI l bA,aS,aS];by_cases c:yK l (yJ s b).1.1=0
     ·have r:γ l<16:=by
       unfold yK at c;split at c
       ·exact absurd c aA1
       ·split at c
        ·exact absurd c aA1
        ·omega
      have D:(yJ s b).2.2.2.2=(((yJ s b).2.2.2.2.toNat:Nat):Int):=aA0;rw[aB c];rw[aB c,aV aA3,C,D];have:=v (yJ s b).2.2.2.2.toNat e (l++[(yJ s b).1]) bA bA bA aA3;congr 2
     ·rw[aA c];rw[aA c]
    ·rw[aA i,aA i,aS];rw[aA i]
   ·have g:(Υ s j==59)=ν:=by simpa using d
    rw[g,vJ,aO,aB d]
def oJ(s:aC):δ PP×Int×ζ:=kI s (γ s+1) [] 0
theorem TM(s:aC)(a:γ s<=4194304):awg FU s=θ (oJ s):=by exact TL s a (γ s) 0 FU [] bA aA5 bA aA2
theorem SD(p:ζ->η)(s:aC)(i:Int):cB p s (cB p s i)=cB p s i:=by
 have g:=pO p s i;by_cases h:cB p s i<γ s
 ·refine IL p s _ h ?_;unfold cB at h⊢;generalize Ep i (γ s)=c at h⊢
  have:∀l:aC,dV p l<γ l->p (Υ l (dV p l))=ν:=by
   intro l;induction l with
   |nil=>intro h;simp at h
   |cons a l f=>
    intro h;cases b:p a with
    |false=>simp[dV,b,Υ]
    |true=>
     have e:dV p (a::l)=dV p l+1:=by simp[dV,b]
     rw[e]at h⊢;have:=f (by simp at h;omega);simpa [Υ] using this
  have d:=this (s.drop c) aB6;have e:Υ (s.drop c) (dV p (s.drop c))=Υ s ((c+dV p (s.drop c)):Int):=by simp only[Υ,bF,bV];congr 2
  rw[e]at d;exact d
 ·have:cB p s i=γ s:=by omega
  rw[this];exact Sr p s
def aj(j:(δ PP)⊕((δ PP)×Int×ζ)):ε ((δ PP)×Int×ζ):=dQ (λa=>θ (a,0,0)) (λq=>θ q) j
theorem CB(s:aC)(r:γ s<=4194304)(n:Nat):∀k e (l:δ PP),γ s-k<=n->n<e->k<=4194305->γ l<=16->(∀p∈l,cZ p.1=p.1/\γ p.1<=4194304)->
  ((aml FU s e l (cB cF s k)).bind aj)=θ (kI s (n+1) l k):=by
 have ff:¬(ν=μ):=aA1;induction n with
 |zero=>
  intro k e l S X V T D;obtain⟨e,rfl⟩:=cD e;have N:=pO cF s k;have Z:γ s<=cB cF s k:=by unfold cB Ep;omega
  rw[bbu,aqc,aA bA,kI,aB Z];rfl
 |succ n O=>
  intro k e l S X V T D;obtain⟨e,rfl⟩:=cD e;have N:=pO cF s k;have I:=Qc cF s k;rw[kI,bbu,aqc];by_cases J:γ s<=cB cF s k
  ·rw[aA bA,aB J];rfl
  ·have U:k<=γ s:=by
    rcases Ia (γ s) k with h|h
    ·exfalso;have:cB cF s k=γ s:=by have a:=pO cF s k;unfold cB Ep at a⊢;omega
     omega
    ·exact h
   generalize hj:cB cF s k=j at N I J⊢;rw[aB bA,aA J,aV bA];have W:j<γ s:=aA0;by_cases g:Υ s j=59
   ·rw[aB g,aA aE4,eF,lv s r,aS,tZ];have C:=pO cF s (j+1:Nat);have K:=Qc cF s (j+1) bA;generalize hb:cB cF s ((j+1:Nat):Int)=b at K C⊢;have H:=Qc eN s b C;have u:=pO eN s (b:Int);rw[beh s bA,aS];have app:∀(v:aC) (c:η) (pos:Nat),(b:Int)+1<=(pos:Int)->(pos:Int)<=(γ s:Int)+1->∀nm:aC,cZ nm=nm->γ nm<=4194304->
      (((WC FU l nm).bind λ(i:ζ)=>if i=(0:ζ)then(gd ((γ l+γ ([(nm,v,c)]:δ PP))*40<=140737488355328)<|aml FU s e (l++([(nm,v,c)]:δ PP)) ((cB cF s (pos:Int):Nat):Int))else θ (.inr (([]:δ PP),(b:Int),i))).bind aj)=θ (if yK l nm=0 then kI s (n+1) (l++[(nm,v,c)]) pos else([],(b:Int),yK l nm)):=by
     intro v c pos R Q nm x A;rw[Cj l bA (λp d=>(D p d).2) nm A (λp d=>(D p d).1) x,aS];by_cases f:yK l nm=0
     ·have M:γ l<16:=by
       unfold yK at f;split at f
       ·exact absurd f aA1
       ·split at f
        ·exact absurd f aA1
        ·omega
      rw[aB f,aB f,aV aA3];exact O pos e (l++[(nm,v,c)]) bA bA bA aA3 (λp d=>by
       rcases aZ.1 d with h|h
       ·exact D p h
       ·rw[aF.1 h];exact⟨x,A⟩)
     ·rw[aA f,aA f];rfl
    unfold yJ;generalize ht:cB eN s _=t at H u⊢;by_cases B:t=b
    ·rw[aB bA,aB B];rfl
    ·have F:=pO cF s t;have G:=Qc cF s t u;have m:γ (cZ (sub s b t))<=4194304:=by unfold cZ;rw[Gj,Qb];omega
     rw[aA bA,aA B,aV bA,XM _ aC3,aS,lv s r,aS];have hid:=SD cF s t;generalize hy:cB cF s _=y at G F hid⊢;rw[Xc,aS];cases L:cX s y 61 with
     |false=>rw[aB rfl];have:=app [] ν y bA bA _ (lL _) m;rw[hid]at this;exact this
     |true=>
      have P:=(Eu L).1;rw[aA (show¬(μ=ν)by decide),eF,lv s r,aS,tZ];have E:=Qc cF s (y+1) bA;have o:=pO cF s ((y+1:Nat):Int);generalize hz:cB cF s ((y+1:Nat):Int)=z at E o⊢;rw[ZO s r z o,aS];by_cases q:(kF s z).2.2=0
      ·have Y:=(MV s r z o).2 q;obtain⟨pos,w⟩:∃pos:Nat,(kF s z).2.1=(pos:Int):=⟨(kF s z).2.1.toNat,aA0⟩;rw[aB q,lv s r,aS,aB q,w];have:=app (kF s z).1 μ pos bA bA _ (lL _) m;exact this
      ·rw[aA q,aA q,aA q];rfl
   ·rw[aA g,aB g];rfl
theorem CD(s:aC)(a:γ s<=4194304):bag FU s=θ (oJ s):=by unfold bag;rw[lv s a];exact CB s a (γ s) 0 FU [] bA aA5 bA aA2 aA2
def quoT(s:aC):aC:=34::(s.flatMap zN++[34])
theorem yw{p:Prop}{b:Decidable p}(h:p){x:ε a}: @gd _ p b x=x:=by unfold gd;exact aB h
theorem Lg(s:aC)(d:γ s<=4194304):aty FU s=θ (!s.any jD):=by
 have h:=nP (λc=> !jD c) s d ν (atx FU s)
  (λb=>by rw[aws,amg,aA bA])
  (λb k f h=>by have a:jD (Υ s (k:Int))=μ:=aA8;rw[aws,amg,aB bA,eF,bhj,aS,a,aO])
  (λb k f h=>by have a:jD (Υ s (k:Int))=ν:=aA8;rw[aws,amg,aB bA,eF,bhj,aS,a,aJ,eF])
 unfold aty;rw[h,aS];have e:s.all (λc=> !jD c)= !s.any jD:=by rw[GR]
 rw[e];cases s.any jD<;>rfl
open Go.Op renaming bytesLess → qK
theorem room0(pre:δ PP)(nm:aC):(yK pre nm=0)↔((pre.any λq=>q.1==nm)=ν/\γ pre<16):=by
 unfold yK;cases pre.any λq=>q.1==nm with
 |true=>simp
 |false=>
  by_cases h:16<=aR pre
  ·rw[aB h];simp;omega
  ·rw[aA h];simp;omega
theorem Z6(x:PP):(x.1,x.2.1,x.2.2)=x:=rfl
theorem rP:∀x y:aC,qK x y= !(qK y x||y==x)
 |[],[]=>rfl
 |[],b::y=>rfl
 |a::x,[]=>rfl
 |a::x,b::y=>by
  have g:=rP x y;rw[qK,qK,g];rcases Nat.lt_trichotomy a.toNat b.toNat with h|h|h
  ·have f:a<b:=h;have d:¬b<a:=by rw[mg];omega
   have c:¬a=b:=λe=>by subst e;omega
   have i:(b::y==a::x)=ν:=by simp;intro e;exact absurd e.symm c
   rw[i];simp[f,d];exact .inl λe=>c e.symm
  ·have e:=jB.1 h;subst e;simp
  ·have f:b<a:=h;have d:¬a<b:=by rw[mg];omega
   have c:¬a=b:=λe=>by subst e;omega
   simp[f,d,c]
def UP(a b:aC):η:= !(qK a b||a==b)
def Eb(x:PP):δ PP->δ PP
 |[]=>[x]
 |a::V=>bif UP a.1 x.1 then a::Eb x V else x::a::V
def nC(x:PP)(l:δ PP):δ PP:=(Eb x l.reverse).reverse
theorem Uf(x a:PP)(l:δ PP):nC x (l++[a])=bif UP a.1 x.1 then nC x l++[a]else l++[a,x]:=by unfold nC;rw[List.reverse_append,List.reverse_singleton,fJ,Eb];cases UP a.1 x.1<;>simp
theorem EL(x:PP):∀V:δ PP,γ (Eb x V)=aR V+1
 |[]=>rfl
 |a::V=>by
  rw[Eb];cases UP a.1 x.1 with
  |true=>rw[aO,dT,EL x V,dT]
  |false=>rfl
theorem Ni(x:PP)(l:δ PP):γ (nC x l)=aR l+1:=by unfold nC;rw[Gg,EL,Gg]
theorem Nh(x y:PP):∀V:δ PP,y∈Eb x V->y=x\/y∈V
 |[],h=>by left;simpa [Eb] using h
 |a::V,h=>by
  rw[Eb]at h;cases b:UP a.1 x.1 with
  |true=>
   rw[b]at h;rcases aQ.1 h with rfl|h
   ·right;simp
   ·rcases Nh x y V h with h|h
    ·exact .inl h
    ·right;simp[h]
  |false=>
   rw[b]at h;rcases aQ.1 h with rfl|h
   ·left;rfl
   ·right;exact h
theorem cz(x y:PP)(l:δ PP)(h:y∈nC x l):y=x\/y∈l:=by
 rcases Nh x y _ (List.mem_reverse.1 h)with h|h
 ·exact .inl h
 ·exact .inr (List.mem_reverse.1 h)
def xP(l:δ PP):δ PP:=l.foldl (λout x=>nC x out) []
theorem FB:∀(q p:δ PP),γ (q.foldl (λout x=>nC x out) p)=aR p+aR q
 |[],p=>by simp
 |a::q,p=>by rw[QW,FB q,Ni,dT];omega
theorem FA(y:PP):∀(q p:δ PP),y∈q.foldl (λout x=>nC x out) p->y∈p\/y∈q
 |[],p,h=>.inl h
 |a::q,p,h=>by
  rcases FA y q _ h with h|h
  ·rcases cz a y p h with h|h
   ·right;simp[h]
   ·exact .inl h
  ·right;simp[h]
theorem Ub(l:δ PP):γ (xP l)=aR l:=by unfold xP;rw[FB];simp
theorem UG(l:δ PP)(y:PP)(h:y∈xP l):y∈l:=by
 rcases FA y l [] h with h|h
 ·simp at h
 ·exact h
theorem IU(l:δ PP)(out:δ PP)(i:Int)(x:PP)(hx:el l i=x)(c:0<=i/\i<aR l)(r:aR out<=4194304)(n:Nat):∀a,n<=aR out->n<a->
  ∃k:Nat,k<=n/\amk FU l out i a n=θ (k:Int)/\(out.take n).take k++([x]++(out.take n).drop k)=nC x (out.take n):=by
 induction n with
 |zero=>intro a j o;obtain⟨a,rfl⟩:=cD a;exact⟨0,dC _,by rw[auz];rfl,Τ⟩
 |succ n d=>
  intro a j o;obtain⟨a,rfl⟩:=cD a;have e:((n+1:Nat)-1)=(n:Int):=aA0;have b:n<aR out:=aA0;have g:out.take (n+1)=out.take n++[el out (n:Int)]:=wQ out n b;rw[auz,aqb,aB bA,e,aV (cJ _ bA bA),aV bA,aV bA,aV c,aV c,hx,aS,g,Uf];have m:(!(qK (el out _).1 x.1||(el out n).1==x.1))=UP (el out _).1 x.1:=Τ;rw[m];have f:γ (out.take n)=n:=aB5;cases h:UP (el out _).1 x.1 with
  |true=>obtain⟨k,s,q,p⟩:=d a bA bA;refine⟨k,aA0,by rw[aO,aV (cJ _ bA bA),q],?_⟩;rw[<-p,iG bA,iI bA];simp
  |false=>refine⟨n+1,dC _,by rw[aJ],?_⟩;rw[xi aA3,Pu aA3];simp
theorem SU(l:δ PP)(r:aR l<=4194304)(q:δ PP):∀p c (out:δ PP),l=p++q->aR q<c->aR out=aR p->
  ajk FU l c out (γ p)=θ (q.foldl (λout x=>nC x out) out):=by
 induction q with
 |nil=>intro p c out h e j;obtain⟨c,rfl⟩:=cD c;rw[gV]at h;rw[ava,alh,aA aB8];rfl
 |cons a q i=>intro p c out h e j;obtain⟨c,rfl⟩:=cD c;have d:=bM aR h;simp at d e;have b:(0:Int)<=(aR p:Int)/\(aR p:Int)<(aR l:Int):=aA0;have f:el l (aR p:Int)=a:=aB3;obtain⟨k,s,n,g⟩:=IU l out (aR p:Int) a f b bA (γ out) FU (dC _) aA5;rw[iA]at g;have o:((k:Nat):Int).toNat=k:=aA0;have m:=Ni a out;rw[ava,alh,aB b.2,n,aS,aV bA,o,aV aA3,aV b,aV b,f];simp only[yL];rw[aV aA3,aV bA,aV aA3,aS,aV (cJ _ bA bA),nW,g];have:=i (p++[a]) c (nC a out) aA7 bA aC0;rw[show(γ (p++[a]))=aR p+1 by simp]at this;exact this
theorem qV(l:δ PP)(b:aR l<=4194304):anh FU l=θ (xP l):=by have:=SU l b l [] FU [] aA2 aA5 Τ;have a:ajk FU l FU [] 0=_:=this;unfold anh;rw[a];rfl
def uw(a b:aC):Int:=bif qK a b then-1 else bif !(qK a b||a==b)then 1 else 0
theorem hs1_eq(fu:Nat)(x y:PP):asl fu x y=θ (uw x.1 y.1):=by
 unfold asl aod asj uw;rw[aS,aS,aH rfl,aH rfl,iV,aJ,aJ];cases qK x.1 y.1 with
 |true=>rfl
 |false=>rw[aJ,aJ];cases(!(ν||x.1==y.1))<;>rfl
theorem cmp_lt(a b:aC):decide (uw a b<0)=qK a b:=by
 unfold uw;cases qK a b with
 |true=>rfl
 |false=>rw[aJ];cases(!(ν||a==b))<;>rfl
theorem zf(P S:δ PP)(x:PP):el (P++x::S) (γ P:Int)=x:=by simp[el]
theorem td(n:Nat):∀(P S:δ PP) (x:PP) (c:Nat),γ P=n->n<c->γ P+γ S<=1048575->
  abb FU 0 c (P++x::S) (γ P:Int)=θ (nC x P++S):=by
 induction n with
 |zero=>intro P S x c h t l;obtain⟨c,rfl⟩:=cD c;obtain rfl:P=[]:=Gh h;rw[ads,aaz,aA aA2];rfl
 |succ n q=>
  intro P S x c h t l;obtain⟨c,rfl⟩:=cD c;rcases List.eq_nil_or_concat P with rfl|⟨b,a,rfl⟩
  ·simp at h
  ·simp only[List.concat_eq_append]at*;have p:γ b=n:=by simp at h;omega
   have u:((γ (b++[a]):Int)-1)=(γ b:Int):=aA2;have r:el (b++[a]++x::S) (γ (b++[a]):Int)=x:=zf _ _ _;have m:el (b++[a]++x::S) (γ b:Int)=a:=by rw[nW];exact zf b (x::S) a
   have d:γ (b++[a]++x::S)=γ b+2+γ S:=aA3;have o:(0:Int)<=(γ (b++[a]):Int)/\(γ (b++[a]):Int)<(γ (b++[a]++x::S):Int):=by rw[d];simp;omega
   have g:(0:Int)<=(γ b:Int)/\(γ b:Int)<(γ (b++[a]++x::S):Int):=by rw[d];omega
   have k:bK (γ b:Int):=cJ _ bA (by simp at l;omega);have j:(γ (b++[a]):Int).toNat=γ b+1:=aA2;have i:((γ b:Nat):Int).toNat=γ b:=aA0;rw[ads,aaz,u];simp only[r,m,Z6,hs1_eq,aS,cmp_lt,aV o,aV g,aV k];rw[aB aC0,aS,rP x.1 a.1,Uf];have s:(!(qK a.1 x.1||a.1==x.1))=UP a.1 x.1:=Τ;rw[s];cases UP a.1 x.1 with
   |false=>rw[aJ,aJ];simp
   |true=>
    have f:Ξ (b++[a]++x::S) (γ (b++[a]):Int).toNat a=b++a::a::S:=by rw[j,nW,wJ _ _ bA];simp
    have e:Ξ (b++a::a::S) ((γ b:Nat):Int).toNat x=b++x::a::S:=by rw[i,wJ _ _ bA];simp
    rw[aO,aO,f,e,aV aA3,aV aA3,q b (a::S) x c p bA (by simp at l⊢;omega)];simp
theorem tf(R:δ PP):∀(P:δ PP) (b:Nat) (n:Int),n=(γ (P++R):Int)->γ (P++R)<=1048575->γ R<b->
  aaj FU 0 n b (P++R) (γ P:Int)=θ (R.foldl (λout x=>nC x out) P):=by
 induction R with
 |nil=>intro P b n d f g;obtain⟨b,rfl⟩:=cD b;rw[aca,aaq,aA (by rw[d];simp)];simp
 |cons a R h=>intro P b n d f g;obtain⟨b,rfl⟩:=cD b;simp only[cR,dT]at f g;rw[aca,aaq,aB (by rw[d];simp;omega),td (γ P) P R a FU Τ aA5 bA,aS,aV (cJ _ bA bA)];have c:=Ni a P;have:=h (nC a P) b n (by rw[d];simp[c];omega) (by simp only[cR,c];omega) bA;rw[c]at this;have e:((γ P:Int)+1)=((γ P+1:Nat):Int):=Τ;rw[e,this];rfl
theorem ins_eq(l:δ PP)(b:γ l<=1048575):aan FU l 0 (γ l:Int)=θ (xP l):=by
 unfold aan;rw[aV (cJ _ bA bA)];cases l with
 |nil=>obtain⟨m,c⟩:∃m,FU=m+1:=⟨FU-1,by rw[eG]⟩;rw[show(aaj FU 0 (γ ([]:δ PP):Int) FU [] (0+1))=aaj FU 0 (γ ([]:δ PP):Int) (m+1) [] (0+1)by rw[<-c]];rw[aca,aaq,aA aA2];rfl
 |cons a l=>have:=tf l [a] FU (γ (a::l):Int) Τ b (by rw[eG];simp at b;omega);exact this
open Go.Lib renaming index → fO
theorem IF(l:δ PP)(d:γ l<20):abf FU l=θ (xP l):=by
 unfold abf acd;obtain⟨m,a⟩:∃m,FU=m+1:=⟨FU-1,by rw[eG]⟩
 have c:aay FU (γ l) FU l 0 20=θ (l,0):=by
  have:∀k,aay FU (γ l) (k+1) l (0:Int) (20:Int)=θ (l,0):=λk=>by rw[ala,acp,aA bA]
  have:=this m;rw[<-a]at this;exact this
 have b:aax FU (γ l) FU (xP l) 20=θ (xP l):=by
  have:∀k,aax FU (γ l) (k+1) (xP l) (20:Int)=θ (xP l):=λk=>by rw[akz,aco,aA bA]
  have:=this m;exact this
 rw[c,aS];rw[ins_eq l bA,aS,b];rfl
theorem yt(c:ζ):∀v:aC,(fO v [c]= -1/\∀b∈v,b≠c)\/(∃f a,v=f++c::a/\(∀b∈f,b≠c)/\fO v [c]=(γ f:Int))
 |[]=>.inl ⟨Τ,aA2⟩
 |b::l=>by
  rw[bcr];have e:([c]:aC).isPrefixOf (b::l)=(c==b):=by simp[List.isPrefixOf]
  rw[e];by_cases h:b=c
  ·subst h;right;exact⟨[],l,Τ,aA2,by rw[aB aA2];rfl⟩
  ·rw[aA (by simpa using λx=>h x.symm)];rcases yt c l with⟨g,d⟩|⟨f,a,g,d,i⟩
   ·left;rw[aB g];exact⟨Τ,λx hx=>by rcases aQ.1 hx with rfl|hx;exact h;exact d x hx⟩
   ·right;refine⟨b::f,a,by rw[g];rfl,λx hx=>by rcases aQ.1 hx with rfl|hx;exact h;exact d x hx,?_⟩;rw[aA bA,i,dT];omega
theorem DC(s:aC):∀(f:Nat) (l:δ PP) (i:Nat),γ l<=16->γ (kI s f l i).1<=16
 |0,_,_,_=>by simp[kI]
 |f+1,l,i,h=>by
  rw[kI];split
  ·exact h
  ·split
   ·simp
   ·split
    ·split
     ·rename_i b;have a:=((room0 l _).1 b).2;exact DC s f _ _ aB4
     ·simp
    ·simp
end Go.Wk
set_option maxRecDepth 20000
namespace Go.Wk
open Go.Px
open List renaming length → aR
variable{c:ζ}
theorem PX(h:fZ c=ν):c<48\/(57:ζ)<c:=by
 by_cases b:c<48
 ·exact .inl b
 ·by_cases a:(57:ζ)<c
  ·exact .inr a
  ·exfalso;have:fZ c=μ:=by rw[oQ];rw[mg]at b a;have e:(48:ζ).toNat=48:=Τ;have d:(57:ζ).toNat=57:=Τ;omega
   rw[this]at h;cases h
theorem FR(h:fZ c=μ):(c-48).toNat=c.toNat-48/\¬c<48/\¬(57:ζ)<c/\c.toNat<=57:=by
 have b:=(oQ c).1 h;refine⟨?_,?_,?_,aA0⟩
 ·have a:(48:ζ)<=c:=by rw[wI];show 48<=c.toNat;omega
  rw[UInt8.toNat_sub_of_le _ _ a];rfl
 ·rw[mg];show¬c.toNat<48;omega
 ·rw[mg];show¬57<c.toNat;omega
def gI(s:aC):Int×ζ:=
 if γ s<1\/10<aR s\/s.all fZ=ν then(0,5)else if 2147483647<mF s then(0,3)else((mF s:Int),0)
theorem JH(s:aC)(t:aR s<=18)(l:aC):∀(p:aC) (a:Nat),s=p++l->aR l<a->p.all fZ=μ->
  amv FU s a (mF p:Int) (aR p:Int)=θ (if l.all fZ=μ then .inl (mF s:Int)else .inr ((0:Int),(5:ζ))):=by
 induction l with
 |nil=>intro p a h i f;obtain⟨a,rfl⟩:=cD a;rw[gV]at h;subst h;rw[avd,alm,aA bA];rfl
 |cons c l o=>
  intro p a h i f;obtain⟨a,rfl⟩:=cD a;have b:(0:Int)<=(aR p:Int)/\(aR p:Int)<(aR s:Int):=by rw[h,cR,dT];omega
  have j:Υ s (aR p:Int)=c:=aE8;simp only[dT]at i;cases d:fZ c with
  |false=>
   rw[avd,alm,aB b.2,aV b,j,Pt,d,XW,aA (show¬ν=μ by decide)];rcases PX d with g|g
   ·rw[aB g,aS,aO]
   ·by_cases k:c<48
    ·rw[aB k,aS,aO]
    ·rw[aA k,aV b,aH g,aS,aO]
  |true=>
   obtain⟨hx,n,m,q⟩:=FR d;have r:=uM 17 p (by have:=bM aR h;rw[cR,dT]at this;omega) f;rw[avd,alm,aB b.2,aV b,j,aA n,aV b,aG m,aS,aJ,hx,aV (cJ _ bA bA),aV b,aV (cJ _ bA bA),aV (cJ _ bA bA)];have e:(10:Int)*(mF p:Int)+((c.toNat-48:Nat):Int)=(mF (p++[c]):Int):=by rw[azs];omega
   rw[e,KZ p c,Pt,d,AO];exact o (p++[c]) a aA7 bA (by rw[eC,f];simpa using d)
theorem TU(s:aC):ank FU s=θ (gI s):=by
 unfold ank gI;by_cases c:aR s<1
 ·rw[aB bA,aS,aO,aB (.inl c)]
 ·rw[aA bA,aS];by_cases b:10<aR s
  ·rw[aH bA,aO,aB (.inr (.inl b))]
  ·rw[aG bA,aJ];have:=JH s bA s [] FU aA2 aA5 aA2;change amv FU s FU (0:Int) (0:Int)=_ at this;rw[this,aS];cases d:s.all fZ with
   |false=>rw[aA (show¬ν=μ by decide),GX,aB (.inr (.inr rfl))]
   |true=>
    rw[aB rfl,qL,aA (show¬(aR s<1\/10<aR s\/μ=ν)by rintro(h|h|h)<;>first|omega|cases h)];by_cases a:2147483647<mF s
    ·rw[aB bA,aB a]
    ·rw[aA bA,aA a]
theorem Ql(s:aC)(w:aR s<=4194304)(l:aC):∀(p:aC) (a:Nat),s=p++l->aR l<a->p.all fZ=μ->aR p<=10->
  amr FU s a (mF p:Int) (aR p:Int)=θ (if l.all fZ=μ/\γ s<=10 then .inl (mF s:Int)else .inr ((0:Int),(5:ζ))):=by
 induction l with
 |nil=>intro p a h m f k;obtain⟨a,rfl⟩:=cD a;rw[gV]at h;subst h;rw[avb,ali,aA bA,aB ⟨rfl,k⟩]
 |cons c l r=>
  intro p a h m f k;obtain⟨a,rfl⟩:=cD a;have j:aR s=aR p+(aR l+1):=by rw[h,cR,dT]
  have b:(0:Int)<=(aR p:Int)/\(aR p:Int)<(aR s:Int):=aA0;have n:Υ s (aR p:Int)=c:=aE8;simp only[dT]at m;cases d:fZ c with
  |false=>
   rw[avb,ali,aB b.2,aV b,n,Pt,d,XW,aA (show¬(ν=μ/\γ s<=10)by rintro⟨h,_⟩;cases h)];by_cases g:c<48
   ·rw[aB g,aS,aO]
   ·rcases PX d with i|i
    ·exact absurd i g
    ·rw[aA g,aV b,aB i,aS,aO]
  |true=>
   obtain⟨hx,q,o,u⟩:=FR d;rw[avb,ali,aB b.2,aV b,n,aA q,aV b,aA o,aS];by_cases t:10<=aR p
   ·rw[aH bA,aO,aA (by rintro⟨_,h⟩;omega)]
   ·have v:=uM 17 p bA f;rw[aG bA,aJ,hx,aV (cJ _ bA bA),aV b,aV (cJ _ bA bA),aV (cJ _ bA bA)];have e:(10:Int)*(mF p:Int)+((c.toNat-48:Nat):Int)=(mF (p++[c]):Int):=by rw[azs];omega
    rw[e,KZ p c,Pt,d,AO];exact r (p++[c]) a aA7 bA (by rw[eC,f];simpa using d) aA3
theorem zK(s:aC)(d:aR s<=4194304):avq FU s=θ (gI s):=by
 unfold avq gI;have:=Ql s d s [] FU aA2 aA5 aA2 aA2;change amr FU s FU (0:Int) (0:Int)=_ at this;rw[this,aS];by_cases c:s=[]
 ·subst c;rfl
 have f:0<aR s:=cA.2 c;by_cases b:s.all fZ=μ/\γ s<=10
 ·rw[aB b,qL,aA c,aA (show¬(aR s<1\/10<aR s\/s.all fZ=ν)by rintro(h|h|h)<;>first|omega|(rw[b.1]at h;cases h))];by_cases a:2147483647<mF s
  ·rw[aB bA,aB a]
  ·rw[aA bA,aA a]
 ·rw[aA b,GX,aB];by_cases e:10<aR s
  ·exact .inr (.inl e)
  ·cases a:s.all fZ with
   |false=>exact .inr (.inr Τ)
   |true=>exact absurd ⟨a,aA0⟩ b
def iX(s:aC):Int×ζ:=if(gI s).2=0/\((gI s).1<1\/65535<(gI s).1)then(0,3)else gI s
end Go.Wk
set_option maxRecDepth 100000
namespace Go.Wk
open Go.Px
open Go.Lib renaming decDigits → GW, itoa → iS
open UInt8 renaming ofNat → Fc
theorem dig_of:∀n:Fin 10,fZ (Fc (48+n.val))=μ/\(Fc (48+n.val)).toNat-48=n.val/\sub ([48,49,50,51,52,53,54,55,56,57]:aC) (n.val:Int) ((n.val:Int)+1)=[Fc (48+n.val)]:=aA4
theorem oR(n:Nat)(h:n<10):fZ (Fc (48+n))=μ/\(Fc (48+n)).toNat-48=n/\sub ([48,49,50,51,52,53,54,55,56,57]:aC) (n:Int) ((n:Int)+1)=[Fc (48+n)]:=dig_of ⟨n,h⟩
theorem PZ:∀(k n:Nat),n<10^(k+1)->(GW n).all fZ=μ/\mF (GW n)=n/\1<=γ (GW n)/\γ (GW n)<=k+1:=by
 intro k;induction k with
 |zero=>intro n h;have h:n<10:=aA8;have:=oR n h;rw[GW,dif_pos h];refine⟨by simpa using this.1,?_,aA2,aA2⟩;show 10*0+_=n;omega
 |succ k c=>
  intro n h;rw[GW];by_cases a:n<10
  ·have:=oR n a;rw[dif_pos a];refine⟨by simpa using this.1,?_,aA2,aA2⟩;show 10*0+_=n;omega
  ·have b:=oR (n%10) (Nat.mod_lt _ aA1);have:=c (n/10) (by rw[Hz]at h;omega);rw[dif_neg a];refine⟨by rw[eC,this.1];simpa using b.1,?_,aA2,by simp;omega⟩;rw[azs,this.2.1,b.2.1];omega
theorem Nd(n:Nat):iS (n:Int)=GW n:=by unfold iS;rw[aA aA0,tT]
theorem nB(n:Int)(e:0<=n)(h:n<=65535):gI (iS n)=(n,0)/\1<=γ (iS n)/\γ (iS n)<=5/\(iS n).all fZ=μ:=by obtain⟨m,rfl⟩:∃m:Nat,n=(m:Int):=⟨n.toNat,aA0⟩;obtain⟨a,d,c,b⟩:=PZ 4 m aA0;rw[Nd];refine⟨?_,c,b,a⟩;unfold gI;rw[a,d,aA (by rintro(h|h|h)<;>first|omega|cases h),aA aA0]
theorem Xd:∀(k n a:Nat),n<10^(k+1)->k+1<a->k<=15->lz a (n:Int)=θ (GW n):=by
 intro k;induction k with
 |zero=>intro n a h g c;obtain⟨a,rfl⟩:=cD a;have h:n<10:=aA8;rw[lz,aB aA0,eF,aV aA3,(oR n h).2.2,GW,dif_pos h]
 |succ k f=>
  intro n a h g c;obtain⟨a,rfl⟩:=cD a;have j:10^(k+1+1)<=10^17:=ki aA1 aA0;rw[lz,GW];by_cases d:n<10
  ·rw[aB aA0,dif_pos d,eF,aV aA3,(oR n d).2.2]
  ·have m:(n:Int)/10=((n/10:Nat):Int):=by omega
   have l:(n:Int)%10=((n%10:Nat):Int):=aA0;have e:n/10<10^(k+1):=by rw[Hz]at h;omega
   have o:=(PZ k _ e).2.2.2;have b:0<=(n:Int)/\0<(10:Int)/\bK (n:Int):=⟨aA0,aA0,cJ _ aA0 aA0⟩;have i:=oR (n%10) (Nat.mod_lt _ aA1);rw[aA aA0,dif_neg d,aV b,m,f (n/10) a e aA0 aA0,aS,aV b,aV b,l,aV (cJ _ aA0 aA0),aV aA3,i.2.2,aV aA3]
theorem oG(n:Int)(a:0<=n)(h:n<=9999999999999999):lz FU n=θ (iS n):=by obtain⟨m,rfl⟩:∃m:Nat,n=(m:Int):=⟨n.toNat,aA0⟩;rw[Nd];exact Xd 15 m FU aA0 aA5 aA1
theorem Zb(v:aC)(c:ζ):Lib.contains v [c]=v.any (·==c):=by
 unfold Lib.contains;rcases yt c v with⟨a,b⟩|⟨f,e,a,b,d⟩
 ·rw[a,aG bA];symm;rw[eO];intro x hx;simpa using b x hx
 ·rw[d,a];simp
theorem Lk(s:aC)(d:γ s<=4194304):∀f l i,(∀p∈l,cZ p.1=p.1/\γ p.1<=γ s/\γ p.2.1<=90000000)->∀p∈(kI s f l i).1,cZ p.1=p.1/\γ p.1<=γ s/\γ p.2.1<=90000000
 |0,_,_,_=>by simp[kI]
 |f+1,l,i,h=>by
  rw[kI];split
  ·exact h
  ·split
   ·simp
   ·split
    ·rename_i e;have c:=pO cF s ((cB cF s i+1):Int);have a:=DJ s d _ c e;split
     ·refine Lk s d f _ _ λp b=> ?_;rcases aZ.1 b with b|b
      ·exact h p b
      ·rw[aF.1 b];exact⟨a.2.2.2.1,a.2.2.2.2.1,a.2.2.2.2.2⟩
     ·simp
    ·simp
theorem Lj(s:aC)(a:γ s<=4194304):∀p∈(oJ s).1,cZ p.1=p.1/\γ p.1<=γ s/\γ p.2.1<=90000000:=Lk s a _ [] 0 aA2
theorem ai(s:aC):γ (oJ s).1<=16:=DC s _ [] 0 aA2
theorem qk(y:Int×ζ):((if y.2=0 then(if y.1<1 then θ μ else θ (decide (65535<y.1)))else θ ν).bind λb=>bif b then θ 3 else θ y.2)=θ (if y.2=0/\(y.1<1\/65535<y.1)then 3 else y.2):=by
 by_cases a:y.2=0
 ·rw[aB a];by_cases d:y.1<1
  ·rw[aB d,aB ⟨a,.inl d⟩];rfl
  ·rw[aA d];by_cases c:65535<y.1
   ·rw[aH c,aB ⟨a,.inr c⟩];rfl
   ·rw[aG c,aA (by rintro⟨_,h|h⟩<;>contradiction)];rfl
 ·rw[aA a,aA (λh=>a h.1)];rfl
open Go.Lib renaming itoa → iS
open List renaming length → aR
variable{x:aC}
theorem VG{a:HH}(h:mE x a=μ):mH x a=PJ a:=by unfold mH PJ;rw[aB h,qz h]
theorem qf(m:MM)(name:aC)(w:aR name<=4194303)(l:Sm m.2.2.2.2.1)(q:δ HH):∀(p:δ HH) (c:Nat) (b:δ aC),m.2.2.2.2.1=p++q->aR q<c->aR b+dR q+aR q<=100000000->
  atd FU m name c b (aR p:Int)=θ (b++q.flatMap (mH name)):=by
 induction q with
 |nil=>intro p c b h r s;obtain⟨c,rfl⟩:=cD c;rw[gV]at h;rw[bgs,avx,aA aB8];simp
 |cons a q k=>
  intro p c b h r s;obtain⟨c,rfl⟩:=cD c;have i:=bM aR h;simp only[cR,dT]at i r;have iD:=l.1;have e:(0:Int)<=(aR p:Int)/\(aR p:Int)<(aR m.2.2.2.2.1:Int):=aA0;have x:el m.2.2.2.2.1 (aR p:Int)=a:=aB3;have d:=l.2 a aA7;have v:dR (a::q)=aR a.1+aR a.2+dR q:=by unfold dR;rw[qO,eY]
  rw[v,dT]at s;have u:=Wh name a;have t:γ (mH name a)<=aR a.2+1:=by unfold mL at u;omega
  have n:((aR p:Int)+1)=(γ (p++[a]):Int):=aA2;have o:bK ((aR p:Int)+1):=cJ _ aA0 aA0;rw[bgs,avx,aB e.2,aV e,aV e,x,JV a name d.1 w,aS];by_cases f:mE name a=μ
  ·rw[f,aO,aV e,aV e,X7 a d.1 d.2,aS,<-VG f,aV aA0,aV o,n,
    k (p++[a]) c (b++mH name a) aA7 aA0 (by rw[cR];omega),wL,nW]
  ·have j:mE name a=ν:=by simpa using f
   have g:mH name a=[]:=by unfold mH;rw[aA f]
   rw[j,aJ,aV o,n,k (p++[a]) c b aA7 aA0 aA0,wL,g,yL]
theorem Xj(m:MM)(name:aC)(b:Sm m.2.2.2.2.1)(d:dR m.2.2.2.2.1<=4194303)(c:aR name<=4194303):jt FU m name=θ (gW m.2.2.2.2.1 name):=by unfold jt gW;have iD:=b.1;have:=qf m name c b m.2.2.2.2.1 [] FU [] Τ aA5 aA3;have a:atd FU m name FU [] 0=_:=this;rw[a,aS,yL]
theorem plc_eq(h:aC)(n:Int)(c:aR h<=100000000)(f:0<=n)(e:n<=65535):aop FU h n=θ (h++[58]++iS (if n=0 then 5060 else n)):=by
 unfold aop;have a:0<=(if n=0 then(5060:Int)else n)/\(if n=0 then(5060:Int)else n)<=65535:=by split<;>omega
 have b:(if n=0 then θ (5060:Int)else θ n)=θ (if n=0 then 5060 else n):=by split<;>rfl
 rw[b,aS];generalize(if n=0 then(5060:Int)else n)=k at a⊢;obtain⟨_,_,d,_⟩:=nB k a.1 a.2;rw[aV aD3,aV (cJ _ aA0 aA0),aV aD0]
theorem V2(n:Int)(a:0<=n)(b:n<=65535):ber FU n=θ (iS (if n=0 then 5060 else n)):=by
 unfold ber;by_cases h:n=0
 ·rw[aB h,aB h,oG _ aA1 aA1,aS]
 ·rw[aA h,aA h,oG _ a aA0,aS]
def xk:MM:=([],[],0,[],[],[])
structure xf (l:List HH):Prop where
 n:aR l<=40
 h:∀x∈l,aR x.1<=80/\γ x.2<=5000
theorem xf.sm{l:δ HH}(h:xf l):Sm l:=⟨by have:=h.n;omega,λx hx=>by have:=h.h x hx;omega⟩
theorem BC:∀l,(∀x∈l,aR x.1<=80/\γ x.2<=5000)->dR l<=5080*aR l
 |[],_=>dC _
 |a::l,h=>by have c:=h a iK;have b:=BC l (λx hx=>h x (gN _ hx));unfold dR at*;rw[qO,eY,dT];omega
theorem xf.dR{l:δ HH}(h:xf l):dR l<=4194303:=by have:=BC l h.h;have:=h.n;omega
theorem ra{l:δ aC}(h:x∈l):aR x+1<=mL l:=by
 induction l with
 |nil=>cases h
 |cons a l b=>
  rcases aQ.1 h with rfl|h
  ·simp[mL];omega
  ·have:=b h;simp[mL]at*;omega
theorem ED(l:aC)(c:ζ):decide (0<=dN (·==c) l)=fN l c:=EB l c
theorem Nj(c:ζ)(k:Int)(h:k=0\/k=1\/k=2):ape FU c k=θ (Fv c k):=by
 unfold ape;rw[Vq,aS];have a:∀b:η,Fv c k=(b||fN (Zf k) c)->((θ b).bind λ(e:η)=>bif e then θ μ else(if(0:Int)<=k then(if k<=(2:Int)then(gd (0<=k/\k<(3:Int))<|gd (0<=k/\k<γ lr)<|some (decide (0<=(dN (·==c) (el lr k)))))else θ ν)else θ ν).bind λd=>θ d)=θ (Fv c k):=by
  intro b j;rw[j];cases b with
  |true=>rfl
  |false=>
   have l:γ lr=3:=Τ;have i:el lr k=Zf k:=by rcases h with rfl|rfl|rfl<;>rfl
   rw[aB aA0,aB aA0,aV aA0,aV aA0,i,ED];rfl
 cases f:vj c with
 |true=>rw[aO];exact a μ (by unfold Fv;rw[f];rfl)
 |false=>
  rw[Bh,aS];cases g:fZ c with
  |true=>rw[aO];exact a μ (by unfold Fv;rw[f,g];rfl)
  |false=>rw[ED];exact a _ (by unfold Fv;rw[f,g];rfl)
theorem awo(s:aC)(c:ζ)(f:γ s<=4194304):XQ FU s c=θ (fN s c):=by
 have h:=nP (λb=> !(b==c)) s f μ (anx FU s c)
  (λd=>by rw[are,aiv,aA aA0])
  (λd k g h=>by have a:Υ s (k:Int)=c:=aA8;rw[are,aiv,aB aA0,eF,aB a])
  (λd k g h=>by have a:¬Υ s k=c:=aA8;rw[are,aiv,aB aA0,eF,aA a,eF])
 unfold XQ;rw[h];have e:s.all (λb=> !(b==c))= !fN s c:=by unfold fN;rw[GR]
 rw[e];cases fN s c<;>rfl
theorem NP(c:ζ)(k:Int)(j:k=0\/k=1\/k=2):bgu FU c k=θ (Fv c k):=by
 unfold bgu;rw[Sy,aS];have a:∀b:η,Fv c k=(b||fN (Zf k) c)->((θ b).bind λg=>bif g then θ μ else if k=0 then((XQ FU [38,61,43,36,44,59,63,47] c).bind λf=>θ f)else if k=1 then((XQ FU [91,93,47,58,38,43,36] c).bind λe=>θ e)else if k=2 then((XQ FU [91,93,47,63,58,43,36] c).bind λd=>θ d)else θ ν)=θ (Fv c k):=by
  intro b l;rw[l];cases b with
  |true=>rfl
  |false=>rw[awo _ _ aA1,awo _ _ aA1,awo _ _ aA1];rcases j with rfl|rfl|rfl<;>rfl
 cases h:vj c with
 |true=>rw[aO];exact a μ (by unfold Fv;rw[h];rfl)
 |false=>
  rw[zD,aS];cases i:fZ c with
  |true=>rw[aO];exact a μ (by unfold Fv;rw[h,i];rfl)
  |false=>rw[awo _ _ aA1];exact a _ (by unfold Fv;rw[h,i];rfl)
def hx(c:ζ):ζ:=((afq FU c).getD (0,ν)).1
theorem OW:∀c:ζ,afq FU c=θ (hx c,gJ c):=hY _ aA4
theorem Tb:∀c:ζ,gJ c=μ->ls FU c=θ ((hx c).toNat:Int):=hY _ aA4
theorem OU:∀c:ζ,(hx c).toNat<16:=hY _ aA4
theorem CG:∀c:ζ,gJ c=ν->ls FU c=θ (-1):=hY _ aA4
theorem shl_or:∀a b:Fin 16,(SG (Fc a.val) 4)|||Fc b.val=Fc (16*a.val+b.val):=aA4
def esV(a b:ζ):ζ:=Fc (16*(hx a).toNat+(hx b).toNat)
theorem om(a b:ζ):(SG (hx a) 4)|||hx b=esV a b:=by have:=shl_or ⟨(hx a).toNat,OU a⟩ ⟨(hx b).toNat,OU b⟩;simp only[UInt8.ofNat_toNat]at this;exact this
def lA(l:aC):ε ζ:=if 2<γ l/\Υ l 0=37/\gJ (Υ l 1)=μ/\gJ (Υ l 2)=μ then θ (esV (Υ l 1) (Υ l 2))else ι
theorem iy(s:aC)(i:Nat)(j:Nat):Υ (s.drop i) j=Υ s ((i+j:Nat)):=by simp only[Υ,tT,bF,bV]
theorem FM(s:aC)(l:γ s<=4194304)(i:Nat)(n:i<γ s):∃v,amy FU s i=θ (v,(lA (s.drop i)).isSome)/\((lA (s.drop i)).isSome=μ->lA (s.drop i)=θ v):=by
 have k:=iy s i 0;have j:=iy s i 1;have g:=iy s i 2;have f:(i:Int)+1=((i+1:Nat):Int):=Τ;have e:(i:Int)+2=((i+2:Nat):Int):=Τ;have m:γ (s.drop i)=γ s-i:=fY;have d:Υ (s.drop i) 0=Υ s (i:Int):=k;have c:Υ (s.drop i) 1=Υ s ((i+1:Nat):Int):=j;have b:Υ (s.drop i) 2=Υ s ((i+2:Nat):Int):=g;unfold amy lA;rw[aV (cJ _ aA0 aA0),f,e,d,c,b];by_cases q:γ s<=i+2
 ·rw[aB aA0,aA aA0];exact⟨0,Τ,λh=>absurd h aA1⟩
 ·rw[aA aA0,aV aA0,aS];by_cases a:Υ s (i:Int)=37
  ·rw[aH a,aV (cJ _ aA0 aA0),aV aA0,OW,aS,aV (cJ _ aA0 aA0),aV aA0,OW,aS,om];cases p:gJ (Υ s ((i+1:Nat):Int))with
   |false=>rw[aA (λh=>absurd h.2.2.1 aA1)];exact⟨_,Τ,λh=>absurd h aA1⟩
   |true=>
    cases o:gJ (Υ s ((i+2:Nat):Int))with
    |false=>rw[aA (λh=>absurd h.2.2.2 aA1)];exact⟨_,Τ,λh=>absurd h aA1⟩
    |true=>rw[aB ⟨aA0,a,rfl,rfl⟩];exact⟨_,Τ,λ_=>rfl⟩
  ·rw[aG a,aA (λh=>a h.2.1)];exact⟨0,Τ,λh=>absurd h aA1⟩
theorem Wm:∀c:ζ,AH c.toNat=c:=hY _ aA4
theorem W8(s:aC)(n:γ s<=4194304)(i:Nat)(p:i<γ s):baf FU s i=θ (match lA (s.drop i)with|some v=>v.toNat|none=> -1):=by
 have g:=iy s i 0;have m:=iy s i 1;have l:=iy s i 2;have k:i+1=((i+1:Nat):Int):=Τ;have j:(i:Int)+2=((i+2:Nat):Int):=Τ;have o:γ (s.drop i)=γ s-i:=fY;rw[Rt]at g;have d:Υ (s.drop i) 0=Υ s (i:Int):=g;have c:Υ (s.drop i) 1=Υ s ((i+1:Nat):Int):=m;have b:Υ (s.drop i) 2=Υ s ((i+2:Nat):Int):=l;unfold baf lA;rw[aV (cJ _ aA0 aA0),k,j,d,c,b];by_cases t:γ s<=i+2
 ·rw[aB aA0,aS,aO,aA aA0]
 ·rw[aA aA0,aV aA0];by_cases a:Υ s (i:Int)=37
  ·rw[aB a,aV (cJ _ aA0 aA0),aV aA0];cases f:gJ (Υ s ((i+1:Nat):Int))with
   |false=>rw[CG _ f,aS,aB aA1,aS,aO,aA (λh=>absurd h.2.2.1 aA1)]
   |true=>
    have r:=OU (Υ s ((i+1:Nat):Int));rw[Tb _ f,aS,aA aA0,aV (cJ _ aA0 aA0),aV aA0];cases e:gJ (Υ s ((i+2:Nat):Int))with
    |false=>rw[CG _ e,aS,aS,show decide ((-1:Int)<0)=μ by decide,aO,aA (λh=>absurd h.2.2.2 aA1)]
    |true=>
     have q:=OU (Υ s ((i+2:Nat):Int));rw[Tb _ e,aS,aS,aV (cJ _ aA0 aA0),aV aA0,aS,aV (cJ _ aA0 aA0),aV (cJ _ aA0 aA0),aV aA0,aS,aV (cJ _ aA0 aA0),aB ⟨aA0,a,rfl,rfl⟩];unfold esV;have:(Fc (16*(hx (Υ s ((i+1:Nat):Int))).toNat+(hx (Υ s ((i+2:Nat):Int))).toNat)).toNat=16*(hx (Υ s ((i+1:Nat):Int))).toNat+(hx (Υ s ((i+2:Nat):Int))).toNat:=by rw[iP,GM aA0]
     simp only[this];congr 1
  ·rw[aA a,aS,aO,aA (λh=>a h.2.1)]
def gR(k:Int):Nat->aC->ε Nat
 |0,_=>ι
 |f+1,l=>if l=[]then ι else if Fv (Υ l 0) k=μ then(gR k f (l.drop 1)).map (·+1)
  else match lA l with
   |some v=>if jD v=μ then θ 0 else(gR k f (l.drop 3)).map (·+3)
   |none=>θ 0
def sR(k:Int):Nat->aC->aC
 |0,_=>[]
 |f+1,l=>if l=[]then []else if Fv (Υ l 0) k=μ then Υ l 0::sR k f (l.drop 1)
  else match lA l with
   |some v=>v::sR k f (l.drop 3)
   |none=>[]
def fF(k:Int)(l:aC):ε Nat:=gR k (γ l+1) l
def kM(k:Int)(l:aC):aC:=sR k (γ l+1) l
theorem ys(k:Int)(a:k=0\/k=1\/k=2):Fv 37 k=ν:=by rcases a with rfl|rfl|rfl<;>decide
theorem bdc{v:ζ}(h:lA x=θ v):2<γ x/\Υ x 0=37:=by
 unfold lA at h;split at h
 ·rename_i a;exact⟨a.1,a.2.1⟩
 ·cases h
theorem xV(c:ζ):aur FU c=θ (jD c):=by revert c;exact hY _ aA4
theorem YY(s:aC)(t:Int)(e:Nat)(D:γ s<=4194304)(E:e<=γ s)(k:Int)(x:k=0\/k=1\/k=2)(n:Nat):∀i a f,e-i<=n->n<a->i<=e->e-i<f->
  ahx FU (s,t) e k a i=θ (match gR k f ((s.take e).drop i)with|none=>.inl ()|some j=>.inr (((i+j:Nat)),μ)):=by
 induction n with
 |zero=>intro i a f y z g l;obtain⟨a,rfl⟩:=cD a;obtain⟨f,rfl⟩:∃m,f=m+1:=⟨f-1,aA0⟩;rw[akh,afd,aA aA0,gR,aB (Pu aB5)]
 |succ n p=>
  intro i a f y z g l;obtain⟨a,rfl⟩:=cD a;obtain⟨f,rfl⟩:∃m,f=m+1:=⟨f-1,aA0⟩;by_cases d:i<e
  ·have b:γ ((s.take e).drop i)=e-i:=by rw[fY,iW];omega
   have c:¬(s.take e).drop i=[]:=λh=>by rw[h]at b;simp at b;omega
   have iL:Υ ((s.take e).drop i) 0=Υ s (i:Int):=by have:=iy (s.take e) i 0;rw[Rt]at this;rw[show Υ ((s.take e).drop i) 0=Υ (s.take e) (i:Int)from this];simp only[Υ,tT,bF];rw[AE d]
   have d1:((s.take e).drop i).drop 1=(s.take e).drop (i+1):=aF7;have d3:((s.take e).drop i).drop 3=(s.take e).drop (i+3):=aF7;rw[akh,afd,aB aA0,aV (show 0<=(i:Int)/\(i:Int)<(γ s:Int)by omega),Nj _ k x,aS,gR,aA c,iL];cases F:Fv (Υ s (i:Int)) k with
   |true=>
    rw[aV (cJ _ aA0 aA0),qG,p (i+1) a f aA0 aA0 aA0 aA0,d1];cases gR k f ((s.take e).drop (i+1))with
    |none=>rfl
    |some j=>
     show θ (Sum.inr _)=θ (Sum.inr _);congr 3;try dsimp only
     omega
   |false=>
    have u:γ (s.take e)=e:=aB5;obtain⟨v,B,r⟩:=FM (s.take e) aA0 i aA0;rw[aV (show 0<=(e:Int)/\(e:Int)<=(γ s:Int)by omega),tT,B,aS];cases q:lA ((s.take e).drop i)with
    |none=>congr 3
    |some o=>
     rw[q]at r;obtain rfl:o=v:=by have:=r Τ;simpa using this
     have w:=(bdc q).1;simp only[Option.isSome_some,iV,aJ];rw[xV,aS,aS];cases A:jD o with
     |true=>rw[aO];rfl
     |false=>
      rw[aV (cJ _ aA0 aA0),aV (cJ _ aA0 aA0),d3];have C:i+2+1=((i+3:Nat):Int):=aA0;rw[C,p (i+3) a f aA0 aA0 aA0 aA0];cases gR k f _ with
      |none=>rfl
      |some j=>
       show θ (Sum.inr _)=θ (Sum.inr _);congr 3;try dsimp only
       omega
  ·rw[akh,afd,aA aA0,gR,aB (Pu aB5)]
theorem Jl(s:aC)(d:γ s<=4194304)(i e:Nat)(b:i<=e)(g:e<=γ s)(k:Int)(f:k=0\/k=1\/k=2):
  afs FU (s,i) e k=θ (match fF k (sub s i e)with|none=>(0,ν)|some j=>(((i+j:Nat)),μ)):=by
 have a:sub s i e=(s.take e).drop i:=by unfold sub;rw[tT,tT,Po]
 have c:γ ((s.take e).drop i)=e-i:=by rw[fY,iW];omega
 have:=YY s i e d g k f _ i FU (γ (sub s _ e)+1) (dC _) aA5 b (by rw[a];omega);unfold afs;rw[this,<-a];unfold fF;cases gR k _ _<;>rfl
theorem ZS(s:aC)(A:γ s<=4194304)(k:Int)(C:k=0\/k=1\/k=2)(n:Nat):∀i c f (b:aC),γ s-i<=n->n<c->i<=γ s->γ s-i<f->γ b<=i->gR k f (s.drop i)=ι->
  aic FU s c b i=θ (.inl (b++sR k f (s.drop i))):=by
 induction n with
 |zero=>intro i c f b D E t u F a;obtain⟨c,rfl⟩:=cD c;obtain⟨f,rfl⟩:∃m,f=m+1:=⟨f-1,aA0⟩;rw[aph,ahn,aA aA0,sR,aB (Pu aA0),gV]
 |succ n w=>
  intro i c f b D E t u F a;obtain⟨c,rfl⟩:=cD c;obtain⟨f,rfl⟩:∃m,f=m+1:=⟨f-1,aA0⟩;by_cases r:i<γ s
  ·have g:0<=(i:Int)/\(i:Int)<(γ s:Int):=by omega
   have d:γ (s.drop i)=γ s-i:=fY;have l:¬s.drop i=[]:=λh=>by rw[h]at d;simp at d;omega
   have iL:Υ (s.drop i) 0=Υ s (i:Int):=by have:=iy s i 0;rw[Rt]at this;exact this
   have d1:(s.drop i).drop 1=s.drop (i+1):=aF7;have d3:(s.drop i).drop 3=s.drop (i+3):=aF7;rw[gR,aA l,iL]at a;rw[aph,ahn,aB g.2,aV g,sR,aA l,iL];by_cases p:Fv (Υ s (i:Int)) k=μ
   ·have j:¬Υ s (i:Int)=37:=λe=>by rw[e,ys k C]at p;cases p
    rw[aB p,tM,d1]at a;rw[aA j,aV g,aV aA3,aV (cJ _ aA0 aA0),qG,w _ c f _ aA0 aA0 aA0 aA0 aA3 a,aB p];simp
   ·rw[aA p]at a⊢;cases q:lA _ with
    |none=>rw[q]at a;cases a
    |some v=>
     rw[q]at a;simp only at a;have B:=(bdc q).1;have j:Υ s i=37:=by rw[<-iL];exact(bdc q).2
     obtain⟨z,y,x⟩:=FM s A i r;rw[q]at y x;obtain rfl:v=z:=by have:=x Τ;simpa using this
     by_cases o:jD v=μ
     ·rw[aB o]at a;cases a
     ·rw[aA o,tM,d3]at a;have G:i+2+1=((i+3:Nat):Int):=by omega
      rw[aB j,y,aS];rw[aV aA3,aV (cJ _ aA0 aA0),aV (cJ _ aA0 aA0),G,w (i+3) c f _ aA0 aA0 aA0 aA0 aA3 a];simp
  ·rw[aph,ahn,aA aA0,sR,aB (Pu aA0),gV]
theorem xL(s:aC)(c:γ s<=4194304)(k:Int)(d:k=0\/k=1\/k=2)(b:fF k s=ι):aku FU s=θ (kM k s):=by have:=ZS s c k d (γ s) 0 FU (γ s+1) [] aA0 aA5 aA0 aA0 aA2 (by rw[WZ];exact b);have a:aic FU s FU _ 0=_:=this;unfold aku ayy;rw[yw aA0,a,aS];rfl
open Go.Lib renaming indexAny → Bu
abbrev RR:=aC×Int×Int×ζ
def On(r:RR)(a:Int)(e:ζ):RR:=if r.2.2.2=0 then(r.1,r.2.1,a,e)else r
theorem Qa(r:RR)(a:Int)(e:ζ):Jf FU r a e=θ (On r a e):=by unfold Jf On;split<;>rfl
theorem Iu(r:RR)(a:Int)(e:ζ):(On r a e).1=r.1/\(On r a e).2.1=r.2.1:=by unfold On;split<;>exact⟨Τ,Τ⟩
def bQ(st:aC)(s:aC)(i:Nat):Nat:=i+dV (λc=> !fN st c) (s.drop i)
theorem Jc(st s:aC)(i:Nat):i<=bQ st s i:=Nat.le_add_right _ _
theorem Er(st s:aC)(i:Nat)(a:i<=γ s):bQ st s i<=γ s:=by have:=HI (λc=> !fN st c) (s.drop i);rw[fY]at this;unfold bQ;omega
theorem Rj(st:aC):(λc=>st.contains c)=fN st:=by funext c;rw[List.contains_eq_any_beq];congr 1;funext b;exact Bool.beq_comm
theorem vt(s:aC)(j:γ s<=4194304)(i:Nat)(k:i<=γ s)(st:aC)(h:γ st<=1000)(g:st.all (λb=>decide (b.toNat<128))=μ):Zt FU s i st=θ ((bQ st s i):Int):=by
 have l:γ (s.drop i)=γ s-i:=fY;have a:=bhv (fN st) (s.drop i);have c:Bu (s.drop i) st=dN (fN st) (s.drop i):=by rw[beo,Rj]
 unfold Zt bQ;rw[aV aA0,tT,aV ⟨aA0,h,g⟩,c];rcases a with⟨f,e⟩|⟨f,e,d⟩
 ·rw[aA aA0];congr 1;omega
 ·rw[aV (cJ _ aA0 aA0),d];rfl
theorem azm(s:aC)(g:γ s<=4194304)(i:Nat)(j:i<=γ s)(a:Int)(e:ζ)(st:aC)(l:γ st<=1000):XR FU (s,i,a,e) st=θ ((bQ st s i):Int):=by
 have:=yY (λc=> !fN st c) s (ajg FU (s,(i:Int),a,e) st)
  (λd=>by rw[alw,afy,aA (show¬((γ s:Int)<(γ s:Int))by omega)];rfl)
  (λd k f h=>by have b:fN st (Υ s (k:Int))=μ:=aA8;rw[alw,afy,aB (show(k:Int)<(γ s:Int)by omega),aV (show 0<=(k:Int)/\(k:Int)<(γ s:Int)by omega),awo _ _ aA0,b];rfl)
  (λd k f h=>by have b:fN st (Υ s (k:Int))=ν:=aA8;rw[alw,afy,aB (show(k:Int)<(γ s:Int)by omega),aV (show 0<=(k:Int)/\(k:Int)<γ s by omega),awo _ _ aA0,b,aS,vJ,aS,aO,eF])
  (γ s-i) i FU aA0 aA5
 unfold XR;rw[this];rfl
theorem bhe(st s:aC)(i:Nat)(f:i<=γ s)(h:bQ st s i<γ s):fN st (Υ s (bQ st s i))=μ:=by
 have g:γ (s.drop i)=γ s-i:=fY;have key:∀l:aC,dV (λc=> !fN st c) l<γ l->fN st (Υ l (dV (λc=> !fN st c) l:Int))=μ:=by
  intro l;induction l with
  |nil=>intro h;simp at h
  |cons a l d=>
   intro h;cases b:fN st a with
   |true=>have e:dV (λc=> !fN st c) (a::l)=0:=tY _ a l (by simp[b]);rw[e];exact b
   |false=>
    have e:dV (λc=> !fN st c) (a::l)=dV (λc=> !fN st c) l+1:=by rw[dV,aB (by simp[b])]
    rw[e]at h⊢;have:=d (by simp at h;omega);simpa [Υ] using this
 unfold bQ at h⊢;have:=key (s.drop i) aA0;rw[iy]at this;exact this
theorem X2(s:aC)(y:Int)(a:Int)(A:ζ)(e:Nat)(J:γ s<=4194304)(K:e<=γ s)(k:Int)(z:k=0\/k=1\/k=2)(n:Nat):∀(i c f:Nat) (out:aC),e-i<=n->n<c->i<=e->e-i<f->γ out<=i->
  ahw FU (s,y,a,A) (e:Int) k c out (i:Int)=θ (match gR k f ((s.take e).drop i)with|none=>.inl (out++sR k f ((s.take e).drop i))|some j=>.inr ([],On (s,y,a,A) ((i+j:Nat):Int) 5)):=by
 induction n with
 |zero=>intro i c f out F G t u D;obtain⟨c,rfl⟩:=cD c;obtain⟨f,rfl⟩:∃m,f=m+1:=⟨f-1,aA0⟩;have o:(s.take e).drop i=[]:=Pu aB5;rw[ake,afc,aA aA0,gR,aB o,sR,aB o,gV]
 |succ n x=>
  intro i c f out F G t u D;obtain⟨c,rfl⟩:=cD c;obtain⟨f,rfl⟩:∃m,f=m+1:=⟨f-1,aA0⟩;by_cases q:i<e
  ·have g:γ ((s.take e).drop i)=e-i:=by rw[fY,iW];omega
   have l:¬(s.take e).drop i=[]:=λh=>by rw[h]at g;simp at g;omega
   have iL:Υ ((s.take e).drop i) 0=Υ s (i:Int):=by have:=iy (s.take e) i 0;rw[Rt]at this;rw[show Υ ((s.take e).drop i) 0=Υ (s.take e) (i:Int)from this];simp only[Υ,tT,bF];rw[AE q]
   have d1:((s.take e).drop i).drop 1=(s.take e).drop (i+1):=aF7;have d3:((s.take e).drop i).drop 3=(s.take e).drop (i+3):=aF7;have r:0<=(i:Int)/\(i:Int)<(γ s:Int):=aA0;rw[ake,afc,aB aA0,aV r,gR,sR,aA l,aA l,iL];by_cases d:Υ s (i:Int)=37
   ·have b:((Υ s (i:Int)).toNat:Int)=37:=by rw[d];rfl
    have w:¬Fv (Υ s (i:Int)) k=μ:=by rw[d,ys k z];decide
    have C:γ (s.take e)=e:=aB5;rw[aB b,aV (show 0<=(e:Int)/\(e:Int)<=(γ s:Int)by omega),tT,W8 (s.take e) aA0 i aA0,aS,aA w,aA w];cases p:lA ((s.take e).drop i)with
    |none=>simp only;rw[aB aA1,aS,aO,Qa,aS,aS,GX];rfl
    |some v=>
     have E:=(bdc p).1;have B:=fH v;simp only;rw[aA aA0,Wm,bhj,aS,aS];cases H:jD v with
     |true=>rw[aO,Qa,aS,aS,GX,aB rfl];rfl
     |false=>
      rw[aJ,aV (cJ _ aA0 aA0),aS,qL,aA (show¬(ν=μ)by decide),d3];simp only;have I:(i:Int)+2+1=((i+3:Nat):Int):=aA0;rw[Wm,aV aB7,aV (cJ _ aA0 aA0),I,x (i+3) c f _ aA0 aA0 aA0 aA0 aB4];cases gR k f ((s.take e).drop (i+3))with
      |none=>simp
      |some j=>
       show θ (Sum.inr _)=θ (Sum.inr _);congr 4;try dsimp only
       omega
   ·have b:¬((Υ s (i:Int)).toNat:Int)=37:=λh=>d (jB.1 (by have:(37:ζ).toNat=37:=Τ;omega));rw[aA b,Wm,NP _ k z,aS];cases w:Fv (Υ s (i:Int)) k with
    |true=>
     rw[iV,aJ,aS,qL,aB rfl,aB rfl,d1];simp only;rw[Wm,aV aB7,aV (cJ _ aA0 aA0),qG,x (i+1) c f _ aA0 aA0 aA0 aA0 aB4];cases gR k f ((s.take e).drop (i+1))with
     |none=>simp
     |some j=>
      show θ (Sum.inr _)=θ (Sum.inr _);congr 4;try dsimp only
      omega
    |false=>
     have p:lA ((s.take e).drop i)=ι:=by
      cases p:lA ((s.take e).drop i)with
      |none=>rfl
      |some v=>exact absurd (by rw[<-iL];exact(bdc p).2) d
     rw[vJ,aO,Qa,aS,aS,GX,aA (show¬(ν=μ)by decide),p];rfl
  ·have o:(s.take e).drop i=[]:=Pu aB5;rw[ake,afc,aA aA0,gR,aB o,sR,aB o,gV]
theorem qY(s:aC)(g:γ s<=4194304)(i e:Nat)(f:i<=e)(l:e<=γ s)(a:Int)(d:ζ)(k:Int)(h:k=0\/k=1\/k=2):
  adi FU (s,(i:Int),a,d) (e:Int) k=θ (match fF k (sub s (i:Int) (e:Int))with|none=>(kM k (sub s (i:Int) (e:Int)),(s,(e:Int),a,d))|some j=>([],On (s,(i:Int),a,d) ((i+j:Nat):Int) 5)):=by
 have b:sub s (i:Int) (e:Int)=(s.take e).drop i:=by unfold sub;rw[tT,tT,Po]
 have c:γ ((s.take e).drop i)=e-i:=by rw[fY,iW];omega
 have:=X2 s (i:Int) a d e g l k h (e-i) i FU (γ (sub s (i:Int) (e:Int))+1) [] (dC _) aA5 f (by rw[b,c];omega) aA2;unfold adi;simp only;rw[this,aS,<-b];unfold fF kM;cases gR k (γ (sub s (i:Int) (e:Int))+1) (sub s (i:Int) (e:Int))with
 |none=>simp only[yL];rfl
 |some j=>rfl
theorem vU(s:aC)(i:Nat)(a:Int)(c:ζ):LL FU (s,i,a,0) c=θ (cX s i c):=by unfold LL;rw[Xc];rfl
theorem Uc(s:aC)(i a:Int)(e:ζ)(b:¬e=0)(c:ζ):LL FU (s,i,a,e) c=θ ν:=by unfold LL;rw[aA b];rfl
theorem jf(k:Int):∀f l j,gR k f l=θ j->j<γ l
 |0,_,_,h=>by cases h
 |f+1,l,j,h=>by
  rw[gR]at h;by_cases a:l=[]
  ·rw[aB a]at h;cases h
  ·have b:=cA.2 a;rw[aA a]at h;split at h
   ·rw[cH]at h;obtain⟨x,hx,rfl⟩:=h;have:=jf k f _ x hx;rw[fY]at this;omega
   ·split at h
    ·rename_i v c;split at h
     ·rw[bH]at h;omega
     ·rw[cH]at h;obtain⟨x,hx,rfl⟩:=h;have:=jf k f _ x hx;rw[fY]at this;omega
    ·rw[bH]at h;omega
theorem Of(k:Int):∀f l,γ (sR k f l)<=γ l
 |0,_=>by simp[sR]
 |f+1,l=>by
  rw[sR];by_cases a:l=[]
  ·rw[aB a];simp
  ·have b:=cA.2 a;rw[aA a];split
   ·have:=Of k f (l.drop 1);rw[fY]at this;rw[dT];omega
   ·split
    ·have:=Of k f (l.drop 3);rw[fY]at this;rw[dT];omega
    ·simp
theorem sQ(k:Int)(l:aC):γ (kM k l)<=γ l:=Of k _ l
theorem sP(k:Int)(l:aC)(a:fF k l=ι):kM k l=[]↔l=[]:=by
 unfold kM fF at*;rw[sR];rw[gR]at a;by_cases b:l=[]
 ·rw[aB b];simp[b]
 ·rw[aA b]at a⊢;constructor
  ·intro h;split at h
   ·cases h
   ·rename_i c;rw[aA c]at a;split at h
    ·cases h
    ·rename_i d;rw[d]at a;cases a
  ·intro h;exact absurd h b
abbrev UU:=aC×aC×aC×Int×δ PP×δ PP
def mJ(U:aC):ζ×aC:=match fF 0 U with|some j=>(if Υ U j=58 then 15 else 5,[])|none=>if U=[]then(5,[])else(0,kM 0 U)
theorem utl1(b:ζ)(s:aC)(i:Nat):bQ [b] s i=i+dV (λc=> !(c==b)) (s.drop i):=by
 have e:(λc=> !fN [b] c)=(λc=> !(c==b)):=by funext c;unfold fN;rw[GY,lF,gM,Bool.beq_comm]
 unfold bQ;rw[e]
theorem bde(A B:aC)(j:Nat)(h:j<γ A):Υ (A++B) j=Υ A j:=by simp only[Υ,tT,bF];rw[aI h]
theorem KI(A B:aC)(n:∀c∈A,c≠58)(d:A≠[]):lA (A++58::B)=lA A:=by
 have f:=cA.2 d;have m:Υ (A++58::B) 0=Υ A 0:=bde A _ 0 f;unfold lA;by_cases e:2<γ A
 ·have l:Υ (A++58::B) 1=Υ A 1:=bde A _ 1 aA0;have k:Υ (A++58::B) 2=Υ A 2:=bde A _ 2 aA0;have a:2<γ (A++58::B):=by rw[cR];omega
  rw[m,l,k];by_cases b:Υ A 0=37/\gJ (Υ A 1)=μ/\gJ (Υ A 2)=μ
  ·rw[aB ⟨a,b⟩,aB ⟨e,b⟩]
  ·rw[aA (λh=>b h.2),aA (λh=>b h.2)]
 ·have g:(if 2<γ A/\Υ A 0=37/\gJ (Υ A 1)=μ/\gJ (Υ A 2)=μ then θ (esV (Υ A 1) (Υ A 2))else ι)=ι:=aA (λh=>e h.1);rw[g];refine aA λh=> ?_;by_cases j:γ A=1
  ·have:Υ (A++58::B) 1=58:=by have:=AL A 58 B;rw[j]at this;exact this
   rw[this]at h;exact absurd h.2.2.1 aA1
  ·have:Υ (A++58::B) 2=58:=by have i:γ A=2:=aA0;have:=AL A 58 B;rw[i]at this;exact this
   rw[this]at h;exact absurd h.2.2.2 aA1
theorem El(B:aC):∀f g A,(∀c∈A,c≠58)->γ A<f->γ A+γ B+1<g->gR 0 g (A++58::B)=θ (match gR 0 f A with|some j=>j|none=>γ A)
 |0,_,A,_,h,_=>by omega
 |f+1,g,A,o,t,s=>by
  obtain⟨g,rfl⟩:∃m,g=m+1:=⟨g-1,aA0⟩;have d:¬A++58::B=[]:=aA2;rw[gR,gR,aA d];by_cases k:A=[]
  ·subst k;have q:Υ ([]++58::B) 0=58:=Τ;have e:lA ([]++58::B)=ι:=by
    cases e:lA ([]++58::B)with
    |none=>rfl
    |some v=>exact absurd (show(58:ζ)=37 from(bdc e).2) aA1
   rw[q,e];rfl
  ·have l:=cA.2 k;have r:Υ (A++58::B) 0=Υ A 0:=bde A _ 0 l;have n:∀m,m<=γ A->(A++58::B).drop m=A.drop m++58::B:=λm p=>iI p;have i:∀m,∀c∈A.drop m,c≠58:=λm c b=>o c (kV b);rw[aA k,r];by_cases b:Fv (Υ A 0) 0=μ
   ·rw[aB b,aB b,n 1 l,El B f g (A.drop 1) (i 1) aB6 aB6];cases gR 0 f _ with
    |some j=>rfl
    |none=>show θ _=θ _;congr 1;rw[fY];show γ A-1+1=γ A;omega
   ·rw[aA b,aA b,KI A B o k];cases e:lA A with
    |none=>rfl
    |some v=>
     have u:=(bdc e).1;simp only;by_cases a:jD v=μ
     ·rw[aB a,aB a]
     ·rw[aA a,aA a,n 3 aA0,El B f g (A.drop 3) (i 3) aB6 aB6];cases gR 0 f _ with
      |some j=>rfl
      |none=>show θ _=θ _;congr 1;rw[fY];show γ A-3+3=γ A;omega
theorem RH(A B:aC)(b:∀c∈A,c≠58):mJ (A++58::B)=(match fF 0 A with|some _=>5|none=>15,[]):=by
 have h:=El B (γ A+1) (γ (A++58::B)+1) A b aA0 (by rw[cR,dT];omega);unfold mJ;have e:fF 0 (A++58::B)=θ (match fF 0 A with|some j=>j|none=>γ A):=h;rw[e];cases d:fF 0 A with
 |none=>simp only[AL,gZ]
 |some j=>have a:j<γ A:=jf 0 _ A j d;simp only;rw[bde A _ j a,aA (b _ (at_mem A j a))]
theorem RG(U:aC)(d:∀c∈U,c≠58):mJ U=match fF 0 U with|some _=>(5,[])|none=>if U=[]then(5,[])else(0,kM 0 U):=by
 unfold mJ;cases b:fF 0 U with
 |none=>rfl
 |some j=>have a:j<γ U:=jf 0 _ U j b;simp only;rw[aA (d _ (at_mem U j a))]
def fU(s:aC)(i:Nat):Nat:=if cX s i 91=μ then min (bQ [93] s i+1) (γ s) else bQ [58,59,63] s i
def jP (s : aC) (i : Nat) : ζ × aC × Int × Nat :=
  if (kC (sub s i (fU s i))).2 = ν then (5,[],0,0)
  else if cX s (fU s i) 58 = μ then
    (if (iX (sub s ((fU s i + 1 : Nat)) (bQ [59,63] s (fU s i + 1)))).2 = 0 then (0,(kC (sub s i (fU s i))).1,(iX (sub s ((fU s i + 1 : Nat)) (bQ [59,63] s (fU s i + 1)))).1,bQ [59,63] s (fU s i + 1))
     else ((iX (sub s ((fU s i + 1 : Nat)) (bQ [59,63] s (fU s i + 1)))).2,[],0,0))
  else if fU s i < γ s /\ cX s (fU s i) 59 = ν /\ cX s (fU s i) 63 = ν then (5,[],0,0)
  else (0,(kC (sub s i (fU s i))).1,0,fU s i)
theorem Ap(s:aC)(i:Nat)(a:i<=γ s):i<=fU s i/\fU s i<=γ s:=by
 have d:=Jc [93] s i;have c:=Jc [58,59,63] s i;have b:=Er [58,59,63] s i a;unfold fU;split
 ·rename_i h;omega
 ·omega
def fW(s:aC)(i:Nat):ζ×aC×(aC×Int×Nat):=
 if bQ [64] s i<γ s then
  (if(mJ (sub s i (bQ [64] s i))).1=0 then((jP s (bQ [64] s i+1)).1,(mJ (sub s i (bQ [64] s i))).2,(jP s (bQ [64] s i+1)).2)else((mJ (sub s i (bQ [64] s i))).1,[],[],0,0))
 else((jP s i).1,[],(jP s i).2)
theorem QS(s:aC)(D:γ s<=4194304)(i:Nat)(B:i<=γ s)(j r:aC):∃a c u,0<=a/\a<=5000000/\((Zt FU s i ([58,59,63])).bind λC=>((Ho FU (s,i) 91).bind λp=>bif p then((Zt FU s i [93]).bind λk=>gd (bK (k+1))<|some (min (k+1) (γ s)))else θ C).bind λb=>gd (0<=(i:Int)/\i<=b/\b<=γ s)<|(XO FU (sub s i b)).bind λf=>bif (!f.2)then θ ((i:Int),5,(s,(i:Int)),((j,r,([]:aC),(0:Int),([]:δ PP),([]:δ PP)):UU))else(Ho FU (s,b) 58).bind λt=>bif t then(gd (bK (b+1))<|(Zt FU s (b+1) ([59,63])).bind λg=>gd (0<=(b+1)/\(b+1)<=g/\g<=γ s)<|(ank FU (sub s (b+1) g)).bind λd=>((if d.2=0 then(if d.1<1 then θ μ else θ (decide (65535<d.1)))else θ ν).bind λw=>bif w then θ 3 else θ d.2).bind λo=>if o=0 then θ (0,0,(s,g),((j,r,f.1,d.1,[],[])))else θ (b+1,o,(s,b+1),((j,r,f.1,(0:Int),[],[]))))else((adj FU (s,b)).bind λn=>bif (!n)then((Ho FU (s,b) 59).bind λm=>bif (!m)then((Ho FU (s,b) 63).bind λl=>θ (!l))else θ ν)else θ ν).bind λv=>bif v then θ (b,5,(s,b),((j,r,f.1,0,[],[])))else θ (0,0,(s,b),((j,r,f.1,0,[],[]))))
  =θ (a,(jP s i).1,c,u)/\((jP s i).1=0->c=(s,((jP s i).2.2.2:Int))/\u=(j,r,(jP s i).2.1,(jP s i).2.2.1,[],[])):=by
 have H:=Ap s i B;have M:(if cX s i 91=μ then θ ((min (bQ [93] s i+1) (γ s):Nat):Int)else θ ((bQ [58,59,63] s i:Nat):Int))=θ ((fU s i:Nat):Int):=by unfold fU;split<;>rfl
 have L:((Ho FU (s,(i:Int)) (91:ζ)).bind λ(p:η)=>bif p then((Zt FU s (i:Int) ([93]:aC)).bind λ(k:Int)=>gd (bK (k+(1:Int)))<|some (min (k+(1:Int)) (γ s:Int)))else θ ((bQ [58,59,63] s i:Nat):Int))=θ ((fU s i:Nat):Int):=by
  have N:=Er [93] s i B;rw[HG,aS,<-M];cases cX s i 91 with
  |false=>rfl
  |true=>
   rw[aO,vt s D i B _ aA1 aA1,aS,aV (cJ _ aA0 aA0)];congr 1;try dsimp only
   omega
 rw[vt s D i B _ aA1 aA1,aS,L,aS];unfold jP;generalize fU s i=e at H⊢;rw[aV aA0,uT _ aC3,aS];cases O:(kC (sub s (i:Int) (e:Int))).2 with
 |false=>exact⟨_,_,_,aA0,aA0,Τ,λh=>by rw[aB rfl]at h;exact absurd h aA1⟩
 |true=>
  rw[aA (show¬(μ=ν)by decide),HG,aS];cases E:cX s e 58 with
  |true=>
   have y:=(Eu E).1;have G:=Jc [59,63] s (e+1);have F:=Er [59,63] s (e+1) y;rw[aB rfl,aV (cJ _ aA0 aA0),qG,vt s D (e+1) y _ aA1 aA1,aS,aV aA0,TU,aS,qk,aS];unfold iX;generalize gI (sub s ((e+1:Nat):Int) ((bQ [59,63] s (e+1):Nat):Int))=q;by_cases A:q.2=0/\(q.1<1\/65535<q.1)
   ·rw[aB A,aB A,aA aA1,aA aA1];exact⟨_,_,_,aA0,aA0,Τ,λh=>absurd h aA1⟩
   ·rw[aA A,aA A];by_cases z:q.2=0
    ·rw[aB z,aB z];exact⟨_,_,_,aA0,aA0,Τ,λ_=>⟨Τ,Τ⟩⟩
    ·rw[aA z,aA z];exact⟨_,_,_,aA0,aA0,Τ,λh=>absurd h z⟩
  |false=>
   have K:((adj FU (s,(e:Int))).bind λ(n:η)=>bif (!n)then((Ho FU (s,(e:Int)) (59:ζ)).bind λ(m:η)=>bif (!m)then((Ho FU (s,(e:Int)) (63:ζ)).bind λ(l:η)=>θ (!l))else θ ν)else θ ν)=θ (decide (e<γ s/\cX s e 59=ν/\cX s e 63=ν)):=by
    rw[nI];by_cases x:e<γ s
    ·rw[aG (show¬(γ s:Int)<=(e:Int)by omega),HG];cases J:cX s e 59 with
     |true=>rw[aG (by rintro⟨_,h,_⟩;cases h)];rfl
     |false=>
      rw[HG];cases I:cX s e 63 with
      |true=>rw[aG (by rintro⟨_,_,h⟩;cases h)];rfl
      |false=>rw[aH ⟨x,rfl,rfl⟩];rfl
    ·rw[aH (show(γ s:Int)<=(e:Int)by omega),aG (λh=>x h.1)];rfl
   rw[aA (show¬(ν=μ)by decide),K];by_cases hx:e<γ s/\cX s e 59=ν/\cX s e 63=ν
   ·rw[aH hx,aB hx];exact⟨_,_,_,aA0,aA0,Τ,λh=>absurd h aA1⟩
   ·rw[aG hx,aA hx];exact⟨_,_,_,aA0,aA0,Τ,λ_=>⟨Τ,Τ⟩⟩
theorem x1(s:aC)(z:γ s<=4194303)(i:Nat)(v:i<=γ s)(b:aC):∃a c u,0<=a/\a<=5000000/\alq FU (s,i) (b,[],[],0,[],[])=θ (a,(fW s i).1,c,u)/\((fW s i).1=0->c=(s,((fW s i).2.2.2.2:Int))/\u=(b,(fW s i).2.1,(fW s i).2.2.1,(fW s i).2.2.2.1,[],[])):=by
 have A:γ (s.drop i)=γ s-i:=fY;have g:=bhv (·==(64:ζ)) (s.drop i);have r:=utl1 64 s i;unfold alq fW;simp only;rw[aV aA0,tT];rcases g with⟨p,x⟩|⟨p,x,w⟩
 ·have f:¬bQ [64] s i<γ s:=by omega
  rw[aA aA0,aA f];exact QS s aA0 i v b []
 ·have y:(i:Int)+dN (·==(64:ζ)) (s.drop i)=((bQ [64] s i:Nat):Int):=by rw[w,r];rfl
  have l:bQ [64] s i<γ s:=aA0;have m:=Jc [64] s i;have q:(dN (·==(64:ζ)) (s.drop i)=0)↔bQ [64] s i=i:=aA0;rw[aB p,y,aV (cJ _ aA0 aA0),aB l,Jl s aA0 i _ m aA0 0 (.inl rfl),aS];have e:γ (sub s (i:Int) (bQ [64] s i:Int))=bQ [64] s i-i:=aC3;unfold mJ;cases o:fF 0 (sub s (i:Int) (bQ [64] s i:Int))with
  |some j=>
   have t:j<bQ [64] s i-i:=by have:=jf 0 _ _ j o;omega
   have iL:Υ s ((i+j:Nat):Int)=Υ (sub s (i:Int) (bQ [64] s i:Int)) (j:Int):=by unfold sub;have:=iy s i j;rw[<-this];simp only[Υ,tT,bF];rw[AE t]
   simp only;rw[aO,aV aA0,iL];by_cases d:Υ (sub s (i:Int) (bQ [64] s i:Int)) (j:Int)=58
   ·rw[aB d,aB d,aA aA1];exact⟨_,_,_,aA0,aA0,Τ,λh=>absurd h aA1⟩
   ·rw[aA d,aA d,aA aA1];exact⟨_,_,_,aA0,aA0,Τ,λh=>absurd h aA1⟩
  |none=>
   simp only;rw[aJ];by_cases n:bQ [64] s i=i
   ·have k:sub s (i:Int) (bQ [64] s i:Int)=[]:=by apply Gh;omega
    rw[aB (q.2 n),aB k,aA aA1];exact⟨_,_,_,aA0,aA0,Τ,λh=>absurd h aA1⟩
   ·have k:¬sub s (i:Int) (bQ [64] s i:Int)=[]:=λh=>by rw[h]at e;simp at e;omega
    rw[aA (λh=>n (q.1 h)),aA k,aV aA0,xL _ aA0 0 (.inl rfl) o,aS,aV (cJ _ aA0 aA0),qG];exact QS s aA0 _ aA0 b _
theorem Ny(r:RR)(a:Int)(e:ζ)(b:0<=r.2.2.1/\r.2.2.1<=5000000)(c:0<=a/\a<=5000000):0<=(On r a e).2.2.1/\(On r a e).2.2.1<=5000000:=by
 unfold On;split
 ·exact c
 ·exact b
variable{p:Prop}
theorem abo(h:p:=by first|omega|(dsimp only;omega)):p:=h
theorem qM(h:p:=by first|omega|(dsimp only;omega)|exact Ny _ _ _ abo abo|exact Ny _ _ _ (Ny _ _ _ abo abo) abo):p:=h
theorem SQ(s:aC)(o:γ s<=4194304)(i y:Nat)(t:i<=y)(z:y<=γ s)(n:Nat):∀k a,k+n=y->n<a->i<=k->(∀c∈sub s i k,c≠58)->
  (∃r:RR,ahh FU (s,(i:Int),0,0) (y:Int) a (k:Int)=θ (.inr ([],r))/\r.1=s/\(0<=r.2.2.1/\r.2.2.1<=5000000)/\r.2.2.2=(mJ (sub s (i:Int) (y:Int))).1/\¬(mJ (sub s (i:Int) (y:Int))).1=0)\/
  (ahh FU (s,i,0,0) y a k=θ (.inl ())/\∀c∈sub s i y,c≠58):=by
 induction n with
 |zero=>intro k a p u f d;obtain⟨a,rfl⟩:=cD a;obtain rfl:k=y:=aA0;right;rw[avm,ajf,aA aA0];exact⟨Τ,d⟩
 |succ n m=>
  intro k a p u f d;obtain⟨a,rfl⟩:=cD a;rw[avm,ajf,aB aA0,aV (show 0<=(k:Int)/\(k:Int)<(γ s:Int)by omega)];by_cases e:Υ s (k:Int)=58
  ·left
   have b:sub s (i:Int) (y:Int)=sub s (i:Int) (k:Int)++58::sub s ((k+1:Nat):Int) (y:Int):=by
    unfold sub;simp;have x:(s.drop i).take (y-i)=(s.drop i).take (k-i)++((s.drop i).drop (k-i)).take (y-k):=by rw[show y-i=(k-i)+(y-k)by omega];rw[List.take_add]
    have w:(s.drop i).drop (k-i)=s.drop k:=by rw[AG];congr 1;omega
    rw[x,w,Pb s k aA0,e,show y-k=(y-(k+1))+1 by omega,eT]
   rw[aB e,qY s o i k f aA0 0 0 0 (.inl rfl),aS,b,RH _ _ d];cases v:fF 0 (sub s (i:Int) (k:Int))with
   |some j=>
    have A:=jf _ _ _ j v;have q:γ (sub s (i:Int) (k:Int))<=k-i:=aC3;simp only;rw[Qa,aS,Qa];refine⟨_,Τ,?_,(show 0<=((i+j:Nat):Int)/\((i+j:Nat):Int)<=5000000 by omega),?_,aA1⟩
    ·rw[(Iu _ _ _).1,(Iu _ _ _).1]
    ·rfl
   |none=>
    rw[Qa,aS,Qa];refine⟨_,Τ,?_,(show 0<=((k:Nat):Int)/\((k:Nat):Int)<=5000000 by omega),?_,aA1⟩
    ·rw[(Iu _ _ _).1,(Iu _ _ _).1]
    ·rfl
  ·have g:sub s (i:Int) ((k+1:Nat):Int)=sub s (i:Int) (k:Int)++[Υ s (k:Int)]:=BG s i k f aA0
   have:=m (k+1) a aA0 aA0 aA0 (λc l=>by
    rw[g]at l;rcases aZ.1 l with h|h
    ·exact d c h
    ·rw[aF.1 h];exact e)
   rw[aA e,aV (cJ _ aA0 aA0)];exact this
theorem SR(s:aC)(w:γ s<=4194303)(i:Nat)(n:i<=γ s):∃u r,ale FU (s,i,0,0)=θ (u,r)/\r.1=s/\(0<=r.2.2.1/\r.2.2.1<=5000000)/\
  (if bQ [64] s i<γ s then r.2.2.2=(mJ (sub s i (bQ [64] s i))).1/\((mJ (sub s i (bQ [64] s i))).1=0->u=(mJ (sub s i (bQ [64] s i))).2/\r=(s,((bQ [64] s i+1:Nat):Int),0,0))else u=[]/\r=(s,(i:Int),0,0)):=by
 have d:=Jc [64] s i;have f:=Er [64] s i n;unfold ale;rw[azm s aA0 i n 0 0 _ aA1,aS];simp only;by_cases a:bQ [64] s i<γ s
 ·rw[aA aA0];have c:sub s (i:Int) (i:Int)=[]:=jk s i;rcases SQ s aA0 i (bQ [64] s i) d f (bQ [64] s i-i) i FU aA0 aA5 (dC _) (by rw[c];simp)with⟨r,m,l,k,q,p⟩|⟨m,l⟩
  ·rw[m];exact⟨_,r,Τ,l,k,by rw[aB a];exact⟨q,λh=>absurd h p⟩⟩
  ·rw[m,aS,RG _ l];have b:γ (sub s (i:Int) (bQ [64] s i:Int))=bQ [64] s i-i:=by rw[Qb];omega
   by_cases v:bQ [64] s i=i
   ·have e:sub s (i:Int) (bQ [64] s i:Int)=[]:=by apply Gh;omega
    have g:fF 0 ([]:aC)=ι:=Τ;rw[aB aA0,Qa,aS,aS];have t:(On (s,(i:Int),0,0) ((bQ [64] s i:Nat):Int) 5)=(s,(i:Int),((bQ [64] s i:Nat):Int),5):=Τ;rw[t];rw[qY s aA0 i _ d aA0 _ _ 0 (.inl rfl),aS,e,g];rw[aV (cJ _ aA0 aA0)];exact⟨_,_,Τ,Τ,qM,by rw[aB a];exact⟨Τ,λh=>absurd h aA1⟩⟩
   ·have e:¬sub s (i:Int) (bQ [64] s i:Int)=[]:=λh=>by rw[h]at b;simp at b;omega
    rw[aA aA0,aS];rw[qY s aA0 i _ d aA0 _ _ 0 (.inl rfl),aS,aA e];cases o:fF 0 (sub s (i:Int) (bQ [64] s i:Int))with
    |some j=>have x:=jf _ _ _ j o;simp only;rw[aV (cJ _ aA0 aA0)];exact⟨_,_,Τ,Τ,qM,by rw[aB a];exact⟨Τ,λh=>absurd h aA1⟩⟩
    |none=>rw[aV (cJ _ aA0 aA0)];exact⟨_,_,Τ,Τ,qM,by rw[aB a];exact⟨Τ,λ_=>⟨Τ,Τ⟩⟩⟩
 ·rw[aB aA0];exact⟨_,_,Τ,Τ,qM,by rw[aA a];exact⟨Τ,Τ⟩⟩
theorem IZ(s:aC)(d:γ s<=4194304)(i:Nat)(b:i<=γ s):wv FU (s,i,0,0)=θ ((kC (sub s i (fU s i))).1,if(kC (sub s i (fU s i))).2=μ then(s,(fU s i:Int),0,0)else(s,(fU s i),(i:Int),5)):=by
 have j:=Ap s i b;have f:(if cX s i 91=μ then θ ((min (bQ [93] s i+1) (γ s):Nat):Int)else θ ((bQ [58,59,63] s i:Nat):Int))=θ ((fU s i:Nat):Int):=by unfold fU;split<;>rfl
 unfold wv;simp only;rw[azm s d i b 0 0 _ aA1,aS];have e:((LL FU (s,(i:Int),(0:Int),(0:ζ)) (91:ζ)).bind λ(c:η)=>bif c then((XR FU (s,(i:Int),(0:Int),(0:ζ)) ([93]:aC)).bind λ(a:Int)=>gd (bK (a+(1:Int)))<|some (min (a+(1:Int)) (γ s:Int)))else θ ((bQ [58,59,63] s i:Nat):Int))=θ ((fU s i:Nat):Int):=by
  have g:=Er [93] s i b;rw[vU,aS,<-f];cases cX s i 91 with
  |false=>rfl
  |true=>rw[aO,azm s d i b 0 0 _ aA1,aS,aV (cJ _ aA0 aA0)];congr 1;omega
 rw[e,aS];rw[aV aA0,uB _ aC3,aS];cases h:(kC _).2 with
 |true=>rfl
 |false=>rfl
theorem Ta(s:aC)(i a:Int)(e:ζ)(b:¬e=0):adc FU (s,i,a,e)=θ (0,(s,i,a,e)):=by
 unfold adc;rw[Uc s i a e b];by_cases h:i<γ s
 ·rw[aB h,Uc s i a e b,Uc s i a e b,aS,Qa];have:On (s,i,a,e) i 5=(s,i,a,e):=aA b;rw[this];rfl
 ·rw[aA h];rfl
theorem px (s : aC) (v : γ s <= 4194304) (i : Nat) (w : i <= γ s) : ∃ y p,wv FU (s,i,0,0) = θ y /\ adc FU y.2 = θ p /\ p.2.1 = s /\ (0 <= p.2.2.2.1 /\ p.2.2.2.1 <= 5000000) /\ p.2.2.2.2 = (jP s i).1 /\
    ((jP s i).1 = 0 -> y.1 = (jP s i).2.1 /\ p.1 = (jP s i).2.2.1 /\ p.2 = (s,((jP s i).2.2.2 : Int),0,0)) := by
  have C := Ap s i w;rw[IZ s v i w];unfold jP;generalize fU s i = e at C ⊢;cases J : (kC (sub s (i : Int) (e : Int))).2 with
  | false =>
    refine ⟨_,(0,(s,(e : Int),(i : Int),5)),Τ,?_,?_⟩
    · show adc FU (if ν = μ then (s,(e : Int),0,0) else (s,(e : Int),(i : Int),5)) = _;rw[aA (show ¬ (ν = μ) by decide)]; exact Ta s _ _ 5 aA1
    · exact ⟨Τ,qM,Τ,λh => by rw[aB rfl] at h; exact absurd h aA1⟩
  | true =>
    rw[aB rfl,aA (show ¬ (μ = ν) by decide)];have g : ∃ p,adc FU (s,(e : Int),0,0) = θ p /\ p.2.1 = s /\ (0 <= p.2.2.2.1 /\ p.2.2.2.1 <= 5000000) /\ p.2.2.2.2 = (if cX s e 58 = μ then
    (if (iX (sub s ((e + 1 : Nat) : Int) (bQ [59,63] s (e + 1) : Int))).2 = 0 then ((0 : ζ),(kC (sub s (i : Int) (e : Int))).1,(iX (sub s ((e + 1 : Nat) : Int) (bQ [59,63] s (e + 1) : Int))).1,bQ [59,63] s (e + 1))
     else ((iX (sub s ((e + 1 : Nat) : Int) (bQ [59,63] s (e + 1) : Int))).2,[],0,0))
  else if e < γ s /\ cX s e 59 = ν /\ cX s e 63 = ν then (5,[],0,0)
  else (0,(kC (sub s (i : Int) (e : Int))).1,0,e)).1 /\ ((if cX s e 58 = μ then
    (if (iX (sub s ((e + 1 : Nat) : Int) (bQ [59,63] s (e + 1) : Int))).2 = 0 then ((0 : ζ),(kC (sub s (i : Int) (e : Int))).1,(iX (sub s ((e + 1 : Nat) : Int) (bQ [59,63] s (e + 1) : Int))).1,bQ [59,63] s (e + 1))
     else ((iX (sub s ((e + 1 : Nat) : Int) (bQ [59,63] s (e + 1) : Int))).2,[],0,0))
  else if e < γ s /\ cX s e 59 = ν /\ cX s e 63 = ν then (5,[],0,0)
  else (0,(kC (sub s (i : Int) (e : Int))).1,0,e)).1 = 0 -> p.1 = (if cX s e 58 = μ then (iX (sub s ((e + 1 : Nat) : Int) (bQ [59,63] s (e + 1) : Int))).1 else 0) /\ p.2 = (s,((if cX s e 58 = μ then bQ [59,63] s (e + 1) else e : Nat) : Int),0,0)) := by
      unfold adc;rw[vU,aS];cases d : cX s e 58 with
      | false =>
        rw[vJ,aO];simp only;have I : (if (e : Int) < (γ s : Int) then ((LL FU (s,(e : Int),(0 : Int),(0 : ζ)) (59 : ζ)).bind λ(t : η) => (bif (!t) then ((LL FU (s,(e : Int),(0 : Int),(0 : ζ)) (63 : ζ)).bind λ(r : η) => θ (!r)) else θ ν)) else θ ν) = θ (decide (e < γ s /\ cX s e 59 = ν /\ cX s e 63 = ν)) := by
          by_cases k : e < γ s
          · rw[aB aA0,vU,aS];cases E : cX s e 59 with
            | true => rw[aG (by rintro ⟨_,h,_⟩; cases h)]; rfl
            | false =>
              rw[vJ,aO,vU,aS];cases D : cX s e 63 with
              | true => rw[aG (by rintro ⟨_,_,h⟩; cases h)]; rfl
              | false => rw[aH ⟨k,rfl,rfl⟩]; rfl
          · rw[aA aA0,aG (λh => k h.1)]
        rw[I,aS,aA (show ¬ (ν = μ) by decide)];by_cases hx : e < γ s /\ cX s e 59 = ν /\ cX s e 63 = ν
        · rw[aH hx,aO,Qa,aB hx];exact ⟨_,Τ,Τ,qM,Τ,λh => absurd h aA1⟩
        · rw[aG hx,aJ,aA hx];exact ⟨_,Τ,Τ,qM,Τ,λ_ => ⟨Τ,Τ⟩⟩
      | true =>
        have l := (Eu d).1;have A := Jc [59,63] s (e + 1);have z := Er [59,63] s (e + 1) l;rw[iV,aJ];simp only;rw[aV (cJ _ aA0 aA0),qG,azm s v (e + 1) l 0 0 _ aA1,aS,aV aA0,zK _ (by rw[Qb]; omega),aS];simp only[gZ];unfold iX;generalize gI (sub s ((e + 1 : Nat) : Int) ((bQ [59,63] s (e + 1) : Nat) : Int)) = q;by_cases c : q.2 = 0
        · rw[aB c];by_cases f : q.1 < 1
          · rw[aB f,aB (⟨c,.inl f⟩ : q.2 = 0 /\ (q.1 < 1 \/ 65535 < q.1)),aA aA1];exact ⟨_,Τ,Τ,qM,Τ,λh => absurd h aA1⟩
          · by_cases m : 65535 < q.1
            · rw[aA f,aH m,aB (⟨c,.inr m⟩ : q.2 = 0 /\ (q.1 < 1 \/ 65535 < q.1)),aA aA1];exact ⟨_,Τ,Τ,qM,Τ,λh => absurd h aA1⟩
            · rw[aA f,aG m,aA (show ¬ (q.2 = 0 /\ (q.1 < 1 \/ 65535 < q.1)) by rintro ⟨_,h | h⟩ <;> contradiction),aB c];exact ⟨_,Τ,Τ,qM,Τ,λ_ => ⟨Τ,Τ⟩⟩
        · have B : ¬ (q.2 = 0 /\ (q.1 < 1 \/ 65535 < q.1)) := λh => c h.1
          have H : On (s,((e + 1 : Nat) : Int),0,0) ((e + 1 : Nat) : Int) q.2 = (s,((e + 1 : Nat) : Int),((e + 1 : Nat) : Int),q.2) := Τ;rw[aA c,Qa,H,aS,aS,aA B,aA c];have x : ∀ b : η,((θ b).bind λ(j : η) => (bif j then ((Jf FU (s,((e + 1 : Nat) : Int),((e + 1 : Nat) : Int),q.2) ((e + 1 : Nat) : Int) (3 : ζ)).bind λ(a : RR) => θ (a.1,a.2.1,a.2.2.1,a.2.2.2)) else θ (s,((e + 1 : Nat) : Int),((e + 1 : Nat) : Int),q.2))) = θ (s,((e + 1 : Nat) : Int),((e + 1 : Nat) : Int),q.2) := by
            intro b;cases b with
            | false => rfl
            | true =>rw[ Qa];have : On (s,((e + 1 : Nat) : Int),((e + 1 : Nat) : Int),q.2) ((e + 1 : Nat) : Int) 3 = (s,((e + 1 : Nat) : Int),((e + 1 : Nat) : Int),q.2) := aA c;rw[this]; rfl
          by_cases f : q.1 < 1
          · rw[aB f,x];exact ⟨_,Τ,Τ,qM,Τ,λh => absurd h c⟩
          · rw[aA f,x];exact ⟨_,Τ,Τ,qM,Τ,λh => absurd h c⟩
    obtain ⟨p,f,m,u,G,F⟩ := g;refine ⟨_,p,Τ,f,m,u,G,λh => ?_⟩;obtain ⟨o,n⟩ := F h;cases d : cX s e 58 with
    | true =>
      rw[d] at h o n;rw[aB rfl];by_cases c : (iX (sub s ((e + 1 : Nat) : Int) (bQ [59,63] s (e + 1) : Int))).2 = 0
      · rw[aB c]; exact ⟨Τ,o,n⟩
      · rw[aA c] at h; exact absurd h c
    | false =>
      rw[d,aA (show ¬ (ν = μ) by decide)] at h o n;rw[aA (show ¬ (ν = μ) by decide)];by_cases hx : e < γ s /\ cX s e 59 = ν /\ cX s e 63 = ν
      · rw[aB hx] at h; exact absurd h aA1
      · rw[aA hx]; exact ⟨Τ,o,n⟩
theorem BF(s:aC)(i e n:Nat)(h:i+n<=e):sub s i ((i+n:Nat))=(sub s i e).take n:=by unfold sub;rw[hZ];congr 1;omega
theorem So(s:aC)(i e n:Nat):sub s ((i+n+1:Nat)) e=(sub s i e).drop (n+1):=by unfold sub;rw[Po,AG];congr 1;omega
def dU(T:aC):Nat:=dV (λc=> !(c==61)) T
def kX(k:Int)(l:δ PP)(T:aC):ζ×PP:=
 match fF k (T.take (dU T))with
 |some _=>(5,([],[],ν))
 |none=>if dU T=0 then(5,([],[],ν))else if dU T<γ T then
   (match fF k (T.drop (dU T+1))with
   |some _=>(5,([],[],ν))
   |none=>if T.drop (dU T+1)=[]/\k=1 then(5,([],[],ν))else(yK l (cZ (kM k (T.take (dU T)))),(cZ (kM k (T.take (dU T))),kM k (T.drop (dU T+1)),μ)))
  else if k=2 then(5,([],[],ν))else(yK l (cZ (kM k (T.take (dU T)))),(cZ (kM k (T.take (dU T))),[],ν))
theorem FJ(s:aC)(N:γ s<=4194303)(i e:Nat)(I:i<=e)(P:e<=γ s)(l:δ PP)(O:γ l<=16)(k:Int)(H:k=1\/k=2):
  ∃l' a c,0<=a/\a<=5000000/\aib FU (s,(i:Int)) l (e:Int) k=θ (l',a,(kX k l (sub s (i:Int) (e:Int))).1,c)/\
   ((kX k l (sub s (i:Int) (e:Int))).1=0->l'=l++[(kX k l (sub s (i:Int) (e:Int))).2]/\c=(s,(e:Int))):=by
 have f:k=0\/k=1\/k=2:=.inr H;have L:γ (sub s (i:Int) (e:Int))=e-i:=aC3;have r:=λn h=>BF s i e n h;have t:=λn=>So s i e n
 have b:∀(nm v:aC) (h:η),∃l' a c,0<=a/\a<=5000000/\((arc FU l nm).bind λ(g:ζ)=>if g=(0:ζ)then(gd ((γ l+γ ([(nm,v,h)]:δ PP))*40<=140737488355328)<|some (l++([(nm,v,h)]:δ PP),(0:Int),(0:ζ),(s,(e:Int))))else θ (([]:δ PP),(i:Int),g,(s,(e:Int))))=θ (l',a,yK l nm,c)/\(yK l nm=0->l'=l++[(nm,v,h)]/\c=(s,(e:Int))):=by
  intro nm v h;rw[NI l aA0,aS];by_cases q:yK l nm=0
  ·rw[aB q,aV aD3,q];exact⟨_,_,_,aA0,aA0,Τ,λ_=>⟨Τ,Τ⟩⟩
  ·rw[aA q];exact⟨_,_,_,aA0,aA0,Τ,λh=>absurd h q⟩
 unfold aib;simp only;rw[aV aA0];generalize K:sub s (i:Int) (e:Int)=T at L r t⊢;have G:dU T<=γ T:=HI _ _;have u:=bhv (·==(61:ζ)) T;have D:(if(0:Int)<=(dN (·==(61:ζ)) T)then(gd (bK ((i:Int)+(dN (·==(61:ζ)) T)))<|some ((i:Int)+(dN (·==(61:ζ)) T)))else θ (e:Int))=θ ((i+dU T:Nat):Int):=by
  unfold dU at G⊢;rcases u with⟨z,o⟩|⟨z,o,M⟩
  ·rw[aA aA0];congr 1;omega
  ·rw[aB z,aV (cJ _ aA0 aA0)];congr 1;omega
 have m:(0:Int)<=dN (·==(61:ζ)) T↔dU T<γ T:=by unfold dU;rcases u with⟨z,o⟩|⟨z,o,M⟩<;>constructor<;>intro h<;>omega
 rw[D,aS,Jl s aA0 i (i+dU T) aA0 aA0 k f,aS,r (dU T) aA0];unfold kX;cases F:fF k (T.take (dU T))with
 |some j=>have B:=jf _ _ _ j F;rw[iW]at B;simp only;rw[aO];exact⟨_,_,_,aA0,aA0,Τ,λh=>absurd h aA1⟩
 |none=>
  simp only;rw[aJ];by_cases q:dU T=0
  ·rw[aB aA0,aB q];exact⟨_,_,_,aA0,aA0,Τ,λh=>absurd h aA1⟩
  ·have A:γ (T.take (dU T))<=4194304:=by rw[iW];omega
   have J:=sQ k (T.take (dU T));rw[aA aA0,aA q,aV aA0,xL _ A k f F,aS,azu _ aA0,aS];by_cases d:dU T<γ T
   ·have p:(0:Int)<=dN (·==(61:ζ)) T:=m.2 d;rw[aB d];simp only[p,decide_true,gZ];rw[aV (cJ _ aA0 aA0),qG,Jl s aA0 (i+dU T+1) e aA0 aA0 k f,aS,t];cases x:fF k (T.drop (dU T+1))with
    |some j=>have B:=jf _ _ _ j x;rw[fY]at B;simp only;rw[aO,aS];exact⟨_,_,_,aA0,aA0,Τ,λh=>absurd h aA1⟩
    |none=>
     have w:γ (T.drop (dU T+1))=γ T-(dU T+1):=fY;have C:(if((i+dU T+1:Nat):Int)=(e:Int)then θ (decide (k=(1:Int)))else θ ν)=θ (decide (T.drop (dU T+1)=[]/\k=1)):=by
      by_cases y:T.drop (dU T+1)=[]
      ·rw[y]at w;rw[aB (by simp at w;omega)];congr 1;simp[y]
      ·have:¬γ (T.drop (dU T+1))=0:=λh=>y (Gh h);rw[aA aA0,aG (λh=>y h.1)]
     simp only;rw[aJ,C,aS];by_cases hx:T.drop (dU T+1)=[]/\k=1
     ·rw[aH hx,aO,aS,aB hx];exact⟨_,_,_,aA0,aA0,Τ,λh=>absurd h aA1⟩
     ·rw[aG hx,aJ,aV aA0,xL _ aA0 k f x,aS,aS,aA hx];exact b _ _ _
   ·have p:¬(0:Int)<=dN (·==(61:ζ)) T:=λh=>d (m.1 h);have E:((i+dU T:Nat):Int)=(e:Int):=aA0;rw[aA d];simp only[p,decide_false,GL];by_cases o:k=2
    ·rw[aB o,aB o,aS];exact⟨_,_,_,aA0,aA0,Τ,λh=>absurd h aA1⟩
    ·rw[aA o,aA o,aS];exact b _ _ _
def iY (st : aC) (s : aC) : Nat -> Nat -> δ PP -> ζ × Nat × δ PP
  | 0,i,l => (0,i,l)
  | f + 1,i,l => if cX s i 59 = μ then
      (if (kX 1 l (sub s ((i + 1 : Nat) : Int) (bQ st s (i + 1) : Int))).1 = 0 then iY st s f (bQ st s (i + 1)) (l ++ [(kX 1 l (sub s ((i + 1 : Nat) : Int) (bQ st s (i + 1) : Int))).2])
       else ((kX 1 l (sub s ((i + 1 : Nat) : Int) (bQ st s (i + 1) : Int))).1,0,[]))
    else (0,i,l)
def yI (s : aC) : Nat -> Nat -> δ PP -> ζ × δ PP
  | 0,i,l => (0,l)
  | f + 1,i,l => if i < γ s then
      (if (kX 2 l (sub s ((i + 1 : Nat) : Int) (bQ [38] s (i + 1) : Int))).1 = 0 then yI s f (bQ [38] s (i + 1)) (l ++ [(kX 2 l (sub s ((i + 1 : Nat) : Int) (bQ [38] s (i + 1) : Int))).2])
       else ((kX 2 l (sub s ((i + 1 : Nat) : Int) (bQ [38] s (i + 1) : Int))).1,[]))
    else (0,l)
variable{l:δ PP}
theorem BU(h:yK l x=0):γ l<16:=by
 unfold yK at h;split at h
 ·exact absurd h aA1
 ·split at h
  ·exact absurd h aA1
  ·omega
theorem uK{k:Int}(h:(kX k l x).1=0):γ l<16:=by
 unfold kX at h;split at h
 ·exact absurd h aA1
 ·split at h
  ·exact absurd h aA1
  ·split at h
   ·split at h
    ·exact absurd h aA1
    ·split at h
     ·exact absurd h aA1
     ·exact BU h
   ·split at h
    ·exact absurd h aA1
    ·exact BU h
theorem TJ(s:aC)(y:γ s<=4194303)(v:Int×ζ×aC×aC×Int×aC×aC×aC×Int×δ PP×δ PP)(C:γ v.2.2.1<=1000)(B:v.2.2.1.all (λb=>decide (b.toNat<128))=μ)(n:Nat):
  ∀(i d f:Nat) (l:δ PP) (a:Int),0<=a->a<=5000000->γ s-i<=n->n+1<d->n<f->i<=γ s->γ l<=16->
  ∃a' u i' l',0<=a'/\a'<=5000000/\aik FU v d a 0 s (i:Int) l=θ (a',(iY v.2.2.1 s f i l).1,u,i',l')/\((iY v.2.2.1 s f i l).1=0->u=s/\i'=((iY v.2.2.1 s f i l).2.1:Int)/\l'=(iY v.2.2.1 s f i l).2.2):=by
 induction n with
 |zero=>
  intro i d f l a t r z A q p w;obtain⟨d,rfl⟩:=cD d;obtain⟨f,rfl⟩:∃m,f=m+1:=⟨f-1,aA0⟩;have k:cX s i 59=ν:=by unfold cX;rw[aG aA0];rfl
  rw[ana,ahp,aB rfl,HG,aS,k,aS,aJ,iY,k,aA aA1];exact⟨_,_,_,_,aA0,aA0,Τ,λ_=>⟨Τ,Τ,Τ⟩⟩
 |succ n x=>
  intro i d f l a t r z A q p w;obtain⟨d,rfl⟩:=cD d;obtain⟨f,rfl⟩:∃m,f=m+1:=⟨f-1,aA0⟩;rw[ana,ahp,aB rfl,HG,aS,aS,iY];cases k:cX s i 59 with
  |false=>rw[aJ,aA aA1];exact⟨_,_,_,_,aA0,aA0,Τ,λ_=>⟨Τ,Τ,Τ⟩⟩
  |true=>
   have j:=(Eu k).1;have o:=Jc v.2.2.1 s (i+1);have g:=Er v.2.2.1 s (i+1) j;rw[aO,aB rfl,aV (cJ _ aA0 aA0),qG,vt s aA0 (i+1) j _ C B,aS];obtain⟨l',a',c,G,F,E,D⟩:=FJ s y (i+1) (bQ v.2.2.1 s (i+1)) o g l w 1 (.inl Τ);rw[E,aS];by_cases e:(kX 1 l (sub s ((i+1:Nat):Int) (bQ v.2.2.1 s (i+1):Int))).1=0
   ·obtain⟨rfl,rfl⟩:=D e;have:=uK e;rw[aB e,e];exact x (bQ v.2.2.1 s (i+1)) d f _ _ aA0 aA0 aA0 aA0 aA0 g aD0
   ·rw[aA e];simp only;obtain⟨d,rfl⟩:=cD d;rw[ana,ahp,aA e,aS,aJ];exact⟨_,_,_,_,aA0,aA0,Τ,λh=>absurd h e⟩
theorem UO(s:aC)(v:γ s<=4194303)(n:Nat):
  ∀(i b f:Nat) (l:δ PP) (a:Int),0<=a->a<=5000000->γ s-i<=n->n+1<b->n<f->i<=γ s->γ l<=16->
  ∃a' t i' l',0<=a'/\a'<=5000000/\aij FU b a 0 s (i:Int) l=θ (a',(yI s f i l).1,t,i',l')/\((yI s f i l).1=0->l'=(yI s f i l).2):=by
 induction n with
 |zero=>intro i b f l a q p w x o k r;obtain⟨b,rfl⟩:=cD b;obtain⟨f,rfl⟩:∃m,f=m+1:=⟨f-1,aA0⟩;rw[amz,aho,aB rfl,nI,aS,aH aA0,aS,iV,aJ,yI,aA aA0];exact⟨_,_,_,_,aA0,aA0,Τ,λ_=>rfl⟩
 |succ n u=>
  intro i b f l a q p w x o k r;obtain⟨b,rfl⟩:=cD b;obtain⟨f,rfl⟩:∃m,f=m+1:=⟨f-1,aA0⟩;rw[amz,aho,aB rfl,nI,aS,aS,yI];by_cases d:i<γ s
  ·have j:=Jc [38] s (i+1);have g:=Er [38] s (i+1) d;rw[aG aA0,vJ,aO,aB d,aV (cJ _ aA0 aA0),qG,vt s aA0 (i+1) d _ aA1 aA1,aS];obtain⟨l',a',c,B,A,z,y⟩:=FJ s v (i+1) (bQ [38] s (i+1)) j g l r 2 (.inr Τ);rw[z,aS];by_cases e:(kX 2 l (sub s ((i+1:Nat):Int) (bQ [38] s (i+1):Int))).1=0
   ·obtain⟨rfl,rfl⟩:=y e;have:=uK e;rw[aB e,e];exact u (bQ [38] s (i+1)) b f _ _ aA0 aA0 aA0 aA0 aA0 g aD0
   ·rw[aA e];simp only;obtain⟨b,rfl⟩:=cD b;rw[amz,aho,aA e,aS,aJ];exact⟨_,_,_,_,aA0,aA0,Τ,λh=>absurd h e⟩
  ·rw[aH aA0,iV,aJ,aA d];exact⟨_,_,_,_,aA0,aA0,Τ,λ_=>rfl⟩
theorem xR(l:δ PP)(a:γ l<20):ahr FU l=θ (xP l):=by unfold ahr;rw[aV aA0,IF l a];rfl
open Go.Lib renaming hasPrefix → Jg, trimPrefix → jT
def lN(a:η)(c:ζ):η:=fZ c||(!a&&(c==42||c==35))
def ef(c:ζ):η:=c==45||c==46||c==40||c==41
def xQ(a:η):aC->ε aC
 |[]=>θ []
 |c::T=>if lN a c=μ then(xQ a T).map (c::·)else if ef c=μ then xQ a T else ι
theorem uj(b:η)(c:ζ):((if 48<=c then θ (decide (c<=57))else θ ν).bind λa=>bif a then θ a else bif (!b)then(if c=42 then θ μ else θ (decide (c=35)))else θ ν)=θ (lN b c):=by revert c;cases b<;>exact hY _ aA4
theorem gap_eq(c:ζ):(if c=45 then θ ν else if c=46 then θ ν else if c=40 then θ ν else θ (!decide (c=41)))=θ (!ef c):=by revert c;exact hY _ aA4
theorem Dx(a:η):∀T d,xQ a T=θ d->γ d<=γ T
 |[],d,h=>by simp only[xQ,bH]at h;subst h;exact dC _
 |c::T,d,h=>by
  unfold xQ at h;split at h
  ·cases b:xQ a T with
   |none=>rw[b]at h;cases h
   |some d'=>rw[b]at h;simp at h;subst h;have:=Dx a T d' b;simp;omega
  ·split at h
   ·have:=Dx a T d h;simp;omega
   ·cases h
theorem MW(s:aC)(v:γ s<=4194303)(o:Int)(u:UU)(e:Nat)(y:e<=γ s)(h:η)(n:Nat):∀k f (b:aC),k+n=e->n<f->γ b<=k->
  ∃j,ahm FU (s,o) u e h f b k=θ j/\
   (match xQ h (sub s k e)with
   |some d=>j=.inl (b++d,e)
   |none=>∃a c w,0<=a/\a<=5000000/\j=.inr (a,5,c,w)):=by
 induction n with
 |zero=>intro k f b p q r;obtain⟨f,rfl⟩:=cD f;obtain rfl:k=e:=aA0;rw[aqy,agy,aA aA0,jk];exact⟨_,Τ,by simp only[xQ,gV]⟩
 |succ n m=>
  intro k f b p q r;obtain⟨f,rfl⟩:=cD f;have l:sub s (k:Int) (e:Int)=Υ s (k:Int)::sub s ((k+1:Nat):Int) (e:Int):=by unfold sub;simp;rw[Pb s k aA0,show e-k=(e-(k+1))+1 by omega,eT]
  rw[aqy,agy,aB aA0,eF,uj,aS,l];unfold xQ;cases z:lN h (Υ s (k:Int))with
  |true=>
   rw[aO,aV aA3,aS,qL,aV (cJ _ aA0 aA0)];obtain⟨j,t,i⟩:=m (k+1) f (b++[Υ s (k:Int)]) aA0 aA0 aA3;refine⟨j,t,?_⟩;cases g:xQ h (sub s ((k+1:Nat):Int) (e:Int))with
   |none=>rw[g]at i;exact i
   |some d=>rw[g]at i;simp;rw[i,nW];rfl
  |false=>
   rw[aJ,gap_eq,aS];cases x:ef (Υ s (k:Int))with
   |true=>rw[iV,aJ,aS,qL,aV (cJ _ aA0 aA0),qG];exact m _ f b aA0 aA0 aA0
   |false=>exact⟨_,Τ,_,_,_,aA0,aA0,Τ⟩
def jU(s:aC)(i:Nat):ζ×aC:=
 match xQ (cX s i 43) (sub s ((if cX s i 43=μ then i+1 else i:Nat)) (bQ [59] s i))with
 |none=>(5,[])
 |some d=>if d=[]then(5,[])else if 30<γ d then(4,[])else(0,if cX s i 43=μ then 43::d else d)
theorem Na(T d:aC)(h:xQ ν T=θ d):jT d [43]=d:=by
 have key:∀(T d),xQ ν T=θ d->∀c∈d,c≠43:=by
  intro T;induction T with
  |nil=>intro d h;simp only[xQ,bH]at h;subst h;simp
  |cons a T g=>
   intro d h;unfold xQ at h;split at h
   ·rename_i i;cases b:xQ ν T with
    |none=>rw[b]at h;cases h
    |some d'=>
     rw[b]at h;simp at h;subst h;intro c f;rcases aQ.1 f with rfl|f
     ·intro e;subst e;exact absurd i aA1
     ·exact g d' b c f
   ·split at h
    ·exact g d h
    ·cases h
 cases d with
 |nil=>rfl
 |cons c d=>have:=key T _ h c aA2;have j:¬43=c:=λe=>this e.symm;unfold jT Jg;simp[j]
theorem qR(st s:aC)(i:Nat)(a:i<γ s)(h:fN st (Υ s i)=ν):bQ st s i=bQ st s (i+1):=by unfold bQ;rw[Pb s i a,dV,aB (by rw[h];rfl)];omega
theorem tel_eq(s:aC)(q:γ s<=4194303)(i:Nat)(r:i<=γ s)(b:aC):∃a c u,0<=a/\a<=5000000/\aki FU (s,i) (b,[],[],0,[],[])=θ (a,(jU s i).1,c,u)/\
  ((jU s i).1=0->c=(s,(bQ [59] s i:Int))/\u=(b,(jU s i).2,[],0,[],[])):=by
 have A:=Jc [59] s i;have k:=Er [59] s i r;have f:∀(d v:aC) (t:aC),jT v ([43]:aC)=d->∃a c u,0<=a/\a<=5000000/\
   (if(jT v ([43]:aC))=([]:aC)then θ ((i:Int),(5:ζ),(s,(bQ [59] s i:Int)),((b,v,([]:aC),(0:Int),([]:δ PP),([]:δ PP)):UU))else if(30:Int)<(γ (jT v ([43]:aC)):Int)then θ ((i:Int),(4:ζ),(s,(bQ [59] s i:Int)),((b,v,([]:aC),(0:Int),([]:δ PP),([]:δ PP)):UU))else θ ((0:Int),(0:ζ),(s,(bQ [59] s i:Int)),((b,v,([]:aC),(0:Int),([]:δ PP),([]:δ PP)):UU)))=
   θ (a,(if d=[]then((5,[]):ζ×aC)else if 30<γ d then(4,[])else(0,v)).1,c,u)/\((if d=[]then((5,[]):ζ×aC)else if 30<γ d then(4,[])else(0,v)).1=0->c=(s,(bQ [59] s i:Int))/\u=(b,(if d=[]then((5,[]):ζ×aC)else if 30<γ d then(4,[])else(0,v)).2,[],0,[],[])):=by
  intro d v t C;rw[C];by_cases n:d=[]
  ·rw[aB n,aB n];exact⟨_,_,_,aA0,aA0,Τ,λh=>absurd h aA1⟩
  ·rw[aA n,aA n];by_cases m:30<γ d
   ·rw[aB aA0,aB m];exact⟨_,_,_,aA0,aA0,Τ,λh=>absurd h aA1⟩
   ·rw[aA aA0,aA m];exact⟨_,_,_,aA0,aA0,Τ,λ_=>⟨Τ,Τ⟩⟩
 unfold aki jU;simp only;rw[vt s aA0 i r _ aA1 aA1,aS,HG,aS];cases l:cX s i 43 with
 |true=>
  have o:=(Eu l).1;have iL:=(Eu l).2;have B:=qR [59] s i o (by rw[iL];decide);have z:=Jc [59] s (i+1);rw[aO,aV aA1,aV (cJ _ aA0 aA0),aS,qG,aB rfl];simp only;obtain⟨j,p,e⟩:=MW s q (i:Int) (b,[],[],0,[],[]) (bQ [59] s i) k μ (bQ [59] s i-(i+1)) (i+1) FU ([]++[43]) aA0 aA5 (by simp only[yL,dT,tU];omega);rw[p,aS];cases g:xQ μ (sub s ((i+1:Nat):Int) ((bQ [59] s i:Nat):Int))with
  |none=>rw[g]at e;obtain⟨a,c,w,y,x,rfl⟩:=e;rw[GX];exact⟨_,_,_,aA0,aA0,Τ,λh=>absurd h aA1⟩
  |some d=>rw[g]at e;simp only at e;subst e;rw[qL];exact f d _ [] (by unfold jT Jg;simp)
 |false=>
  rw[aJ,aS,aA (show¬(ν=μ)by decide)];obtain⟨j,p,e⟩:=MW s q i _ _ k ν (bQ [59] s i-i) i FU [] aA0 aA5 aA2;rw[p,aS];cases g:xQ ν _ with
  |none=>rw[g]at e;obtain⟨a,c,w,y,x,rfl⟩:=e;exact⟨_,_,_,aA0,aA0,Τ,λh=>absurd h aA1⟩
  |some d=>rw[g]at e;subst e;exact f d d [] (Na _ _ g)
def iC:UU:=([],[],[],0,[],[])
theorem Xp(st s:aC):∀f i l,γ l<=16->γ (iY st s f i l).2.2<=16
 |0,i,l,h=>h
 |f+1,i,l,h=>by
  unfold iY;split
  ·split
   ·rename_i a;have:=uK a;exact Xp st s f _ _ aA3
   ·exact eJ _
  ·exact h
theorem Yo(s:aC):∀f i l,γ l<=16->γ (yI s f i l).2<=16
 |0,i,l,h=>h
 |f+1,i,l,h=>by
  unfold yI;split
  ·split
   ·rename_i a;have:=uK a;exact Yo s f _ _ aA3
   ·exact eJ _
  ·exact h
theorem JD(st s:aC):∀f i l,i<=γ s->(iY st s f i l).1=0->(iY st s f i l).2.1<=γ s
 |0,i,l,h,_=>h
 |f+1,i,l,h,a=>by
  unfold iY at a⊢;split
  ·rename_i b;rw[aB b]at a;split
   ·rename_i c;rw[aB c]at a;exact JD st s f _ _ (Er st s _ (Eu b).1) a
   ·exact eJ _
  ·exact h
def wC (st s b c h : aC) (a : Int) (i : Nat) : ζ × UU :=
  if (iY st s (γ s + 1) i []).1 = 0 then
    (if (yI s (γ s + 1) (iY st s (γ s + 1) i []).2.1 []).1 = 0 then (0,(b,c,h,a,xP (iY st s (γ s + 1) i []).2.2,xP (yI s (γ s + 1) (iY st s (γ s + 1) i []).2.1 []).2))
     else ((yI s (γ s + 1) (iY st s (γ s + 1) i []).2.1 []).1,iC))
  else ((iY st s (γ s + 1) i []).1,iC)
abbrev PV:=Int×ζ×aC×aC×Int×aC×aC×aC×Int×δ PP×δ PP
def NR(v:PV):ε (UU×Int×ζ):=(aik FU v FU v.1 v.2.1 v.2.2.2.1 v.2.2.2.2.1 v.2.2.2.2.2.2.2.2.2.1).bind λ(a:(Int×ζ×aC×Int×(δ PP)))=>((aij FU FU a.1 a.2.1 a.2.2.1 a.2.2.2.1 v.2.2.2.2.2.2.2.2.2.2).bind λ(b:(Int×ζ×aC×Int×(δ PP)))=>if b.2.1=0 then((ahr FU a.2.2.2.2).bind λ(d:δ PP)=>(ahr FU b.2.2.2.2).bind λ(c:δ PP)=>θ ((v.2.2.2.2.2.1,v.2.2.2.2.2.2.1,v.2.2.2.2.2.2.2.1,v.2.2.2.2.2.2.2.2.1,d,c),0,0))else θ (([],[],[],0,[],[]),b.1,b.2.1))
theorem be(b:Nat)(d:0<b)(a:Int)(e:ζ)(c:¬e=0)(x:aC)(i:Int)(l:δ PP):aij FU b a e x i l=θ (a,e,x,i,l):=by obtain⟨b,rfl⟩:=cD b;rw[amz,aho,aA c,aS,aJ]
theorem lp0_no(v:PV)(b:Nat)(d:0<b)(a:Int)(e:ζ)(c:¬e=0)(x:aC)(i:Int)(l:δ PP):aik FU v b a e x i l=θ (a,e,x,i,l):=by obtain⟨b,rfl⟩:=cD b;rw[ana,ahp,aA c,aS,aJ]
theorem Xe(v:PV)(a:¬v.2.1=0):NR v=θ (iC,v.1,v.2.1):=by unfold NR;rw[lp0_no v FU aA5 _ _ a,aS];rw[be FU aA5 _ _ a,aS];rw[aA a];rfl
theorem NQ(s:aC)(n:γ s<=4194303)(st:aC)(t:γ st<=1000)(r:st.all (λb=>decide (b.toNat<128))=μ)(a:Int)(m:0<=a)(l:a<=5000000)(e j h:aC)(d:Int)(i:Nat)(o:i<=γ s):
  ∃a',0<=a'/\a'<=5000000/\NR (a,0,st,s,i,e,j,h,d,[],[])=θ ((wC st s e j h d i).2,a',(wC st s e j h d i).1):=by
 unfold NR wC;obtain⟨A,c,F,D,z,y,x,w⟩:=TJ s n (a,0,st,s,i,e,j,h,d,[],[]) t r (γ s) i FU (γ s+1) [] a m l aA0 aA5 aA0 o aA2;rw[x,aS];by_cases f:(iY st s (γ s+1) i []).1=0
 ·obtain⟨rfl,rfl,rfl⟩:=w f;have k:=JD st c _ i [] o f;have q:=Xp st c (γ c+1) i [] aA2;have p:=Yo c (γ c+1) (iY st c (γ c+1) i []).2.1 [] aA2;obtain⟨I,B,E,C,H,G,v,u⟩:=UO c n (γ c) (iY st c _ i []).2.1 FU (γ c+1) [] A z y aA0 aA5 aA0 k aA2;rw[f,v,aS];simp only;by_cases g:(yI c (γ c+1) (iY st c (γ c+1) i []).2.1 []).1=0
  ·rw[aB g,aB g,u g,xR _ aA0,xR _ aA0];exact⟨_,aA0,aA0,Τ⟩
  ·rw[aA g,aA g];exact⟨_,aA0,aA0,Τ⟩
 ·rw[aA f,be FU aA5 _ _ f,aS];rw[aA f];exact⟨_,aA0,aA0,Τ⟩
def XT:aC:=[115,105,112]
def Zv:aC:=[115,105,112,115]
def xg:aC:=[116,101,108]
def uS (s : aC) : ζ × UU :=
  if 1024 < γ s then (4,iC) else if bQ [58] s 0 < γ s then
    (if cZ (s.take (bQ [58] s 0)) = XT \/ cZ (s.take (bQ [58] s 0)) = Zv then
      (if (fW s (bQ [58] s 0 + 1)).1 = 0 then wC [59,63] s (cZ (s.take (bQ [58] s 0))) (fW s (bQ [58] s 0 + 1)).2.1 (fW s (bQ [58] s 0 + 1)).2.2.1 (fW s (bQ [58] s 0 + 1)).2.2.2.1 (fW s (bQ [58] s 0 + 1)).2.2.2.2 else ((fW s (bQ [58] s 0 + 1)).1,iC))
     else if cZ (s.take (bQ [58] s 0)) = xg then
      (if (jU s (bQ [58] s 0 + 1)).1 = 0 then wC [59] s (cZ (s.take (bQ [58] s 0))) (jU s (bQ [58] s 0 + 1)).2 [] 0 (bQ [59] s (bQ [58] s 0 + 1)) else ((jU s (bQ [58] s 0 + 1)).1,iC))
     else (15,iC))
  else (5,iC)
theorem JW(s:aC)(i:Nat)(b:i<=γ s):(jP s i).2.2.2<=γ s:=by
 have c:=Ap s i b;unfold jP;split
 ·exact eJ _
 ·split
  ·rename_i a;split
   ·exact Er _ s _ (Eu a).1
   ·exact eJ _
  ·split
   ·exact eJ _
   ·exact c.2
theorem plP_le(s:aC)(i:Nat)(a:i<=γ s):(fW s i).2.2.2.2<=γ s:=by
 unfold fW;split
 ·split
  ·exact JW s _ aA0
  ·exact eJ _
 ·exact JW s i a
theorem DA(s:aC):∃a,0<=a/\a<=5000000/\aiz FU s=θ ((uS s).2,a,(uS s).1):=by
 unfold aiz uS;by_cases r:1024<γ s
 ·rw[aB aA0,aB r];exact⟨_,aA0,aA0,Τ⟩
 ·rw[aA aA0,aA r];have t:=utl1 58 s 0;rw[WZ]at t;rcases bhv (·==(58:ζ)) s with⟨w,v⟩|⟨w,v,x⟩
  ·rw[aB aA0,aA aA0];exact⟨_,aA0,aA0,Τ⟩
  ·have m:dN (·==(58:ζ)) s=((bQ [58] s 0:Nat):Int):=by omega
   rw[m];have g:bQ [58] s 0<γ s:=aA0
   generalize bQ [58] s 0=c at g⊢;rw[aB g,aV (cJ _ aA0 aA0),aV aA0,tT,azu _ aB5,aS,qG];generalize cZ (s.take c)=b;have p:(if b=([115,105,112]:aC)then θ (decide (b=([115,105,112]:aC)))else θ (decide (b=([115,105,112,115]:aC))))=θ (decide (b=XT\/b=Zv)):=by
    by_cases i:b=XT
    ·rw[aB (show b=([115,105,112]:aC)from i),aH (show b=([115,105,112]:aC)from i),aH (Or.inl i)]
    ·rw[aA (show¬b=([115,105,112]:aC)from i)];congr 1;rw[dE];exact⟨Or.inr,λh=>h.resolve_left i⟩
   rw[p,aS];by_cases e:b=XT\/b=Zv
   ·obtain⟨a,q,u,k,j,o,n⟩:=x1 s aA0 (c+1) g b;rw[aH e,aB e,o,aS];by_cases f:(fW s (c+1)).1=0
    ·obtain⟨rfl,rfl⟩:=n f;rw[f];have l:(fW s (c+1)).2.2.2.2<=γ s:=plP_le s (c+1) g;exact NQ s aA0 [59,63] aA1 aA1 a k j b _ _ _ _ l
    ·rw[aA f];exact⟨_,k,j,Xe (a,(fW s (c+1)).1,[59,63],q.1,q.2,u) f⟩
   ·rw[aG e,aJ,aA e];by_cases d:b=xg
    ·obtain⟨a,q,u,k,j,o,n⟩:=tel_eq s aA0 (c+1) g b;rw[aB (show b=[116,101,108]from d),aB d,o,aS];by_cases f:(jU s (c+1)).1=0
     ·obtain⟨rfl,rfl⟩:=n f;rw[f];exact NQ s aA0 _ aA1 aA1 a k j b _ _ _ _ (Er _ s _ g)
     ·rw[aA f];exact⟨_,k,j,Xe _ f⟩
    ·rw[aA (show¬b=[116,101,108]from d),aA d,aS];exact⟨_,kt 0,(show 0<=5000000 by decide),Xe _ (show¬15=0 by decide)⟩
theorem seesA(s A B:aC)(b:ζ)(h:s=A++B):cX s (γ A) b=decide (B.head? =θ b):=by
 subst h;unfold cX;cases B with
 |nil=>simp
 |cons c B=>
  rw[AL];by_cases h:c=b
  ·subst h;simp
  ·simp[h]
theorem subA(s A B C:aC)(h:s=A++(B++C)):sub s (γ A) ((γ A+γ B:Nat))=B:=by subst h;unfold sub;rw[tT,tT,Pp,mh,XA]
theorem RY(p:ζ->η)(B:aC)(h:∀c,B.head? =θ c->p c=ν):dV p B=0:=by
 cases B with
 |nil=>rfl
 |cons c B=>exact tY p c B (h c Τ)
theorem dp(a b:aC)(h:a≠[]):(a++b).head? =a.head? :=by
 cases a with
 |nil=>exact absurd Τ h
 |cons x a=>rfl
theorem qs_yes(c:ζ)(h:c=34\/c=92):zN c=[92,c]:=by unfold zN;rw[aB h]
theorem qs_no(c:ζ)(h:¬(c=34\/c=92)):zN c=[c]:=by unfold zN;rw[aA h]
section
variable(q : ζ -> η) (h1 : ∀ c,gJ c = μ -> q (fQ c) = μ) (h2 : q 58 = μ) (h3 : q 48 = μ)
include h1 h2 h3
omit h2 in
theorem dw (g:aC) (h:sV g=μ):∀c∈jY g,q c=μ:=by
 have hx:g.all gJ=μ:=by unfold sV at h;simp only[Bv]at h;exact h.2
 intro c a;unfold jY at a;split at a
 ·rw[aF.1 a];exact h3
 ·have b:=(jL _).subset a;obtain⟨d,e,rfl⟩:=gD.1 b;exact h1 d (aT.1 hx d e)
end
theorem sn:∀c:ζ,lS c=μ->c≠91:=hY _ aA4
open Go.Px
open Go.Lib renaming cut → jF, index → fO, join → dP, trimLeftS → Ff
theorem Al(a b:aC)(l:δ aC):dP (a::b::l) [58]=a++(58::dP (b::l) [58]):=by simp[dP]
theorem join_one(a:aC):dP [a] [58]=a:=by simp[dP]
theorem MZ(c:ζ):∀(a z:aC),(∀b∈a,b≠c)->cG c (a++c::z)=a::cG c z
 |[],z,_=>awi c z
 |b::a,z,h=>by rw[AP,zv c b _ (h b aA2),MZ c a z (λx hx=>h x (gN _ hx))];rfl
theorem T5(c:ζ):∀(a:aC),(∀b∈a,b≠c)->cG c a=[a]
 |[],_=>rfl
 |b::a,h=>by rw[zv c b _ (h b aA2),T5 c a (λx hx=>h x (gN _ hx))];rfl
theorem Ke:∀gs:δ aC,gs≠[]->(∀g∈gs,∀b∈g,b≠58)->cG 58 (dP gs [58])=gs
 |[],h,_=>absurd Τ h
 |[a],_,h=>by rw[join_one,T5 58 a (h a aA2)]
 |a::b::l,_,h=>by rw[Al,MZ 58 a _ (h a aA2),Ke (b::l) aA2 (λg c=>h g (gN _ c))]
def T7:aC->η
 |[]=>μ
 |c::l=>(if c=58 then !(l.head? ==ι)&& !(l.head? ==θ 58)else μ)&&T7 l
theorem Cf:∀l:aC,T7 l=μ->fO l [58,58]= -1/\∀r,fO (l++58::58::r) [58,58]=γ l
 |[],_=>⟨aA1,λr=>by rw[yL];rfl⟩
 |c::l,h=>by
  rw[T7,Bv]at h;obtain⟨g,f⟩:=Cf l h.2;have key:∀r:aC,(r=[]\/l≠[]\/c≠58)->[58,58].isPrefixOf (c::(l++r))=ν:=by
   by_cases a:c=58
   ·subst a;cases l with
    |nil=>simp at h
    |cons d l=>
     have i:¬d=58:=by simpa using h.1
     have b:(58==d)=ν:=by simpa using λe:58=d=>i e.symm
     simp[List.isPrefixOf,b]
   ·have:(58==c)=ν:=by simpa using λe:58=c=>a e.symm
    simp[List.isPrefixOf,this]
  constructor
  ·have:=key [] (.inl Τ);rw[gV]at this;rw[bcr,this,aA aA1,aB g]
  ·intro r
   have:=key (58::58::r) (by
    by_cases a:c=58
    ·right;left;intro e;subst e a;simp at h
    ·exact .inr (.inr a))
   rw[AP,bcr,this,aA aA1,f r,dT];omega
theorem T6:∀a:aC,(∀b∈a,b≠58)->T7 a=μ
 |[],_=>rfl
 |c::a,h=>by rw[T7,aA (h c aA2),T6 a (λx hx=>h x (gN _ hx))];rfl
theorem NA:∀a d (z:aC),(∀b∈a,b≠58)->d≠58->T7 (d::z)=μ->T7 (a++58::d::z)=μ
 |[],d,z,_,f,e=>by have:(d==58)=ν:=aE0;rw[yL,T7,e];simp[this]
 |c::a,d,z,h,f,e=>by rw[AP,T7,aA (h c aA2),NA a d z (λx hx=>h x (gN _ hx)) f e];rfl
theorem Kf:∀gs:δ aC,(∀g∈gs,g≠[]/\∀b∈g,b≠58)->T7 (dP gs [58])=μ
 |[],_=>by simp[Lib.join_nil,T7]
 |[a],h=>by rw[join_one];exact T6 a (h a aA2).2
 |a::b::l,h=>by
  have f:=Kf (b::l) (λg k=>h g (gN _ k));have j:=h b aA2;obtain⟨d,z,e⟩:∃d z,dP (b::l) [58]=d::z/\d≠58:=by
   cases c:b with
   |nil=>exact absurd c j.1
   |cons d b'=>
    have i:d≠58:=j.2 d (by rw[c];simp);cases l with
    |nil=>exact⟨d,b',by rw[join_one],i⟩
    |cons x l=>exact⟨d,b'++(58::dP (x::l) [58]),by rw[Al];rfl,i⟩
  rw[Al,e.1];rw[e.1]at f;exact NA a d z (h a aA2).2 e.2 f
theorem tp:∀c:ζ,gJ c=μ->gJ (fQ c)=μ:=hY _ aA4
theorem tn:∀c:ζ,gJ c=μ->(!(fQ c==58))=μ:=hY _ aA4
theorem UX(g:aC)(h:sV g=μ):sV (jY g)=μ/\jY (jY g)=jY g/\jY g≠[]/\∀b∈jY g,b≠58:=by
 have k:=Aq g h;have o:∀b∈jY g,b≠58:=λb i=>by have:=dw (λc=> !(c==58)) tn aA1 g h b i;simpa using this
 have l:=dw gJ tp aA1 g h;have f:jY g≠[]:=by
  unfold jY;split
  ·simp
  ·assumption
 refine⟨?_,?_,f,o⟩
 ·have:=cA.2 f;unfold sV;rw[aH aA0,aH k,AO,AO,aT];exact l
 ·have j:JL (jY g)=jY g:=by
   refine Db _ λb i=> ?_;unfold jY at i;split at i
   ·rw[aF.1 i];decide
   ·have p:=(jL _).subset i;obtain⟨d,q,rfl⟩:=gD.1 p;exact low2 d
  have m:Ff (jY g) [48]=[]\/Ff (jY g) [48]=jY g:=by
   unfold jY;split
   ·left;decide
   ·right;unfold Ff;exact Yw _ _
  have e:jY (jY g)=if Ff (jY g) [48]=[]then [48]else Ff (jY g) [48]:=by
   conv=>lhs;unfold jY
   rw[show JL (if Ff _ _=[]then [48]else Ff _ _)=jY g from j]
  rw[e];rcases m with a|a
  ·rw[aB a]
   have:jY g=[48]:=by
    unfold jY at a⊢;split
    ·rfl
    ·rename_i n;rw[aA n]at a;unfold Ff at a n;rw[Yw]at a;exact absurd a n
   rw[this]
  ·rw[a,aA f]
def gdG(gs:δ aC):Prop:=∀g∈gs,sV g=μ/\jY g=g/\g≠[]/\∀b∈g,b≠58
theorem Nn(s:aC):gdG (Bz s).1:=by
 intro x hx;unfold Bz at hx;split at hx
 ·rename_i b;obtain⟨y,a,rfl⟩:=gD.1 hx;exact UX y (aT.1 b y a)
 ·simp at hx
theorem Au(s:aC):gdG (iO s).1:=by
 unfold iO;split
 ·intro x hx;simp at hx
 ·exact Nn s
theorem As(gs:δ aC)(h:gdG gs)(b:gs≠[]):Bz (dP gs [58])=(gs,μ):=by
 unfold Bz;rw[Ke gs b (λg a=>(h g a).2.2.2),aB (aT.2 λg a=>(h g a).1)];congr 1
 conv=>rhs;rw[<-List.map_id gs]
 exact xj λg a=>(h g a).2.1
theorem sq(gs:δ aC)(h:gdG gs)(a:gs≠[]):dP gs [58]≠[]:=by
 intro e;have:=Ke gs a (λg b=>(h g b).2.2.2);rw[e]at this;cases gs with
 |nil=>exact a Τ
 |cons g l=>
  have c:[]=g:=by have:=bM List.head? this;simpa [cG] using this
  exact(h g aA2).2.2.1 c.symm
theorem Np(gs:δ aC)(h:gdG gs):iO (dP gs [58])=(gs,μ):=by
 unfold iO;by_cases a:gs=[]
 ·subst a;rw[aB (by simp[Lib.join_nil])]
 ·rw[aA (sq gs h a),As gs h a]
theorem Tz:∀gs:δ aC,(∀g∈gs,γ g<=4)->gs≠[]->γ (dP gs [58])+1<=γ gs*5
 |[],_,h=>absurd Τ h
 |[a],h,_=>by rw[join_one];have:=h a aA2;simp;omega
 |a::b::l,h,_=>by have c:=Tz _ (λg d=>h g (gN _ d)) aA2;have:=h a aA2;rw[Al];simp at c⊢;omega
theorem Aw{gs:δ aC}(h:gdG gs):∀g∈gs,γ g<=4:=λg a=>by have:=(h g a).1;unfold sV at this;simp at this;exact this.1.2
theorem US(x:aC)(h:(Bx x).2=μ):Bx (Bx x).1=((Bx x).1,μ):=by
 unfold Bx at h;by_cases a:39<γ x
 ·rw[aB a]at h;cases h
 rw[aA a]at h;by_cases i:(jF x [58,58]).2.2=ν
 ·rw[aB i]at h;simp at h;have e:(Bx x).1=dP (Bz x).1 [58]:=by unfold Bx;rw[aA a,aB i]
  rw[e];have f:=Nn x;generalize(Bz x).1=gs at h f⊢;have c:gs≠[]:=by intro e;rw[e]at h;exact absurd h.2 aA1
  have r:=Tz gs (Aw f) c;have l:=(Cf _ (Kf gs λg b=>(f g b).2.2)).1;unfold Bx;rw[aA aA0,Oc,aB l,As gs f c,aH h.2];rfl
 ·rw[aA i]at h;by_cases j:(!(iO (jF x [58,58]).1).2|| !(iO (jF x [58,58]).2.1).2||decide (7<(γ (iO (jF x [58,58]).1).1:Int)+(γ (iO (jF x [58,58]).2.1).1:Int)))=μ
  ·rw[aB j]at h;cases h
  ·have e:(Bx x).1=dP (iO (jF x [58,58]).1).1 [58]++[58,58]++dP (iO (jF x [58,58]).2.1).1 [58]:=by unfold Bx;rw[aA a,aA i,aA j]
   rw[e];have k:=Au (jF x [58,58]).1;have m:=Au (jF x [58,58]).2.1;simp at j;have n:=j.2;generalize(iO (jF x _).1).1=A at k n⊢;generalize(iO (jF x _).2.1).1=B at m n⊢;have q:γ (dP A _)<=γ A*5:=jg [58] 4 A (Aw k);have p:γ (dP B [58])<=γ B*5:=jg [58] 4 B (Aw m);have l:=(Cf _ (Kf A λg b=>(k g b).2.2)).2 (dP B [58]);have o:dP A [58]++[58,58]++dP B [58]=dP A [58]++58::58::dP B [58]:=aA2;have d:jF (dP A [58]++[58,58]++dP B [58]) [58,58]=(dP A [58],dP B [58],μ):=by rw[o,Oc,l,aA aA0,tT,XA];rw[show dP A [58]++58::58::dP B [58]=(dP A [58]++[58,58])++dP B [58]by simp,show(dP A [58]).length+γ ([58,58]:aC)=γ (dP A [58]++[58,58]) by simp,Pp]
   unfold Bx;rw[aA aA3,d,aA (show¬(μ=ν)by decide)];rw[Np A k,Np B m,aA (by
    simp only[jC,bL];rintro((h|h)|h)
    ·cases h
    ·cases h
    ·omega)]
theorem MY(c:ζ)(f:ζ->ζ)(a:∀b,f b=c↔b=c):∀s:aC,cG c (s.map f)=(cG c s).map (List.map f)
 |[]=>rfl
 |b::l=>by
  have d:=MY c f a l;by_cases h:b=c
  ·have g:=(a b).2 h;rw[qO,h,awi];rw[h]at g;rw[g,awi,d];rfl
  ·rw[qO,zv c b l h,zv c (f b) _ (λe=>h ((a b).1 e)),d];cases cG c l with
   |nil=>rfl
   |cons x r=>rfl
theorem low46':∀c:ζ,(decide (fQ c=46))=decide (c=46):=hY _ aA4
theorem yo(b:ζ):fQ b=46↔b=46:=by
 have:=low46' b;by_cases h:b=46
 ·simp[h];decide
 ·rw[aG h,bT]at this;simp[h,this]
theorem OJ:∀c:ζ,lS (fQ c)=lS c:=hY _ aA4
theorem rj:∀c:ζ,fZ (fQ c)=fZ c:=hY _ aA4
theorem bh:∀c:ζ,fZ (fQ c)=μ->fQ c=c:=hY _ aA4
theorem rk:∀c:ζ,(fQ c==45)=(c==45):=hY _ aA4
theorem ji(x:aC)(i:Int):(Υ (cZ x) i==45)=(Υ x i==45):=by
 unfold cZ Υ;rw[bF,bF,aW];cases x[i.toNat]? with
 |none=>rfl
 |some c=>exact rk c
theorem UE(x:aC):Hj (cZ x)=Hj x:=by
 have a:γ (cZ x)=γ x:=by unfold cZ;exact Gj ..
 have b:(cZ x).all lS=x.all lS:=by unfold cZ;rw[List.all_map];congr 1;funext c;exact OJ c
 unfold Hj;rw[a,ji,ji,b]
theorem ca(x:aC):lR (cZ x)=lR x:=by unfold lR cZ;rw[List.any_map];congr 1;funext c;show(!fZ _)=_;rw[rj]
theorem TY(s:aC):jH (cZ s)=jH s:=by
 have b:γ (cZ s)=γ s:=by unfold cZ;exact Gj ..
 have a:cG 46 (cZ s)=(cG 46 s).map cZ:=MY 46 fQ yo s;have d:((cG 46 s).map cZ).all Hj=(cG 46 s).all Hj:=by rw[List.all_map];congr 1;funext x;exact UE x
 have c:((cG 46 s).map cZ).any lR=(cG 46 s).any lR:=by rw[List.any_map];congr 1;funext x;exact ca x
 unfold jH;rw[b,a,d,c]
theorem im(g:aC):Ek ([91]++g++[93])=μ/\sub ([91]++g++[93]) 1 ((γ ([91]++g++[93]))-1)=g:=by
 have a:γ ([91]++g++[93])=γ g+2:=aA2;have e:((γ g+2:Nat)-1)=(γ ([91]++g):Int):=aA3;constructor
 ·unfold Ek;rw[a,e];have b:=AL ([91]++g) 93 [];rw[b];rfl
 ·rw[a];have:=subA ([91]++g++[93]) [91] g [93] aA2;have c:((γ g+2:Nat)-1)=((γ ([91]:aC)+γ g):Int):=aA3;rw[c];exact this
theorem UM(s:aC)(h:(kC s).2=μ):kC (kC s).1=((kC s).1,μ):=by
 by_cases f:Ek s=μ
 ·unfold kC at h;rw[aB f]at h;by_cases k:(Bx (sub s 1 (γ s-1))).2=μ
  ·have e:(kC s).1=[91]++(Bx (sub s 1 (γ s-1))).1++[93]:=by unfold kC;rw[aB f,aB k]
   rw[e];have n:=US _ k;generalize(Bx _).1=g at n⊢;obtain⟨f1,f2⟩:=im g;unfold kC;rw[aB f1,f2,n,aB rfl]
  ·rw[aA k]at h;cases h
 ·by_cases j:Ve s=μ
  ·have e:kC s=(s,μ):=by unfold kC;rw[aA f,aB j]
   rw[e];exact e
  ·by_cases i:jH s=μ
   ·have e:kC s=(cZ s,μ):=by unfold kC;rw[aA f,aA j,aB i]
    rw[e];have m:∀b∈s,lS b=μ\/b=46:=by unfold jH at i;simp only[Bv]at i;exact yT 46 lS s (λx hx=>by have:=aT.1 i.1.2 x hx;unfold Hj at this;simp only[Bv]at this;exact this.2)
    have p:Ek (cZ s)=ν:=by
     cases hx:Ek _ with
     |false=>rfl
     |true=>
      exfalso;unfold Ek at hx;simp at hx;have:=at_mem (cZ s) 0 aA0;have r:Υ _ (0:Nat)=91:=hx.1.2;rw[r]at this;obtain⟨d,q,l⟩:=gD.1 this;rcases m d q with a|a
      ·have:lS (fQ d)=μ:=by rw[OJ];exact a
       rw[l]at this;exact sn 91 this Τ
      ·rw[a]at l;exact absurd l aA1
    have o:Ve (cZ s)=ν:=by
     cases hx:Ve _ with
     |false=>rfl
     |true=>
      exfalso;have c:=hx;unfold Ve at c;simp only[Bv]at c;have:=yT 46 fZ _ (λx hx=>(uD x (by rw[<-Io];exact aT.1 c.1.2 x hx)).2.2)
      have hid:=Db s λb f=>by
       rcases this _ (List.mem_map_of_mem f)with a|a
       ·exact bh b a
       ·rw[a];exact((yo b).1 a).symm
      rw[hid]at hx;exact j hx
    unfold kC;rw[p,aA aA1,o,aA aA1,TY,i,aB rfl,lL]
   ·unfold kC at h;rw[aA f,aA j,aA i]at h;cases h
open Go.Op renaming bytesLess → qK
theorem EU(a b:aC):UP a b=qK b a:=by unfold UP;rw[<-rP b a]
theorem Lx:∀a b c:aC,qK b a=ν->qK c b=ν->qK c a=ν
 |[],b,c,_,_=>by cases c<;>rfl
 |x::a,[],c,h,_=>by cases h
 |x::a,y::b,[],_,h=>by cases h
 |x::a,y::b,z::c,f,d=>by
  rw[qK,Bool.or_eq_false_iff]at f d⊢;have i:=fG f.1;have g:=fG d.1;rw[mg]at i g;refine⟨aG (by rw[mg];omega),?_⟩;by_cases h:z=x
  ·have e:y=x:=by apply jB.1;rw[h]at g;omega
   subst h e;have j:(y==y)=μ:=aA2;rw[j]at f d⊢;exact Lx a b c f.2 d.2
  ·have:(z==x)=ν:=by simpa using h
   rw[this];rfl
theorem UB(a b:aC)(h:qK a b=μ):qK b a=ν:=by rw[rP b a,h];rfl
def XC(a b:PP):Prop:=qK b.1 a.1=ν
theorem bo(a b:PP)(c:XC a b)(d:XC b a):a.1=b.1:=by unfold XC at c d;rw[rP b.1 a.1,d]at c;have:(a.1==b.1)=μ:=aC6;exact eq_of_beq this
theorem EM(x:PP):∀V:δ PP,V.Pairwise (λa b=>XC b a)->(Eb x V).Pairwise (λa b=>XC b a)
 |[],_=>by simp[Eb]
 |a::V,h=>by
  rw[iR]at h;rw[Eb];cases e:UP a.1 x.1 with
  |true=>
   rw[aO,iR];refine⟨λy c=> ?_,EM x V h.2⟩;rcases Nh x y V c with rfl|c
   ·exact UB _ _ (by rw[<-EU];exact e)
   ·exact h.1 y c
  |false=>
   have d:XC a x:=by unfold XC;rw[<-EU];exact e
   rw[aJ,iR,iR];refine⟨λy c=> ?_,h.1,h.2⟩;rcases aQ.1 c with rfl|c
   ·exact d
   ·exact Lx _ _ _ (h.1 y c) d
theorem Ue(x:PP):∀V:δ PP,(Eb x V).Perm (x::V)
 |[]=>List.Perm.refl _
 |a::V=>by
  rw[Eb];cases UP a.1 x.1 with
  |true=>rw[aO];exact((Ue x V).cons a).trans (List.Perm.swap x a V)
  |false=>rw[aJ]
theorem cy(x:PP)(l:δ PP)(h:l.Pairwise XC):(nC x l).Pairwise XC:=by unfold nC;rw[List.pairwise_reverse];exact EM x _ (List.pairwise_reverse.2 aA8)
theorem UI(x:PP)(l:δ PP):(nC x l).Perm (l++[x]):=by refine(List.reverse_perm _).trans ((Ue x _).trans ?_);exact(((List.reverse_perm l).cons x).trans (wK (l₁:=[x])))
theorem Nt:∀(q p:δ PP),p.Pairwise XC->(q.foldl (λout x=>nC x out) p).Pairwise XC/\(q.foldl (λout x=>nC x out) p).Perm (p++q)
 |[],p,h=>⟨h,aA2⟩
 |a::q,p,h=>by obtain⟨c,b⟩:=Nt q _ (cy a p h);refine⟨c,b.trans ?_⟩;have:=(UI a p).append_right q;rw[nW]at this;exact this
theorem Ua(l:δ PP):(xP l).Pairwise XC:=(Nt l [] List.Pairwise.nil).1
theorem bcq(l:δ PP):(xP l).Perm l:=by have:=(Nt l [] List.Pairwise.nil).2;exact this
def Yx(l:δ PP):Prop:=l.Pairwise λa b=>a.1≠b.1
theorem PO:∀l,Yx l->∀a∈l,∀b∈l,a.1=b.1->a=b
 |[],_,a,h,_,_,_=>absurd h aA2
 |x::l,d,a,i,b,g,e=>by
  unfold Yx at d;rw[iR]at d;rcases aQ.1 i with rfl|f
  ·rcases aQ.1 g with rfl|c
   ·rfl
   ·exact absurd e (d.1 b c)
  ·rcases aQ.1 g with rfl|c
   ·exact absurd e.symm (d.1 a f)
   ·exact PO l d.2 a f b c e
variable{l:δ PP}
theorem FO{m:δ PP}(h:l.Perm m)(a:Yx l):Yx m:=h.pairwise a λh e=>h e.symm
theorem JT(l m:δ PP)(h:l.Perm m)(e:Yx l):xP l=xP m:=by have d:=(bcq l).trans (h.trans (bcq m).symm);have c:=FO (bcq l).symm e;refine List.Perm.eq_of_pairwise (λa b g f j i=> ?_) (Ua l) (Ua m) d;exact PO _ c a g b (d.mem_iff.2 f) (bo a b j i)
open Go.Lib renaming hasPrefix → Jg, trimPrefix → jT
open List renaming length → aR
def FX(s:aC):η:=s.all λc=> !jD c
theorem UJ(k:Int)(a:k=0\/k=1\/k=2):∀c:ζ,Fv c k=μ->jD c=ν:=by rcases a with rfl|rfl|rfl<;>exact hY _ aA4
theorem Qq:∀c:ζ,jD (fQ c)=jD c:=hY _ aA4
theorem FT(s:aC):FX (cZ s)=FX s:=by unfold FX cZ;rw[List.all_map];congr 1;funext c;simp only[Function.comp_apply,Qq]
theorem Og(s:aC)(d:aR s<=4194304):apg FU s=θ (FX s):=by
 have h:=nP (λc=> !jD c) s d ν (aqk FU s)
  (λb=>by rw[atj,ajx,aA aA0])
  (λb k e h=>by have a:jD (Υ s (k:Int))=μ:=aA8;rw[atj,ajx,aB aA0,eF,xV,aS,a,aO])
  (λb k e h=>by have a:jD (Υ s k)=ν:=aA8;rw[atj,ajx,aB aA0,eF,xV,aS,a,aJ,eF])
 unfold apg;rw[h];unfold FX;cases s.all _<;>rfl
theorem xN(k:Int)(b:k=0\/k=1\/k=2):∀f l,gR k f l=ι->FX (sR k f l)=μ
 |0,l,_=>rfl
 |f+1,l,h=>by
  unfold gR at h;unfold sR;by_cases d:l=[]
  ·rw[aB d];rfl
  ·rw[aA d]at h⊢;cases c:Fv _ k with
   |true=>rw[c,aB rfl,tM]at h;rw[aB rfl];have:=xN k b f _ h;unfold FX at this⊢;rw[Pt,UJ k b _ c,this];rfl
   |false=>
    rw[c,aA aA1]at h;rw[aA aA1];cases e:lA l with
    |none=>rw[e]at h;cases h
    |some v=>
     rw[e]at h;simp only at h⊢;cases a:jD v with
     |true=>rw[a]at h;cases h
     |false=>rw[a,aA aA1,tM]at h;have:=xN k b f _ h;unfold FX at this⊢;rw[Pt,a,this];rfl
theorem xM(k:Int)(a:k=0\/k=1\/k=2)(l:aC)(h:fF k l=ι):FX (kM k l)=μ:=xN k a _ l h
def okQ(k:Int)(p:PP):Prop:=p.1≠[]/\cZ p.1=p.1/\FX p.1=μ/\FX p.2.1=μ/\(k=1->p.2.2= !decide (p.2.1=[]))/\(k=2->p.2.2=μ)
variable{a:aC}
theorem NH(h:yK l a=0):∀q∈l,q.1≠a:=by
 unfold yK at h;split at h
 ·exact absurd h aA1
 ·rename_i b;intro q c e;exact b (eK.2 ⟨q,c,aE5⟩)
theorem ep(k:Int)(r:k=1\/k=2)(l:δ PP)(T:aC)(h:(kX k l T).1=0):okQ k (kX k l T).2/\∀q∈l,q.1≠(kX k l T).2.1:=by
 have d:k=0\/k=1\/k=2:=.inr r;unfold kX at h⊢;cases g:fF k _ with
 |some j=>rw[g]at h;exact absurd h (show¬5=0 by decide)
 |none=>
  rw[g]at h;by_cases o:dU T=0
  ·rw[aB o]at h;exact absurd h aA1
  ·rw[aA o]at h⊢;have i:∀_:dU T<=aR T,T.take (dU T)≠[]:=λp e=>by have:=bM aR e;rw[iW,tU]at this;omega
   have b:=i (HI _ _);have n:cZ (kM k (T.take _))≠[]:=λe=>b ((sP k _ g).1 ((Da _).1 e));have f:FX (cZ (kM k (T.take (dU T))))=μ:=by rw[FT];exact xM k d _ g
   by_cases c:dU T<aR T
   ·rw[aB c]at h⊢;cases a:fF k _ with
    |some j=>rw[a]at h;exact absurd h (show¬5=0 by decide)
    |none=>
     rw[a]at h;by_cases hx:T.drop (dU T+1)=[]/\k=1
     ·rw[aB hx]at h;exact absurd h aA1
     ·rw[aA hx]at h⊢;refine⟨⟨n,lL _,f,xM k d _ a,λs=> ?_,λ_=>rfl⟩,NH h⟩;have:¬kM k (T.drop _)=[]:=λe=>hx ⟨(sP k _ a).1 e,s⟩;rw[aG this];rfl
   ·rw[aA c]at h⊢;by_cases m:k=2
    ·rw[aB m]at h;exact absurd h aA1
    ·rw[aA m]at h⊢;exact⟨⟨n,lL _,f,Τ,λ_=>rfl,λe=>absurd e m⟩,NH h⟩
def LS(k:Int)(l:δ PP):Prop:=Yx l/\∀p∈l,okQ k p
theorem LS.nil(k:Int):LS k []:=⟨List.Pairwise.nil,aA2⟩
variable{k:Int}
theorem LS.snoc(h:LS k l)(p:PP)(d:okQ k p)(e:∀q∈l,q.1≠p.1):LS k (l++[p]):=by
 refine⟨dO.2 ⟨h.1,List.pairwise_singleton _ _,λa g b f=> ?_⟩,λq c=> ?_⟩
 ·rw[aF.1 f];exact e a g
 ·rcases aZ.1 c with c|c
  ·exact h.2 q c
  ·rw[aF.1 c];exact d
theorem LS.sort(h:LS k l):LS k (xP l):=⟨FO (bcq l).symm h.1,λp a=>h.2 p ((bcq l).mem_iff.1 a)⟩
theorem Fu(l:δ PP)(h:Yx l):xP (xP l)=xP l:=(JT l _ (bcq l).symm h).symm
theorem ab(st s:aC):∀f i l,LS 1 l->LS 1 (iY st s f i l).2.2
 |0,i,l,h=>h
 |f+1,i,l,h=>by
  unfold iY;split
  ·split
   ·rename_i c;obtain⟨b,a⟩:=ep 1 (.inl Τ) _ _ c;exact ab st s f _ _ (h.snoc _ b a)
   ·exact LS.nil 1
  ·exact h
theorem dt(s:aC):∀f i l,LS 2 l->LS 2 (yI s f i l).2
 |0,i,l,h=>h
 |f+1,i,l,h=>by
  unfold yI;split
  ·split
   ·rename_i c;obtain⟨b,a⟩:=ep 2 (.inr Τ) _ _ c;exact dt s f _ _ (h.snoc _ b a)
   ·exact LS.nil 2
  ·exact h
def jQ(u:aC):η:= !decide (jT u [43]=[])&&decide (γ (jT u [43])<=30)&&(jT u [43]).all (lN (Jg u [43]))
theorem Gb(b:η)(c:ζ):((XP FU c).bind λa=>bif (!a)then(bif b then θ μ else if c=42 then θ ν else θ (!decide (c=35)))else θ ν)=θ (!lN b c):=by revert c;cases b<;>exact hY _ aA4
theorem VM(u:aC)(f:aR u<=4194304):awf FU u=θ (jQ u):=by
 have b:=Jx u [43];have h:=nP (lN _) (jT u [43]) aA0 ν (aof FU u)
  (λc=>by rw[arf,aiy,aA aA0])
  (λc k d h=>by rw[arf,aiy,aB aA0,eF,Gb,aS,h,vJ,aO])
  (λc k d h=>by rw[arf,aiy,aB aA0,eF,Gb,aS,h,iV,aJ,eF])
 unfold awf jQ;by_cases a:jT u [43]=[]
 ·rw[aB a,aH a];rfl
 ·rw[aA a,aG a];by_cases e:30<γ (jT u [43])
  ·rw[aH aA0,aG (show¬γ (jT u _)<=30 by omega)];rfl
  ·rw[aG aA0,h,aH (show(jT u _).length<=30 by omega)];cases(jT u _).all _<;>rfl
theorem Dy(a:η):∀T d,xQ a T=θ d->d.all (lN a)=μ
 |[],d,h=>by simp only[xQ,bH]at h;subst h;rfl
 |c::T,d,h=>by
  unfold xQ at h;split at h
  ·rename_i e;cases b:xQ a T with
   |none=>rw[b]at h;cases h
   |some d'=>rw[b]at h;simp at h;subst h;rw[Pt,e,Dy a T d' b];rfl
  ·split at h
   ·exact Dy a T d h
   ·cases h
theorem nz(s:aC)(i:Nat)(h:(jU s i).1=0):jQ (jU s i).2=μ:=by
 unfold jU at h⊢;cases f:xQ (cX s i 43) (sub s ((if cX s i 43=μ then i+1 else i:Nat):Int) (bQ [59] s i:Int))with
 |none=>rw[f]at h;exact absurd h (show¬(5:ζ)=0 by decide)
 |some d=>
  rw[f]at h;simp only at h⊢;by_cases j:d=[]
  ·rw[aB j]at h;exact absurd h aA1
  ·rw[aA j]at h⊢;by_cases g:30<aR d
   ·rw[aB g]at h;exact absurd h aA1
   ·rw[aA g];have a:=Dy _ _ _ f;cases b:cX s i 43 with
    |true=>
     rw[b]at a;rw[aB rfl];have l:jT (43::d) [43]=d:=by unfold jT Jg;simp
     have k:Jg (43::d) [43]=μ:=by unfold Jg;simp
     unfold jQ;rw[l,k,a,aG j,aH (show γ d<=30 by omega)];rfl
    |false=>
     rw[b]at a f;rw[aA aA1];have l:=Na _ _ f;have k:Jg d [43]=ν:=by
      cases d with
      |nil=>exact absurd Τ j
      |cons c d=>
       have m:lN ν c=μ:=by rw[Pt,Bv]at a;exact a.1
       have:c≠43:=λe=>by subst e;exact absurd m aA1
       have n:¬(43:ζ)=c:=λe=>this e.symm;show((43:ζ)==c&&([]:aC).isPrefixOf d)=ν;rw[dX.2 n];rfl
     unfold jQ;rw[l,k,a,aG j,aH (show γ d<=30 by omega)];rfl
structure Good (u:UU):Prop where
 sch:((u.1=XT\/u.1=Zv)/\kC u.2.2.1=(u.2.2.1,μ)/\0<=u.2.2.2.1/\u.2.2.2.1<=65535/\FX u.2.1=μ)\/(u.1=xg/\u.2.2.1=[]/\u.2.2.2.1=0/\u.2.2.2.2.2=[]/\jQ u.2.1=μ)
 ps:LS 1 u.2.2.2.2.1
 hs:LS 2 u.2.2.2.2.2
 pl:aR u.2.2.2.2.1<=16
 hl:aR u.2.2.2.2.2<=16
 pi:xP u.2.2.2.2.1=u.2.2.2.2.1
 hi:xP u.2.2.2.2.2=u.2.2.2.2.2
theorem CJ(st s b e h:aC)(a:Int)(i:Nat)(c:(wC st s b e h a i).1=0):
  ∃P H,(wC st s b e h a i).2=(b,e,h,a,P,H)/\LS 1 P/\LS 2 H/\γ P<=16/\γ H<=16/\xP P=P/\xP H=H/\H=xP (yI s (aR s+1) (iY st s (aR s+1) i []).2.1 []).2:=by
 unfold wC at c⊢;have j:=ab st s (aR s+1) i [] (LS.nil 1);have g:=dt s (aR s+1) (iY st s (aR s+1) i []).2.1 [] (LS.nil 2);have l:=Xp st s (aR s+1) i [] aA2;have k:=Yo s (aR s+1) (iY st s (aR s+1) i []).2.1 [] aA2;split
 ·rename_i d;rw[aB d]at c;split
  ·exact⟨_,_,Τ,j.sort,g.sort,by rw[Ub];exact l,by rw[Ub];exact k,Fu _ j.1,Fu _ g.1,Τ⟩
  ·rename_i f;rw[aA f]at c;exact absurd c f
 ·rename_i d;rw[aA d]at c;exact absurd c d
theorem Z7(q:aC)(h:(iX q).2=0):1<=(iX q).1/\(iX q).1<=65535:=by
 unfold iX at h⊢;split
 ·rename_i hx;rw[aB hx]at h;exact absurd h aA1
 ·rename_i hx;rw[aA hx]at h;have a:¬((gI q).1<1\/65535<(gI q).1):=λe=>hx ⟨h,e⟩;omega
theorem di(s:aC)(i:Nat)(h:(jP s i).1=0):kC (jP s i).2.1=((jP s i).2.1,μ)/\0<=(jP s i).2.2.1/\(jP s i).2.2.1<=65535:=by
 unfold jP at h⊢;split
 ·rename_i c;rw[aB c]at h;exact absurd h aA1
 ·rename_i c;rw[aA c]at h;have hid:=UM _ aC6;split
  ·rename_i a;rw[aB a]at h;split
   ·rename_i b;have:=Z7 _ b;exact⟨hid,by simp only;omega,by simp only;omega⟩
   ·rename_i b;rw[aA b]at h;exact absurd h b
  ·rename_i a;rw[aA a]at h;split
   ·rename_i hx;rw[aB hx]at h;exact absurd h aA1
   ·exact⟨hid,show 0<=0 by decide,show 0<=65535 by decide⟩
theorem nr(U:aC)(h:(mJ U).1=0):FX (mJ U).2=μ/\(mJ U).2≠[]:=by
 unfold mJ at h⊢;cases a:fF 0 U with
 |some j=>rw[a]at h;simp only at h;split at h<;>exact absurd h aA1
 |none=>
  rw[a]at h;simp only at h⊢;by_cases b:U=[]
  ·rw[aB b]at h;exact absurd h aA1
  ·rw[aA b];exact⟨xM 0 (.inl Τ) U a,λe=>b ((sP 0 U a).1 e)⟩
theorem plP_ok(s:aC)(i:Nat)(h:(fW s i).1=0):kC (fW s i).2.2.1=((fW s i).2.2.1,μ)/\0<=(fW s i).2.2.2.1/\(fW s i).2.2.2.1<=65535/\FX (fW s i).2.1=μ:=by
 unfold fW at h⊢;split
 ·rename_i a;rw[aB a]at h;split
  ·rename_i b;rw[aB b]at h;have:=di s _ h;exact⟨this.1,this.2.1,this.2.2,(nr _ b).1⟩
  ·rename_i b;rw[aA b]at h;exact absurd h b
 ·rename_i a;rw[aA a]at h;have:=di s _ h;exact⟨this.1,this.2.1,this.2.2,Τ⟩
theorem Xq(s:aC):∀(f i:Nat) (l:δ PP),i<=aR s->aR s-i<f->(i=aR s\/cX s i 59=μ)->(iY [59] s f i l).1=0->(iY [59] s f i l).2.1=aR s
 |0,i,l,n,m,h,b=>by omega
 |f+1,i,l,n,m,h,b=>by
  unfold iY at b⊢;by_cases d:cX s i 59=μ
  ·rw[aB d]at b⊢;have c:=(Eu d).1;have j:=Jc [59] s (i+1);have e:=Er [59] s (i+1) c;by_cases g:(kX 1 l (sub s ((i+1:Nat):Int) (bQ [59] s (i+1):Int))).1=0
   ·rw[aB g]at b⊢;refine Xq s f _ _ e aA0 ?_ b;by_cases k:bQ [59] s (i+1)=aR s
    ·exact .inl k
    ·have a:=bhe [59] s (i+1) c aA0;refine .inr ?_;unfold cX;rw[aH aA0,AO];unfold fN at a;rw[GY,lF,gM]at a;have o:=eq_of_beq a;rw[<-o];rfl
   ·rw[aA g]at b;exact absurd b g
  ·rw[aA d];exact h.resolve_right d
theorem oI(s:aC)(h:(uS s).1=0):Good (uS s).2:=by
 unfold uS at h⊢;by_cases t:1024<aR s
 ·rw[aB t]at h;exact absurd h aA1
 ·rw[aA t]at h⊢;by_cases j:bQ [58] s 0<aR s
  ·rw[aB j]at h⊢;generalize bQ [58] s 0=c at j h⊢;generalize cZ (s.take c)=f at h⊢;by_cases b:f=XT\/f=Zv
   ·rw[aB b]at h⊢;by_cases d:(fW s (c+1)).1=0
    ·rw[aB d]at h⊢;obtain⟨P,H,e,r,q,p,o,n,m,_⟩:=CJ _ _ _ _ _ _ _ h;rw[e];obtain⟨A,z,y,x⟩:=plP_ok s (c+1) d;exact⟨.inl ⟨b,A,z,y,x⟩,r,q,p,o,n,m⟩
    ·rw[aA d]at h;exact absurd h d
   ·rw[aA b]at h⊢;by_cases a:f=xg
    ·rw[aB a]at h⊢;by_cases d:(jU s (c+1)).1=0
     ·rw[aB d]at h⊢;have u:=Jc [59] s (c+1);have k:=Er [59] s (c+1) j;have l:(iY [59] s (aR s+1) (bQ [59] s (c+1)) []).1=0:=by
       unfold wC at h;by_cases hx:(iY [59] s (aR s+1) (bQ [59] s (c+1)) []).1=0
       ·exact hx
       ·rw[aA hx]at h;exact absurd h hx
      have i:=Xq s (aR s+1) (bQ [59] s (c+1)) [] k aA0 (by
       by_cases v:bQ [59] s (c+1)=aR s
       ·exact .inl v
       ·have g:=bhe [59] s (c+1) j aA0;refine .inr ?_;unfold cX;rw[aH aA0,AO];unfold fN at g;rw[GY,lF,gM]at g;have B:=eq_of_beq g;rw[<-B];rfl) l
      obtain⟨P,H,e,r,q,p,o,n,m,C⟩:=CJ _ _ _ _ _ _ _ h;rw[e];have w:H=[]:=by rw[C,i,yI,aA (Nat.lt_irrefl _)];rfl
      exact⟨.inr ⟨a,Τ,Τ,w,nz s (c+1) d⟩,r,q,p,o,n,m⟩
     ·rw[aA d]at h;exact absurd h d
    ·rw[aA a]at h;exact absurd h aA1
  ·rw[aA j]at h;exact absurd h aA1
theorem VE(k:Int)(z:k=1\/k=2)(l:δ PP)(E:aR l<=16)(n:LS k l)(B:∀p∈l,aR p.1<=4194304/\γ p.2.1<=4194304)(q:δ PP):∀(p:δ PP) (b:Nat),l=p++q->aR q<b->
  ajw FU l k b p (aR p:Int)=θ (.inl l):=by
 induction q with
 |nil=>intro p b h i;obtain⟨b,rfl⟩:=cD b;rw[azg,amx,aA aA7,h,gV]
 |cons a q y=>
  intro p b h i;obtain⟨b,rfl⟩:=cD b;have d:=bM aR h;simp only[cR,dT]at d i;have c:(0:Int)<=(aR p:Int)/\(aR p:Int)<(aR l:Int):=aA0;have A:el l (aR p:Int)=a:=aB3;have m:a∈l:=aA7;obtain⟨w,v,u,t,s,r⟩:=n.2 a m;obtain⟨o,D⟩:=B a m;have g:(p.any λx=>x.1==a.1)=ν:=by rw[eO];intro x hx e;have j:=n.1;rw[h]at j;exact(dO.1 j).2.2 x hx a aA2 aE5
  have f:=y (p++[a]) b aA7 aA0;rw[show(γ (p++[a]):Int)=(aR p:Int)+1 by simp]at f;rw[azg,amx,aB c.2,aV c,aV c,A,azu _ o,aS,v,aA w,Og _ o,aS,u,iV,aJ,Og _ D,aS,t,iV,aJ,EP p aA0,g,aS,aS,aJ];have C:(if k=(2:Int)then(bif (!(a.2.2))then θ μ else if k=(1:Int)then θ (!((a.2.2)==(!decide ((a.2.1)=([]:aC)))))else θ ν)else if k=(1:Int)then θ (!((a.2.2)==(!decide ((a.2.1)=([]:aC)))))else θ ν)=θ ν:=by
   rcases z with rfl|rfl
   ·rw[aA aA1,aB rfl,s rfl];simp
   ·rw[aB rfl,r rfl,iV,aJ,aA aA1]
  rw[C,aS,aJ];simp only[Z6];rw[aV aB7,aV (cJ _ aA0 aA0)];exact f
theorem uL(k:Int)(b:k=1\/k=2)(l:δ PP)(a:aR l<=16)(d:LS k l)(c:∀p∈l,aR p.1<=4194304/\γ p.2.1<=4194304):aqx FU l k=θ (xP l,μ):=by unfold aqx;have h:ajw FU l k FU [] (0:Int)=θ (.inl l):=VE k b l a d c l [] FU Τ aA5;rw[aA aA0,h,aS,qL,xR l aA0,aS]
def Sml(u:UU):Prop:=aR u.1<=4194304/\γ u.2.1<=4194304/\γ u.2.2.1<=4194304/\(∀p∈u.2.2.2.2.1,aR p.1<=4194304/\γ p.2.1<=4194304)/\(∀p∈u.2.2.2.2.2,aR p.1<=4194304/\γ p.2.1<=4194304)
theorem TV(u:UU)(A:Good u)(z:Sml u):awh FU u=θ (u,0):=by
 obtain⟨a,B,h,y,P,H⟩:=u;obtain⟨t,s,r,q,p,o,n⟩:=A;obtain⟨x,g,w,f,e⟩:=z;simp only at t s r q p o n x g w f e;have c:cZ a=a:=by
  rcases t with⟨b,_⟩|⟨b,_⟩
  ·rcases b with rfl|rfl<;>decide
  ·rw[b];decide
 unfold awh;simp only;rw[azu _ x,aS,c];have v:(if a=([115,105,112]:aC)then θ (decide (a=([115,105,112]:aC)))else θ (decide (a=([115,105,112,115]:aC))))=θ (decide (a=XT\/a=Zv)):=by
  by_cases d:a=XT
  ·rw[aB (show a=([115,105,112]:aC)from d),aH (show a=([115,105,112]:aC)from d),aH (Or.inl d)]
  ·rw[aA (show¬a=([115,105,112]:aC)from d)];congr 1;rw[dE];exact⟨Or.inr,λh=>h.resolve_left d⟩
 rw[v,aS];rcases t with⟨b,m,l,k,j⟩|⟨b,m,l,k,j⟩
 ·rw[aH b,aO,uT _ w,aS,m,aO,aB l,aB k,Og _ g,aS,j,aS];rw[uL 1 (.inl rfl) P q s f,aS,uL 2 (.inr rfl) H p r e,aS,o,n];rfl
 ·subst m l k;have i:¬(a=XT\/a=Zv):=by rw[b];decide
  rw[aG i,aJ,aB (show a=([116,101,108]:aC)from b),aB Τ,aB Τ,aB (show(γ ([]:δ PP):Int)=0 from Τ),VM _ g,aS,j,aS];rw[uL 1 (.inl rfl) P q s f,aS,uL 2 (.inr rfl) [] p r e,aS,o,n];rfl
def dm(n:Nat):ζ:=Υ [48,49,50,51,52,53,54,55,56,57,65,66,67,68,69,70] (n:Int)
def KJ(k:Int)(c:ζ):aC:=if Fv c k=μ then [c]else [37,dm (c.toNat/16),dm (c.toNat%16)]
def jW(k:Int)(s:aC):aC:=s.flatMap (KJ k)
theorem shr4:∀c:ζ,(mO c (4:Int)).toNat=c.toNat/16:=hY _ aA4
theorem mask15:∀c:ζ,(c&&&(15:ζ)).toNat=c.toNat%16:=hY _ aA4
theorem QH(k:Int)(s:aC):γ (jW k s)<=3*aR s:=by
 unfold jW;induction s with
 |nil=>exact dC _
 |cons c s a=>
  rw[wL,cR,dT];have:γ (KJ k c)<=3:=by unfold KJ;split<;>simp
  omega
theorem esc_lp(s:aC)(r:aR s<=4194304)(k:Int)(l:k=0\/k=1\/k=2)(q:aC):∀(p:aC) (d:Nat),s=p++q->aR q<d->
  ajy FU s k d (jW k p) (aR p:Int)=θ (jW k s):=by
 induction q with
 |nil=>intro p d h g;obtain⟨d,rfl⟩:=cD d;rw[azi,anc,aA aA7,h,gV]
 |cons c q j=>
  intro p d h g;obtain⟨d,rfl⟩:=cD d;have e:=bM aR h;simp only[cR,dT]at e g;have b:(0:Int)<=(aR p:Int)/\(aR p:Int)<(aR s:Int):=aA0;have n:Υ s (aR p:Int)=c:=by rw[h];simp[Υ]
  have a:=j (p++[c]) d aA7 aA0;have m:=QH k p;have o:jW k (p++[c])=jW k p++KJ k c:=by unfold jW;rw[GZ,LO]
  rw[show(γ (p++[c]):Int)=(aR p:Int)+1 by simp,o]at a;rw[azi,anc,aB b.2,aV b,Nj _ k l,n,aS];unfold KJ at a;cases i:Fv c k with
  |true=>rw[i,aB rfl]at a;rw[aO,aV b,aV aB7,aV (cJ _ aA0 aA0)];exact a
  |false=>rw[i,aA aA1]at a;have t:=fH c;have f:(γ ([48,49,50,51,52,53,54,55,56,57,65,66,67,68,69,70]:aC):Int)=16:=Τ;rw[aJ,aV b,shr4,mask15,f,aV aA0,aV b,aV aA0,aV aD3,aV (cJ _ aA0 aA0)];exact a
theorem nH(s:aC)(a:aR s<=4194304)(k:Int)(b:k=0\/k=1\/k=2):jw FU s k=θ (jW k s):=by unfold jw;have h:ajy FU s k FU [] (0:Int)=θ (jW k s):=esc_lp s a k b s [] FU Τ aA5;rw[yw aA0,h,aS]
open Go.Lib renaming itoa → iS
theorem Fg(out s:aC)(h:aR out+aR s<=140737488355328):AN FU ((),out) s=θ ((aR s:Int),(),(),out++s):=by unfold AN;simp only;rw[aV aA0]
theorem xv(out:aC)(c:ζ)(h:aR out+1<=140737488355328):ado FU ((),out) c=θ ((),(),out++[c]):=by unfold ado;simp only;rw[aV aB7]
def TN(p:PP):aC:=jW 1 p.1++(bif p.2.2 then 61::jW 1 p.2.1 else [])
def Rc(p:PP):aC:=jW 2 p.1++61::jW 2 p.2.1
def rK(l:δ PP):aC:=l.flatMap λp=>59::TN p
def Hf(l:δ PP):aC:=l.flatMap λp=>38::Rc p
def Yn:δ PP->aC
 |[]=>[]
 |p::r=>63::(Rc p++Hf r)
def HC(u:UU):aC:=if u.1=xg then u.2.1 else if u.2.1=[]then []else jW 0 u.2.1++[64]
def XB(n:Int):aC:=if n=0 then []else 58::iS n
def prU(u:UU):aC:=u.1++(58::(HC u++(u.2.2.1++(XB u.2.2.2.1++(rK u.2.2.2.2.1++Yn u.2.2.2.2.2)))))
theorem DD(p:PP)(h:aR p.1<=4194304/\γ p.2.1<=4194304):γ (TN p)<=25165830:=by
 have b:=QH 1 p.1;have a:=QH 1 p.2.1;unfold TN;rw[cR];cases p.2.2 with
 |true=>rw[aO,dT];omega
 |false=>rw[aJ,tU];omega
theorem OX(p:PP)(h:aR p.1<=4194304/\γ p.2.1<=4194304):γ (Rc p)<=25165830:=by have b:=QH 2 p.1;have a:=QH 2 p.2.1;unfold Rc;rw[cR,dT];omega
theorem TF(u:UU)(q:∀p∈u.2.2.2.2.1,aR p.1<=4194304/\γ p.2.1<=4194304)(s:aR u.2.2.2.2.1<=16)(r:δ PP):∀(pre:δ PP) (a:Nat) (out:aC),u.2.2.2.2.1=pre++r->aR r<a->aR out<=100000000+aR pre*30000000->
  aii FU (u,0) a (aR pre:Int) () out=θ ((),out++rK r):=by
 induction r with
 |nil=>intro pre a out h j m;obtain⟨a,rfl⟩:=cD a;rw[gV]at h;rw[bax,aoh,aA aA7];simp[rK]
 |cons p r k=>
  intro pre a out h j m;obtain⟨a,rfl⟩:=cD a;have f:=bM aR h;simp only[cR,dT]at f j;have b:(0:Int)<=(aR pre:Int)/\(aR pre:Int)<(aR u.2.2.2.2.1:Int):=aA0;have n:el u.2.2.2.2.1 (aR pre:Int)=p:=aB3;have c:=q p aA7;have v:=QH 1 p.1;have t:=QH 1 p.2.1;have d:bK ((aR pre:Int)+1):=cJ _ aA0 aA0;have next:∀o:aC,o=out++(59::TN p)->aii FU (u,0) a ((aR pre:Int)+1) () o=θ ((),out++rK (p::r)):=by intro o e;have l:=DD p c;have g:=k (pre++[p]) a o aA7 aA0 (by rw[e];simp only[cR,dT,tU];omega);rw[show(γ (pre++[p]):Int)=(aR pre:Int)+1 by simp]at g;rw[g,e];simp[rK]
  rw[bax,aoh,aB b.2];simp only;rw[aV b,aV b,n,nH _ c.1 1 (.inr (.inl rfl)),aS,aV aB7,Fg _ _ aB4,aS];cases i:p.2.2 with
  |true=>
   rw[aO,nH _ c.2 1 (.inr (.inl rfl)),aS,aV aB7,Fg _ _ aB4,aS,aV d];refine next _ ?_
   unfold TN;rw[i];simp
  |false=>
   rw[aJ,aV d];refine next _ ?_
   unfold TN;rw[i];simp
theorem TE(u:UU)(y:∀p∈u.2.2.2.2.2,aR p.1<=4194304/\γ p.2.1<=4194304)(z:aR u.2.2.2.2.2<=16)(r:δ PP):∀(pre:δ PP) (b:Nat) (out:aC),u.2.2.2.2.2=pre++r->aR r<b->aR out<=1000000000+aR pre*30000000->
  agl FU (u,0) b (aR pre:Int) () out=θ ((),out++(if pre=[]then Yn r else Hf r)):=by
 induction r with
 |nil=>intro pre b out h s w;obtain⟨b,rfl⟩:=cD b;rw[gV]at h;rw[baw,aog,aA aA7];split<;>simp[Yn,Hf]
 |cons p r t=>
  intro pre b out h s w;obtain⟨b,rfl⟩:=cD b;have k:=bM aR h;simp only[cR,dT]at k s;have f:(0:Int)<=(aR pre:Int)/\(aR pre:Int)<(aR u.2.2.2.2.2:Int):=aA0;have x:el u.2.2.2.2.2 (aR pre:Int)=p:=aB3;have g:=y p aA7;have B:=QH 2 p.1;have A:=QH 2 p.2.1;have v:=OX p g;have q:bK ((aR pre:Int)+1):=cJ _ aA0 aA0;have next:∀(c:ζ) (o:aC),o=out++(c::Rc p)->agl FU (u,0) b ((aR pre:Int)+1) () o=θ ((),out++(c::(Rc p++Hf r))):=by intro c o j;have l:=t (pre++[p]) b o aA7 aA0 (by rw[j];simp only[cR,dT,tU];omega);rw[show(γ (pre++[p]):Int)=(aR pre:Int)+1 by simp,aA aA2]at l;rw[l,j];simp
  have tail:∀(c:ζ),((jw FU p.1 (2:Int)).bind λ(a:aC)=>gd (aR a+γ ([61]:aC)<=9223372036854775807)<|(jw FU p.2.1 (2:Int)).bind λ(d:aC)=>gd (γ (a++([61]:aC))+aR d<=9223372036854775807)<|(AN FU ((),out++[c]) ((a++([61]:aC))++d)).bind λ(i:(Int×Unit×(Unit×(δ ζ))))=>gd (bK ((aR pre:Int)+(1:Int)))<|agl FU (u,0) b ((aR pre:Int)+(1:Int)) () i.2.2.2)=θ ((),out++(c::(Rc p++Hf r))):=by
   intro c;rw[nH _ g.1 2 (.inr (.inr rfl)),aS,aV aB7,nH _ g.2 2 (.inr (.inr rfl)),aS,aV aB4,Fg _ _ aB4,aS,aV q];refine next c _ ?_
   unfold Rc;simp
  rw[baw,aog,aB f.2];simp only;rw[aV f,aV f,x];by_cases m:pre=[]
  ·have n:(aR pre:Int)=0:=by rw[m];rfl
   rw[aB n,aB m,xv _ _ aA0,aS,aS];simp only;rw[tail 63];rfl
  ·have n:¬(aR pre:Int)=0:=λe=>m (Gh aA0);rw[aA n,aA m,xv _ _ aA0,aS,aS];simp only;rw[tail 38];unfold Hf;rw[wL];rfl
theorem Cq:∀l,(∀p∈l,aR p.1<=4194304/\γ p.2.1<=4194304)->γ (rK l)<=aR l*30000000
 |[],_=>dC _
 |p::l,h=>by have c:=DD p (h p iK);have b:=Cq l (λq a=>h q (gN _ a));unfold rK at b⊢;rw[wL,cR,dT,dT];omega
theorem ES:∀l,(∀p∈l,aR p.1<=4194304/\γ p.2.1<=4194304)->γ (Hf l)<=aR l*30000000
 |[],_=>dC _
 |p::l,h=>by have c:=OX p (h p iK);have b:=ES l (λq a=>h q (gN _ a));unfold Hf at b⊢;rw[wL,cR,dT,dT];omega
theorem ER(l:δ PP)(h:∀p∈l,aR p.1<=4194304/\γ p.2.1<=4194304):γ (Yn l)<=aR l*30000000:=by
 have:=ES l h;cases l with
 |nil=>exact eJ _
 |cons p l=>unfold Hf at this;rw[wL,cR,dT]at this;unfold Yn Hf;rw[dT,cR];omega
theorem Z5(u:UU)(g:Good u)(z:Sml u):ayz FU u=θ (prU u,0):=by
 have d:0<=u.2.2.2.1/\u.2.2.2.1<=65535:=by
  rcases g.sch with⟨_,_,p,A,_⟩|⟨_,_,h,_⟩
  ·exact⟨p,A⟩
  ·omega
 have hit:=nB u.2.2.2.1 d.1 d.2;have m:=g.pl;have n:=g.hl;have x:=QH 0 u.2.1;obtain⟨w,s,v,l,k⟩:=z;have C:=Cq _ l;have B:=ER _ k;unfold ayz;rw[TV u g ⟨w,s,v,l,k⟩,aS,aB rfl];simp only;rw[aV aB7,Fg _ _ aC9,aS];simp only;have q:(if u.1=([116,101,108]:aC)then((AN FU ((),([]:aC)++(u.1++([58]:aC))) u.2.1).bind λ(j:(Int×Unit×(Unit×(δ ζ))))=>θ ((),j.2.2.2))else if u.2.1=([]:aC)then θ ((),([]:aC)++(u.1++([58]:aC)))else(jw FU u.2.1 (0:Int)).bind λ(b:aC)=>gd (aR b+γ ([64]:aC)<=9223372036854775807)<|(AN FU ((),([]:aC)++(u.1++([58]:aC))) (b++([64]:aC))).bind λ(i:(Int×Unit×(Unit×(δ ζ))))=>θ ((),i.2.2.2))=θ ((),u.1++([58]:aC)++HC u):=by
  unfold HC;by_cases e:u.1=xg
  ·rw[aB (show u.1=([116,101,108]:aC)from e),aB e,Fg _ _ aC9,aS];simp
  ·rw[aA (show¬u.1=([116,101,108]:aC)from e),aA e];by_cases f:u.2.1=[]
   ·rw[aB f,aB f];simp
   ·rw[aA f,aA f,nH _ s 0 (.inl rfl),aS,aV aB7,Fg _ _ aC9,aS];simp
 rw[q,aS];have y:γ (HC u)<=12582913:=by
  unfold HC;split
  ·omega
  ·split
   ·exact eJ _
   ·rw[cR,fE];omega
 simp only;rw[Fg _ _ aB4,aS];simp only;have r:∀o:aC,aR o<=50000000->(if u.2.2.2.1=(0:Int)then θ ((),o)else gd (bK u.2.2.2.1)<|gd (γ ([58]:aC)+γ (iS u.2.2.2.1)<=9223372036854775807)<|(AN FU ((),o) (([58]:aC)++(iS u.2.2.2.1))).bind λ(c:(Int×Unit×(Unit×(δ ζ))))=>θ ((),c.2.2.2))=θ ((),o++XB u.2.2.2.1):=by
  intro o D;unfold XB;by_cases a:u.2.2.2.1=0
  ·rw[aB a,aB a,gV]
  ·rw[aA a,aA a,aV (cJ _ aA0 aA0),aV aB7,Fg _ _ aB4,aS];simp
 rw[r _ aB4,aS];have t:γ (XB u.2.2.2.1)<=6:=by
  unfold XB;split
  ·exact eJ _
  ·rw[dT];omega
 simp only;have a:aii FU (u,0) FU (0:Int) () _=_:=TF u l m u.2.2.2.2.1 [] FU (u.1++([58]:aC)++HC u++u.2.2.1++XB u.2.2.2.1) Τ aA5 aC9;rw[a,aS];simp only;have p:agl FU (u,0) FU (0:Int) () _=_:=TE u k n u.2.2.2.2.2 [] FU (u.1++([58]:aC)++HC u++u.2.2.1++XB u.2.2.2.1++rK u.2.2.2.2.1) Τ aA5 aC9;rw[p,aS,aB rfl];simp only;rw[aV aB4];unfold prU;simp
theorem utlA(st s A X Y:aC)(h:s=A++(X++Y))(d:∀c∈X,fN st c=ν)(b:∀c,Y.head? =θ c->fN st c=μ):bQ st s (γ A)=γ A+γ X:=by subst h;unfold bQ;rw[Pp,BI _ _ _ (by rw[aT];intro c a;rw[d c a];rfl),RY _ _ (λc a=>by rw[b c a];rfl),Rt]
theorem snoc1(A:aC)(c:ζ):γ A+1=γ (A++[c]):=by rw[cR];rfl
theorem V5(pre r:δ PP)(p:PP)(a:Yx (pre++p::r))(d:γ pre+(γ r+1)<=16):yK pre p.1=0:=by unfold yK;unfold Yx at a;rw[dO]at a;rw[aA,aA aA0];intro h;rw[eK]at h;obtain⟨q,b,c⟩:=h;exact a.2.2 q b p iK (eq_of_beq c)
theorem Mz(a:η):∀d:aC,d.all (lN a)=μ->xQ a d=θ d
 |[],_=>rfl
 |c::d,h=>by rw[Pt,Bv]at h;rw[xQ,aB h.1,Mz a d h.2];rfl
def a62(c:ζ):η:= !(c==62)&& !jD c
theorem gh(u:aC)(h:jQ u=μ):∀c∈u,(!(c==59))=μ/\a62 c=μ:=by
 unfold jQ at h;simp only[Bv]at h;have g:=h.2;intro c f;have i:∀d c,lN d c=μ->(!(c==59))=μ/\a62 c=μ:=by intro d;cases d<;>exact hY _ aA4
 cases u with
 |nil=>cases f
 |cons a u=>
  by_cases b:a=43
  ·subst b;rcases aQ.1 f with h|h
   ·rw[h];decide
   ·exact i _ c (aT.1 g c h)
  ·have j:¬43=a:=λe=>b e.symm;have k:jT (a::u) [43]=a::u:=by unfold jT Jg;simp[j]
   rw[k]at g;exact i _ c (aT.1 g c f)
theorem ui(u:aC)(h:jQ u=μ):u≠[]:=λe=>by rw[e]at h;exact absurd h aA1
theorem telA(s A f Z:aC)(h:s=A++(f++Z))(o:∀c,Z.head? =θ c->c=59)(k:jQ f=μ):jU s (γ A)=(0,f)/\bQ [59] s (γ A)=γ A+γ f:=by
 have j:=ui f k;have i:bQ [59] s (γ A)=γ A+γ f:=by
  refine utlA [59] s A f Z h (λc m=> ?_) (λc m=>by rw[o c m];decide);have l:¬c=59:=by simpa using (gh f k c m).1
  unfold fN;simp only[GY,lF,gM];exact dX.2 (λe=>l e.symm)
 refine⟨?_,i⟩;unfold jU;rw[i];have b:=seesA s A (f++Z) 43 h;rw[dp _ _ j]at b;unfold jQ at k;simp only[Bv,Vv,bT,bL]at k;obtain⟨⟨d1,d2⟩,d3⟩:=k;cases f with
 |nil=>exact absurd Τ j
 |cons a u=>
  by_cases g:a=43
  ·subst g;have n:jT (43::u) [43]=u:=by unfold jT Jg;simp
   rw[n]at d1 d2 d3;have p:s=(A++[43])++(u++Z):=aA7;have d:sub s ((γ A+1:Nat):Int) ((γ A+γ (43::u):Nat):Int)=u:=by have:=subA s (A++[43]) u Z p;rw[<-snoc1,show γ A+1+γ u=γ A+γ (43::u) by rw[dT];omega]at this;exact this
   rw[b,List.head?_cons,aH rfl,aB rfl,d,Mz μ u d3];dsimp only;rw[aA d1,aA aA0,aB rfl]
  ·have l:¬(43:ζ)=a:=λe=>g e.symm;have n:jT (a::u) [43]=a::u:=by unfold jT Jg;simp[l]
   have q:Jg (a::u) [43]=ν:=by show((43:ζ)==a&&([]:aC).isPrefixOf u)=ν;rw[dX.2 l];rfl
   rw[n]at d1 d2 d3;rw[q]at d3;have d:sub s (γ A:Int) ((γ A+γ (a::u):Nat):Int)=a::u:=subA s A (a::u) Z h;rw[b,List.head?_cons,aG (λe=>g (aP e)),aA aA1,d,Mz ν _ d3];dsimp only;rw[aA d1,aA aA0,aA aA1]
open Go.Lib renaming cut → jF, join → dP
theorem UR(s:aC):γ (Bx s).1<=250:=by
 unfold Bx;by_cases a:39<γ s
 ·rw[aB a];simp
 ·rw[aA a];have e:∀x:aC,γ x<=39->γ (dP (Bz x).1 [58])<=40*5:=λx hx=>by have g:=bgj x;have f:=jg [58] 4 (Bz x).1 g.2;simp only[fE]at f;omega
  split
  ·have:=e s aA0;simp only;omega
  ·split
   ·simp
   ·rename_i d;simp only[jC,Vv,bL,not_or]at d;have c:=jg [58] 4 (iO (jF s [58,58]).1).1 (Aw (Au _));have b:=jg [58] 4 (iO (jF s [58,58]).2.1).1 (Aw (Au _));simp only[fE,cR,dT,tU]at c b⊢;omega
theorem Uh(s:aC):γ (kC s).1<=γ s+252:=by
 have:=UR (sub s 1 ((γ s:Int)-1));unfold kC;split
 ·split
  ·simp only[cR,fE];omega
  ·simp
 ·split
  ·simp
  ·split
   ·unfold cZ;simp
   ·simp
open Go.Lib renaming join → dP
abbrev AA:=aC×UU×δ PP
def rO:AA:=([],iC,[])
def alt(s:aC):Nat->Nat->δ aC->ζ×Nat×δ aC
 |0,_,_=>(5,0,[])
 |f+1,i,a=>if cX s i 60=μ then(0,i,a)else if cB eN s i=i then(5,0,[])else alt s f (cB cF s (cB eN s (i:Int))) (a++[sub s i (cB eN s i)])
def uP(s:aC)(i:Nat):ζ×aC×Nat:=
 if cX s i 34=μ then
  (if(sW s i).2.2=0 then(if cX s (cB cF s (sW s i).2.1) 60=μ then(0,(sW s i).1,cB cF s (sW s i).2.1)else(5,[],0))else((sW s i).2.2,[],0))
 else if fN s 60=μ then((alt s (γ s+1) i []).1,dP (alt s (γ s+1) i []).2.2 [32],(alt s (γ s+1) i []).2.1)
 else(0,[],i)
def gG(s:aC)(i:Nat):ζ×UU×Nat:=
 if cX s i 60=μ then(if bQ [62] s (i+1)=γ s then(5,iC,0)else((uS (sub s ((i+1:Nat)) (bQ [62] s (i+1)))).1,(uS (sub s ((i+1:Nat)) (bQ [62] s (i+1)))).2,bQ [62] s (i+1)+1))
 else if bQ [63,44] s i<bQ [59,32,9] s i then(5,iC,0)else((uS (sub s i (bQ [59,32,9] s i))).1,(uS (sub s i (bQ [59,32,9] s i))).2,bQ [59,32,9] s i)
def hO (s : aC) : ζ × AA :=
  if 1024 < γ s then (4,rO) else
  if (uP s (cB cF s 0)).1 = 0 then
    (if (gG s (uP s (cB cF s 0)).2.2).1 = 0 then
      (if (oJ (s.drop (gG s (uP s (cB cF s 0)).2.2).2.2)).2.2 = 0 then (0,((uP s (cB cF s 0)).2.1,(gG s (uP s (cB cF s 0)).2.2).2.1,(oJ (s.drop (gG s (uP s (cB cF s 0)).2.2).2.2)).1))
       else ((oJ (s.drop (gG s (uP s (cB cF s 0)).2.2).2.2)).2.2,rO))
     else ((gG s (uP s (cB cF s 0)).2.2).1,rO))
  else ((uP s (cB cF s 0)).1,rO)
theorem DG(s:aC):∀(f i:Nat) (a:δ aC),i<=γ s->(alt s f i a).2.1<=γ s
 |0,_,_,_=>eJ _
 |f+1,i,a,h=>by
  rw[alt];split
  ·exact h
  ·split
   ·exact eJ _
   ·exact DG s f _ _ (pO _ _ _)
theorem FP(s:aC)(i:Nat)(a:i<=γ s):(uP s i).2.2<=γ s:=by
 unfold uP;split
 ·split
  ·split
   ·exact pO _ _ _
   ·exact eJ _
  ·exact eJ _
 ·split
  ·exact DG s _ i [] a
  ·exact a
theorem RS(s:aC)(i:Nat)(h:(gG s i).1=0):Good (gG s i).2.1:=by
 unfold gG at h⊢;split
 ·rename_i b;rw[aB b]at h;split
  ·rename_i a;rw[aB a]at h;exact absurd h aA1
  ·rename_i a;rw[aA a]at h;exact oI _ h
 ·rename_i b;rw[aA b]at h;split
  ·rename_i a;rw[aB a]at h;exact absurd h aA1
  ·rename_i a;rw[aA a]at h;exact oI _ h
theorem GH(s:aC)(h:(hO s).1=0):Good (hO s).2.2.1/\γ (hO s).2.2.2<=16/\∀p∈(hO s).2.2.2,cZ p.1=p.1/\γ p.1<=4194304:=by
 unfold hO at h⊢;split
 ·rename_i c;rw[aB c]at h;exact absurd h aA1
 ·rename_i c;rw[aA c]at h;split
  ·rename_i b;rw[aB b]at h;split
   ·rename_i a;rw[aB a]at h;split
    ·have d:∀k,γ (s.drop k)<=4194304:=λk=>by rw[fY];omega
     refine⟨RS s _ a,ai _,λp f=> ?_⟩;have:=Lj _ (d _) p f;exact⟨this.1,jZ this.2.1 (d _)⟩
    ·rename_i e;rw[aA e]at h;exact absurd h e
   ·rename_i a;rw[aA a]at h;exact absurd h a
  ·rename_i b;rw[aA b]at h;exact absurd h b
def U6:δ PP->aC->aC->δ PP
 |[],nm,v=>[(nm,v,μ)]
 |p::l,nm,v=>if cZ p.1=nm then(p.1,v,μ)::l else p::U6 l nm v
def Cl(e:aC):Prop:=(∀b a,eZ 0 b (e++a)=eZ 0 (b++e) a)/\e.any jD=ν
theorem Cl.nil:Cl []:=⟨λb a=>by rw[gV];rfl,Τ⟩
theorem Cl.app{b:aC}(e:Cl a)(d:Cl b):Cl (a++b):=⟨λf c=>by rw[nW,e.1,d.1,nW],by rw[QX,e.2,d.2];rfl⟩
def PB(c:ζ):η:= !(c==34)&& !(c==60)&& !(c==62)&& !(c==44)&& !jD c
theorem Cl.one(c:ζ)(h:PB c=μ):Cl [c]:=by unfold PB at h;simp only[Bv,Vv,dX]at h;obtain⟨⟨⟨⟨g,f⟩,e⟩,d⟩,b⟩:=h;refine⟨λi a=> ?_,by rw[GY,b];rfl⟩;rw[fJ,s0c,aA g,aA f,aA e,aA d]
theorem Cl.all:∀(a:aC),(∀c∈a,PB c=μ)->Cl a
 |[],_=>Cl.nil
 |c::a,h=>by have:=(Cl.one c (h c iK)).app (Cl.all a (λd b=>h d (gN _ b)));exact this
theorem Cl.cons{c:ζ}(h:PB c=μ)(b:Cl a):Cl (c::a):=(Cl.one c h).app b
theorem IJ:∀(v:aC) (b a:aC),v.any jD=ν->eZ 1 b (v.flatMap zN++34::a)=eZ 0 (b++(v.flatMap zN++[34])) a
 |[],b,a,_=>by rw[List.flatMap_nil,yL,s1c,aB rfl];rfl
 |c::v,b,a,h=>by
  rw[GY,Bool.or_eq_false_iff]at h;by_cases d:c=34\/c=92
  ·have f:XJ c=μ:=by rcases d with rfl|rfl<;>decide
   rw[wL,qs_yes c d,AP,AP,AP,s1c,aA aA1,aB rfl,yL,AP,s2c,aB f,IJ v _ a h.2];simp
  ·rw[wL,qs_no c d,fJ,AP,s1c,aA (λe=>d (.inl e)),aA (λe=>d (.inr e)),aA (by rw[h.1];decide),IJ v _ a h.2];simp
theorem qs_ctl:∀c:ζ,(zN c).any jD=jD c:=hY _ aA4
theorem NY:∀v:aC,(v.flatMap zN).any jD=v.any jD
 |[]=>rfl
 |c::v=>by rw[wL,QX,NY v,qs_ctl];rfl
theorem Cl.quo(v:aC)(h:v.any jD=ν):Cl (quoT v):=by
 unfold quoT;refine⟨λb a=> ?_,?_⟩
 ·rw[AP,s0c,aB rfl,nW,fJ,IJ v _ a h];simp
 ·rw[GY,QX,NY,h];decide
theorem jn2(a b:aC)(l:δ aC)(s:aC):dP (a::b::l) s=a++(s++dP (b::l) s):=by simp[dP,List.intercalate,List.intersperse]
theorem jn1(a s:aC):dP [a] s=a:=by simp[dP,List.intercalate]
theorem DZ(sep:aC):∀(c:δ aC) (x:aC),dP (c++[x]) sep=if c=[]then x else dP c sep++(sep++x)
 |[],x=>by rw[yL,jn1,aB rfl]
 |[a],x=>by rw[aA aA2,jn1];show dP [a,x] sep=_;rw[jn2,jn1]
 |a::b::c,x=>by rw[aA aA2,jn2];show dP (a::b::(c++[x])) sep=_;rw[jn2];have:=DZ sep (b::c) x;rw[aA aA2]at this;have e:b::(c++[x])=(b::c)++[x]:=Τ;rw[e,this];simp
open Int renaming toNat → bR
theorem RF(s:aC)(k:Nat)(c:k<=γ s):γ (kF s k).1<=γ s+252:=by
 unfold kF;split
 ·rename_i h;have:=Ju s k (Eu h).2 (Eu h).1;omega
 ·split
  ·split
   ·have a:=Uh (sub s k (min ((k+dV (λb=> !(b==93)) (s.drop k):Nat)+1:Int) (γ s)));rw[Qb]at a;dsimp only;omega
   ·exact eJ _
  ·split
   ·exact eJ _
   ·dsimp only;rw[Qb];omega
theorem JN(s:aC)(b:Nat):γ (yJ s b).1.2.1<=γ s+252:=by
 unfold yJ;split
 ·exact eJ _
 ·split
  ·exact eJ _
  ·split
   ·exact RF s _ (pO _ _ _)
   ·exact eJ _
theorem DB(s:aC):∀f l i,(∀p∈l,γ p.2.1<=γ s+252)->∀p∈(kI s f l i).1,γ p.2.1<=γ s+252
 |0,_,_,_=>by simp[kI]
 |f+1,l,i,h=>by
  rw[kI];split
  ·exact h
  ·split
   ·simp
   ·split
    ·split
     ·refine DB s f _ _ λp a=> ?_;rcases aZ.1 a with a|a
      ·exact h p a
      ·rw[aF.1 a];exact JN s _
     ·simp
    ·simp
theorem ah(s:aC):∀p∈(oJ s).1,γ p.2.1<=γ s+252:=DB s _ [] 0 aA2
theorem FF(k:Int)(l:δ PP)(T:aC):γ (kX k l T).2.1<=γ T/\γ (kX k l T).2.2.1<=γ T:=by
 have b:=sQ k (T.take (dU T));have a:=sQ k (T.drop (dU T+1));rw[iW]at b;rw[fY]at a;have c:γ (cZ (kM k (T.take (dU T))))=γ (kM k (T.take (dU T))):=by unfold cZ;rw[Gj]
 unfold kX;split
 ·exact⟨eJ _,eJ _⟩
 ·split
  ·exact⟨eJ _,eJ _⟩
  ·split
   ·split
    ·exact⟨eJ _,eJ _⟩
    ·split
     ·exact⟨eJ _,eJ _⟩
     ·dsimp only;omega
   ·split
    ·exact⟨eJ _,eJ _⟩
    ·exact⟨by dsimp only;omega,eJ _⟩
def xA(n:Nat)(l:δ PP):Prop:=∀p∈l,γ p.1<=n/\γ p.2.1<=n
variable{n:Nat}
theorem xA.snoc(h:xA n l)(p:PP)(d:γ p.1<=n)(c:γ p.2.1<=n):xA n (l++[p]):=λq b=>by
 rcases aZ.1 b with a|a
 ·exact h q a
 ·rw[aF.1 a];exact⟨d,c⟩
theorem aa(st s:aC):∀f i l,xA (γ s) l->xA (γ s) (iY st s f i l).2.2
 |0,i,l,h=>h
 |f+1,i,l,h=>by
  rw[iY];split
  ·split
   ·have:=FF 1 l (sub s (i+1:Nat) (bQ st s (i+1)));have b:=sub_le s (i+1:Nat) (bQ st s (i+1));exact aa st s f _ _ (h.snoc _ aA0 aA0)
   ·intro p a;cases a
  ·exact h
theorem dr(s:aC):∀f i l,xA (γ s) l->xA (γ s) (yI s f i l).2
 |0,i,l,h=>h
 |f+1,i,l,h=>by
  rw[yI];split
  ·split
   ·have:=FF 2 l (sub s (i+1:Nat) (bQ [38] s (i+1)));have b:=sub_le s (i+1:Nat) (bQ [38] s (i+1));exact dr s f _ _ (h.snoc _ aA0 aA0)
   ·intro p a;cases a
  ·exact h
def Kh(n:Nat)(u:UU):Prop:=γ u.1<=n/\γ u.2.1<=n/\γ u.2.2.1<=n/\xA n u.2.2.2.2.1/\xA n u.2.2.2.2.2
theorem lf(n:Nat):Kh n iC:=⟨eJ _,eJ _,eJ _,(λp a=>by cases a),(λp a=>by cases a)⟩
theorem Nf(h:xA n l):xA n (xP l):=λp a=>h p (UG l p a)
theorem CH(n:Nat)(st s b d h:aC)(c:Int)(i:Nat)(m:γ b<=n)(k:γ d<=n)(j:γ h<=n)(g:γ s<=n):Kh n (wC st s b d h c i).2:=by
 have e:∀l,xA (γ s) l->xA n l:=λl f p a=>⟨jZ (f p a).1 g,jZ (f p a).2 g⟩;unfold wC;split
 ·split
  ·exact⟨m,k,j,Nf (e _ (aa st s _ i [] (λp a=>by cases a))),Nf (e _ (dr s _ _ [] (λp a=>by cases a)))⟩
  ·exact lf n
 ·exact lf n
theorem OV(s:aC)(i:Nat):γ (jP s i).2.1<=γ s+252:=by
 have b:=Uh (sub s i (fU s i));have a:=sub_le s i (fU s i);unfold jP;split
 ·exact eJ _
 ·split
  ·split
   ·dsimp only;omega
   ·exact eJ _
  ·split
   ·exact eJ _
   ·dsimp only;omega
theorem ZQ(U:aC):γ (mJ U).2<=γ U:=by
 have:=sQ 0 U;unfold mJ;split
 ·exact eJ _
 ·split
  ·exact eJ _
  ·exact this
theorem qm(s:aC)(i:Nat):γ (fW s i).2.1<=γ s/\γ (fW s i).2.2.1<=γ s+252:=by
 have b:=OV s i;have a:=OV s (bQ [64] s i+1);have d:=ZQ (sub s i (bQ [64] s i));have c:=sub_le s i (bQ [64] s i);unfold fW;split
 ·split
  ·exact⟨by dsimp only;omega,a⟩
  ·exact⟨eJ _,eJ _⟩
 ·exact⟨eJ _,b⟩
theorem S8(s:aC)(i:Nat):γ (jU s i).2<=31:=by
 unfold jU;split
 ·exact eJ _
 ·split
  ·exact eJ _
  ·split
   ·exact eJ _
   ·dsimp only;split
    ·rw[dT];omega
    ·omega
theorem uC(s:aC):Kh 1300 (uS s).2:=by
 unfold uS;split
 ·exact lf _
 ·have c:γ (cZ (s.take (bQ [58] s 0)))<=γ s:=by unfold cZ;rw[Gj,iW];omega
  have b:=qm s (bQ [58] s 0+1);have a:=S8 s (bQ [58] s 0+1);split
  ·split
   ·split
    ·exact CH 1300 _ s _ _ _ _ _ aA0 aA0 aA0 aA0
    ·exact lf _
   ·split
    ·split
     ·exact CH 1300 _ s _ _ _ _ _ aA0 aA0 (eJ _) aA0
     ·exact lf _
    ·exact lf _
  ·exact lf _
variable{u:UU}
theorem Kh.sml(h:Kh n u)(a:n<=4194304):Sml u:=
 ⟨jZ h.1 a,jZ h.2.1 a,jZ h.2.2.1 a,λp b=>⟨jZ (h.2.2.2.1 p b).1 a,jZ (h.2.2.2.1 p b).2 a⟩,λp b=>⟨jZ (h.2.2.2.2 p b).1 a,jZ (h.2.2.2.2 p b).2 a⟩⟩
theorem Ls(s:aC):∀f i a,i<=γ s->γ a<=i->(∀x∈a,γ x<=γ s)->γ (alt s f i a).2.2<=γ s/\∀x∈(alt s f i a).2.2,γ x<=γ s
 |0,_,_,_,_,_=>⟨eJ _,λx hx=>by cases hx⟩
 |f+1,i,a,c,d,hx=>by
  have k:=Qc eN s i c;have g:=pO eN s i;have j:=Qc cF s _ g;rw[alt];split
  ·exact⟨jZ d c,hx⟩
  ·split
   ·exact⟨eJ _,λx hx=>by cases hx⟩
   ·rename_i e;refine Ls s f _ _ (pO _ _ _) aC0 (λx b=> ?_);rcases aZ.1 b with h|h
    ·exact hx x h
    ·rw[aF.1 h];exact sub_le _ _ _
theorem gg(s:aC)(c:γ s<=1024)(i:Nat)(e:i<=γ s):γ (uP s i).2.1<=1100000:=by
 unfold uP;split
 ·rename_i h;have:=Ju s i (Eu h).2 (Eu h).1;split
  ·split
   ·dsimp only;omega
   ·exact eJ _
  ·exact eJ _
 ·split
  ·obtain⟨a,b⟩:=Ls s _ i [] e (eJ _) (λx hx=>by cases hx);have d:=jg [32] (γ s) _ b;refine jZ d ?_;refine jZ (Nat.mul_le_mul (jZ a c) (Nat.succ_le_succ c)) aA1
  ·exact eJ _
theorem QR(s:aC):Kh 1300 (hO s).2.2.1/\γ (hO s).2.1<=1100000/\xA 1300 (hO s).2.2.2:=by
 have a:Kh 1300 rO.2.1/\γ rO.1<=1100000/\xA 1300 rO.2.2:=⟨lf _,eJ _,λp b=>by cases b⟩;unfold hO;split
 ·exact a
 ·rename_i c;split
  ·split
   ·split
    ·refine⟨?_,gg s aA0 _ (pO _ _ _),?_⟩
     ·show Kh 1300 (gG s (uP s _).2.2).2.1;unfold gG;split
      ·split
       ·exact lf _
       ·exact uC _
      ·split
       ·exact lf _
       ·exact uC _
     ·intro p b;have d:γ (s.drop (gG s (uP s (cB cF s 0)).2.2).2.2)<=1024:=by rw[fY];omega
      have f:=Lj _ aA0 p b;have e:=ah _ p b;exact⟨aA0,aA0⟩
    ·exact a
   ·exact a
  ·exact a
theorem nt(n:Nat):∀l k a,γ l<=n->0<=(fR l k a).2.1/\(fR l k a).2.1<=((k+γ l:Nat)):=by
 induction n with
 |zero=>intro l k a h;have:l=[]:=Gh aA0;subst this;unfold fR;exact⟨by dsimp only;omega,by dsimp only;omega⟩
 |succ n b=>
  intro l k a h;cases l with
  |nil=>unfold fR;exact⟨by dsimp only;omega,by dsimp only;omega⟩
  |cons c l=>
   rw[dT]at h⊢;rw[mK];split
   ·exact⟨by dsimp only;omega,by dsimp only;omega⟩
   ·split
    ·split
     ·exact⟨by dsimp only;omega,by dsimp only;omega⟩
     ·split
      ·have e:γ (l.drop 1)=γ l-1:=fY;have:=b (l.drop 1) (k+2) (a++[Υ l 0]) aA0;have d:l≠[]:=by assumption
       have:=cA.2 d;omega
      ·exact⟨by dsimp only;omega,by dsimp only;omega⟩
    ·split
     ·exact⟨by dsimp only;omega,by dsimp only;omega⟩
     ·have:=b l (k+1) (a++[c]) aA0;omega
theorem ZR(s:aC)(k:Nat)(a:k<=γ s):0<=(sW s k).2.1/\(sW s k).2.1<=γ s:=by
 unfold sW;split
 ·exact⟨by dsimp only;omega,by dsimp only;omega⟩
 ·split
  ·exact⟨by dsimp only;omega,by dsimp only;omega⟩
  ·rename_i h;have b:γ (s.drop (bR k+1))=γ s-(k+1):=by rw[tT,fY]
   have:=nt _ (s.drop (bR k+1)) (bR k+1) [] (dC _);omega
theorem nl(s:aC)(k:Nat)(c:k<=γ s):0<=(kF s k).2.1/\(kF s k).2.1<=γ s+1:=by
 have d:=pO eN s k;have a:=HI (λb=> !(b==93)) (s.drop k);rw[fY]at a;unfold kF;split
 ·have:=ZR s k c;omega
 ·split
  ·split
   ·exact⟨by dsimp only;omega,by dsimp only;omega⟩
   ·exact⟨by dsimp only;omega,by dsimp only;omega⟩
  ·split
   ·exact⟨by dsimp only;omega,by dsimp only;omega⟩
   ·exact⟨by dsimp only;omega,by dsimp only;omega⟩
theorem bk(s:aC)(b:Nat)(a:b<=γ s):0<=(yJ s b).2.1/\(yJ s b).2.1<=γ s+1:=by
 unfold yJ;split
 ·exact⟨by dsimp only;omega,by dsimp only;omega⟩
 ·split
  ·exact⟨by dsimp only;omega,by dsimp only;omega⟩
  ·split
   ·exact⟨by dsimp only;omega,by dsimp only;omega⟩
   ·exact nl s _ (pO _ _ _)
theorem OD(s:aC):∀f l i,0<=(kI s f l i).2.1/\(kI s f l i).2.1<=γ s+1
 |0,_,_=>⟨by unfold kI;decide,by unfold kI;dsimp only;omega⟩
 |f+1,l,i=>by
  have a:=pO cF s (cB cF s i+1:Nat);rw[kI];split
  ·exact⟨by dsimp only;omega,by dsimp only;omega⟩
  ·split
   ·exact⟨by dsimp only;omega,by dsimp only;omega⟩
   ·split
    ·split
     ·exact OD s f _ _
     ·exact⟨by dsimp only;omega,by dsimp only;omega⟩
    ·exact bk s _ a
theorem OC(s:aC)(a:γ s<=4194304):0<=(oJ s).2.1/\(oJ s).2.1<=γ s+1:=OD s _ _ _
theorem qy(s:aC)(y:γ s<=1024)(x:AA)(n:Nat):∀i d f b,γ s-i<=n->n<d->n<f->i<=γ s->γ b<=i->
  ∃j,afr FU x d b s i=θ j/\
   ((alt s f i b).1=0->j=.inl ((alt s f i b).2.2,s,((alt s f i b).2.1)))/\(¬(alt s f i b).1=0->∃a c w,j=.inr (a,(alt s f i b).1,c,w)):=by
 induction n with
 |zero=>
  intro i d f b u v o k t;obtain⟨d,rfl⟩:=cD d;obtain⟨f,rfl⟩:∃m,f=m+1:=⟨f-1,aA0⟩;obtain rfl:i=γ s:=aA0;have l:cX s (γ s) 60=ν:=by unfold cX;rw[aG aA0];rfl
  have e:cB eN s (γ s:Int)=γ s:=Sr _ _;rw[anr,afn,HG,l,tW s aA0 _ (dC _),e,jk];have g:alt s (f+1) (γ s) b=(5,0,[]):=by rw[alt,l,aA aA1,aB e]
  rw[g];exact⟨_,Τ,λh=>absurd h (show¬(5:ζ)=0 by decide),λ_=>⟨_,_,_,Τ⟩⟩
 |succ n r=>
  intro i d f b u v o k t;obtain⟨d,rfl⟩:=cD d;obtain⟨f,rfl⟩:∃m,f=m+1:=⟨f-1,aA0⟩;have q:=Qc eN s i k;have p:=pO eN s (i:Int);have z:=Qc cF s (cB eN s (i:Int)) p;rw[anr,afn,HG,aS];cases l:cX s i 60 with
  |true=>
   have g:alt s (f+1) i b=(0,i,b):=by rw[alt,l,aB rfl]
   rw[g];exact⟨_,Τ,λ_=>rfl,λh=>absurd Τ h⟩
  |false=>
   rw[tW s aA0 i k,aS];by_cases e:cB eN s (i:Int)=i
   ·have g:alt s (f+1) i b=(5,0,[]):=by rw[alt,l,aA aA1,aB e]
    rw[aB ((azl s i _ p q).2 e),g];exact⟨_,Τ,λh=>absurd h (show¬(5:ζ)=0 by decide),λ_=>⟨_,_,_,Τ⟩⟩
   ·have g:alt s (f+1) i b=alt s f (cB cF s ((cB eN s (i:Int):Nat):Int)) (b++[sub s (i:Int) ((cB eN s (i:Int):Nat):Int)]):=by rw[alt,l,aA aA1,aA e]
    rw[aA (λh=>e ((azl s i _ p q).1 h)),aV aC5,zr s aA0,g];exact r _ d f _ aA0 aA0 aA0 (pO _ _ _) aC0
theorem TH(s:aC)(f:γ s<=1024)(i:Nat)(g:i<=γ s):∃a c w,adw FU (s,i) ([],iC,[])=θ (a,(alt s (γ s+1) i []).1,c,w)/\
  ((alt s (γ s+1) i []).1=0->c=(s,((alt s (γ s+1) i []).2.1:Int))/\w=(dP (alt s (γ s+1) i []).2.2 [32],iC,[])):=by
 obtain⟨j,e,n,m⟩:=qy s f _ (γ s) i FU (γ s+1) [] aA0 aA5 aA0 g (eJ _);unfold adw;rw[e,aS];by_cases d:(alt s (γ s+1) i []).1=0
 ·rw[n d,qL];obtain⟨a,b⟩:=Ls s _ i [] g (eJ _) (λx hx=>by cases hx);have l:=jg [32] (γ s) _ b;rw[fE]at l;have k:γ (alt s (γ s+1) i []).2.2*(γ s+1)<=1024*1025:=Nat.mul_le_mul (jZ a f) (Nat.succ_le_succ f);dsimp only;rw[aV (by constructor<;>omega),d];exact⟨_,_,_,Τ,λ_=>⟨Τ,Τ⟩⟩
 ·obtain⟨a,c,w,o⟩:=m d;rw[o];exact⟨_,_,_,Τ,λh=>absurd h d⟩
theorem tgt_eq(s:aC)(y:γ s<=1024)(i:Nat)(o:i<=γ s)(d:aC):∃a c w,ahk FU (s,i) (d,iC,[])=θ (a,(gG s i).1,c,w)/\((gG s i).1=0->c=(s,((gG s i).2.2:Int))/\w=(d,(gG s i).2.1,[])/\(gG s i).2.2<=γ s):=by
 have n:∀(b e k:Nat),b<=e->e<=γ s->k<=γ s->k<=1025->∃a c w,(gd (0<=(b:Int)/\(b:Int)<=(e:Int)/\(e:Int)<=(γ s:Int))<|(aiz FU (sub s (b:Int) (e:Int))).bind λ(f:UU×Int×ζ)=>if f.2.2=(0:ζ)then θ ((0:Int),(0:ζ),(s,(k:Int)),(d,f.1,([]:δ PP)))else gd (bK (b+f.2.1))<|some (b+f.2.1,f.2.2,(s,i),(d,iC,[])))=θ (a,(uS (sub s b e)).1,c,w)/\((uS (sub s b e)).1=0->c=(s,(k:Int))/\w=(d,(uS (sub s b e)).2,[])/\k<=γ s):=by
  intro b e k z l t r;obtain⟨a,v,u,x⟩:=DA _;rw[aV aA0,x,aS];dsimp only;by_cases p:(uS (sub s b e)).1=0
  ·rw[p];exact⟨_,_,_,Τ,λ_=>⟨Τ,Τ,t⟩⟩
  ·rw[aA p,aV (cJ _ aA0 aA0)];exact⟨_,_,_,Τ,λh=>absurd h p⟩
 unfold ahk gG;rw[HG,aS];dsimp only;cases q:cX s i 60 with
 |true=>
  have m:=(Eu q).1;have j:=Jc [62] s (i+1);have g:=Er [62] s (i+1) m;rw[aV (cJ _ aA0 aA0),qG,vt s aA0 (i+1) m _ aA1 aA1,aS];by_cases l:bQ [62] s (i+1)=γ s
  ·rw[aB aA0,aB l];exact⟨_,_,_,Τ,λh=>absurd h (show¬(5:ζ)=0 by decide)⟩
  ·rw[aA aA0,aA l,aV (cJ _ aA0 aA0)];exact n (i+1) (bQ [62] s (i+1)) (bQ [62] s (i+1)+1) j g aA0 aA0
 |false=>
  have j:=Jc [59,32,9] s i;have g:=Er [59,32,9] s i o;rw[vt s aA0 i o _ aA1 aA1,aS,vt s aA0 i o _ aA1 aA1,aS];by_cases l:bQ [63,44] s i<bQ [59,32,9] s i
  ·rw[aB aA0,aB l];exact⟨_,_,_,Τ,λh=>absurd h (show¬5=0 by decide)⟩
  ·rw[aA aA0,aA l];exact n i _ _ j g g aA0
theorem KQ(s:aC):Lib.contains s [60]=fN s 60:=Zb s 60
theorem Xt(s:aC):∃a,alr FU s=θ ((hO s).2,a,(hO s).1):=by
 unfold alr hO;by_cases r:1024<γ s
 ·rw[aB aA0,aB r];exact⟨_,Τ⟩
 ·rw[aA aA0,aA r,zr s aA0,aS];have m:=pO cF s 0;generalize cB cF s 0=b at m⊢;have j:∃a c w,(((Ho FU (s,(b:Int)) (34:ζ)).bind λ(l:η)=>bif l then((ahl FU (s,(b:Int)) (([]:aC),(([]:aC),([]:aC),([]:aC),(0:Int),([]:δ PP),([]:δ PP)),([]:δ PP))).bind λ(f:(Int×ζ×(aC×Int)×AA))=>θ (f.1,f.2.1,f.2.2.1.1,f.2.2.1.2,f.2.2.2.1,f.2.2.2.2.1.1,f.2.2.2.2.1.2.1,f.2.2.2.2.1.2.2.1,f.2.2.2.2.1.2.2.2.1,f.2.2.2.2.1.2.2.2.2.1,f.2.2.2.2.1.2.2.2.2.2,f.2.2.2.2.2))else gd (γ s<=1000000000)<|bif (Lib.contains s ([60]:aC))then((adw FU (s,(b:Int)) (([]:aC),(([]:aC),([]:aC),([]:aC),(0:Int),([]:δ PP),([]:δ PP)),([]:δ PP))).bind λ(d:(Int×ζ×(aC×Int)×AA))=>θ (d.1,d.2.1,d.2.2.1.1,d.2.2.1.2,d.2.2.2.1,d.2.2.2.2.1.1,d.2.2.2.2.1.2.1,d.2.2.2.2.1.2.2.1,d.2.2.2.2.1.2.2.2.1,d.2.2.2.2.1.2.2.2.2.1,d.2.2.2.2.1.2.2.2.2.2,d.2.2.2.2.2))else θ ((0:Int),(0:ζ),s,(b:Int),([]:aC),([]:aC),([]:aC),([]:aC),(0:Int),([]:δ PP),([]:δ PP),([]:δ PP))):ε (Int×ζ×aC×Int×aC×aC×aC×aC×Int×(δ PP)×(δ PP)×(δ PP)))
    =θ (a,(uP s b).1,c,w)/\((uP s b).1=0->c=s/\w=(((uP s b).2.2:Int),(uP s b).2.1,[],[],[],0,[],[],[])):=by
   have i:=FP s b m;rw[HG,aS];unfold uP at i⊢;cases v:cX s b 34 with
   |true=>
    rw[v]at i;rw[aO];unfold ahl;dsimp only;rw[wP s aA0,aS];by_cases g:(sW s (b:Int)).2.2=0
    ·rw[aB g]at i;rw[aB g,aB g,zr s aA0,aS,HG,aS];cases p:cX s (cB cF s (sW s (b:Int)).2.1) 60 with
     |true=>rw[iV];exact⟨_,_,_,Τ,λ_=>⟨Τ,Τ⟩⟩
     |false=>rw[vJ];exact⟨_,_,_,Τ,λh=>absurd h (show¬(5:ζ)=0 by decide)⟩
    ·rw[aA g,aA g];exact⟨_,_,_,Τ,λh=>absurd h g⟩
   |false=>
    rw[aV aA0,KQ];cases p:fN s 60 with
    |true=>obtain⟨a,c,w,e,h⟩:=TH s aA0 b m;rw[aO];have e':adw FU (s,(b:Int)) (([]:aC),(([]:aC),([]:aC),([]:aC),(0:Int),([]:δ PP),([]:δ PP)),([]:δ PP))=θ (a,(alt s (γ s+1) b []).1,c,w):=e;rw[e'];refine⟨_,_,_,Τ,λg=> ?_⟩;obtain⟨rfl,rfl⟩:=h g;exact⟨Τ,Τ⟩
    |false=>exact⟨_,_,_,Τ,λ_=>⟨Τ,Τ⟩⟩
  obtain⟨a,c,w,e,h⟩:=j;have i:=FP s b m;rw[e,aS];generalize uP s b=D at h i⊢;by_cases g:D.1=0
  ·obtain⟨rfl,rfl⟩:=h g;rw[aB g,aB g];obtain⟨A,z,u,y,t⟩:=tgt_eq c aA0 D.2.2 i D.2.1;have q:ahk FU (c,(D.2.2:Int)) (D.2.1,(([]:aC),([]:aC),([]:aC),(0:Int),([]:δ PP),([]:δ PP)),([]:δ PP))=θ (A,(gG c D.2.2).1,z,u):=y;rw[q,aS,aS];dsimp only;generalize gG c D.2.2=G at t⊢;by_cases k:G.1=0
   ·obtain⟨rfl,rfl,B⟩:=t k;rw[aB k,aB k];obtain⟨x,o⟩:=OC (c.drop G.2.2) aB6;rw[aV aA0,tT,TM _ aB6,aS,aV (cJ _ aA0 (by rw[fY]at o;omega)),aS];by_cases n:(oJ (c.drop G.2.2)).2.2=0
    ·rw[aB n,aB n];exact⟨_,Τ⟩
    ·rw[aA n,aA n];exact⟨_,Τ⟩
   ·rw[aA k,aA k,aS];rw[aA k];exact⟨_,Τ⟩
  ·rw[aA g,aA g,aS];rw[aA g,aS];rw[aA g];exact⟨_,Τ⟩
theorem du(v:aC)(b:γ v<=4194304):aqw FU v=θ ((hO (oS v)).2,(hO (oS v)).1):=by obtain⟨a,e⟩:=Xt _;unfold aqw;rw[nv v b,aS,e,aS]
def Js(v:aC):aC×ζ:=if(hO (oS v)).1=0 then(prU (hO (oS v)).2.2.1,0)else([],(hO (oS v)).1)
theorem OY(v:aC)(a:γ v<=4194304):axh FU v=θ (Js v):=by
 unfold axh Js;rw[du v a,aS];dsimp only;by_cases h:(hO (oS v)).1=0
 ·rw[aB h,aB h,Z5 _ (GH _ h).1 ((QR _).1.sml aA1),aS]
 ·rw[aA h,aA h]
theorem Kh.mono{n m:Nat}(h:Kh n u)(a:n<=m):Kh m u:=
 ⟨jZ h.1 a,jZ h.2.1 a,jZ h.2.2.1 a,λp b=>⟨jZ (h.2.2.2.1 p b).1 a,jZ (h.2.2.2.1 p b).2 a⟩,λp b=>⟨jZ (h.2.2.2.2 p b).1 a,jZ (h.2.2.2.2 p b).2 a⟩⟩
def iD(h:aC×aC):aC:=(h.1++58::32::h.2)++[13,10]
theorem FE(k:Int)(l:δ PP)(T:aC):kX k l T=if(kX k [] T).1=0 then(yK l (kX k [] T).2.1,(kX k [] T).2)else(5,([],[],ν)):=by
 unfold kX;cases fF k _ with
 |some j=>rfl
 |none=>
  by_cases c:dU T=0
  ·rw[aB c,aB c];rfl
  ·rw[aA c,aA c];by_cases b:dU T<γ T
   ·rw[aB b,aB b];cases fF k _ with
    |some j=>rfl
    |none=>
     by_cases a:T.drop (dU T+1)=[]/\k=1
     ·rw[aB a,aB a];rfl
     ·rw[aA a,aA a];rfl
   ·rw[aA b,aA b];by_cases a:k=2
    ·rw[aB a,aB a];rfl
    ·rw[aA a,aA a];rfl
theorem fld_5(k:Int)(T:aC):(kX k [] T).1=0\/(kX k [] T).1=5:=by
 rw[FE k [] T];split
 ·exact .inl Τ
 ·exact .inr Τ
theorem Bb(s:aC)(i a x:Int)(b e:ζ)(h:¬b=0):On (s,i,a,b) x e=(s,i,a,b):=aA h
theorem ag(s:aC)(m:γ s<=4194303)(g a:Int)(l:ζ)(e:Nat)(o:e<=γ s)(n:Nat):∀k b,k+n=e->n<b->
  ajh FU (s,g,a,l) e b k=θ ((k+dV (λc=> !(c==61)) (sub s (k:Int) (e:Int)):Nat):Int):=by
 induction n with
 |zero=>intro k b i j;obtain⟨b,rfl⟩:=cD b;obtain rfl:k=e:=aA0;rw[auu,aio,aA aA0,jk];rfl
 |succ n f=>
  intro k b i j;obtain⟨b,rfl⟩:=cD b;have d:sub s k e=Υ s k::sub s (k+1:Nat) e:=by unfold sub;simp;rw[Pb s k aA0,show e-k=(e-(k+1))+1 by omega,eT]
  rw[auu,aio,aB aA0,aV aE2,aS,d,dV];by_cases h:Υ s k=61
  ·rw[h];rfl
  ·rw[aG h,vJ,aO,aV (cJ _ aA0 aA0),qG,f _ b aA0 aA0,aB (by simp[h])];congr 1;omega
theorem IW(s:aC)(hs:γ s<=4194303)(i e:Nat)(a5:i<=e)(V:e<=γ s)(a:Int)(W:0<=a/\a<=5000000)(k:Int)(P:k=1\/k=2):
  ∃p a',(0<=a'/\a'<=5000000)/\anv FU (s,i,a,0) e k=θ (p,(s,(e:Int),a',(kX k [] (sub s i e)).1))/\cZ p.1=p.1/\γ p.1<=γ s/\
   ((kX k [] (sub s i e)).1=0->p=(kX k [] (sub s i e)).2/\a'=a):=by
 have H:k=0\/k=1\/k=2:=.inr P;have hT:γ (sub s i e)=e-i:=aC3;have E:=λn h=>BF s i e n h;have F:=λn=>So s i e n
 have N:=ag s hs i a 0 e V (e-i) i FU aA0 aA5;unfold anv;dsimp only;rw[N,aS];generalize a9:sub s i _=T at hT E F⊢;have hn:dV _ T=dU T:=Τ;have a3:dU T<=γ T:=HI _ _;rw[hn,qY s aA0 i _ aA0 aA0 a 0 k H,E _ aA0,aS];have tail:∀(x b:Int) (l:ζ) (nm:aC),0<=b->b<=5000000->∃v h b',(0<=b'/\b'<=5000000)/\(((if k=(2:Int)then θ (decide (((i+dU T:Nat):Int)=(e:Int)))else θ ν).bind λ(D:η)=>bif D then((Jf FU (s,x,b,l) (e:Int) (5:ζ)).bind λ(r:RR)=>θ (r.1,r.2.1,r.2.2.1,r.2.2.2))else θ (s,x,b,l)).bind λ(g:RR)=>(if((i+dU T:Nat):Int)<(e:Int)then(gd (bK (((i+dU T:Nat):Int)+(1:Int)))<|(adi FU (g.1,((i+dU T:Nat):Int)+(1:Int),g.2.2.1,g.2.2.2) (e:Int) k).bind λ(f:(aC×RR))=>(if k=(1:Int)then θ (decide (f.1=([]:aC)))else θ ν).bind λ(C:η)=>bif C then(gd (bK ((i+dU T:Nat)+1))<|(Jf FU f.2 ((i+dU T:Nat)+1) 5).bind λq=>θ (q.1,q.2.1,q.2.2.1,q.2.2.2,f.1,μ))else θ (f.2.1,f.2.2.1,f.2.2.2.1,f.2.2.2.2,f.1,μ))else θ (g.1,g.2.1,g.2.2.1,g.2.2.2,[],ν)).bind λo=>θ ((nm,o.2.2.2.2.1,o.2.2.2.2.2),((o.1,e,o.2.2.1,o.2.2.2.1):RR)))=θ ((nm,v,h),(s,(e:Int),b',if l=0 then(if dU T<γ T then(match fF k (T.drop (dU T+1))with|some _=>5|none=>if T.drop (dU T+1)=[]/\k=1 then 5 else 0)else if k=2 then 5 else 0)else l))/\
   (l=0->(if dU T<γ T then(match fF k (T.drop (dU T+1))with|some _=>(5:ζ)|none=>if T.drop (dU T+1)=[]/\k=1 then 5 else 0)else if k=2 then 5 else 0)=0->b'=b/\v=(if dU T<γ T then kM k (T.drop (dU T+1))else [])/\h=decide (dU T<γ T)):=by
  intro x b l nm a8 a7;by_cases c:dU T<γ T
  ·have M:¬((i+dU T:Nat):Int)=(e:Int):=by omega
   have S:(if k=(2:Int)then θ (decide (((i+dU T:Nat):Int)=(e:Int)))else θ ν)=θ ν:=by rw[aG M];split<;>rfl
   rw[S,aS,aJ,aS,aB aA0,aV (cJ _ aA0 aA0)];simp only[aB c];rw[qG,qY s aA0 (i+dU T+1) e aA0 V b l k H,F (dU T),aS];cases y:fF k (T.drop (dU T+1))with
   |some j=>
    have U:=jf _ _ _ j y;rw[fY]at U;dsimp only;by_cases d:l=0
    ·have A:On (s,((i+dU T+1:Nat):Int),b,l) ((i+dU T+1+j:Nat):Int) 5=(s,((i+dU T+1:Nat):Int),((i+dU T+1+j:Nat):Int),5):=aB d;rw[A,aB d];rcases P with rfl|rfl
     ·rw[aB rfl,aH rfl,aS,aO,aV (cJ _ aA0 aA0),Qa,aS,aS];exact⟨_,_,_,qM,Τ,λ_ h=>absurd h (show¬(5:ζ)=0 by decide)⟩
     ·rw[aA aA1,aS,aJ,aS];exact⟨_,_,_,qM,Τ,λ_ h=>absurd h (show¬(5:ζ)=0 by decide)⟩
    ·rw[Bb _ _ _ _ _ _ d,aA d];rcases P with rfl|rfl
     ·rw[aB rfl,aH rfl,aS,aO,aV (cJ _ aA0 aA0),Qa,Bb _ _ _ _ _ _ d,aS,aS];exact⟨_,_,_,qM,Τ,λh=>absurd h d⟩
     ·rw[aA aA1,aS,aJ,aS];exact⟨_,_,_,qM,Τ,λh=>absurd h d⟩
   |none=>
    have w:=sP k (T.drop (dU T+1)) y;dsimp only;have e2:(if k=(1:Int)then θ (decide (kM k (T.drop (dU T+1))=[]))else θ ν)=θ (decide (T.drop (dU T+1)=[]/\k=1)):=by
     by_cases J:k=1
     ·rw[aB J];congr 1;rw[dE,w];exact⟨λh=>⟨h,J⟩,λh=>h.1⟩
     ·rw[aA J,aG (λh=>J h.2)]
    rw[e2,aS];by_cases m:T.drop (dU T+1)=[]/\k=1
    ·rw[aH m,aO,aV (cJ _ aA0 aA0),Qa,aS,aS,aB m];by_cases d:l=0
     ·have A:On (s,(e:Int),b,l) ((i+dU T+1:Nat):Int) 5=(s,(e:Int),((i+dU T+1:Nat):Int),5):=aB d;rw[A,aB d];exact⟨_,_,_,qM,Τ,λ_ h=>absurd h (show¬(5:ζ)=0 by decide)⟩
     ·rw[Bb _ _ _ _ _ _ d,aA d];exact⟨_,_,_,qM,Τ,λh=>absurd h d⟩
    ·rw[aG m,aJ,aS,aA m];by_cases d:l=0
     ·subst d;rw[aB rfl];exact⟨_,_,_,qM,Τ,λ_ _=>⟨Τ,Τ,(aH c).symm⟩⟩
     ·rw[aA d];exact⟨_,_,_,qM,Τ,λh=>absurd h d⟩
  ·have heq:(i+dU T:Nat)=(e:Int):=by omega
   have S:(if k=(2:Int)then θ (decide (((i+dU T:Nat):Int)=(e:Int)))else θ ν)=θ (decide (k=2)):=by
    rw[aH heq];by_cases z:k=2
    ·rw[aB z,aH z]
    ·rw[aA z,aG z]
   simp only[aA c];rw[S,aS];by_cases z:k=2
   ·rw[aH z,aO,Qa,aS,aS,aA aA0,aB z];by_cases d:l=0
    ·have A:On (s,x,b,l) (e:Int) 5=(s,x,(e:Int),5):=aB d;rw[A,aB d];exact⟨_,_,_,qM,Τ,λ_ h=>absurd h (show¬5=0 by decide)⟩
    ·rw[Bb _ _ _ _ _ _ d,aA d];exact⟨_,_,_,qM,Τ,λh=>absurd h d⟩
   ·rw[aG z,aJ,aS,aA aA0,aA z];by_cases d:l=0
    ·subst d;rw[aB rfl];exact⟨_,_,_,qM,Τ,λ_ _=>⟨Τ,Τ,(aG c).symm⟩⟩
    ·rw[aA d];exact⟨_,_,_,qM,Τ,λh=>absurd h d⟩
 have K:γ (T.take (dU T))=dU T:=aB5;have a6:=sQ k (T.take (dU T));have Y:∀l:ζ,¬l=0->∀X:ζ,(if l=0 then X else l)=l:=λl h X=>aA h;have B:¬(5:ζ)=0:=aA1;cases y:fF k (T.take (dU T))with
 |some j=>
  have R:kX k [] T=(5,([],[],ν)):=by unfold kX;rw[y]
  have A:On (s,(i:Int),a,0) ((i+j:Nat):Int) 5=(s,(i:Int),((i+j:Nat):Int),5):=Τ;dsimp only;rw[A,Qa,aS];have U:=jf _ _ _ j y;obtain⟨v,h,b',u,t1,t2⟩:=tail i (i+j:Nat) 5 _ aA0 aA0;rw[Y 5 B]at t1;rw[R];exact⟨_,_,u,t1,Τ,eJ _,λh=>absurd h B⟩
 |none=>
  have w:=sP k _ y;dsimp only;by_cases d:dU T=0
  ·have G:T.take (dU T)=[]:=Gh aA0;have R:kX k [] T=(5,([],[],ν)):=by unfold kX;rw[y];dsimp only;rw[aB d]
   have Q:=w.2 G;have A:On (s,(i+dU T:Nat),a,0) (i:Int) 5=(s,((i+dU T:Nat):Int),(i:Int),5):=Τ;rw[Q,Qa,aS];obtain⟨v,h,b',u,t1,t2⟩:=tail _ i 5 _ aA0 aA0;rw[Y 5 B]at t1;rw[R];exact⟨_,_,u,t1,Τ,eJ _,λh=>absurd h B⟩
  ·have L:¬kM k _=[]:=λe=>d (by rw[<-K,w.1 e];rfl)
   rw[aA L,XM _ aA0];obtain⟨v,h,b',u,t1,t2⟩:=tail (i+dU T:Nat) a 0 _ W.1 W.2;rw[aB rfl]at t1;have hE:(kX k [] T).1=(if dU T<γ T then(match fF k (T.drop (dU T+1))with|some _=>5|none=>if T.drop (dU T+1)=[]/\k=1 then 5 else 0)else if k=2 then 5 else 0):=by
    unfold kX;rw[y];dsimp only;rw[aA d];by_cases c:dU T<γ T
    ·rw[aB c,aB c];cases fF k _ with
     |some j=>rfl
     |none=>
      dsimp only;by_cases m:T.drop (dU T+1)=[]/\k=1
      ·rw[aB m,aB m]
      ·rw[aA m,aA m];rfl
    ·rw[aA c,aA c];by_cases m:k=2
     ·rw[aB m,aB m]
     ·rw[aA m,aA m];rfl
   have O:γ (cZ (kM k (T.take (dU T))))<=γ s:=by unfold cZ;rw[Gj];omega
   rw[hE];refine⟨_,_,u,t1,lL _,O,λt=> ?_⟩;obtain⟨q1,q2,Z⟩:=t2 Τ t;refine⟨?_,q1⟩;rw[q2,Z];unfold kX;rw[y];dsimp only;rw[aA d];by_cases c:dU T<γ T
   ·rw[aB c]at t⊢;rw[aB c];cases I:fF k _ with
    |some j=>rw[I]at t;exact absurd t B
    |none=>
     rw[I]at t;dsimp only at t⊢;by_cases m:T.drop (dU T+1)=[]/\k=1
     ·rw[aB m]at t;exact absurd t B
     ·rw[aA m,aH c]
   ·rw[aA c]at t⊢;rw[aA c];by_cases m:k=2
    ·rw[aB m]at t;exact absurd t B
    ·rw[aA m,aG c]
def TZ(l:δ PP):Prop:=∀p∈l,cZ p.1=p.1/\γ p.1<=4194304
theorem TZ.snoc(h:TZ l)(p:PP)(d:cZ p.1=p.1)(c:γ p.1<=4194304):TZ (l++[p]):=λq b=>by
 rcases aZ.1 b with a|a
 ·exact h q a
 ·rw[aF.1 a];exact⟨d,c⟩
theorem W4(s:aC)(B:γ s<=4194303)(Vc v:ζ)(st:aC)(F:γ st<=1000)(k:Int)(C:k=1\/k=2)(y i:Nat)(l:δ PP)(a:Int)(D:0<=a/\a<=5000000)(b:cX s i v=μ)(H:γ l<=16)(x:TZ l):
  ∃p a',(0<=a'/\a'<=5000000)/\xc FU Vc st k (y+1) l v s i a 0=xc FU Vc st k y (l++[p]) Vc s (bQ st s (i+1)) a' (kX k l (sub s ((i+1:Nat)) (bQ st s (i+1)))).1/\cZ p.1=p.1/\γ p.1<=γ s/\
   ((kX k l (sub s ((i+1:Nat)) (bQ st s (i+1)))).1=0->p=(kX k l (sub s ((i+1:Nat)) (bQ st s (i+1)))).2/\a'=a):=by
 have f:=(Eu b).1;have o:=Jc st s (i+1);have n:=Er st s (i+1) f;obtain⟨p,m,d,G,e,g,u⟩:=IW s B (i+1) (bQ st s (i+1)) o n a D k C;rw[avn,aji,vU,aS,b,aV (cJ _ aA0 aA0),qG,azm s aA0 (i+1) f a 0 st F,aS,G,aS];rw[Cj l aA0 (λq r=>(x q r).2) p.1 aA0 (λq r=>(x q r).1) e,aS,FE k l];have j:(γ l+[p].length)*40<=140737488355328:=aC5;generalize sub s _ (bQ st s (i+1))=T at u⊢;by_cases t:(kX k [] T).1=0
 ·obtain⟨A,z⟩:=u t;rw[<-A,t];by_cases c:yK l p.1=0
  ·rw[aB c,aS,aV j,c];exact⟨p,m,d,Τ,e,g,λ_=>⟨Τ,z⟩⟩
  ·have I:On (s,(bQ st s (i+1)),m,0) ((i+1:Nat):Int) (yK l p.1)=(s,(bQ st s (i+1):Int),((i+1:Nat):Int),yK l p.1):=Τ;rw[aA c,Qa,aS,aS,aV j];exact⟨p,_,qM,Τ,e,g,λh=>absurd h c⟩
 ·have E:=(fld_5 k T).resolve_left t;have w:¬(5:ζ)=0:=by decide
  rw[E];by_cases c:yK l p.1=0
  ·rw[aB c,aS,aV j];exact⟨p,m,d,Τ,e,g,λh=>absurd h w⟩
  ·rw[aA c,Qa,aS,aS,aV j];exact⟨p,m,d,Τ,e,g,λh=>absurd h w⟩
theorem wV(s:aC)(Vc c:ζ)(st:aC)(k:Int)(d:Nat)(i:Int)(l:δ PP)(a:Int)(b:ζ)(h:LL FU (s,i,a,b) c=θ ν):xc FU Vc st k (d+1) l c s i a b=θ (l,s,i,a,b):=by rw[avn,aji,h,aS,aJ]
theorem pt(s:aC)(y:γ s<=4194303)(st:aC)(D:γ st<=1000)(a:Int)(C:0<=a/\a<=5000000)(n:Nat):∀i b f l,γ s-i<=n->n+1<b->n<f->i<=γ s->γ l<=16->TZ l->
  ∃l' i' a',(0<=a'/\a'<=5000000)/\xc FU 59 st 1 b l 59 s i a 0=θ (l',s,i',a',(iY st s f i l).1)/\γ l'<=17/\((iY st s f i l).1=0->l'=(iY st s f i l).2.2/\i'=((iY st s f i l).2.1)/\a'=a):=by
 induction n with
 |zero=>
  intro i b f l z A k j q o;obtain⟨b,rfl⟩:=cD b;obtain⟨f,rfl⟩:∃m,f=m+1:=⟨f-1,aA0⟩;have c:cX s i 59=ν:=by unfold cX;rw[aG aA0];rfl
  rw[wV _ _ _ _ _ _ _ _ _ _ (by rw[vU,c]),iY,c];exact⟨_,_,_,qM,Τ,aA0,λ_=>⟨Τ,Τ,Τ⟩⟩
 |succ n w=>
  intro i b f l z A k j q o;obtain⟨b,rfl⟩:=cD b;obtain⟨f,rfl⟩:∃m,f=m+1:=⟨f-1,aA0⟩;cases c:cX s i 59 with
  |false=>rw[wV _ _ _ _ _ _ _ _ _ _ (by rw[vU,c]),iY,c];exact⟨_,_,_,qM,Τ,aA0,λ_=>⟨Τ,Τ,Τ⟩⟩
  |true=>
   have g:=(Eu c).1;have x:=Jc st s (i+1);have e:=Er st s (i+1) g;obtain⟨p,G,B,E,v,F,u⟩:=W4 s y 59 59 st D 1 (.inl Τ) b i l a C c q o;rw[E,iY,c];by_cases d:(kX 1 l (sub s ((i+1:Nat):Int) (bQ st s (i+1):Int))).1=0
   ·obtain⟨t,r⟩:=u d;have:=uK d;rw[d,r,<-t];exact w (bQ st s (i+1)) b f _ aA0 aA0 aA0 e aA3 (o.snoc p v aA0)
   ·rw[aA d];obtain⟨b,rfl⟩:=cD b;rw[wV _ _ _ _ _ _ _ _ _ _ (Uc s _ _ _ d _)];exact⟨_,_,_,qM,Τ,by simp;omega,λh=>absurd h d⟩
theorem py(s:aC)(B:γ s<=4194303)(a:Int)(G:0<=a/\a<=5000000)(n:Nat):∀i b f d l,γ s-i<=n->n+1<b->n<f->i<=γ s->(i=γ s\/cX s i d=μ)->γ l<=16->TZ l->
  ∃l' i' a',(0<=a'/\a'<=5000000)/\xc FU 38 [38] 2 b l d s i a 0=θ (l',s,i',a',(yI s f i l).1)/\γ l'<=17/\((yI s f i l).1=0->l'=(yI s f i l).2):=by
 induction n with
 |zero=>
  intro i b f d l C D r q k u t;obtain⟨b,rfl⟩:=cD b;obtain⟨f,rfl⟩:∃m,f=m+1:=⟨f-1,aA0⟩;have j:cX s i d=ν:=by unfold cX;rw[aG aA0];rfl
  rw[wV _ _ _ _ _ _ _ _ _ _ (by rw[vU,j]),yI,aA aA0];exact⟨_,_,_,qM,Τ,aA0,λ_=>rfl⟩
 |succ n z=>
  intro i b f d l C D r q k u t;obtain⟨b,rfl⟩:=cD b;obtain⟨f,rfl⟩:∃m,f=m+1:=⟨f-1,aA0⟩;by_cases c:i<γ s
  ·have j:cX s i d=μ:=k.resolve_left aA0;have A:=Jc [38] s (i+1);have o:=Er [38] s (i+1) c;obtain⟨p,K,F,I,y,J,x⟩:=W4 s B 38 d [38] aA1 2 (.inr Τ) b i l a G j u t;rw[I,yI,aB c];by_cases g:(kX 2 l (sub s ((i+1:Nat):Int) (bQ [38] s (i+1):Int))).1=0
   ·obtain⟨w,v⟩:=x g;have:=uK g;rw[g,v,<-w];refine z (bQ [38] s (i+1)) b f 38 _ aA0 aA0 aA0 o ?_ aA3 (t.snoc p y aA0);by_cases E:bQ [38] s (i+1)=γ s
    ·exact .inl E
    ·have e:=bhe [38] s (i+1) c aA0;refine .inr ?_;unfold cX;rw[aH aA0];unfold fN at e;rw[GY,lF,gM]at e;have H:=eq_of_beq e;rw[<-H];rfl
   ·rw[aA g];obtain⟨b,rfl⟩:=cD b;rw[wV _ _ _ _ _ _ _ _ _ _ (Uc s _ _ _ g _)];exact⟨_,_,_,qM,Τ,by simp;omega,λh=>absurd h g⟩
  ·have j:cX s i d=ν:=by unfold cX;rw[aG aA0];rfl
   rw[wV _ _ _ _ _ _ _ _ _ _ (by rw[vU,j]),yI,aA c];exact⟨_,_,_,qM,Τ,aA0,λ_=>rfl⟩
theorem NO(s:aC)(c:γ s<=4194303)(st:aC)(j:γ st<=1000)(a:Int)(g:0<=a/\a<=5000000)(i:Nat)(f:i<=γ s):
  ∃l' i' a',(0<=a'/\a'<=5000000)/\Zs FU (s,i,a,0) 59 59 st 1=θ (xP l',(s,i',a',(iY st s (γ s+1) i []).1))/\((iY st s (γ s+1) i []).1=0->l'=(iY st s (γ s+1) i []).2.2/\i'=((iY st s (γ s+1) i []).2.1)/\a'=a):=by
 obtain⟨l',i',a',b,e,k,h⟩:=pt s c st j a g (γ s) i FU (γ s+1) [] aA0 aA5 aA0 f aA1 (λp d=>by cases d);unfold Zs;rw[e,aS];rw[qV l' aA0];exact⟨l',i',a',b,Τ,h⟩
theorem pw(s:aC)(d:γ s<=4194303)(a:Int)(h:0<=a/\a<=5000000)(i:Nat)(g:i<=γ s)(b:i=γ s\/cX s i 63=μ):
  ∃l' r',(0<=r'.2.2.1/\r'.2.2.1<=5000000)/\Zs FU (s,i,a,0) 63 38 [38] 2=θ (xP l',r')/\r'.2.2.2=(yI s (γ s+1) i []).1/\((yI s (γ s+1) i []).1=0->l'=(yI s (γ s+1) i []).2):=by
 obtain⟨l',i',a',c,e,k,j⟩:=py s d a h (γ s) i FU (γ s+1) 63 [] aA0 aA5 aA0 g b aA1 (λp f=>by cases f);unfold Zs;rw[e,aS];rw[qV l' aA0];exact⟨l',_,c,Τ,Τ,j⟩
theorem zE(r:RR)(c:¬r.2.2.2=0)(f g:ζ)(st:aC)(k:Int):Zs FU r f g st k=θ ([],r):=by
 obtain⟨s,i,a,b⟩:=r;obtain⟨m,d⟩:∃m,FU=m+1:=⟨FU-1,by rw[eG]⟩;have e:xc FU g st k FU [] f s i a b=θ ([],s,i,a,b):=by have:=wV s g f st k m i [] a b (Uc s i a b c f);rw[<-d]at this;exact this
 unfold Zs;rw[e,aS];rfl
theorem CY(s:aC):∀f i l,i<=γ s->γ s-i<f->(i=γ s\/cX s i 59=μ\/cX s i 63=μ)->(iY [59,63] s f i l).1=0->(iY [59,63] s f i l).2.1=γ s\/cX s (iY [59,63] s f i l).2.1 63=μ
 |0,i,l,p,o,k,b=>by omega
 |f+1,i,l,p,o,k,b=>by
  rw[iY]at b⊢;by_cases d:cX s i 59=μ
  ·rw[aB d]at b⊢;have c:=(Eu d).1;have m:=Jc [59,63] s (i+1);have e:=Er [59,63] s (i+1) c;by_cases g:(kX 1 l (sub s ((i+1:Nat):Int) (bQ [59,63] s (i+1):Int))).1=0
   ·rw[aB g]at b⊢;refine CY s f _ _ e aA0 ?_ b;by_cases n:bQ [59,63] s (i+1)=γ s
    ·exact .inl n
    ·have a:=bhe [59,63] s (i+1) c aA0;refine .inr ?_;unfold cX;rw[aH aA0,AO];unfold fN at a;rw[GY,GY,lF,gM,jC]at a;rcases a with h|h
     ·left;have j:=eq_of_beq h;rw[<-j];rfl
     ·right;have j:=eq_of_beq h;rw[<-j];rfl
   ·rw[aA g]at b;exact absurd b g
  ·rw[aA d];rcases k with h|h|h
   ·exact .inl h
   ·exact absurd h d
   ·exact .inr h
theorem tl(s:aC)(i:Nat)(k:i<=γ s)(h:(jP s i).1=0):(jP s i).2.2.2=γ s\/cX s (jP s i).2.2.2 59=μ\/cX s (jP s i).2.2.2 63=μ:=by
 have l:=Ap s i k;unfold jP at h⊢;generalize fU s i=e at l h⊢;split
 ·rename_i x;rw[aB x]at h;exact absurd h aA1
 ·rename_i x;rw[aA x]at h;split
  ·rename_i y;rw[aB y]at h;have b:=(Eu y).1;have j:=Er [59,63] s (e+1) b;split
   ·dsimp only;by_cases c:bQ [59,63] s (e+1)=γ s
    ·exact .inl c
    ·have a:=bhe [59,63] s (e+1) b aA0;refine .inr ?_;unfold cX;rw[aH aA0,AO];unfold fN at a;rw[GY,GY,lF,gM,jC]at a;rcases a with h|h
     ·left;have g:=eq_of_beq h;rw[<-g];rfl
     ·right;have g:=eq_of_beq h;rw[<-g];rfl
   ·rename_i z;rw[aA z]at h;exact absurd h z
  ·rename_i y;rw[aA y]at h;split
   ·rename_i z;rw[aB z]at h;exact absurd h aA1
   ·rename_i z;by_cases c:e=γ s
    ·exact .inl c
    ·refine .inr ?_;cases f:cX s e 59 with
     |true=>exact .inl Τ
     |false=>
      cases d:cX s e 63 with
      |true=>exact .inr Τ
      |false=>exact absurd ⟨aA0,f,d⟩ z
theorem W9(d:η)(c:ζ)(b:η)(e:b=ν):((WD FU c).bind λa=>bif a then θ μ else bif (!d)then(if c=42 then θ μ else if c=35 then θ μ else bif d then θ b else θ ν)else bif d then θ b else θ ν)=θ (lN d c):=by subst e;revert c;cases d<;>exact hY _ aA4
theorem BY(s:aC)(z:γ s<=4194303)(m:Int)(e:Nat)(B:e<=γ s)(f:η)(n:Nat):∀k g (b:aC),k+n=e->n<g->γ b<=k->(f=μ->m<k)->
  ∃j,abw FU (s,m,0,0) e f g b k=θ j/\
   (match xQ f (sub s k e)with
   |some d=>j=.inl (b++d)
   |none=>∃a,(0<=a/\a<=5000000)/\j=.inr ([],(s,m,a,5))):=by
 induction n with
 |zero=>intro k g b v w x i;obtain⟨g,rfl⟩:=cD g;obtain rfl:k=e:=aA0;rw[aiu,aeg,aA aA0,jk];exact⟨_,Τ,by simp only[xQ,gV]⟩
 |succ n u=>
  intro k g b v w x i;obtain⟨g,rfl⟩:=cD g;have r:sub s (k:Int) (e:Int)=Υ s (k:Int)::sub s ((k+1:Nat):Int) (e:Int):=by unfold sub;simp;rw[Pb s k aA0,show e-k=(e-(k+1))+1 by omega,eT]
  have t:((WD FU (Υ s (k:Int))).bind λ(l:η)=>bif l then θ μ else bif (!f)then(if(Υ s (k:Int))=(42:ζ)then θ μ else if(Υ s (k:Int))=(35:ζ)then θ μ else bif f then θ (decide ((k:Int)=m))else θ ν)else bif f then θ (decide ((k:Int)=m))else θ ν)=θ (lN f (Υ s (k:Int))):=by
   cases f with
   |true=>exact W9 μ _ _ (aG (by have:=i Τ;omega))
   |false=>exact W9 ν _ ν Τ
  rw[aiu,aeg,aB aA0,aV aE2];rw[t,aS,r];unfold xQ;cases C:lN f (Υ s (k:Int))with
  |true=>
   rw[aV aA3,aV (cJ _ aA0 aA0)];obtain⟨j,y,q⟩:=u (k+1) g (b++[Υ s (k:Int)]) aA0 aA0 aA3 (λh=>by have:=i h;omega);refine⟨j,y,?_⟩;cases o:xQ f (sub s ((k+1:Nat):Int) (e:Int))with
   |none=>rw[o]at q;exact q
   |some d=>rw[o]at q;rw[q,nW];rfl
  |false=>
   have p:fN [45,46,40,41] (Υ s (k:Int))=ef (Υ s (k:Int)):=by generalize Υ s (k:Int)=c;revert c;exact hY _ aA4
   rw[aJ,awo _ _ aA1,p,aS];cases A:ef (Υ s (k:Int))with
   |true=>rw[aV (cJ _ aA0 aA0),qG];exact u _ g b aA0 aA0 aA0 (λh=>by have:=i h;omega)
   |false=>exact⟨_,Τ,_,aA0,Τ⟩
theorem BZ(s:aC)(A:γ s<=4194303)(i:Nat)(B:i<=γ s):∃u r,aex FU (s,i,0,0)=θ (u,r)/\r.1=s/\(0<=r.2.2.1/\r.2.2.1<=5000000)/\r.2.2.2=(jU s i).1/\((jU s i).1=0->u=(jU s i).2/\r=(s,(bQ [59] s i:Int),0,0)):=by
 have E:=Jc [59] s i;have l:=Er [59] s i B;have v:¬(5:ζ)=0:=aA1
 have p:∀(d out:aC) (m:Int),m=(γ d:Int)->∃u r,((if m<(1:Int)then((Jf FU (s,(i:Int),0,0) (i:Int) (5:ζ)).bind λ(e:RR)=>θ (e.1,e.2.1,e.2.2.1,e.2.2.2))else θ (s,(i:Int),(0:Int),(0:ζ))).bind λ(b:RR)=>(if(30:Int)<m then((Jf FU b (i:Int) (4:ζ)).bind λ(c:RR)=>θ (c.1,c.2.1,c.2.2.1,c.2.2.2))else θ (b.1,b.2.1,b.2.2.1,b.2.2.2)).bind λ(f:RR)=>θ (out,((f.1,((bQ [59] s i:Nat):Int),f.2.2.1,f.2.2.2):RR)))=θ (u,r)/\r.1=s/\(0<=r.2.2.1/\r.2.2.1<=5000000)/\r.2.2.2=(if d=[]then((5,[]):ζ×aC)else if 30<γ d then(4,[])else(0,out)).1/\((if d=[]then((5,[]):ζ×aC)else if 30<γ d then(4,[])else(0,out)).1=0->u=(if d=[]then((5,[]):ζ×aC)else if 30<γ d then(4,[])else(0,out)).2/\r=(s,(bQ [59] s i:Int),0,0)):=by
  intro d out m q;by_cases t:d=[]
  ·have H:m=0:=by rw[q,t];rfl
   have C:On (s,(i:Int),0,0) (i:Int) 5=(s,(i:Int),(i:Int),5):=Τ;rw[aB aA0,Qa,C,aS,aS,aA aA0,aS,aB t];exact⟨_,_,Τ,Τ,qM,Τ,λh=>absurd h v⟩
  ·have J:=cA.2 t;rw[aA aA0,aS,aA t];by_cases o:30<γ d
   ·have C:On (s,(i:Int),0,0) (i:Int) 4=(s,(i:Int),(i:Int),4):=Τ;rw[aB aA0,Qa,aS,aB o];exact⟨_,_,Τ,Τ,qM,Τ,λh=>absurd h (show¬(4:ζ)=0 by decide)⟩
   ·rw[aA aA0,aA o];exact⟨_,_,Τ,Τ,qM,Τ,λ_=>⟨Τ,Τ⟩⟩
 unfold aex jU;rw[azm s aA0 i B 0 0 _ aA1,aS,vU,aS];dsimp only;cases n:cX s i 43 with
 |true=>
  have w:=(Eu n).1;have iL:=(Eu n).2;have F:=qR [59] s i w (by rw[iL];decide);have D:=Jc [59] s (i+1);obtain⟨m,q⟩:∃m,FU=m+1:=⟨FU-1,by rw[eG]⟩;have step:abw FU (s,(i:Int),0,0) (bQ [59] s i:Int) μ FU [] (i:Int)=abw FU (s,(i:Int),0,0) (bQ [59] s i:Int) μ m [43] ((i+1:Nat):Int):=by rw[show abw FU (s,(i:Int),0,0) (bQ [59] s i:Int) μ FU [] (i:Int)=abw FU (s,(i:Int),0,0) (bQ [59] s i:Int) μ (m+1) [] (i:Int)by rw[<-q]];have y:WD FU 43=θ ν:=aA4;rw[aiu,aeg,aB aA0,aV aE2];dsimp only;rw[iL,y,aS,aJ,aH rfl,aV (cJ _ aA0 aA0)];rfl
  obtain⟨j,z,g⟩:=BY s A (i:Int) (bQ [59] s i) l μ (bQ [59] s i-(i+1)) (i+1) m [43] aA0 (by rw[eG]at q;omega) aD3 (λ_=>by omega);rw[step,z,aS,aB rfl];cases k:xQ μ (sub s ((i+1:Nat):Int) ((bQ [59] s i:Nat):Int))with
  |none=>rw[k]at g;obtain⟨a,x,rfl⟩:=g;rw[GX];exact⟨_,_,Τ,Τ,qM,Τ,λh=>absurd h v⟩
  |some d=>rw[k]at g;dsimp only at g;have I:=Dx μ _ _ k;have G:=sub_le s ((i+1:Nat):Int) ((bQ [59] s i:Nat):Int);subst g;rw[qL];dsimp only;rw[aV (cJ _ (by simp only[cR,dT];omega) aA3)];have:=p d ([43]++d) ((γ ([43]++d))-1) aD0;rw[aB rfl];exact this
 |false=>
  obtain⟨j,z,g⟩:=BY s A i _ l ν (bQ [59] s i-i) i FU [] aA0 aA5 aA2 (λh=>by cases h);rw[z,aS,aA aA1];cases k:xQ ν _ with
  |none=>rw[k]at g;obtain⟨a,x,rfl⟩:=g;rw[GX];exact⟨_,_,Τ,Τ,qM,Τ,λh=>absurd h v⟩
  |some d=>rw[k]at g;dsimp only at g;subst g;rw[qL];dsimp only;rw[yL];exact p d d (γ d:Int) Τ
theorem rfRest(s:aC)(o:γ s<=4194303)(b g h:aC)(a:Int)(i:Nat)(l:i<=γ s)(j:i=γ s\/cX s i 59=μ\/cX s i 63=μ):∃x y,Zs FU (s,i,0,0) 59 59 [59,63] 1=θ x/\Zs FU x.2 63 38 [38] 2=θ y/\(0<=y.2.2.2.1/\y.2.2.2.1<=5000000)/\y.2.2.2.2=(wC [59,63] s b g h a i).1/\((wC [59,63] s b g h a i).1=0->(b,g,h,a,x.1,y.1)=(wC [59,63] s b g h a i).2):=by
 obtain⟨D,u,A,m,n,v⟩:=NO s o [59,63] aA1 0 aA1 i l;unfold wC;by_cases c:(iY [59,63] s (γ s+1) i []).1=0
 ·obtain⟨t,r,q⟩:=v c;subst t r q;rw[aB c];rw[c]at n;have k:=JD _ s _ i [] l c;have d:=CY s _ i [] l aA0 j c;obtain⟨C,B,e,z,p,w⟩:=pw s o 0 aA1 _ k d;refine⟨_,_,n,z,e,?_⟩;by_cases f:(yI s (γ s+1) (iY [59,63] s (γ s+1) i []).2.1 []).1=0
  ·rw[aB f];refine⟨p.trans f,λ_=> ?_⟩;rw[w f]
  ·rw[aA f];exact⟨p,λh=>absurd h f⟩
 ·rw[aA c];have:=zE (s,u,A,(iY _ s _ i []).1) c 63 38 [38] 2;exact⟨_,_,n,this,m,Τ,λh=>absurd h c⟩
theorem CA(r:RR)(a:¬r.2.2.2=0):∃x y,Zs FU r 59 59 [59,63] 1=θ x/\Zs FU x.2 63 38 [38] 2=θ y/\y.2.2.2.1=r.2.2.1/\y.2.2.2.2=r.2.2.2:=
 ⟨_,_,zE r a 59 59 _ 1,zE r a 63 38 _ 2,Τ,Τ⟩
theorem W6(r:RR)(a:¬r.2.2.2=0):wv FU r=θ ([],r):=by unfold wv;rw[aA a]
theorem pq(s:aC)(H:γ s<=4194303)(i:Nat)(I:i<=γ s)(a:aC):∃u h p x y,ale FU (s,i,0,0)=θ u/\wv FU u.2=θ h/\adc FU h.2=θ p/\Zs FU p.2 59 59 [59,63] 1=θ x/\Zs FU x.2 63 38 [38] 2=θ y/\(0<=y.2.2.2.1/\y.2.2.2.1<=5000000)/\
  y.2.2.2.2=(if(fW s i).1=0 then wC [59,63] s a (fW s i).2.1 (fW s i).2.2.1 (fW s i).2.2.2.1 (fW s i).2.2.2.2 else((fW s i).1,iC)).1/\
  ((if(fW s i).1=0 then wC [59,63] s a (fW s i).2.1 (fW s i).2.2.1 (fW s i).2.2.2.1 (fW s i).2.2.2.2 else((fW s i).1,iC)).1=0->(a,u.1,h.1,p.1,x.1,y.1)=(if(fW s i).1=0 then wC [59,63] s a (fW s i).2.1 (fW s i).2.2.1 (fW s i).2.2.2.1 (fW s i).2.2.2.2 else((fW s i).1,iC)).2):=by
 obtain⟨u,r,E,K,C,t⟩:=SR s H i I;have go:∀m j,j<=γ s->∃h p x y,wv FU (s,j,0,0)=θ h/\adc FU h.2=θ p/\Zs FU p.2 59 59 [59,63] 1=θ x/\Zs FU x.2 63 38 [38] 2=θ y/\(0<=y.2.2.2.1/\y.2.2.2.1<=5000000)/\
   y.2.2.2.2=(if(jP s j).1=0 then wC [59,63] s a m (jP s j).2.1 (jP s j).2.2.1 (jP s j).2.2.2 else((jP s j).1,iC)).1/\
   ((if(jP s j).1=0 then wC [59,63] s a m (jP s j).2.1 (jP s j).2.2.1 (jP s j).2.2.2 else((jP s j).1,iC)).1=0->(a,m,h.1,p.1,x.1,y.1)=(if(jP s j).1=0 then wC [59,63] s a m (jP s j).2.1 (jP s j).2.2.1 (jP s j).2.2.2 else((jP s j).1,iC)).2):=by
  intro m j B;obtain⟨h,p,l,k,L,z,G,J⟩:=px s aA0 j B;by_cases b:(jP s j).1=0
  ·obtain⟨t1,t2,t3⟩:=J b;have A:=JW s j B;have o:=tl s j B b;obtain⟨x,y,g,f,d,e,q⟩:=rfRest s H a m (jP s j).2.1 (jP s j).2.2.1 (jP s j).2.2.2 A o;rw[aB b];refine⟨h,p,x,y,l,k,by rw[t3];exact g,f,d,e,λn=> ?_⟩;rw[t1,t2];exact q n
  ·rw[aA b];obtain⟨x,y,g,f,d,e⟩:=CA p.2 (by rw[G];exact b);exact⟨h,p,x,y,l,k,g,f,by rw[d];exact z,by rw[e,G],λn=>absurd n b⟩
 unfold fW;by_cases c:bQ [64] s i<γ s
 ·rw[aB c]at t;obtain⟨v,F⟩:=t;rw[aB c];by_cases b:(mJ (sub s i (bQ [64] s i))).1=0
  ·obtain⟨d1,d2⟩:=F b;obtain⟨h,p,x,y,l,k,g,f,d,e,q⟩:=go u _ c;rw[aB b];subst d2;rw[<-d1];exact⟨(u,_),h,p,x,y,E,l,k,g,f,d,e,q⟩
  ·rw[aA b];rw[aA b];have w:¬r.2.2.2=0:=by rw[v];exact b
   have l:=W6 r w;obtain⟨s',i',a',D⟩:=r;have k:=Ta s' i' a' D w;obtain⟨x,y,g,f,d,e⟩:=CA _ w;exact⟨(u,_),_,_,x,y,E,l,k,g,f,by rw[d];exact C,by rw[e];exact v,λn=>absurd n b⟩
 ·rw[aA c]at t;obtain⟨v,F⟩:=t;rw[aA c];subst v F;obtain⟨h,p,x,y,l,k,g,f,d,e,q⟩:=go [] i I;exact⟨([],_),h,p,x,y,E,l,k,g,f,d,e,q⟩
theorem CI(st s b d h:aC)(a:Int)(i:Nat)(c:¬(wC st s b d h a i).1=0):(wC st s b d h a i).2=iC:=by
 unfold wC at c⊢;split
 ·rename_i f;rw[aB f]at c;split
  ·rename_i e;rw[aB e]at c;exact absurd Τ c
  ·rfl
 ·rfl
theorem SS(s:aC)(l:γ s<=4194303)(a g:aC)(c:Nat)(j:c<γ s):∃x,Zs FU (s,(bQ [59] s (c+1)),0,0) 59 59 [59] 1=θ x/\(0<=x.2.2.2.1/\x.2.2.2.1<=5000000)/\x.2.2.2.2=(wC [59] s a g [] 0 (bQ [59] s (c+1))).1/\((wC [59] s a g [] 0 (bQ [59] s (c+1))).1=0->(a,g,[],0,x.1,[])=(wC [59] s a g [] 0 (bQ [59] s (c+1))).2):=by
 have e:=Er [59] s (c+1) j;obtain⟨u,v,w,i,q,o⟩:=NO s l [59] aA1 0 aA1 (bQ [59] s (c+1)) e;refine⟨_,q,i,?_⟩;unfold wC;by_cases d:(iY [59] s (γ s+1) (bQ [59] s (c+1)) []).1=0
 ·obtain⟨k,t,r⟩:=o d;have f:=Xq s (γ s+1) (bQ [59] s (c+1)) [] e aA0 (by
   by_cases m:bQ [59] s (c+1)=γ s
   ·exact .inl m
   ·have b:=bhe [59] s (c+1) j aA0;refine .inr ?_;unfold cX;rw[aH aA0];unfold fN at b;rw[GY,lF,gM]at b;have p:=eq_of_beq b;rw[<-p];rfl) d
  have n:yI s (γ s+1) (γ s) []=(0,[]):=by rw[yI,aA (Nat.lt_irrefl _)]
  rw[aB d,f,n];refine⟨d,λ_=> ?_⟩;rw[k];rfl
 ·rw[aA d];exact⟨Τ,λh=>absurd h d⟩
theorem Kr(s:aC):∃a,(0<=a/\a<=5000000)/\aym FU s=θ ((uS s).2,a,(uS s).1):=by
 unfold aym uS;by_cases B:1024<γ s
 ·rw[aB aA0,aB B];exact⟨_,aB9,Τ⟩
 ·rw[aA aA0,aA B];have n:=Er [58] s 0 (eJ _);have I:XR FU (s,0,0,0) [58]=θ ((bQ [58] s 0:Nat):Int):=azm s aA0 0 (eJ _) 0 0 [58] aA1;rw[I,aS];generalize bQ [58] s 0=c at n⊢;by_cases j:c<γ s
  ·rw[aA aA0,aB j,aV aA0,tT,XM _ aB5,aS,aV (cJ _ aA0 aA0),qG];generalize cZ (s.take c)=b;have q:(if b=([115,105,112]:aC)then θ (decide (b=([115,105,112]:aC)))else θ (decide (b=([115,105,112,115]:aC))))=θ (decide (b=XT\/b=Zv)):=by
    by_cases k:b=XT
    ·rw[aB (show b=([115,105,112]:aC)from k),aH (show b=([115,105,112]:aC)from k),aH (Or.inl k)]
    ·rw[aA (show¬b=([115,105,112]:aC)from k)];congr 1;rw[dE];exact⟨Or.inr,λh=>h.resolve_left k⟩
   rw[q,aS];by_cases f:b=XT\/b=Zv
   ·obtain⟨u,h,p,x,y,v,t,H,G,F,o,i,m⟩:=pq s aA0 (c+1) j b;rw[aH f,aO,aB f,v,aS,t,aS,H,aS,G,aS,F,aS,aS,qL];dsimp only;have d:¬(if(fW s (c+1)).1=0 then wC [59,63] s b (fW s (c+1)).2.1 (fW s (c+1)).2.2.1 (fW s (c+1)).2.2.2.1 (fW s (c+1)).2.2.2.2 else((fW s (c+1)).1,iC)).1=0->(if(fW s (c+1)).1=0 then wC [59,63] s b (fW s (c+1)).2.1 (fW s (c+1)).2.2.1 (fW s (c+1)).2.2.2.1 (fW s (c+1)).2.2.2.2 else((fW s (c+1)).1,iC)).2=iC:=by
     intro A;split
     ·rename_i D;rw[aB D]at A;exact CI _ _ _ _ _ _ _ A
     ·rfl
    generalize(if(fW s (c+1)).1=0 then wC [59,63] s b (fW s (c+1)).2.1 (fW s (c+1)).2.2.1 (fW s (c+1)).2.2.2.1 (fW s (c+1)).2.2.2.2 else((fW s (c+1)).1,iC))=R at i m d⊢;by_cases g:R.1=0
    ·rw[aB (i.trans g),g,<-m g];exact⟨_,aB9,Τ⟩
    ·rw[aA (λh=>g (i.symm.trans h)),d g,i];exact⟨_,aB9,Τ⟩
   ·rw[aG f,aJ,aA f];by_cases e:b=xg
    ·obtain⟨u,r,v,J,o,w,E⟩:=BZ s aA0 (c+1) j;rw[aB (show b=[116,101,108]from e),aB e,v,aS];by_cases g:(jU s (c+1)).1=0
     ·obtain⟨rfl,rfl⟩:=E g;obtain⟨x,t,C,i,m⟩:=SS s aA0 b (jU s _).2 c j;rw[aB g,t,aS,aS,qL];dsimp only;have d:=CI [59] s b (jU s (c+1)).2 [] 0 (bQ [59] s (c+1));generalize wC _ s b (jU s _).2 [] 0 _=R at i m d⊢;by_cases l:R.1=0
      ·rw[aB (i.trans l),l,<-m l];exact⟨_,aB9,Τ⟩
      ·rw[aA (λh=>l (i.symm.trans h)),d l,i];exact⟨_,aB9,Τ⟩
     ·have z:¬r.2.2.2=0:=by rw[w];exact g
      rw[aA g,zE r z,aS,aS,qL];dsimp only;rw[aA z,w];exact⟨_,aB9,Τ⟩
    ·rw[aA (show¬b=[116,101,108]from e),aA e];exact⟨_,aB9,Τ⟩
  ·rw[aB aA0,aA j];exact⟨_,aB9,Τ⟩
open Go.Lib renaming decDigits → GW, hasPrefix → Jg, itoa → iS, trimPrefix → jT
theorem Ej(s:aC):FX s= !s.any jD:=by unfold FX;rw[GR]
theorem IX(k:Int)(B:k=1\/k=2)(l:δ PP)(H:aR l<=16)(j:LS k l)(n:∀p∈l,aR p.1<=4194304/\γ p.2.1<=4194304)(q:δ PP):∀p c,l=p++q->aR q<c->
  aou FU l k c (γ p)=θ (.inl ()):=by
 induction q with
 |nil=>intro p c h m;obtain⟨c,rfl⟩:=cD c;rw[bdl,aru,aA aA7]
 |cons a q A=>
  intro p c h m;obtain⟨c,rfl⟩:=cD c;have g:=bM aR h;simp at g m;have f:(0:Int)<=(aR p:Int)/\(aR p:Int)<(aR l:Int):=aA0;have C:el l (aR p:Int)=a:=aB3;have r:a∈l:=aA7;obtain⟨z,y,w,v,u,t⟩:=j.2 a r;obtain⟨s,G⟩:=n a r;have i:l.take (bR (aR p:Int))=p:=by rw[tT,h,XA]
  have e:=V5 p q a (by rw[<-h];exact j.1) aA0;have D:WC FU p a.1=θ 0:=by rw[Cj p aA0 (λx hx=>(n x (by rw[h];simp[hx])).1) a.1 s (λx hx=>(j.2 x (by rw[h];simp[hx])).2.1) y,e]
  have b:=A (p++[a]) c aA7 aA0;rw[show(γ (p++[a]))=aR p+1 by simp]at b;have F:(!a.1.any jD)=μ:=by rw[<-Ej];exact w
  have E:(!a.2.1.any jD)=μ:=by rw[<-Ej];exact v
  rw[bdl,aru,aB f.2,aV f,aV f,C,i,aA z,Lg _ s,aS,F,iV,aJ,Lg _ G,aS,E,iV,aJ,D,aV aA0];rcases B with rfl|rfl
  ·have o:=u Τ;by_cases d:a.2.1=[]
   ·rw[d]at o;have o':a.2.2=ν:=o;rw[o',aB d,aJ,aV (cJ _ aA0 aA0)];exact b
   ·rw[aG d]at o;have o':a.2.2=μ:=o;rw[o',iV,aJ,aA d,aV (cJ _ aA0 aA0)];exact b
  ·rw[t rfl,iV,aJ];by_cases d:a.2.1=[]
   ·rw[aB d,aV (cJ _ aA0 aA0)];exact b
   ·rw[aA d,aV (cJ _ aA0 aA0)];exact b
theorem Kt(k:Int)(b:k=1\/k=2)(l:δ PP)(a:aR l<=16)(d:LS k l)(c:∀p∈l,aR p.1<=4194304/\γ p.2.1<=4194304):ayj FU l k=θ μ:=by unfold ayj;have h:aou FU l k FU 0=θ _:=IX k b l a d c l [] FU Τ aA5;rw[h,aS,qL]
theorem W5(l:δ PP)(n:aR l<=1000)(k:∀p∈l,cZ p.1=p.1/\γ p.1<=4194304)(q:δ PP):∀p b,l=p++q->aR q<b->
  alf FU l b p (γ p)=θ l:=by
 induction q with
 |nil=>intro p b h f;obtain⟨b,rfl⟩:=cD b;rw[bat,anw,aA aA7,h,gV]
 |cons a q i=>intro p b h f;obtain⟨b,rfl⟩:=cD b;have d:=bM aR h;simp at d f;have c:(0:Int)<=(aR p:Int)/\(aR p:Int)<(aR l:Int):=aA0;have j:el l (aR p:Int)=a:=aB3;obtain⟨g,m⟩:=k a aA7;have e:=i (p++[a]) b aA7 aA0;rw[show(γ (p++[a]):Int)=(aR p:Int)+1 by simp]at e;rw[bat,anw,aB c.2,aV c,aV c,j,XM _ aA0,aS,g];rw[aV aA3,aV (cJ _ aA0 aA0)];exact e
theorem CF(l:δ PP)(b:aR l<=16)(a:∀p∈l,cZ p.1=p.1/\γ p.1<=4194304):ate FU l=θ (xP l):=by unfold ate;have h:alf FU l FU [] 0=θ l:=W5 l aA0 a l [] FU Τ aA5;rw[h,aS,qV l aA0,aS]
theorem po(a:aC)(h:aR a<=4194303)(g:jQ a=μ):art FU a=θ μ:=by obtain⟨t1,t2⟩:=telA a [] a [] aA2 (λc i=>by cases i) g;rw[tU]at t1;obtain⟨u,r,k,m,j,l,d⟩:=BZ a h 0 (eJ _);have b:aex FU (a,0,0,0)=θ (u,r):=k;obtain⟨f,e⟩:=d (by rw[t1]);unfold art;rw[b,aS,e,f,t1];rw[aH rfl];rfl
theorem VN(u:aC)(h:jQ u=μ):∀c∈u,jD c=ν:=by
 unfold jQ at h;simp only[Bv]at h;have g:=h.2;intro c f;have i:∀d c,lN d c=μ->jD c=ν:=by intro d;cases d<;>exact hY _ aA4
 cases u with
 |nil=>cases f
 |cons a u=>
  by_cases b:a=43
  ·subst b;rcases aQ.1 f with h|h
   ·rw[h];decide
   ·exact i _ c (aT.1 g c h)
  ·have j:¬43=a:=λe=>b e.symm;have k:jT (a::u) [43]=a::u:=by unfold jT Jg;simp[j]
   rw[k]at g;exact i _ c (aT.1 g c f)
theorem gj(u:aC)(h:jQ u=μ):aR u<=31:=by
 unfold jQ at h;simp at h;have d:=h.1.2;cases u with
 |nil=>exact eJ _
 |cons a u=>
  by_cases b:a=43
  ·subst b;have c:jT (43::u) [43]=u:=by unfold jT Jg;simp
   rw[c]at d;rw[dT];omega
  ·have f:¬43=a:=λe=>b e.symm;have c:jT (a::u) [43]=a::u:=by unfold jT Jg;simp[f]
   rw[c]at d;omega
theorem CE(u:UU)(a:Good u)(t:Sml u):bah FU u=θ (u,0):=by
 obtain⟨y,s,r,n,m⟩:=t;have e:cZ u.1=u.1:=by rcases a.sch with⟨h|h,_⟩|⟨h,_⟩<;>rw[h]<;>rfl
 have i:∀p∈u.2.2.2.2.1,cZ p.1=p.1/\γ p.1<=4194304:=λp d=>⟨(a.ps.2 p d).2.1,(n p d).1⟩;have g:∀p∈u.2.2.2.2.2,cZ p.1=p.1/\γ p.1<=4194304:=λp d=>⟨(a.hs.2 p d).2.1,(m p d).1⟩
 have f:(!u.2.1.any jD)=μ:=by
  rcases a.sch with⟨_,_,_,_,h⟩|⟨_,_,_,_,h⟩
  ·rw[<-Ej];exact h
  ·have v:u.2.1.any jD=ν:=by rw[eO];intro c x;have w:=VN u.2.1 h c x;rw[w];decide
   rw[v];rfl
 unfold bah;rw[XM _ aA0,aS,e,Kt 1 (.inl rfl) _ a.pl a.ps n,aS,iV,aJ,Kt 2 (.inr rfl) _ a.hl a.hs m,aS,iV,aJ,Lg _ s,aS,aS,f,iV,aJ,CF _ a.pl i,aS,CF _ a.hl g,aS,a.pi,a.hi];rcases a.sch with⟨h,l,q,o,k⟩|⟨h,l,q,o,k⟩
 ·have b:(if u.1=[115,105,112]then θ (decide (u.1=[115,105,112]))else θ (decide (u.1=[115,105,112,115])))=θ μ:=by rcases h with h|h<;>rw[h]<;>rfl
  rw[b,aS,aO,uB _ r,aS,l];rw[iV,aJ,aA aA0,aG aA0,aS,aJ]
 ·have b:(if u.1=[115,105,112]then θ (decide (u.1=[115,105,112]))else θ (decide (u.1=[115,105,112,115])))=θ ν:=by rw[h];rfl
  have j:(aR u.2.2.2.2.2:Int)=0:=by rw[o];rfl
  rw[b,aS,aJ,aB (show u.1=([116,101,108]:aC)from h),aB l,aB q,aB j,po _ (by have:=gj _ k;omega) k,aS,aS,aO]
theorem W7(s:aC)(r:aR s<=4194304)(k:Int)(l:k=0\/k=1\/k=2)(q:aC):∀p d,s=p++q->aR q<d->
  amm FU s k d (jW k p) (γ p)=θ (jW k s):=by
 induction q with
 |nil=>intro p d h f;obtain⟨d,rfl⟩:=cD d;rw[bbv,aqd,aA aA7,h,gV]
 |cons c q j=>
  intro p d h f;obtain⟨d,rfl⟩:=cD d;have e:=bM aR h;simp at e f;have b:(0:Int)<=(aR p:Int)/\(aR p:Int)<(aR s:Int):=aA0;have n:Υ s (aR p:Int)=c:=by rw[h];simp[Υ]
  have a:=j (p++[c]) d aA7 aA0;have m:=QH k p;have o:jW k (p++[c])=jW k p++KJ k c:=by unfold jW;rw[GZ,LO]
  rw[show(γ (p++[c]):Int)=(aR p:Int)+1 by simp,o]at a;rw[bbv,aqd,aB b.2,aV b,NP _ k l,n,aS];unfold KJ at a;cases g:Fv c k with
  |true=>rw[g]at a;rw[aV b,aV aA3,aV (cJ _ aA0 aA0)];exact a
  |false=>rw[g]at a;have t:=fH c;have i:(γ ([48,49,50,51,52,53,54,55,56,57,65,66,67,68,69,70]:aC))=16:=Τ;have v:(c/16).toNat=c.toNat/16:=UInt8.toNat_div c 16;have u:(c%16).toNat=c.toNat%16:=UInt8.toNat_mod c 16;rw[aJ,aV b,aV aA1,aV aA0,aV b,aV aA1,aV aA0,aV aA3,aV (cJ _ aA0 aA0)];exact a
theorem qX(s:aC)(a:aR s<=4194304)(k:Int)(b:k=0\/k=1\/k=2):ani FU s k=θ (jW k s):=by unfold ani;have h:amm FU s k FU [] 0=θ _:=W7 s a k b s [] FU Τ aA5;rw[h,aS]
def xu(k:Int)(p:PP):aC:=jW k p.1++(bif p.2.2 then 61::jW k p.2.1 else [])
def RA(k:Int)(a:aC):aC->δ PP->aC
 |_,[]=>[]
 |m,p::r=>m++(xu k p++RA k a a r)
theorem IT(k:Int)(w:k=1\/k=2)(c:aC)(m:aR c<=1)(l:δ PP)(z:aR l<=16)(y:∀p∈l,aR p.1<=4194304/\γ p.2.1<=4194304)(r:δ PP):∀pre b (out mk),l=pre++r->aR r<b->aR mk<=1->aR out<=aR pre*30000000->
  aks FU l c k b out mk (γ pre)=θ (out++RA k c mk r):=by
 have g:k=0\/k=1\/k=2:=.inr w;induction r with
 |nil=>intro pre b out mk h q v u;obtain⟨b,rfl⟩:=cD b;rw[gV]at h;rw[bdk,ars,aA aA7];simp[RA]
 |cons p r s=>
  intro pre b out mk h q v u;obtain⟨b,rfl⟩:=cD b;have f:=bM aR h;simp at f q;have a:0<=(aR pre:Int)/\(aR pre:Int)<(aR l:Int):=aA0;have x:el l (aR pre:Int)=p:=aB3
  have j:=y p aA7;have B:=QH k p.1;have A:=QH k p.2.1;have d:bK ((aR pre:Int)+1):=cJ _ aA0 aA0;have next:∀o:aC,o=out++(mk++xu k p)->aks FU l c k b o c ((aR pre:Int)+1)=θ (out++RA k c mk (p::r)):=by
   intro o e;have t:γ (xu k p)<=25165830:=by
    unfold xu;rw[cR];cases p.2.2 with
    |true=>rw[aO,dT];omega
    |false=>rw[aJ,tU];omega
   have i:=s (pre++[p]) b o c aA7 aA0 m (by rw[e];simp;omega);rw[show(γ (pre++[p]):Int)=(aR pre:Int)+1 by simp]at i;rw[i,e];simp[RA]
  rw[bdk,ars,aB a.2,aV aA0,aV a,aV a,x,qX _ j.1 k g,aS,aV aA3,aV a,aV a];cases n:p.2.2 with
  |true=>
   rw[aV aA3,aV a,aV a,qX _ j.2 k g,aS,aV aA3,aV d];refine next _ ?_
   unfold xu;rw[n];simp
  |false=>
   rw[aV d];refine next _ ?_
   unfold xu;rw[n];simp
theorem Kq(k:Int)(f:k=1\/k=2)(a b:aC)(c:aR a<=1)(d:aR b<=1)(l:δ PP)(e:aR l<=16)(g:∀p∈l,aR p.1<=4194304/\γ p.2.1<=4194304):zx FU l a b k=θ (RA k b a l):=by unfold zx;have h:aks FU l b k FU [] a 0=θ ([]++RA k b a l):=IT k f b d l e g l [] FU [] a Τ aA5 c (eJ _);rw[h,aS,yL]
theorem MN:∀l:δ PP,RA 1 [59] [59] l=rK l
 |[]=>rfl
 |p::l=>by unfold RA rK;rw[MN l];rfl
theorem MO:∀l:δ PP,(∀p∈l,p.2.2=μ)->RA 2 [38] [38] l=Hf l
 |[],_=>rfl
 |p::l,h=>by unfold RA Hf;rw[MO l (λq a=>h q (gN _ a))];unfold xu Rc;rw[h p iK];rfl
theorem wr_hds(l:δ PP)(h:∀p∈l,p.2.2=μ):RA 2 [38] [63] l=Yn l:=by
 cases l with
 |nil=>rfl
 |cons p l=>unfold RA Yn;rw[MO l (λq a=>h q (gN _ a))];unfold xu Rc;rw[h p iK];rfl
theorem X0:∀(k n a:Nat),n<10^(k+1)->k+1<a->k<=15->wo a n=θ (GW n):=by
 intro k;induction k with
 |zero=>intro n a h g c;obtain⟨a,rfl⟩:=cD a;rw[wo,aB aA0,eF,aV aA3,(oR n h).2.2,GW,dif_pos h]
 |succ k f=>
  intro n a h g c;obtain⟨a,rfl⟩:=cD a;have j:10^(k+1+1)<=10^17:=ki aA1 aA0;rw[wo,GW];by_cases d:n<10
  ·rw[aB aA0,dif_pos d,eF,aV aA3,(oR n d).2.2]
  ·have m:n/10=((n/10:Nat):Int):=by omega
   have l:(n:Int)%10=((n%10:Nat):Int):=aA0;have e:n/10<10^(k+1):=by rw[Hz]at h;omega
   have o:=(PZ k _ e).2.2.2;have b:0<=(n:Int)/\0<(10:Int)/\bK (n:Int):=⟨aA0,aA0,cJ _ aA0 aA0⟩;have i:=oR (n%10) (Nat.mod_lt _ aA1);rw[aA aA0,dif_neg d,aV b,m,f (n/10) a e aA0 aA0,aS,aV b,aV b,l,aV (cJ _ aA0 aA0),aV aA3,i.2.2,aV aA3]
theorem X1(n:Int)(a:0<=n)(h:n<=65535):wo FU n=θ (iS n):=by obtain⟨m,rfl⟩:∃m:Nat,n=m:=⟨n.toNat,aA0⟩;exact X0 15 m FU aA0 aA5 aA1
theorem IV(u:UU)(e:Good u)(q:Sml u):bcg FU u=θ (prU u,0):=by
 have y:=CE u e q;obtain⟨E,t,D,o,n⟩:=q;have G:=Cq _ o;have F:=ER _ n;have i:=e.pl;have j:=e.hl;have v:=QH 0 u.2.1;have a:0<=u.2.2.2.1/\u.2.2.2.1<=65535:=by
  rcases e.sch with⟨_,_,l,k,_⟩|⟨_,_,h,_⟩
  ·exact⟨l,k⟩
  ·omega
 have hit:=nB u.2.2.2.1 a.1 a.2;have m:zx FU u.2.2.2.2.1 ([59]:aC) ([59]:aC) 1=θ (rK u.2.2.2.2.1):=by rw[Kq 1 (.inl rfl) _ _ aA1 aA1 _ i o,MN]
 have s:zx FU u.2.2.2.2.2 ([63]:aC) ([38]:aC) 2=θ (Yn u.2.2.2.2.2):=by rw[Kq 2 (.inr rfl) _ _ aA1 aA1 _ j n,wr_hds _ (λp x=>(e.hs.2 p x).2.2.2.2.2 rfl)]
 unfold bcg;rw[y,aS];dsimp only;rw[aB rfl];by_cases b:u.1=xg
 ·rw[aB (show u.1=([116,101,108]:aC)from b),aV aD3,m,aS,aV aD0];rcases e.sch with⟨h|h,_⟩|⟨h,l,k,z,H⟩
  ·rw[h]at b;exact absurd b aA1
  ·rw[h]at b;exact absurd b aA1
  ·have g:HC u=u.2.1:=aB b;have A:XB u.2.2.2.1=[]:=aB k;unfold prU;rw[g,A,l,z,h];unfold xg Yn;simp
 ·have g:HC u=if u.2.1=[]then []else jW 0 u.2.1++[64]:=aA b
  rw[aA (show¬u.1=[116,101,108]from b),aV aC5];have C:(if u.2.1=([]:aC)then θ (u.1++([58]:aC))else(ani FU u.2.1 (0:Int)).bind λ(c:aC)=>gd (γ (u.1++([58]:aC))+aR c<=9223372036854775807)<|gd (γ ((u.1++[58])++c)+γ ([64]:aC)<=9223372036854775807)<|some (((u.1++([58]:aC))++c)++([64]:aC)))=θ (u.1++([58]:aC)++HC u):=by
   rw[g];by_cases d:u.2.1=[]
   ·rw[aB d,aB d,gV]
   ·rw[aA d,aA d,qX _ t 0 (.inl rfl),aS,aV aA3,aV aA3,nW]
  have w:γ (HC u)<=12582913:=by
   rw[g];split
   ·exact eJ _
   ·rw[cR,fE];omega
  rw[C,aS,aV aA3];have B:(if(0:Int)<u.2.2.2.1 then(gd (γ ((u.1++([58]:aC)++HC u)++u.2.2.1)+γ ([58]:aC)<=9223372036854775807)<|(wo FU u.2.2.2.1).bind λ(f:aC)=>gd (γ (((u.1++[58]++HC u)++u.2.2.1)++[58])+aR f<=9223372036854775807)<|some ((((u.1++[58]++HC u)++u.2.2.1)++[58])++f))else θ ((u.1++[58]++HC u)++u.2.2.1))=θ ((u.1++[58]++HC u)++u.2.2.1++XB u.2.2.2.1):=by
   unfold XB;by_cases d:u.2.2.2.1=0
   ·rw[aA aA0,aB d,gV]
   ·rw[aB aA0,aA d,aV aA3,X1 _ a.1 a.2,aS,aV aA3];simp
  have r:γ (XB u.2.2.2.1)<=6:=by
   unfold XB;split
   ·exact eJ _
   ·rw[dT];omega
  rw[B,aS,m,aS,aV aA3,s,aS,aV aA3];unfold prU;simp
theorem ET(c b:ζ):fN [c] b=decide (b=c):=by
 unfold fN;simp;by_cases h:b=c
 ·subst h;simp
 ·rw[aG h];exact dX.2 (λe=>h e.symm)
theorem Jr(c:ζ)(s:aC)(k:Nat)(a:k<aR s)(h:Υ s k=c):bQ [c] s k=k:=by unfold bQ;rw[Pb s k a,tY _ _ _ (by rw[ET,h,aH rfl];rfl),Rt]
theorem Jq(c:ζ)(s:aC)(k:Nat)(a:k<aR s)(h:¬Υ s k=c):bQ [c] s k=bQ [c] s (k+1):=qR [c] s k a (by rw[ET,aG h])
theorem ZP(c:ζ)(s:aC)(k:Nat)(a:aR s<=k):bQ [c] s k=k:=by unfold bQ;rw[Pu a];rfl
theorem IY(s:aC)(f:aR s<=4194304)(c:ζ)(n:Nat):∀k a,k+n=aR s->n<a->
  atz FU s c a k=θ (if bQ [c] s k<aR s then .inr (bQ [c] s k)else .inl ()):=by
 induction n with
 |zero=>intro k a d e;obtain⟨a,rfl⟩:=cD a;rw[bdn,arw,aA aA0,ZP c s k aA0,aA aA0]
 |succ n b=>
  intro k a d e;obtain⟨a,rfl⟩:=cD a;rw[bdn,arw,aB aA0,aV aA0];by_cases h:Υ s k=c
  ·rw[aB h,Jr c s k aA0 h,aB aA0]
  ·rw[aA h,aV (cJ _ aA0 aA0),qG,b _ a aA0 aA0,Jq c s k aA0 h]
theorem Ku(s:aC)(a:aR s<=4194304)(k:Nat)(b:k<=aR s)(c:ζ):aua FU s k c=θ (if bQ [c] s k<aR s then(bQ [c] s k:Int)else-1):=by
 unfold aua;rw[IY s a c (aR s-k) k FU aA0 aA5,aS];split
 ·rw[GX]
 ·rw[qL]
theorem Kg(p:ζ->η)(c:ζ)(e:p c=ν):∀(a b:aC),dV p (a++c::b)<=aR a
 |[],b=>by rw[yL,tY _ _ _ e];exact dC _
 |d::a,b=>by have:=Kg p c e a b;rw[AP,dV,dT];split<;>omega
theorem wT(p:ζ->η)(s:aC)(i m:Nat)(b:i<=m)(a:m<aR s)(h:p (Υ s m)=ν):cB p s i<=m:=by
 have e:s.drop i=(s.drop i).take (m-i)++Υ s m::s.drop (m+1):=by
  conv=>lhs;rw[<-HN (m-i) (s.drop i)]
  rw[AG,show i+(m-i)=m by omega,Pb s m a]
 unfold cB;rw[apv i (γ s) aA0,e];have:=Kg p _ h ((s.drop i).take (m-i)) (s.drop (m+1));rw[iW]at this;omega
theorem ch(sep:aC):∀c:δ aC,(∀x∈c,x≠[])->(dP c sep=[]↔c=[])
 |[],_=>⟨λ_=>rfl,λ_=>rfl⟩
 |[a],h=>by rw[jn1];exact⟨λe=>absurd e (h a iK),λe=>by cases e⟩
 |a::b::c,h=>by refine⟨λe=> ?_,λe=>by cases e⟩;have:=LV.1 e;exact absurd this.1 (h a iK)
theorem SX(s:aC)(V:aR s<=1024)(m:Nat)(v:m<aR s)(l:Υ s m=60)(n:Nat):∀i o f (b:δ aC),m-i<=n->n<o->n<f->i<=m->bQ [60] s i=m->(∀x∈b,x≠[])->γ (dP b [32])<=2*i->
  ∃j,alg FU s m o i (dP b [32])=θ j/\
   ((alt s f i b).1=0->j=.inl (dP (alt s f i b).2.2 [32])/\(alt s f i b).2.1=m)/\(¬(alt s f i b).1=0->∃a,j=.inr ([],0,a,(alt s f i b).1)):=by
 induction n with
 |zero=>
  intro i o f b S T J y D C U;obtain⟨o,rfl⟩:=cD o;obtain⟨f,rfl⟩:∃m,f=m+1:=⟨f-1,aA0⟩;obtain rfl:i=m:=aA0;have q:cX s i 60=μ:=by unfold cX;rw[aH v,l];rfl
  have r:alt s (f+1) i b=(0,i,b):=by rw[alt,q,aB rfl]
  rw[atf,ajt,aA aA0,r];exact⟨_,Τ,λ_=>⟨Τ,Τ⟩,λh=>absurd Τ h⟩
 |succ n N=>
  intro i o f b S T J y D C U;by_cases A:i=m
  ·subst A;obtain⟨o,rfl⟩:=cD o;obtain⟨f,rfl⟩:∃m,f=m+1:=⟨f-1,aA0⟩;have q:cX s i 60=μ:=by unfold cX;rw[aH v,l];rfl
   have r:alt s (f+1) i b=(0,i,b):=by rw[alt,q,aB rfl]
   rw[atf,ajt,aA aA0,r];exact⟨_,Τ,λ_=>⟨Τ,Τ⟩,λh=>absurd Τ h⟩
  ·obtain⟨o,rfl⟩:=cD o;obtain⟨f,rfl⟩:∃m,f=m+1:=⟨f-1,aA0⟩;have P:i<m:=aA0
   have q:cX s i 60=ν:=by
    cases q:cX s i 60 with
    |false=>rfl
    |true=>have L:=(Eu q);rw[Jr 60 s i L.1 L.2]at D;exact absurd D A
   have t1:=Qc eN s i aA0;have t2:=wT eN s i m y v (by rw[l];decide);have t3:=Qc cF s (cB eN s i) aA0;have t4:=wT cF s _ m t2 v (by rw[l];decide);have I:∀k:Nat,i<=k->k<=m->bQ [60] s k=m:=by
    intro k F Q;have M:bQ [60] s i=i+dV (λc=> !fN _ c) _:=Τ;have key:∀d k,d+k=m->i<=k->bQ [60] s k=m:=by
     intro d;induction d with
     |zero=>intro k R z;rw[show k=m by omega];exact Jr 60 s m v l
     |succ d B=>
      intro k R z;have E:¬Υ s k=60:=λe=>by
       have:bQ [60] s i<=k:=by have:=wT (λc=> !fN [60] c) s i k z aA0 (by rw[e];decide);unfold cB at this;rw[apv i (γ s) aA0]at this;exact this
       omega
      rw[Jq 60 s k aA0 E];exact B _ aA0 aA0
    exact key (m-k) k aA0 F
   rw[atf,ajt,aB aA0,beh s aA0,aS];by_cases K:cB eN s i=i
   ·have r:alt s (f+1) i b=(5,0,[]):=by rw[alt,q,aA aA1,aB K]
    rw[aB aA0,r];exact⟨_,Τ,λh=>absurd h (show¬5=0 by decide),λ_=>⟨_,Τ⟩⟩
   ·have r:alt s (f+1) i b=alt s f (cB cF s ((cB eN s (i:Int)):Int)) (b++[sub s i ((cB eN s (i:Int)):Int)]):=by rw[alt,q,aA aA1,aA K]
    have u:γ (sub s i ((cB eN s (i:Int)):Int))=cB eN s i-i:=aC3;have t:sub s i _≠[]:=λe=>by rw[e]at u;simp at u;omega
    have G:=DZ [32] b (sub s i ((cB eN s (i:Int)):Int));have g:=ch [32] b C;rw[aA aA0,r];have M:(if dP b [32]=([]:aC)then θ (dP b [32])else gd (γ (dP b [32])+γ ([32]:aC)<=9223372036854775807)<|some (dP b [32]++([32]:aC)))=θ (if b=[]then []else dP b [32]++[32]):=by
     by_cases p:b=[]
     ·rw[aB (g.2 p),aB p,g.2 p]
     ·rw[aA (λe=>p (g.1 e)),aA p,aV aC5]
    have w:(if b=[]then []else dP b [32]++[32])++sub s (i:Int) ((cB eN s (i:Int):Nat):Int)=dP (b++[sub s (i:Int) ((cB eN s (i:Int):Nat):Int)]) [32]:=by
     rw[G];by_cases p:b=[]
     ·rw[aB p,aB p];rfl
     ·rw[aA p,aA p,nW]
    have O:γ (if b=[]then([]:aC)else dP b [32]++[32])<=2*i+1:=by
     split
     ·exact eJ _
     ·rw[cR,fE];omega
    have H:=bM aR w;rw[cR]at H;rw[M,aS,aV aA0,aV aA0,lv s aA0,w];refine N _ o f _ aA0 aA0 aA0 t4 (I _ aA0 t4) (λx hx=> ?_) aA0;rcases aZ.1 hx with h|h
    ·exact C x h
    ·rw[aF.1 h];exact t
theorem NN(s:aC)(m:aR s<=1024)(nm:aC)(b e k:Nat)(p:b<=e)(o:e<=aR s)(n:k<=aR s):∃a,axf FU s nm b e k=θ (if(uS (sub s b e)).1=0 then(if(oJ (s.drop k)).2.2=0 then((nm,(uS (sub s b e)).2,(oJ (s.drop k)).1),a,0)else(rO,a,(oJ (s.drop k)).2.2))else(rO,a,(uS (sub s b e)).1)):=by
 obtain⟨a,⟨j,i⟩,l⟩:=Kr (sub s (b:Int) (e:Int));have h:γ (s.drop k)=aR s-k:=fY;obtain⟨g,f⟩:=OC (s.drop k) aA0;unfold axf;rw[aV aA0,l,aS];dsimp only;by_cases c:(uS (sub s (b:Int) (e:Int))).1=0
 ·rw[aB c,aV aA0,tT,CD _ aA0,aS];by_cases d:(oJ (s.drop k)).2.2=0
  ·exact⟨0,by rw[aB d,aB c,aB d]⟩
  ·refine⟨(k:Int)+(oJ (s.drop k)).2.1,?_⟩;rw[aA d,aV (cJ _ aA0 aA0),aB c,aA d];rfl
 ·refine⟨(b:Int)+a,?_⟩;rw[aA c,aV (cJ _ aA0 aA0),aA c];rfl
theorem jb(s:aC)(i:aR s<=1024)(n:Nat):∀k a,k+n=aR s->n<a->awb FU s a k=θ (bQ [59,32,9] s k:Int):=by
 induction n with
 |zero=>
  intro k a f g;obtain⟨a,rfl⟩:=cD a;have:bQ [59,32,9] s k=k:=by unfold bQ;rw[Pu aA0];rfl
  rw[bez,aue,aA aA0,aS,aJ,this]
 |succ n e=>
  intro k a f g;obtain⟨a,rfl⟩:=cD a;have h:(if(Υ s (k:Int))=(59:ζ)then θ ν else gd (0<=(k:Int)/\(k:Int)<(aR s:Int))<|(wh FU (Υ s (k:Int))).bind λ(b:η)=>θ (!b))=θ (!fN [59,32,9] (Υ s (k:Int))):=by rw[aV aA0];generalize Υ s (k:Int)=c;revert c;exact hY _ aA4
  rw[bez,aue,aB aA0,aV aA0,h,aS];cases d:fN [59,32,9] (Υ s (k:Int))with
  |true=>
   have:bQ [59,32,9] s k=k:=by unfold bQ;rw[Pb s k aA0,tY _ _ _ (by rw[d];rfl),Rt]
   rw[iV,aJ,this]
  |false=>rw[vJ,aO,aV (cJ _ aA0 aA0),qG,e _ a aA0 aA0,qR _ s k aA0 d]
theorem ja(s:aC)(l:aR s<=1024)(e:Nat)(m:e<=aR s)(n:Nat):∀k b,k+n=e->n<b->∃a,awa FU s e b k=θ (if bQ [63,44] s k<e then .inr (rO,a,5)else .inl ()):=by
 induction n with
 |zero=>intro k b g h;obtain⟨b,rfl⟩:=cD b;have:=Jc [63,44] s k;exact⟨0,by rw[bey,aud,aA aA0,aA aA0]⟩
 |succ n f=>
  intro k b g h;obtain⟨b,rfl⟩:=cD b;have i:(gd (0<=(k:Int)/\(k:Int)<(aR s:Int))<|if(Υ s (k:Int))=(63:ζ)then θ μ else gd (0<=(k:Int)/\(k:Int)<(aR s:Int))<|some (decide ((Υ s (k:Int))=(44:ζ))))=θ (fN [63,44] (Υ s (k:Int))):=by rw[aV aA0,aV aA0];generalize Υ s (k:Int)=c;revert c;exact hY _ aA4
  rw[bey,aud,aB aA0,i,aS];cases d:fN _ _ with
  |true=>
   have:bQ [63,44] s k=k:=by unfold bQ;rw[Pb s k aA0,tY _ _ _ (by rw[d];rfl),Rt]
   exact⟨k,by rw[aB aA0];rfl⟩
  |false=>obtain⟨a,j⟩:=f (k+1) b aA0 aA0;exact⟨a,by rw[aJ,aV (cJ _ aA0 aA0),qG,j,qR _ s k aA0 d]⟩
def pB(s nm:aC)(i:Nat):AA×ζ:=
 if(gG s i).1=0 then(if(oJ (s.drop (gG s i).2.2)).2.2=0 then((nm,(gG s i).2.1,(oJ (s.drop (gG s i).2.2)).1),0)else(rO,(oJ (s.drop (gG s i).2.2)).2.2))else(rO,(gG s i).1)
theorem jz(s:aC)(a:¬1024<aR s):((hO s).2,(hO s).1)=if(uP s (cB cF s 0)).1=0 then pB s (uP s (cB cF s 0)).2.1 (uP s (cB cF s 0)).2.2 else(rO,(uP s (cB cF s 0)).1):=by
 unfold hO pB;rw[aA a];split
 ·split
  ·split<;>rfl
  ·rfl
 ·rfl
theorem Sz(s:aC)(k:aR s<=1024)(nm:aC)(i:Nat)(e:cX s i 60=μ):∃a,((aua FU s i 62).bind λb=>if b<0 then θ (rO,(aR s:Int),5)else gd (bK (i+1))<|gd (bK (b+1))<|(axf FU s nm (i+1) b (b+1)).bind λ(c:(AA×Int×ζ))=>θ (c.1,c.2.1,c.2.2))=θ ((pB s nm i).1,a,(pB s nm i).2):=by
 obtain⟨d,iL⟩:=Eu e;have g:=Jc [62] s (i+1);have f:=Er [62] s (i+1) d;rw[Ku s aA0 i aA0,aS,Jq 62 s i d (by rw[iL];decide)];unfold pB gG;rw[e,aB rfl];by_cases j:bQ [62] s (i+1)=aR s
 ·have h:(if bQ [62] s (i+1)<aR s then((bQ [62] s (i+1):Nat):Int)else-1)= -1:=aA aA0;rw[h,aB j];exact⟨_,Τ⟩
 ·have h:(if bQ [62] s (i+1)<aR s then((bQ [62] s (i+1):Nat):Int)else-1)=((bQ [62] s (i+1):Nat):Int):=aB aA0;obtain⟨a,l⟩:=NN s k nm _ _ (bQ [62] s (i+1)+1) g f aA0;rw[h,aA (show¬((bQ [62] s (i+1):Nat):Int)<0 by omega),aA j,aV (cJ _ aA0 aA0),aV (cJ _ aA0 aA0),qG,qG,l];split
  ·split
   ·exact⟨_,Τ⟩
   ·exact⟨_,Τ⟩
  ·exact⟨_,Τ⟩
theorem SY(s:aC)(f:aR s<=1024)(i:Nat)(h:i<=aR s)(c:cX s i 60=ν):∃a,bfa FU s i=θ ((pB s [] i).1,a,(pB s [] i).2):=by
 have d:=Jc [59,32,9] s i;have b:=Er [59,32,9] s i h;obtain⟨a,l⟩:=ja s f _ b (bQ [59,32,9] s i-i) i FU aA0 aA5;unfold bfa;rw[jb s f (aR s-i) i FU aA0 aA5,aS,l,aS];by_cases g:bQ [63,44] s i<bQ [59,32,9] s i
 ·have e:gG s i=(5,iC,0):=by unfold gG;rw[c,aA (show¬(ν=μ)by decide),aB g]
  have j:pB s [] i=(rO,5):=by unfold pB;rw[e];exact aA (show¬(5:ζ)=0 by decide)
  rw[aB g,j];exact⟨_,Τ⟩
 ·have e:gG s i=((uS (sub s (i:Int) (bQ [59,32,9] s i:Int))).1,(uS (sub s (i:Int) (bQ [59,32,9] s i:Int))).2,bQ [59,32,9] s i):=by unfold gG;rw[c,aA (show¬(ν=μ)by decide),aA g]
  obtain⟨m,k⟩:=NN s f [] i _ _ d b b;rw[k];unfold pB;rw[e];split
  ·split
   ·exact⟨_,Τ⟩
   ·exact⟨_,Τ⟩
  ·exact⟨_,Τ⟩
theorem JY(p:ζ->η)(c:ζ)(i:p c=ν)(s:aC)(b:Nat)(n:b<=aR s)(h:(s.take b).all p=μ):fN s c=decide (bQ [c] s b<aR s):=by
 have e:=(HN b s).symm;have g:fN (s.take b) c=ν:=by unfold fN;rw[eO];intro x hx a;have:=aT.1 h x hx;rw[eq_of_beq a,i]at this;cases this
 have k:fN s c=fN (s.drop b) c:=by
  conv=>lhs;rw[e]
  unfold fN at g⊢;rw[QX,g,jE]
 have m:γ (s.drop b)=aR s-b:=fY;have f:=qU (λx=> !fN [c] x) (s.drop b);have o:=HI (λx=> !fN [c] x) (s.drop b);rw[k];have l:bQ [c] s b=b+dV _ _:=Τ;cases d:fN _ c with
 |true=>
  rw[aH];have:¬(s.drop b).all (λx=> !fN [c] x)=μ:=λj=>by obtain⟨x,hx,a⟩:=eK.1 d;have:=aT.1 j x hx;rw[ET,aH (eq_of_beq a)]at this;cases this
  have:¬dV (λx=> !fN [c] x) (s.drop b)=γ (s.drop b):=λe=>this (f.1 e);omega
 |false=>rw[aG];have:(s.drop b).all (λx=> !fN [c] x)=μ:=aT.2 (λx hx=>by have:=eO.1 d x hx;rw[ET,aG (λe=>this (by rw[e];simp))];rfl);have:=f.2 this;omega
theorem Sl(p:ζ->η):∀s:aC,(s.take (dV p s)).all p=μ
 |[]=>rfl
 |c::s=>by
  unfold dV;cases a:p c with
  |true=>rw[aB rfl,eT,Pt,a,Sl p s];rfl
  |false=>rw[aA aA1];rfl
theorem Ks(s:aC):∃a,aju FU s=θ ((hO s).2,a,(hO s).1):=by
 by_cases w:1024<aR s
 ·unfold aju hO;rw[aB aA0,aB w];exact⟨_,Τ⟩
 ·have h:=jz s w;have A:(hO s).2=(if(uP s (cB cF s 0)).1=0 then pB s (uP s (cB cF s 0)).2.1 (uP s (cB cF s 0)).2.2 else(rO,(uP s (cB cF s 0)).1)).1:=bM Prod.fst h;have z:(hO s).1=(if(uP s (cB cF s 0)).1=0 then pB s (uP s (cB cF s 0)).2.1 (uP s (cB cF s 0)).2.2 else(rO,(uP s (cB cF s 0)).1)).2:=bM Prod.snd h;rw[A,z];clear A z h;unfold aju;rw[aA aA0,lv s aA0,aS];have k:=pO cF s 0;have m:(s.take (cB cF s 0)).all cF=μ:=by rw[Kj];exact Sl cF s
  generalize cB cF s 0=b at k m⊢;have t:=JY cF 60 aA1 s b k m;have J:=Er [60] s b k;have q:=Jc [60] s b;rw[Ku s aA0 b k,aS];have G:(if(if bQ [60] s b<aR s then(bQ [60] s b:Int)else-1)<(0:Int)then(if(b:Int)=(aR s:Int)then θ μ else gd (0<=(b:Int)/\(b:Int)<(aR s:Int))<|some (!decide ((Υ s (b:Int))=(34:ζ))))else θ ν)=θ (!fN s 60&& !cX s b 34):=by
   rw[t];by_cases i:bQ [60] s b<aR s
   ·have o:(if bQ [60] s b<aR s then((bQ [60] s b:Nat):Int)else-1)=((bQ [60] s b:Nat):Int):=aB i;rw[o,aA (show¬((bQ [60] s b:Nat):Int)<0 by omega),aH i];rfl
   ·have o:(if bQ [60] s b<aR s then((bQ [60] s b:Nat):Int)else-1)= -1:=aA i;rw[o,aB (show(-1:Int)<0 by decide),aG i];unfold cX;by_cases n:b=aR s
    ·rw[aB aA0,aG aA0];rfl
    ·rw[aA aA0,aV aA0,aH (show b<aR s by omega)];by_cases d:Υ s (b:Int)=34
     ·rw[aH d,d];rfl
     ·rw[aG d,dX.2 d];rfl
  rw[G,aS];unfold uP;cases d:cX s b 34 with
  |true=>
   obtain⟨g,iL⟩:=Eu d;rw[iV,Bool.and_false,aJ,aB rfl];unfold ayl;rw[aV aA0,aB iL,oF s aA0,aS];by_cases f:(sW s (b:Int)).2.2=0
   ·have D:=pO cF s (sW s (b:Int)).2.1;rw[aB f,aB f,lv s aA0,aS];have H:(if((cB cF s (sW s (b:Int)).2.1:Nat):Int)=(aR s:Int)then θ μ else gd (0<=((cB cF s (sW s (b:Int)).2.1:Nat):Int)/\((cB cF s (sW s (b:Int)).2.1:Nat):Int)<(aR s:Int))<|some (!decide ((Υ s ((cB cF s (sW s (b:Int)).2.1:Nat):Int))=(60:ζ))))=θ (!cX s (cB cF s (sW s (b:Int)).2.1) 60):=by
     generalize cB cF s (sW s (b:Int)).2.1=y at D⊢;unfold cX;by_cases C:y=aR s
     ·rw[aB aA0,aG aA0];rfl
     ·rw[aA aA0,aV aA0,aH (show y<aR s by omega)];by_cases c:Υ s (y:Int)=60
      ·rw[c];rfl
      ·rw[aG c,dX.2 c];rfl
    rw[H,aS];cases c:cX s (cB cF s (sW s (b:Int)).2.1) 60 with
    |true=>obtain⟨a,ea⟩:=Sz s aA0 (sW s (b:Int)).1 _ c;rw[aB rfl];exact⟨a,ea⟩
    |false=>rw[vJ,aO,aS];dsimp only;rw[aA (show¬(5:ζ)=0 by decide)];exact⟨_,Τ⟩
   ·rw[aA f,aA f,aS];dsimp only;rw[aA f,aA f];exact⟨_,Τ⟩
  |false=>
   rw[aA (show¬(ν=μ)by decide)];cases i:fN s 60 with
   |false=>
    rw[aA (show¬(ν=μ)by decide)];dsimp only;rw[aB rfl];have c:cX s b 60=ν:=by
     cases B:cX s b 60 with
     |false=>rfl
     |true=>obtain⟨l,p⟩:=Eu B;have v:=at_mem s b l;rw[p]at v;unfold fN at i;exact absurd (eO.1 i 60 v) aA2
    obtain⟨a,ea⟩:=SY s aA0 b k c;rw[ea];exact⟨_,Τ⟩
   |true=>
    rw[i]at t;have g:=cC t.symm;have iL:Υ s (bQ [60] s b:Nat)=60:=by have:=bhe _ s b k g;rw[ET]at this;exact cC this
    rw[aB rfl];have o:(if bQ _ s b<aR s then((bQ [60] s b):Int)else-1)=(bQ [60] s b:Nat):=aB g;rw[o];have n:b<aR s:=aA0;have r:¬Υ s _=34:=λe=>by unfold cX at d;rw[aH n,e]at d;cases d
    obtain⟨j,I,F,E⟩:=SX s aA0 _ g iL (bQ [60] s b-b) b FU (aR s+1) [] aA0 aA5 aA0 q Τ (λx hx=>by cases hx) (eJ _);have u:alg FU s (bQ [60] s b:Nat) FU _ []=θ j:=I;unfold ayl;rw[aV aA0,aA r,u,aS];by_cases f:(alt s (aR s+1) b []).1=0
    ·obtain⟨l,p⟩:=F f;have c:cX s (bQ [60] s b) 60=μ:=by unfold cX;rw[aH g,iL];rfl
     rw[l];dsimp only;rw[aB f,p];obtain⟨a,ea⟩:=Sz s aA0 _ _ c;exact⟨a,ea⟩
    ·obtain⟨a,l⟩:=E f;rw[l,GX,aS];dsimp only;rw[aA f,aA f];exact⟨_,Τ⟩
theorem Y6(v:aC)(b:aR v<=4194304):ayi FU v=θ ((hO (oS v)).2,(hO (oS v)).1):=by obtain⟨a,e⟩:=Ks _;unfold ayi;rw[wW v b,aS,e,aS]
theorem NX(v:aC)(a:aR v<=4194304):bid FU v=θ (Js v):=by
 unfold bid Js;rw[Y6 v a,aS];dsimp only;by_cases h:(hO (oS v)).1=0
 ·rw[aB h,aB h,IV _ (GH _ h).1 ((QR _).1.sml aA1),aS]
 ·rw[aA h,aA h]
theorem ph(v:aC)(a:γ v<=4194304):bac FU v=θ (gI (oS v)):=by have b:=RP v;unfold bac;rw[wW v a,aS,zK _ aA0,aS]
open Go.Lib renaming decDigits → GW, itoa → iS
theorem ga(p:ζ->η)(l:aC)(h:∀c∈l,p c=ν):l.dropWhile p=l:=by
 cases l with
 |nil=>rfl
 |cons c l=>exact Pq (by rw[h c iK];decide)
theorem VL:∀c:ζ,fZ c=μ->cF c=ν:=hY _ aA4
theorem PW:∀c:ζ,fZ c=μ->48<=c.toNat/\c.toNat<=57:=hY _ aA4
theorem ZU(s:aC)(h:s.all fZ=μ):oS s=s:=by have b:∀c∈s,cF c=ν:=λc a=>VL c (aT.1 h c a);unfold oS CU;rw[ga _ _ b,ga _ _ (λc a=>b c (List.mem_reverse.1 a)),List.reverse_reverse]
theorem Z1:∀(l:aC) (a:Nat),l.all fZ=μ->(a+1)*10^γ l<=10^12->Lib.parseUint10 a l=.ok (l.foldl (λn c=>10*n+(c.toNat-48)) a)
 |[],a,_,_=>rfl
 |c::l,a,h,b=>by
  rw[Pt,Bv]at h;have d:=PW c h.1;have f:(a+1)*10<=10^12:=by refine jZ (Nat.mul_le_mul_left _ ?_) b;rw[dT,Hz];have:=Nat.one_le_two_pow (n:=0);have:=Nat.pow_pos (n:=γ l) (show 0<10 by decide);omega
  have e:(a*10+(c.toNat-48)+1)*10^γ l<=10^12:=by refine jZ (HA _ (show a*10+(c.toNat-48)+1<=(a+1)*10 by omega)) ?_;rw[dT,Hz]at b;rw[Nat.mul_assoc,Nat.mul_comm 10];exact b
  rw[Lib.parseUint10,aB d,aA aA0,aA aA0,Z1 l _ h.2 e,QW,Nat.mul_comm a]
theorem QJ(n:Int)(k:0<=n)(j:n<=65535):Rn (iS n)=n/\lq (iS n)=μ:=by
 obtain⟨m,rfl⟩:∃m:Nat,n=(m:Int):=⟨n.toNat,aA0⟩;obtain⟨b,a,g,l⟩:=PZ 4 m aA0;rw[Nd];generalize GW m=t at*;have d:(0+1)*10^γ t<=10^12:=by rw[Ps,kj];exact ki aA1 aA0
 have f:=Z1 t 0 b d;cases t with
 |nil=>simp at g
 |cons c r=>
  have i:=PW c (aT.1 b c iK);have e:Lib.atoiAll (c::r)=.ok (m:Int):=by unfold Lib.atoiAll Lib.parseMag;dsimp only;rw[aA (show¬(c.toNat=43\/c.toNat=45)by omega),aA (show¬(c::r=[])by simp),f];dsimp only;rw[aA (by rintro⟨_,h⟩;rw[show List.foldl _ 0 (c::r)=m from a]at h;omega),aA aA0,aA aA0,show List.foldl _ 0 (c::r)=m from a]
  unfold Rn lq;rw[e];exact⟨Τ,Τ⟩
theorem Lb(t:aC)(n:Int)(d:1<=n)(a:n<=65535)(h:iS n=t):lq t=μ/\Rn t=n/\gI t=(n,0)/\oS t=t:=by subst h;obtain⟨c,_,_,b⟩:=nB n aA0 a;exact⟨(QJ n aA0 a).2,(QJ n aA0 a).1,c,ZU _ b⟩
def Xm(t:aC):Prop:=1<=(gI t).1/\(gI t).1<=65535/\iS (gI t).1=t
instance (t:aC):Decidable (Xm t):=inferInstanceAs (Decidable (_/\_))
theorem Ld(t:aC):lq t=μ/\1<=Rn t/\Rn t<=65535/\iS (Rn t)=t↔Xm t:=by
 constructor
 ·rintro⟨_,c,b,a⟩;obtain⟨_,_,g,_⟩:=Lb t _ c b a;unfold Xm;rw[g];exact⟨c,b,a⟩
 ·rintro⟨c,b,a⟩;obtain⟨e,d,_,_⟩:=Lb t _ c b a;rw[d];exact⟨e,c,b,a⟩
theorem qj(t:aC):(gI (oS t)).2=0/\1<=(gI (oS t)).1/\(gI (oS t)).1<=65535/\iS (gI (oS t)).1=t↔Xm t:=by
 constructor
 ·rintro⟨_,c,b,a⟩;obtain⟨_,_,g,_⟩:=Lb t _ c b a;unfold Xm;rw[g];exact⟨c,b,a⟩
 ·rintro⟨c,b,a⟩;obtain⟨_,_,g,d⟩:=Lb t _ c b a;rw[d,g];rw[g]at c b a;exact⟨Τ,c,b,a⟩
theorem OB(h:Xm a):Rn a=(gI a).1/\(gI (oS a)).1=(gI a).1:=by obtain⟨_,b,g,t⟩:=Lb a _ h.1 h.2.1 h.2.2;exact⟨b,by rw[t]⟩
def kA(l:δ HH):Nat:=γ l+dR l
theorem mo:kA []=0:=rfl
theorem zn(h:HH)(l:δ HH):kA (h::l)=1+γ h.1+γ h.2+kA l:=by unfold kA dR;rw[qO,eY,dT];omega
theorem ML(a b:δ HH):kA (a++b)=kA a+kA b:=by
 induction a with
 |nil=>rw[yL,mo,Ps]
 |cons x a c=>rw[AP,zn,zn,c];omega
theorem nY(p:HH->η):∀l,kA (l.filter p)<=kA l
 |[]=>dC _
 |x::l=>by
  have:=nY p l;rw[List.filter_cons];split
  ·rw[zn,zn];omega
  ·rw[zn];omega
theorem mq(l:δ HH)(i:Int)(x:HH):kA (nE l i x)=kA l+1+γ x.1+γ x.2:=by have e:=bM kA (HN i.toNat l);rw[ML]at e;unfold nE;rw[ML,zn];omega
theorem lP{l:δ HH}(h:kA l<=n)(a:n<=4194303):Sm l/\dR l<=4194303:=by unfold kA at h;exact⟨sm_of aA0 aA0,aA0⟩
theorem YX:∀l,(∀x∈l,γ x.1<=80/\γ x.2<=400)->kA l<=481*γ l
 |[],_=>eJ _
 |x::l,h=>by have c:=h x iK;have b:=YX l λy a=>h y (gN _ a);rw[zn,dT];omega
theorem vn(name:aC):∀l:δ HH,mL (gW l name)<=kA l
 |[]=>eJ _
 |x::l=>by
  have b:=Wh name x;have a:=vn name l;have e:gW (x::l) name=mH name x++gW l name:=by unfold gW;rw[wL]
  rw[e,Ig,zn];omega
def rE(l:δ HH)(name v:aC):δ HH:=nE l (max (uF (mE name) l) 0) (Ax name,v)
theorem YW(l:δ HH)(name v:aC):kA (rE l name v)=kA l+1+γ (Ax name)+γ v:=mq _ _ _
def dS:aC:=[82,111,117,116,101]
theorem V0:Ax dS=dS:=aA4
def dq(m:MM)(l:δ HH):MM:=(m.1,m.2.1,m.2.2.1,m.2.2.2.1,l,m.2.2.2.2.2)
def Jk(l:δ HH)(rs:δ aC):δ HH:=rs.foldr (λr a=>rE a dS r) (l.filter λh=> !mE dS h)
theorem yN(l:δ HH):∀rs:δ aC,kA (rs.foldr (λr a=>rE a dS r) l)<=kA l+6*mL rs
 |[]=>Nat.le_add_right _ _
 |r::rs=>by
  have:=yN l rs;have e:mL (r::rs)=γ r+1+mL rs:=by unfold mL;rw[qO,eY,dT];omega
  rw[List.foldr_cons,YW,V0,e,show γ dS=5 from rfl];omega
theorem ml(l:δ HH)(rs:δ aC):kA (Jk l rs)<=kA l+6*mL rs:=by have:=yN (l.filter λh=> !mE dS h) rs;have:=nY (λh=> !mE dS h) l;unfold Jk;omega
theorem oa{l:δ aC}{i:Nat}(h:i<γ l):γ (el l i)+1<=mL l:=by
 have e:el l i=l[i]:=by unfold el;simp[h]
 rw[e];exact ra (fB h)
theorem Jz(l:δ aC)(n:Nat):mL (l.take n)<=mL l:=by have:=Ig (l.take n) (l.drop n);rw[HN]at this;omega
theorem oC(l:δ aC):γ l<=mL l:=by unfold mL;omega
theorem rplc(h:aC)(n:Int)(b:aR h<=100000000)(e:0<=n)(d:n<=65535):aR h+γ ([58]:aC)<=9223372036854775807/\γ (h++([58]:aC))+γ (iS (if n=0 then 5060 else n))<=9223372036854775807:=by
 have a:0<=(if n=0 then(5060:Int)else n)/\(if n=0 then(5060:Int)else n)<=65535:=by split<;>omega
 obtain⟨_,_,c,_⟩:=nB _ a.1 a.2;simp only[cR,dT,tU];omega
theorem T9(m:MM)(r:aR m.2.2.2.2.1<=40)(q:δ HH):∀(p:δ HH) (b:Nat),m.2.2.2.2.1=p++q->aR q<b->
  (aih FU m b (aR p:Int)=θ (.inl ())/\∀x∈q,aR x.1<=80/\γ x.2<=400)\/aih FU m b (aR p:Int)=θ (.inr ν):=by
 induction q with
 |nil=>intro p b h f;obtain⟨b,rfl⟩:=cD b;rw[gV]at h;left;rw[bdr,asd,aA aB8];simp
 |cons a q j=>
  intro p b h f;obtain⟨b,rfl⟩:=cD b;have d:=bM aR h;simp only[cR,dT]at d f;have c:(0:Int)<=(aR p:Int)/\(aR p:Int)<(aR m.2.2.2.2.1:Int):=aA0;have n:el m.2.2.2.2.1 (aR p:Int)=a:=aB3;have k:((aR p:Int)+1)=(γ (p++[a]):Int):=aA2;have l:bK ((aR p:Int)+1):=cJ _ bA bA;rw[bdr,asd,aB c.2,aV c,aV c,n];by_cases i:(80:Int)<(aR a.1:Int)
  ·right;rw[aB i,aS,aO]
  ·rw[aA i,aV c,aV c,aS];by_cases g:(400:Int)<(aR a.2:Int)
   ·right;rw[aH g,aO]
   ·rw[aG g,aJ,aV l,k];rcases j (p++[a]) b aA7 bA with⟨e,o⟩|e
    ·left;refine⟨e,λx hx=> ?_⟩;rcases aQ.1 hx with rfl|hx
     ·omega
     ·exact o x hx
    ·right;exact e
theorem RZ(m:MM):auk FU m=θ ν\/(auk FU m=θ μ/\γ m.2.2.2.2.1<=40/\γ m.2.2.2.2.2<=300/\∀x∈m.2.2.2.2.1,aR x.1<=80/\γ x.2<=400):=by
 unfold auk;by_cases e:40<(aR m.2.2.2.2.1:Int)
 ·left;rw[aB e,aS,aO]
 ·rw[aA e];by_cases d:300<(aR m.2.1:Int)
  ·left;rw[aB d,aS,aO]
  ·rw[aA d,aS];by_cases c:300<(aR m.2.2.2.2.2:Int)
   ·left;rw[aH c,aO]
   ·rw[aG c,aJ];rcases T9 m bA m.2.2.2.2.1 [] FU Τ aA5 with⟨b,f⟩|b
    ·right;have a:aih FU m FU 0=_:=b;rw[a];exact⟨Τ,aA0,aA0,f⟩
    ·left;have a:aih FU m FU 0=_:=b;rw[a,aS,GX]
end Go.Wk
