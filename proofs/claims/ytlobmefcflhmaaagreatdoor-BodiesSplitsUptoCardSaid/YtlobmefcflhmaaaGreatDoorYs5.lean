/-
  The law BodiesSplits holds (part 5 of 9).
-/
import Derived.Test.YtlobmefcflhmaaaGreatDoorYs4
import Derived.Laws.Bits64
open Bool renaming false → ν, true → μ
open List renaming length → γ
open Option renaming none → ι, some → θ
set_option linter.unusedVariables false
set_option linter.unusedSimpArgs false
set_option maxRecDepth 100000
namespace Go.Wk
open Go.Px
open Int renaming toNat → bL
open List renaming drop → cC, take → eN
open Sum renaming elim → dA
abbrev PP:=aC×aC×η
theorem X2{c:Type}[Inhabited c](p:c->η)(l:δ c)(F:Nat->Int->ε (Unit⊕Int))
  (o:∀a,F (a+1) (γ l)=θ (.inl ()))
  (m:∀a k,k<γ l->p (el l k)=μ->F (a+1) k=θ (.inr k))
  (i:∀a k,k<γ l->p (el l k)=ν->F (a+1) k=F a (k+1)) (n:Nat):
  ∀k a,k+n=γ l->n<a->F a k=θ (match(l.drop k).findIdx? p with|none=>.inl ()|some j=>.inr ((k+j:Nat))):=by
 induction n with
 |zero=>intro k a e f;obtain⟨a,rfl⟩:=cB a;obtain rfl:k=γ l:=aA0;rw[o,YN];rfl
 |succ n d=>
  intro k a e f;obtain⟨a,rfl⟩:=cB a;have b:k<γ l:=aA0;have g:l.drop k=el l k::l.drop (k+1):=by rw[Ps _ _ b,zbF b]
  rw[g,List.findIdx?_cons];cases h:p _ with
  |true=>rw[m a k b h];rfl
  |false=>
   rw[i a k b h,mL,d _ a aU aU];cases(l.drop _).findIdx? p with
   |none=>rfl
   |some j=>show θ (Sum.inr _)=θ (Sum.inr _);congr 2;show((k+1+j:Nat):Int)=((k+(j+1):Nat):Int);omega
theorem Wq{c:Type}[Inhabited c](p:c->η)(l:δ c)(g:γ l<=4194304)(F:Nat->Int->ε (Unit⊕Int))
  (f:∀b,F (b+1) (γ l)=θ (.inl ()))
  (e:∀b k,k<γ l->p (el l k)=μ->F (b+1) k=θ (.inr k))
  (d:∀b k,k<γ l->p (el l k)=ν->F (b+1) k=F b (k+1)):F FU 0=θ (match l.findIdx? p with|none=>.inl ()|some j=>.inr (j)):=by
 have:=X2 p l F f e d (γ l) 0 FU aU aA4;rw[NT]at this;have a:F FU 0=_:=this;rw[a];cases l.findIdx? p with
 |none=>rfl
 |some j=>show θ (Sum.inr _)=θ (Sum.inr _);congr 2;omega
def oh(o:ε Nat):Int:=match o with|none=> -1|some j=>j
variable{a:Type}
theorem HQ(p:a->η)(l:δ a):decide (0<=oh (l.findIdx? p))=l.any p:=by
 rw[<-List.findIdx?_isSome];cases l.findIdx? p with
 |none=>rfl
 |some j=>show decide (0<=j)=μ;rw[aX];omega
theorem Pc(l:δ PP)(d:γ l<=4194304)(name:aC):aqm FU l name=θ (l.any λp=>p.1==name):=by
 have h:=Wq (λp:PP=>p.1==name) l d (acn FU l name)
  (λb=>by rw[adn,abq,aA aU])
  (λb k f h=>by have a:(el l (k:Int)).1=name:=aA7;rw[adn,abq,aB aU,aS aU,aS aU];unfold awu;rw[aR,aE a,aM])
  (λb k f h=>by have a:¬(el l k).1=name:=aA7;rw[adn,abq,aB aU,aS aU,aS aU];unfold awu;rw[aR,aD a,aG,dU])
 unfold aqm aei aez;rw[h,aR];have e:dA (λc=>θ (-1)) (λq=>θ q) (match l.findIdx? (λp:PP=>p.1==name)with|none=>(Sum.inl ())|some j=>Sum.inr (j:Int))=θ (oh (l.findIdx? (λp:PP=>p.1==name))):=by cases l.findIdx? _<;>rfl
 rw[e,aR,HQ];rfl
def yC(l:δ PP)(name:aC):ζ:=if(l.any λp=>p.1==name)=μ then 7 else if 16<=γ l then 4 else 0
theorem PE(l:δ PP)(a:γ l<=4194304)(name:aC):asx FU l name=θ (yC l name):=by
 unfold asx yC;rw[Pc l a,aR];cases l.any λp=>p.1==name with
 |true=>rfl
 |false=>
  rw[aG,aA (show¬(ν=μ)by decide)];by_cases h:16<=γ l
  ·rw[aB aU,aB h]
  ·rw[aA aU,aA h]
theorem BA(l:δ PP)(k:Nat)(h:k<γ l):el l k∈l:=BB l k h
theorem Ux(l:δ PP)(e:γ l<=4194304)(c:∀p∈l,γ p.1<=4194304)(name:aC)(f:γ name<=4194304):bdr FU l name=θ (oh (l.findIdx? λp=>cN p.1==cN name)):=by
 have h:=Wq (λp:PP=>cN p.1==cN name) l e (ayh FU l name)
  (λd=>by rw[bbd,apy,aA aU])
  (λd k a h=>by have b:cN (el l (k:Int)).1=cN name:=aA7;have:=c _ (BA l k a);rw[bbd,apy,aB aU,aS aU,aS aU,YA _ aU,aR,YA _ aU,aR,aB b])
  (λd k a h=>by have b:¬cN (el l k).1=cN name:=aA7;have:=c _ (BA l k a);rw[bbd,apy,aB aU,aS aU,aS aU,YA _ aU,aR,YA _ aU,aR,aA b,dU])
 unfold bdr;rw[h];cases l.findIdx? _<;>rfl
theorem tZ(l:δ PP)(j:γ l<=4194304)(g:∀p∈l,γ p.1<=4194304)(name:aC)(i:γ name<=4194304)(f:∀p∈l,cN p.1=p.1)(d:cN name=name):IS FU l name=θ (yC l name):=by
 unfold IS yC;have e:l.any (λp=>p.1==name)=l.any (λp=>cN p.1==cN name):=by
  rw[cz,dS,dS];constructor
  ·rintro⟨p,a,h⟩;exact⟨p,a,by rw[f p a,d];exact h⟩
  ·rintro⟨p,a,h⟩;exact⟨p,a,by rw[f p a,d]at h;exact h⟩
 rw[Ux l j g name i,aR,e];have b:=HQ (λp:PP=>cN p.1==cN name) l;cases c:l.any _ with
 |true=>rw[c,aX]at b;rw[aB b,aB rfl]
 |false=>
  rw[c,bK]at b;rw[aA b,aA (show¬(ν=μ)by decide)];by_cases h:16<=γ l
  ·rw[aB aU,aB h]
  ·rw[aA aU,aA h]
def kG (s : aC) : Nat -> δ PP -> Nat -> δ PP × Int × ζ
  | 0,_,_ => ([],0,0)
  | f + 1,l,i =>
    if γ s <= bT bR s (i : Int) then (l,0,0)
    else if ¬ Κ s ((bT bR s (i : Int) : Nat) : Int) = 59 then ([],((bT bR s (i : Int) : Nat) : Int),5)
    else if (yX s (bT bR s ((bT bR s (i : Int) + 1 : Nat) : Int))).2.2.1 = 0 then
      (if yC l (yX s (bT bR s ((bT bR s (i : Int) + 1 : Nat) : Int))).1.1 = 0 then kG s f (l ++ [(yX s (bT bR s ((bT bR s (i : Int) + 1 : Nat) : Int))).1]) (yX s (bT bR s ((bT bR s (i : Int) + 1 : Nat) : Int))).2.2.2.2.toNat
       else ([],((bT bR s ((bT bR s (i : Int) + 1 : Nat) : Int) : Nat) : Int),yC l (yX s (bT bR s ((bT bR s (i : Int) + 1 : Nat) : Int))).1.1))
    else ([],(yX s (bT bR s ((bT bR s (i : Int) + 1 : Nat) : Int))).2.1,(yX s (bT bR s ((bT bR s (i : Int) + 1 : Nat) : Int))).2.2.1)
theorem low2:∀c:ζ,eQ (eQ c)=eQ c:=fP _ aA5
theorem lR(l:aC):cN (cN l)=cN l:=by unfold cN;rw[lK];apply er;intro c _;exact low2 c
theorem FM(s:aC)(n:γ s<=4194304)(b:Nat)(o:b<=γ s)(a:(yX s b).2.2.1=0):(yX s b).2.2.2.1=s/\b+1<=(yX s b).2.2.2.2/\(yX s b).2.2.2.2<=γ s+1/\cN (yX s b).1.1=(yX s b).1.1/\γ (yX s b).1.1<=γ s/\γ (yX s b).1.2.1<=90000000:=by
 have k:=Ci cL s b o;have f:=jD cL s (b:Int);unfold yX at a⊢;generalize r:bT cL s (b:Int)=t at k f a⊢;have i:=jD bR s (t:Int);have j:=Ci bR s t f;have c:γ (cN (sub s (b:Int) (t:Int)))<=γ s:=by unfold cN;rw[Gk,Hw];omega
 by_cases l:t=b
 ·rw[aB l]at a;exact absurd a (show¬((5:ζ)=0)by decide)
 ·rw[aA l]at a⊢;generalize q:bT bR s (t:Int)=y at j i a⊢;cases g:cV s y 61 with
  |false=>rw[aB rfl];exact⟨Τ,by simp only;omega,by simp only;omega,lR _,c,aA2⟩
  |true=>
   have m:=(wL g).1;rw[g]at a;rw[aA (show¬(μ=ν)by decide)];have h:=Ci bR s (y+1) aU;have d:=jD bR s ((y+1:Nat):Int);generalize p:bT bR s ((y+1:Nat):Int)=z at h d a⊢;by_cases e:(kB s z).2.2=0
   ·have:=OL s n z d;rw[aB e];exact⟨Τ,by simp only;have:=(this.2 e).1;omega,by simp only;exact(this.2 e).2,lR _,c,this.1⟩
   ·rw[aA e]at a;exact absurd a e
theorem VM(s:aC)(m:γ s<=4194304)(n:Nat):∀k e (l:δ PP),γ s-k<=n->n<e->k<=4194305->γ l<=16->
  apd FU e l s k=θ (kG s (n+1) l k):=by
 have L:¬(ν=μ):=aA1;induction n with
 |zero=>
  intro k e l w A z x;obtain⟨e,rfl⟩:=cB e;have u:=jD bR s k;have B:γ s<=bT bR s k:=by unfold bT Cv;omega
  rw[bcb,anv,vp s m,aR,nP,aR,aE aU,aM,kG,aB B]
 |succ n v=>
  intro k e l w A z x;obtain⟨e,rfl⟩:=cB e;have u:=jD bR s k;have p:=Ci bR s k;rw[kG,bcb,anv,vp s m,aR,nP,aR];generalize E:bT bR s k=j at u p⊢;by_cases t:γ s<=j
  ·rw[aE aU,aM,aB t]
  ·have y:k<=γ s:=by
    rcases tM (γ s) k with h|h
    ·exfalso;have:bT bR s k=γ s:=by have a:=jD bR s k;unfold bT Cv at a⊢;omega
     omega
    ·exact h
   rw[aD aU,aG,aA t,JN,aR];have o:j<γ s:=aA0;unfold cV;rw[aE o,Je];by_cases d:Κ s j=59
   ·have g:(Κ s j==59)=μ:=by simpa using d
    rw[g,eY,aG,aA aD5];simp only;rw[dU,vp s m,aR,bji];have f:=jD bR s (j+1:Nat);have q:=Ci bR s (j+1) aU;generalize F:bT bR s ((j+1:Nat):Int)=b at q f⊢;rw[WA s m b f,aR];by_cases i:(yX s b).2.2.1=0
    ·obtain⟨C,K,J,I,H,G⟩:=FM s m b f i;rw[aB i,aB i,PE l aU,aR,aR];by_cases c:yC l (yX s b).1.1=0
     ·have r:γ l<16:=by
       unfold yC at c;split at c
       ·exact absurd c aA1
       ·split at c
        ·exact absurd c aA1
        ·omega
      have D:(yX s b).2.2.2.2=(((yX s b).2.2.2.2.toNat:Nat):Int):=aA0;rw[aB c];rw[aB c,aS aA3,C,D];have:=v (yX s b).2.2.2.2.toNat e (l++[(yX s b).1]) aU aU aU aA3;congr 2
     ·rw[aA c];rw[aA c]
    ·rw[aA i,aA i,aR];rw[aA i]
   ·have g:(Κ s j==59)=ν:=by simpa using d
    rw[g,oF,aM,aB d]
def fM(s:aC):δ PP×Int×ζ:=kG s (γ s+1) [] 0
theorem Dt(s:aC)(a:γ s<=4194304):aka FU s=θ (fM s):=by exact VM s a (γ s) 0 FU [] aU aA4 aU aA2
theorem UF(p:ζ->η)(s:aC)(i:Int):bT p s ((bT p s i))=bT p s i:=by
 have g:=jD p s i;by_cases h:bT p s i<γ s
 ·refine KM p s _ h ?_;unfold bT at h⊢;generalize Cv i (γ s)=c at h⊢
  have:∀l:aC,cD p l<γ l->p (Κ l (cD p l))=ν:=by
   intro l;induction l with
   |nil=>intro h;simp at h
   |cons a l f=>
    intro h;cases b:p a with
    |false=>simp[cD,b,Κ]
    |true=>
     have e:cD p (a::l)=cD p l+1:=by simp[cD,b]
     rw[e]at h⊢;have:=f (by simp at h;omega);simpa [Κ] using this
  have d:=this (s.drop c) aB1;have e:Κ (s.drop c) (cD p (s.drop c))=Κ s ((c+cD p (s.drop c)):Int):=by simp only[Κ,bH,bV];congr 2
  rw[e]at d;exact d
 ·have:bT p s i=γ s:=by omega
  rw[this];exact Uo p s
def N8(j:(δ PP)⊕((δ PP)×Int×ζ)):ε ((δ PP)×Int×ζ):=dA (λa=>θ (a,0,0)) (λq=>θ q) j
theorem DZ(s:aC)(r:γ s<=4194304)(n:Nat):∀k e (l:δ PP),γ s-k<=n->n<e->k<=4194305->γ l<=16->(∀p∈l,cN p.1=p.1/\γ p.1<=4194304)->
  ((ane FU s e l ((bT bR s k))).bind N8)=θ (kG s (n+1) l k):=by
 have ff:¬(ν=μ):=aA1;induction n with
 |zero=>
  intro k e l S X V T D;obtain⟨e,rfl⟩:=cB e;have N:=jD bR s k;have Z:γ s<=bT bR s k:=by unfold bT Cv;omega
  rw[ber,arq,aA aU,kG,aB Z];rfl
 |succ n O=>
  intro k e l S X V T D;obtain⟨e,rfl⟩:=cB e;have N:=jD bR s k;have I:=Ci bR s k;rw[kG,ber,arq];by_cases J:γ s<=bT bR s k
  ·rw[aA aU,aB J];rfl
  ·have U:k<=γ s:=by
    rcases tM (γ s) k with h|h
    ·exfalso;have:bT bR s k=γ s:=by have a:=jD bR s k;unfold bT Cv at a⊢;omega
     omega
    ·exact h
   generalize hj:bT bR s k=j at N I J⊢;rw[aB aU,aA J,aS aU];have W:j<γ s:=aA0;by_cases g:Κ s j=59
   ·rw[aB g,aA aE2,dU,YD s r,aR,bji];have C:=jD bR s (j+1:Nat);have K:=Ci bR s (j+1) aU;generalize hb:bT bR s ((j+1:Nat):Int)=b at K C⊢;have H:=Ci cL s b C;have u:=jD cL s (b:Int);rw[aut s aU,aR];have app:∀(v:aC) (c:η) (Ο:Nat),(b:Int)+1<=(Ο:Int)->(Ο:Int)<=(γ s:Int)+1->∀nm:aC,cN nm=nm->γ nm<=4194304->
      (((IS FU l nm).bind λ(i:ζ)=>(if i=(0:ζ)then(gd ((γ l+γ ([(nm,v,c)]:δ PP))*40<=140737488355328)<|(ane FU s e (l++([(nm,v,c)]:δ PP)) ((bT bR s (Ο:Int):Nat):Int)))else θ (.inr (([]:δ PP),(b:Int),i)))).bind N8)=θ (if yC l nm=0 then kG s (n+1) (l++[(nm,v,c)]) Ο else([],(b:Int),yC l nm)):=by
     intro v c Ο R Q nm x A;rw[tZ l aU (λp d=>(D p d).2) nm A (λp d=>(D p d).1) x,aR];by_cases f:yC l nm=0
     ·have M:γ l<16:=by
       unfold yC at f;split at f
       ·exact absurd f aA1
       ·split at f
        ·exact absurd f aA1
        ·omega
      rw[aB f,aB f,aS aA3];exact O Ο e (l++[(nm,v,c)]) aU aU aU aA3 (λp d=>by
       rcases aV.1 d with h|h
       ·exact D p h
       ·rw[aH.1 h];exact⟨x,A⟩)
     ·rw[aA f,aA f];rfl
    unfold yX;generalize ht:bT cL s _=t at H u⊢;by_cases B:t=b
    ·rw[aB aU,aB B];rfl
    ·have F:=jD bR s t;have G:=Ci bR s t u;have m:γ (cN (sub s b t))<=4194304:=by unfold cN;rw[Gk,Hw];omega
     rw[aA aU,aA B,aS aU,YA _ aC4,aR,YD s r,aR];have hid:=UF bR s t;generalize hy:bT bR s _=y at G F hid⊢;rw[Lv,aR];cases L:cV s y 61 with
     |false=>rw[aB rfl];have:=app [] ν y aU aU _ (lR _) m;rw[hid]at this;exact this
     |true=>
      have P:=(wL L).1;rw[aA (show¬(μ=ν)by decide),dU,YD s r,aR,bji];have E:=Ci bR s (y+1) aU;have o:=jD bR s ((y+1:Nat):Int);generalize hz:bT bR s ((y+1:Nat):Int)=z at E o⊢;rw[C4 s r z o,aR];by_cases q:(kB s z).2.2=0
      ·have Y:=(OL s r z o).2 q;obtain⟨Ο,w⟩:∃Ο:Nat,(kB s z).2.1=(Ο:Int):=⟨(kB s z).2.1.toNat,aA0⟩;rw[aB q,YD s r,aR,aB q,w];have:=app (kB s z).1 μ Ο aU aU _ (lR _) m;exact this
      ·rw[aA q,aA q,aA q];rfl
   ·rw[aA g,aB g];rfl
theorem rH(s:aC)(a:γ s<=4194304):aoe FU s=θ (fM s):=by unfold aoe;rw[YD s a];exact DZ s a (γ s) 0 FU [] aU aA4 aU aA2 aA2
def kJ(s:aC):Nat:=if bT cL s 0=0 then 0 else if cV s (bT cL s 0) 47=μ then(if bT cL s ((bT cL s 0+1:Nat))=bT cL s 0+1 then 0 else bT cL s ((bT cL s 0+1:Nat)))else bT cL s 0
theorem R9(s:aC):kJ s<=γ s:=by
 have a:=jD cL s 0;have b:=jD cL s (bT cL s 0+1:Nat);unfold kJ;split
 ·omega
 ·split
  ·split<;>omega
  ·exact a
theorem Ot(s:aC)(e:γ s<=4194304):avb FU s=θ ((kJ s):Int):=by
 have d:=jD cL s 0;unfold avb kJ;rw[aut s aU,aR];generalize bT cL s 0=k at d⊢;by_cases c:k=0
 ·subst c;rfl
 ·rw[aA aU,aA c];by_cases f:k=γ s
  ·have:cV s k 47=ν:=by unfold cV;rw[aD aU];rfl
   rw[aB aU,aR,aM,this,aA aA1]
  ·rw[aA aU,aS aU,aR];unfold cV;rw[aE (show k<γ s by omega),Je];by_cases a:Κ s k=47
   ·rw[aE a,eY,aG,dU,aut s aU,aR,dU,bji,show(Κ s _==47)=μ by simpa using a,aB Τ];by_cases b:bT cL s (k+1:Nat)=k+1
    ·rw[aB aU,aB b];rfl
    ·rw[aA aU,aA b]
   ·rw[aD a,oF,aM,show(Κ s k==47)=ν by simpa using a,aA aA1]
def BS(v:aC):(aC×δ PP)×ζ:=
 if kJ (cI v)=0 then(([],[]),5)
 else if(fM ((cI v).drop (kJ (cI v)))).2.2=0 then(((cI v).take (kJ (cI v)),(fM ((cI v).drop (kJ (cI v)))).1),0)
 else(([],[]),(fM ((cI v).drop (kJ (cI v)))).2.2)
theorem UW(v:aC)(c:γ v<=4194304):bij FU v=θ (BS v):=by
 have g:=Tp v;unfold bij BS;rw[dx v c,aR,Ot _ aU,aR];have d:=R9 (cI v);generalize kJ _=e at d⊢;have f:(e:Int).toNat=e:=aA0;by_cases b:e=0
 ·rw[aB aU,aB b]
 ·rw[aA aU,aA b,aS aU,f,rH _ aB1,aR];by_cases a:(fM ((cI v).drop e)).2.2=0
  ·rw[aB a,aB a,aS aU]
  ·rw[aA a,aA a]
theorem mo(v:aC)(j:γ v<=4194304):bfr FU v=θ (BS v):=by
 have l:=Tp v;have i:=jD cL (cI v) 0;unfold bfr BS kJ;rw[lO v j,aR,oO _ aU,aR];generalize cI v=s at l i⊢;have d:∀e:Nat,e<=γ s->e≠0->dA (λ(a:Int)=>(gd (0<=a/\a<=(γ s:Int))<|((aka FU (cC (bL a) s)).bind λ(b:((δ PP)×Int×ζ))=>(if b.2.2=(0:ζ)then(gd (0<=a/\a<=(γ s:Int))<|some ((eN (bL a) s,b.1),(0:ζ)))else θ ((([]:aC),([]:δ PP)),b.2.2))))) (λq=>θ q) (.inl (e:Int):Int⊕((aC×δ PP)×ζ))=θ (if e=0 then(([],[]),5)else if(fM (s.drop e)).2.2=0 then((s.take e,(fM (s.drop e)).1),0)else(([],[]),(fM (s.drop e)).2.2)):=by
  intro e g c;have n:((e:Nat):Int).toNat=e:=aA0;rw[lB,aS aU,n,Dt _ aB1,aR,aA c];by_cases f:(fM (s.drop e)).2.2=0
  ·rw[aB f,aB f,aS aU]
  ·rw[aA f,aA f]
 generalize bT cL s 0=k at i⊢;by_cases c:k=0
 ·subst c;rfl
 ·rw[aA aU,Lv,aR,aA c];cases h:cV s k 47 with
  |true=>
   have o:=(wL h).1;have m:=jD cL s ((k+1:Nat):Int);have p:=Ci cL s (k+1) aU;rw[aM,dU,oO _ aU,aR,dU,bji,aB rfl];by_cases g:bT cL s ((k+1:Nat):Int)=k+1
   ·rw[aB aU,aB g];rfl
   ·rw[aA aU,aA g,aR,d _ m aU]
  |false=>rw[aG,aR,aA (show¬(ν=μ)by decide),d _ i c]
open Go.Lib renaming join → cK
open List renaming length → aL, take → eN
def Zf(s:aC):aC:=34::(s.flatMap wH++[34])
def xF(s:aC):aC×ζ:=if s.any dQ=μ then([],5)else(Zf s,0)
theorem VD(c:ζ):γ (wH c)<=2:=by unfold wH;split<;>simp
theorem bjl:∀s:aC,γ (s.flatMap wH)<=2*aL s
 |[]=>by simp
 |c::l=>by have b:=VD c;have a:=bjl l;rw[Rw,cE,cM];omega
theorem zd(s:aC)(u:aL s<=4194304)(l:aC):∀p d,s=p++l->aL l<d->
  alc FU s d (34::p.flatMap wH) (γ p)=θ (if l.any dQ=μ then .inr ([],5)else .inl (34::s.flatMap wH)):=by
 induction l with
 |nil=>intro p d h o;obtain⟨d,rfl⟩:=cB d;rw[gH]at h;subst h;rw[bhc,aud,aA aU];rfl
 |cons c l q=>
  intro p d h o;obtain⟨d,rfl⟩:=cB d;have r:=bA aL h;simp at r o;have n:(0:Int)<=(aL p:Int)/\(aL p:Int)<(aL s:Int):=aA0;have t:Κ s (aL p:Int)=c:=aE1;have v:=bjl p;have k:=q (p++[c]) d aA6 aU;rw[NW,iT]at k;rw[bhc,aud,aB n.2,aS n,t,bhx,aR,Xr];cases w:dQ c with
  |true=>rw[aM,iU,aB rfl]
  |false=>
   rw[aG,CI];have a:∀b:η,wH c=(bif b then [92,c]else [c])->(bif b then gd ((γ (34::p.flatMap wH)+γ ([(92:ζ)]:δ ζ))*1<=140737488355328) (θ ((34::p.flatMap wH)++([(92:ζ)]:δ ζ)))else θ (34::p.flatMap wH))=θ ((34::p.flatMap wH)++(bif b then [92]else [])):=by
    intro b _;cases b with
    |true=>rw[aM,aM,aS aB9]
    |false=>rw[aG,aG,gH]
   have j:∀b:η,wH c=(bif b then [92,c]else [c])->((θ ((34::p.flatMap wH)++(bif b then [92]else []))).bind λ(i:δ ζ)=>(gd (0<=(aL p:Int)/\(aL p:Int)<(aL s:Int))<|(gd ((aL i+γ ([c]:δ ζ))*1<=140737488355328)<|(gd (bJ ((aL p:Int)+(1:Int)))<|(alc FU s d (i++([c]:δ ζ)) ((aL p:Int)+(1:Int)))))))=θ (if l.any dQ=μ then .inr ([],5)else .inl (34::s.flatMap wH)):=by intro b m;rw[aR,aS n,aS (by cases b<;>simp only[aM,aG,cE,cM,iH]<;>omega),aS (bW _ aU aU),<-k,m];cases b<;>simp
   by_cases g:c=34
   ·have e:wH c=(bif μ then [92,c]else [c]):=by rw[g];rfl
    rw[aB g,aR,a μ e,j μ e]
   ·rw[aA g,aR];by_cases f:c=92
    ·have e:wH c=(bif μ then [92,c]else [c]):=by rw[f];rfl
     rw[aE f,a μ e,j μ e]
    ·have e:wH c=(bif ν then [92,c]else [c]):=by unfold wH;rw[aA (by simp[g,f])];rfl
     rw[aD f,a ν e,j ν e]
theorem V5{p:Prop}{b:Decidable p}(h:p){x:ε a}: @gd _ p b x=x:=by unfold gd;exact aB h
theorem Mi(s:aC)(b:aL s<=4194304):awl FU s=θ (xF s):=by
 have:=zd s b s [] FU aA2 aA4;have a:alc FU s FU ([]++[34]) (0:Int)=_:=this;have c:=bjl s;unfold awl xF;rw[aS (bW _ aU aU),V5 aU,aS aA1,a,aR];cases s.any dQ with
 |true=>rfl
 |false=>rw[aA (show¬(ν=μ)by decide),lB,aS aB9];rfl
theorem I9(s:aC)(u:aL s<=4194304)(l:aC):∀(p:aC) (d:Nat),s=p++l->aL l<d->
  alb FU s d (34::p.flatMap wH) (aL p:Int)=θ (if l.any dQ=μ then .inr ([],5)else .inl (34::s.flatMap wH)):=by
 induction l with
 |nil=>intro p d h n;obtain⟨d,rfl⟩:=cB d;rw[gH]at h;subst h;rw[bha,atz,aA aU];rfl
 |cons c l q=>
  intro p d h n;obtain⟨d,rfl⟩:=cB d;have r:=bA aL h;simp only[cE,cM]at r n;have o:(0:Int)<=(aL p:Int)/\(aL p:Int)<(aL s:Int):=aA0;have t:Κ s (aL p:Int)=c:=aE1;have v:=bjl p;have k:=q (p++[c]) d aA6 aU;rw[<-Xk p c,NW,iT]at k;rw[bha,atz,aB o.2];simp only[aS o,t];rw[qp,aR,Xr];cases w:dQ c with
  |true=>rw[aM,iU,aB rfl]
  |false=>
   rw[aG,CI];have a:∀b:η,wH c=(bif b then [92,c]else [c])->(bif b then gd ((γ (34::p.flatMap wH)+γ ([(92:ζ)]:δ ζ))*1<=140737488355328) (θ ((34::p.flatMap wH)++([(92:ζ)]:δ ζ)))else θ (34::p.flatMap wH))=θ ((34::p.flatMap wH)++(bif b then [92]else [])):=by
    intro b _;cases b with
    |true=>rw[aM,aM,aS aB9]
    |false=>rw[aG,aG,gH]
   have j:∀b:η,wH c=(bif b then [92,c]else [c])->((θ ((34::p.flatMap wH)++(bif b then [92]else []))).bind λ(i:δ ζ)=>(gd ((aL i+γ ([c]:δ ζ))*1<=140737488355328)<|(gd (bJ ((aL p:Int)+(1:Int)))<|(alb FU s d (i++([c]:δ ζ)) ((aL p:Int)+(1:Int))))))=θ (if l.any dQ=μ then .inr ([],5)else .inl (34::s.flatMap wH)):=by intro b m;rw[aR,aS (by cases b<;>simp only[aM,aG,cE,cM,iH]<;>omega),aS (bW _ aU aU),<-k,m];cases b<;>simp
   by_cases g:c=34
   ·have e:wH c=(bif μ then [92,c]else [c]):=by rw[g];rfl
    rw[aB g,aR,a μ e,j μ e]
   ·rw[aA g,aR];by_cases f:c=92
    ·have e:wH c=(bif μ then [92,c]else [c]):=by rw[f];rfl
     rw[aE f,a μ e,j μ e]
    ·have e:wH c=(bif ν then [92,c]else [c]):=by unfold wH;rw[aA (by simp[g,f])];rfl
     rw[aD f,a ν e,j ν e]
theorem Lw(s:aC)(b:aL s<=4194304):bbh FU s=θ (xF s):=by
 have:=I9 s b s [] FU aA2 aA4;have a:alb FU s FU ([(34:ζ)]:δ ζ) (0:Int)=_:=this;have c:=bjl s;unfold bbh xF;rw[a,aR];cases s.any dQ with
 |true=>rfl
 |false=>rw[aA (show¬(ν=μ)by decide),lB,aS aB9,aA (show¬(ν=μ)by decide)];rfl
theorem bkt(s:aC):γ (Zf s)<=2*aL s+2:=by have:=bjl s;unfold Zf;rw[cM,cE,eG];omega
theorem Af(s:aC)(d:aL s<=4194304):vv FU s=θ (!s.any dQ):=by
 have h:=nW (λc=> !dQ c) s d ν (avz FU s)
  (λb=>by rw[azd,amx,aA aU])
  (λb k f h=>by have a:dQ (Κ s (k:Int))=μ:=aA7;rw[azd,amx,aB aU,dU,qp,aR,a,aM])
  (λb k f h=>by have a:dQ (Κ s (k:Int))=ν:=aA7;rw[azd,amx,aB aU,dU,qp,aR,a,aG,dU])
 unfold vv;rw[h,aR];have e:s.all (λc=> !dQ c)= !s.any dQ:=by rw[JB]
 rw[e];cases s.any dQ<;>rfl
theorem xy:∀c:ζ,cL c=μ->dQ c=ν:=fP _ aA5
theorem hex_nc:∀c:ζ,fW c=μ->dQ (eQ c)=ν:=fP _ aA5
theorem lab_nc:∀c:ζ,jW c=μ->dQ (eQ c)=ν:=fP _ aA5
theorem dig_nc:∀c:ζ,fZ c=μ->dQ c=ν:=fP _ aA5
theorem vu(l:aC)(h:∀c∈l,dQ c=ν):l.any dQ=ν:=by rw[dC];intro c a;rw[h c a];decide
theorem S4(s:aC)(h:jG s=μ):s.any dQ=ν:=by unfold jG at h;rw[lX]at h;exact vu s λc a=>xy c (aT.1 h.2 c a)
theorem nt(g:aC)(h:qM g=μ):∀c∈jL g,dQ c=ν:=by
 have hx:g.all fW=μ:=by unfold qM at h;simp only[lX]at h;exact h.2
 intro c a;unfold jL at a;split at a
 ·rw[aH.1 a];decide
 ·have b:=(wP _).subset a;obtain⟨d,e,rfl⟩:=dW.1 b;exact hex_nc d (aT.1 hx d e)
theorem Ju:∀(l:δ aC),(∀x∈l,∀c∈x,dQ c=ν)->∀c∈cK l [58],dQ c=ν
 |[],_,c,d=>by simp[cK]at d
 |[a],h,c,d=>by simp[cK]at d;exact h a aA2 c d
 |a::b::l,h,c,d=>by
  rcases aV.1 d with d|d
  ·exact h a aA2 c d
  ·rcases aQ.1 d with rfl|d
   ·decide
   ·exact Ju _ (λx hx=>h x (fB _ hx)) c d
theorem Pf(s:aC):∀x∈(zA s).1,∀c∈x,dQ c=ν:=by
 intro x hx;unfold zA at hx;split at hx
 ·rename_i b;obtain⟨y,a,rfl⟩:=dW.1 hx;exact nt y (aT.1 b y a)
 ·simp at hx
theorem HA(s:aC):∀x∈(iA s).1,∀c∈x,dQ c=ν:=by
 intro x hx;unfold iA at hx;split at hx
 ·simp at hx
 ·exact Pf s x hx
theorem U7(s:aC):∀c∈(yW s).1,dQ c=ν:=by
 intro c a;unfold yW at a;split at a
 ·simp at a
 ·split at a
  ·exact Ju _ (Pf s) c a
  ·split at a
   ·simp at a
   ·rcases aV.1 a with a|a
    ·rcases aV.1 a with a|a
     ·exact Ju _ (HA _) c a
     ·have b:c=58:=by simpa using a
      rw[b];decide
    ·exact Ju _ (HA _) c a
theorem T5(s:aC):((eM s).1).any dQ=ν:=by
 refine vu _ λc a=> ?_;unfold eM at a;split at a
 ·split at a
  ·rcases aV.1 a with a|a
   ·rcases aV.1 a with a|a
    ·rw[aH.1 a];decide
    ·exact U7 _ c a
   ·rw[aH.1 a];decide
  ·simp at a
 ·split at a
  ·rename_i b;unfold Kd at b;simp only[lX]at b;rcases py 46 fZ s (λx hx=>(bjn x (by rw[<-uD];exact aT.1 b.1.2 x hx)).2.2) c a with h|h
   ·exact dig_nc c h
   ·rw[h];decide
  ·split at a
   ·rename_i b;unfold JL at b;simp only[lX]at b;obtain⟨d,e,rfl⟩:=dW.1 a;rcases py 46 jW s (λx hx=>by have:=aT.1 b.1.2 x hx;unfold Fp at this;simp only[lX]at this;exact this.2) d e with h|h
    ·exact lab_nc d h
    ·rw[h];decide
   ·simp at a
def YW(v:aC):η:=(eM v).2&&decide ((eM v).1=v)&&(Κ v 0==91)
def CL(pre:δ PP)(p:PP):η:=jG p.1&&decide (cN p.1=p.1)&& !(pre.any λq=>q.1==p.1)
def Zx(p:PP):η:=bif p.2.2 then !p.2.1.any dQ else decide (p.2.1=[])
def Ue(p:PP):aC:=bif p.2.2 then 61::(bif jG p.2.1||YW p.2.1 then p.2.1 else Zf p.2.1)else []
def Rq:δ PP->δ PP->ε aC
 |_,[]=>θ []
 |pre,p::r=>bif CL pre p&&Zx p then(Rq (pre++[p]) r).map λt=>59::(p.1++(Ue p++t))else ι
def rR(l:δ PP):aC×ζ:=if 16<aL l then([],2)else match Rq [] l with|some t=>(t,0)|none=>([],2)
theorem brV_nc(v:aC)(h:YW v=μ):v.any dQ=ν:=by unfold YW at h;simp at h;rw[<-h.1.2];exact T5 v
theorem RF(v:aC)(h:(eM v).2=μ)(a:(eM v).1=v):v≠[]:=by intro e;subst e;exact absurd h aA1
theorem Yb(p:PP)(a:aL p.2.1<=4194304):γ (Ue p)<=8388611:=by
 have:=bkt p.2.1;unfold Ue;cases p.2.2 with
 |false=>simp
 |true=>
  rw[aM,cM];cases(jG p.2.1||YW p.2.1)with
  |true=>rw[aM];omega
  |false=>rw[aG];omega
theorem pp_lp(l:δ PP)(J:aL l<=16)(G:∀p∈l,aL p.1<=4194304/\γ p.2.1<=4194304)(r:δ PP):∀pre b (out:aC),l=pre++r->aL r<b->aL out<=aL pre*16000000->
  aeq FU l b (γ pre) () out=θ (match Rq pre r with|some t=>.inl ((),out++t)|none=>.inr ([],2)):=by
 induction r with
 |nil=>intro pre b out h B E;obtain⟨b,rfl⟩:=cB b;rw[gH]at h;rw[avg,aif,aA aC6];simp[Rq]
 |cons p r D=>
  intro pre b out h B E;obtain⟨b,rfl⟩:=cB b;have n:=bA aL h;simp only[cE,cM]at n B;have g:(0:Int)<=(aL pre:Int)/\(aL pre:Int)<(aL l:Int):=aA0;have F:el l (aL pre:Int)=p:=aB2;have x:eN (bL (aL pre:Int)) l=pre:=aA6
  have c:=G p aA6;have H:=Yb p c.2;have f:bJ ((aL pre:Int)+1):=bW _ aU aU;have next:∀o:aC,o=out++(59::(p.1++Ue p))->CL pre p=μ->Zx p=μ->aeq FU l b ((aL pre:Int)+1) () o=θ (match Rq pre (p::r)with|some t=>.inl ((),out++t)|none=>.inr ([],2)):=by
   intro o m w k;have s:=D (pre++[p]) b o aA6 aU (by rw[m];simp only[cE,cM,iH];omega);rw[show(γ (pre++[p]):Int)=(aL pre:Int)+1 by simp]at s;rw[s,Rq,w,k,Je,aM];cases Rq (pre++[p]) r with
   |none=>rfl
   |some t=>rw[m];simp
  have a:CL pre p=ν\/Zx p=ν->Rq pre (p::r)=ι:=by
   rintro(h|h)
   ·rw[Rq,h];rfl
   ·rw[Rq,h,eL];rfl
  rw[avg,aif,aB g.2,aS g,aS g,F,vj _ aU,aR];cases w:jG p.1 with
  |false=>rw[a (.inl (by unfold CL;rw[w];rfl))];rfl
  |true=>
   rw[eY,aG,du _ c.1,aR];by_cases k:p.1=cN p.1
   ·rw[aB k,aS aU,x,Pc pre aU,aR,aR];cases C:pre.any λq=>q.1==p.1 with
    |true=>rw[a (.inl (by unfold CL;rw[C];simp))];rfl
    |false=>
     have A:CL pre p=μ:=by unfold CL;rw[w,C,aE k.symm];rfl
     rw[aG,aS aA3];unfold CO;rw[aS aA3,aR];simp only;cases j:p.2.2 with
     |false=>
      rw[oF,aM];by_cases d:p.2.1=[]
      ·have z:Zx p=μ:=by unfold Zx;rw[j];exact aE d
       rw[aB d,aS f];refine next _ ?_ A z
       have:Ue p=[]:=by unfold Ue;rw[j];rfl
       rw[this];simp
      ·have z:Zx p=ν:=by unfold Zx;rw[j];exact aD d
       rw[aA d,a (.inr z)]
     |true=>
      have i:Zx p= !p.2.1.any dQ:=by unfold Zx;rw[j];rfl
      rw[eY,aG,bke _ c.2,aR,vj _ aU,aR];have e:(bif (!jG p.2.1)then(bif (eM p.2.1).2 then(if(eM p.2.1).1=p.2.1 then(gd (0<=(0:Int)/\(0:Int)<(aL p.2.1:Int))<|some (!decide ((Κ p.2.1 (0:Int))=(91:ζ))))else θ μ)else θ μ)else θ ν)=θ (!(jG p.2.1||YW p.2.1)):=by
       unfold YW;cases jG p.2.1 with
       |true=>rfl
       |false=>
        rw[oF];cases v:(eM p.2.1).2 with
        |false=>rfl
        |true=>
         rw[aM];by_cases u:(eM p.2.1).1=p.2.1
         ·have:=bN.2 (RF p.2.1 v u);rw[aB u,aE u,aS aU];rfl
         ·rw[aA u,aD u];rfl
      rw[e,aR];cases d:(jG p.2.1||YW p.2.1)with
      |true=>
       have y:p.2.1.any dQ=ν:=by
        rcases Bool.or_eq_true_iff.1 d with h|h
        ·exact S4 _ h
        ·exact brV_nc _ h
       rw[eY,aG,aR,lB,aS aA3,aS aA3,aR,aS f];refine next _ ?_ A (by rw[i,y];rfl)
       have:Ue p=61::p.2.1:=by unfold Ue;rw[j,d];rfl
       rw[this];simp
      |false=>
       rw[oF,aM,Mi _ c.2,aR];unfold xF;have I:=bkt p.2.1;cases v:p.2.1.any dQ with
       |true=>rw[aB rfl,aA (show¬((5:ζ)=0)by decide),aR,Rt,a (.inr (by rw[i,v];rfl))]
       |false=>
        rw[aA (show¬(ν=μ)by decide),aB Τ,aR,lB];simp only;rw[aS aA3,aS aA3,aR,aS f];refine next _ ?_ A (by rw[i,v];rfl)
        have:Ue p=61::Zf p.2.1:=by unfold Ue;rw[j,d];rfl
        rw[this];simp
   ·rw[aA k,aR,aM,a (.inl (by unfold CL;rw[aD (λh=>k h.symm)];simp))]
theorem Zm:∀r pre t,(∀p∈r,aL p.1<=4194304/\γ p.2.1<=4194304)->Rq pre r=θ t->aL t<=aL r*16000000
 |[],_,t,_,h=>by simp[Rq]at h;subst h;simp
 |p::r,pre,t,c,h=>by
  rw[Rq]at h;cases b:CL pre p&&Zx p with
  |false=>rw[b]at h;cases h
  |true=>rw[b,aM,bU]at h;obtain⟨u,d,rfl⟩:=h;have:=Zm r _ u (λq e=>c q (fB _ e)) d;have a:=c p gQ;have f:=Yb p a.2;simp;omega
theorem biv(l:δ PP)(b:∀p∈l,aL p.1<=4194304/\γ p.2.1<=4194304):YH FU l=θ (rR l):=by
 unfold YH rR;by_cases h:16<aL l
 ·rw[aB aU,aB h]
 ·have:=pp_lp l aU b l [] FU [] aA2 aA4 aA2;have a:aeq FU l FU 0 () []=_:=this;rw[aA aU,aA h,a,aR];cases c:Rq [] l with
  |none=>rfl
  |some t=>have:=Zm l [] t b c;simp;rw[aS aU]
open Go.Op renaming bytesLess → qS
theorem pq(v:aC)(b:aL v<=4194304):apz FU v=θ (YW v):=by
 unfold apz YW;rw[bfx v b,aR];cases c:(eM v).2 with
 |false=>rfl
 |true=>
  by_cases a:(eM v).1=v
  ·have:=bN.2 (RF v c a);rw[aB a,aE a,aS aU];rfl
  ·rw[aA a,aD a];rfl
def JG:δ PP->δ PP->ε aC
 |_,[]=>θ []
 |pre,p::r=>bif CL pre p&&Zx p&&decide (aL pre<16)then(JG (pre++[p]) r).map λt=>59::(p.1++(Ue p++t))else ι
theorem M5:∀r pre,aL pre+aL r<=16->JG pre r=Rq pre r
 |[],_,_=>rfl
 |p::r,pre,h=>by simp at h;rw[JG,Rq,aE (show γ pre<16 by omega),oB,M5 r _ aA3]
theorem ET:∀r pre,aL pre<=16->16<aL pre+aL r->JG pre r=ι
 |[],pre,b,a=>by simp at a;omega
 |p::r,pre,b,a=>by
  simp at a;rw[JG];by_cases h:aL pre<16
  ·rw[ET r _ aA3 aA3];cases(CL pre p&&Zx p&&decide (aL pre<16))<;>rfl
  ·rw[aD h,eL];rfl
theorem tq(pre:δ PP)(nm:aC):(yC pre nm=0)↔((pre.any λq=>q.1==nm)=ν/\γ pre<16):=by
 unfold yC;cases pre.any λq=>q.1==nm with
 |true=>simp
 |false=>
  by_cases h:16<=aL pre
  ·rw[aB h];simp;omega
  ·rw[aA h];simp;omega
theorem iv(l:δ PP)(X:aL l<=100)(O:∀p∈l,aL p.1<=4194304/\γ p.2.1<=4194304)(r:δ PP):∀pre d out,l=pre++r->aL r<d->aL out<=aL pre*16000000->(∀q∈pre,cN q.1=q.1)->
  afm FU l d out (γ pre)=θ (match JG pre r with|some t=>.inl (out++t)|none=>.inr ([],2)):=by
 induction r with
 |nil=>intro pre d out h N S a;obtain⟨d,rfl⟩:=cB d;rw[gH]at h;rw[axy,ajt,aA aC6];simp[JG]
 |cons p r Q=>
  intro pre d out h N S a;obtain⟨d,rfl⟩:=cB d;have B:=bA aL h;simp only[cE,cM]at B N;have j:(0:Int)<=(aL pre:Int)/\(aL pre:Int)<(aL l:Int):=aA0;have C:(0:Int)<=(aL pre:Int)/\(aL pre:Int)<=(aL l:Int):=aA0;have T:el l (aL pre:Int)=p:=aB2;have G:eN (bL (aL pre:Int)) l=pre:=aA6
  have b:=O p aA6;have V:=Yb p b.2;have W:=bkt p.2.1;have i:bJ ((aL pre:Int)+1):=bW _ aU aU;have next:∀o:aC,o=out++(59::(p.1++Ue p))->CL pre p=μ->Zx p=μ->aL pre<16->afm FU l d o ((aL pre:Int)+1)=θ (match JG pre (p::r)with|some t=>.inl (out++t)|none=>.inr ([],2)):=by
   intro o A F m k;have I:cN p.1=p.1:=by unfold CL at F;simp only[lX,aX]at F;exact F.1.2
   have D:=Q (pre++[p]) d o aA6 aU (by rw[A];simp only[cE,cM,iH];omega) (λq g=>by
    rcases aV.1 g with hx|hx
    ·exact a q hx
    ·rw[aH.1 hx];exact I)
   rw[show(γ (pre++[p]):Int)=(aL pre:Int)+1 by simp]at D;rw[D,JG,F,m,aE k,Je,Je,aM];cases JG (pre++[p]) r with
   |none=>rfl
   |some t=>rw[A];simp
  have U:CL pre p=ν\/Zx p=ν\/¬γ pre<16->JG pre (p::r)=ι:=by
   rintro(h|h|h)
   ·rw[JG,h];rfl
   ·rw[JG,h,eL];rfl
   ·rw[JG,aD h,eL];rfl
  have M:(((bp FU p.1).bind λ(z:η)=>(bif (!z)then θ μ else((IU FU p.1).bind λ(y:aC)=>(if y=p.1 then((vv FU p.2.1).bind λ(x:η)=>(bif (!x)then θ μ else(bif (!p.2.2)then(if p.2.1=([]:aC)then(gd (0<=(aL pre:Int)/\(aL pre:Int)<=(aL l:Int))<|((IS FU pre p.1).bind λ(w:ζ)=>θ (!decide (w=(0:ζ)))))else θ μ)else(gd (0<=(aL pre:Int)/\(aL pre:Int)<=(aL l:Int))<|((IS FU pre p.1).bind λ(v:ζ)=>θ (!decide (v=(0:ζ))))))))else θ μ)))))=θ (!(CL pre p&&Zx p&&decide (aL pre<16))):=by
   rw[bch _ aU,aR,YA _ aU,aR,Af _ b.2];unfold CL Zx;cases F:jG p.1 with
   |false=>rfl
   |true=>
    rw[eY,aG,Je];by_cases m:cN p.1=p.1
    ·have f:=tZ pre aU (λq g=>(O q (by rw[h];simp[g])).1) p.1 b.1 a m;have H:=tq pre p.1;have R:θ (!decide (yC pre p.1=0))=θ (!(!(pre.any λq=>q.1==p.1)&&decide (aL pre<16))):=by congr 2;rw[cz,aX,H];simp
     rw[aB m,aR,aE m,Je,aS C,f,aR,R,NS];cases k:p.2.2 with
     |false=>
      rw[aG];by_cases L:p.2.1=[]
      ·rw[L,aE rfl,oB];rfl
      ·rw[aA L,aD L,eL];cases p.2.1.any dQ<;>rfl
     |true=>
      rw[eY,aG,aM];cases p.2.1.any dQ with
      |true=>rw[eY,eL];rfl
      |false=>rw[aG,oF,oB]
    ·rw[aA m,aD m];rfl
  rw[axy,ajt,aB j.2,aS j,aS j,T,G,M,aR];cases c:(CL pre p&&Zx p&&decide (aL pre<16))with
  |false=>
   have E:JG pre (p::r)=ι:=by rw[JG,c];rfl
   rw[oF,aM,E]
  |true=>
   simp at c;obtain⟨⟨K,s⟩,n⟩:=c;rw[eY,aG,aS aA3,aS aA3];cases k:p.2.2 with
   |false=>
    rw[aG,aR,aG,aS i];refine next _ ?_ K s n
    have:Ue p=[]:=by unfold Ue;rw[k];rfl
    rw[this];simp
   |true=>
    rw[aM,bch _ aU,aR];have e:(bif jG p.2.1 then θ μ else(apz FU p.2.1).bind λ(u:η)=>θ u)=θ (jG p.2.1||YW p.2.1):=by rw[pq _ b.2];cases jG p.2.1<;>rfl
    rw[e,aR];cases P:(jG p.2.1||YW p.2.1)with
    |true=>
     rw[aS aA3,aS aA3,aS i];refine next _ ?_ K s n
     have:Ue p=61::p.2.1:=by unfold Ue;rw[k,P];rfl
     rw[this];simp
    |false=>
     have J:p.2.1.any dQ=ν:=by unfold Zx at s;rw[k]at s;simpa using s
     rw[aG,Lw _ b.2,aR];unfold xF;rw[J,aA (show¬(ν=μ)by decide)];simp only;rw[aS aA3,aS aA3,aS i];refine next _ ?_ K s n
     have:Ue p=61::Zf p.2.1:=by unfold Ue;rw[k,P];rfl
     rw[this];simp
theorem bdx(l:δ PP)(b:aL l<=100)(c:∀p∈l,aL p.1<=4194304/\γ p.2.1<=4194304):aim FU l=θ (rR l):=by
 have:=iv l b c l [] FU [] aA2 aA4 aA2 aA2;have a:afm FU l FU [] 0=_:=this;unfold aim rR;rw[a];by_cases h:16<aL l
 ·rw[aB h,ET l [] aA2 aA7];rfl
 ·rw[aA h,M5 l [] aA3];cases Rq [] l<;>rfl
theorem Zl(x:PP):(x.1,x.2.1,x.2.2)=x:=rfl
theorem rX:∀x y:aC,qS x y= !(qS y x||y==x)
 |[],[]=>rfl
 |[],b::y=>rfl
 |a::x,[]=>rfl
 |a::x,b::y=>by
  have g:=rX x y;rw[qS,qS,g];rcases Nat.lt_trichotomy a.toNat b.toNat with h|h|h
  ·have f:a<b:=h;have d:¬b<a:=by rw[et];omega
   have c:¬a=b:=λe=>by subst e;omega
   have i:(b::y==a::x)=ν:=by simp;intro e;exact absurd e.symm c
   rw[i];simp[f,d];exact .inl λe=>c e.symm
  ·have e:=jE.1 h;subst e;simp
  ·have f:b<a:=h;have d:¬a<b:=by rw[et];omega
   have c:¬a=b:=λe=>by subst e;omega
   simp[f,d,c]
def WO(a b:aC):η:= !(qS a b||a==b)
def Ey(x:PP):δ PP->δ PP
 |[]=>[x]
 |a::V=>bif WO a.1 x.1 then a::Ey x V else x::a::V
def nM(x:PP)(l:δ PP):δ PP:=(Ey x l.reverse).reverse
theorem We(x a:PP)(l:δ PP):nM x (l++[a])=bif WO a.1 x.1 then nM x l++[a]else l++[a,x]:=by unfold nM;rw[List.reverse_append,List.reverse_singleton,jM,Ey];cases WO a.1 x.1<;>simp
theorem GQ(x:PP):∀V:δ PP,γ (Ey x V)=aL V+1
 |[]=>rfl
 |a::V=>by
  rw[Ey];cases WO a.1 x.1 with
  |true=>rw[aM,cM,GQ x V,cM]
  |false=>rfl
theorem Ox(x:PP)(l:δ PP):γ (nM x l)=aL l+1:=by unfold nM;rw[List.length_reverse,GQ,List.length_reverse]
theorem Ow(x y:PP):∀V:δ PP,y∈Ey x V->y=x\/y∈V
 |[],h=>by left;simpa [Ey] using h
 |a::V,h=>by
  rw[Ey]at h;cases b:WO a.1 x.1 with
  |true=>
   rw[b]at h;rcases aQ.1 h with rfl|h
   ·right;simp
   ·rcases Ow x y V h with h|h
    ·exact .inl h
    ·right;simp[h]
  |false=>
   rw[b]at h;rcases aQ.1 h with rfl|h
   ·left;rfl
   ·right;exact h
theorem S8(x y:PP)(l:δ PP)(h:y∈nM x l):y=x\/y∈l:=by
 rcases Ow x y _ (List.mem_reverse.1 h)with h|h
 ·exact .inl h
 ·exact .inr (List.mem_reverse.1 h)
def fS(l:δ PP):δ PP:=l.foldl (λout x=>nM x out) []
theorem HH:∀(q p:δ PP),γ (q.foldl (λout x=>nM x out) p)=aL p+aL q
 |[],p=>by simp
 |a::q,p=>by rw[Gf,HH q,Ox,cM];omega
theorem HG(y:PP):∀(q p:δ PP),y∈q.foldl (λout x=>nM x out) p->y∈p\/y∈q
 |[],p,h=>.inl h
 |a::q,p,h=>by
  rcases HG y q _ h with h|h
  ·rcases S8 a y p h with h|h
   ·right;simp[h]
   ·exact .inl h
  ·right;simp[h]
theorem bjv(l:δ PP):γ (fS l)=aL l:=by unfold fS;rw[HH];simp
theorem vk(l:δ PP)(y:PP)(h:y∈fS l):y∈l:=by
 rcases HG y l [] h with h|h
 ·simp at h
 ·exact h
theorem KV(l:δ PP)(out:δ PP)(i:Int)(x:PP)(hx:el l i=x)(c:0<=i/\i<aL l)(r:aL out<=4194304)(n:Nat):∀a,n<=aL out->n<a->
  ∃k:Nat,k<=n/\anc FU l out i a n=θ (k:Int)/\(out.take n).take k++([x]++(out.take n).drop k)=nM x (out.take n):=by
 induction n with
 |zero=>intro a j o;obtain⟨a,rfl⟩:=cB a;exact⟨0,dK _,by rw[axb];rfl,Τ⟩
 |succ n d=>
  intro a j o;obtain⟨a,rfl⟩:=cB a;have e:((n+1:Nat)-1)=(n:Int):=aA0;have b:n<aL out:=aA0;have g:out.take (n+1)=out.take n++[el out (n:Int)]:=wW out n b;rw[axb,arp,aB aU,e,aS (bW _ aU aU),aS aU,aS aU,aS c,aS c,hx,aR,g,We];have m:(!(qS (el out _).1 x.1||(el out n).1==x.1))=WO (el out _).1 x.1:=Τ;rw[m];have f:γ (out.take n)=n:=aB3;cases h:WO (el out _).1 x.1 with
  |true=>obtain⟨k,s,q,p⟩:=d a aU aU;refine⟨k,aA0,by rw[aM,aS (bW _ aU aU),q],?_⟩;rw[<-p,iE aU,iG aU];simp
  |false=>refine⟨n+1,dK _,by rw[aG],?_⟩;rw[eX aA3,Da aA3];simp
theorem US(l:δ PP)(r:aL l<=4194304)(q:δ PP):∀p c (out:δ PP),l=p++q->aL q<c->aL out=aL p->
  ajs FU l c out (γ p)=θ (q.foldl (λout x=>nM x out) out):=by
 induction q with
 |nil=>intro p c out h e j;obtain⟨c,rfl⟩:=cB c;rw[gH]at h;rw[axc,als,aA aC6];rfl
 |cons a q i=>intro p c out h e j;obtain⟨c,rfl⟩:=cB c;have d:=bA aL h;simp at d e;have b:(0:Int)<=(aL p:Int)/\(aL p:Int)<(aL l:Int):=aA0;have f:el l (aL p:Int)=a:=aB2;obtain⟨k,s,n,g⟩:=KV l out (aL p:Int) a f b aU (γ out) FU (dK _) aA4;rw[hC]at g;have o:((k:Nat):Int).toNat=k:=aA0;have m:=Ox a out;rw[axc,als,aB b.2,n,aR,aS aU,o,aS aA3,aS b,aS b,f];simp only[Ic];rw[aS aA3,aS aU,aS aA3,aR,aS (bW _ aU aU),jI,g];have:=i (p++[a]) c (nM a out) aA6 aU aB5;rw[show(γ (p++[a]))=aL p+1 by simp]at this;exact this
theorem bcg(l:δ PP)(b:aL l<=4194304):ee FU l=θ (fS l):=by have:=US l b l [] FU [] aA2 aA4 Τ;have a:ajs FU l FU [] 0=_:=this;unfold ee;rw[a];rfl
open List renaming length → aL, set → jH
def pe(a b:aC):Int:=bif qS a b then-1 else bif !(qS a b||a==b)then 1 else 0
theorem hs1_eq(fu:Nat)(x y:PP):auj fu x y=θ (pe x.1 y.1):=by
 unfold auj aoy auh pe;rw[aR,aR,aE rfl,aE rfl,eY,aG,aG];cases qS x.1 y.1 with
 |true=>rfl
 |false=>rw[aG,aG];cases(!(ν||x.1==y.1))<;>rfl
theorem cmp_lt(a b:aC):decide (pe a b<0)=qS a b:=by
 unfold pe;cases qS a b with
 |true=>rfl
 |false=>rw[aG];cases(!(ν||a==b))<;>rfl
theorem pd(x:δ PP)(hx:aL x<=4194304)(q:δ PP):∀(p:δ PP) (b:Nat),x=p++q->aL q<b->
  aaj FU x b (aL p:Int) p=θ (x,0):=by
 induction q with
 |nil=>intro p b h e;obtain⟨b,rfl⟩:=cB b;rw[gH]at h;subst h;rw[abn,aao,aA aU]
 |cons a q f=>intro p b h e;obtain⟨b,rfl⟩:=cB b;have d:=bA aL h;simp only[cE,cM]at d e;have c:(0:Int)<=(aL p:Int)/\(aL p:Int)<(aL x:Int):=aA0;have g:el x (aL p:Int)=a:=aB2;rw[abn,aao,aB c.2,aS c,aS c,g];unfold ace;simp only[Zl];rw[aS aB6,aR,aB rfl,aS (bW _ aU aU)];have:=f (p++[a]) b aA6 aU;rw[show(γ (p++[a]):Int)=(aL p:Int)+1 by simp]at this;exact this
theorem MT(x:δ PP)(hx:aL x<=4194304):ada FU x=θ x:=by have:=pd x hx x [] FU aA2 aA4;unfold ada ady abc;have a:aaj FU x FU (0:Int) []=_:=this;rw[a,aR,aB rfl];rfl
theorem vc(P S:δ PP)(x:PP):el (P++x::S) (aL P:Int)=x:=by simp[el]
theorem mx(n:Nat):∀(P S:δ PP) (x:PP) (c:Nat),aL P=n->n<c->aL P+aL S<=1048575->
  abl FU 0 c (P++x::S) (aL P:Int)=θ (nM x P++S):=by
 induction n with
 |zero=>intro P S x c h t l;obtain⟨c,rfl⟩:=cB c;obtain rfl:P=[]:=qR h;rw[adx,abk,aA aA2];rfl
 |succ n q=>
  intro P S x c h t l;obtain⟨c,rfl⟩:=cB c;rcases List.eq_nil_or_concat P with rfl|⟨b,a,rfl⟩
  ·simp at h
  ·simp only[List.concat_eq_append]at*;have p:aL b=n:=by simp at h;omega
   have u:((γ (b++[a]):Int)-1)=(aL b:Int):=aA2;have r:el (b++[a]++x::S) (γ (b++[a]):Int)=x:=vc _ _ _;have m:el (b++[a]++x::S) (aL b:Int)=a:=by rw[jI];exact vc b (x::S) a
   have d:γ (b++[a]++x::S)=aL b+2+aL S:=aA3;have o:(0:Int)<=(γ (b++[a]):Int)/\(γ (b++[a]):Int)<(γ (b++[a]++x::S):Int):=by rw[d];simp;omega
   have g:(0:Int)<=(aL b:Int)/\(aL b:Int)<(γ (b++[a]++x::S):Int):=by rw[d];omega
   have k:bJ (aL b:Int):=bW _ aU (by simp at l;omega);have j:(γ (b++[a]):Int).toNat=aL b+1:=aA2;have i:((aL b:Nat):Int).toNat=aL b:=aA0;rw[adx,abk,u];simp only[r,m,Zl,hs1_eq,aR,cmp_lt,aS o,aS g,aS k];rw[aB aB5,aR,rX x.1 a.1,We];have s:(!(qS a.1 x.1||a.1==x.1))=WO a.1 x.1:=Τ;rw[s];cases WO a.1 x.1 with
   |false=>rw[aG,aG];simp
   |true=>
    have f:jH (b++[a]++x::S) (γ (b++[a]):Int).toNat a=b++a::a::S:=by rw[j,jI,wO _ _ aU];simp
    have e:jH (b++a::a::S) ((aL b:Nat):Int).toNat x=b++x::a::S:=by rw[i,wO _ _ aU];simp
    rw[aM,aM,f,e,aS aA3,aS aA3,q b (a::S) x c p aU (by simp at l⊢;omega)];simp
theorem my(R:δ PP):∀(P:δ PP) (b:Nat) (n:Int),n=(γ (P++R):Int)->γ (P++R)<=1048575->aL R<b->
  aap FU 0 n b (P++R) (aL P:Int)=θ (R.foldl (λout x=>nM x out) P):=by
 induction R with
 |nil=>intro P b n d f g;obtain⟨b,rfl⟩:=cB b;rw[acg,aay,aA (by rw[d];simp)];simp
 |cons a R h=>intro P b n d f g;obtain⟨b,rfl⟩:=cB b;simp only[cE,cM]at f g;rw[acg,aay,aB (by rw[d];simp;omega),mx (γ P) P R a FU Τ aA4 aU,aR,aS (bW _ aU aU)];have c:=Ox a P;have:=h (nM a P) b n (by rw[d];simp[c];omega) (by simp only[cE,c];omega) aU;rw[c]at this;have e:((aL P:Int)+1)=((aL P+1:Nat):Int):=Τ;rw[e,this];rfl
theorem ins_eq(l:δ PP)(b:aL l<=1048575):aav FU l 0 (aL l:Int)=θ (fS l):=by
 unfold aav;rw[aS (bW _ aU aU)];cases l with
 |nil=>obtain⟨m,c⟩:∃m,FU=m+1:=⟨FU-1,by rw[dJ]⟩;rw[show(aap FU 0 (γ ([]:δ PP):Int) FU [] (0+1))=aap FU 0 (γ ([]:δ PP):Int) (m+1) [] (0+1)by rw[<-c]];rw[acg,aay,aA aA2];rfl
 |cons a l=>have:=my l [a] FU (γ (a::l):Int) Τ b (by rw[dJ];simp at b;omega);exact this
open Go.Lib renaming cut → eF, index → cO
open List renaming isPrefixOf → NX
theorem Li(l:δ PP)(d:γ l<20):abb FU l=θ (fS l):=by
 unfold abb acl;obtain⟨m,a⟩:∃m,FU=m+1:=⟨FU-1,by rw[dJ]⟩
 have c:abh FU (γ l) FU l 0 20=θ (l,0):=by
  have:∀k,abh FU (γ l) (k+1) l (0:Int) (20:Int)=θ (l,0):=λk=>by rw[aln,acx,aA aU]
  have:=this m;rw[<-a]at this;exact this
 have b:abg FU (γ l) FU (fS l) 20=θ (fS l):=by
  have:∀k,abg FU (γ l) (k+1) (fS l) (20:Int)=θ (fS l):=λk=>by rw[alm,acw,aA aU]
  have:=this m;exact this
 rw[c,aR];rw[ins_eq l aU,aR,b];rfl
theorem UD:acm FU=abb FU:=by kernel_rfl
theorem tW(l:δ PP)(a:γ l<20):YG FU l=θ (fS l):=by unfold YG amq abf;rw[aR,MT l aU,aR,UD,Li l a];rfl
theorem T1(c:ζ):∀v:aC,(cO v [c]= -1/\∀b∈v,b≠c)\/(∃f a,v=f++c::a/\(∀b∈f,b≠c)/\cO v [c]=(γ f:Int))
 |[]=>.inl ⟨Τ,aA2⟩
 |b::l=>by
  rw[qm];have e:([c]:aC).isPrefixOf (b::l)=(c==b):=by simp[NX]
  rw[e];by_cases h:b=c
  ·subst h;right;exact⟨[],l,Τ,aA2,by rw[aB aA2];rfl⟩
  ·rw[aA (by simpa using λx=>h x.symm)];rcases T1 c l with⟨g,d⟩|⟨f,a,g,d,i⟩
   ·left;rw[aB g];exact⟨Τ,λx hx=>by rcases aQ.1 hx with rfl|hx;exact h;exact d x hx⟩
   ·right;refine⟨b::f,a,by rw[g];rfl,λx hx=>by rcases aQ.1 hx with rfl|hx;exact h;exact d x hx,?_⟩;rw[aA aU,i,cM];omega
def Wu(v:aC):η:=jG (eF v [47]).1&&(!(eF v [47]).2.2||jG (eF v [47]).2.1)
theorem tok47:cL 47=ν:=aA1
theorem zN(p:ζ->η)(l:aC):l.all p=decide (cD p l=γ l):=by have:=bkq p l;rw[cz,aX];exact this.symm
theorem Un(p:ζ->η):∀(f:aC) (c:ζ) (b:aC),f.all p=ν->cD p (f++c::b)<γ f/\p (Κ (f++c::b) (cD p (f++c::b):Int))=ν
 |[],c,b,h=>by cases h
 |a::f,c,b,h=>by
  cases d:p a with
  |false=>rw[NU,lP p a _ d];exact⟨aA2,by simpa [Κ] using d⟩
  |true=>
   rw[Jg,d,Je]at h;have g:=Un p f c b h;have e:cD p (a::f++c::b)=cD p (f++c::b)+1:=by rw[NU,cD,aB d]
   rw[e];refine⟨by rw[cM];omega,?_⟩;have:=g.2;simpa [Κ] using this
theorem R8(v:aC):Wu v=decide (v≠[]/\kJ v=γ v):=by
 unfold Wu kJ;rw[bjj,sU];have w:=Kf cL v;rcases T1 47 v with⟨g,p⟩|⟨f,i,g,p,x⟩
 ·rw[aB g];simp only[oF,iU,oB];have j:cV v (cD cL v) 47=ν:=by
   cases h:cV v _ 47 with
   |false=>rfl
   |true=>have:=wL h;exact absurd this.2 (p _ (at_mem v _ this.1))
  rw[j];unfold jG;rw[zN,cz];simp only[lX,jU,Ts,aX];constructor
  ·rintro⟨a,b⟩;have:=bN.2 a;exact⟨a,by rw[aA aU];exact b⟩
  ·rintro⟨a,b⟩;have:=bN.2 a;refine⟨a,?_⟩;split at b
   ·omega
   ·exact b
 ·rw[aA aU,x];have y:(γ f:Int).toNat=γ f:=by omega
  have z:v.take (γ f)=f:=by rw[g,ZJ]
  have s:v.drop (γ f+γ ([47]:aC))=i:=by rw[g,eG,show f++47::i=(f++[47])++i by simp,show γ f+1=γ (f++[47]) by simp,TH]
  rw[y,z,s];simp only[eY,CI];have m:γ v=γ f+1+γ i:=by rw[g];simp;omega
  have o:v≠[]:=by intro e;rw[e,iH]at m;omega
  cases k:f.all cL with
  |false=>
   have d:=Un cL f 47 i k;rw[<-g]at d;have j:cV v (cD cL v) 47=ν:=by
    cases h:cV v _ 47 with
    |false=>rfl
    |true=>
     exfalso;have r:=(wL h).2;have u:Κ v (cD cL v)∈f:=by
      have:Κ v (cD cL v)=Κ f (cD cL v):=by rw[g];simp only[Κ,bH];rw[aJ (by rw[<-g];omega)]
      rw[this];exact at_mem f _ d.1
     exact p _ u r
   have t:jG f=ν:=by unfold jG;rw[k,eL]
   rw[t,kY,j,aA (show¬(ν=μ)by decide)];symm;rw[bK];rintro⟨_,b⟩;split at b<;>omega
  |true=>
   have d:cD cL v=γ f:=by rw[g,Ln cL f _ k,lP cL 47 i tok47];omega
   have hZ:Κ v (γ f:Nat)=47:=by rw[g,Rr]
   have j:cV v (cD cL v) 47=μ:=by unfold cV;rw[d,hZ,aE aU];rfl
   have n:bT cL v (γ f+1:Nat)=γ f+1+cD cL i:=by
    unfold bT;rw[vy _ _ aU];have:v.drop (γ f+1)=i:=by rw[<-s,eG]
    rw[this]
   rw[j,aB rfl,d,n];unfold jG;rw[k,oB,zN];rw[cz];simp only[lX,jU,Ts,aX];constructor
   ·rintro⟨a,b,c⟩;have r:=bN.2 a;have A:=bN.2 b;refine⟨o,?_⟩;rw[aA aU,aA aU];omega
   ·rintro⟨_,b⟩;by_cases q:γ f=0
    ·rw[aB q]at b;omega
    ·rw[aA q]at b;by_cases l:γ f+1+cD cL i=γ f+1
     ·rw[aB l]at b;omega
     ·rw[aA l]at b;exact⟨λe=>q aF5,λe=>by rw[e]at l;simp[cD]at l,aA0⟩
theorem uB(l:δ PP)(b:∀p∈l,γ p.1<=4194304/\γ p.2.1<=4194304):γ (rR l).1<=256000000:=by
 unfold rR;split
 ·simp
 ·rename_i h;cases a:Rq [] l with
  |none=>simp
  |some t=>have:=Zm l [] t b a;simp only;omega
def xG(x:aC×δ PP):aC×ζ:=if Wu x.1=μ/\(rR (fS x.2)).2=0 then(x.1++(rR (fS x.2)).1,0)else([],2)
theorem Lx(x:aC×δ PP)(l:γ x.1<=4194304)(m:γ x.2<=40)(k:∀p∈x.2,γ p.1<=4194304/\γ p.2.1<=4194304):avv FU x=θ (xG x):=by
 have c:∀p∈fS x.2,γ p.1<=4194304/\γ p.2.1<=4194304:=λp i=>k p (vk _ p i);have j:=bjv x.2;have g:=uB _ c;unfold avv xG;rw[bcg x.2 aU,aR,bdx _ aU c,aR,R8];by_cases e:x.1=[]
 ·rw[aB e,aR,aM,aA (by rintro⟨a,b⟩;rw[aX]at a;exact a.1 e)]
 ·rw[aA e,Ot x.1 l,aR];by_cases f:kJ x.1=γ x.1
  ·rw[aB aU,aR];by_cases d:(rR (fS x.2)).2=0
   ·rw[aE d,eY,aG,aS aU,aB ⟨aE ⟨e,f⟩,d⟩]
   ·rw[aD d,oF,aM,aA (λh=>d h.2)]
  ·rw[aA aU,aR,aM,aA (by rintro⟨a,b⟩;rw[aX]at a;exact f a.2)]
theorem FL(l:δ PP)(h:16<γ l):YH FU l=θ ([],2):=by unfold YH;rw[aB aU]
theorem Zi(x:aC×δ PP)(t:γ x.1<=4194304)(q:γ x.2<=19)(n:∀p∈x.2,γ p.1<=4194304/\γ p.2.1<=4194304):auf FU x=θ (xG x):=by
 have b:∀p∈fS x.2,γ p.1<=4194304/\γ p.2.1<=4194304:=λp k=>n p (vk _ p k);have m:=bjv x.2;have j:=uB _ b;have s:=BG x.1 [47];unfold auf xG;rw[aS aU,vj _ aU,aR];have e:(bif (!jG (eF x.1 [47]).1)then θ μ else(bif ((eF x.1 [47]).2.2)then((ZB FU ((eF x.1 [47]).2.1)).bind λf=>θ (!f))else θ ν))=θ (!Wu x.1):=by unfold Wu;rw[vj _ aU];cases jG (eF x.1 _).1<;>cases(eF x.1 _).2.2<;>simp
 rw[e,aR];cases r:Wu x.1 with
 |false=>rw[oF,aM,aA (λh=>absurd h.1 aA1)]
 |true=>
  rw[eY,aG];obtain⟨y,g,i⟩:∃y,((YG FU x.2).bind λ(d:δ PP)=>((YH FU d).bind λ(a:(aC×ζ))=>(if a.2=(0:ζ)then(gd (γ x.1+γ a.1<=9223372036854775807)<|some (x.1++a.1,0))else θ (([]:aC),(2:ζ)))))=(if(rR (fS x.2)).2=(0:ζ)then(gd (γ x.1+γ (rR (fS x.2)).1<=9223372036854775807)<|some (x.1++(rR (fS x.2)).1,(0:ζ)))else θ (([]:aC),(2:ζ)))/\y=0:=by
   refine⟨0,?_,Τ⟩;by_cases o:16<γ x.2
   ·have l:rR (fS x.2)=([],2):=by unfold rR;rw[aB aU]
    rw[tW x.2 aU,aR,FL _ aU,aR,l]
   ·rw[tW x.2 aU,aR,biv _ b,aR]
  rw[g];by_cases c:(rR (fS x.2)).2=0
  ·rw[aB c,aS aU,aB ⟨rfl,c⟩]
  ·rw[aA c,aA (λh=>c h.2)]
theorem Mr(s:aC):∀(f:Nat) (l:δ PP) (i:Nat),γ l<=16->γ (kG s f l i).1<=16
 |0,_,_,_=>by simp[kG]
 |f+1,l,i,h=>by
  rw[kG];split
  ·exact h
  ·split
   ·simp
   ·split
    ·split
     ·rename_i b;have a:=((tq l _).1 b).2;exact Mr s f _ _ aB7
     ·simp
    ·simp
theorem Ev(v:aC):γ (BS v).1.2<=16:=by
 unfold BS;split
 ·simp
 ·split
  ·exact Mr _ _ _ _ aA2
  ·simp
end Go.Wk
set_option maxRecDepth 20000
namespace Go.Wk
open Go.Px
open List renaming length → aL
variable{c:ζ}
theorem RZ(h:fZ c=ν):c<48\/(57:ζ)<c:=by
 by_cases b:c<48
 ·exact .inl b
 ·by_cases a:(57:ζ)<c
  ·exact .inr a
  ·exfalso;have:fZ c=μ:=by rw[pB];rw[et]at b a;have e:(48:ζ).toNat=48:=Τ;have d:(57:ζ).toNat=57:=Τ;omega
   rw[this]at h;cases h
theorem HX(h:fZ c=μ):(c-48).toNat=c.toNat-48/\¬c<48/\¬(57:ζ)<c/\c.toNat<=57:=by
 have b:=(pB c).1 h;refine⟨?_,?_,?_,aA0⟩
 ·have a:(48:ζ)<=c:=by rw[wN];show 48<=c.toNat;omega
  rw[UInt8.toNat_sub_of_le _ _ a];rfl
 ·rw[et];show¬c.toNat<48;omega
 ·rw[et];show¬57<c.toNat;omega
def eV(s:aC):Int×ζ:=
 if γ s<1\/10<aL s\/s.all fZ=ν then(0,5)else if 2147483647<mK s then(0,3)else((mK s:Int),0)
theorem LL(s:aC)(t:aL s<=18)(l:aC):∀(p:aC) (a:Nat),s=p++l->aL l<a->p.all fZ=μ->
  anm FU s a (mK p:Int) (aL p:Int)=θ (if l.all fZ=μ then .inl (mK s:Int)else .inr ((0:Int),(5:ζ))):=by
 induction l with
 |nil=>intro p a h i f;obtain⟨a,rfl⟩:=cB a;rw[gH]at h;subst h;rw[axg,alx,aA aU];rfl
 |cons c l o=>
  intro p a h i f;obtain⟨a,rfl⟩:=cB a;have b:(0:Int)<=(aL p:Int)/\(aL p:Int)<(aL s:Int):=by rw[h,cE,cM];omega
  have j:Κ s (aL p:Int)=c:=aE1;simp only[cM]at i;cases d:fZ c with
  |false=>
   rw[axg,alx,aB b.2,aS b,j,Jg,d,kY,aA (show¬ν=μ by decide)];rcases RZ d with g|g
   ·rw[aB g,aR,aM]
   ·by_cases k:c<48
    ·rw[aB k,aR,aM]
    ·rw[aA k,aS b,aE g,aR,aM]
  |true=>
   obtain⟨hx,n,m,q⟩:=HX d;have r:=uQ 17 p (by have:=bA aL h;rw[cE,cM]at this;omega) f;rw[axg,alx,aB b.2,aS b,j,aA n,aS b,aD m,aR,aG,hx,aS (bW _ aU aU),aS b,aS (bW _ aU aU),aS (bW _ aU aU)];have e:(10:Int)*(mK p:Int)+((c.toNat-48:Nat):Int)=(mK (p++[c]):Int):=by rw[bcp];omega
   rw[e,Xk p c,Jg,d,Je];exact o (p++[c]) a aA6 aU (by rw[dZ,f];simpa using d)
theorem uE(s:aC):vz FU s=θ (eV s):=by
 unfold vz eV;by_cases c:aL s<1
 ·rw[aB aU,aR,aM,aB (.inl c)]
 ·rw[aA aU,aR];by_cases b:10<aL s
  ·rw[aE aU,aM,aB (.inr (.inl b))]
  ·rw[aD aU,aG];have:=LL s aU s [] FU aA2 aA4 aA2;change anm FU s FU (0:Int) (0:Int)=_ at this;rw[this,aR];cases d:s.all fZ with
   |false=>rw[aA (show¬ν=μ by decide),Rt,aB (.inr (.inr Τ))]
   |true=>
    rw[aB rfl,lB,aA (show¬(aL s<1\/10<aL s\/μ=ν)by rintro(h|h|h)<;>first|omega|cases h)];by_cases a:2147483647<mK s
    ·rw[aB aU,aB a]
    ·rw[aA aU,aA a]
theorem Sj(s:aC)(w:aL s<=4194304)(l:aC):∀(p:aC) (a:Nat),s=p++l->aL l<a->p.all fZ=μ->aL p<=10->
  ank FU s a (mK p:Int) (aL p:Int)=θ (if l.all fZ=μ/\γ s<=10 then .inl (mK s:Int)else .inr ((0:Int),(5:ζ))):=by
 induction l with
 |nil=>intro p a h m f k;obtain⟨a,rfl⟩:=cB a;rw[gH]at h;subst h;rw[axe,alu,aA aU,aB ⟨rfl,k⟩]
 |cons c l r=>
  intro p a h m f k;obtain⟨a,rfl⟩:=cB a;have j:aL s=aL p+(aL l+1):=by rw[h,cE,cM]
  have b:(0:Int)<=(aL p:Int)/\(aL p:Int)<(aL s:Int):=aA0;have n:Κ s (aL p:Int)=c:=aE1;simp only[cM]at m;cases d:fZ c with
  |false=>
   rw[axe,alu,aB b.2,aS b,n,Jg,d,kY,aA (show¬(ν=μ/\γ s<=10)by rintro⟨h,_⟩;cases h)];by_cases g:c<48
   ·rw[aB g,aR,aM]
   ·rcases RZ d with i|i
    ·exact absurd i g
    ·rw[aA g,aS b,aB i,aR,aM]
  |true=>
   obtain⟨hx,q,o,u⟩:=HX d;rw[axe,alu,aB b.2,aS b,n,aA q,aS b,aA o,aR];by_cases t:10<=aL p
   ·rw[aE aU,aM,aA (by rintro⟨_,h⟩;omega)]
   ·have v:=uQ 17 p aU f;rw[aD aU,aG,hx,aS (bW _ aU aU),aS b,aS (bW _ aU aU),aS (bW _ aU aU)];have e:(10:Int)*(mK p:Int)+((c.toNat-48:Nat):Int)=(mK (p++[c]):Int):=by rw[bcp];omega
    rw[e,Xk p c,Jg,d,Je];exact r (p++[c]) a aA6 aU (by rw[dZ,f];simpa using d) aA3
theorem bho(s:aC)(d:aL s<=4194304):aog FU s=θ (eV s):=by
 unfold aog eV;have:=Sj s d s [] FU aA2 aA4 aA2 aA2;change ank FU s FU (0:Int) (0:Int)=_ at this;rw[this,aR];by_cases c:s=[]
 ·subst c;rfl
 have f:0<aL s:=bN.2 c;by_cases b:s.all fZ=μ/\γ s<=10
 ·rw[aB b,lB,aA c,aA (show¬(aL s<1\/10<aL s\/s.all fZ=ν)by rintro(h|h|h)<;>first|omega|(rw[b.1]at h;cases h))];by_cases a:2147483647<mK s
  ·rw[aB aU,aB a]
  ·rw[aA aU,aA a]
 ·rw[aA b,Rt,aB];by_cases e:10<aL s
  ·exact .inr (.inl e)
  ·cases a:s.all fZ with
   |false=>exact .inr (.inr Τ)
   |true=>exact absurd ⟨a,aA0⟩ b
def Cd(s:aC):Int×ζ:=if(eV s).2=0/\((eV s).1<1\/65535<(eV s).1)then(0,3)else eV s
theorem LD(s:aC)(d:aL s<=4194304):bic FU s=θ (Cd s):=by
 unfold bic Cd;rw[bho s d,aR];by_cases a:(eV s).2=0
 ·rw[aB a];by_cases c:(eV s).1<1
  ·rw[aB c,aR,aM,aB ⟨a,.inl c⟩]
  ·rw[aA c,aR];by_cases b:65535<(eV s).1
   ·rw[aE b,aM,aB ⟨a,.inr b⟩]
   ·rw[aD b,aG,aA (by rintro⟨_,h|h⟩<;>contradiction)]
 ·rw[aA a,aR,aG,aA (λh=>a h.1)]
end Go.Wk
set_option maxRecDepth 100000
namespace Go.Wk
open Go.Px
open Go.Lib renaming decDigits → NY, itoa → gK
open UInt8 renaming ofNat → Gg
theorem dig_of:∀n:Fin 10,fZ (Gg (48+n.val))=μ/\(Gg (48+n.val)).toNat-48=n.val/\sub ([48,49,50,51,52,53,54,55,56,57]:aC) (n.val:Int) ((n.val:Int)+1)=[Gg (48+n.val)]:=aA5
theorem pC(n:Nat)(h:n<10):fZ (Gg (48+n))=μ/\(Gg (48+n)).toNat-48=n/\sub ([48,49,50,51,52,53,54,55,56,57]:aC) (n:Int) ((n:Int)+1)=[Gg (48+n)]:=dig_of ⟨n,h⟩
theorem SB:∀(k n:Nat),n<10^(k+1)->(NY n).all fZ=μ/\mK (NY n)=n/\1<=γ (NY n)/\γ (NY n)<=k+1:=by
 intro k;induction k with
 |zero=>intro n h;have h:n<10:=aA7;have:=pC n h;rw[NY,dif_pos h];refine⟨by simpa using this.1,?_,aA2,aA2⟩;show 10*0+_=n;omega
 |succ k c=>
  intro n h;rw[NY];by_cases a:n<10
  ·have:=pC n a;rw[dif_pos a];refine⟨by simpa using this.1,?_,aA2,aA2⟩;show 10*0+_=n;omega
  ·have b:=pC (n%10) (Nat.mod_lt _ aA1);have:=c (n/10) aE9;rw[dif_neg a];refine⟨by rw[dZ,this.1];simpa using b.1,?_,aA2,by simp;omega⟩;rw[bcp,this.2.1,b.2.1];omega
theorem Oq(n:Nat):gK (n:Int)=NY n:=by unfold gK;rw[aA aA0,gJ]
theorem bgj(n:Int)(e:0<=n)(h:n<=65535):eV (gK n)=(n,0)/\1<=γ (gK n)/\γ (gK n)<=5/\(gK n).all fZ=μ:=by obtain⟨m,rfl⟩:∃m:Nat,n=(m:Int):=⟨n.toNat,aA0⟩;obtain⟨a,d,c,b⟩:=SB 4 m aA0;rw[Oq];refine⟨?_,c,b,a⟩;unfold eV;rw[a,d,aA (by rintro(h|h|h)<;>first|omega|cases h),aA aA0]
theorem Yw:∀(k n a:Nat),n<10^(k+1)->k+1<a->k<=15->ZD a (n:Int)=θ (NY n):=by
 intro k;induction k with
 |zero=>intro n a h g c;obtain⟨a,rfl⟩:=cB a;have h:n<10:=aA7;rw[ZD,aB aA0,dU,aS aA3,(pC n h).2.2,NY,dif_pos h]
 |succ k f=>
  intro n a h g c;obtain⟨a,rfl⟩:=cB a;have j:10^(k+1+1)<=10^17:=Nat.pow_le_pow_right aA1 aA0;rw[ZD,NY];by_cases d:n<10
  ·rw[aB aA0,dif_pos d,dU,aS aA3,(pC n d).2.2]
  ·have m:(n:Int)/10=((n/10:Nat):Int):=by omega
   have l:(n:Int)%10=((n%10:Nat):Int):=aA0;have e:n/10<10^(k+1):=aE9;have o:=(SB k _ e).2.2.2;have b:0<=(n:Int)/\0<(10:Int)/\bJ (n:Int):=⟨aA0,aA0,bW _ aA0 aA0⟩;have i:=pC (n%10) (Nat.mod_lt _ aA1);rw[aA aA0,dif_neg d,aS b,m,f (n/10) a e aA0 aA0,aR,aS b,aS b,l,aS (bW _ aA0 aA0),aS aA3,i.2.2,aS aA3]
theorem bdd(n:Int)(a:0<=n)(h:n<=9999999999999999):ZD FU n=θ (gK n):=by obtain⟨m,rfl⟩:∃m:Nat,n=(m:Int):=⟨n.toNat,aA0⟩;rw[Oq];exact Yw 15 m FU aA0 aA4 aA1
open Go.Lib renaming itoa → gK
open Int renaming toNat → bL
open List renaming drop → cC, length → aL, take → eN
abbrev VV:=aC×aC×Int×aC×δ PP
def qX:VV:=([],[],0,[],[])
def VER:aC:=[83,73,80,47,50,46,48,47]
def wz:aC:=[98,114,97,110,99,104]
def Xf(s:aC):aC:=s.map Ht
theorem oN(s:aC):γ (Xf s)=aL s:=by unfold Xf;exact Gk ..
theorem C7(s:aC)(g:aL s<=9223372036854775807)(l:aC):∀p a,aL p+aL l=aL s->aL l<a->
  adk FU s a (p++l) (γ p)=θ (p++l.map Ht):=by
 induction l with
 |nil=>intro p a d e;obtain⟨a,rfl⟩:=cB a;simp at d;rw[air,adf,aA aU];rfl
 |cons c l f=>intro p a d e;obtain⟨a,rfl⟩:=cB a;simp at d e;have b:=xJ p c l;rw[air,adf,aB aU,aS b,aS b,Rr,Xw];simp only[aR];rw[aS b,aS b,aS (bW _ aU aU),oR,Xk p _,f _ a aB5 aU];simp
theorem Kt(s:aC)(a:aL s<=9223372036854775807):aci FU s=θ (Xf s):=by unfold aci;have:=C7 s a s [] FU aA2 aA4;simp at this;rw[this];rfl
theorem get_lp(l:δ PP)(j:aL l<=4194304)(e:∀p∈l,aL p.1<=4194304)(y:aC)(n:Nat):∀k a,k+n=aL l->n<a->
  aqp FU l y a k=θ (match(l.drop k).find? (λp=>cN p.1==y)with|none=>.inl ()|some p=>.inr (p.2.1,μ)):=by
 induction n with
 |zero=>intro k a f g;obtain⟨a,rfl⟩:=cB a;obtain rfl:k=aL l:=aA0;rw[bhg,auk,aA aU,YN];rfl
 |succ n d=>
  intro k a f g;obtain⟨a,rfl⟩:=cB a;have b:k<aL l:=aA0;have c:0<=(k:Int)/\(k:Int)<(aL l:Int):=aA0;have i:l.drop k=el l (k:Int)::l.drop (k+1):=by rw[Ps _ _ b,zbF b]
  rw[bhg,auk,aB c.2,aS c,aS c,du _ (e _ (BA l k b)),aR,i,List.find?_cons];by_cases h:cN (el l k).1=y
  ·rw[aB h,show(cN (el l _).1==y)=μ by simpa using h]
  ·rw[aA h,show(cN (el l (k:Int)).1==y)=ν by simpa using h,aS (bW _ aU aU),mL,d _ a aU aU]
theorem get_eq(l:δ PP)(d:aL l<=4194304)(b:∀p∈l,aL p.1<=4194304)(name:aC)(c:aL name<=4194304):bbw FU l name=θ (Is l name):=by have:=get_lp l d b (cN name) (γ l) 0 FU aU aA4;rw[NT]at this;have a:aqp FU l _ FU 0=_:=this;unfold bbw;rw[du _ c,aR,a];have e:Is l name=(match l.find? (λp=>cN p.1==cN name)with|some p=>(p.2.1,μ)|none=>([],ν)):=rfl;rw[e];cases l.find? (λp=>cN p.1==cN name)<;>rfl
theorem pD(v:aC)(c:ζ):Lib.contains v [c]=v.any (·==c):=by
 unfold Lib.contains;rcases T1 c v with⟨a,b⟩|⟨f,e,a,b,d⟩
 ·rw[a,aD aU];symm;rw[dC];intro x hx;simpa using b x hx
 ·rw[d,a];simp
def iZ(P:aC):aC×aC×η:=
 if kR (·==58) P<0 then(P,[],ν)
 else if((P.take (kR (·==58) P).toNat).any (·==91)&&(P.drop (kR (·==58) P).toNat).any (·==93))=μ then(P,[],ν)
 else(P.take (kR (·==58) P).toNat,P.drop (kR (·==58) P+1).toNat,μ)
theorem MR(P:aC)(f:aL P<=4194304):aym FU P=θ (iZ P):=by
 have b:=uG (·==58) P;unfold aym iZ;rw[aS aU];generalize kR _ P=a at b⊢;by_cases h:a<0
 ·rw[aB h,aR,aM,aB h]
 ·have e:0<=a/\a<aL P:=by omega
  rw[aA h,aA h,aS aU,aS aB3,pD,pD];have c:∀o:ε η,o=θ ((P.take a.toNat).any (·==91)&&(P.drop a.toNat).any (·==93))->(o.bind λ(v:η)=>(bif v then θ (P,([]:aC),ν)else(gd (0<=a/\a<=(aL P:Int))<|(gd (bJ (a+(1:Int)))<|(gd (0<=(a+1)/\(a+1)<=aL P)<|some (eN (bL a) P,cC (bL (a+1)) P,μ))))))=θ (if((P.take a.toNat).any (·==91)&&(P.drop a.toNat).any (·==93))=μ then(P,[],ν)else(P.take a.toNat,P.drop (a+1).toNat,μ)):=by
   intro o d;rw[d,aR];cases((P.take a.toNat).any _&&(P.drop a.toNat).any _)with
   |true=>rfl
   |false=>rw[aG,aS aU,aS (bW _ aU aU),aS aU,aA (show¬(ν=μ)by decide)]
  refine c _ ?_;cases(P.take a.toNat).any _ with
  |false=>rfl
  |true=>rw[aM,aS aU,aS aB1,Je]
theorem HZ(P:aC):γ (iZ P).1<=aL P/\γ (iZ P).2.1<=aL P:=by
 unfold iZ;split
 ·simp
 ·split
  ·simp
  ·simp;omega
def mH(c:ζ):η:=c==59||bR c
theorem ic:(λc=>([59,32,9]).contains c)=mH:=by funext c;revert c;exact fP _ aA5
def wU(c h:aC)(b:Int)(a:aC):VV×ζ:=if(fM a).2.2=0 then((c,h,b,(Is (fM a).1 wz).1,(fM a).1),0)else(qX,(fM a).2.2)
def De(b place a:aC):VV×ζ:=
 if(eM (iZ place).1).2=ν then(qX,5)
 else if(iZ place).2.2=μ then(if(Cd (iZ place).2.1).2=0 then wU b (eM (iZ place).1).1 (Cd (iZ place).2.1).1 a else(qX,(Cd (iZ place).2.1).2))
 else wU b (eM (iZ place).1).1 0 a
def lZ(v:aC):VV×ζ:=
 if(cI v).length<8 then(qX,5)
 else if¬Xf ((cI v).take 8)=VER then(qX,5)
 else if bT cL (cI v) 8=8 then(qX,5)
 else if bT bR (cI v) (bT cL (cI v) 8)=bT cL (cI v) 8 then(qX,5)
 else De (Xf (sub (cI v) 8 (bT cL (cI v) 8)))
  (((cI v).drop (bT bR (cI v) (bT cL (cI v) 8))).take (cD (λc=> !mH c) ((cI v).drop (bT bR (cI v) (bT cL (cI v) 8)))))
  (((cI v).drop (bT bR (cI v) (bT cL (cI v) 8))).drop (cD (λc=> !mH c) ((cI v).drop (bT bR (cI v) (bT cL (cI v) 8)))))
theorem Mq(s:aC)(d:aL s<=4194304):∀f l i,(∀p∈l,cN p.1=p.1/\γ p.1<=aL s/\γ p.2.1<=90000000)->∀p∈(kG s f l i).1,cN p.1=p.1/\γ p.1<=aL s/\γ p.2.1<=90000000
 |0,_,_,_=>by simp[kG]
 |f+1,l,i,h=>by
  rw[kG];split
  ·exact h
  ·split
   ·simp
   ·split
    ·rename_i e;have c:=jD bR s ((bT bR s i+1):Int);have a:=FM s d _ c e;split
     ·refine Mq s d f _ _ λp b=> ?_;rcases aV.1 b with b|b
      ·exact h p b
      ·rw[aH.1 b];exact⟨a.2.2.2.1,a.2.2.2.2.1,a.2.2.2.2.2⟩
     ·simp
    ·simp
theorem bci(s:aC)(a:aL s<=4194304):∀p∈(fM s).1,cN p.1=p.1/\γ p.1<=aL s/\γ p.2.1<=90000000:=Mq s a _ [] 0 aA2
theorem Ah(s:aC):γ (fM s).1<=16:=Mr s _ [] 0 aA2
theorem OJ(d h:aC)(b:Int)(a:aC)(e:aL a<=4194304):((aka FU a).bind λ(y:((δ PP)×Int×ζ))=>(if y.2.2=0 then((bbw FU y.1 ([98,114,97,110,99,104])).bind λg=>θ ((d,h,b,g.1,y.1),0))else θ (([],[],0,[],[]),y.2.2)))=θ (wU d h b a):=by
 have j:=Ah a;have i:=bci a e;unfold wU;rw[Dt a e,aR];by_cases c:(fM a).2.2=0
 ·rw[aB c,aB c,get_eq _ aU (λp f=>by have:=(i p f).2.1;omega) _ aA1];rfl
 ·rw[aA c,aA c];rfl
theorem QG(y:Int×ζ):((if y.2=0 then(if y.1<1 then θ μ else θ (decide (65535<y.1)))else θ ν).bind λb=>(bif b then θ 3 else θ y.2))=θ (if y.2=0/\(y.1<1\/65535<y.1)then 3 else y.2):=by
 by_cases a:y.2=0
 ·rw[aB a];by_cases d:y.1<1
  ·rw[aB d,aB ⟨a,.inl d⟩];rfl
  ·rw[aA d];by_cases c:65535<y.1
   ·rw[aE c,aB ⟨a,.inr c⟩];rfl
   ·rw[aD c,aA (by rintro⟨_,h|h⟩<;>contradiction)];rfl
 ·rw[aA a,aA (λh=>a h.1)];rfl
theorem xq(v:aC)(C:aL v<=4194304):bir FU v=θ (lZ v):=by
 have E:=Tp v;unfold bir lZ;rw[lO v C,aR];generalize cI v=s at E⊢;by_cases B:aL s<8
 ·rw[aB (show(aL s:Int)<8 by omega),aB B];rfl
 rw[aA (show¬(aL s:Int)<8 by omega),aA B,aS aU,Kt _ aB3,aR,aR];by_cases q:Xf (s.take 8)=VER
 ·have d:Xf (eN (bL (8:Int)) s)=([83,73,80,47,50,46,48,47]:aC):=q;have u:=Ci cL s 8 aU;have l:=jD cL s 8;have m:8<=bT cL s 8:=u;rw[aE d,eY,aG,aA (not_not_intro q),oO s aU,aR,nT s aU,aR];generalize bT cL s 8=k at m l⊢;have x:=Ci bR s k l;have w:=jD bR s (k:Int);generalize bT bR s (k:Int)=i at x w⊢;by_cases j:k=8
  ·rw[aB aU,aB j];rfl
  rw[aA aU,aR,aA j];by_cases n:i=k
  ·rw[aE aU,aB n];rfl
  rw[aD aU,aG,aA n,aS aU,Kt _ aC4,aR,aS aU,gJ];have y:γ (s.drop i)<=4194304:=aB1;generalize Xf (sub s (8:Int) (k:Int))=G;generalize s.drop i=P at y⊢;have e:=qf mH P;have A:=Kf (λc=> !mH c) P;have t:∀o:ε (aC×aC),o=θ (P.take (cD (λc=> !mH c) P),P.drop (cD (λc=> !mH c) P))->∀f:aC×aC->ε (VV×ζ),o.bind f=f (P.take (cD (λc=> !mH c) P),P.drop (cD (λc=> !mH c) P)):=λo D f=>by rw[D];rfl
  rw[t _ (by
   rw[aS ⟨aA0,aA1,aA1⟩,azl,ic];by_cases hx:(0:Int)<=dM mH P
   ·rcases e with h|h
    ·omega
    ·rw[aB hx,aS aU,aS aU,h.2.2,gJ]
   ·rcases e with h|h
    ·rw[aA hx,h.2,hC,YN]
    ·omega)]
  have g:γ (P.take (cD (λc=> !mH c) P))<=4194304:=aB3;have b:γ (P.drop (cD (λc=> !mH c) P))<=4194304:=aB1;generalize P.take (cD (λc=> !mH c) P)=a at g⊢;generalize P.drop (cD (λc=> !mH c) P)=z at b⊢;have F:=HZ a;unfold De;simp only;rw[MR a g,aR,bke _ aU,aR];cases H:(eM (iZ a).1).2 with
  |false=>rfl
  |true=>
   rw[eY,aG,aA (show¬(μ=ν)by decide)];cases I:(iZ a).2.2 with
   |false=>rw[aG,aR,lB,OJ _ _ _ _ b,aA (show¬(ν=μ)by decide)]
   |true=>
    rw[aM,uE,aR,QG,aR,aB rfl];unfold Cd;by_cases p:(eV (iZ a).2.1).2=0/\((eV (iZ a).2.1).1<1\/65535<(eV (iZ a).2.1).1)
    ·rw[aB p,aB p,aA aA1];rfl
    ·rw[aA p,aA p];by_cases r:(eV (iZ a).2.1).2=0
     ·rw[aB r,aB r,aR,lB,OJ _ _ _ _ b]
     ·rw[aA r,aA r];rfl
 ·have d:¬Xf (eN (bL 8) s)=([83,73,80,47,50,46,48,47]:aC):=q;rw[aD d,aB q];rfl
def kS(l:δ PP):δ PP:=l.filter λp=> !(p.1==wz)
def iL(b:aC):δ PP:=if b=[]then []else [(wz,b,μ)]
def mB(h:aC)(n:Int):aC:=if n=0 then h else h++([58]++gK n)
def Hb(x:VV):aC×ζ:=
 if(eM x.2.1).2=μ/\jG x.1=μ/\0<=x.2.2.1/\x.2.2.1<=65535/\(rR (fS (kS x.2.2.2.2++iL x.2.2.2.1))).2=0
 then(VER++Xf x.1++[32]++mB (eM x.2.1).1 x.2.2.1++(rR (fS (kS x.2.2.2.2++iL x.2.2.2.1))).1,0)else([],2)
theorem Am(l:δ PP):γ (kS l)<=aL l:=List.length_filter_le _ _
theorem O7(l:δ PP)(p:PP)(h:p∈kS l):p∈l:=(List.mem_filter.1 h).1
theorem II(b:aC):γ (iL b)<=1:=by unfold iL;split<;>simp
theorem ko(x:VV)(m:aL x.2.2.2.2<=4194304)(q:δ PP):∀p c,x.2.2.2.2=p++q->aL q<c->
  ajd FU x c (kS p) (γ p)=θ (kS (p++q)):=by
 induction q with
 |nil=>intro p c h i;obtain⟨c,rfl⟩:=cB c;rw[bbk,aly,aA aA6,gH]
 |cons a q j=>
  intro p c h i;obtain⟨c,rfl⟩:=cB c;have f:=bA aL h;simp at f i;have d:(0:Int)<=(aL p:Int)/\(aL p:Int)<(aL x.2.2.2.2:Int):=aA0;have l:el x.2.2.2.2 (aL p:Int)=a:=aB2;have b:=j (p++[a]) c aA6 aU;rw[show(γ (p++[a]):Int)=(aL p:Int)+1 by simp,jI]at b;have k:=Am p;rw[bbk,aly,aB d.2,aS d,aS d,l];by_cases g:a.1=wz
  ·have e:kS (p++[a])=kS p:=by unfold kS;rw[Rj];simp[g]
   rw[aB (show a.1=([98,114,97,110,99,104]:aC)from g),aS (bW _ aU aU)];rw[e]at b;exact b
  ·have e:kS (p++[a])=kS p++[a]:=by unfold kS;rw[Rj];simp[g]
   rw[aA (show¬a.1=([98,114,97,110,99,104]:aC)from g)];rw[aS aA3,aS (bW _ aU aU)];rw[e]at b;exact b
theorem C2(x:VV)(b:∀p∈x.2.2.2.2,aL p.1<=4194304/\γ p.2.1<=4194304)(c:aL x.2.2.2.1<=4194304):∀p∈kS x.2.2.2.2++iL x.2.2.2.1,aL p.1<=4194304/\γ p.2.1<=4194304:=by
 intro p a;rcases aV.1 a with h|h
 ·exact b p (O7 _ p h)
 ·unfold iL at h;split at h
  ·simp at h
  ·rw[aH.1 h];exact⟨show γ wz<=4194304 by decide,c⟩
theorem WH(l:δ PP)(f:aL l<=19)(d:∀p∈l,aL p.1<=4194304/\γ p.2.1<=4194304):((YG FU l).bind λy=>YH FU y)=θ (rR (fS l)):=by
 have c:=bjv l;by_cases e:16<aL l
 ·have b:rR (fS l)=([],2):=by unfold rR;rw[aB aU]
  rw[tW l aU,aR,FL _ aU,b]
 ·rw[tW l aU,aR,biv _ (λp a=>d p (vk _ p a))]
theorem az(x:VV)(h:¬((eM x.2.1).2=μ/\jG x.1=μ/\0<=x.2.2.1/\x.2.2.1<=65535/\(rR (fS (kS x.2.2.2.2++iL x.2.2.2.1))).2=0)):Hb x=([],2):=by unfold Hb;rw[aA h]
theorem Dr(x:VV)(h:(eM x.2.1).2=μ/\jG x.1=μ/\0<=x.2.2.1/\x.2.2.1<=65535/\(rR (fS (kS x.2.2.2.2++iL x.2.2.2.1))).2=0):Hb x=(VER++Xf x.1++[32]++mB (eM x.2.1).1 x.2.2.1++(rR (fS (kS x.2.2.2.2++iL x.2.2.2.1))).1,0):=by unfold Hb;rw[aB h]
theorem ER(x:VV)(I:aL x.1<=4194304)(C:aL x.2.1<=4194304)(F:aL x.2.2.2.2<=18)(A:∀p∈x.2.2.2.2,aL p.1<=4194304/\γ p.2.1<=4194304)(B:aL x.2.2.2.1<=4194304):awn FU x=θ (Hb x):=by
 have w:=Am x.2.2.2.2;have z:=II x.2.2.2.1;have d:=C2 x A B;have s:γ (kS x.2.2.2.2++iL x.2.2.2.1)<=19:=aD3;have m:=uB (fS (kS x.2.2.2.2++iL x.2.2.2.1)) (λp v=>d p (vk _ p v));have H:=Fa x.2.1;have t:=oN x.1;unfold awn;rw[bke _ C,aR];cases r:(eM x.2.1).2 with
 |false=>rw[az x (λh=>by rw[r]at h;exact absurd h.1 aA1)];rfl
 |true=>
  rw[eY,aG,vj _ aU,aR];cases q:jG x.1 with
  |false=>rw[az x (λh=>by rw[q]at h;exact absurd h.2.1 aA1)];rfl
  |true=>
   rw[eY,aG];by_cases c:x.2.2.1<0
   ·rw[aB c,aR,aM,az x (by rintro⟨_,_,h,_⟩;omega)]
   by_cases e:65535<x.2.2.1
   ·rw[aA c,aE e,aR,aM,az x (by rintro⟨_,_,_,h,_⟩;omega)]
   have n:=ko x aU x.2.2.2.2 [] FU Τ aA4;have i:ajd FU x FU ([]:δ PP) (0:Int)=θ (kS x.2.2.2.2):=n;rw[aA c,aD e,aR,aG,i,aR];have E:(if x.2.2.2.1=([]:aC)then θ (kS x.2.2.2.2)else(gd ((γ (kS x.2.2.2.2)+γ ([(([98,114,97,110,99,104]:aC),x.2.2.2.1,μ)]:δ PP))*40<=140737488355328)<|some (kS x.2.2.2.2++([(([98,114,97,110,99,104]:aC),x.2.2.2.1,μ)]:δ PP))))=θ (kS x.2.2.2.2++iL x.2.2.2.1):=by
    unfold iL;by_cases a:x.2.2.2.1=[]
    ·rw[aB a,aB a,gH]
    ·rw[aA a,aA a,aS aA3];rfl
   rw[E,aR];have o:=WH (kS x.2.2.2.2++iL x.2.2.2.1) aU d;have b:=Dr x;have g:=az x;generalize kS x.2.2.2.2++iL x.2.2.2.1=l at o m b g⊢;have key:∀f:aC×ζ->ε (aC×ζ),((YG FU l).bind λ(y:δ PP)=>((YH FU y).bind f))=f (rR (fS l)):=by
    intro f;have:((YG FU l).bind λ(y:δ PP)=>((YH FU y).bind f))=((YG FU l).bind λy=>YH FU y).bind f:=by cases YG FU l<;>rfl
    rw[this,o];rfl
   rw[key];by_cases k:(rR (fS l)).2=0
   ·have G:=bgj x.2.2.1 aU aU;have D:(if x.2.2.1=(0:Int)then θ (eM x.2.1).1 else(gd (bJ x.2.2.1)<|(gd (γ ([58]:aC)+γ (gK x.2.2.1)<=9223372036854775807)<|(gd (γ (eM x.2.1).1+γ (([58]:aC)++(gK x.2.2.1))<=9223372036854775807)<|some ((eM x.2.1).1++(([58]:aC)++(gK x.2.2.1)))))))=θ (mB (eM x.2.1).1 x.2.2.1):=by
     unfold mB;by_cases j:x.2.2.1=0
     ·rw[aB j,aB j]
     ·rw[aA j,aA j,aS (bW _ aU aU),aS aA3,aS aA3]
    have u:γ (mB (eM x.2.1).1 x.2.2.1)<=γ (eM x.2.1).1+6:=by
     unfold mB;split
     ·omega
     ·simp;omega
    rw[aB k,D,aR,Kt _ aU,aR,aS aA3,aS aA3,aS aA3,aS aA3,b ⟨r,q,aA0,aA0,k⟩];rfl
   ·rw[aA k,g (λh=>k h.2.2.2.2)]
theorem KU(s:aC)(k:aL s<=9223372036854775807)(l:aC):∀p a,aL p+aL l=aL s->aL l<a->
  avr FU s a (p++l) (γ p)=θ (p++l.map Ht):=by
 induction l with
 |nil=>intro p a g i;obtain⟨a,rfl⟩:=cB a;simp at g;rw[bgr,ato,aA aU];rfl
 |cons c l f=>
  intro p a g i;obtain⟨a,rfl⟩:=cB a;simp at g i;have j:=xJ p c l;have b:=f (p++[Ht c]) a aB5 aU;have ok:bJ ((aL p:Int)+1):=bW _ aU aU;rw[bgr,ato,aB aU];simp only[aS j,Rr,aS ok,oR];by_cases e:97<=c
  ·by_cases d:c<=122
   ·simp only[aB e,aE d,Uc c e d];rw[Xk p (Ht c),b];simp
   ·simp only[aD d];rw[bjh c (λh=>d h.2)]at b;rw[Xk p c,show p++c::l=(p++[c])++l by simp,b];simp[bjh c (λh=>d h.2)]
  ·simp only[aA e];rw[bjh c (λh=>e h.1)]at b;rw[Xk p c,show p++c::l=(p++[c])++l by simp,b];simp[bjh c (λh=>e h.1)]
theorem oU(s:aC)(a:aL s<=9223372036854775807):avs FU s=θ (Xf s):=by unfold avs;have:=KU s a s [] FU aA2 aA4;simp at this;rw[this];rfl
theorem HO{b:Type}[Inhabited b](p:b->η):∀l:δ b,(l.find? p=ι/\l.findIdx? p=ι)\/∃j:Nat,j<aL l/\l.findIdx? p=θ j/\l.find? p=θ (el l j)
 |[]=>.inl ⟨Τ,Τ⟩
 |a::l=>by
  rw[List.find?_cons,List.findIdx?_cons];cases h:p a with
  |true=>exact .inr ⟨0,aA2,Τ,Τ⟩
  |false=>
   rcases HO p l with⟨d,c⟩|⟨j,d,c,e⟩
   ·left;rw[d,c];exact⟨Τ,Τ⟩
   ·right;refine⟨j+1,by simp;omega,by rw[c];rfl,?_⟩;rw[e];rfl
theorem J2(l:δ PP)(g:aL l<=4194304)(d:∀p∈l,aL p.1<=4194304)(name:aC)(f:aL name<=4194304):bgz FU l name=θ (Is l name):=by
 unfold bgz;rw[Ux l g d name f,aR];have e:Is l name=(match l.find? (λp=>cN p.1==cN name)with|some p=>(p.2.1,μ)|none=>([],ν)):=rfl;rw[e];rcases HO (λp:PP=>cN p.1==cN name) l with⟨c,a⟩|⟨j,c,a,h⟩
 ·rw[c,a];rfl
 ·rw[a,h];have b:0<=(j:Int)/\(j:Int)<(aL l:Int):=by omega
  have i:oh (θ j)=(j:Int):=Τ;rw[i,aA aU,aS b,aS b]
theorem J5(s:aC)(g:aL s<=4194304)(i:Nat)(j:i<=aL s):baz FU s FU i=θ ((i+cD (λc=> !mH c) (s.drop i):Nat):Int):=by
 refine mV _ s _ ?_ ?_ ?_ (aL s-i) i FU aU aA4
 ·intro d;rw[bct,asi,aA aU];rfl
 ·intro d k e h;have a:mH (Κ s k)=μ:=by simpa using h
  rw[bct,asi,aB aU,aS aU];by_cases b:Κ s k=59
  ·rw[aB b];rfl
  ·have f:bR (Κ s k)=μ:=by
    unfold mH at a;rw[gE]at a;rcases a with h|h
    ·exact absurd aA7 b
    ·exact h
   rw[aA b,aS aU,dt,f];rfl
 ·intro d k e h;have a:mH (Κ s k)=ν:=by simpa using h
  unfold mH at a;rw[cq]at a;have b:¬Κ s k=59:=by simpa using a.1
  rw[bct,asi,aB aU,aS aU,aA b,aS aU,dt,aR,a.2,oF,aR,aM,dU]
def jA(E:Nat):aC->Nat->Nat->Nat
 |[],_,c=>c
 |x::l,k,c=>jA E l (k+1) (if x=93 then E else if x=58 then k else c)
theorem K0(s:aC)(i:aL s<=4194304)(E:Nat)(j:E<=aL s)(n:Nat):∀(k d c:Nat),k+n=E->n<d->
  bay FU s E d c k=θ ((jA E ((s.drop k).take n) k c:Nat):Int):=by
 induction n with
 |zero=>intro k d c f g;obtain⟨d,rfl⟩:=cB d;rw[bkf,aye,aA aU];rfl
 |succ n e=>
  intro k d c f g;obtain⟨d,rfl⟩:=cB d;have h:0<=(k:Int)/\(k:Int)<(aL s:Int):=aA0;have ok:bJ ((k:Int)+1):=bW _ aU aU;rw[bkf,aye,aB aU,yZ s k aU,sd,jA];simp only[aS h,aS ok];by_cases a:Κ s (k:Int)=93
  ·have b:¬Κ s (k:Int)=58:=by rw[a];decide
   rw[aA b,aR,aB a,aB a];exact e (k+1) d E aU aU
  ·by_cases b:Κ s k=58
   ·rw[aB b,aR,aA a,aA a,aB b];exact e (k+1) d k aU aU
   ·rw[aA b,aR,aA a,aA a,aA b];exact e (k+1) d c aU aU
theorem BJ(E:Nat):∀B (k c),(∀b∈B,b≠58)->jA E B k c=if B.any (·==93)=μ then E else c
 |[],_,_,_=>rfl
 |x::B,k,c,h=>by
  have hx:=h x aA2;rw[jA,BJ E B _ _ (λb d=>h b (fB _ d)),aA hx,Xr];by_cases a:x=93
  ·have:(x==93)=μ:=by simpa using a
   rw[this];split<;>rfl
  ·have:(x==93)=ν:=by simpa using a
   rw[aA a,this,CI]
theorem IB(E:Nat):∀A l (k c),jA E (A++l) k c=jA E l (k+aL A) (jA E A k c)
 |[],_,_,_=>rfl
 |x::A,l,k,c=>by rw[NU,jA,IB E A l,cM];congr 1;omega
theorem Nf(p:ζ->η):∀l:aC,0<=kR p l->∃A c B,l=A++c::B/\kR p l=aL A/\p c=μ/\∀b∈B,p b=ν
 |[],h=>by unfold kR at h;omega
 |b::l,h=>by
  have f:=uG p l;by_cases e:kR p l= -1
  ·have a:l.any p=ν:=by rcases f with h|h;exact h.2;omega
   have d:p b=μ:=by
    cases d:p b with
    |true=>rfl
    |false=>unfold kR at h;rw[aB e,d]at h;simp at h
   refine⟨[],b,l,Τ,?_,d,λx hx=>by have:=dC.1 a x hx;simpa using this⟩;unfold kR;rw[aB e,d];rfl
  ·obtain⟨A,c,B,j,k,i,g⟩:=Nf p l aU;refine⟨b::A,c,B,by rw[j];rfl,?_,i,g⟩;unfold kR;rw[cM];omega
theorem nk(P:aC)(b:58∈P)(f:Κ P 0≠91):(eM P).2=ν:=by
 have e:vB P=ν:=by
  cases hx:vB P with
  |false=>rfl
  |true=>unfold vB at hx;simp at hx;exact absurd hx.1.2 f
 have c:Kd P=ν:=by
  cases hx:Kd P with
  |false=>rfl
  |true=>
   unfold Kd at hx;simp only[lX]at hx;rcases py 46 fZ P (λx a=>(bjn x (by rw[<-uD];exact aT.1 hx.1.2 x a)).2.2) 58 b with h|h
   ·exact absurd h aA1
   ·exact absurd h aA1
 have d:JL P=ν:=by
  cases hx:JL P with
  |false=>rfl
  |true=>
   unfold JL at hx;simp only[lX]at hx;rcases py 46 jW P (λx a=>by have:=aT.1 hx.1.2 x a;unfold Fp at this;simp only[lX]at this;exact this.2) 58 b with h|h
   ·exact absurd h aA1
   ·exact absurd h aA1
 unfold eM;rw[e,aA aA1,c,aA aA1,d,aA aA1]
def Bz(P:aC):aC×aC×η:=if jA (γ P) P 0 (γ P)=aL P then(P,[],ν)else(P.take (jA (γ P) P 0 (γ P)),P.drop (jA (γ P) P 0 (γ P)+1),μ)
theorem kj(B:aC)(h:B.any (·==93)=μ):eV B=(0,5):=by
 have:B.all fZ=ν:=by
  cases hx:B.all fZ with
  |false=>rfl
  |true=>obtain⟨c,d,a⟩:=dS.1 h;have b:=aT.1 hx c d;have:c=93:=aC0;rw[this]at b;exact absurd b aA1
 unfold eV;rw[aB (.inr (.inr this))]
def TO(b place a:aC):VV×ζ:=
 if(eM (Bz place).1).2=ν then(qX,5)
 else if(Bz place).2.2=μ then(if(Cd (Bz place).2.1).2=0 then wU b (eM (Bz place).1).1 (Cd (Bz place).2.1).1 a else(qX,(Cd (Bz place).2.1).2))
 else wU b (eM (Bz place).1).1 0 a
theorem ft(v P j:aC):TO v P j=De v P j:=by
 by_cases hx:kR (·==(58:ζ)) P<0
 ·have r:∀b∈P,b≠58:=by
   rcases uG (·==(58:ζ)) P with h|h
   ·intro b t;have:=dC.1 h.2 b t;simpa using this
   ·omega
  have l:iZ P=(P,[],ν):=by unfold iZ;rw[aB hx]
  have m:Bz P=(P,[],ν):=by
   unfold Bz;have:jA (γ P) P 0 (γ P)=aL P:=by rw[BJ _ _ _ _ r];split<;>rfl
   rw[aB this]
  unfold TO De;rw[l,m]
 ·obtain⟨A,c,B,g,D,y,C⟩:=Nf (·==(58:ζ)) P aU;have n:c=58:=by simpa using y
  subst n;have u:∀b∈B,b≠58:=λb t=>by simpa using C b t
  have k:jA (γ P) P 0 (γ P)=if B.any (·==93)=μ then γ P else γ A:=by
   conv=>lhs;rw[show jA (γ P) P 0 (γ P)=jA (γ P) (A++58::B) 0 (γ P) from by rw[<-g]]
   rw[IB,jA,aA aA1,aB rfl,BJ _ _ _ _ u,Kh]
  have w:aL P=aL A+(aL B+1):=by rw[g,cE,cM]
  have s:((aL A:Int)+1).toNat=γ (A++[58]):=aA2
  have f:iZ P=if(A.any (·==91)&&B.any (·==93))=μ then(P,[],ν)else(A,B,μ):=by
   unfold iZ;rw[aA hx,D,gJ,s];have t1:P.take (γ A)=A:=by rw[g,ZJ]
   have t2:P.drop (γ A)=58::B:=by rw[g,TH]
   have t3:P.drop (γ (A++[58]))=B:=by rw[g,show A++58::B=(A++[58])++B by simp,TH]
   rw[t1,t2,t3,Xr,show((58:ζ)==93)=ν by decide,CI]
  cases e:B.any (·==93)with
  |false=>
   have m:Bz P=(A,B,μ):=by
    have d:jA (γ P) P 0 (γ P)=aL A:=by rw[k,e];exact aA aA1
    unfold Bz;rw[d,aA aU];have t1:P.take (γ A)=A:=by rw[g,ZJ]
    have t3:P.drop (aL A+1)=B:=by rw[g,show A++58::B=(A++[58])++B by simp,show γ A+1=γ (A++[58]) by simp,TH]
    rw[t1,t3]
   have l:iZ P=(A,B,μ):=by rw[f,e,eL,aA aA1]
   unfold TO De;rw[l,m]
  |true=>
   have m:Bz P=(P,[],ν):=by
    have d:jA (γ P) P 0 (γ P)=aL P:=by rw[k,e];exact aB Τ
    unfold Bz;rw[aB d]
   cases i:A.any (·==91)with
   |true=>
    have l:iZ P=(P,[],ν):=by rw[f,e,i,aB aA1]
    unfold TO De;rw[l,m]
   |false=>
    have l:iZ P=(A,B,μ):=by rw[f,e,i,aA aA1]
    have x:Cd B=(0,5):=by unfold Cd;rw[kj B e,aA (by rintro⟨h,_⟩;exact absurd h aA1)]
    have o:(eM P).2=ν:=by
     refine nk P (by rw[g];simp) ?_;intro q;cases A with
     |nil=>rw[g]at q;exact absurd (show(58:ζ)=91 from q) aA1
     |cons a A=>
      have z:a=91:=by rw[g]at q;simpa [Κ] using q
      rw[z]at i;simp at i
    unfold TO De;rw[l,m];simp only;rw[o,aB rfl,x];by_cases p:(eM A).2=ν
    ·rw[aB p]
    ·rw[aA p,aB trivial,aA aA1]
theorem SF(E:Nat):∀(P:aC) (k c:Nat),k+aL P<=E->c<=E->jA E P k c<=E
 |[],_,_,_,a=>a
 |x::P,k,c,h,a=>by
  rw[cM]at h;rw[jA];refine SF E P (k+1) _ aU ?_;split
  ·omega
  ·split<;>omega
theorem Pz(d E:Nat):∀(P:aC) (k c:Nat),jA (d+E) P (d+k) (d+c)=d+jA E P k c
 |[],_,_=>rfl
 |x::P,k,c=>by
  rw[jA,jA,<-Pz d E P];congr 1;split
  ·rfl
  ·split<;>rfl
theorem Ut(d h:aC)(b:Int)(a:aC)(e:aL a<=4194304):((aoe FU a).bind λ(y:((δ PP)×Int×ζ))=>(if y.2.2=(0:ζ)then((bgz FU y.1 ([98,114,97,110,99,104]:aC)).bind λ(g:(aC×η))=>θ ((d,h,b,g.1,y.1),(0:ζ)))else θ ((([]:aC),([]:aC),(0:Int),([]:aC),([]:δ PP)),y.2.2)))=θ (wU d h b a):=by
 have j:=Ah a;have i:=bci a e;unfold wU;rw[rH a e,aR];by_cases c:(fM a).2.2=0
 ·rw[aB c,aB c,J2 _ aU (λp f=>by have:=(i p f).2.1;omega) _ aA1,aR];rfl
 ·rw[aA c,aA c];rfl
theorem I6(v:aC)(H:aL v<=4194304):bli FU v=θ (lZ v):=by
 have I:=Tp v;unfold bli lZ;rw[dx v H,aR];generalize cI v=s at I⊢;have u:=jD cL s 8;rw[aut s aU,aR,YD s aU,aR];by_cases G:aL s<8
 ·rw[aB (show(aL s:Int)<8 by omega),aB G];rfl
 have C:8<=bT cL s 8:=Ci cL s 8 aU;rw[aA (show¬(aL s:Int)<8 by omega),aA G,aS aU,oU _ aB3,aR];by_cases A:Xf (s.take 8)=VER
 ·have q:Xf (eN (bL (8:Int)) s)=([83,73,80,47,50,46,48,47]:aC):=A;rw[aB q,aA (not_not_intro A)];generalize bT cL s 8=k at C u⊢;have D:=Ci bR s k u;have x:=jD bR s (k:Int);generalize bT bR s (k:Int)=i at D x⊢;by_cases t:k=8
  ·rw[aB aU,aB t];rfl
  rw[aA aU,aR,aA t];by_cases w:i=k
  ·rw[aE aU,aB w];rfl
  rw[aD aU,aG,aA w,J5 s aU i x,aR];have r:=Kf (λc=> !mH c) (s.drop i);rw[dY]at r;have g:γ ((s.drop i).take (cD (λc=> !mH c) (s.drop i)))=cD (λc=> !mH c) (s.drop i):=by rw[iI,dY];omega
  have z:s=s.take i++((s.drop i).take (cD (λc=> !mH c) (s.drop i))++(s.drop i).drop (cD (λc=> !mH c) (s.drop i))):=by rw[NZ,NZ]
  have f:cC (i+cD (λc=> !mH c) (s.drop i)) s=(s.drop i).drop (cD (λc=> !mH c) (s.drop i)):=aF0;have j:=K0 s aU (i+cD (λc=> !mH c) (s.drop i)) aU (cD (λc=> !mH c) (s.drop i)) i FU (i+cD (λc=> !mH c) (s.drop i)) Τ aA4;have e:∀m:Nat,m<=cD (λc=> !mH c) (s.drop i)->sub s (i:Int) ((i+m:Nat):Int)=((s.drop i).take (cD (λc=> !mH c) (s.drop i))).take m:=by intro m F;unfold sub;rw[gJ,gJ,zbO,Re,TF F]
  have a:∀m:Nat,m<cD (λc=> !mH c) (s.drop i)->sub s (((i+m:Nat):Int)+1) ((i+cD (λc=> !mH c) (s.drop i):Nat):Int)=((s.drop i).take (cD (λc=> !mH c) (s.drop i))).drop (m+1):=by intro m F;unfold sub;have y:(((i+m:Nat):Int)+1).toNat=i+(m+1):=aA0;rw[gJ,y,tO,Gj];congr 1;omega
  have b:=Pz i (cD (λc=> !mH c) (s.drop i)) ((s.drop i).take (cD (λc=> !mH c) (s.drop i))) 0 (cD (λc=> !mH c) (s.drop i));have d:=SF (cD (λc=> !mH c) (s.drop i)) ((s.drop i).take (cD (λc=> !mH c) (s.drop i))) 0 (cD (λc=> !mH c) (s.drop i)) aU (dK _);rw[Ru]at b;rw[b]at j;have o:γ ((s.drop i).drop (cD (λc=> !mH c) (s.drop i)))<=4194304:=by rw[dY,dY];omega
  rw[j,aR];rw[<-ft];unfold TO Bz;rw[g];generalize(s.drop i).drop (cD (λc=> !mH c) (s.drop i))=E at f o⊢;generalize K:cD (λc=> !mH c) (s.drop i)=n at r g e a d f⊢;generalize(s.drop i).take n=l at g e a d⊢;generalize jA n l 0 n=m at d⊢;have h:((i+n:Nat):Int).toNat=i+n:=aA0;rw[aS aU,e m d];by_cases p:m=n
  ·have y:l.take m=l:=by rw[p,<-g,hC]
   rw[aB p,y,bfx _ aU,aR];simp only;cases J:(eM l).2 with
   |false=>rfl
   |true=>rw[eY,aG,aS aU,oU _ aF6,aR,aA (show¬((i+m:Nat):Int)<((i+n:Nat):Int)by omega),aR,lB,aS aU,h,f,Ut _ _ _ _ o,aA aA1,aA aA1]
  ·have y:γ (l.take m)<=4194304:=by rw[iI];omega
   rw[aA p,bfx _ y,aR];simp only;cases J:(eM (l.take m)).2 with
   |false=>rfl
   |true=>
    rw[eY,aG,aS aU,oU _ aF6,aR,aB (show((i+m:Nat):Int)<((i+n:Nat):Int)by omega),aS (bW _ aU aU),aS aU,a m aU,LD _ aB1,aR,aA (show¬(μ=ν)by decide),aB trivial];by_cases B:(Cd (l.drop (m+1))).2=0
    ·rw[aB B,aB B,aR,lB,aS aU,h,f,Ut _ _ _ _ o]
    ·rw[aA B,aA B,aR,Rt];rfl
 ·have q:¬Xf (eN (bL (8:Int)) s)=([83,73,80,47,50,46,48,47]:aC):=A;rw[aA q,aB A];rfl
theorem UT(x:VV)(m:aL x.2.2.2.2<=4194304)(q:δ PP):∀(p:δ PP) (d:Nat),x.2.2.2.2=p++q->aL q<d->
  ake FU x d (kS p) (aL p:Int)=θ (kS (p++q)):=by
 induction q with
 |nil=>intro p d h i;obtain⟨d,rfl⟩:=cB d;rw[bby,ams,aA aA6,gH]
 |cons a q j=>
  intro p d h i;obtain⟨d,rfl⟩:=cB d;have f:=bA aL h;simp only[cE,cM]at f i;have b:(0:Int)<=(aL p:Int)/\(aL p:Int)<(aL x.2.2.2.2:Int):=aA0;have l:el x.2.2.2.2 (aL p:Int)=a:=aB2;have c:=j (p++[a]) d aA6 aU;rw[show(γ (p++[a]):Int)=(aL p:Int)+1 by simp,jI,jM]at c;have k:=Am p;rw[bby,ams,aB b.2,aS b,aS b,l];by_cases g:a.1=wz
  ·have e:kS (p++[a])=kS p:=by unfold kS;rw[Rj];simp[g]
   rw[aB (show a.1=([98,114,97,110,99,104]:aC)from g),aS (bW _ aU aU)];rw[e]at c;exact c
  ·have e:kS (p++[a])=kS p++[a]:=by unfold kS;rw[Rj];simp[g]
   rw[aA (show¬a.1=([98,114,97,110,99,104]:aC)from g)];simp only[Zl];rw[aS b,aS b,aS aB6,aS (bW _ aU aU)];rw[e]at c;exact c
theorem Sh(x:VV)(N:aL x.1<=4194304)(I:aL x.2.1<=4194304)(K:aL x.2.2.2.2<=40)(G:∀p∈x.2.2.2.2,aL p.1<=4194304/\γ p.2.1<=4194304)(H:aL x.2.2.2.1<=4194304):ayf FU x=θ (Hb x):=by
 have D:=Am x.2.2.2.2;have F:=II x.2.2.2.1;have s:=C2 x G H;have A:γ (kS x.2.2.2.2++iL x.2.2.2.1)<=41:=aD3;have k:∀p∈fS (kS x.2.2.2.2++iL x.2.2.2.1),aL p.1<=4194304/\γ p.2.1<=4194304:=λp C=>s p (vk _ p C);have t:=uB (fS (kS x.2.2.2.2++iL x.2.2.2.1)) k;have E:=bjv (kS x.2.2.2.2++iL x.2.2.2.1);have M:=Fa x.2.1;have B:=oN x.1;unfold ayf;rw[bfx _ I,aR,bch _ aU,aR];cases w:jG x.1 with
 |false=>rw[az x (λh=>by rw[w]at h;exact absurd h.2.1 aA1)];rfl
 |true=>
  rw[eY,aG];cases y:(eM x.2.1).2 with
  |false=>rw[az x (λh=>by rw[y]at h;exact absurd h.1 aA1)];rfl
  |true=>
   rw[eY,aG];by_cases m:x.2.2.1<0
   ·rw[aB m,aR,aM,az x (by rintro⟨_,_,h,_⟩;omega)]
   by_cases n:65535<x.2.2.1
   ·rw[aA m,aE n,aR,aM,az x (by rintro⟨_,_,_,h,_⟩;omega)]
   have u:=UT x aU x.2.2.2.2 [] FU Τ aA4;have q:ake FU x FU ([]:δ PP) (0:Int)=θ (kS x.2.2.2.2):=u;rw[aA m,aD n,aR,aG,q,aR];have J:(if x.2.2.2.1=([]:aC)then θ (kS x.2.2.2.2)else(gd ((γ (kS x.2.2.2.2)+γ ([(([98,114,97,110,99,104]:aC),x.2.2.2.1,μ)]:δ PP))*40<=140737488355328)<|some (kS x.2.2.2.2++([(([98,114,97,110,99,104]:aC),x.2.2.2.1,μ)]:δ PP))))=θ (kS x.2.2.2.2++iL x.2.2.2.1):=by
    unfold iL;by_cases i:x.2.2.2.1=[]
    ·rw[aB i,aB i,gH]
    ·rw[aA i,aA i,aS aB6];rfl
   rw[J,aR,bcg _ aU,aR,bdx _ aU k,aR];have j:=Dr x;have o:=az x;generalize fS (kS x.2.2.2.2++iL x.2.2.2.1)=l at t j o⊢;by_cases r:(rR l).2=0
   ·have L:=bgj x.2.2.1 aU aU;rw[aB r,oU _ aU,aR,aS aB9,aS aB8,aS aB8,j ⟨y,w,aA0,aA0,r⟩];by_cases v:x.2.2.1=0
    ·rw[aA aU,aS aB8];unfold mB;rw[aB v];rfl
    ·rw[aB aU,aS aB8,bdd _ aU aU,aR,aS aB8,aS aB8];unfold mB;rw[aA v];have e:∀a b c d e f g:aC,a++b++c++d++e++f++g=a++b++c++(d++(e++f))++g:=by intros;simp
     exact bA (λz=>θ (z,(0:ζ))) (e _ _ _ _ _ _ _)
   ·rw[aA r,o (λh=>r h.2.2.2.2)]
theorem GK(l:aC)(c:ζ):decide (0<=dM (·==c) l)=fO l c:=GJ l c
theorem Oy(c:ζ)(k:Int)(h:k=0\/k=1\/k=2):aql FU c k=θ (Ir c k):=by
 unfold aql;rw[Xo,aR];have a:∀b:η,Ir c k=(b||fO (BK k) c)->((θ b).bind λ(e:η)=>(bif e then θ μ else(((if(0:Int)<=k then(if k<=(2:Int)then(gd (0<=k/\k<(3:Int))<|(gd (0<=k/\k<γ dv)<|some (decide (0<=(dM (·==c) (el dv k))))))else θ ν)else θ ν)).bind λd=>θ d)))=θ (Ir c k):=by
  intro b j;rw[j];cases b with
  |true=>rfl
  |false=>
   have l:γ dv=3:=Τ;have i:el dv k=BK k:=by rcases h with rfl|rfl|rfl<;>rfl
   rw[aB aA0,aB aA0,aS aA0,aS aA0,i,GK];rfl
 cases f:px c with
 |true=>rw[aM];exact a μ (by unfold Ir;rw[f];rfl)
 |false=>
  rw[Cj,aR];cases g:fZ c with
  |true=>rw[aM];exact a μ (by unfold Ir;rw[f,g];rfl)
  |false=>rw[GK];exact a _ (by unfold Ir;rw[f,g];rfl)
theorem ayz(s:aC)(c:ζ)(f:γ s<=4194304):ZE FU s c=θ (fO s c):=by
 have h:=nW (λb=> !(b==c)) s f μ (aos FU s c)
  (λd=>by rw[atc,ajb,aA aA0])
  (λd k g h=>by have a:Κ s (k:Int)=c:=aA7;rw[atc,ajb,aB aA0,dU,aB a])
  (λd k g h=>by have a:¬Κ s k=c:=aA7;rw[atc,ajb,aB aA0,dU,aA a,dU])
 unfold ZE;rw[h];have e:s.all (λb=> !(b==c))= !fO s c:=by unfold fO;rw[JB]
 rw[e];cases fO s c<;>rfl
theorem PO(c:ζ)(k:Int)(j:k=0\/k=1\/k=2):bkh FU c k=θ (Ir c k):=by
 unfold bkh;rw[Us,aR];have a:∀b:η,Ir c k=(b||fO (BK k) c)->((θ b).bind λg=>(bif g then θ μ else(if k=0 then((ZE FU [38,61,43,36,44,59,63,47] c).bind λf=>θ f)else(if k=1 then((ZE FU [91,93,47,58,38,43,36] c).bind λe=>θ e)else(if k=2 then((ZE FU [91,93,47,63,58,43,36] c).bind λd=>θ d)else θ ν)))))=θ (Ir c k):=by
  intro b l;rw[l];cases b with
  |true=>rfl
  |false=>rw[ayz _ _ aA1,ayz _ _ aA1,ayz _ _ aA1];rcases j with rfl|rfl|rfl<;>rfl
 cases h:px c with
 |true=>rw[aM];exact a μ (by unfold Ir;rw[h];rfl)
 |false=>
  rw[zR,aR];cases i:fZ c with
  |true=>rw[aM];exact a μ (by unfold Ir;rw[h,i];rfl)
  |false=>rw[ayz _ _ aA1];exact a _ (by unfold Ir;rw[h,i];rfl)
def hx(c:ζ):ζ:=((wh FU c).getD (0,ν)).1
theorem RG:∀c:ζ,wh FU c=θ (hx c,fW c):=fP _ aA5
theorem Uw:∀c:ζ,fW c=μ->dy FU c=θ ((hx c).toNat:Int):=fP _ aA5
theorem RD:∀c:ζ,(hx c).toNat<16:=fP _ aA5
theorem ED:∀c:ζ,fW c=ν->dy FU c=θ (-1):=fP _ aA5
theorem yf:∀a b:Fin 16,(UI (Gg a.val) 4)|||Gg b.val=Gg (16*a.val+b.val):=aA5
def esV(a b:ζ):ζ:=Gg (16*(hx a).toNat+(hx b).toNat)
theorem ib(a b:ζ):(UI (hx a) 4)|||hx b=esV a b:=by have:=yf ⟨(hx a).toNat,RD a⟩ ⟨(hx b).toNat,RD b⟩;simp only[UInt8.ofNat_toNat]at this;exact this
def lF(l:aC):ε ζ:=if 2<γ l/\Κ l 0=37/\fW (Κ l 1)=μ/\fW (Κ l 2)=μ then θ (esV (Κ l 1) (Κ l 2))else ι
theorem aj(s:aC)(i:Nat)(j:Nat):Κ (s.drop i) j=Κ s ((i+j:Nat)):=by simp only[Κ,gJ,bH,bV]
theorem HS(s:aC)(l:γ s<=4194304)(i:Nat)(n:i<γ s):∃v,ans FU s i=θ (v,(lF (s.drop i)).isSome)/\((lF (s.drop i)).isSome=μ->lF (s.drop i)=θ v):=by
 have k:=aj s i 0;have j:=aj s i 1;have g:=aj s i 2;have f:(i:Int)+1=((i+1:Nat):Int):=Τ;have e:(i:Int)+2=((i+2:Nat):Int):=Τ;have m:γ (s.drop i)=γ s-i:=dY;have d:Κ (s.drop i) 0=Κ s (i:Int):=k;have c:Κ (s.drop i) 1=Κ s ((i+1:Nat):Int):=j;have b:Κ (s.drop i) 2=Κ s ((i+2:Nat):Int):=g;unfold ans lF;rw[aS (bW _ aA0 aA0),f,e,d,c,b];by_cases q:γ s<=i+2
 ·rw[aB aA0,aA aA0];exact⟨0,Τ,λh=>absurd h aA1⟩
 ·rw[aA aA0,aS aA0,aR];by_cases a:Κ s (i:Int)=37
  ·rw[aE a,aS (bW _ aA0 aA0),aS aA0,RG,aR,aS (bW _ aA0 aA0),aS aA0,RG,aR,ib];cases p:fW (Κ s ((i+1:Nat):Int))with
   |false=>rw[aA (λh=>absurd h.2.2.1 aA1)];exact⟨_,Τ,λh=>absurd h aA1⟩
   |true=>
    cases o:fW (Κ s ((i+2:Nat):Int))with
    |false=>rw[aA (λh=>absurd h.2.2.2 aA1)];exact⟨_,Τ,λh=>absurd h aA1⟩
    |true=>rw[aB ⟨aA0,a,rfl,rfl⟩];exact⟨_,Τ,λ_=>rfl⟩
  ·rw[aD a,aA (λh=>a h.2.1)];exact⟨0,Τ,λh=>absurd h aA1⟩
theorem Ya:∀c:ζ,YP c.toNat=c:=fP _ aA5
theorem J4(s:aC)(n:γ s<=4194304)(i:Nat)(p:i<γ s):bdb FU s i=θ (match lF (s.drop i)with|some v=>v.toNat|none=> -1):=by
 have g:=aj s i 0;have m:=aj s i 1;have l:=aj s i 2;have k:i+1=((i+1:Nat):Int):=Τ;have j:(i:Int)+2=((i+2:Nat):Int):=Τ;have o:γ (s.drop i)=γ s-i:=dY;rw[Ru]at g;have d:Κ (s.drop i) 0=Κ s (i:Int):=g;have c:Κ (s.drop i) 1=Κ s ((i+1:Nat):Int):=m;have b:Κ (s.drop i) 2=Κ s ((i+2:Nat):Int):=l;unfold bdb lF;rw[aS (bW _ aA0 aA0),k,j,d,c,b];by_cases t:γ s<=i+2
 ·rw[aB aA0,aR,aM,aA aA0]
 ·rw[aA aA0,aS aA0];by_cases a:Κ s (i:Int)=37
  ·rw[aB a,aS (bW _ aA0 aA0),aS aA0];cases f:fW (Κ s ((i+1:Nat):Int))with
   |false=>rw[ED _ f,aR,aB aA1,aR,aM,aA (λh=>absurd h.2.2.1 aA1)]
   |true=>
    have r:=RD (Κ s ((i+1:Nat):Int));rw[Uw _ f,aR,aA aA0,aS (bW _ aA0 aA0),aS aA0];cases e:fW (Κ s ((i+2:Nat):Int))with
    |false=>rw[ED _ e,aR,aR,show decide ((-1:Int)<0)=μ by decide,aM,aA (λh=>absurd h.2.2.2 aA1)]
    |true=>
     have q:=RD (Κ s ((i+2:Nat):Int));rw[Uw _ e,aR,aR,aS (bW _ aA0 aA0),aS aA0,aR,aS (bW _ aA0 aA0),aS (bW _ aA0 aA0),aS aA0,aR,aS (bW _ aA0 aA0),aB ⟨aA0,a,rfl,rfl⟩];unfold esV;have:(Gg (16*(hx (Κ s ((i+1:Nat):Int))).toNat+(hx (Κ s ((i+2:Nat):Int))).toNat)).toNat=16*(hx (Κ s ((i+1:Nat):Int))).toNat+(hx (Κ s ((i+2:Nat):Int))).toNat:=by rw[iN,IZ aA0]
     simp only[this];congr 1
  ·rw[aA a,aR,aM,aA (λh=>a h.2.1)]
def gW(k:Int):Nat->aC->ε Nat
 |0,_=>ι
 |f+1,l=>if l=[]then ι else if Ir (Κ l 0) k=μ then(gW k f (l.drop 1)).map (·+1)
  else match lF l with
   |some v=>if dQ v=μ then θ 0 else(gW k f (l.drop 3)).map (·+3)
   |none=>θ 0
def sY(k:Int):Nat->aC->aC
 |0,_=>[]
 |f+1,l=>if l=[]then []else if Ir (Κ l 0) k=μ then Κ l 0::sY k f (l.drop 1)
  else match lF l with
   |some v=>v::sY k f (l.drop 3)
   |none=>[]
def fE(k:Int)(l:aC):ε Nat:=gW k (γ l+1) l
def kO(k:Int)(l:aC):aC:=sY k (γ l+1) l
theorem ug(k:Int)(a:k=0\/k=1\/k=2):Ir 37 k=ν:=by rcases a with rfl|rfl|rfl<;>decide
variable{T:aC}
theorem bgl{v:ζ}(h:lF T=θ v):2<γ T/\Κ T 0=37:=by
 unfold lF at h;split at h
 ·rename_i a;exact⟨a.1,a.2.1⟩
 ·cases h
theorem yH(c:ζ):awv FU c=θ (dQ c):=by revert c;exact fP _ aA5
theorem B1(s:aC)(t:Int)(e:Nat)(D:γ s<=4194304)(E:e<=γ s)(k:Int)(x:k=0\/k=1\/k=2)(n:Nat):∀i a f,e-i<=n->n<a->i<=e->e-i<f->
  aie FU (s,t) e k a i=θ (match gW k f ((s.take e).drop i)with|none=>.inl ()|some j=>.inr (((i+j:Nat)),μ)):=by
 induction n with
 |zero=>intro i a f y z g l;obtain⟨a,rfl⟩:=cB a;obtain⟨f,rfl⟩:∃m,f=m+1:=⟨f-1,aA0⟩;rw[akr,afh,aA aA0,gW,aB (Da aB3)]
 |succ n p=>
  intro i a f y z g l;obtain⟨a,rfl⟩:=cB a;obtain⟨f,rfl⟩:∃m,f=m+1:=⟨f-1,aA0⟩;by_cases d:i<e
  ·have b:γ ((s.take e).drop i)=e-i:=by rw[dY,iI];omega
   have c:¬(s.take e).drop i=[]:=λh=>by rw[h]at b;simp at b;omega
   have hZ:Κ ((s.take e).drop i) 0=Κ s (i:Int):=by have:=aj (s.take e) i 0;rw[Ru]at this;rw[show Κ ((s.take e).drop i) 0=Κ (s.take e) (i:Int)from this];simp only[Κ,gJ,bH];rw[CG d]
   have d1:((s.take e).drop i).drop 1=(s.take e).drop (i+1):=aF0;have d3:((s.take e).drop i).drop 3=(s.take e).drop (i+3):=aF0;rw[akr,afh,aB aA0,aS (show 0<=(i:Int)/\(i:Int)<(γ s:Int)by omega),Oy _ k x,aR,gW,aA c,hZ];cases F:Ir (Κ s (i:Int)) k with
   |true=>
    rw[aS (bW _ aA0 aA0),mL,p (i+1) a f aA0 aA0 aA0 aA0,d1];cases gW k f ((s.take e).drop (i+1))with
    |none=>rfl
    |some j=>
     show θ (Sum.inr _)=θ (Sum.inr _);congr 3;try dsimp only
     omega
   |false=>
    have u:γ (s.take e)=e:=aB3;obtain⟨v,B,r⟩:=HS (s.take e) aA0 i aA0;rw[aS (show 0<=(e:Int)/\(e:Int)<=(γ s:Int)by omega),gJ,B,aR];cases q:lF ((s.take e).drop i)with
    |none=>congr 3
    |some o=>
     rw[q]at r;obtain rfl:o=v:=by have:=r Τ;simpa using this
     have w:=(bgl q).1;simp only[Option.isSome_some,eY,aG];rw[yH,aR,aR];cases A:dQ o with
     |true=>rw[aM];rfl
     |false=>
      rw[aS (bW _ aA0 aA0),aS (bW _ aA0 aA0),d3];have C:i+2+1=((i+3:Nat):Int):=aA0;rw[C,p (i+3) a f aA0 aA0 aA0 aA0];cases gW k f _ with
      |none=>rfl
      |some j=>
       show θ (Sum.inr _)=θ (Sum.inr _);congr 3;try dsimp only
       omega
  ·rw[akr,afh,aA aA0,gW,aB (Da aB3)]
theorem Kl(s:aC)(d:γ s<=4194304)(i e:Nat)(b:i<=e)(g:e<=γ s)(k:Int)(f:k=0\/k=1\/k=2):
  afv FU (s,i) e k=θ (match fE k (sub s i e)with|none=>(0,ν)|some j=>(((i+j:Nat)),μ)):=by
 have a:sub s i e=(s.take e).drop i:=by unfold sub;rw[gJ,gJ,tO]
 have c:γ ((s.take e).drop i)=e-i:=by rw[dY,iI];omega
 have:=B1 s i e d g k f _ i FU (γ (sub s _ e)+1) (dK _) aA4 b (by rw[a];omega);unfold afv;rw[this,<-a];unfold fE;cases gW k _ _<;>rfl
theorem C9(s:aC)(A:γ s<=4194304)(k:Int)(C:k=0\/k=1\/k=2)(n:Nat):∀i c f (b:aC),γ s-i<=n->n<c->i<=γ s->γ s-i<f->γ b<=i->gW k f (s.drop i)=ι->
  aij FU s c b i=θ (.inl (b++sY k f (s.drop i))):=by
 induction n with
 |zero=>intro i c f b D E t u F a;obtain⟨c,rfl⟩:=cB c;obtain⟨f,rfl⟩:∃m,f=m+1:=⟨f-1,aA0⟩;rw[aqo,ahu,aA aA0,sY,aB (Da aA0),gH]
 |succ n w=>
  intro i c f b D E t u F a;obtain⟨c,rfl⟩:=cB c;obtain⟨f,rfl⟩:∃m,f=m+1:=⟨f-1,aA0⟩;by_cases r:i<γ s
  ·have g:0<=(i:Int)/\(i:Int)<(γ s:Int):=by omega
   have d:γ (s.drop i)=γ s-i:=dY;have l:¬s.drop i=[]:=λh=>by rw[h]at d;simp at d;omega
   have hZ:Κ (s.drop i) 0=Κ s (i:Int):=by have:=aj s i 0;rw[Ru]at this;exact this
   have d1:(s.drop i).drop 1=s.drop (i+1):=aF0;have d3:(s.drop i).drop 3=s.drop (i+3):=aF0;rw[gW,aA l,hZ]at a;rw[aqo,ahu,aB g.2,aS g,sY,aA l,hZ];by_cases p:Ir (Κ s (i:Int)) k=μ
   ·have j:¬Κ s (i:Int)=37:=λe=>by rw[e,ug k C]at p;cases p
    rw[aB p,iO,d1]at a;rw[aA j,aS g,aS aA3,aS (bW _ aA0 aA0),mL,w _ c f _ aA0 aA0 aA0 aA0 aA3 a,aB p];simp
   ·rw[aA p]at a⊢;cases q:lF _ with
    |none=>rw[q]at a;cases a
    |some v=>
     rw[q]at a;simp only at a;have B:=(bgl q).1;have j:Κ s i=37:=by rw[<-hZ];exact(bgl q).2
     obtain⟨z,y,x⟩:=HS s A i r;rw[q]at y x;obtain rfl:v=z:=by have:=x Τ;simpa using this
     by_cases o:dQ v=μ
     ·rw[aB o]at a;cases a
     ·rw[aA o,iO,d3]at a;have G:i+2+1=((i+3:Nat):Int):=by omega
      rw[aB j,y,aR];rw[aS aA3,aS (bW _ aA0 aA0),aS (bW _ aA0 aA0),G,w (i+3) c f _ aA0 aA0 aA0 aA0 aA3 a];simp
  ·rw[aqo,ahu,aA aA0,sY,aB (Da aA0),gH]
theorem xX(s:aC)(c:γ s<=4194304)(k:Int)(d:k=0\/k=1\/k=2)(b:fE k s=ι):ald FU s=θ (kO k s):=by have:=C9 s c k d (γ s) 0 FU (γ s+1) [] aA0 aA4 aA0 aA0 aA2 (by rw[NT];exact b);have a:aij FU s FU _ 0=_:=this;unfold ald bbu;rw[V5 aA0,a,aR];rfl
open Go.Lib renaming indexAny → Cz
abbrev RR:=aC×Int×Int×ζ
def Qi(r:RR)(a:Int)(e:ζ):RR:=if r.2.2.2=0 then(r.1,r.2.1,a,e)else r
theorem Rs(r:RR)(a:Int)(e:ζ):Kg FU r a e=θ (Qi r a e):=by unfold Kg Qi;split<;>rfl
theorem Jx(r:RR)(a:Int)(e:ζ):(Qi r a e).1=r.1/\(Qi r a e).2.1=r.2.1:=by unfold Qi;split<;>exact⟨Τ,Τ⟩
def bP(st:aC)(s:aC)(i:Nat):Nat:=i+cD (λc=> !fO st c) (s.drop i)
theorem Ke(st s:aC)(i:Nat):i<=bP st s i:=Nat.le_add_right _ _
theorem Fz(st s:aC)(i:Nat)(a:i<=γ s):bP st s i<=γ s:=by have:=Kf (λc=> !fO st c) (s.drop i);rw[dY]at this;unfold bP;omega
theorem Tl(st:aC):(λc=>st.contains c)=fO st:=by funext c;rw[List.contains_eq_any_beq];congr 1;funext b;exact Bool.beq_comm
theorem qg(s:aC)(j:γ s<=4194304)(i:Nat)(k:i<=γ s)(st:aC)(h:γ st<=1000)(g:st.all (λb=>decide (b.toNat<128))=μ):BZ FU s i st=θ ((bP st s i):Int):=by
 have l:γ (s.drop i)=γ s-i:=dY;have a:=qf (fO st) (s.drop i);have c:Cz (s.drop i) st=dM (fO st) (s.drop i):=by rw[azl,Tl]
 unfold BZ bP;rw[aS aA0,gJ,aS ⟨aA0,h,g⟩,c];rcases a with⟨f,e⟩|⟨f,e,d⟩
 ·rw[aA aA0];congr 1;omega
 ·rw[aS (bW _ aA0 aA0),d];rfl
theorem bcf(s:aC)(g:γ s<=4194304)(i:Nat)(j:i<=γ s)(a:Int)(e:ζ)(st:aC)(l:γ st<=1000):ZF FU (s,i,a,e) st=θ ((bP st s i):Int):=by
 have:=mV (λc=> !fO st c) s (ajo FU (s,(i:Int),a,e) st)
  (λd=>by rw[amh,afz,aA (show¬((γ s:Int)<(γ s:Int))by omega)];rfl)
  (λd k f h=>by have b:fO st (Κ s (k:Int))=μ:=aA7;rw[amh,afz,aB (show(k:Int)<(γ s:Int)by omega),aS (show 0<=(k:Int)/\(k:Int)<(γ s:Int)by omega),ayz _ _ aA0,b];rfl)
  (λd k f h=>by have b:fO st (Κ s (k:Int))=ν:=aA7;rw[amh,afz,aB (show(k:Int)<(γ s:Int)by omega),aS (show 0<=(k:Int)/\(k:Int)<γ s by omega),ayz _ _ aA0,b,aR,oF,aR,aM,dU])
  (γ s-i) i FU aA0 aA4
 unfold ZF;rw[this];rfl
theorem bkm(st s:aC)(i:Nat)(f:i<=γ s)(h:bP st s i<γ s):fO st (Κ s ((bP st s i)))=μ:=by
 have g:γ (s.drop i)=γ s-i:=dY;have key:∀l:aC,cD (λc=> !fO st c) l<γ l->fO st (Κ l (cD (λc=> !fO st c) l:Int))=μ:=by
  intro l;induction l with
  |nil=>intro h;simp at h
  |cons a l d=>
   intro h;cases b:fO st a with
   |true=>have e:cD (λc=> !fO st c) (a::l)=0:=lP _ a l (by simp[b]);rw[e];exact b
   |false=>
    have e:cD (λc=> !fO st c) (a::l)=cD (λc=> !fO st c) l+1:=by rw[cD,aB (by simp[b])]
    rw[e]at h⊢;have:=d (by simp at h;omega);simpa [Κ] using this
 unfold bP at h⊢;have:=key (s.drop i) aA0;rw[aj]at this;exact this
theorem J9(s:aC)(y:Int)(a:Int)(A:ζ)(e:Nat)(J:γ s<=4194304)(K:e<=γ s)(k:Int)(z:k=0\/k=1\/k=2)(n:Nat):∀(i c f:Nat) (out:aC),e-i<=n->n<c->i<=e->e-i<f->γ out<=i->
  aid FU (s,y,a,A) (e:Int) k c out (i:Int)=θ (match gW k f ((s.take e).drop i)with|none=>.inl (out++sY k f ((s.take e).drop i))|some j=>.inr ([],Qi (s,y,a,A) ((i+j:Nat):Int) 5)):=by
 induction n with
 |zero=>intro i c f out F G t u D;obtain⟨c,rfl⟩:=cB c;obtain⟨f,rfl⟩:∃m,f=m+1:=⟨f-1,aA0⟩;have o:(s.take e).drop i=[]:=Da aB3;rw[akp,aff,aA aA0,gW,aB o,sY,aB o,gH]
 |succ n x=>
  intro i c f out F G t u D;obtain⟨c,rfl⟩:=cB c;obtain⟨f,rfl⟩:∃m,f=m+1:=⟨f-1,aA0⟩;by_cases q:i<e
  ·have g:γ ((s.take e).drop i)=e-i:=by rw[dY,iI];omega
   have l:¬(s.take e).drop i=[]:=λh=>by rw[h]at g;simp at g;omega
   have hZ:Κ ((s.take e).drop i) 0=Κ s (i:Int):=by have:=aj (s.take e) i 0;rw[Ru]at this;rw[show Κ ((s.take e).drop i) 0=Κ (s.take e) (i:Int)from this];simp only[Κ,gJ,bH];rw[CG q]
   have d1:((s.take e).drop i).drop 1=(s.take e).drop (i+1):=aF0;have d3:((s.take e).drop i).drop 3=(s.take e).drop (i+3):=aF0;have r:0<=(i:Int)/\(i:Int)<(γ s:Int):=aA0;rw[akp,aff,aB aA0,aS r,gW,sY,aA l,aA l,hZ];by_cases d:Κ s (i:Int)=37
   ·have b:((Κ s (i:Int)).toNat:Int)=37:=by rw[d];rfl
    have w:¬Ir (Κ s (i:Int)) k=μ:=by rw[d,ug k z];decide
    have C:γ (s.take e)=e:=aB3;rw[aB b,aS (show 0<=(e:Int)/\(e:Int)<=(γ s:Int)by omega),gJ,J4 (s.take e) aA0 i aA0,aR,aA w,aA w];cases p:lF ((s.take e).drop i)with
    |none=>simp only;rw[aB aA1,aR,aM,Rs,aR,aR,Rt];rfl
    |some v=>
     have E:=(bgl p).1;have B:=fG v;simp only;rw[aA aA0,Ya,qp,aR,aR];cases H:dQ v with
     |true=>rw[aM,Rs,aR,aR,Rt,aB rfl];rfl
     |false=>
      rw[aG,aS (bW _ aA0 aA0),aR,lB,aA (show¬(ν=μ)by decide),d3];simp only;have I:(i:Int)+2+1=((i+3:Nat):Int):=aA0;rw[Ya,aS aB6,aS (bW _ aA0 aA0),I,x (i+3) c f _ aA0 aA0 aA0 aA0 aB7];cases gW k f ((s.take e).drop (i+3))with
      |none=>simp
      |some j=>
       show θ (Sum.inr _)=θ (Sum.inr _);congr 4;try dsimp only
       omega
   ·have b:¬((Κ s (i:Int)).toNat:Int)=37:=λh=>d (jE.1 (by have:(37:ζ).toNat=37:=Τ;omega));rw[aA b,Ya,PO _ k z,aR];cases w:Ir (Κ s (i:Int)) k with
    |true=>
     rw[eY,aG,aR,lB,aB rfl,aB rfl,d1];simp only;rw[Ya,aS aB6,aS (bW _ aA0 aA0),mL,x (i+1) c f _ aA0 aA0 aA0 aA0 aB7];cases gW k f ((s.take e).drop (i+1))with
     |none=>simp
     |some j=>
      show θ (Sum.inr _)=θ (Sum.inr _);congr 4;try dsimp only
      omega
    |false=>
     have p:lF ((s.take e).drop i)=ι:=by
      cases p:lF ((s.take e).drop i)with
      |none=>rfl
      |some v=>exact absurd (by rw[<-hZ];exact(bgl p).2) d
     rw[oF,aM,Rs,aR,aR,Rt,aA (show¬(ν=μ)by decide),p];rfl
  ·have o:(s.take e).drop i=[]:=Da aB3;rw[akp,aff,aA aA0,gW,aB o,sY,aB o,gH]
theorem rM(s:aC)(g:γ s<=4194304)(i e:Nat)(f:i<=e)(l:e<=γ s)(a:Int)(d:ζ)(k:Int)(h:k=0\/k=1\/k=2):
  wm FU (s,(i:Int),a,d) (e:Int) k=θ (match fE k (sub s (i:Int) (e:Int))with|none=>(kO k (sub s (i:Int) (e:Int)),(s,(e:Int),a,d))|some j=>([],Qi (s,(i:Int),a,d) ((i+j:Nat):Int) 5)):=by
 have b:sub s (i:Int) (e:Int)=(s.take e).drop i:=by unfold sub;rw[gJ,gJ,tO]
 have c:γ ((s.take e).drop i)=e-i:=by rw[dY,iI];omega
 have:=J9 s (i:Int) a d e g l k h (e-i) i FU (γ (sub s (i:Int) (e:Int))+1) [] (dK _) aA4 f (by rw[b,c];omega) aA2;unfold wm;simp only;rw[this,aR,<-b];unfold fE kO;cases gW k (γ (sub s (i:Int) (e:Int))+1) (sub s (i:Int) (e:Int))with
 |none=>simp only[Ic];rfl
 |some j=>rfl
theorem wA(s:aC)(i:Nat)(a:Int)(c:ζ):NN FU (s,i,a,0) c=θ (cV s i c):=by unfold NN;rw[Lv];rfl
theorem Wb(s:aC)(i a:Int)(e:ζ)(b:¬e=0)(c:ζ):NN FU (s,i,a,e) c=θ ν:=by unfold NN;rw[aA b];rfl
theorem ar(k:Int):∀f l j,gW k f l=θ j->j<γ l
 |0,_,_,h=>by cases h
 |f+1,l,j,h=>by
  rw[gW]at h;by_cases a:l=[]
  ·rw[aB a]at h;cases h
  ·have b:=bN.2 a;rw[aA a]at h;split at h
   ·rw[bU]at h;obtain⟨x,hx,rfl⟩:=h;have:=ar k f _ x hx;rw[dY]at this;omega
   ·split at h
    ·rename_i v c;split at h
     ·rw[bG]at h;omega
     ·rw[bU]at h;obtain⟨x,hx,rfl⟩:=h;have:=ar k f _ x hx;rw[dY]at this;omega
    ·rw[bG]at h;omega
theorem Py(k:Int):∀f l,γ (sY k f l)<=γ l
 |0,_=>by simp[sY]
 |f+1,l=>by
  rw[sY];by_cases a:l=[]
  ·rw[aB a];simp
  ·have b:=bN.2 a;rw[aA a];split
   ·have:=Py k f (l.drop 1);rw[dY]at this;rw[cM];omega
   ·split
    ·have:=Py k f (l.drop 3);rw[dY]at this;rw[cM];omega
    ·simp
theorem sX(k:Int)(l:aC):γ (kO k l)<=γ l:=Py k _ l
theorem sW(k:Int)(l:aC)(a:fE k l=ι):kO k l=[]↔l=[]:=by
 unfold kO fE at*;rw[sY];rw[gW]at a;by_cases b:l=[]
 ·rw[aB b];simp[b]
 ·rw[aA b]at a⊢;constructor
  ·intro h;split at h
   ·cases h
   ·rename_i c;rw[aA c]at a;split at h
    ·cases h
    ·rename_i d;rw[d]at a;cases a
  ·intro h;exact absurd h b
abbrev UU:=aC×aC×aC×Int×δ PP×δ PP
def mP(U:aC):ζ×aC:=match fE 0 U with|some j=>(if Κ U j=58 then 15 else 5,[])|none=>if U=[]then(5,[])else(0,kO 0 U)
theorem utl1(b:ζ)(s:aC)(i:Nat):bP [b] s i=i+cD (λc=> !(c==b)) (s.drop i):=by
 have e:(λc=> !fO [b] c)=(λc=> !(c==b)):=by funext c;unfold fO;rw[Xr,lL,gP,Bool.beq_comm]
 unfold bP;rw[e]
theorem bgn(A B:aC)(j:Nat)(h:j<γ A):Κ (A++B) j=Κ A j:=by simp only[Κ,gJ,bH];rw[aJ h]
theorem MI(A B:aC)(n:∀c∈A,c≠58)(d:A≠[]):lF (A++58::B)=lF A:=by
 have f:=bN.2 d;have m:Κ (A++58::B) 0=Κ A 0:=bgn A _ 0 f;unfold lF;by_cases e:2<γ A
 ·have l:Κ (A++58::B) 1=Κ A 1:=bgn A _ 1 aA0;have k:Κ (A++58::B) 2=Κ A 2:=bgn A _ 2 aA0;have a:2<γ (A++58::B):=by rw[cE];omega
  rw[m,l,k];by_cases b:Κ A 0=37/\fW (Κ A 1)=μ/\fW (Κ A 2)=μ
  ·rw[aB ⟨a,b⟩,aB ⟨e,b⟩]
  ·rw[aA (λh=>b h.2),aA (λh=>b h.2)]
 ·have g:(if 2<γ A/\Κ A 0=37/\fW (Κ A 1)=μ/\fW (Κ A 2)=μ then θ (esV (Κ A 1) (Κ A 2))else ι)=ι:=aA (λh=>e h.1);rw[g];refine aA λh=> ?_;by_cases j:γ A=1
  ·have:Κ (A++58::B) 1=58:=by have:=Rr A 58 B;rw[j]at this;exact this
   rw[this]at h;exact absurd h.2.2.1 aA1
  ·have:Κ (A++58::B) 2=58:=by have i:γ A=2:=aA0;have:=Rr A 58 B;rw[i]at this;exact this
   rw[this]at h;exact absurd h.2.2.2 aA1
theorem Fq(B:aC):∀f g A,(∀c∈A,c≠58)->γ A<f->γ A+γ B+1<g->gW 0 g (A++58::B)=θ (match gW 0 f A with|some j=>j|none=>γ A)
 |0,_,A,_,h,_=>by omega
 |f+1,g,A,o,t,s=>by
  obtain⟨g,rfl⟩:∃m,g=m+1:=⟨g-1,aA0⟩;have d:¬A++58::B=[]:=aA2;rw[gW,gW,aA d];by_cases k:A=[]
  ·subst k;have q:Κ ([]++58::B) 0=58:=Τ;have e:lF ([]++58::B)=ι:=by
    cases e:lF ([]++58::B)with
    |none=>rfl
    |some v=>exact absurd (show(58:ζ)=37 from(bgl e).2) aA1
   rw[q,e];rfl
  ·have l:=bN.2 k;have r:Κ (A++58::B) 0=Κ A 0:=bgn A _ 0 l;have n:∀m,m<=γ A->(A++58::B).drop m=A.drop m++58::B:=λm p=>iG p;have i:∀m,∀c∈A.drop m,c≠58:=λm c b=>o c (CJ b);rw[aA k,r];by_cases b:Ir (Κ A 0) 0=μ
   ·rw[aB b,aB b,n 1 l,Fq B f g (A.drop 1) (i 1) aB1 aB1];cases gW 0 f _ with
    |some j=>rfl
    |none=>show θ _=θ _;congr 1;rw[dY];show γ A-1+1=γ A;omega
   ·rw[aA b,aA b,MI A B o k];cases e:lF A with
    |none=>rfl
    |some v=>
     have u:=(bgl e).1;simp only;by_cases a:dQ v=μ
     ·rw[aB a,aB a]
     ·rw[aA a,aA a,n 3 aA0,Fq B f g (A.drop 3) (i 3) aB1 aB1];cases gW 0 f _ with
      |some j=>rfl
      |none=>show θ _=θ _;congr 1;rw[dY];show γ A-3+3=γ A;omega
theorem TR(A B:aC)(b:∀c∈A,c≠58):mP (A++58::B)=(match fE 0 A with|some _=>5|none=>15,[]):=by
 have h:=Fq B (γ A+1) (γ (A++58::B)+1) A b aA0 (by rw[cE,cM];omega);unfold mP;have e:fE 0 (A++58::B)=θ (match fE 0 A with|some j=>j|none=>γ A):=h;rw[e];cases d:fE 0 A with
 |none=>simp only[Rr,eW]
 |some j=>have a:j<γ A:=ar 0 _ A j d;simp only;rw[bgn A _ j a,aA (b _ (at_mem A j a))]
theorem TQ(U:aC)(d:∀c∈U,c≠58):mP U=match fE 0 U with|some _=>(5,[])|none=>if U=[]then(5,[])else(0,kO 0 U):=by
 unfold mP;cases b:fE 0 U with
 |none=>rfl
 |some j=>have a:j<γ U:=ar 0 _ U j b;simp only;rw[aA (d _ (at_mem U j a))]
def fX(s:aC)(i:Nat):Nat:=if cV s i 91=μ then min (bP [93] s i+1) (γ s) else bP [58,59,63] s i
def jQ (s : aC) (i : Nat) : ζ × aC × Int × Nat :=
  if (eM (sub s i (fX s i))).2 = ν then (5,[],0,0)
  else if cV s (fX s i) 58 = μ then
    (if (Cd (sub s ((fX s i + 1 : Nat)) (bP [59,63] s (fX s i + 1)))).2 = 0 then (0,(eM (sub s i (fX s i))).1,(Cd (sub s ((fX s i + 1 : Nat)) (bP [59,63] s (fX s i + 1)))).1,bP [59,63] s (fX s i + 1))
     else ((Cd (sub s ((fX s i + 1 : Nat)) (bP [59,63] s (fX s i + 1)))).2,[],0,0))
  else if fX s i < γ s /\ cV s (fX s i) 59 = ν /\ cV s (fX s i) 63 = ν then (5,[],0,0)
  else (0,(eM (sub s i (fX s i))).1,0,fX s i)
theorem Bl(s:aC)(i:Nat)(a:i<=γ s):i<=fX s i/\fX s i<=γ s:=by
 have d:=Ke [93] s i;have c:=Ke [58,59,63] s i;have b:=Fz [58,59,63] s i a;unfold fX;split
 ·rename_i h;omega
 ·omega
def gB(s:aC)(i:Nat):ζ×aC×(aC×Int×Nat):=
 if bP [64] s i<γ s then
  (if(mP (sub s i (bP [64] s i))).1=0 then((jQ s (bP [64] s i+1)).1,(mP (sub s i (bP [64] s i))).2,(jQ s (bP [64] s i+1)).2)else((mP (sub s i (bP [64] s i))).1,[],[],0,0))
 else((jQ s i).1,[],(jQ s i).2)
theorem TD(s:aC)(D:γ s<=4194304)(i:Nat)(B:i<=γ s)(j r:aC):∃a c u,0<=a/\a<=5000000/\((BZ FU s i ([58,59,63])).bind λC=>((((Iu FU (s,i) 91).bind λp=>(bif p then((BZ FU s i [93]).bind λk=>(gd (bJ (k+1))<|some (min (k+1) (γ s))))else θ C))).bind λb=>(gd (0<=(i:Int)/\i<=b/\b<=γ s)<|((ed FU (sub s i b)).bind λf=>(bif (!f.2)then θ ((i:Int),5,(s,(i:Int)),((j,r,([]:aC),(0:Int),([]:δ PP),([]:δ PP)):UU))else((Iu FU (s,b) 58).bind λt=>(bif t then(gd (bJ (b+1))<|((BZ FU s (b+1) ([59,63])).bind λg=>(gd (0<=(b+1)/\(b+1)<=g/\g<=γ s)<|((vz FU (sub s (b+1) g)).bind λd=>(((((if d.2=0 then(if d.1<1 then θ μ else θ (decide (65535<d.1)))else θ ν)).bind λw=>(bif w then θ 3 else θ d.2))).bind λo=>(if o=0 then θ (0,0,(s,g),((j,r,f.1,d.1,[],[])))else θ (b+1,o,(s,b+1),((j,r,f.1,(0:Int),[],[])))))))))else((((wk FU (s,b)).bind λn=>(bif (!n)then((Iu FU (s,b) 59).bind λm=>(bif (!m)then((Iu FU (s,b) 63).bind λl=>θ (!l))else θ ν))else θ ν))).bind λv=>(bif v then θ (b,5,(s,b),((j,r,f.1,0,[],[])))else θ (0,0,(s,b),((j,r,f.1,0,[],[]))))))))))))
  =θ (a,(jQ s i).1,c,u)/\((jQ s i).1=0->c=(s,((jQ s i).2.2.2:Int))/\u=(j,r,(jQ s i).2.1,(jQ s i).2.2.1,[],[])):=by
 have H:=Bl s i B;have M:((if cV s i 91=μ then θ ((min (bP [93] s i+1) (γ s):Nat):Int)else θ ((bP [58,59,63] s i:Nat):Int)))=θ ((fX s i:Nat):Int):=by unfold fX;split<;>rfl
 have L:((Iu FU (s,(i:Int)) (91:ζ)).bind λ(p:η)=>(bif p then((BZ FU s (i:Int) ([93]:aC)).bind λ(k:Int)=>(gd (bJ (k+(1:Int)))<|some (min (k+(1:Int)) (γ s:Int))))else θ ((bP [58,59,63] s i:Nat):Int)))=θ ((fX s i:Nat):Int):=by
  have N:=Fz [93] s i B;rw[JN,aR,<-M];cases cV s i 91 with
  |false=>rfl
  |true=>
   rw[aM,qg s D i B _ aA1 aA1,aR,aS (bW _ aA0 aA0)];congr 1;try dsimp only
   omega
 rw[qg s D i B _ aA1 aA1,aR,L,aR];unfold jQ;generalize fX s i=e at H⊢;rw[aS aA0,bke _ aC4,aR];cases O:(eM (sub s (i:Int) (e:Int))).2 with
 |false=>exact⟨_,_,_,aA0,aA0,Τ,λh=>by rw[aB rfl]at h;exact absurd h aA1⟩
 |true=>
  rw[aA (show¬(μ=ν)by decide),JN,aR];cases E:cV s e 58 with
  |true=>
   have y:=(wL E).1;have G:=Ke [59,63] s (e+1);have F:=Fz [59,63] s (e+1) y;rw[aB rfl,aS (bW _ aA0 aA0),mL,qg s D (e+1) y _ aA1 aA1,aR,aS aA0,uE,aR,QG,aR];unfold Cd;generalize eV (sub s ((e+1:Nat):Int) ((bP [59,63] s (e+1):Nat):Int))=q;by_cases A:q.2=0/\(q.1<1\/65535<q.1)
   ·rw[aB A,aB A,aA aA1,aA aA1];exact⟨_,_,_,aA0,aA0,Τ,λh=>absurd h aA1⟩
   ·rw[aA A,aA A];by_cases z:q.2=0
    ·rw[aB z,aB z];exact⟨_,_,_,aA0,aA0,Τ,λ_=>⟨Τ,Τ⟩⟩
    ·rw[aA z,aA z];exact⟨_,_,_,aA0,aA0,Τ,λh=>absurd h z⟩
  |false=>
   have K:((wk FU (s,(e:Int))).bind λ(n:η)=>(bif (!n)then((Iu FU (s,(e:Int)) (59:ζ)).bind λ(m:η)=>(bif (!m)then((Iu FU (s,(e:Int)) (63:ζ)).bind λ(l:η)=>θ (!l))else θ ν))else θ ν))=θ (decide (e<γ s/\cV s e 59=ν/\cV s e 63=ν)):=by
    rw[nP];by_cases x:e<γ s
    ·rw[aD (show¬(γ s:Int)<=(e:Int)by omega),JN];cases J:cV s e 59 with
     |true=>rw[aD (by rintro⟨_,h,_⟩;cases h)];rfl
     |false=>
      rw[JN];cases I:cV s e 63 with
      |true=>rw[aD (by rintro⟨_,_,h⟩;cases h)];rfl
      |false=>rw[aE ⟨x,rfl,rfl⟩];rfl
    ·rw[aE (show(γ s:Int)<=(e:Int)by omega),aD (λh=>x h.1)];rfl
   rw[aA (show¬(ν=μ)by decide),K];by_cases hx:e<γ s/\cV s e 59=ν/\cV s e 63=ν
   ·rw[aE hx,aB hx];exact⟨_,_,_,aA0,aA0,Τ,λh=>absurd h aA1⟩
   ·rw[aD hx,aA hx];exact⟨_,_,_,aA0,aA0,Τ,λ_=>⟨Τ,Τ⟩⟩
theorem M8(s:aC)(z:γ s<=4194303)(i:Nat)(v:i<=γ s)(b:aC):∃a c u,0<=a/\a<=5000000/\amb FU (s,i) (b,[],[],0,[],[])=θ (a,(gB s i).1,c,u)/\((gB s i).1=0->c=(s,((gB s i).2.2.2.2:Int))/\u=(b,(gB s i).2.1,(gB s i).2.2.1,(gB s i).2.2.2.1,[],[])):=by
 have A:γ (s.drop i)=γ s-i:=dY;have g:=qf (·==(64:ζ)) (s.drop i);have r:=utl1 64 s i;unfold amb gB;simp only;rw[aS aA0,gJ];rcases g with⟨p,x⟩|⟨p,x,w⟩
 ·have f:¬bP [64] s i<γ s:=by omega
  rw[aA aA0,aA f];exact TD s aA0 i v b []
 ·have y:(i:Int)+dM (·==(64:ζ)) (s.drop i)=((bP [64] s i:Nat):Int):=by rw[w,r];rfl
  have l:bP [64] s i<γ s:=aA0;have m:=Ke [64] s i;have q:(dM (·==(64:ζ)) (s.drop i)=0)↔bP [64] s i=i:=aA0;rw[aB p,y,aS (bW _ aA0 aA0),aB l,Kl s aA0 i _ m aA0 0 (.inl rfl),aR];have e:γ (sub s (i:Int) (bP [64] s i:Int))=bP [64] s i-i:=aC4;unfold mP;cases o:fE 0 (sub s (i:Int) (bP [64] s i:Int))with
  |some j=>
   have t:j<bP [64] s i-i:=by have:=ar 0 _ _ j o;omega
   have hZ:Κ s ((i+j:Nat):Int)=Κ (sub s (i:Int) (bP [64] s i:Int)) (j:Int):=by unfold sub;have:=aj s i j;rw[<-this];simp only[Κ,gJ,bH];rw[CG t]
   simp only;rw[aM,aS aA0,hZ];by_cases d:Κ (sub s (i:Int) (bP [64] s i:Int)) (j:Int)=58
   ·rw[aB d,aB d,aA aA1];exact⟨_,_,_,aA0,aA0,Τ,λh=>absurd h aA1⟩
   ·rw[aA d,aA d,aA aA1];exact⟨_,_,_,aA0,aA0,Τ,λh=>absurd h aA1⟩
  |none=>
   simp only;rw[aG];by_cases n:bP [64] s i=i
   ·have k:sub s (i:Int) (bP [64] s i:Int)=[]:=by apply qR;omega
    rw[aB (q.2 n),aB k,aA aA1];exact⟨_,_,_,aA0,aA0,Τ,λh=>absurd h aA1⟩
   ·have k:¬sub s (i:Int) (bP [64] s i:Int)=[]:=λh=>by rw[h]at e;simp at e;omega
    rw[aA (λh=>n (q.1 h)),aA k,aS aA0,xX _ aA0 0 (.inl rfl) o,aR,aS (bW _ aA0 aA0),mL];exact TD s aA0 _ aA0 b _
theorem Pr(r:RR)(a:Int)(e:ζ)(b:0<=r.2.2.1/\r.2.2.1<=5000000)(c:0<=a/\a<=5000000):0<=(Qi r a e).2.2.1/\(Qi r a e).2.2.1<=5000000:=by
 unfold Qi;split
 ·exact c
 ·exact b
variable{p:Prop}
theorem abo(h:p:=by first|omega|(dsimp only;omega)):p:=h
theorem qV(h:p:=by first|omega|(dsimp only;omega)|exact Pr _ _ _ abo abo|exact Pr _ _ _ (Pr _ _ _ abo abo) abo):p:=h
theorem UO(s:aC)(o:γ s<=4194304)(i y:Nat)(t:i<=y)(z:y<=γ s)(n:Nat):∀k a,k+n=y->n<a->i<=k->(∀c∈sub s i k,c≠58)->
  (∃r:RR,ahm FU (s,(i:Int),0,0) (y:Int) a (k:Int)=θ (.inr ([],r))/\r.1=s/\(0<=r.2.2.1/\r.2.2.1<=5000000)/\r.2.2.2=(mP (sub s (i:Int) (y:Int))).1/\¬(mP (sub s (i:Int) (y:Int))).1=0)\/
  (ahm FU (s,i,0,0) y a k=θ (.inl ())/\∀c∈sub s i y,c≠58):=by
 induction n with
 |zero=>intro k a p u f d;obtain⟨a,rfl⟩:=cB a;obtain rfl:k=y:=aA0;right;rw[axu,ajn,aA aA0];exact⟨Τ,d⟩
 |succ n m=>
  intro k a p u f d;obtain⟨a,rfl⟩:=cB a;rw[axu,ajn,aB aA0,aS (show 0<=(k:Int)/\(k:Int)<(γ s:Int)by omega)];by_cases e:Κ s (k:Int)=58
  ·left
   have b:sub s (i:Int) (y:Int)=sub s (i:Int) (k:Int)++58::sub s ((k+1:Nat):Int) (y:Int):=by
    unfold sub;simp;have x:(s.drop i).take (y-i)=(s.drop i).take (k-i)++((s.drop i).drop (k-i)).take (y-k):=by rw[show y-i=(k-i)+(y-k)by omega];rw[List.take_add]
    have w:(s.drop i).drop (k-i)=s.drop k:=by rw[Gj];congr 1;omega
    rw[x,w,yZ s k aA0,e,show y-k=(y-(k+1))+1 by omega,sd]
   rw[aB e,rM s o i k f aA0 0 0 0 (.inl rfl),aR,b,TR _ _ d];cases v:fE 0 (sub s (i:Int) (k:Int))with
   |some j=>
    have A:=ar _ _ _ j v;have q:γ (sub s (i:Int) (k:Int))<=k-i:=aC4;simp only;rw[Rs,aR,Rs];refine⟨_,Τ,?_,(show 0<=((i+j:Nat):Int)/\((i+j:Nat):Int)<=5000000 by omega),?_,aA1⟩
    ·rw[(Jx _ _ _).1,(Jx _ _ _).1]
    ·rfl
   |none=>
    rw[Rs,aR,Rs];refine⟨_,Τ,?_,(show 0<=((k:Nat):Int)/\((k:Nat):Int)<=5000000 by omega),?_,aA1⟩
    ·rw[(Jx _ _ _).1,(Jx _ _ _).1]
    ·rfl
  ·have g:sub s (i:Int) ((k+1:Nat):Int)=sub s (i:Int) (k:Int)++[Κ s (k:Int)]:=DD s i k f aA0
   have:=m (k+1) a aA0 aA0 aA0 (λc l=>by
    rw[g]at l;rcases aV.1 l with h|h
    ·exact d c h
    ·rw[aH.1 h];exact e)
   rw[aA e,aS (bW _ aA0 aA0)];exact this
theorem UP(s:aC)(w:γ s<=4194303)(i:Nat)(n:i<=γ s):∃u r,alp FU (s,i,0,0)=θ (u,r)/\r.1=s/\(0<=r.2.2.1/\r.2.2.1<=5000000)/\
  (if bP [64] s i<γ s then r.2.2.2=(mP (sub s i (bP [64] s i))).1/\((mP (sub s i (bP [64] s i))).1=0->u=(mP (sub s i (bP [64] s i))).2/\r=(s,((bP [64] s i+1:Nat):Int),0,0))else u=[]/\r=(s,(i:Int),0,0)):=by
 have d:=Ke [64] s i;have f:=Fz [64] s i n;unfold alp;rw[bcf s aA0 i n 0 0 _ aA1,aR];simp only;by_cases a:bP [64] s i<γ s
 ·rw[aA aA0];have c:sub s (i:Int) (i:Int)=[]:=bc s i;rcases UO s aA0 i (bP [64] s i) d f (bP [64] s i-i) i FU aA0 aA4 (dK _) (by rw[c];simp)with⟨r,m,l,k,q,p⟩|⟨m,l⟩
  ·rw[m];exact⟨_,r,Τ,l,k,by rw[aB a];exact⟨q,λh=>absurd h p⟩⟩
  ·rw[m,aR,TQ _ l];have b:γ (sub s (i:Int) (bP [64] s i:Int))=bP [64] s i-i:=by rw[Hw];omega
   by_cases v:bP [64] s i=i
   ·have e:sub s (i:Int) (bP [64] s i:Int)=[]:=by apply qR;omega
    have g:fE 0 ([]:aC)=ι:=Τ;rw[aB aA0,Rs,aR,aR];have t:(Qi (s,(i:Int),0,0) ((bP [64] s i:Nat):Int) 5)=(s,(i:Int),((bP [64] s i:Nat):Int),5):=Τ;rw[t];rw[rM s aA0 i _ d aA0 _ _ 0 (.inl rfl),aR,e,g];rw[aS (bW _ aA0 aA0)];exact⟨_,_,Τ,Τ,qV,by rw[aB a];exact⟨Τ,λh=>absurd h aA1⟩⟩
   ·have e:¬sub s (i:Int) (bP [64] s i:Int)=[]:=λh=>by rw[h]at b;simp at b;omega
    rw[aA aA0,aR];rw[rM s aA0 i _ d aA0 _ _ 0 (.inl rfl),aR,aA e];cases o:fE 0 (sub s (i:Int) (bP [64] s i:Int))with
    |some j=>have x:=ar _ _ _ j o;simp only;rw[aS (bW _ aA0 aA0)];exact⟨_,_,Τ,Τ,qV,by rw[aB a];exact⟨Τ,λh=>absurd h aA1⟩⟩
    |none=>rw[aS (bW _ aA0 aA0)];exact⟨_,_,Τ,Τ,qV,by rw[aB a];exact⟨Τ,λ_=>⟨Τ,Τ⟩⟩⟩
 ·rw[aB aA0];exact⟨_,_,Τ,Τ,qV,by rw[aA a];exact⟨Τ,Τ⟩⟩
theorem LB(s:aC)(d:γ s<=4194304)(i:Nat)(b:i<=γ s):ri FU (s,i,0,0)=θ ((eM (sub s i (fX s i))).1,if(eM (sub s i (fX s i))).2=μ then(s,(fX s i:Int),0,0)else(s,(fX s i),(i:Int),5)):=by
 have j:=Bl s i b;have f:((if cV s i 91=μ then θ ((min (bP [93] s i+1) (γ s):Nat):Int)else θ ((bP [58,59,63] s i:Nat):Int)))=θ ((fX s i:Nat):Int):=by unfold fX;split<;>rfl
 unfold ri;simp only;rw[bcf s d i b 0 0 _ aA1,aR];have e:((NN FU (s,(i:Int),(0:Int),(0:ζ)) (91:ζ)).bind λ(c:η)=>(bif c then((ZF FU (s,(i:Int),(0:Int),(0:ζ)) ([93]:aC)).bind λ(a:Int)=>(gd (bJ (a+(1:Int)))<|some (min (a+(1:Int)) (γ s:Int))))else θ ((bP [58,59,63] s i:Nat):Int)))=θ ((fX s i:Nat):Int):=by
  have g:=Fz [93] s i b;rw[wA,aR,<-f];cases cV s i 91 with
  |false=>rfl
  |true=>rw[aM,bcf s d i b 0 0 _ aA1,aR,aS (bW _ aA0 aA0)];congr 1;omega
 rw[e,aR];rw[aS aA0,bfx _ aC4,aR];cases h:(eM _).2 with
 |true=>rfl
 |false=>rfl
theorem Uv(s:aC)(i a:Int)(e:ζ)(b:¬e=0):ei FU (s,i,a,e)=θ (0,(s,i,a,e)):=by
 unfold ei;rw[Wb s i a e b];by_cases h:i<γ s
 ·rw[aB h,Wb s i a e b,Wb s i a e b,aR,Rs];have:Qi (s,i,a,e) i 5=(s,i,a,e):=aA b;rw[this];rfl
 ·rw[aA h];rfl
theorem jd (s : aC) (v : γ s <= 4194304) (i : Nat) (w : i <= γ s) : ∃ y p,ri FU (s,i,0,0) = θ y /\ ei FU y.2 = θ p /\ p.2.1 = s /\ (0 <= p.2.2.2.1 /\ p.2.2.2.1 <= 5000000) /\ p.2.2.2.2 = (jQ s i).1 /\
    ((jQ s i).1 = 0 -> y.1 = (jQ s i).2.1 /\ p.1 = (jQ s i).2.2.1 /\ p.2 = (s,((jQ s i).2.2.2 : Int),0,0)) := by
  have C := Bl s i w;rw[LB s v i w];unfold jQ;generalize fX s i = e at C ⊢;cases J : (eM (sub s (i : Int) (e : Int))).2 with
  | false =>
    refine ⟨_,(0,(s,(e : Int),(i : Int),5)),Τ,?_,?_⟩
    · show ei FU (if ν = μ then (s,(e : Int),0,0) else (s,(e : Int),(i : Int),5)) = _;rw[aA (show ¬ (ν = μ) by decide)]; exact Uv s _ _ 5 aA1
    · exact ⟨Τ,qV,Τ,λh => by rw[aB rfl] at h; exact absurd h aA1⟩
  | true =>
    rw[aB rfl,aA (show ¬ (μ = ν) by decide)];have g : ∃ p,ei FU (s,(e : Int),0,0) = θ p /\ p.2.1 = s /\ (0 <= p.2.2.2.1 /\ p.2.2.2.1 <= 5000000) /\ p.2.2.2.2 = (if cV s e 58 = μ then
    (if (Cd (sub s ((e + 1 : Nat) : Int) (bP [59,63] s (e + 1) : Int))).2 = 0 then ((0 : ζ),(eM (sub s (i : Int) (e : Int))).1,(Cd (sub s ((e + 1 : Nat) : Int) (bP [59,63] s (e + 1) : Int))).1,bP [59,63] s (e + 1))
     else ((Cd (sub s ((e + 1 : Nat) : Int) (bP [59,63] s (e + 1) : Int))).2,[],0,0))
  else if e < γ s /\ cV s e 59 = ν /\ cV s e 63 = ν then (5,[],0,0)
  else (0,(eM (sub s (i : Int) (e : Int))).1,0,e)).1 /\ ((if cV s e 58 = μ then
    (if (Cd (sub s ((e + 1 : Nat) : Int) (bP [59,63] s (e + 1) : Int))).2 = 0 then ((0 : ζ),(eM (sub s (i : Int) (e : Int))).1,(Cd (sub s ((e + 1 : Nat) : Int) (bP [59,63] s (e + 1) : Int))).1,bP [59,63] s (e + 1))
     else ((Cd (sub s ((e + 1 : Nat) : Int) (bP [59,63] s (e + 1) : Int))).2,[],0,0))
  else if e < γ s /\ cV s e 59 = ν /\ cV s e 63 = ν then (5,[],0,0)
  else (0,(eM (sub s (i : Int) (e : Int))).1,0,e)).1 = 0 -> p.1 = (if cV s e 58 = μ then (Cd (sub s ((e + 1 : Nat) : Int) (bP [59,63] s (e + 1) : Int))).1 else 0) /\ p.2 = (s,((if cV s e 58 = μ then bP [59,63] s (e + 1) else e : Nat) : Int),0,0)) := by
      unfold ei;rw[wA,aR];cases d : cV s e 58 with
      | false =>
        rw[oF,aM];simp only;have I : (if (e : Int) < (γ s : Int) then ((NN FU (s,(e : Int),(0 : Int),(0 : ζ)) (59 : ζ)).bind λ(t : η) => (bif (!t) then ((NN FU (s,(e : Int),(0 : Int),(0 : ζ)) (63 : ζ)).bind λ(r : η) => θ (!r)) else θ ν)) else θ ν) = θ (decide (e < γ s /\ cV s e 59 = ν /\ cV s e 63 = ν)) := by
          by_cases k : e < γ s
          · rw[aB aA0,wA,aR];cases E : cV s e 59 with
            | true => rw[aD (by rintro ⟨_,h,_⟩; cases h)]; rfl
            | false =>
              rw[oF,aM,wA,aR];cases D : cV s e 63 with
              | true => rw[aD (by rintro ⟨_,_,h⟩; cases h)]; rfl
              | false => rw[aE ⟨k,rfl,rfl⟩]; rfl
          · rw[aA aA0,aD (λh => k h.1)]
        rw[I,aR,aA (show ¬ (ν = μ) by decide)];by_cases hx : e < γ s /\ cV s e 59 = ν /\ cV s e 63 = ν
        · rw[aE hx,aM,Rs,aB hx];exact ⟨_,Τ,Τ,qV,Τ,λh => absurd h aA1⟩
        · rw[aD hx,aG,aA hx];exact ⟨_,Τ,Τ,qV,Τ,λ_ => ⟨Τ,Τ⟩⟩
      | true =>
        have l := (wL d).1;have A := Ke [59,63] s (e + 1);have z := Fz [59,63] s (e + 1) l;rw[eY,aG];simp only;rw[aS (bW _ aA0 aA0),mL,bcf s v (e + 1) l 0 0 _ aA1,aR,aS aA0,bho _ (by rw[Hw]; omega),aR];simp only[eW];unfold Cd;generalize eV (sub s ((e + 1 : Nat) : Int) ((bP [59,63] s (e + 1) : Nat) : Int)) = q;by_cases c : q.2 = 0
        · rw[aB c];by_cases f : q.1 < 1
          · rw[aB f,aB (⟨c,.inl f⟩ : q.2 = 0 /\ (q.1 < 1 \/ 65535 < q.1)),aA aA1];exact ⟨_,Τ,Τ,qV,Τ,λh => absurd h aA1⟩
          · by_cases m : 65535 < q.1
            · rw[aA f,aE m,aB (⟨c,.inr m⟩ : q.2 = 0 /\ (q.1 < 1 \/ 65535 < q.1)),aA aA1];exact ⟨_,Τ,Τ,qV,Τ,λh => absurd h aA1⟩
            · rw[aA f,aD m,aA (show ¬ (q.2 = 0 /\ (q.1 < 1 \/ 65535 < q.1)) by rintro ⟨_,h | h⟩ <;> contradiction),aB c];exact ⟨_,Τ,Τ,qV,Τ,λ_ => ⟨Τ,Τ⟩⟩
        · have B : ¬ (q.2 = 0 /\ (q.1 < 1 \/ 65535 < q.1)) := λh => c h.1
          have H : Qi (s,((e + 1 : Nat) : Int),0,0) ((e + 1 : Nat) : Int) q.2 = (s,((e + 1 : Nat) : Int),((e + 1 : Nat) : Int),q.2) := Τ;rw[aA c,Rs,H,aR,aR,aA B,aA c];have x : ∀ b : η,((θ b).bind λ(j : η) => (bif j then ((Kg FU (s,((e + 1 : Nat) : Int),((e + 1 : Nat) : Int),q.2) ((e + 1 : Nat) : Int) (3 : ζ)).bind λ(a : RR) => θ (a.1,a.2.1,a.2.2.1,a.2.2.2)) else θ (s,((e + 1 : Nat) : Int),((e + 1 : Nat) : Int),q.2))) = θ (s,((e + 1 : Nat) : Int),((e + 1 : Nat) : Int),q.2) := by
            intro b;cases b with
            | false => rfl
            | true =>rw[ Rs];have : Qi (s,((e + 1 : Nat) : Int),((e + 1 : Nat) : Int),q.2) ((e + 1 : Nat) : Int) 3 = (s,((e + 1 : Nat) : Int),((e + 1 : Nat) : Int),q.2) := aA c;rw[this]; rfl
          by_cases f : q.1 < 1
          · rw[aB f,x];exact ⟨_,Τ,Τ,qV,Τ,λh => absurd h c⟩
          · rw[aA f,x];exact ⟨_,Τ,Τ,qV,Τ,λh => absurd h c⟩
    obtain ⟨p,f,m,u,G,F⟩ := g;refine ⟨_,p,Τ,f,m,u,G,λh => ?_⟩;obtain ⟨o,n⟩ := F h;cases d : cV s e 58 with
    | true =>
      rw[d] at h o n;rw[aB rfl];by_cases c : (Cd (sub s ((e + 1 : Nat) : Int) (bP [59,63] s (e + 1) : Int))).2 = 0
      · rw[aB c]; exact ⟨Τ,o,n⟩
      · rw[aA c] at h; exact absurd h c
    | false =>
      rw[d,aA (show ¬ (ν = μ) by decide)] at h o n;rw[aA (show ¬ (ν = μ) by decide)];by_cases hx : e < γ s /\ cV s e 59 = ν /\ cV s e 63 = ν
      · rw[aB hx] at h; exact absurd h aA1
      · rw[aA hx]; exact ⟨Τ,o,n⟩
theorem DC(s:aC)(i e n:Nat)(h:i+n<=e):sub s i ((i+n:Nat))=(sub s i e).take n:=by unfold sub;rw[Re];congr 1;omega
theorem Uk(s:aC)(i e n:Nat):sub s ((i+n+1:Nat)) e=(sub s i e).drop (n+1):=by unfold sub;rw[tO,Gj];congr 1;omega
def dT(T:aC):Nat:=cD (λc=> !(c==61)) T
def lA(k:Int)(l:δ PP)(T:aC):ζ×PP:=
 match fE k (T.take (dT T))with
 |some _=>(5,([],[],ν))
 |none=>if dT T=0 then(5,([],[],ν))else if dT T<γ T then
   (match fE k (T.drop (dT T+1))with
   |some _=>(5,([],[],ν))
   |none=>if T.drop (dT T+1)=[]/\k=1 then(5,([],[],ν))else(yC l (cN (kO k (T.take (dT T)))),(cN (kO k (T.take (dT T))),kO k (T.drop (dT T+1)),μ)))
  else if k=2 then(5,([],[],ν))else(yC l (cN (kO k (T.take (dT T)))),(cN (kO k (T.take (dT T))),[],ν))
theorem HP(s:aC)(N:γ s<=4194303)(i e:Nat)(I:i<=e)(P:e<=γ s)(l:δ PP)(O:γ l<=16)(k:Int)(H:k=1\/k=2):
  ∃l' a c,0<=a/\a<=5000000/\aii FU (s,(i:Int)) l (e:Int) k=θ (l',a,(lA k l (sub s (i:Int) (e:Int))).1,c)/\
   ((lA k l (sub s (i:Int) (e:Int))).1=0->l'=l++[(lA k l (sub s (i:Int) (e:Int))).2]/\c=(s,(e:Int))):=by
 have f:k=0\/k=1\/k=2:=.inr H;have L:γ (sub s (i:Int) (e:Int))=e-i:=aC4;have r:=λn h=>DC s i e n h;have t:=λn=>Uk s i e n
 have b:∀(nm v:aC) (h:η),∃l' a c,0<=a/\a<=5000000/\((asx FU l nm).bind λ(g:ζ)=>(if g=(0:ζ)then(gd ((γ l+γ ([(nm,v,h)]:δ PP))*40<=140737488355328)<|some (l++([(nm,v,h)]:δ PP),(0:Int),(0:ζ),(s,(e:Int))))else θ (([]:δ PP),(i:Int),g,(s,(e:Int)))))=θ (l',a,yC l nm,c)/\(yC l nm=0->l'=l++[(nm,v,h)]/\c=(s,(e:Int))):=by
  intro nm v h;rw[PE l aA0,aR];by_cases q:yC l nm=0
  ·rw[aB q,aS aB9,q];exact⟨_,_,_,aA0,aA0,Τ,λ_=>⟨Τ,Τ⟩⟩
  ·rw[aA q];exact⟨_,_,_,aA0,aA0,Τ,λh=>absurd h q⟩
 unfold aii;simp only;rw[aS aA0];generalize K:sub s (i:Int) (e:Int)=T at L r t⊢;have G:dT T<=γ T:=Kf _ _;have u:=qf (·==(61:ζ)) T;have D:(if(0:Int)<=(dM (·==(61:ζ)) T)then(gd (bJ ((i:Int)+(dM (·==(61:ζ)) T)))<|some ((i:Int)+(dM (·==(61:ζ)) T)))else θ (e:Int))=θ ((i+dT T:Nat):Int):=by
  unfold dT at G⊢;rcases u with⟨z,o⟩|⟨z,o,M⟩
  ·rw[aA aA0];congr 1;omega
  ·rw[aB z,aS (bW _ aA0 aA0)];congr 1;omega
 have m:(0:Int)<=dM (·==(61:ζ)) T↔dT T<γ T:=by unfold dT;rcases u with⟨z,o⟩|⟨z,o,M⟩<;>constructor<;>intro h<;>omega
 rw[D,aR,Kl s aA0 i (i+dT T) aA0 aA0 k f,aR,r (dT T) aA0];unfold lA;cases F:fE k (T.take (dT T))with
 |some j=>have B:=ar _ _ _ j F;rw[iI]at B;simp only;rw[aM];exact⟨_,_,_,aA0,aA0,Τ,λh=>absurd h aA1⟩
 |none=>
  simp only;rw[aG];by_cases q:dT T=0
  ·rw[aB aA0,aB q];exact⟨_,_,_,aA0,aA0,Τ,λh=>absurd h aA1⟩
  ·have A:γ (T.take (dT T))<=4194304:=by rw[iI];omega
   have J:=sX k (T.take (dT T));rw[aA aA0,aA q,aS aA0,xX _ A k f F,aR,du _ aA0,aR];by_cases d:dT T<γ T
   ·have p:(0:Int)<=dM (·==(61:ζ)) T:=m.2 d;rw[aB d];simp only[p,decide_true,eW];rw[aS (bW _ aA0 aA0),mL,Kl s aA0 (i+dT T+1) e aA0 aA0 k f,aR,t];cases x:fE k (T.drop (dT T+1))with
    |some j=>have B:=ar _ _ _ j x;rw[dY]at B;simp only;rw[aM,aR];exact⟨_,_,_,aA0,aA0,Τ,λh=>absurd h aA1⟩
    |none=>
     have w:γ (T.drop (dT T+1))=γ T-(dT T+1):=dY;have C:(if((i+dT T+1:Nat):Int)=(e:Int)then θ (decide (k=(1:Int)))else θ ν)=θ (decide (T.drop (dT T+1)=[]/\k=1)):=by
      by_cases y:T.drop (dT T+1)=[]
      ·rw[y]at w;rw[aB (by simp at w;omega)];congr 1;simp[y]
      ·have:¬γ (T.drop (dT T+1))=0:=λh=>y (qR h);rw[aA aA0,aD (λh=>y h.1)]
     simp only;rw[aG,C,aR];by_cases hx:T.drop (dT T+1)=[]/\k=1
     ·rw[aE hx,aM,aR,aB hx];exact⟨_,_,_,aA0,aA0,Τ,λh=>absurd h aA1⟩
     ·rw[aD hx,aG,aS aA0,xX _ aA0 k f x,aR,aR,aA hx];exact b _ _ _
   ·have p:¬(0:Int)<=dM (·==(61:ζ)) T:=λh=>d (m.1 h);have E:((i+dT T:Nat):Int)=(e:Int):=aA0;rw[aA d];simp only[p,decide_false,tL];by_cases o:k=2
    ·rw[aB o,aB o,aR];exact⟨_,_,_,aA0,aA0,Τ,λh=>absurd h aA1⟩
    ·rw[aA o,aA o,aR];exact b _ _ _
def iV (st : aC) (s : aC) : Nat -> Nat -> δ PP -> ζ × Nat × δ PP
  | 0,i,l => (0,i,l)
  | f + 1,i,l => if cV s i 59 = μ then
      (if (lA 1 l (sub s ((i + 1 : Nat) : Int) (bP st s (i + 1) : Int))).1 = 0 then iV st s f (bP st s (i + 1)) (l ++ [(lA 1 l (sub s ((i + 1 : Nat) : Int) (bP st s (i + 1) : Int))).2])
       else ((lA 1 l (sub s ((i + 1 : Nat) : Int) (bP st s (i + 1) : Int))).1,0,[]))
    else (0,i,l)
def yV (s : aC) : Nat -> Nat -> δ PP -> ζ × δ PP
  | 0,i,l => (0,l)
  | f + 1,i,l => if i < γ s then
      (if (lA 2 l (sub s ((i + 1 : Nat) : Int) (bP [38] s (i + 1) : Int))).1 = 0 then yV s f (bP [38] s (i + 1)) (l ++ [(lA 2 l (sub s ((i + 1 : Nat) : Int) (bP [38] s (i + 1) : Int))).2])
       else ((lA 2 l (sub s ((i + 1 : Nat) : Int) (bP [38] s (i + 1) : Int))).1,[]))
    else (0,l)
variable{l:δ PP}
theorem DR(h:yC l T=0):γ l<16:=by
 unfold yC at h;split at h
 ·exact absurd h aA1
 ·split at h
  ·exact absurd h aA1
  ·omega
theorem uO{k:Int}(h:(lA k l T).1=0):γ l<16:=by
 unfold lA at h;split at h
 ·exact absurd h aA1
 ·split at h
  ·exact absurd h aA1
  ·split at h
   ·split at h
    ·exact absurd h aA1
    ·split at h
     ·exact absurd h aA1
     ·exact DR h
   ·split at h
    ·exact absurd h aA1
    ·exact DR h
theorem VK(s:aC)(y:γ s<=4194303)(v:Int×ζ×aC×aC×Int×aC×aC×aC×Int×δ PP×δ PP)(C:γ v.2.2.1<=1000)(B:v.2.2.1.all (λb=>decide (b.toNat<128))=μ)(n:Nat):
  ∀(i d f:Nat) (l:δ PP) (a:Int),0<=a->a<=5000000->γ s-i<=n->n+1<d->n<f->i<=γ s->γ l<=16->
  ∃a' u i' l',0<=a'/\a'<=5000000/\aiq FU v d a 0 s (i:Int) l=θ (a',(iV v.2.2.1 s f i l).1,u,i',l')/\((iV v.2.2.1 s f i l).1=0->u=s/\i'=((iV v.2.2.1 s f i l).2.1:Int)/\l'=(iV v.2.2.1 s f i l).2.2):=by
 induction n with
 |zero=>
  intro i d f l a t r z A q p w;obtain⟨d,rfl⟩:=cB d;obtain⟨f,rfl⟩:∃m,f=m+1:=⟨f-1,aA0⟩;have k:cV s i 59=ν:=by unfold cV;rw[aD aA0];rfl
  rw[anu,ahx,aB rfl,JN,aR,k,aR,aG,iV,k,aA aA1];exact⟨_,_,_,_,aA0,aA0,Τ,λ_=>⟨Τ,Τ,Τ⟩⟩
 |succ n x=>
  intro i d f l a t r z A q p w;obtain⟨d,rfl⟩:=cB d;obtain⟨f,rfl⟩:∃m,f=m+1:=⟨f-1,aA0⟩;rw[anu,ahx,aB rfl,JN,aR,aR,iV];cases k:cV s i 59 with
  |false=>rw[aG,aA aA1];exact⟨_,_,_,_,aA0,aA0,Τ,λ_=>⟨Τ,Τ,Τ⟩⟩
  |true=>
   have j:=(wL k).1;have o:=Ke v.2.2.1 s (i+1);have g:=Fz v.2.2.1 s (i+1) j;rw[aM,aB rfl,aS (bW _ aA0 aA0),mL,qg s aA0 (i+1) j _ C B,aR];obtain⟨l',a',c,G,F,E,D⟩:=HP s y (i+1) (bP v.2.2.1 s (i+1)) o g l w 1 (.inl Τ);rw[E,aR];by_cases e:(lA 1 l (sub s ((i+1:Nat):Int) (bP v.2.2.1 s (i+1):Int))).1=0
   ·obtain⟨rfl,rfl⟩:=D e;have:=uO e;rw[aB e,e];exact x (bP v.2.2.1 s (i+1)) d f _ _ aA0 aA0 aA0 aA0 aA0 g aB8
   ·rw[aA e];simp only;obtain⟨d,rfl⟩:=cB d;rw[anu,ahx,aA e,aR,aG];exact⟨_,_,_,_,aA0,aA0,Τ,λh=>absurd h e⟩
theorem WN(s:aC)(v:γ s<=4194303)(n:Nat):
  ∀(i b f:Nat) (l:δ PP) (a:Int),0<=a->a<=5000000->γ s-i<=n->n+1<b->n<f->i<=γ s->γ l<=16->
  ∃a' t i' l',0<=a'/\a'<=5000000/\aip FU b a 0 s (i:Int) l=θ (a',(yV s f i l).1,t,i',l')/\((yV s f i l).1=0->l'=(yV s f i l).2):=by
 induction n with
 |zero=>intro i b f l a q p w x o k r;obtain⟨b,rfl⟩:=cB b;obtain⟨f,rfl⟩:∃m,f=m+1:=⟨f-1,aA0⟩;rw[ant,ahw,aB rfl,nP,aR,aE aA0,aR,eY,aG,yV,aA aA0];exact⟨_,_,_,_,aA0,aA0,Τ,λ_=>rfl⟩
 |succ n u=>
  intro i b f l a q p w x o k r;obtain⟨b,rfl⟩:=cB b;obtain⟨f,rfl⟩:∃m,f=m+1:=⟨f-1,aA0⟩;rw[ant,ahw,aB rfl,nP,aR,aR,yV];by_cases d:i<γ s
  ·have j:=Ke [38] s (i+1);have g:=Fz [38] s (i+1) d;rw[aD aA0,oF,aM,aB d,aS (bW _ aA0 aA0),mL,qg s aA0 (i+1) d _ aA1 aA1,aR];obtain⟨l',a',c,B,A,z,y⟩:=HP s v (i+1) (bP [38] s (i+1)) j g l r 2 (.inr Τ);rw[z,aR];by_cases e:(lA 2 l (sub s ((i+1:Nat):Int) (bP [38] s (i+1):Int))).1=0
   ·obtain⟨rfl,rfl⟩:=y e;have:=uO e;rw[aB e,e];exact u (bP [38] s (i+1)) b f _ _ aA0 aA0 aA0 aA0 aA0 g aB8
   ·rw[aA e];simp only;obtain⟨b,rfl⟩:=cB b;rw[ant,ahw,aA e,aR,aG];exact⟨_,_,_,_,aA0,aA0,Τ,λh=>absurd h e⟩
  ·rw[aE aA0,eY,aG,aA d];exact⟨_,_,_,_,aA0,aA0,Τ,λ_=>rfl⟩
theorem pG(l:δ PP)(a:γ l<20):qz FU l=θ (fS l):=by unfold qz;rw[aS aA0,Li l a];rfl
open Go.Lib renaming hasPrefix → jF, trimPrefix → eH
def lT(a:η)(c:ζ):η:=fZ c||(!a&&(c==42||c==35))
def V7(c:ζ):η:=c==45||c==46||c==40||c==41
def yA(a:η):aC->ε aC
 |[]=>θ []
 |c::T=>if lT a c=μ then(yA a T).map (c::·)else if V7 c=μ then yA a T else ι
theorem ox(b:η)(c:ζ):(((if 48<=c then θ (decide (c<=57))else θ ν)).bind λa=>(bif a then θ a else(bif (!b)then(if c=42 then θ μ else θ (decide (c=35)))else θ ν)))=θ (lT b c):=by revert c;cases b<;>exact fP _ aA5
theorem gap_eq(c:ζ):(if c=45 then θ ν else(if c=46 then θ ν else(if c=40 then θ ν else θ (!decide (c=41)))))=θ (!V7 c):=by revert c;exact fP _ aA5
theorem Es(a:η):∀T d,yA a T=θ d->γ d<=γ T
 |[],d,h=>by simp only[yA,bG]at h;subst h;exact dK _
 |c::T,d,h=>by
  unfold yA at h;split at h
  ·cases b:yA a T with
   |none=>rw[b]at h;cases h
   |some d'=>rw[b]at h;simp at h;subst h;have:=Es a T d' b;simp;omega
  ·split at h
   ·have:=Es a T d h;simp;omega
   ·cases h
theorem ON(s:aC)(v:γ s<=4194303)(o:Int)(u:UU)(e:Nat)(y:e<=γ s)(h:η)(n:Nat):∀k f (b:aC),k+n=e->n<f->γ b<=k->
  ∃j,aht FU (s,o) u e h f b k=θ j/\
   (match yA h (sub s k e)with
   |some d=>j=.inl (b++d,e)
   |none=>∃a c w,0<=a/\a<=5000000/\j=.inr (a,5,c,w)):=by
 induction n with
 |zero=>intro k f b p q r;obtain⟨f,rfl⟩:=cB f;obtain rfl:k=e:=aA0;rw[aso,aha,aA aA0,bc];exact⟨_,Τ,by simp only[yA,gH]⟩
 |succ n m=>
  intro k f b p q r;obtain⟨f,rfl⟩:=cB f;have l:sub s (k:Int) (e:Int)=Κ s (k:Int)::sub s ((k+1:Nat):Int) (e:Int):=by unfold sub;simp;rw[yZ s k aA0,show e-k=(e-(k+1))+1 by omega,sd]
  rw[aso,aha,aB aA0,dU,ox,aR,l];unfold yA;cases z:lT h (Κ s (k:Int))with
  |true=>
   rw[aM,aS aA3,aR,lB,aS (bW _ aA0 aA0)];obtain⟨j,t,i⟩:=m (k+1) f (b++[Κ s (k:Int)]) aA0 aA0 aA3;refine⟨j,t,?_⟩;cases g:yA h (sub s ((k+1:Nat):Int) (e:Int))with
   |none=>rw[g]at i;exact i
   |some d=>rw[g]at i;simp;rw[i,jI];rfl
  |false=>
   rw[aG,gap_eq,aR];cases x:V7 (Κ s (k:Int))with
   |true=>rw[eY,aG,aR,lB,aS (bW _ aA0 aA0),mL];exact m _ f b aA0 aA0 aA0
   |false=>exact⟨_,Τ,_,_,_,aA0,aA0,Τ⟩
def jV(s:aC)(i:Nat):ζ×aC:=
 match yA (cV s i 43) (sub s ((if cV s i 43=μ then i+1 else i:Nat)) (bP [59] s i))with
 |none=>(5,[])
 |some d=>if d=[]then(5,[])else if 30<γ d then(4,[])else(0,if cV s i 43=μ then 43::d else d)
theorem On(T d:aC)(h:yA ν T=θ d):eH d [43]=d:=by
 have key:∀(T d),yA ν T=θ d->∀c∈d,c≠43:=by
  intro T;induction T with
  |nil=>intro d h;simp only[yA,bG]at h;subst h;simp
  |cons a T g=>
   intro d h;unfold yA at h;split at h
   ·rename_i i;cases b:yA ν T with
    |none=>rw[b]at h;cases h
    |some d'=>
     rw[b]at h;simp at h;subst h;intro c f;rcases aQ.1 f with rfl|f
     ·intro e;subst e;exact absurd i aA1
     ·exact g d' b c f
   ·split at h
    ·exact g d h
    ·cases h
 cases d with
 |nil=>rfl
 |cons c d=>have:=key T _ h c aA2;have j:¬43=c:=λe=>this e.symm;unfold eH jF;simp[j]
theorem rA(st s:aC)(i:Nat)(a:i<γ s)(h:fO st (Κ s i)=ν):bP st s i=bP st s (i+1):=by unfold bP;rw[yZ s i a,cD,aB (by rw[h];rfl)];omega
theorem ya(s:aC)(q:γ s<=4194303)(i:Nat)(r:i<=γ s)(b:aC):∃a c u,0<=a/\a<=5000000/\aks FU (s,i) (b,[],[],0,[],[])=θ (a,(jV s i).1,c,u)/\
  ((jV s i).1=0->c=(s,(bP [59] s i:Int))/\u=(b,(jV s i).2,[],0,[],[])):=by
 have A:=Ke [59] s i;have k:=Fz [59] s i r;have f:∀(d v:aC) (t:aC),eH v ([43]:aC)=d->∃a c u,0<=a/\a<=5000000/\
   (if(eH v ([43]:aC))=([]:aC)then θ ((i:Int),(5:ζ),(s,(bP [59] s i:Int)),((b,v,([]:aC),(0:Int),([]:δ PP),([]:δ PP)):UU))else(if(30:Int)<(γ (eH v ([43]:aC)):Int)then θ ((i:Int),(4:ζ),(s,(bP [59] s i:Int)),((b,v,([]:aC),(0:Int),([]:δ PP),([]:δ PP)):UU))else θ ((0:Int),(0:ζ),(s,(bP [59] s i:Int)),((b,v,([]:aC),(0:Int),([]:δ PP),([]:δ PP)):UU))))=
   θ (a,(if d=[]then((5,[]):ζ×aC)else if 30<γ d then(4,[])else(0,v)).1,c,u)/\((if d=[]then((5,[]):ζ×aC)else if 30<γ d then(4,[])else(0,v)).1=0->c=(s,(bP [59] s i:Int))/\u=(b,(if d=[]then((5,[]):ζ×aC)else if 30<γ d then(4,[])else(0,v)).2,[],0,[],[])):=by
  intro d v t C;rw[C];by_cases n:d=[]
  ·rw[aB n,aB n];exact⟨_,_,_,aA0,aA0,Τ,λh=>absurd h aA1⟩
  ·rw[aA n,aA n];by_cases m:30<γ d
   ·rw[aB aA0,aB m];exact⟨_,_,_,aA0,aA0,Τ,λh=>absurd h aA1⟩
   ·rw[aA aA0,aA m];exact⟨_,_,_,aA0,aA0,Τ,λ_=>⟨Τ,Τ⟩⟩
 unfold aks jV;simp only;rw[qg s aA0 i r _ aA1 aA1,aR,JN,aR];cases l:cV s i 43 with
 |true=>
  have o:=(wL l).1;have hZ:=(wL l).2;have B:=rA [59] s i o (by rw[hZ];decide);have z:=Ke [59] s (i+1);rw[aM,aS aA1,aS (bW _ aA0 aA0),aR,mL,aB rfl];simp only;obtain⟨j,p,e⟩:=ON s q (i:Int) (b,[],[],0,[],[]) (bP [59] s i) k μ (bP [59] s i-(i+1)) (i+1) FU ([]++[43]) aA0 aA4 (by simp only[Ic,cM,iH];omega);rw[p,aR];cases g:yA μ (sub s ((i+1:Nat):Int) ((bP [59] s i:Nat):Int))with
  |none=>rw[g]at e;obtain⟨a,c,w,y,x,rfl⟩:=e;rw[Rt];exact⟨_,_,_,aA0,aA0,Τ,λh=>absurd h aA1⟩
  |some d=>rw[g]at e;simp only at e;subst e;rw[lB];exact f d _ [] (by unfold eH jF;simp)
 |false=>
  rw[aG,aR,aA (show¬(ν=μ)by decide)];obtain⟨j,p,e⟩:=ON s q i _ _ k ν (bP [59] s i-i) i FU [] aA0 aA4 aA2;rw[p,aR];cases g:yA ν _ with
  |none=>rw[g]at e;obtain⟨a,c,w,y,x,rfl⟩:=e;exact⟨_,_,_,aA0,aA0,Τ,λh=>absurd h aA1⟩
  |some d=>rw[g]at e;subst e;exact f d d [] (On _ _ g)
def hV:UU:=([],[],[],0,[],[])
theorem Zn(st s:aC):∀f i l,γ l<=16->γ (iV st s f i l).2.2<=16
 |0,i,l,h=>h
 |f+1,i,l,h=>by
  unfold iV;split
  ·split
   ·rename_i a;have:=uO a;exact Zn st s f _ _ aA3
   ·exact cH _
  ·exact h
theorem AS(s:aC):∀f i l,γ l<=16->γ (yV s f i l).2<=16
 |0,i,l,h=>h
 |f+1,i,l,h=>by
  unfold yV;split
  ·split
   ·rename_i a;have:=uO a;exact AS s f _ _ aA3
   ·exact cH _
  ·exact h
theorem LH(st s:aC):∀f i l,i<=γ s->(iV st s f i l).1=0->(iV st s f i l).2.1<=γ s
 |0,i,l,h,_=>h
 |f+1,i,l,h,a=>by
  unfold iV at a⊢;split
  ·rename_i b;rw[aB b]at a;split
   ·rename_i c;rw[aB c]at a;exact LH st s f _ _ (Fz st s _ (wL b).1) a
   ·exact cH _
  ·exact h
def wI (st s b c h : aC) (a : Int) (i : Nat) : ζ × UU :=
  if (iV st s (γ s + 1) i []).1 = 0 then
    (if (yV s (γ s + 1) (iV st s (γ s + 1) i []).2.1 []).1 = 0 then (0,(b,c,h,a,fS (iV st s (γ s + 1) i []).2.2,fS (yV s (γ s + 1) (iV st s (γ s + 1) i []).2.1 []).2))
     else ((yV s (γ s + 1) (iV st s (γ s + 1) i []).2.1 []).1,hV))
  else ((iV st s (γ s + 1) i []).1,hV)
abbrev PV:=Int×ζ×aC×aC×Int×aC×aC×aC×Int×δ PP×δ PP
def PT(v:PV):ε (UU×Int×ζ):=((aiq FU v FU v.1 v.2.1 v.2.2.2.1 v.2.2.2.2.1 v.2.2.2.2.2.2.2.2.2.1)).bind λ(a:(Int×ζ×aC×Int×(δ PP)))=>(((aip FU FU a.1 a.2.1 a.2.2.1 a.2.2.2.1 v.2.2.2.2.2.2.2.2.2.2)).bind λ(b:(Int×ζ×aC×Int×(δ PP)))=>(if b.2.1=0 then((qz FU a.2.2.2.2).bind λ(d:δ PP)=>((qz FU b.2.2.2.2).bind λ(c:δ PP)=>θ ((v.2.2.2.2.2.1,v.2.2.2.2.2.2.1,v.2.2.2.2.2.2.2.1,v.2.2.2.2.2.2.2.2.1,d,c),0,0)))else θ (([],[],[],0,[],[]),b.1,b.2.1)))
theorem P4(b:Nat)(d:0<b)(a:Int)(e:ζ)(c:¬e=0)(x:aC)(i:Int)(l:δ PP):aip FU b a e x i l=θ (a,e,x,i,l):=by obtain⟨b,rfl⟩:=cB b;rw[ant,ahw,aA c,aR,aG]
theorem lp0_no(v:PV)(b:Nat)(d:0<b)(a:Int)(e:ζ)(c:¬e=0)(x:aC)(i:Int)(l:δ PP):aiq FU v b a e x i l=θ (a,e,x,i,l):=by obtain⟨b,rfl⟩:=cB b;rw[anu,ahx,aA c,aR,aG]
theorem Yx(v:PV)(a:¬v.2.1=0):PT v=θ (hV,v.1,v.2.1):=by unfold PT;rw[lp0_no v FU aA4 _ _ a,aR];rw[P4 FU aA4 _ _ a,aR];rw[aA a];rfl
theorem PS(s:aC)(n:γ s<=4194303)(st:aC)(t:γ st<=1000)(r:st.all (λb=>decide (b.toNat<128))=μ)(a:Int)(m:0<=a)(l:a<=5000000)(e j h:aC)(d:Int)(i:Nat)(o:i<=γ s):
  ∃a',0<=a'/\a'<=5000000/\PT (a,0,st,s,i,e,j,h,d,[],[])=θ ((wI st s e j h d i).2,a',(wI st s e j h d i).1):=by
 unfold PT wI;obtain⟨A,c,F,D,z,y,x,w⟩:=VK s n (a,0,st,s,i,e,j,h,d,[],[]) t r (γ s) i FU (γ s+1) [] a m l aA0 aA4 aA0 o aA2;rw[x,aR];by_cases f:(iV st s (γ s+1) i []).1=0
 ·obtain⟨rfl,rfl,rfl⟩:=w f;have k:=LH st c _ i [] o f;have q:=Zn st c (γ c+1) i [] aA2;have p:=AS c (γ c+1) (iV st c (γ c+1) i []).2.1 [] aA2;obtain⟨I,B,E,C,H,G,v,u⟩:=WN c n (γ c) (iV st c _ i []).2.1 FU (γ c+1) [] A z y aA0 aA4 aA0 k aA2;rw[f,v,aR];simp only;by_cases g:(yV c (γ c+1) (iV st c (γ c+1) i []).2.1 []).1=0
  ·rw[aB g,aB g,u g,pG _ aA0,pG _ aA0];exact⟨_,aA0,aA0,Τ⟩
  ·rw[aA g,aA g];exact⟨_,aA0,aA0,Τ⟩
 ·rw[aA f,P4 FU aA4 _ _ f,aR];rw[aA f];exact⟨_,aA0,aA0,Τ⟩
def ZH:aC:=[115,105,112]
def CA:aC:=[115,105,112,115]
def ru:aC:=[116,101,108]
def Fv (s : aC) : ζ × UU :=
  if 1024 < γ s then (4,hV) else if bP [58] s 0 < γ s then
    (if cN (s.take (bP [58] s 0)) = ZH \/ cN (s.take (bP [58] s 0)) = CA then
      (if (gB s (bP [58] s 0 + 1)).1 = 0 then wI [59,63] s (cN (s.take (bP [58] s 0))) (gB s (bP [58] s 0 + 1)).2.1 (gB s (bP [58] s 0 + 1)).2.2.1 (gB s (bP [58] s 0 + 1)).2.2.2.1 (gB s (bP [58] s 0 + 1)).2.2.2.2 else ((gB s (bP [58] s 0 + 1)).1,hV))
     else if cN (s.take (bP [58] s 0)) = ru then
      (if (jV s (bP [58] s 0 + 1)).1 = 0 then wI [59] s (cN (s.take (bP [58] s 0))) (jV s (bP [58] s 0 + 1)).2 [] 0 (bP [59] s (bP [58] s 0 + 1)) else ((jV s (bP [58] s 0 + 1)).1,hV))
     else (15,hV))
  else (5,hV)
theorem LZ(s:aC)(i:Nat)(b:i<=γ s):(jQ s i).2.2.2<=γ s:=by
 have c:=Bl s i b;unfold jQ;split
 ·exact cH _
 ·split
  ·rename_i a;split
   ·exact Fz _ s _ (wL a).1
   ·exact cH _
  ·split
   ·exact cH _
   ·exact c.2
theorem zk(s:aC)(i:Nat)(a:i<=γ s):(gB s i).2.2.2.2<=γ s:=by
 unfold gB;split
 ·split
  ·exact LZ s _ aA0
  ·exact cH _
 ·exact LZ s i a
theorem N6(s:aC):∃a,0<=a/\a<=5000000/\avh FU s=θ ((Fv s).2,a,(Fv s).1):=by
 unfold avh Fv;by_cases r:1024<γ s
 ·rw[aB aA0,aB r];exact⟨_,aA0,aA0,Τ⟩
 ·rw[aA aA0,aA r];have t:=utl1 58 s 0;rw[NT]at t;rcases qf (·==(58:ζ)) s with⟨w,v⟩|⟨w,v,x⟩
  ·rw[aB aA0,aA aA0];exact⟨_,aA0,aA0,Τ⟩
  ·have m:dM (·==(58:ζ)) s=((bP [58] s 0:Nat):Int):=by omega
   rw[m];have g:bP [58] s 0<γ s:=aA0
   generalize bP [58] s 0=c at g⊢;rw[aB g,aS (bW _ aA0 aA0),aS aA0,gJ,du _ aB3,aR,mL];generalize cN (s.take c)=b;have p:(if b=([115,105,112]:aC)then θ (decide (b=([115,105,112]:aC)))else θ (decide (b=([115,105,112,115]:aC))))=θ (decide (b=ZH\/b=CA)):=by
    by_cases i:b=ZH
    ·rw[aB (show b=([115,105,112]:aC)from i),aE (show b=([115,105,112]:aC)from i),aE (Or.inl i)]
    ·rw[aA (show¬b=([115,105,112]:aC)from i)];congr 1;rw[bY];exact⟨Or.inr,λh=>h.resolve_left i⟩
   rw[p,aR];by_cases e:b=ZH\/b=CA
   ·obtain⟨a,q,u,k,j,o,n⟩:=M8 s aA0 (c+1) g b;rw[aE e,aB e,o,aR];by_cases f:(gB s (c+1)).1=0
    ·obtain⟨rfl,rfl⟩:=n f;rw[f];have l:(gB s (c+1)).2.2.2.2<=γ s:=zk s (c+1) g;exact PS s aA0 [59,63] aA1 aA1 a k j b _ _ _ _ l
    ·rw[aA f];exact⟨_,k,j,Yx (a,(gB s (c+1)).1,[59,63],q.1,q.2,u) f⟩
   ·rw[aD e,aG,aA e];by_cases d:b=ru
    ·obtain⟨a,q,u,k,j,o,n⟩:=ya s aA0 (c+1) g b;rw[aB (show b=[116,101,108]from d),aB d,o,aR];by_cases f:(jV s (c+1)).1=0
     ·obtain⟨rfl,rfl⟩:=n f;rw[f];exact PS s aA0 _ aA1 aA1 a k j b _ _ _ _ (Fz _ s _ g)
     ·rw[aA f];exact⟨_,k,j,Yx _ f⟩
    ·rw[aA (show¬b=[116,101,108]from d),aA d,aR];exact⟨_,eZ 0,(show 0<=5000000 by decide),Yx _ (show¬15=0 by decide)⟩
theorem seesA(s A B:aC)(b:ζ)(h:s=A++B):cV s (γ A) b=decide (B.head? =θ b):=by
 subst h;unfold cV;cases B with
 |nil=>simp
 |cons c B=>
  rw[Rr];by_cases h:c=b
  ·subst h;simp
  ·simp[h]
theorem yc(s A B C:aC)(h:s=A++(B++C)):sub s (γ A) ((γ A+γ B:Nat))=B:=by subst h;unfold sub;rw[gJ,gJ,TH,zbO,ZJ]
theorem UC(p:ζ->η)(B:aC)(h:∀c,B.head? =θ c->p c=ν):cD p B=0:=by
 cases B with
 |nil=>rfl
 |cons c B=>exact lP p c B (h c Τ)
theorem T9(a b:aC)(h:a≠[]):(a++b).head? =a.head? :=by
 cases a with
 |nil=>exact absurd Τ h
 |cons x a=>rfl
section
variable(q : ζ -> η) (h1 : ∀ c,fW c = μ -> q (eQ c) = μ) (h2 : q 58 = μ) (h3 : q 48 = μ)
include h1 h2 h3
omit h2 in
theorem U9 (g:aC) (h:qM g=μ):∀c∈jL g,q c=μ:=by
 have hx:g.all fW=μ:=by unfold qM at h;simp only[lX]at h;exact h.2
 intro c a;unfold jL at a;split at a
 ·rw[aH.1 a];exact h3
 ·have b:=(wP _).subset a;obtain⟨d,e,rfl⟩:=dW.1 b;exact h1 d (aT.1 hx d e)
end
theorem ma:∀c:ζ,jW c=μ->c≠91:=fP _ aA5
open Go.Px
open Go.Lib renaming cut → eF, index → cO, join → cK, trimLeftS → Gh
open List renaming isPrefixOf → NX
theorem Bi(a b:aC)(l:δ aC):cK (a::b::l) [58]=a++(58::cK (b::l) [58]):=by simp[cK]
theorem join_one(a:aC):cK [a] [58]=a:=by simp[cK]
theorem OS(c:ζ):∀(a z:aC),(∀b∈a,b≠c)->cJ c (a++c::z)=a::cJ c z
 |[],z,_=>ayt c z
 |b::a,z,h=>by rw[NU,vr c b _ (h b aA2),OS c a z (λx hx=>h x (fB _ hx))];rfl
theorem E9(c:ζ):∀(a:aC),(∀b∈a,b≠c)->cJ c a=[a]
 |[],_=>rfl
 |b::a,h=>by rw[vr c b _ (h b aA2),E9 c a (λx hx=>h x (fB _ hx))];rfl
theorem Lk:∀gs:δ aC,gs≠[]->(∀g∈gs,∀b∈g,b≠58)->cJ 58 (cK gs [58])=gs
 |[],h,_=>absurd Τ h
 |[a],_,h=>by rw[join_one,E9 58 a (h a aA2)]
 |a::b::l,_,h=>by rw[Bi,OS 58 a _ (h a aA2),Lk (b::l) aA2 (λg c=>h g (fB _ c))]
def F4:aC->η
 |[]=>μ
 |c::l=>(if c=58 then !(l.head? ==ι)&& !(l.head? ==θ 58)else μ)&&F4 l
theorem Di:∀l:aC,F4 l=μ->cO l [58,58]= -1/\∀r,cO (l++58::58::r) [58,58]=γ l
 |[],_=>⟨aA1,λr=>by rw[Ic];rfl⟩
 |c::l,h=>by
  rw[F4,lX]at h;obtain⟨g,f⟩:=Di l h.2;have key:∀r:aC,(r=[]\/l≠[]\/c≠58)->[58,58].isPrefixOf (c::(l++r))=ν:=by
   by_cases a:c=58
   ·subst a;cases l with
    |nil=>simp at h
    |cons d l=>
     have i:¬d=58:=by simpa using h.1
     have b:(58==d)=ν:=by simpa using λe:58=d=>i e.symm
     simp[NX,b]
   ·have:(58==c)=ν:=by simpa using λe:58=c=>a e.symm
    simp[NX,this]
  constructor
  ·have:=key [] (.inl Τ);rw[gH]at this;rw[qm,this,aA aA1,aB g]
  ·intro r
   have:=key (58::58::r) (by
    by_cases a:c=58
    ·right;left;intro e;subst e a;simp at h
    ·exact .inr (.inr a))
   rw[NU,qm,this,aA aA1,f r,cM];omega
theorem F1:∀a:aC,(∀b∈a,b≠58)->F4 a=μ
 |[],_=>rfl
 |c::a,h=>by rw[F4,aA (h c aA2),F1 a (λx hx=>h x (fB _ hx))];rfl
theorem OT:∀a d (z:aC),(∀b∈a,b≠58)->d≠58->F4 (d::z)=μ->F4 (a++58::d::z)=μ
 |[],d,z,_,f,e=>by have:(d==58)=ν:=aE3;rw[Ic,F4,e];simp[this]
 |c::a,d,z,h,f,e=>by rw[NU,F4,aA (h c aA2),OT a d z (λx hx=>h x (fB _ hx)) f e];rfl
theorem Ll:∀gs:δ aC,(∀g∈gs,g≠[]/\∀b∈g,b≠58)->F4 (cK gs [58])=μ
 |[],_=>by simp[Lib.join_nil,F4]
 |[a],h=>by rw[join_one];exact F1 a (h a aA2).2
 |a::b::l,h=>by
  have f:=Ll (b::l) (λg k=>h g (fB _ k));have j:=h b aA2;obtain⟨d,z,e⟩:∃d z,cK (b::l) [58]=d::z/\d≠58:=by
   cases c:b with
   |nil=>exact absurd c j.1
   |cons d b'=>
    have i:d≠58:=j.2 d (by rw[c];simp);cases l with
    |nil=>exact⟨d,b',by rw[join_one],i⟩
    |cons x l=>exact⟨d,b'++(58::cK (x::l) [58]),by rw[Bi];rfl,i⟩
  rw[Bi,e.1];rw[e.1]at f;exact OT a d z (h a aA2).2 e.2 f
theorem nr:∀c:ζ,fW c=μ->fW (eQ c)=μ:=fP _ aA5
theorem nl:∀c:ζ,fW c=μ->(!(eQ c==58))=μ:=fP _ aA5
theorem WV(g:aC)(h:qM g=μ):qM (jL g)=μ/\jL (jL g)=jL g/\jL g≠[]/\∀b∈jL g,b≠58:=by
 have k:=Bm g h;have o:∀b∈jL g,b≠58:=λb i=>by have:=U9 (λc=> !(c==58)) nl aA1 g h b i;simpa using this
 have l:=U9 fW nr aA1 g h;have f:jL g≠[]:=by
  unfold jL;split
  ·simp
  ·assumption
 refine⟨?_,?_,f,o⟩
 ·have:=bN.2 f;unfold qM;rw[aE aA0,aE k,Je,Je,aT];exact l
 ·have j:LM (jL g)=jL g:=by
   refine Ec _ λb i=> ?_;unfold jL at i;split at i
   ·rw[aH.1 i];decide
   ·have p:=(wP _).subset i;obtain⟨d,q,rfl⟩:=dW.1 p;exact low2 d
  have m:Gh (jL g) [48]=[]\/Gh (jL g) [48]=jL g:=by
   unfold jL;split
   ·left;decide
   ·right;unfold Gh;exact Bx _ _
  have e:jL (jL g)=if Gh (jL g) [48]=[]then [48]else Gh (jL g) [48]:=by
   conv=>lhs;unfold jL
   rw[show LM (if Gh _ _=[]then [48]else Gh _ _)=jL g from j]
  rw[e];rcases m with a|a
  ·rw[aB a]
   have:jL g=[48]:=by
    unfold jL at a⊢;split
    ·rfl
    ·rename_i n;rw[aA n]at a;unfold Gh at a n;rw[Bx]at a;exact absurd a n
   rw[this]
  ·rw[a,aA f]
def gdG(gs:δ aC):Prop:=∀g∈gs,qM g=μ/\jL g=g/\g≠[]/\∀b∈g,b≠58
theorem Pg(s:aC):gdG (zA s).1:=by
 intro x hx;unfold zA at hx;split at hx
 ·rename_i b;obtain⟨y,a,rfl⟩:=dW.1 hx;exact WV y (aT.1 b y a)
 ·simp at hx
theorem Bp(s:aC):gdG (iA s).1:=by
 unfold iA;split
 ·intro x hx;simp at hx
 ·exact Pg s
theorem Bo(gs:δ aC)(h:gdG gs)(b:gs≠[]):zA (cK gs [58])=(gs,μ):=by
 unfold zA;rw[Lk gs b (λg a=>(h g a).2.2.2),aB (aT.2 λg a=>(h g a).1)];congr 1
 conv=>rhs;rw[<-List.map_id gs]
 exact er λg a=>(h g a).2.1
theorem mi(gs:δ aC)(h:gdG gs)(a:gs≠[]):cK gs [58]≠[]:=by
 intro e;have:=Lk gs a (λg b=>(h g b).2.2.2);rw[e]at this;cases gs with
 |nil=>exact a Τ
 |cons g l=>
  have c:[]=g:=by have:=bA List.head? this;simpa [cJ] using this
  exact(h g aA2).2.2.1 c.symm
theorem Pj(gs:δ aC)(h:gdG gs):iA (cK gs [58])=(gs,μ):=by
 unfold iA;by_cases a:gs=[]
 ·subst a;rw[aB (by simp[Lib.join_nil])]
 ·rw[aA (mi gs h a),Bo gs h a]
theorem Vz:∀gs:δ aC,(∀g∈gs,γ g<=4)->gs≠[]->γ (cK gs [58])+1<=γ gs*5
 |[],_,h=>absurd Τ h
 |[a],h,_=>by rw[join_one];have:=h a aA2;simp;omega
 |a::b::l,h,_=>by have c:=Vz _ (λg d=>h g (fB _ d)) aA2;have:=h a aA2;rw[Bi];simp at c⊢;omega
variable{a:δ aC}
theorem Br(h:gdG a):∀g∈a,γ g<=4:=λg b=>by have:=(h g b).1;unfold qM at this;simp at this;exact this.1.2
theorem WS(x:aC)(h:(yW x).2=μ):yW (yW x).1=((yW x).1,μ):=by
 unfold yW at h;by_cases a:39<γ x
 ·rw[aB a]at h;cases h
 rw[aA a]at h;by_cases i:(eF x [58,58]).2.2=ν
 ·rw[aB i]at h;simp at h;have e:(yW x).1=cK (zA x).1 [58]:=by unfold yW;rw[aA a,aB i]
  rw[e];have f:=Pg x;generalize(zA x).1=gs at h f⊢;have c:gs≠[]:=by intro e;rw[e]at h;exact absurd h.2 aA1
  have r:=Vz gs (Br f) c;have l:=(Di _ (Ll gs λg b=>(f g b).2.2)).1;unfold yW;rw[aA aA0,sU,aB l,Bo gs f c,aE h.2];rfl
 ·rw[aA i]at h;by_cases j:(!(iA (eF x [58,58]).1).2|| !(iA (eF x [58,58]).2.1).2||decide (7<(γ (iA (eF x [58,58]).1).1:Int)+(γ (iA (eF x [58,58]).2.1).1:Int)))=μ
  ·rw[aB j]at h;cases h
  ·have e:(yW x).1=cK (iA (eF x [58,58]).1).1 [58]++[58,58]++cK (iA (eF x [58,58]).2.1).1 [58]:=by unfold yW;rw[aA a,aA i,aA j]
   rw[e];have k:=Bp (eF x [58,58]).1;have m:=Bp (eF x [58,58]).2.1;simp at j;have n:=j.2;generalize(iA (eF x _).1).1=A at k n⊢;generalize(iA (eF x _).2.1).1=B at m n⊢;have q:γ (cK A _)<=γ A*5:=av [58] 4 A (Br k);have p:γ (cK B [58])<=γ B*5:=av [58] 4 B (Br m);have l:=(Di _ (Ll A λg b=>(k g b).2.2)).2 (cK B [58]);have o:cK A [58]++[58,58]++cK B [58]=cK A [58]++58::58::cK B [58]:=aA2;have d:eF (cK A [58]++[58,58]++cK B [58]) [58,58]=(cK A [58],cK B [58],μ):=by rw[o,sU,l,aA aA0,gJ,ZJ];rw[show cK A [58]++58::58::cK B [58]=(cK A [58]++[58,58])++cK B [58]by simp,show(cK A [58]).length+γ ([58,58]:aC)=γ (cK A [58]++[58,58]) by simp,TH]
   unfold yW;rw[aA aA3,d,aA (show¬(μ=ν)by decide)];rw[Pj A k,Pj B m,aA (by
    simp only[gE,aX];rintro((h|h)|h)
    ·cases h
    ·cases h
    ·omega)]
theorem OR(c:ζ)(f:ζ->ζ)(a:∀b,f b=c↔b=c):∀s:aC,cJ c (s.map f)=(cJ c s).map (List.map f)
 |[]=>rfl
 |b::l=>by
  have d:=OR c f a l;by_cases h:b=c
  ·have g:=(a b).2 h;rw[tR,h,ayt];rw[h]at g;rw[g,ayt,d];rfl
  ·rw[tR,vr c b l h,vr c (f b) _ (λe=>h ((a b).1 e)),d];cases cJ c l with
   |nil=>rfl
   |cons x r=>rfl
theorem low46':∀c:ζ,(decide (eQ c=46))=decide (c=46):=fP _ aA5
theorem ub(b:ζ):eQ b=46↔b=46:=by
 have:=low46' b;by_cases h:b=46
 ·simp[h];decide
 ·rw[aD h,bK]at this;simp[h,this]
theorem QR:∀c:ζ,jW (eQ c)=jW c:=fP _ aA5
theorem ky:∀c:ζ,fZ (eQ c)=fZ c:=fP _ aA5
theorem P8:∀c:ζ,fZ (eQ c)=μ->eQ c=c:=fP _ aA5
theorem kz:∀c:ζ,(eQ c==45)=(c==45):=fP _ aA5
theorem bf(x:aC)(i:Int):(Κ (cN x) i==45)=(Κ x i==45):=by
 unfold cN Κ;rw[bH,bH,bD];cases x[i.toNat]? with
 |none=>rfl
 |some c=>exact kz c
theorem WE(x:aC):Fp (cN x)=Fp x:=by
 have a:γ (cN x)=γ x:=by unfold cN;exact Gk ..
 have b:(cN x).all jW=x.all jW:=by unfold cN;rw[List.all_map];congr 1;funext c;exact QR c
 unfold Fp;rw[a,bf,bf,b]
theorem R0(x:aC):mD (cN x)=mD x:=by unfold mD cN;rw[List.any_map];congr 1;funext c;show(!fZ _)=_;rw[ky]
theorem VW(s:aC):JL (cN s)=JL s:=by
 have b:γ (cN s)=γ s:=by unfold cN;exact Gk ..
 have a:cJ 46 (cN s)=(cJ 46 s).map cN:=OR 46 eQ ub s;have d:((cJ 46 s).map cN).all Fp=(cJ 46 s).all Fp:=by rw[List.all_map];congr 1;funext x;exact WE x
 have c:((cJ 46 s).map cN).any mD=(cJ 46 s).any mD:=by rw[List.any_map];congr 1;funext x;exact R0 x
 unfold JL;rw[b,a,d,c]
theorem ab(g:aC):vB ([91]++g++[93])=μ/\sub ([91]++g++[93]) 1 ((γ ([91]++g++[93]))-1)=g:=by
 have a:γ ([91]++g++[93])=γ g+2:=aA2;have e:((γ g+2:Nat)-1)=(γ ([91]++g):Int):=aA3;constructor
 ·unfold vB;rw[a,e];have b:=Rr ([91]++g) 93 [];rw[b];rfl
 ·rw[a];have:=yc ([91]++g++[93]) [91] g [93] aA2;have c:((γ g+2:Nat)-1)=((γ ([91]:aC)+γ g):Int):=aA3;rw[c];exact this
theorem WL(s:aC)(h:(eM s).2=μ):eM (eM s).1=((eM s).1,μ):=by
 by_cases f:vB s=μ
 ·unfold eM at h;rw[aB f]at h;by_cases k:(yW (sub s 1 (γ s-1))).2=μ
  ·have e:(eM s).1=[91]++(yW (sub s 1 (γ s-1))).1++[93]:=by unfold eM;rw[aB f,aB k]
   rw[e];have n:=WS _ k;generalize(yW _).1=g at n⊢;obtain⟨f1,f2⟩:=ab g;unfold eM;rw[aB f1,f2,n,aB rfl]
  ·rw[aA k]at h;cases h
 ·by_cases j:Kd s=μ
  ·have e:eM s=(s,μ):=by unfold eM;rw[aA f,aB j]
   rw[e];exact e
  ·by_cases i:JL s=μ
   ·have e:eM s=(cN s,μ):=by unfold eM;rw[aA f,aA j,aB i]
    rw[e];have m:∀b∈s,jW b=μ\/b=46:=by unfold JL at i;simp only[lX]at i;exact py 46 jW s (λx hx=>by have:=aT.1 i.1.2 x hx;unfold Fp at this;simp only[lX]at this;exact this.2)
    have p:vB (cN s)=ν:=by
     cases hx:vB _ with
     |false=>rfl
     |true=>
      exfalso;unfold vB at hx;simp at hx;have:=at_mem (cN s) 0 aA0;have r:Κ _ (0:Nat)=91:=hx.1.2;rw[r]at this;obtain⟨d,q,l⟩:=dW.1 this;rcases m d q with a|a
      ·have:jW (eQ d)=μ:=by rw[QR];exact a
       rw[l]at this;exact ma 91 this Τ
      ·rw[a]at l;exact absurd l aA1
    have o:Kd (cN s)=ν:=by
     cases hx:Kd _ with
     |false=>rfl
     |true=>
      exfalso;have c:=hx;unfold Kd at c;simp only[lX]at c;have:=py 46 fZ _ (λx hx=>(bjn x (by rw[<-uD];exact aT.1 c.1.2 x hx)).2.2)
      have hid:=Ec s λb f=>by
       rcases this _ (List.mem_map_of_mem f)with a|a
       ·exact P8 b a
       ·rw[a];exact((ub b).1 a).symm
      rw[hid]at hx;exact j hx
    unfold eM;rw[p,aA aA1,o,aA aA1,VW,i,aB rfl,lR]
   ·unfold eM at h;rw[aA f,aA j,aA i]at h;cases h
open Go.Op renaming bytesLess → qS
theorem GY(a b:aC):WO a b=qS b a:=by unfold WO;rw[<-rX b a]
theorem Ng:∀a b c:aC,qS b a=ν->qS c b=ν->qS c a=ν
 |[],b,c,_,_=>by cases c<;>rfl
 |x::a,[],c,h,_=>by cases h
 |x::a,y::b,[],_,h=>by cases h
 |x::a,y::b,z::c,f,d=>by
  rw[qS,cq]at f d⊢;have i:=fF f.1;have g:=fF d.1;rw[et]at i g;refine⟨aD (by rw[et];omega),?_⟩;by_cases h:z=x
  ·have e:y=x:=by apply jE.1;rw[h]at g;omega
   subst h e;have j:(y==y)=μ:=aA2;rw[j]at f d⊢;exact Ng a b c f.2 d.2
  ·have:(z==x)=ν:=by simpa using h
   rw[this];rfl
theorem WB(a b:aC)(h:qS a b=μ):qS b a=ν:=by rw[rX b a,h];rfl
def YU(a b:PP):Prop:=qS b.1 a.1=ν
theorem Q3(a b:PP)(c:YU a b)(d:YU b a):a.1=b.1:=by unfold YU at c d;rw[rX b.1 a.1,d]at c;have:(a.1==b.1)=μ:=aC8;exact eq_of_beq this
theorem GR(x:PP):∀V:δ PP,V.Pairwise (λa b=>YU b a)->(Ey x V).Pairwise (λa b=>YU b a)
 |[],_=>by simp[Ey]
 |a::V,h=>by
  rw[iR]at h;rw[Ey];cases e:WO a.1 x.1 with
  |true=>
   rw[aM,iR];refine⟨λy c=> ?_,GR x V h.2⟩;rcases Ow x y V c with rfl|c
   ·exact WB _ _ (by rw[<-GY];exact e)
   ·exact h.1 y c
  |false=>
   have d:YU a x:=by unfold YU;rw[<-GY];exact e
   rw[aG,iR,iR];refine⟨λy c=> ?_,h.1,h.2⟩;rcases aQ.1 c with rfl|c
   ·exact d
   ·exact Ng _ _ _ (h.1 y c) d
theorem Wd(x:PP):∀V:δ PP,(Ey x V).Perm (x::V)
 |[]=>List.Perm.refl _
 |a::V=>by
  rw[Ey];cases WO a.1 x.1 with
  |true=>rw[aM];exact((Wd x V).cons a).trans (List.Perm.swap x a V)
  |false=>rw[aG]
theorem S7(x:PP)(l:δ PP)(h:l.Pairwise YU):(nM x l).Pairwise YU:=by unfold nM;rw[List.pairwise_reverse];exact GR x _ (List.pairwise_reverse.2 aA7)
theorem WJ(x:PP)(l:δ PP):(nM x l).Perm (l++[x]):=by refine(List.reverse_perm _).trans ((Wd x _).trans ?_);exact(((List.reverse_perm l).cons x).trans (cw (l₁:=[x])))
theorem Pn:∀(q p:δ PP),p.Pairwise YU->(q.foldl (λout x=>nM x out) p).Pairwise YU/\(q.foldl (λout x=>nM x out) p).Perm (p++q)
 |[],p,h=>⟨h,aA2⟩
 |a::q,p,h=>by obtain⟨c,b⟩:=Pn q _ (S7 a p h);refine⟨c,b.trans ?_⟩;have:=(WJ a p).append_right q;rw[jI]at this;exact this
theorem Wa(l:δ PP):(fS l).Pairwise YU:=(Pn l [] List.Pairwise.nil).1
theorem dw(l:δ PP):(fS l).Perm l:=by have:=(Pn l [] List.Pairwise.nil).2;exact this
def BC(l:δ PP):Prop:=l.Pairwise λa b=>a.1≠b.1
theorem RV:∀l,BC l->∀a∈l,∀b∈l,a.1=b.1->a=b
 |[],_,a,h,_,_,_=>absurd h aA2
 |x::l,d,a,i,b,g,e=>by
  unfold BC at d;rw[iR]at d;rcases aQ.1 i with rfl|f
  ·rcases aQ.1 g with rfl|c
   ·rfl
   ·exact absurd e (d.1 b c)
  ·rcases aQ.1 g with rfl|c
   ·exact absurd e.symm (d.1 a f)
   ·exact RV l d.2 a f b c e
variable{l:δ PP}
theorem HU{m:δ PP}(h:l.Perm m)(a:BC l):BC m:=h.pairwise a λh e=>h e.symm
theorem LV(l m:δ PP)(h:l.Perm m)(e:BC l):fS l=fS m:=by have d:=(dw l).trans (h.trans (dw m).symm);have c:=HU (dw l).symm e;refine List.Perm.eq_of_pairwise (λa b g f j i=> ?_) (Wa l) (Wa m) d;exact RV _ c a g b (d.mem_iff.2 f) (Q3 a b j i)
open Go.Lib renaming hasPrefix → jF, trimPrefix → eH
open List renaming length → aL
def IK(s:aC):η:=s.all λc=> !dQ c
theorem WK(k:Int)(a:k=0\/k=1\/k=2):∀c:ζ,Ir c k=μ->dQ c=ν:=by rcases a with rfl|rfl|rfl<;>exact fP _ aA5
theorem Sp:∀c:ζ,dQ (eQ c)=dQ c:=fP _ aA5
theorem IC(s:aC):IK (cN s)=IK s:=by unfold IK cN;rw[List.all_map];congr 1;funext c;simp only[Function.comp_apply,Sp]
theorem Qa(s:aC)(d:aL s<=4194304):aqn FU s=θ (IK s):=by
 have h:=nW (λc=> !dQ c) s d ν (asb FU s)
  (λb=>by rw[avf,akj,aA aA0])
  (λb k e h=>by have a:dQ (Κ s (k:Int))=μ:=aA7;rw[avf,akj,aB aA0,dU,yH,aR,a,aM])
  (λb k e h=>by have a:dQ (Κ s k)=ν:=aA7;rw[avf,akj,aB aA0,dU,yH,aR,a,aG,dU])
 unfold aqn;rw[h];unfold IK;cases s.all _<;>rfl
theorem xZ(k:Int)(b:k=0\/k=1\/k=2):∀f l,gW k f l=ι->IK (sY k f l)=μ
 |0,l,_=>rfl
 |f+1,l,h=>by
  unfold gW at h;unfold sY;by_cases d:l=[]
  ·rw[aB d];rfl
  ·rw[aA d]at h⊢;cases c:Ir _ k with
   |true=>rw[c,aB rfl,iO]at h;rw[aB rfl];have:=xZ k b f _ h;unfold IK at this⊢;rw[Jg,WK k b _ c,this];rfl
   |false=>
    rw[c,aA aA1]at h;rw[aA aA1];cases e:lF l with
    |none=>rw[e]at h;cases h
    |some v=>
     rw[e]at h;simp only at h⊢;cases a:dQ v with
     |true=>rw[a]at h;cases h
     |false=>rw[a,aA aA1,iO]at h;have:=xZ k b f _ h;unfold IK at this⊢;rw[Jg,a,this];rfl
theorem xY(k:Int)(a:k=0\/k=1\/k=2)(l:aC)(h:fE k l=ι):IK (kO k l)=μ:=xZ k a _ l h
def okQ(k:Int)(p:PP):Prop:=p.1≠[]/\cN p.1=p.1/\IK p.1=μ/\IK p.2.1=μ/\(k=1->p.2.2= !decide (p.2.1=[]))/\(k=2->p.2.2=μ)
variable{x:aC}
theorem PC(h:yC l x=0):∀q∈l,q.1≠x:=by
 unfold yC at h;split at h
 ·exact absurd h aA1
 ·rename_i b;intro q a e;exact b (dS.2 ⟨q,a,aE4⟩)
theorem W8(k:Int)(r:k=1\/k=2)(l:δ PP)(T:aC)(h:(lA k l T).1=0):okQ k (lA k l T).2/\∀q∈l,q.1≠(lA k l T).2.1:=by
 have d:k=0\/k=1\/k=2:=.inr r;unfold lA at h⊢;cases g:fE k _ with
 |some j=>rw[g]at h;exact absurd h (show¬5=0 by decide)
 |none=>
  rw[g]at h;by_cases o:dT T=0
  ·rw[aB o]at h;exact absurd h aA1
  ·rw[aA o]at h⊢;have i:∀_:dT T<=aL T,T.take (dT T)≠[]:=λp e=>by have:=bA aL e;rw[iI,iH]at this;omega
   have b:=i (Kf _ _);have n:cN (kO k (T.take _))≠[]:=λe=>b ((sW k _ g).1 ((Eb _).1 e));have f:IK (cN (kO k (T.take (dT T))))=μ:=by rw[IC];exact xY k d _ g
   by_cases c:dT T<aL T
   ·rw[aB c]at h⊢;cases a:fE k _ with
    |some j=>rw[a]at h;exact absurd h (show¬5=0 by decide)
    |none=>
     rw[a]at h;by_cases hx:T.drop (dT T+1)=[]/\k=1
     ·rw[aB hx]at h;exact absurd h aA1
     ·rw[aA hx]at h⊢;refine⟨⟨n,lR _,f,xY k d _ a,λs=> ?_,λ_=>rfl⟩,PC h⟩;have:¬kO k (T.drop _)=[]:=λe=>hx ⟨(sW k _ a).1 e,s⟩;rw[aD this];rfl
   ·rw[aA c]at h⊢;by_cases m:k=2
    ·rw[aB m]at h;exact absurd h aA1
    ·rw[aA m]at h⊢;exact⟨⟨n,lR _,f,Τ,λ_=>rfl,λe=>absurd e m⟩,PC h⟩
def LS(k:Int)(l:δ PP):Prop:=BC l/\∀p∈l,okQ k p
theorem LS.nil(k:Int):LS k []:=⟨List.Pairwise.nil,aA2⟩
variable{k:Int}
theorem LS.snoc(h:LS k l)(p:PP)(d:okQ k p)(e:∀q∈l,q.1≠p.1):LS k (l++[p]):=by
 refine⟨dE.2 ⟨h.1,List.pairwise_singleton _ _,λa g b f=> ?_⟩,λq c=> ?_⟩
 ·rw[aH.1 f];exact e a g
 ·rcases aV.1 c with c|c
  ·exact h.2 q c
  ·rw[aH.1 c];exact d
theorem LS.sort(h:LS k l):LS k (fS l):=⟨HU (dw l).symm h.1,λp a=>h.2 p ((dw l).mem_iff.1 a)⟩
theorem Hi(l:δ PP)(h:BC l):fS (fS l)=fS l:=(LV l _ (dw l).symm h).symm
theorem N0(st s:aC):∀f i l,LS 1 l->LS 1 (iV st s f i l).2.2
 |0,i,l,h=>h
 |f+1,i,l,h=>by
  unfold iV;split
  ·split
   ·rename_i c;obtain⟨b,a⟩:=W8 1 (.inl Τ) _ _ c;exact N0 st s f _ _ (h.snoc _ b a)
   ·exact LS.nil 1
  ·exact h
theorem U2(s:aC):∀f i l,LS 2 l->LS 2 (yV s f i l).2
 |0,i,l,h=>h
 |f+1,i,l,h=>by
  unfold yV;split
  ·split
   ·rename_i c;obtain⟨b,a⟩:=W8 2 (.inr Τ) _ _ c;exact U2 s f _ _ (h.snoc _ b a)
   ·exact LS.nil 2
  ·exact h
def jR(u:aC):η:= !decide (eH u [43]=[])&&decide (γ (eH u [43])<=30)&&(eH u [43]).all (lT (jF u [43]))
theorem Hq(b:η)(c:ζ):((ZC FU c).bind λa=>(bif (!a)then(bif b then θ μ else(if c=42 then θ ν else θ (!decide (c=35))))else θ ν))=θ (!lT b c):=by revert c;cases b<;>exact fP _ aA5
theorem XL(u:aC)(f:aL u<=4194304):ayq FU u=θ (jR u):=by
 have b:=Ky u [43];have h:=nW (lT _) (eH u [43]) aA0 ν (apa FU u)
  (λc=>by rw[atf,ajh,aA aA0])
  (λc k d h=>by rw[atf,ajh,aB aA0,dU,Hq,aR,h,oF,aM])
  (λc k d h=>by rw[atf,ajh,aB aA0,dU,Hq,aR,h,eY,aG,dU])
 unfold ayq jR;by_cases a:eH u [43]=[]
 ·rw[aB a,aE a];rfl
 ·rw[aA a,aD a];by_cases e:30<γ (eH u [43])
  ·rw[aE aA0,aD (show¬γ (eH u _)<=30 by omega)];rfl
  ·rw[aD aA0,h,aE (show(eH u _).length<=30 by omega)];cases(eH u _).all _<;>rfl
theorem Et(a:η):∀T d,yA a T=θ d->d.all (lT a)=μ
 |[],d,h=>by simp only[yA,bG]at h;subst h;rfl
 |c::T,d,h=>by
  unfold yA at h;split at h
  ·rename_i e;cases b:yA a T with
   |none=>rw[b]at h;cases h
   |some d'=>rw[b]at h;simp at h;subst h;rw[Jg,e,Et a T d' b];rfl
  ·split at h
   ·exact Et a T d h
   ·cases h
theorem gj(s:aC)(i:Nat)(h:(jV s i).1=0):jR (jV s i).2=μ:=by
 unfold jV at h⊢;cases f:yA (cV s i 43) (sub s ((if cV s i 43=μ then i+1 else i:Nat):Int) (bP [59] s i:Int))with
 |none=>rw[f]at h;exact absurd h (show¬(5:ζ)=0 by decide)
 |some d=>
  rw[f]at h;simp only at h⊢;by_cases j:d=[]
  ·rw[aB j]at h;exact absurd h aA1
  ·rw[aA j]at h⊢;by_cases g:30<aL d
   ·rw[aB g]at h;exact absurd h aA1
   ·rw[aA g];have a:=Et _ _ _ f;cases b:cV s i 43 with
    |true=>
     rw[b]at a;rw[aB rfl];have l:eH (43::d) [43]=d:=by unfold eH jF;simp
     have k:jF (43::d) [43]=μ:=by unfold jF;simp
     unfold jR;rw[l,k,a,aD j,aE (show γ d<=30 by omega)];rfl
    |false=>
     rw[b]at a f;rw[aA aA1];have l:=On _ _ f;have k:jF d [43]=ν:=by
      cases d with
      |nil=>exact absurd Τ j
      |cons c d=>
       have m:lT ν c=μ:=by rw[Jg,lX]at a;exact a.1
       have:c≠43:=λe=>by subst e;exact absurd m aA1
       have n:¬(43:ζ)=c:=λe=>this e.symm;show((43:ζ)==c&&([]:aC).isPrefixOf d)=ν;rw[dX.2 n];rfl
     unfold jR;rw[l,k,a,aD j,aE (show γ d<=30 by omega)];rfl
structure Good (u:UU):Prop where
 tp:((u.1=ZH\/u.1=CA)/\eM u.2.2.1=(u.2.2.1,μ)/\0<=u.2.2.2.1/\u.2.2.2.1<=65535/\IK u.2.1=μ)\/(u.1=ru/\u.2.2.1=[]/\u.2.2.2.1=0/\u.2.2.2.2.2=[]/\jR u.2.1=μ)
 ps:LS 1 u.2.2.2.2.1
 hs:LS 2 u.2.2.2.2.2
 pl:aL u.2.2.2.2.1<=16
 hl:aL u.2.2.2.2.2<=16
 pi:fS u.2.2.2.2.1=u.2.2.2.2.1
 hi:fS u.2.2.2.2.2=u.2.2.2.2.2
theorem EF(st s b e h:aC)(a:Int)(i:Nat)(c:(wI st s b e h a i).1=0):
  ∃P H,(wI st s b e h a i).2=(b,e,h,a,P,H)/\LS 1 P/\LS 2 H/\γ P<=16/\γ H<=16/\fS P=P/\fS H=H/\H=fS (yV s (aL s+1) (iV st s (aL s+1) i []).2.1 []).2:=by
 unfold wI at c⊢;have j:=N0 st s (aL s+1) i [] (LS.nil 1);have g:=U2 s (aL s+1) (iV st s (aL s+1) i []).2.1 [] (LS.nil 2);have l:=Zn st s (aL s+1) i [] aA2;have k:=AS s (aL s+1) (iV st s (aL s+1) i []).2.1 [] aA2;split
 ·rename_i d;rw[aB d]at c;split
  ·exact⟨_,_,Τ,j.sort,g.sort,by rw[bjv];exact l,by rw[bjv];exact k,Hi _ j.1,Hi _ g.1,Τ⟩
  ·rename_i f;rw[aA f]at c;exact absurd c f
 ·rename_i d;rw[aA d]at c;exact absurd c d
theorem M6(q:aC)(h:(Cd q).2=0):1<=(Cd q).1/\(Cd q).1<=65535:=by
 unfold Cd at h⊢;split
 ·rename_i hx;rw[aB hx]at h;exact absurd h aA1
 ·rename_i hx;rw[aA hx]at h;have a:¬((eV q).1<1\/65535<(eV q).1):=λe=>hx ⟨h,e⟩;omega
theorem T4(s:aC)(i:Nat)(h:(jQ s i).1=0):eM (jQ s i).2.1=((jQ s i).2.1,μ)/\0<=(jQ s i).2.2.1/\(jQ s i).2.2.1<=65535:=by
 unfold jQ at h⊢;split
 ·rename_i c;rw[aB c]at h;exact absurd h aA1
 ·rename_i c;rw[aA c]at h;have hid:=WL _ aC8;split
  ·rename_i a;rw[aB a]at h;split
   ·rename_i b;have:=M6 _ b;exact⟨hid,by simp only;omega,by simp only;omega⟩
   ·rename_i b;rw[aA b]at h;exact absurd h b
  ·rename_i a;rw[aA a]at h;split
   ·rename_i hx;rw[aB hx]at h;exact absurd h aA1
   ·exact⟨hid,show 0<=0 by decide,show 0<=65535 by decide⟩
theorem fw(U:aC)(h:(mP U).1=0):IK (mP U).2=μ/\(mP U).2≠[]:=by
 unfold mP at h⊢;cases a:fE 0 U with
 |some j=>rw[a]at h;simp only at h;split at h<;>exact absurd h aA1
 |none=>
  rw[a]at h;simp only at h⊢;by_cases b:U=[]
  ·rw[aB b]at h;exact absurd h aA1
  ·rw[aA b];exact⟨xY 0 (.inl Τ) U a,λe=>b ((sW 0 U a).1 e)⟩
theorem zj(s:aC)(i:Nat)(h:(gB s i).1=0):eM (gB s i).2.2.1=((gB s i).2.2.1,μ)/\0<=(gB s i).2.2.2.1/\(gB s i).2.2.2.1<=65535/\IK (gB s i).2.1=μ:=by
 unfold gB at h⊢;split
 ·rename_i a;rw[aB a]at h;split
  ·rename_i b;rw[aB b]at h;have:=T4 s _ h;exact⟨this.1,this.2.1,this.2.2,(fw _ b).1⟩
  ·rename_i b;rw[aA b]at h;exact absurd h b
 ·rename_i a;rw[aA a]at h;have:=T4 s _ h;exact⟨this.1,this.2.1,this.2.2,Τ⟩
theorem Zo(s:aC):∀(f i:Nat) (l:δ PP),i<=aL s->aL s-i<f->(i=aL s\/cV s i 59=μ)->(iV [59] s f i l).1=0->(iV [59] s f i l).2.1=aL s
 |0,i,l,n,m,h,b=>by omega
 |f+1,i,l,n,m,h,b=>by
  unfold iV at b⊢;by_cases d:cV s i 59=μ
  ·rw[aB d]at b⊢;have c:=(wL d).1;have j:=Ke [59] s (i+1);have e:=Fz [59] s (i+1) c;by_cases g:(lA 1 l (sub s ((i+1:Nat):Int) (bP [59] s (i+1):Int))).1=0
   ·rw[aB g]at b⊢;refine Zo s f _ _ e aA0 ?_ b;by_cases k:bP [59] s (i+1)=aL s
    ·exact .inl k
    ·have a:=bkm [59] s (i+1) c aA0;refine .inr ?_;unfold cV;rw[aE aA0,Je];unfold fO at a;rw[Xr,lL,gP]at a;have o:=eq_of_beq a;rw[<-o];rfl
   ·rw[aA g]at b;exact absurd b g
  ·rw[aA d];exact h.resolve_right d
theorem Mp(s:aC)(h:(Fv s).1=0):Good (Fv s).2:=by
 unfold Fv at h⊢;by_cases t:1024<aL s
 ·rw[aB t]at h;exact absurd h aA1
 ·rw[aA t]at h⊢;by_cases j:bP [58] s 0<aL s
  ·rw[aB j]at h⊢;generalize bP [58] s 0=c at j h⊢;generalize cN (s.take c)=f at h⊢;by_cases b:f=ZH\/f=CA
   ·rw[aB b]at h⊢;by_cases d:(gB s (c+1)).1=0
    ·rw[aB d]at h⊢;obtain⟨P,H,e,r,q,p,o,n,m,_⟩:=EF _ _ _ _ _ _ _ h;rw[e];obtain⟨A,z,y,x⟩:=zj s (c+1) d;exact⟨.inl ⟨b,A,z,y,x⟩,r,q,p,o,n,m⟩
    ·rw[aA d]at h;exact absurd h d
   ·rw[aA b]at h⊢;by_cases a:f=ru
    ·rw[aB a]at h⊢;by_cases d:(jV s (c+1)).1=0
     ·rw[aB d]at h⊢;have u:=Ke [59] s (c+1);have k:=Fz [59] s (c+1) j;have l:(iV [59] s (aL s+1) (bP [59] s (c+1)) []).1=0:=by
       unfold wI at h;by_cases hx:(iV [59] s (aL s+1) (bP [59] s (c+1)) []).1=0
       ·exact hx
       ·rw[aA hx]at h;exact absurd h hx
      have i:=Zo s (aL s+1) (bP [59] s (c+1)) [] k aA0 (by
       by_cases v:bP [59] s (c+1)=aL s
       ·exact .inl v
       ·have g:=bkm [59] s (c+1) j aA0;refine .inr ?_;unfold cV;rw[aE aA0,Je];unfold fO at g;rw[Xr,lL,gP]at g;have B:=eq_of_beq g;rw[<-B];rfl) l
      obtain⟨P,H,e,r,q,p,o,n,m,C⟩:=EF _ _ _ _ _ _ _ h;rw[e];have w:H=[]:=by rw[C,i,yV,aA (Nat.lt_irrefl _)];rfl
      exact⟨.inr ⟨a,Τ,Τ,w,gj s (c+1) d⟩,r,q,p,o,n,m⟩
     ·rw[aA d]at h;exact absurd h d
    ·rw[aA a]at h;exact absurd h aA1
  ·rw[aA j]at h;exact absurd h aA1
theorem XD(k:Int)(z:k=1\/k=2)(l:δ PP)(E:aL l<=16)(n:LS k l)(B:∀p∈l,aL p.1<=4194304/\γ p.2.1<=4194304)(q:δ PP):∀(p:δ PP) (b:Nat),l=p++q->aL q<b->
  aki FU l k b p (aL p:Int)=θ (.inl l):=by
 induction q with
 |nil=>intro p b h i;obtain⟨b,rfl⟩:=cB b;rw[bca,anr,aA aA6,h,gH]
 |cons a q y=>
  intro p b h i;obtain⟨b,rfl⟩:=cB b;have d:=bA aL h;simp only[cE,cM]at d i;have c:(0:Int)<=(aL p:Int)/\(aL p:Int)<(aL l:Int):=aA0;have A:el l (aL p:Int)=a:=aB2;have m:a∈l:=aA6;obtain⟨w,v,u,t,s,r⟩:=n.2 a m;obtain⟨o,D⟩:=B a m;have g:(p.any λx=>x.1==a.1)=ν:=by rw[dC];intro x hx e;have j:=n.1;rw[h]at j;exact(dE.1 j).2.2 x hx a aA2 aE4
  have f:=y (p++[a]) b aA6 aA0;rw[show(γ (p++[a]):Int)=(aL p:Int)+1 by simp]at f;rw[bca,anr,aB c.2,aS c,aS c,A,du _ o,aR,v,aA w,Qa _ o,aR,u,eY,aG,Qa _ D,aR,t,eY,aG,Pc p aA0,g,aR,aR,aG];have C:(if k=(2:Int)then(bif (!(a.2.2))then θ μ else(if k=(1:Int)then θ (!((a.2.2)==(!decide ((a.2.1)=([]:aC)))))else θ ν))else(if k=(1:Int)then θ (!((a.2.2)==(!decide ((a.2.1)=([]:aC)))))else θ ν))=θ ν:=by
   rcases z with rfl|rfl
   ·rw[aA aA1,aB rfl,s rfl];simp
   ·rw[aB rfl,r rfl,eY,aG,aA aA1]
  rw[C,aR,aG];simp only[Zl];rw[aS aB6,aS (bW _ aA0 aA0)];exact f
theorem uP(k:Int)(b:k=1\/k=2)(l:δ PP)(a:aL l<=16)(d:LS k l)(c:∀p∈l,aL p.1<=4194304/\γ p.2.1<=4194304):asn FU l k=θ (fS l,μ):=by unfold asn;have h:aki FU l k FU [] (0:Int)=θ (.inl l):=XD k b l a d c l [] FU Τ aA4;rw[aA aA0,h,aR,lB,pG l aA0,aR]
def wv(u:UU):Prop:=aL u.1<=4194304/\γ u.2.1<=4194304/\γ u.2.2.1<=4194304/\(∀p∈u.2.2.2.2.1,aL p.1<=4194304/\γ p.2.1<=4194304)/\(∀p∈u.2.2.2.2.2,aL p.1<=4194304/\γ p.2.1<=4194304)
theorem VS(u:UU)(A:Good u)(z:wv u):ayr FU u=θ (u,0):=by
 obtain⟨a,B,h,y,P,H⟩:=u;obtain⟨t,s,r,q,p,o,n⟩:=A;obtain⟨x,g,w,f,e⟩:=z;simp only at t s r q p o n x g w f e;have c:cN a=a:=by
  rcases t with⟨b,_⟩|⟨b,_⟩
  ·rcases b with rfl|rfl<;>decide
  ·rw[b];decide
 unfold ayr;simp only;rw[du _ x,aR,c];have v:(if a=([115,105,112]:aC)then θ (decide (a=([115,105,112]:aC)))else θ (decide (a=([115,105,112,115]:aC))))=θ (decide (a=ZH\/a=CA)):=by
  by_cases d:a=ZH
  ·rw[aB (show a=([115,105,112]:aC)from d),aE (show a=([115,105,112]:aC)from d),aE (Or.inl d)]
  ·rw[aA (show¬a=([115,105,112]:aC)from d)];congr 1;rw[bY];exact⟨Or.inr,λh=>h.resolve_left d⟩
 rw[v,aR];rcases t with⟨b,m,l,k,j⟩|⟨b,m,l,k,j⟩
 ·rw[aE b,aM,bke _ w,aR,m,aM,aB l,aB k,Qa _ g,aR,j,aR];rw[uP 1 (.inl rfl) P q s f,aR,uP 2 (.inr rfl) H p r e,aR,o,n];rfl
 ·subst m l k;have i:¬(a=ZH\/a=CA):=by rw[b];decide
  rw[aD i,aG,aB (show a=([116,101,108]:aC)from b),aB Τ,aB Τ,aB (show(γ ([]:δ PP):Int)=0 from Τ),XL _ g,aR,j,aR];rw[uP 1 (.inl rfl) P q s f,aR,uP 2 (.inr rfl) [] p r e,aR,o,n];rfl
def hexU(n:Nat):ζ:=Κ [48,49,50,51,52,53,54,55,56,57,65,66,67,68,69,70] (n:Int)
def MJ(k:Int)(c:ζ):aC:=if Ir c k=μ then [c]else [37,hexU (c.toNat/16),hexU (c.toNat%16)]
def kL(k:Int)(s:aC):aC:=s.flatMap (MJ k)
theorem shr4:∀c:ζ,(Ym c (4:Int)).toNat=c.toNat/16:=fP _ aA5
theorem mask15:∀c:ζ,(c&&&(15:ζ)).toNat=c.toNat%16:=fP _ aA5
theorem Xh(k:Int)(s:aC):γ (kL k s)<=3*aL s:=by
 unfold kL;induction s with
 |nil=>exact dK _
 |cons c s a=>
  rw[Rw,cE,cM];have:γ (MJ k c)<=3:=by unfold MJ;split<;>simp
  omega
theorem esc_lp(s:aC)(r:aL s<=4194304)(k:Int)(l:k=0\/k=1\/k=2)(q:aC):∀(p:aC) (d:Nat),s=p++q->aL q<d->
  akk FU s k d (kL k p) (aL p:Int)=θ (kL k s):=by
 induction q with
 |nil=>intro p d h g;obtain⟨d,rfl⟩:=cB d;rw[bcc,anw,aA aA6,h,gH]
 |cons c q j=>
  intro p d h g;obtain⟨d,rfl⟩:=cB d;have e:=bA aL h;simp only[cE,cM]at e g;have b:(0:Int)<=(aL p:Int)/\(aL p:Int)<(aL s:Int):=aA0;have n:Κ s (aL p:Int)=c:=by rw[h];simp[Κ]
  have a:=j (p++[c]) d aA6 aA0;have m:=Xh k p;have o:kL k (p++[c])=kL k p++MJ k c:=by unfold kL;rw[NW,iT]
  rw[show(γ (p++[c]):Int)=(aL p:Int)+1 by simp,o]at a;rw[bcc,anw,aB b.2,aS b,Oy _ k l,n,aR];unfold MJ at a;cases i:Ir c k with
  |true=>rw[i,aB rfl]at a;rw[aM,aS b,aS aB6,aS (bW _ aA0 aA0)];exact a
  |false=>rw[i,aA aA1]at a;have t:=fG c;have f:(γ ([48,49,50,51,52,53,54,55,56,57,65,66,67,68,69,70]:aC):Int)=16:=Τ;rw[aG,aS b,shr4,mask15,f,aS aA0,aS b,aS aA0,aS aB9,aS (bW _ aA0 aA0)];exact a
theorem nO(s:aC)(a:aL s<=4194304)(k:Int)(b:k=0\/k=1\/k=2):bq FU s k=θ (kL k s):=by unfold bq;have h:akk FU s k FU [] (0:Int)=θ (kL k s):=esc_lp s a k b s [] FU Τ aA4;rw[V5 aA0,h,aR]
open Go.Lib renaming itoa → gK
theorem Gm(out s:aC)(h:aL out+aL s<=140737488355328):CO FU ((),out) s=θ ((aL s:Int),(),(),out++s):=by unfold CO;simp only;rw[aS aA0]
theorem ta(out:aC)(c:ζ)(h:aL out+1<=140737488355328):afe FU ((),out) c=θ ((),(),out++[c]):=by unfold afe;simp only;rw[aS aB6]
def Zt(p:PP):aC:=kL 1 p.1++(bif p.2.2 then 61::kL 1 p.2.1 else [])
def Fb(p:PP):aC:=kL 2 p.1++61::kL 2 p.2.1
def kF(l:δ PP):aC:=l.flatMap λp=>59::Zt p
def vA(l:δ PP):aC:=l.flatMap λp=>38::Fb p
def Te:δ PP->aC
 |[]=>[]
 |p::r=>63::(Fb p++vA r)
def Ub(u:UU):aC:=if u.1=ru then u.2.1 else if u.2.1=[]then []else kL 0 u.2.1++[64]
def JF(n:Int):aC:=if n=0 then []else 58::gK n
def dc(u:UU):aC:=u.1++(58::(Ub u++(u.2.2.1++(JF u.2.2.2.1++(kF u.2.2.2.2.1++Te u.2.2.2.2.2)))))
theorem EY(p:PP)(h:aL p.1<=4194304/\γ p.2.1<=4194304):γ (Zt p)<=25165830:=by
 have b:=Xh 1 p.1;have a:=Xh 1 p.2.1;unfold Zt;rw[cE];cases p.2.2 with
 |true=>rw[aM,cM];omega
 |false=>rw[aG,iH];omega
theorem RH(p:PP)(h:aL p.1<=4194304/\γ p.2.1<=4194304):γ (Fb p)<=25165830:=by have b:=Xh 2 p.1;have a:=Xh 2 p.2.1;unfold Fb;rw[cE,cM];omega
theorem VG(u:UU)(q:∀p∈u.2.2.2.2.1,aL p.1<=4194304/\γ p.2.1<=4194304)(s:aL u.2.2.2.2.1<=16)(r:δ PP):∀(pre:δ PP) (a:Nat) (out:aC),u.2.2.2.2.1=pre++r->aL r<a->aL out<=100000000+aL pre*30000000->
  aio FU (u,0) a (aL pre:Int) () out=θ ((),out++kF r):=by
 induction r with
 |nil=>intro pre a out h j m;obtain⟨a,rfl⟩:=cB a;rw[gH]at h;rw[bdv,apc,aA aA6];simp[kF]
 |cons p r k=>
  intro pre a out h j m;obtain⟨a,rfl⟩:=cB a;have f:=bA aL h;simp only[cE,cM]at f j;have b:(0:Int)<=(aL pre:Int)/\(aL pre:Int)<(aL u.2.2.2.2.1:Int):=aA0;have n:el u.2.2.2.2.1 (aL pre:Int)=p:=aB2;have c:=q p aA6;have v:=Xh 1 p.1;have t:=Xh 1 p.2.1;have d:bJ ((aL pre:Int)+1):=bW _ aA0 aA0;have next:∀o:aC,o=out++(59::Zt p)->aio FU (u,0) a ((aL pre:Int)+1) () o=θ ((),out++kF (p::r)):=by intro o e;have l:=EY p c;have g:=k (pre++[p]) a o aA6 aA0 (by rw[e];simp only[cE,cM,iH];omega);rw[show(γ (pre++[p]):Int)=(aL pre:Int)+1 by simp]at g;rw[g,e];simp[kF]
  rw[bdv,apc,aB b.2];simp only;rw[aS b,aS b,n,nO _ c.1 1 (.inr (.inl rfl)),aR,aS aB6,Gm _ _ aB7,aR];cases i:p.2.2 with
  |true=>
   rw[aM,nO _ c.2 1 (.inr (.inl rfl)),aR,aS aB6,Gm _ _ aB7,aR,aS d];refine next _ ?_
   unfold Zt;rw[i];simp
  |false=>
   rw[aG,aS d];refine next _ ?_
   unfold Zt;rw[i];simp
theorem VF(u:UU)(y:∀p∈u.2.2.2.2.2,aL p.1<=4194304/\γ p.2.1<=4194304)(z:aL u.2.2.2.2.2<=16)(r:δ PP):∀(pre:δ PP) (b:Nat) (out:aC),u.2.2.2.2.2=pre++r->aL r<b->aL out<=1000000000+aL pre*30000000->
  agn FU (u,0) b (aL pre:Int) () out=θ ((),out++(if pre=[]then Te r else vA r)):=by
 induction r with
 |nil=>intro pre b out h s w;obtain⟨b,rfl⟩:=cB b;rw[gH]at h;rw[bdu,apb,aA aA6];split<;>simp[Te,vA]
 |cons p r t=>
  intro pre b out h s w;obtain⟨b,rfl⟩:=cB b;have k:=bA aL h;simp only[cE,cM]at k s;have f:(0:Int)<=(aL pre:Int)/\(aL pre:Int)<(aL u.2.2.2.2.2:Int):=aA0;have x:el u.2.2.2.2.2 (aL pre:Int)=p:=aB2;have g:=y p aA6;have B:=Xh 2 p.1;have A:=Xh 2 p.2.1;have v:=RH p g;have q:bJ ((aL pre:Int)+1):=bW _ aA0 aA0;have next:∀(c:ζ) (o:aC),o=out++(c::Fb p)->agn FU (u,0) b ((aL pre:Int)+1) () o=θ ((),out++(c::(Fb p++vA r))):=by intro c o j;have l:=t (pre++[p]) b o aA6 aA0 (by rw[j];simp only[cE,cM,iH];omega);rw[show(γ (pre++[p]):Int)=(aL pre:Int)+1 by simp,aA aA2]at l;rw[l,j];simp
  have tail:∀(c:ζ),((bq FU p.1 (2:Int)).bind λ(a:aC)=>(gd (aL a+γ ([61]:aC)<=9223372036854775807)<|((bq FU p.2.1 (2:Int)).bind λ(d:aC)=>(gd (γ (a++([61]:aC))+aL d<=9223372036854775807)<|((CO FU ((),out++[c]) ((a++([61]:aC))++d)).bind λ(i:(Int×Unit×(Unit×(δ ζ))))=>(gd (bJ ((aL pre:Int)+(1:Int)))<|(agn FU (u,0) b ((aL pre:Int)+(1:Int)) () i.2.2.2)))))))=θ ((),out++(c::(Fb p++vA r))):=by
   intro c;rw[nO _ g.1 2 (.inr (.inr rfl)),aR,aS aB6,nO _ g.2 2 (.inr (.inr rfl)),aR,aS aB7,Gm _ _ aB7,aR,aS q];refine next c _ ?_
   unfold Fb;simp
  rw[bdu,apb,aB f.2];simp only;rw[aS f,aS f,x];by_cases m:pre=[]
  ·have n:(aL pre:Int)=0:=by rw[m];rfl
   rw[aB n,aB m,ta _ _ aA0,aR,aR];simp only;rw[tail 63];rfl
  ·have n:¬(aL pre:Int)=0:=λe=>m (qR aA0);rw[aA n,aA m,ta _ _ aA0,aR,aR];simp only;rw[tail 38];unfold vA;rw[Rw];rfl
theorem uC:∀l,(∀p∈l,aL p.1<=4194304/\γ p.2.1<=4194304)->γ (kF l)<=aL l*30000000
 |[],_=>dK _
 |p::l,h=>by have c:=EY p (h p gQ);have b:=uC l (λq a=>h q (fB _ a));unfold kF at b⊢;rw[Rw,cE,cM,cM];omega
theorem GW:∀l,(∀p∈l,aL p.1<=4194304/\γ p.2.1<=4194304)->γ (vA l)<=aL l*30000000
 |[],_=>dK _
 |p::l,h=>by have c:=RH p (h p gQ);have b:=GW l (λq a=>h q (fB _ a));unfold vA at b⊢;rw[Rw,cE,cM,cM];omega
theorem Pd(l:δ PP)(h:∀p∈l,aL p.1<=4194304/\γ p.2.1<=4194304):γ (Te l)<=aL l*30000000:=by
 have:=GW l h;cases l with
 |nil=>exact cH _
 |cons p l=>unfold vA at this;rw[Rw,cE,cM]at this;unfold Te vA;rw[cM,cE];omega
theorem M3(u:UU)(g:Good u)(z:wv u):bbv FU u=θ (dc u,0):=by
 have d:0<=u.2.2.2.1/\u.2.2.2.1<=65535:=by
  rcases g.tp with⟨_,_,p,A,_⟩|⟨_,_,h,_⟩
  ·exact⟨p,A⟩
  ·omega
 have hit:=bgj u.2.2.2.1 d.1 d.2;have m:=g.pl;have n:=g.hl;have x:=Xh 0 u.2.1;obtain⟨w,s,v,l,k⟩:=z;have C:=uC _ l;have B:=Pd _ k;unfold bbv;rw[VS u g ⟨w,s,v,l,k⟩,aR,aB rfl];simp only;rw[aS aB6,Gm _ _ aD2,aR];simp only;have q:(if u.1=([116,101,108]:aC)then((CO FU ((),([]:aC)++(u.1++([58]:aC))) u.2.1).bind λ(j:(Int×Unit×(Unit×(δ ζ))))=>θ ((),j.2.2.2))else(if u.2.1=([]:aC)then θ ((),([]:aC)++(u.1++([58]:aC)))else((bq FU u.2.1 (0:Int)).bind λ(b:aC)=>(gd (aL b+γ ([64]:aC)<=9223372036854775807)<|((CO FU ((),([]:aC)++(u.1++([58]:aC))) (b++([64]:aC))).bind λ(i:(Int×Unit×(Unit×(δ ζ))))=>θ ((),i.2.2.2))))))=θ ((),u.1++([58]:aC)++Ub u):=by
  unfold Ub;by_cases e:u.1=ru
  ·rw[aB (show u.1=([116,101,108]:aC)from e),aB e,Gm _ _ aD2,aR];simp
  ·rw[aA (show¬u.1=([116,101,108]:aC)from e),aA e];by_cases f:u.2.1=[]
   ·rw[aB f,aB f];simp
   ·rw[aA f,aA f,nO _ s 0 (.inl rfl),aR,aS aB6,Gm _ _ aD2,aR];simp
 rw[q,aR];have y:γ (Ub u)<=12582913:=by
  unfold Ub;split
  ·omega
  ·split
   ·exact cH _
   ·rw[cE,eG];omega
 simp only;rw[Gm _ _ aB7,aR];simp only;have r:∀o:aC,aL o<=50000000->(if u.2.2.2.1=(0:Int)then θ ((),o)else(gd (bJ u.2.2.2.1)<|(gd (γ ([58]:aC)+γ (gK u.2.2.2.1)<=9223372036854775807)<|((CO FU ((),o) (([58]:aC)++(gK u.2.2.2.1))).bind λ(c:(Int×Unit×(Unit×(δ ζ))))=>θ ((),c.2.2.2)))))=θ ((),o++JF u.2.2.2.1):=by
  intro o D;unfold JF;by_cases a:u.2.2.2.1=0
  ·rw[aB a,aB a,gH]
  ·rw[aA a,aA a,aS (bW _ aA0 aA0),aS aB6,Gm _ _ aB7,aR];simp
 rw[r _ aB7,aR];have t:γ (JF u.2.2.2.1)<=6:=by
  unfold JF;split
  ·exact cH _
  ·rw[cM];omega
 simp only;have a:aio FU (u,0) FU (0:Int) () _=_:=VG u l m u.2.2.2.2.1 [] FU (u.1++([58]:aC)++Ub u++u.2.2.1++JF u.2.2.2.1) Τ aA4 aD2;rw[a,aR];simp only;have p:agn FU (u,0) FU (0:Int) () _=_:=VF u k n u.2.2.2.2.2 [] FU (u.1++([58]:aC)++Ub u++u.2.2.1++JF u.2.2.2.1++kF u.2.2.2.2.1) Τ aA4 aD2;rw[p,aR,aB rfl];simp only;rw[aS aB7];unfold dc;simp
theorem utlA(st s A X Y:aC)(h:s=A++(X++Y))(d:∀c∈X,fO st c=ν)(b:∀c,Y.head? =θ c->fO st c=μ):bP st s (γ A)=γ A+γ X:=by subst h;unfold bP;rw[TH,Ln _ _ _ (by rw[aT];intro c a;rw[d c a];rfl),UC _ _ (λc a=>by rw[b c a];rfl),Ru]
theorem snoc1(A:aC)(c:ζ):γ A+1=γ (A++[c]):=by rw[cE];rfl
theorem H5(pre r:δ PP)(p:PP)(a:BC (pre++p::r))(d:γ pre+(γ r+1)<=16):yC pre p.1=0:=by unfold yC;unfold BC at a;rw[dE]at a;rw[aA,aA aA0];intro h;rw[dS]at h;obtain⟨q,b,c⟩:=h;exact a.2.2 q b p gQ (eq_of_beq c)
theorem Om(a:η):∀d:aC,d.all (lT a)=μ->yA a d=θ d
 |[],_=>rfl
 |c::d,h=>by rw[Jg,lX]at h;rw[yA,aB h.1,Om a d h.2];rfl
def a62(c:ζ):η:= !(c==62)&& !dQ c
theorem Z1(u:aC)(h:jR u=μ):∀c∈u,(!(c==59))=μ/\a62 c=μ:=by
 unfold jR at h;simp only[lX]at h;have g:=h.2;intro c f;have i:∀d c,lT d c=μ->(!(c==59))=μ/\a62 c=μ:=by intro d;cases d<;>exact fP _ aA5
 cases u with
 |nil=>cases f
 |cons a u=>
  by_cases b:a=43
  ·subst b;rcases aQ.1 f with h|h
   ·rw[h];decide
   ·exact i _ c (aT.1 g c h)
  ·have j:¬43=a:=λe=>b e.symm;have k:eH (a::u) [43]=a::u:=by unfold eH jF;simp[j]
   rw[k]at g;exact i _ c (aT.1 g c f)
theorem ov(u:aC)(h:jR u=μ):u≠[]:=λe=>by rw[e]at h;exact absurd h aA1
theorem telA(s A f Z:aC)(h:s=A++(f++Z))(o:∀c,Z.head? =θ c->c=59)(k:jR f=μ):jV s (γ A)=(0,f)/\bP [59] s (γ A)=γ A+γ f:=by
 have j:=ov f k;have i:bP [59] s (γ A)=γ A+γ f:=by
  refine utlA [59] s A f Z h (λc m=> ?_) (λc m=>by rw[o c m];decide);have l:¬c=59:=by simpa using (Z1 f k c m).1
  unfold fO;simp only[Xr,lL,gP];exact dX.2 (λe=>l e.symm)
 refine⟨?_,i⟩;unfold jV;rw[i];have b:=seesA s A (f++Z) 43 h;rw[T9 _ _ j]at b;unfold jR at k;simp only[lX,jU,bK,aX]at k;obtain⟨⟨d1,d2⟩,d3⟩:=k;cases f with
 |nil=>exact absurd Τ j
 |cons a u=>
  by_cases g:a=43
  ·subst g;have n:eH (43::u) [43]=u:=by unfold eH jF;simp
   rw[n]at d1 d2 d3;have p:s=(A++[43])++(u++Z):=aA6;have d:sub s ((γ A+1:Nat):Int) ((γ A+γ (43::u):Nat):Int)=u:=by have:=yc s (A++[43]) u Z p;rw[<-snoc1,show γ A+1+γ u=γ A+γ (43::u) by rw[cM];omega]at this;exact this
   rw[b,List.head?_cons,aE rfl,aB rfl,d,Om μ u d3];dsimp only;rw[aA d1,aA aA0,aB rfl]
  ·have l:¬(43:ζ)=a:=λe=>g e.symm;have n:eH (a::u) [43]=a::u:=by unfold eH jF;simp[l]
   have q:jF (a::u) [43]=ν:=by show((43:ζ)==a&&([]:aC).isPrefixOf u)=ν;rw[dX.2 l];rfl
   rw[n]at d1 d2 d3;rw[q]at d3;have d:sub s (γ A:Int) ((γ A+γ (a::u):Nat):Int)=a::u:=yc s A (a::u) Z h;rw[b,List.head?_cons,aD (λe=>g (aP e)),aA aA1,d,Om ν _ d3];dsimp only;rw[aA d1,aA aA0,aA aA1]
open Go.Lib renaming cut → eF, join → cK
def Rx(l:δ PP):Nat:=(l.map λz=>γ z.1+γ z.2.1).sum
theorem mR(p:PP)(l:δ PP):Rx (p::l)=γ p.1+γ p.2.1+Rx l:=by unfold Rx;rw[tR,CE]
theorem Kz{m:δ PP}(h:l.Perm m):Rx l=Rx m:=by unfold Rx;exact(h.map _).sum_nat
theorem gk(a b:δ PP):Rx (a++b)=Rx a+Rx b:=by unfold Rx;rw[Rp,List.sum_append]
theorem La(q:PP->η):∀l:δ PP,Rx (l.filter q)<=Rx l
 |[]=>dK _
 |p::l=>by
  have:=La q l;rw[List.filter_cons];split
  ·rw[mR,mR];omega
  ·rw[mR];omega
theorem D3(p:PP):γ (Ue p)<=2*γ p.2.1+3:=by
 have:=bkt p.2.1;unfold Ue;cases p.2.2 with
 |false=>simp
 |true=>
  rw[aM,cM];cases(jG p.2.1||YW p.2.1)with
  |true=>rw[aM];omega
  |false=>rw[aG];omega
theorem EU:∀(r pre:δ PP) (t:aC),Rq pre r=θ t->γ t<=2*Rx r+4*γ r
 |[],_,t,h=>by rw[Rq,bG]at h;subst h;simp
 |p::r,pre,t,h=>by
  rw[Rq]at h;cases a:CL pre p&&Zx p with
  |false=>rw[a]at h;cases h
  |true=>rw[a,aM,bU]at h;obtain⟨u,b,rfl⟩:=h;have:=EU r _ u b;have c:=D3 p;rw[mR];simp only[cM,cE];omega
theorem Mk(l:δ PP):γ (rR l).1<=2*Rx l+64:=by
 unfold rR;split
 ·simp
 ·cases a:Rq [] l with
  |none=>simp
  |some t=>have:=EU l [] t a;simp only;omega
theorem LG(x:aC×δ PP):γ (xG x).1<=γ x.1+2*Rx x.2+64:=by
 have:=Mk (fS x.2);rw[Kz (dw x.2)]at this;unfold xG;split
 ·simp only[cE];omega
 ·simp
theorem WQ(s:aC):γ (yW s).1<=250:=by
 unfold yW;by_cases a:39<γ s
 ·rw[aB a];simp
 ·rw[aA a];have e:∀x:aC,γ x<=39->γ (cK (zA x).1 [58])<=40*5:=λx hx=>by have g:=bjx x;have f:=av [58] 4 (zA x).1 g.2;simp only[eG]at f;omega
  split
  ·have:=e s aA0;simp only;omega
  ·split
   ·simp
   ·rename_i d;simp only[gE,jU,aX,not_or]at d;have c:=av [58] 4 (iA (eF s [58,58]).1).1 (Br (Bp _));have b:=av [58] 4 (iA (eF s [58,58]).2.1).1 (Br (Bp _));simp only[eG,cE,cM,iH]at c b⊢;omega
theorem uK(s:aC):γ (eM s).1<=γ s+252:=by
 have:=WQ (sub s 1 ((γ s:Int)-1));unfold eM;split
 ·split
  ·simp only[cE,eG];omega
  ·simp
 ·split
  ·simp
  ·split
   ·unfold cN;simp
   ·simp
theorem yb(a:δ PP)(b:aC):Rx (kS a++iL b)<=Rx a+γ b+6:=by
 have d:=La (λp=> !(p.1==wz)) a;have c:Rx (iL b)<=γ b+6:=by
  unfold iL;split
  ·exact cH _
  ·rw[mR];have:γ wz=6:=Τ;have e:Rx []=0:=Τ;simp only;omega
 rw[gk];unfold kS;omega
theorem VI(x:VV):γ (Hb x).1<=γ x.1+γ x.2.1+2*(Rx x.2.2.2.2+γ x.2.2.2.1)+400:=by
 by_cases a:(eM x.2.1).2=μ/\jG x.1=μ/\0<=x.2.2.1/\x.2.2.1<=65535/\(rR (fS (kS x.2.2.2.2++iL x.2.2.2.1))).2=0
 ·have b:=Mk (fS (kS x.2.2.2.2++iL x.2.2.2.1));rw[Kz (dw _)]at b;have h:=yb x.2.2.2.2 x.2.2.2.1;have g:=uK x.2.1;have f:=oN x.1;have e:=(bgj x.2.2.1 a.2.2.1 a.2.2.2.1).2.2.1;have d:γ (mB (eM x.2.1).1 x.2.2.1)<=γ (eM x.2.1).1+6:=by
   unfold mB;split
   ·omega
   ·simp only[cE,eG];omega
  have c:γ VER=8:=Τ;rw[Dr x a];simp only[cE,eG];omega
 ·rw[az x a];simp
theorem Kq(v:aC):γ (lZ v).1.2.2.2.2<=16:=by
 have e:∀d h b a,γ (wU d h b a).1.2.2.2.2<=16:=by
  intro d h b a;unfold wU;split
  ·exact Ah a
  ·unfold qX;simp
 have c:γ (qX,(5:ζ)).1.2.2.2.2<=16:=by unfold qX;simp
 unfold lZ;split
 ·exact c
 ·split
  ·exact c
  ·split
   ·exact c
   ·split
    ·exact c
    ·unfold De;split
     ·exact c
     ·split
      ·split
       ·exact e _ _ _ _
       ·unfold qX;simp
      ·exact e _ _ _ _
open Go.Lib renaming join → cK
abbrev AA:=aC×UU×δ PP
def nA:AA:=([],hV,[])
def kU(s:aC):Nat->Nat->δ aC->ζ×Nat×δ aC
 |0,_,_=>(5,0,[])
 |f+1,i,a=>if cV s i 60=μ then(0,i,a)else if bT cL s i=i then(5,0,[])else kU s f (bT bR s ((bT cL s (i:Int)))) (a++[sub s i ((bT cL s i))])
def pH(s:aC)(i:Nat):ζ×aC×Nat:=
 if cV s i 34=μ then
  (if(tE s i).2.2=0 then(if cV s (bT bR s (tE s i).2.1) 60=μ then(0,(tE s i).1,bT bR s (tE s i).2.1)else(5,[],0))else((tE s i).2.2,[],0))
 else if fO s 60=μ then((kU s (γ s+1) i []).1,cK (kU s (γ s+1) i []).2.2 [32],(kU s (γ s+1) i []).2.1)
 else(0,[],i)
def fL(s:aC)(i:Nat):ζ×UU×Nat:=
 if cV s i 60=μ then(if bP [62] s (i+1)=γ s then(5,hV,0)else((Fv (sub s ((i+1:Nat)) (bP [62] s (i+1)))).1,(Fv (sub s ((i+1:Nat)) (bP [62] s (i+1)))).2,bP [62] s (i+1)+1))
 else if bP [63,44] s i<bP [59,32,9] s i then(5,hV,0)else((Fv (sub s i (bP [59,32,9] s i))).1,(Fv (sub s i (bP [59,32,9] s i))).2,bP [59,32,9] s i)
def fY (s : aC) : ζ × AA :=
  if 1024 < γ s then (4,nA) else
  if (pH s (bT bR s 0)).1 = 0 then
    (if (fL s (pH s (bT bR s 0)).2.2).1 = 0 then
      (if (fM (s.drop (fL s (pH s (bT bR s 0)).2.2).2.2)).2.2 = 0 then (0,((pH s (bT bR s 0)).2.1,(fL s (pH s (bT bR s 0)).2.2).2.1,(fM (s.drop (fL s (pH s (bT bR s 0)).2.2).2.2)).1))
       else ((fM (s.drop (fL s (pH s (bT bR s 0)).2.2).2.2)).2.2,nA))
     else ((fL s (pH s (bT bR s 0)).2.2).1,nA))
  else ((pH s (bT bR s 0)).1,nA)
def dsT(d:aC):aC:=if d=[]then []else Zf d++[32]
def zh(a:AA):aC×ζ:=
 if a.1.any dQ=ν/\(rR (fS a.2.2)).2=0 then(dsT a.1++(60::(dc a.2.1++(62::(rR (fS a.2.2)).1))),0)else([],2)
theorem FF(s:aC):∀(f i:Nat) (a:δ aC),i<=γ s->(kU s f i a).2.1<=γ s
 |0,_,_,_=>cH _
 |f+1,i,a,h=>by
  rw[kU];split
  ·exact h
  ·split
   ·exact cH _
   ·exact FF s f _ _ (jD _ _ _)
theorem HV(s:aC)(i:Nat)(a:i<=γ s):(pH s i).2.2<=γ s:=by
 unfold pH;split
 ·split
  ·split
   ·exact jD _ _ _
   ·exact cH _
  ·exact cH _
 ·split
  ·exact FF s _ i [] a
  ·exact a
theorem TY(s:aC)(i:Nat)(h:(fL s i).1=0):Good (fL s i).2.1:=by
 unfold fL at h⊢;split
 ·rename_i b;rw[aB b]at h;split
  ·rename_i a;rw[aB a]at h;exact absurd h aA1
  ·rename_i a;rw[aA a]at h;exact Mp _ h
 ·rename_i b;rw[aA b]at h;split
  ·rename_i a;rw[aB a]at h;exact absurd h aA1
  ·rename_i a;rw[aA a]at h;exact Mp _ h
theorem Qw(s:aC)(h:(fY s).1=0):Good (fY s).2.2.1/\γ (fY s).2.2.2<=16/\∀p∈(fY s).2.2.2,cN p.1=p.1/\γ p.1<=4194304:=by
 unfold fY at h⊢;split
 ·rename_i c;rw[aB c]at h;exact absurd h aA1
 ·rename_i c;rw[aA c]at h;split
  ·rename_i b;rw[aB b]at h;split
   ·rename_i a;rw[aB a]at h;split
    ·have d:∀k,γ (s.drop k)<=4194304:=λk=>by rw[dY];omega
     refine⟨TY s _ a,Ah _,λp f=> ?_⟩;have:=bci _ (d _) p f;exact⟨this.1,qT this.2.1 (d _)⟩
    ·rename_i e;rw[aA e]at h;exact absurd h e
   ·rename_i a;rw[aA a]at h;exact absurd h a
  ·rename_i b;rw[aA b]at h;exact absurd h b
def y6(x:aC):(δ aC⊕ζ)->(δ aC⊕ζ)
 |.inl l=>.inl (x::l)
 |.inr e=>.inr e
def fA:Nat->aC->aC->δ aC⊕ζ
 |0,a,[]=>.inl [cI a]
 |_+1,_,[]=>.inr 6
 |0,a,c::l=>if c=34 then fA 1 (a++[c]) l else if c=60 then fA 3 (a++[c]) l else if c=62 then .inr 5 else if c=44 then y6 (cI a) (fA 0 [] l)else fA 0 (a++[c]) l
 |1,a,c::l=>if c=34 then fA 0 (a++[c]) l else if c=92 then fA 2 (a++[c]) l else if dQ c=μ then .inr 5 else fA 1 (a++[c]) l
 |2,a,c::l=>if au c=μ then fA 1 (a++[c]) l else .inr 5
 |_+3,a,c::l=>if c=62 then fA 0 (a++[c]) l else fA 3 (a++[c]) l
theorem s0n(a:aC):fA 0 a []=.inl [cI a]:=by rw[fA]
theorem s0c(a:aC)(c:ζ)(l:aC):fA 0 a (c::l)=if c=34 then fA 1 (a++[c]) l else if c=60 then fA 3 (a++[c]) l else if c=62 then .inr 5 else if c=44 then y6 (cI a) (fA 0 [] l)else fA 0 (a++[c]) l:=by rw[fA]
theorem s1c(a:aC)(c:ζ)(l:aC):fA 1 a (c::l)=if c=34 then fA 0 (a++[c]) l else if c=92 then fA 2 (a++[c]) l else if dQ c=μ then .inr 5 else fA 1 (a++[c]) l:=by rw[fA]
theorem s2c(a:aC)(c:ζ)(l:aC):fA 2 a (c::l)=if au c=μ then fA 1 (a++[c]) l else .inr 5:=by rw[fA]
theorem s3c(m:Nat)(a:aC)(c:ζ)(l:aC):fA (m+3) a (c::l)=if c=62 then fA 0 (a++[c]) l else fA 3 (a++[c]) l:=by rw[fA]
theorem ym(a:aC)(c:ζ)(l:aC):fA 3 a (c::l)=if c=62 then fA 0 (a++[c]) l else fA 3 (a++[c]) l:=s3c 0 a c l
def iW(v:aC):δ aC×ζ:=match fA 0 [] v with|.inr e=>([],e)|.inl l=>if l.any (λx=>decide (x=[]))=μ then([],5)else(l,0)
theorem tT(x:aC):cI (cI x)=cI x:=by unfold cI;rw[Mf,Bx];unfold Jl;rw[List.reverse_reverse,Bx]
theorem Wv{r:δ aC⊕ζ}(h:y6 x r=.inl a):∃m,r=.inl m/\a=x::m:=by
 cases r with
 |inl m=>exact⟨m,Τ,(cm h).symm⟩
 |inr e=>cases h
theorem ak:∀(s:aC) (m:Nat) (a:aC) (l:δ aC),fA m a s=.inl l->l≠[]/\∀x∈l,∃y,x=cI y
 |[],0,a,l,h=>by rw[fA]at h;have:=cm h;subst this;exact⟨aA2,λx hx=>⟨a,aH.1 hx⟩⟩
 |[],m+1,a,l,h=>by cases h
 |c::s,0,a,l,h=>by
  rw[fA]at h;split at h
  ·exact ak s _ _ l h
  ·split at h
   ·exact ak s _ _ l h
   ·split at h
    ·cases h
    ·split at h
     ·obtain⟨m,d,rfl⟩:=Wv h;obtain⟨_,b⟩:=ak s _ _ m d;refine⟨aA2,λx hx=> ?_⟩;rcases aQ.1 hx with h|h
      ·exact⟨a,h⟩
      ·exact b x h
     ·exact ak s _ _ l h
 |c::s,1,a,l,h=>by
  rw[fA]at h;split at h
  ·exact ak s _ _ l h
  ·split at h
   ·exact ak s _ _ l h
   ·split at h
    ·cases h
    ·exact ak s _ _ l h
 |c::s,2,a,l,h=>by
  rw[fA]at h;split at h
  ·exact ak s _ _ l h
  ·cases h
 |c::s,m+3,a,l,h=>by
  rw[fA]at h;split at h
  ·exact ak s _ _ l h
  ·exact ak s _ _ l h
theorem F5:∀(l:aC) (m:Nat) (b:aC) (e:ζ),fA m b l=.inr e->e≠0:=by
 intro l;induction l with
 |nil=>
  intro m b e h;cases m with
  |zero=>cases h
  |succ m=>rw[<-cj h];decide
 |cons c l a=>
  intro m b e h
  match m with
  |0=>
   rw[fA]at h;split at h
   ·exact a _ _ _ h
   ·split at h
    ·exact a _ _ _ h
    ·split at h
     ·rw[<-cj h];decide
     ·split at h
      ·cases d:fA 0 [] l with
       |inl q=>rw[d]at h;cases h
       |inr e'=>rw[d]at h;rw[<-cj h];exact a _ _ _ d
      ·exact a _ _ _ h
  |1=>
   rw[fA]at h;split at h
   ·exact a _ _ _ h
   ·split at h
    ·exact a _ _ _ h
    ·split at h
     ·rw[<-cj h];decide
     ·exact a _ _ _ h
  |2=>
   rw[fA]at h;split at h
   ·exact a _ _ _ h
   ·rw[<-cj h];decide
  |m+3=>
   rw[fA]at h;split at h
   ·exact a _ _ _ h
   ·exact a _ _ _ h
def Cl(e:aC):Prop:=(∀b a,fA 0 b (e++a)=fA 0 (b++e) a)/\e.any dQ=ν
theorem Cl.nil:Cl []:=⟨λb a=>by rw[gH];rfl,Τ⟩
theorem Cl.app{b:aC}(e:Cl x)(d:Cl b):Cl (x++b):=⟨λf c=>by rw[jI,e.1,d.1,jI],by rw[List.any_append,e.2,d.2];rfl⟩
def W0(c:ζ):η:= !(c==34)&& !(c==60)&& !(c==62)&& !(c==44)&& !dQ c
theorem Cl.one(c:ζ)(h:W0 c=μ):Cl [c]:=by unfold W0 at h;simp only[lX,jU,dX]at h;obtain⟨⟨⟨⟨g,f⟩,e⟩,d⟩,b⟩:=h;refine⟨λi a=> ?_,by rw[Xr,b];rfl⟩;rw[jM,s0c,aA g,aA f,aA e,aA d]
theorem Cl.all:∀(a:aC),(∀c∈a,W0 c=μ)->Cl a
 |[],_=>Cl.nil
 |c::a,h=>by have:=(Cl.one c (h c gQ)).app (Cl.all a (λd b=>h d (fB _ b)));exact this
theorem jn2(a b:aC)(l:δ aC)(s:aC):cK (a::b::l) s=a++(s++cK (b::l) s):=by simp[cK,List.intercalate,List.intersperse]
theorem jn1(a s:aC):cK [a] s=a:=by simp[cK,List.intercalate]
theorem Bj(sep:aC):∀(c:δ aC) (x:aC),cK (c++[x]) sep=if c=[]then x else cK c sep++(sep++x)
 |[],x=>by rw[Ic,jn1,aB rfl]
 |[a],x=>by rw[aA aA2,jn1];show cK [a,x] sep=_;rw[jn2,jn1]
 |a::b::c,x=>by rw[aA aA2,jn2];show cK (a::b::(c++[x])) sep=_;rw[jn2];have:=Bj sep (b::c) x;rw[aA aA2]at this;have e:b::(c++[x])=(b::c)++[x]:=Τ;rw[e,this];simp
open Go.Lib renaming itoa → gK, join → cK
theorem R7(n:Int)(e:0<=n)(h:n<=2147483647):eV (gK n)=(n,0)/\1<=γ (gK n)/\γ (gK n)<=10/\(gK n).all fZ=μ:=by obtain⟨k,rfl⟩:∃k:Nat,n=k:=⟨n.toNat,aA0⟩;obtain⟨a,d,c,b⟩:=SB 9 k aA0;rw[Oq];refine⟨?_,c,b,a⟩;unfold eV;rw[a,d,aA (by rintro(h|h|h);omega;omega;cases h),aA aA0]
def yB(s:aC):Int×aC×ζ:=((eV (s.take (cD (λc=> !bR c) s))).1,s.drop (bT bR s (cD (λc=> !bR c) s)),(eV (s.take (cD (λc=> !bR c) s))).2)
theorem Jr(s:aC):0<=(eV s).1/\(eV s).1<=2147483647:=by
 unfold eV;split
 ·exact⟨aA1,aA1⟩
 ·split
  ·exact⟨aA1,aA1⟩
  ·dsimp only;omega
theorem QO(s:aC):0<=(yB s).1/\(yB s).1<=2147483647:=by unfold yB;exact Jr _
def Kb(v:aC):Int×aC×ζ:=
 if(yB (cI v)).2.2=0 then(if jG (yB (cI v)).2.1=μ then((yB (cI v)).1,(yB (cI v)).2.1,0)else(0,[],5))else(0,[],(yB (cI v)).2.2)
def Xd(v:aC):Int×Int×aC×ζ:=
 if(yB (cI v)).2.2=0 then(if(Kb (yB (cI v)).2.1).2.2=0 then((yB (cI v)).1,(Kb (yB (cI v)).2.1).1,(Kb (yB (cI v)).2.1).2.1,0)else(0,0,[],(Kb (yB (cI v)).2.1).2.2))else(0,0,[],(yB (cI v)).2.2)
def Jj(k:Int)(ct:η)(v:aC):aC×ζ:=
 if k=1 then(if ct=μ/\cI v=[42]then([42],0)else if(fY (cI v)).1=0 then zh (fY (cI v)).2 else([],(fY (cI v)).1))
 else if k=2 then(if(lZ v).2=0 then Hb (lZ v).1 else([],(lZ v).2))
 else if k=3 then(if(Kb v).2.2=0 then(gK (Kb v).1++32::(Kb v).2.1,0)else([],(Kb v).2.2))
 else if k=4 then(if(Xd v).2.2.2=0 then(gK (Xd v).1++32::(gK (Xd v).2.1++32::(Xd v).2.2.1),0)else([],(Xd v).2.2.2))
 else if k=5 then(if(eV (cI v)).2=0 then(gK (eV (cI v)).1,0)else([],(eV (cI v)).2))
 else if k=6\/k=7 then(if(BS v).2=0 then xG (BS v).1 else([],(BS v).2))
 else if(cI v).any dQ=μ then([],5)else(cI v,0)
theorem E0(k:Int)(ct:η)(v w:aC)(h:cI v=cI w):Jj k ct v=Jj k ct w:=by
 have d:lZ v=lZ w:=by unfold lZ;rw[h]
 have c:Kb v=Kb w:=by unfold Kb;rw[h]
 have b:Xd v=Xd w:=by unfold Xd;rw[h]
 have a:BS v=BS w:=by unfold BS;rw[h]
 unfold Jj;rw[h,d,c,b,a]
def yU(k:Int)(ct:η):δ aC->δ aC×ζ
 |[]=>([],0)
 |x::l=>if(Jj k ct x).2=0 then(if(yU k ct l).2=0 then((Jj k ct x).1::(yU k ct l).1,0)else([],(yU k ct l).2))else([],(Jj k ct x).2)
theorem OP(k:Int)(ct:η):∀l:δ aC,(yU k ct l).2=0->γ (yU k ct l).1=γ l
 |[],_=>rfl
 |x::l,h=>by
  rw[yU]at h⊢;by_cases b:(Jj k ct x).2=0
  ·rw[aB b]at h⊢;by_cases a:(yU k ct l).2=0
   ·rw[aB a];simp only[cM,OP k ct l a]
   ·rw[aA a]at h;exact absurd h a
  ·rw[aA b]at h;exact absurd h b
def D9(many:η)(k:Int)(ct:η)(v:aC):aC×ζ:=
 if many=μ then(if(iW v).2=0 then(if(yU k ct (iW v).1).2=0 then(cK (yU k ct (iW v).1).1 [44,32],0)else([],(yU k ct (iW v).1).2))else([],(iW v).2))else Jj k ct v
open Int renaming toNat → bL
theorem CY(x:aC):Lib.trimRightS x [32,9]=Jl bR x:=by unfold Lib.trimRightS Jl;rw[Fo]
theorem Um(p:ζ->η):∀(l:aC) n,cD p (l.take n)=min (cD p l) n
 |[],n=>by rw[List.take_nil];simp[cD]
 |c::l,0=>by rw[List.take_zero];simp[cD]
 |c::l,n+1=>by
  rw[sd,cD,cD];split
  ·rw[Um p l n];omega
  ·omega
theorem Uz(s:aC)(f:aL s<=4194304)(b e:Nat)(g:b<=e)(j:e<=aL s):∃k,bbi FU s b e=θ (k,cI (sub s b e)):=by
 have i:bT bR s b=b+cD bR (s.drop b):=by unfold bT;rw[vy b (γ s) aA0]
 have h:sub s b e=(s.drop b).take (e-b):=by unfold sub;rw[gJ,gJ]
 have c:min ((bT bR s (b:Int)):Int) e=((b+cD bR (sub s b e):Nat):Int):=by rw[h,Um];omega
 have a:sub s ((b+cD bR (sub s b e):Nat):Int) e=(sub s b e).dropWhile bR:=by rw[<-axr];unfold sub;rw[tO,Gj];congr 1;omega
 have d:=sub_le s ((b+cD bR (sub s b e):Nat):Int) e;unfold bbi;rw[nT s f,aR,c,aS aA0,aS aA0,a,CY];exact⟨_,Τ⟩
theorem mS(s:aC)(b i m:Nat)(a:b<=i):sub s b ((i+m:Nat))=sub s b i++(s.drop i).take m:=by unfold sub;rw[gJ,gJ,gJ,show i+m-b=(i-b)+m by omega,List.take_add,Gj,show b+(i-b)=i by omega]
theorem L7(n:Nat):∀l k (a b),aL l<=n->
  ((fT l k a).2.2=0->fA 1 b l=fA 0 (b++l.take ((fT l k a).2.1.toNat-k)) (l.drop ((fT l k a).2.1.toNat-k)))/\(¬(fT l k a).2.2=0->fA 1 b l=.inr (fT l k a).2.2):=by
 induction n with
 |zero=>intro l k a b h;obtain rfl:l=[]:=qR aA0;exact⟨λh=>absurd h (show¬6=0 by decide),λ_=>rfl⟩
 |succ n p=>
  intro l k a b h;cases l with
  |nil=>exact⟨λh=>absurd h (show¬6=0 by decide),λ_=>rfl⟩
  |cons c l=>
   rw[cM]at h;rw[mQ,s1c];by_cases g:c=34
   ·rw[aB g,aB g];refine⟨λ_=> ?_,λh=>absurd Τ h⟩;dsimp only;rw[show bL _-k=1 by omega];rfl
   ·rw[aA g,aA g];by_cases f:c=92
    ·rw[aB f,aB f];cases l with
     |nil=>exact⟨λh=>absurd h (show¬6=0 by decide),λ_=>rfl⟩
     |cons d r=>
      have s:Κ (d::r) 0=d:=Τ;rw[aA aA2,s,s2c];cases t:au d with
      |false=>exact⟨λh=>absurd h (show¬5=0 by decide),λ_=>rfl⟩
      |true=>rw[aB rfl,List.drop_one,List.tail_cons];rw[cM]at h;obtain⟨o,m⟩:=p r _ _ _ aA0;have i:=(zJ (γ r) r (k+2) (a++[d]) (dK _)).2;refine⟨λj=> ?_,m⟩;have q:=i j;rw[o j];have e:(fT r (k+2) (a++[d])).2.1.toNat-k=((fT r (k+2) (a++[d])).2.1.toNat-(k+2))+2:=aA0;rw[e];simp
    ·rw[aA f,aA f];cases u:dQ c with
     |true=>exact⟨λh=>absurd h (show¬5=0 by decide),λ_=>rfl⟩
     |false=>obtain⟨o,m⟩:=p l _ _ _ aA0;have i:=(zJ (γ l) l (k+1) (a++[c]) (dK _)).2;rw[aA aA1];refine⟨λj=> ?_,m⟩;have q:=i j;have e:(fT l (k+1) (a++[c])).2.1.toNat-k=((fT l (k+1) (a++[c])).2.1.toNat-(k+1))+1:=aA0;rw[o j,e];simp
theorem ang1:∀(l a:aC),(dM (·==62) l<0->fA 3 a l=.inr 6)/\(¬dM (·==62) l<0->fA 3 a l=fA 0 (a++l.take ((dM (·==62) l).toNat+1)) (l.drop ((dM (·==62) l).toNat+1)))
 |[],a=>⟨λ_=>rfl,λh=>absurd (show(-1)<0 by decide) h⟩
 |c::l,a=>by
  obtain⟨f,d⟩:=ang1 l _;have g:=sL (·==62) l;rw[ym];by_cases h:c=62
  ·have e:dM (·==62) (c::l)=0:=by rw[h];rfl
   rw[e,aB h];exact⟨λh=>absurd h aA1,λ_=>rfl⟩
  ·have i:=dX.2 h;rw[aA h,dM,i,aA aA1];by_cases b:dM (·==62) l= -1
   ·rw[aB b];refine⟨λ_=>f aA0,λh=>absurd (show(-1)<0 by decide) h⟩
   ·rw[aA b];refine⟨λh=>absurd h aA0,λ_=> ?_⟩;rw[d aA0,show bL (dM _ l+1)+1=((dM (·==(62:ζ)) l).toNat+1)+1 by omega];simp
theorem E8(s:aC)(Z:aL s<=4194303)(n:Nat):∀i f c b,aL s-i<=n->n<f->b<=i->i<=aL s->aL c<=i->
  ∃j,aqd FU s 44 f c b i=θ j/\
   (match fA 0 (sub s b i) (s.drop i)with
   |.inl l=>∃(d:eR) (b':Nat),j=.inl (d,b')/\b'<=aL s/\γ d<=aL s/\d.map (·.2)++[cI (sub s b' (γ s))]=c.map (·.2)++l
   |.inr e=>∃q a,j=.inr (q,a,e)):=by
 induction n with
 |zero=>intro i f c b T V C w I;obtain⟨f,rfl⟩:=cB f;obtain rfl:i=aL s:=aA0;rw[azh,anl,aA aA0,Da (dK _),s0n];exact⟨_,Τ,c,b,Τ,aA0,I,Τ⟩
 |succ n B=>
  intro i f c b T V C w I;obtain⟨f,rfl⟩:=cB f;by_cases v:i<aL s
  ·have H:=yZ s i v;have u:sub s (b:Int) ((i+1:Nat):Int)=sub s (b:Int) (i:Int)++[Κ s (i:Int)]:=by rw[mS s b i 1 C,H];rfl
   rw[azh,anl,aB aA0,aS aA0,H,s0c];by_cases m:Κ s (i:Int)=34
   ·rw[aB m,aB m,wV s aA0,aR];have R:tE s (i:Int)=fT (s.drop (i+1)) (i+1) []:=by unfold tE;rw[aA aA0,aA (by rintro(h|h);omega;exact h m),gJ]
    have E:=L7 (γ (s.drop (i+1))) (s.drop (i+1)) (i+1) [] (sub s (b:Int) (i:Int)++[Κ s (i:Int)]) (dK _);have y:=(zJ (γ (s.drop (i+1))) (s.drop (i+1)) (i+1) [] (dK _)).2;have G:γ (s.drop (i+1))=aL s-(i+1):=dY;rw[R];generalize fT (s.drop (i+1)) (i+1) []=U at E y⊢;by_cases z:U.2.2=0
    ·obtain⟨Y,X⟩:=y z;obtain⟨o,F⟩:∃o:Nat,U.2.1=(o:Int):=⟨U.2.1.toNat,aA0⟩;rw[F]at Y X;have K:=E.1 z;rw[F,gJ,<-u,<-mS s b (i+1) (o-(i+1)) aA0,Gj,show i+1+(o-(i+1))=o by omega]at K;rw[aB z,F,<-u,K];exact B o f c b aA0 aA0 aA0 aA0 aA0
    ·rw[aA z,E.2 z];exact⟨_,Τ,_,_,Τ⟩
   ·rw[aA m,aA m];by_cases g:Κ s (i:Int)=60
    ·have hx:fA 3 (sub s (b:Int) (i:Int)) (s.drop i)=fA 3 (sub s (b:Int) (i:Int)++[Κ s (i:Int)]) (s.drop (i+1)):=by rw[H,ym,aA (by rw[g];decide)]
     obtain⟨M,L⟩:=ang1 (s.drop i) (sub s (b:Int) (i:Int));have G:γ (s.drop i)=aL s-i:=dY;have D:=qf (·==(62:ζ)) (s.drop i);rw[aB g,aB g,aS aA0,gJ,<-hx];generalize dM (·==(62:ζ)) (s.drop i)=x at M L D⊢;by_cases p:x<0
     ·rw[aB p,M p];exact⟨_,Τ,_,_,Τ⟩
     ·rw[aA p,L p,<-mS s b i (x.toNat+1) C,Gj,aS (bW _ aA0 aA0),aS (bW _ aA0 aA0),show(i:Int)+(x+1)=((i+(x.toNat+1):Nat):Int)by omega];exact B (i+(x.toNat+1)) f c b aA0 aA0 aA0 aA0 aA0
    ·rw[aA g,aA g];by_cases r:Κ s (i:Int)=62
     ·rw[aB r,aB r];exact⟨_,Τ,_,_,Τ⟩
     ·rw[aA r,aA r];by_cases t:Κ s (i:Int)=44
      ·obtain⟨k,S⟩:=Uz s aA0 b i C w;rw[aB t,aB t,S,aR,aS aC3,aS (bW _ aA0 aA0)];obtain⟨j,W,A⟩:=B (i+1) f (c++[(k,cI (sub s (b:Int) (i:Int)))]) (i+1) aA0 aA0 (dK _) v aB5;refine⟨j,W,?_⟩;rw[bc]at A;cases J:fA 0 [] (s.drop (i+1))with
       |inr e=>rw[J]at A;exact A
       |inl l=>rw[J]at A;obtain⟨d,b',Q,P,O,N⟩:=A;refine⟨d,b',Q,P,O,?_⟩;rw[N,Rp,jI];rfl
      ·rw[aA t,aA t,aS (bW _ aA0 aA0),<-u];exact B (i+1) f c b aA0 aA0 aA0 v aA0
  ·obtain rfl:i=aL s:=by omega
   rw[azh,anl,aA aA0,Da (dK _)];exact⟨_,Τ,c,b,Τ,aA0,I,Τ⟩
theorem UB(s:aC)(m:aL s<=4194303):∃q a,bfm FU s 44=θ (q,a,(match fA 0 [] s with|.inl _=>0|.inr e=>e))/\(∀l,fA 0 [] s=.inl l->q.map (·.2)=l/\γ q<=aL s+1):=by
 obtain⟨j,o,b⟩:=E8 s m (γ s) 0 FU [] 0 aA0 aA4 (dK _) (cH _) (dK _);have c:aqd FU s 44 FU [] 0 0=θ j:=o;rw[bc,NT]at b;unfold bfm;rw[bcq,aR];have e:(bif bR 44 then θ μ else(if(44:ζ)=(34:ζ)then θ μ else(if(44:ζ)=(60:ζ)then θ μ else θ (decide ((44:ζ)=(62:ζ))))))=θ ν:=aA1;rw[e,aR,c,aR];cases d:fA 0 [] s with
 |inr e=>rw[d]at b;obtain⟨q,a,rfl⟩:=b;exact⟨q,a,Τ,λl h=>by cases h⟩
 |inl l=>rw[d]at b;obtain⟨f,b',rfl,i,p,g⟩:=b;obtain⟨k,n⟩:=Uz s aA0 b' (γ s) i (dK _);rw[lB];dsimp only;rw[n,aR,aS aC3];refine⟨_,_,Τ,λl' h=> ?_⟩;have:=cm h;subst this;rw[Rp,eu,g];exact⟨Τ,by rw[cE,eG];omega⟩
theorem T7(c:(eR×Int×ζ))(k:aL c.1<=4194304)(q:eR):∀(p:eR) (b:Nat),c.1=p++q->aL q<b->
  aqg FU c b (p.map (·.2)) (aL p:Int)=θ (if(q.map (·.2)).any (λx=>decide (x=[]))=μ then .inr ([],5)else .inl (c.1.map (·.2))):=by
 induction q with
 |nil=>intro p b h f;obtain⟨b,rfl⟩:=cB b;rw[gH]at h;rw[bhe,aug,aA aC6,h];rfl
 |cons a q g=>
  intro p b h f;obtain⟨b,rfl⟩:=cB b;have i:=bA aL h;simp only[cE,cM]at i f;have e:(0:Int)<=(aL p:Int)/\(aL p:Int)<(aL c.1:Int):=aA0;have j:el c.1 (aL p:Int)=a:=aB2;rw[bhe,aug,aB e.2,aS e,aS e,j,tR,Xr];by_cases d:a.2=[]
  ·rw[aB d,aE d,iU,aB rfl]
  ·rw[aA d,aD d,CI,aS (by simp only[Gk,eG];omega),aS (bW _ aA0 aA0)];have:=g (p++[a]) b aA6 aA0;rw[Rp,eu]at this;rw[show((aL p:Int)+1)=(γ (p++[a]):Int)by simp];exact this
theorem P9(v:aC)(g:aL v<=4194303):bfq FU v=θ (iW v):=by
 obtain⟨q,a,j,i⟩:=UB v g;unfold bfq iW;rw[j,aR];have d:=F5 v 0 [];cases f:fA 0 [] v with
 |inr e=>rw[aA (d e f)]
 |inl l=>
  obtain⟨h,k⟩:=i l f;dsimp only;have:=T7 (q,a,0) aD7 q [] FU Τ aA4;have b:aqg FU _ FU [] 0=_:=this;rw[aB rfl,b,aR,h];by_cases c:l.any (λx=>decide (x=[]))=μ
  ·rw[aB c,aB c,Rt]
  ·rw[aA c,aA c,lB]
theorem TP(s:aC)(k:Nat)(c:k<=γ s):γ (kB s k).1<=γ s+252:=by
 unfold kB;split
 ·rename_i h;have:=zI s k (wL h).2 (wL h).1;omega
 ·split
  ·split
   ·have a:=uK (sub s k (min ((k+cD (λb=> !(b==93)) (s.drop k):Nat)+1:Int) (γ s)));rw[Hw]at a;dsimp only;omega
   ·exact cH _
  ·split
   ·exact cH _
   ·dsimp only;rw[Hw];omega
theorem LO(s:aC)(b:Nat):γ (yX s b).1.2.1<=γ s+252:=by
 unfold yX;split
 ·exact cH _
 ·split
  ·exact cH _
  ·split
   ·exact TP s _ (jD _ _ _)
   ·exact cH _
theorem EX(s:aC):∀f l i,(∀p∈l,γ p.2.1<=γ s+252)->∀p∈(kG s f l i).1,γ p.2.1<=γ s+252
 |0,_,_,_=>by simp[kG]
 |f+1,l,i,h=>by
  rw[kG];split
  ·exact h
  ·split
   ·simp
   ·split
    ·split
     ·refine EX s f _ _ λp a=> ?_;rcases aV.1 a with a|a
      ·exact h p a
      ·rw[aH.1 a];exact LO s _
     ·simp
    ·simp
theorem Ag(s:aC):∀p∈(fM s).1,γ p.2.1<=γ s+252:=EX s _ [] 0 aA2
theorem HL(k:Int)(l:δ PP)(T:aC):γ (lA k l T).2.1<=γ T/\γ (lA k l T).2.2.1<=γ T:=by
 have b:=sX k (T.take (dT T));have a:=sX k (T.drop (dT T+1));rw[iI]at b;rw[dY]at a;have c:γ (cN (kO k (T.take (dT T))))=γ (kO k (T.take (dT T))):=by unfold cN;rw[Gk]
 unfold lA;split
 ·exact⟨cH _,cH _⟩
 ·split
  ·exact⟨cH _,cH _⟩
  ·split
   ·split
    ·exact⟨cH _,cH _⟩
    ·split
     ·exact⟨cH _,cH _⟩
     ·dsimp only;omega
   ·split
    ·exact⟨cH _,cH _⟩
    ·exact⟨by dsimp only;omega,cH _⟩
def hY(n:Nat)(l:δ PP):Prop:=∀p∈l,γ p.1<=n/\γ p.2.1<=n
variable{n:Nat}
theorem hY.snoc(h:hY n l)(p:PP)(d:γ p.1<=n)(c:γ p.2.1<=n):hY n (l++[p]):=λq b=>by
 rcases aV.1 b with a|a
 ·exact h q a
 ·rw[aH.1 a];exact⟨d,c⟩
theorem M9(st s:aC):∀f i l,hY (γ s) l->hY (γ s) (iV st s f i l).2.2
 |0,i,l,h=>h
 |f+1,i,l,h=>by
  rw[iV];split
  ·split
   ·have:=HL 1 l (sub s (i+1:Nat) (bP st s (i+1)));have b:=sub_le s (i+1:Nat) (bP st s (i+1));exact M9 st s f _ _ (h.snoc _ aA0 aA0)
   ·intro p a;cases a
  ·exact h
theorem U1(s:aC):∀f i l,hY (γ s) l->hY (γ s) (yV s f i l).2
 |0,i,l,h=>h
 |f+1,i,l,h=>by
  rw[yV];split
  ·split
   ·have:=HL 2 l (sub s (i+1:Nat) (bP [38] s (i+1)));have b:=sub_le s (i+1:Nat) (bP [38] s (i+1));exact U1 s f _ _ (h.snoc _ aA0 aA0)
   ·intro p a;cases a
  ·exact h
def rD(n:Nat)(u:UU):Prop:=γ u.1<=n/\γ u.2.1<=n/\γ u.2.2.1<=n/\hY n u.2.2.2.2.1/\hY n u.2.2.2.2.2
theorem CN(n:Nat):rD n hV:=⟨cH _,cH _,cH _,(λp a=>by cases a),(λp a=>by cases a)⟩
theorem Ou(h:hY n l):hY n (fS l):=λp a=>h p (vk l p a)
theorem zT(n:Nat)(st s b d h:aC)(c:Int)(i:Nat)(m:γ b<=n)(k:γ d<=n)(j:γ h<=n)(g:γ s<=n):rD n (wI st s b d h c i).2:=by
 have e:∀l,hY (γ s) l->hY n l:=λl f p a=>⟨qT (f p a).1 g,qT (f p a).2 g⟩;unfold wI;split
 ·split
  ·exact⟨m,k,j,Ou (e _ (M9 st s _ i [] (λp a=>by cases a))),Ou (e _ (U1 s _ _ [] (λp a=>by cases a)))⟩
  ·exact CN n
 ·exact CN n
theorem RE(s:aC)(i:Nat):γ (jQ s i).2.1<=γ s+252:=by
 have b:=uK (sub s i (fX s i));have a:=sub_le s i (fX s i);unfold jQ;split
 ·exact cH _
 ·split
  ·split
   ·dsimp only;omega
   ·exact cH _
  ·split
   ·exact cH _
   ·dsimp only;omega
theorem C6(U:aC):γ (mP U).2<=γ U:=by
 have:=sX 0 U;unfold mP;split
 ·exact cH _
 ·split
  ·exact cH _
  ·exact this
theorem QH(s:aC)(i:Nat):γ (gB s i).2.1<=γ s/\γ (gB s i).2.2.1<=γ s+252:=by
 have b:=RE s i;have a:=RE s (bP [64] s i+1);have d:=C6 (sub s i (bP [64] s i));have c:=sub_le s i (bP [64] s i);unfold gB;split
 ·split
  ·exact⟨by dsimp only;omega,a⟩
  ·exact⟨cH _,cH _⟩
 ·exact⟨cH _,b⟩
theorem DA(s:aC)(i:Nat):γ (jV s i).2<=31:=by
 unfold jV;split
 ·exact cH _
 ·split
  ·exact cH _
  ·split
   ·exact cH _
   ·dsimp only;split
    ·rw[cM];omega
    ·omega
theorem Va(s:aC):rD 1300 (Fv s).2:=by
 unfold Fv;split
 ·exact CN _
 ·have c:γ (cN (s.take (bP [58] s 0)))<=γ s:=by unfold cN;rw[Gk,iI];omega
  have b:=QH s (bP [58] s 0+1);have a:=DA s (bP [58] s 0+1);split
  ·split
   ·split
    ·exact zT 1300 _ s _ _ _ _ _ aA0 aA0 aA0 aA0
    ·exact CN _
   ·split
    ·split
     ·exact zT 1300 _ s _ _ _ _ _ aA0 aA0 (cH _) aA0
     ·exact CN _
    ·exact CN _
  ·exact CN _
theorem rD.sml{u:UU}(h:rD n u)(a:n<=4194304):wv u:=
 ⟨qT h.1 a,qT h.2.1 a,qT h.2.2.1 a,λp b=>⟨qT (h.2.2.2.1 p b).1 a,qT (h.2.2.2.1 p b).2 a⟩,λp b=>⟨qT (h.2.2.2.2 p b).1 a,qT (h.2.2.2.2 p b).2 a⟩⟩
theorem QF(u:UU)(b:Good u)(i:wv u):γ (dc u)<=2000000000:=by
 obtain⟨n,m,l,f,e⟩:=i;have p:=uC _ f;have o:=Pd _ e;have j:=b.pl;have k:=b.hl;have g:=Xh 0 u.2.1;have a:0<=u.2.2.2.1/\u.2.2.2.1<=65535:=by
  rcases b.tp with⟨_,_,d,c,_⟩|⟨_,_,h,_⟩
  ·exact⟨d,c⟩
  ·omega
 have hit:=bgj u.2.2.2.1 a.1 a.2;have d:γ (Ub u)<=12582913:=by
  unfold Ub;split
  ·omega
  ·split
   ·exact cH _
   ·rw[cE,eG];omega
 have c:γ (JF u.2.2.2.1)<=6:=by
  unfold JF;split
  ·exact cH _
  ·rw[cM];omega
 unfold dc;simp;omega
theorem Na(s:aC):∀f i a,i<=γ s->γ a<=i->(∀x∈a,γ x<=γ s)->γ (kU s f i a).2.2<=γ s/\∀x∈(kU s f i a).2.2,γ x<=γ s
 |0,_,_,_,_,_=>⟨cH _,λx hx=>by cases hx⟩
 |f+1,i,a,c,d,hx=>by
  have k:=Ci cL s i c;have g:=jD cL s i;have j:=Ci bR s _ g;rw[kU];split
  ·exact⟨qT d c,hx⟩
  ·split
   ·exact⟨cH _,λx hx=>by cases hx⟩
   ·rename_i e;refine Na s f _ _ (jD _ _ _) aB5 (λx b=> ?_);rcases aV.1 b with h|h
    ·exact hx x h
    ·rw[aH.1 h];exact sub_le _ _ _
theorem Z0(s:aC)(c:γ s<=1024)(i:Nat)(e:i<=γ s):γ (pH s i).2.1<=1100000:=by
 unfold pH;split
 ·rename_i h;have:=zI s i (wL h).2 (wL h).1;split
  ·split
   ·dsimp only;omega
   ·exact cH _
  ·exact cH _
 ·split
  ·obtain⟨a,b⟩:=Na s _ i [] e (cH _) (λx hx=>by cases hx);have d:=av [32] (γ s) _ b;refine qT d ?_;refine qT (Nat.mul_le_mul (qT a c) (Nat.succ_le_succ c)) aA1
  ·exact cH _
theorem TC(s:aC):rD 1300 (fY s).2.2.1/\γ (fY s).2.1<=1100000/\hY 1300 (fY s).2.2.2:=by
 have a:rD 1300 nA.2.1/\γ nA.1<=1100000/\hY 1300 nA.2.2:=⟨CN _,cH _,λp b=>by cases b⟩;unfold fY;split
 ·exact a
 ·rename_i c;split
  ·split
   ·split
    ·refine⟨?_,Z0 s aA0 _ (jD _ _ _),?_⟩
     ·show rD 1300 (fL s (pH s _).2.2).2.1;unfold fL;split
      ·split
       ·exact CN _
       ·exact Va _
      ·split
       ·exact CN _
       ·exact Va _
     ·intro p b;have d:γ (s.drop (fL s (pH s (bT bR s 0)).2.2).2.2)<=1024:=by rw[dY];omega
      have f:=bci _ aA0 p b;have e:=Ag _ p b;exact⟨aA0,aA0⟩
    ·exact a
   ·exact a
  ·exact a
theorem fy(n:Nat):∀l k a,γ l<=n->0<=(fT l k a).2.1/\(fT l k a).2.1<=((k+γ l:Nat)):=by
 induction n with
 |zero=>intro l k a h;have:l=[]:=qR aA0;subst this;unfold fT;exact⟨by dsimp only;omega,by dsimp only;omega⟩
 |succ n b=>
  intro l k a h;cases l with
  |nil=>unfold fT;exact⟨by dsimp only;omega,by dsimp only;omega⟩
  |cons c l=>
   rw[cM]at h⊢;rw[mQ];split
   ·exact⟨by dsimp only;omega,by dsimp only;omega⟩
   ·split
    ·split
     ·exact⟨by dsimp only;omega,by dsimp only;omega⟩
     ·split
      ·have e:γ (l.drop 1)=γ l-1:=dY;have:=b (l.drop 1) (k+2) (a++[Κ l 0]) aA0;have d:l≠[]:=by assumption
       have:=bN.2 d;omega
      ·exact⟨by dsimp only;omega,by dsimp only;omega⟩
    ·split
     ·exact⟨by dsimp only;omega,by dsimp only;omega⟩
     ·have:=b l (k+1) (a++[c]) aA0;omega
theorem C8(s:aC)(k:Nat)(a:k<=γ s):0<=(tE s k).2.1/\(tE s k).2.1<=γ s:=by
 unfold tE;split
 ·exact⟨by dsimp only;omega,by dsimp only;omega⟩
 ·split
  ·exact⟨by dsimp only;omega,by dsimp only;omega⟩
  ·rename_i h;have b:γ (s.drop (bL k+1))=γ s-(k+1):=by rw[gJ,dY]
   have:=fy _ (s.drop (bL k+1)) (bL k+1) [] (dK _);omega
theorem fv(s:aC)(k:Nat)(c:k<=γ s):0<=(kB s k).2.1/\(kB s k).2.1<=γ s+1:=by
 have d:=jD cL s k;have a:=Kf (λb=> !(b==93)) (s.drop k);rw[dY]at a;unfold kB;split
 ·have:=C8 s k c;omega
 ·split
  ·split
   ·exact⟨by dsimp only;omega,by dsimp only;omega⟩
   ·exact⟨by dsimp only;omega,by dsimp only;omega⟩
  ·split
   ·exact⟨by dsimp only;omega,by dsimp only;omega⟩
   ·exact⟨by dsimp only;omega,by dsimp only;omega⟩
theorem Q0(s:aC)(b:Nat)(a:b<=γ s):0<=(yX s b).2.1/\(yX s b).2.1<=γ s+1:=by
 unfold yX;split
 ·exact⟨by dsimp only;omega,by dsimp only;omega⟩
 ·split
  ·exact⟨by dsimp only;omega,by dsimp only;omega⟩
  ·split
   ·exact⟨by dsimp only;omega,by dsimp only;omega⟩
   ·exact fv s _ (jD _ _ _)
theorem QL(s:aC):∀f l i,0<=(kG s f l i).2.1/\(kG s f l i).2.1<=γ s+1
 |0,_,_=>⟨by unfold kG;decide,by unfold kG;dsimp only;omega⟩
 |f+1,l,i=>by
  have a:=jD bR s (bT bR s i+1:Nat);rw[kG];split
  ·exact⟨by dsimp only;omega,by dsimp only;omega⟩
  ·split
   ·exact⟨by dsimp only;omega,by dsimp only;omega⟩
   ·split
    ·split
     ·exact QL s f _ _
     ·exact⟨by dsimp only;omega,by dsimp only;omega⟩
    ·exact Q0 s _ a
theorem QK(s:aC)(a:γ s<=4194304):0<=(fM s).2.1/\(fM s).2.1<=γ s+1:=QL s _ _ _
theorem ks(s:aC)(y:γ s<=1024)(x:AA)(n:Nat):∀i d f b,γ s-i<=n->n<d->n<f->i<=γ s->γ b<=i->
  ∃j,aft FU x d b s i=θ j/\
   ((kU s f i b).1=0->j=.inl ((kU s f i b).2.2,s,((kU s f i b).2.1)))/\(¬(kU s f i b).1=0->∃a c w,j=.inr (a,(kU s f i b).1,c,w)):=by
 induction n with
 |zero=>
  intro i d f b u v o k t;obtain⟨d,rfl⟩:=cB d;obtain⟨f,rfl⟩:∃m,f=m+1:=⟨f-1,aA0⟩;obtain rfl:i=γ s:=aA0;have l:cV s (γ s) 60=ν:=by unfold cV;rw[aD aA0];rfl
  have e:bT cL s (γ s:Int)=γ s:=Uo _ _;rw[aom,afo,JN,l,tU s aA0 _ (dK _),e,bc];have g:kU s (f+1) (γ s) b=(5,0,[]):=by rw[kU,l,aA aA1,aB e]
  rw[g];exact⟨_,Τ,λh=>absurd h (show¬(5:ζ)=0 by decide),λ_=>⟨_,_,_,Τ⟩⟩
 |succ n r=>
  intro i d f b u v o k t;obtain⟨d,rfl⟩:=cB d;obtain⟨f,rfl⟩:∃m,f=m+1:=⟨f-1,aA0⟩;have q:=Ci cL s i k;have p:=jD cL s (i:Int);have z:=Ci bR s (bT cL s (i:Int)) p;rw[aom,afo,JN,aR];cases l:cV s i 60 with
  |true=>
   have g:kU s (f+1) i b=(0,i,b):=by rw[kU,l,aB rfl]
   rw[g];exact⟨_,Τ,λ_=>rfl,λh=>absurd Τ h⟩
  |false=>
   rw[tU s aA0 i k,aR];by_cases e:bT cL s (i:Int)=i
   ·have g:kU s (f+1) i b=(5,0,[]):=by rw[kU,l,aA aA1,aB e]
    rw[aB ((bce s i _ p q).2 e),g];exact⟨_,Τ,λh=>absurd h (show¬(5:ζ)=0 by decide),λ_=>⟨_,_,_,Τ⟩⟩
   ·have g:kU s (f+1) i b=kU s f (bT bR s ((bT cL s (i:Int):Nat):Int)) (b++[sub s (i:Int) ((bT cL s (i:Int):Nat):Int)]):=by rw[kU,l,aA aA1,aA e]
    rw[aA (λh=>e ((bce s i _ p q).1 h)),aS aC3,vp s aA0,g];exact r _ d f _ aA0 aA0 aA0 (jD _ _ _) aB5
theorem VJ(s:aC)(f:γ s<=1024)(i:Nat)(g:i<=γ s):∃a c w,aee FU (s,i) ([],hV,[])=θ (a,(kU s (γ s+1) i []).1,c,w)/\
  ((kU s (γ s+1) i []).1=0->c=(s,((kU s (γ s+1) i []).2.1:Int))/\w=(cK (kU s (γ s+1) i []).2.2 [32],hV,[])):=by
 obtain⟨j,e,n,m⟩:=ks s f _ (γ s) i FU (γ s+1) [] aA0 aA4 aA0 g (cH _);unfold aee;rw[e,aR];by_cases d:(kU s (γ s+1) i []).1=0
 ·rw[n d,lB];obtain⟨a,b⟩:=Na s _ i [] g (cH _) (λx hx=>by cases hx);have l:=av [32] (γ s) _ b;rw[eG]at l;have k:γ (kU s (γ s+1) i []).2.2*(γ s+1)<=1024*1025:=Nat.mul_le_mul (qT a f) (Nat.succ_le_succ f);dsimp only;rw[aS (by constructor<;>omega),d];exact⟨_,_,_,Τ,λ_=>⟨Τ,Τ⟩⟩
 ·obtain⟨a,c,w,o⟩:=m d;rw[o];exact⟨_,_,_,Τ,λh=>absurd h d⟩
theorem xz(s:aC)(y:γ s<=1024)(i:Nat)(o:i<=γ s)(d:aC):∃a c w,ahr FU (s,i) (d,hV,[])=θ (a,(fL s i).1,c,w)/\((fL s i).1=0->c=(s,((fL s i).2.2:Int))/\w=(d,(fL s i).2.1,[])/\(fL s i).2.2<=γ s):=by
 have n:∀(b e k:Nat),b<=e->e<=γ s->k<=γ s->k<=1025->∃a c w,(gd (0<=(b:Int)/\(b:Int)<=(e:Int)/\(e:Int)<=(γ s:Int))<|((avh FU (sub s (b:Int) (e:Int))).bind λ(f:UU×Int×ζ)=>(if f.2.2=(0:ζ)then θ ((0:Int),(0:ζ),(s,(k:Int)),(d,f.1,([]:δ PP)))else(gd (bJ (b+f.2.1))<|some (b+f.2.1,f.2.2,(s,i),(d,hV,[]))))))=θ (a,(Fv (sub s b e)).1,c,w)/\((Fv (sub s b e)).1=0->c=(s,(k:Int))/\w=(d,(Fv (sub s b e)).2,[])/\k<=γ s):=by
  intro b e k z l t r;obtain⟨a,v,u,x⟩:=N6 _;rw[aS aA0,x,aR];dsimp only;by_cases p:(Fv (sub s b e)).1=0
  ·rw[p];exact⟨_,_,_,Τ,λ_=>⟨Τ,Τ,t⟩⟩
  ·rw[aA p,aS (bW _ aA0 aA0)];exact⟨_,_,_,Τ,λh=>absurd h p⟩
 unfold ahr fL;rw[JN,aR];dsimp only;cases q:cV s i 60 with
 |true=>
  have m:=(wL q).1;have j:=Ke [62] s (i+1);have g:=Fz [62] s (i+1) m;rw[aS (bW _ aA0 aA0),mL,qg s aA0 (i+1) m _ aA1 aA1,aR];by_cases l:bP [62] s (i+1)=γ s
  ·rw[aB aA0,aB l];exact⟨_,_,_,Τ,λh=>absurd h (show¬(5:ζ)=0 by decide)⟩
  ·rw[aA aA0,aA l,aS (bW _ aA0 aA0)];exact n (i+1) (bP [62] s (i+1)) (bP [62] s (i+1)+1) j g aA0 aA0
 |false=>
  have j:=Ke [59,32,9] s i;have g:=Fz [59,32,9] s i o;rw[qg s aA0 i o _ aA1 aA1,aR,qg s aA0 i o _ aA1 aA1,aR];by_cases l:bP [63,44] s i<bP [59,32,9] s i
  ·rw[aB aA0,aB l];exact⟨_,_,_,Τ,λh=>absurd h (show¬5=0 by decide)⟩
  ·rw[aA aA0,aA l];exact n i _ _ j g g aA0
theorem MS(s:aC):Lib.contains s [60]=fO s 60:=pD s 60
theorem Zs(s:aC):∃a,amd FU s=θ ((fY s).2,a,(fY s).1):=by
 unfold amd fY;by_cases r:1024<γ s
 ·rw[aB aA0,aB r];exact⟨_,Τ⟩
 ·rw[aA aA0,aA r,vp s aA0,aR];have m:=jD bR s 0;generalize bT bR s 0=b at m⊢;have j:∃a c w,((((Iu FU (s,(b:Int)) (34:ζ)).bind λ(l:η)=>(bif l then((ahs FU (s,(b:Int)) (([]:aC),(([]:aC),([]:aC),([]:aC),(0:Int),([]:δ PP),([]:δ PP)),([]:δ PP))).bind λ(f:(Int×ζ×(aC×Int)×AA))=>θ (f.1,f.2.1,f.2.2.1.1,f.2.2.1.2,f.2.2.2.1,f.2.2.2.2.1.1,f.2.2.2.2.1.2.1,f.2.2.2.2.1.2.2.1,f.2.2.2.2.1.2.2.2.1,f.2.2.2.2.1.2.2.2.2.1,f.2.2.2.2.1.2.2.2.2.2,f.2.2.2.2.2))else(gd (γ s<=1000000000)<|(bif (Lib.contains s ([60]:aC))then((aee FU (s,(b:Int)) (([]:aC),(([]:aC),([]:aC),([]:aC),(0:Int),([]:δ PP),([]:δ PP)),([]:δ PP))).bind λ(d:(Int×ζ×(aC×Int)×AA))=>θ (d.1,d.2.1,d.2.2.1.1,d.2.2.1.2,d.2.2.2.1,d.2.2.2.2.1.1,d.2.2.2.2.1.2.1,d.2.2.2.2.1.2.2.1,d.2.2.2.2.1.2.2.2.1,d.2.2.2.2.1.2.2.2.2.1,d.2.2.2.2.1.2.2.2.2.2,d.2.2.2.2.2))else θ ((0:Int),(0:ζ),s,(b:Int),([]:aC),([]:aC),([]:aC),([]:aC),(0:Int),([]:δ PP),([]:δ PP),([]:δ PP))))))):ε (Int×ζ×aC×Int×aC×aC×aC×aC×Int×(δ PP)×(δ PP)×(δ PP)))
    =θ (a,(pH s b).1,c,w)/\((pH s b).1=0->c=s/\w=(((pH s b).2.2:Int),(pH s b).2.1,[],[],[],0,[],[],[])):=by
   have i:=HV s b m;rw[JN,aR];unfold pH at i⊢;cases v:cV s b 34 with
   |true=>
    rw[v]at i;rw[aM];unfold ahs;dsimp only;rw[wV s aA0,aR];by_cases g:(tE s (b:Int)).2.2=0
    ·rw[aB g]at i;rw[aB g,aB g,vp s aA0,aR,JN,aR];cases p:cV s (bT bR s (tE s (b:Int)).2.1) 60 with
     |true=>rw[eY];exact⟨_,_,_,Τ,λ_=>⟨Τ,Τ⟩⟩
     |false=>rw[oF];exact⟨_,_,_,Τ,λh=>absurd h (show¬(5:ζ)=0 by decide)⟩
    ·rw[aA g,aA g];exact⟨_,_,_,Τ,λh=>absurd h g⟩
   |false=>
    rw[aS aA0,MS];cases p:fO s 60 with
    |true=>obtain⟨a,c,w,e,h⟩:=VJ s aA0 b m;rw[aM];have e':aee FU (s,(b:Int)) (([]:aC),(([]:aC),([]:aC),([]:aC),(0:Int),([]:δ PP),([]:δ PP)),([]:δ PP))=θ (a,(kU s (γ s+1) b []).1,c,w):=e;rw[e'];refine⟨_,_,_,Τ,λg=> ?_⟩;obtain⟨rfl,rfl⟩:=h g;exact⟨Τ,Τ⟩
    |false=>exact⟨_,_,_,Τ,λ_=>⟨Τ,Τ⟩⟩
  obtain⟨a,c,w,e,h⟩:=j;have i:=HV s b m;rw[e,aR];generalize pH s b=D at h i⊢;by_cases g:D.1=0
  ·obtain⟨rfl,rfl⟩:=h g;rw[aB g,aB g];obtain⟨A,z,u,y,t⟩:=xz c aA0 D.2.2 i D.2.1;have q:ahr FU (c,(D.2.2:Int)) (D.2.1,(([]:aC),([]:aC),([]:aC),(0:Int),([]:δ PP),([]:δ PP)),([]:δ PP))=θ (A,(fL c D.2.2).1,z,u):=y;rw[q,aR,aR];dsimp only;generalize fL c D.2.2=G at t⊢;by_cases k:G.1=0
   ·obtain⟨rfl,rfl,B⟩:=t k;rw[aB k,aB k];obtain⟨x,o⟩:=QK (c.drop G.2.2) aB1;rw[aS aA0,gJ,Dt _ aB1,aR,aS (bW _ aA0 (by rw[dY]at o;omega)),aR];by_cases n:(fM (c.drop G.2.2)).2.2=0
    ·rw[aB n,aB n];exact⟨_,Τ⟩
    ·rw[aA n,aA n];exact⟨_,Τ⟩
   ·rw[aA k,aA k,aR];rw[aA k];exact⟨_,Τ⟩
  ·rw[aA g,aA g,aR];rw[aA g,aR];rw[aA g];exact⟨_,Τ⟩
theorem Zj(a:AA)(g:Good a.2.1)(f:wv a.2.1)(o:γ a.1<=4194304)(n:γ a.2.2<20)(q:∀p∈a.2.2,γ p.1<=4194304/\γ p.2.1<=4194304):amc FU a=θ (zh a):=by
 have c:∀p∈fS a.2.2,γ p.1<=4194304/\γ p.2.1<=4194304:=λp m=>q p (vk _ p m);have j:=QF a.2.1 g f;have l:=uB (fS a.2.2) c;have k:=bkt a.1;unfold amc zh;rw[Mi _ o,aR];cases i:a.1.any dQ with
 |true=>
  have e:xF a.1=([],5):=by unfold xF;rw[i,aB rfl]
  rw[e,aA (show¬(5:ζ)=0 by decide),aA (λh=>absurd h.1 aA1)]
 |false=>
  have e:xF a.1=(Zf a.1,0):=by unfold xF;rw[i,aA aA1]
  rw[e,aB rfl,M3 _ g f,aR,aB rfl,pG _ n,aR,biv _ c,aR];dsimp only;by_cases d:(rR (fS a.2.2)).2=0
  ·rw[aB d,aB (show ν=ν/\(rR _).2=0 from⟨rfl,d⟩)];unfold dsT;by_cases b:a.1=[]
   ·rw[aB b,aB b,aS aC3,aS aA3,aS aA3];simp
   ·have r:[32,60].length=2:=Τ;rw[aA b,aA b,aS aA0,aS aD3,aS aA3,aS aA3];simp
  ·rw[aA d,aA (λh=>d h.2)]
theorem U4(v:aC)(b:γ v<=4194304):ayo FU v=θ ((fY (cI v)).2,(fY (cI v)).1):=by obtain⟨a,e⟩:=Zs _;unfold ayo;rw[lO v b,aR,e,aR]
open Go.Lib renaming indexAny → Cz
theorem Al(s:aC)(f:γ s<=4194304):aqe FU s=θ (yB s):=by
 have a:Cz s [32,9]=dM bR s:=by rw[azl,Fo]
 unfold aqe yB;rw[aS ⟨aA0,aA1,aA1⟩,a];have e:(if dM bR s<(0:Int)then θ (γ s:Int)else θ (dM bR s))=θ ((cD (λc=> !bR c) s:Nat):Int):=by
  rcases qf bR s with⟨i,b⟩|⟨i,b,h⟩
  ·rw[aB aA0,b]
  ·rw[aA aA0,h]
 have d:=Kf (λc=> !bR c) s;have g:=jD bR s ((cD (λc=> !bR c) s:Nat):Int);rw[e,aR,aS aA0,gJ,uE,aR,nT s f,aR,aS aA0,gJ]
theorem bjm(s:aC):γ (yB s).2.1<=γ s:=by unfold yB;rw[dY];omega
theorem IA(v:aC)(a:γ v<=4194304):bbm FU v=θ (Kb v):=by
 have b:=Tp v;have c:=bjm (cI v);unfold bbm Kb;rw[lO v a,aR,Al _ aA0,aR];by_cases h:(yB (cI v)).2.2=0
 ·rw[aB h,aB h,vj _ aA0,aR];cases d:jG (yB (cI v)).2.1 with
  |true=>rw[eY,aG,aB rfl]
  |false=>rw[oF,aM,aA aA1]
 ·rw[aA h,aA h]
theorem K8(v:aC)(b:γ v<=4194304):bfp FU v=θ (Xd v):=by
 have c:=Tp v;have d:=bjm (cI v);unfold bfp Xd;rw[lO v b,aR,Al _ aA0,aR];by_cases h:(yB (cI v)).2.2=0
 ·rw[aB h,aB h,IA _ aA0,aR];by_cases a:(Kb (yB (cI v)).2.1).2.2=0
  ·rw[aB a,aB a]
  ·rw[aA a,aA a]
 ·rw[aA h,aA h]
theorem T6(v:aC)(a:γ v<=4194304):bbl FU v=θ (eV (cI v)):=by unfold bbl;rw[lO v a,aR,uE,aR]
end Go.Wk
